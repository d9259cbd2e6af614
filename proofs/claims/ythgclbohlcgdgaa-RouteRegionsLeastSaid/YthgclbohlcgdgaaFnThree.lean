/- What the functions that the law reaches answer, each for every input. -/
import Derived.Test.YthgclbohlcgdgaaFnTwo
set_option linter.unusedVariables false
set_option linter.unusedSimpArgs false
set_option linter.unusedVariables false
set_option linter.unusedSimpArgs false
namespace Go.Proofs.Ythgclbohlcgdgaa.Eng
open Go
set_option maxRecDepth 100000
noncomputable section
def crossB (rg : List Int) (e : Ed) : Bool := !decide (gI rg e.1.toNat = gI rg e.2.1.toNat)
def brdS (rg : List Int) (b : List Bool) (e : Ed) : List Bool := if crossB rg e = true then (b.set e.1.toNat true).set e.2.1.toNat true else b
def brd0 (n fr to : Int) : List Bool := ((List.replicate n.toNat false).set fr.toNat true).set to.toNat true
def brdJ (n : Int) (es : List Ed) (rg : List Int) (fr to : Int) (i : Nat) : List Bool := (es.take i).foldl (brdS rg) (brd0 n fr to)
def witJ (es : List Ed) (rg : List Int) (i : Nat) : List Ed := (es.take i).filter fun e => !crossB rg e
def croJ (es : List Ed) (rg : List Int) (i : Nat) : List Ed := (es.take i).filter (crossB rg)
theorem brdJ_succ {n : Int} {es : List Ed} {rg : List Int} {fr to : Int} {i : Nat} (h : i < es.length) : brdJ n es rg fr to (i + 1) = brdS rg (brdJ n es rg fr to i) (gE es i) := by
  unfold brdJ
  rw [List.take_succ_eq_append_getElem h, List.foldl_append, gE_eq h]
  rfl
theorem witJ_succ {es : List Ed} {rg : List Int} {i : Nat} (h : i < es.length) : witJ es rg (i + 1) = if crossB rg (gE es i) = true then witJ es rg i else witJ es rg i ++ [gE es i] := by
  unfold witJ
  rw [List.take_succ_eq_append_getElem h, List.filter_append, gE_eq h]
  cases e : crossB rg es[i] <;> simp [e]
theorem croJ_succ {es : List Ed} {rg : List Int} {i : Nat} (h : i < es.length) : croJ es rg (i + 1) = if crossB rg (gE es i) = true then croJ es rg i ++ [gE es i] else croJ es rg i := by
  unfold croJ
  rw [List.take_succ_eq_append_getElem h, List.filter_append, gE_eq h]
  cases e : crossB rg es[i] <;> simp [e]
theorem brd0_len (n fr to : Int) : (brd0 n fr to).length = n.toNat := by simp [brd0]
theorem brdS_len (rg : List Int) (b : List Bool) (e : Ed) : (brdS rg b e).length = b.length := by unfold brdS; split <;> simp
theorem brdJ_len {n : Int} {es : List Ed} {rg : List Int} {fr to : Int} : ∀ i, i ≤ es.length → (brdJ n es rg fr to i).length = n.toNat
  | 0, _ => brd0_len n fr to
  | i + 1, h => by rw [brdJ_succ (by omega), brdS_len, brdJ_len i (by omega)]
theorem witJ_len (es : List Ed) (rg : List Int) (i : Nat) : (witJ es rg i).length ≤ i := by
  unfold witJ
  refine Nat.le_trans (List.length_filter_le _ _) ?_
  rw [List.length_take]; omega
theorem croJ_len (es : List Ed) (rg : List Int) (i : Nat) : (croJ es rg i).length ≤ i := by
  unfold croJ
  refine Nat.le_trans (List.length_filter_le _ _) ?_
  rw [List.length_take]; omega
/-- Edges that stay in a region. -/
def witR (es : List Ed) (rg : List Int) : List Ed := witJ es rg es.length
theorem wit_sub {es : List Ed} {rg : List Int} {e : Ed} (h : e ∈ witR es rg) : e ∈ es := by
  unfold witR witJ at h
  rw [List.take_length] at h
  exact (List.mem_filter.1 h).1
theorem wit_ok {n : Int} {es : List Ed} {rg : List Int} (h : EsOk n es) : EsOk n (witR es rg) := ⟨fun e he => h.ok e (wit_sub he)⟩
theorem wit_valid {n : Int} {es : List Ed} {rg : List Int} (h : validR n es = 0) : validR n (witR es rg) = 0 := by
  obtain ⟨v1, v2, v3, v4⟩ := valid_iff h
  have hl := witJ_len es rg es.length
  have hl : (witR es rg).length ≤ es.length := hl
  exact valid_ok (by omega) (by omega) (by omega) (fun k hk => (v4 _ (wit_sub (gE_mem hk))).2.2) (fun k hk => ⟨(v4 _ (wit_sub (gE_mem hk))).1, (v4 _ (wit_sub (gE_mem hk))).2.1⟩)
def shQ (es : List Ed) (rg : List Int) (bd : List Bool) (k j : Nat) : Bool := decide (0 ≤ fC (witR es rg) (k : Int) (j : Int)) && (!decide ((j : Int) = (k : Int)) && gB bd j)
def shE (es : List Ed) (rg : List Int) (k j : Nat) : Ed := ((k : Int), (j : Int), fC (witR es rg) (k : Int) (j : Int))
/-- The short cuts from a node. -/
def shJ (es : List Ed) (rg : List Int) (bd : List Bool) (k j : Nat) : List Ed := ((List.range j).filter (shQ es rg bd k)).map (shE es rg k)
def shK (es : List Ed) (rg : List Int) (bd : List Bool) (N K : Nat) : List Ed := (List.range K).flatMap fun k => if gB bd k = true then shJ es rg bd k N else []
theorem shJ_succ (es : List Ed) (rg : List Int) (bd : List Bool) (k j : Nat) : shJ es rg bd k (j + 1) = if shQ es rg bd k j = true then shJ es rg bd k j ++ [shE es rg k j] else shJ es rg bd k j := by
  unfold shJ
  rw [List.range_succ, List.filter_append, List.map_append]
  cases e : shQ es rg bd k j <;> simp [e]
theorem shK_succ (es : List Ed) (rg : List Int) (bd : List Bool) (N K : Nat) : shK es rg bd N (K + 1) = shK es rg bd N K ++ (if gB bd K = true then shJ es rg bd K N else []) := by
  unfold shK
  rw [List.range_succ, List.flatMap_append]
  simp
theorem shJ_len (es : List Ed) (rg : List Int) (bd : List Bool) (k j : Nat) : (shJ es rg bd k j).length ≤ j := by
  unfold shJ
  rw [List.length_map]
  exact Nat.le_trans (List.length_filter_le _ _) (by simp)
theorem shK_len (es : List Ed) (rg : List Int) (bd : List Bool) (N : Nat) : ∀ K, (shK es rg bd N K).length ≤ K * N
  | 0 => by simp [shK]
  | K + 1 => by
    rw [shK_succ, List.length_append, Nat.add_mul, Nat.one_mul]
    have := shK_len es rg bd N K
    have := shJ_len es rg bd K N
    split
    · omega
    · simp; omega
/-- The graph of the borders. -/
def uppR (n : Int) (es : List Ed) (rg : List Int) (fr to : Int) : List Ed := croJ es rg es.length ++ shK es rg (brdJ n es rg fr to es.length) n.toNat n.toNat
theorem mem_shK {es : List Ed} {rg : List Int} {bd : List Bool} {N K : Nat} {e : Ed} : e ∈ shK es rg bd N K ↔ ∃ k j, k < K ∧ j < N ∧ gB bd k = true ∧ shQ es rg bd k j = true ∧ e = shE es rg k j := by
  unfold shK
  rw [List.mem_flatMap]
  constructor
  · rintro ⟨k, hk, he⟩
    split at he
    · rename_i hb
      unfold shJ at he
      obtain ⟨j, hj, ej⟩ := List.mem_map.1 he
      obtain ⟨j1, j2⟩ := List.mem_filter.1 hj
      exact ⟨k, j, List.mem_range.1 hk, List.mem_range.1 j1, hb, j2, ej.symm⟩
    · cases he
  · rintro ⟨k, j, hk, hj, hb, hq, rfl⟩
    refine ⟨k, List.mem_range.2 hk, ?_⟩
    rw [if_pos hb]
    exact List.mem_map.2 ⟨j, List.mem_filter.2 ⟨List.mem_range.2 hj, hq⟩, rfl⟩
theorem sh_iff {es : List Ed} {rg : List Int} {bd : List Bool} {k j : Nat} : shQ es rg bd k j = true ↔ 0 ≤ fC (witR es rg) (k : Int) (j : Int) ∧ ¬ j = k ∧ gB bd j = true := by
  unfold shQ
  simp
  omega
theorem fC_wit {n : Int} {es : List Ed} {rg : List Int} (hv : validR n es = 0) (k j : Int) : fC (witR es rg) k j ≤ 1000000000 := by
  obtain ⟨v1, v2, v3, v4⟩ := valid_iff hv
  have hS : Steps (Re ((witR es rg).map turnR)) n.toNat 1000000 := ⟨fun {k q w} hr => by
    have := v4 _ (wit_sub (mem_turn.1 hr))
    simp only at this
    omega⟩
  unfold fC
  cases e : lpR (Re ((witR es rg).map turnR)) (Tl [k]) j with
  | none => simp [costOf]
  | some p =>
    have := lp_bnd hS (by omega) (show lpR _ _ _ = some (p.1, p.2) from e)
    show p.1 ≤ _
    omega
theorem upp_ok {n : Int} {es : List Ed} {rg : List Int} {fr to : Int} (hv : validR n es = 0) : EsOk n (uppR n es rg fr to) ∧ (uppR n es rg fr to).length ≤ 2000000 := by
  have hes := valid_es hv
  obtain ⟨v1, v2, v3, v4⟩ := valid_iff hv
  refine ⟨⟨fun e he => ?_⟩, ?_⟩
  · unfold uppR at he
    rcases List.mem_append.1 he with h | h
    · unfold croJ at h
      rw [List.take_length] at h
      exact hes.ok e (List.mem_filter.1 h).1
    · obtain ⟨k, j, hk, hj, _, hq, rfl⟩ := mem_shK.1 h
      have := (sh_iff.1 hq).1
      have := fC_wit (rg := rg) hv (k : Int) (j : Int)
      unfold shE
      simp only
      omega
  · unfold uppR
    rw [List.length_append]
    have h1 := croJ_len es rg es.length
    have h2 := shK_len es rg (brdJ n es rg fr to es.length) n.toNat n.toNat
    have h3 : n.toNat * n.toNat ≤ 1000 * 1000 := Nat.mul_le_mul (by omega) (by omega)
    omega
def regR (n : Int) (es : List Ed) (rg : List Int) (fr to : Int) : Int × List Int × Bool × Int :=
  if ¬ nodesR n es [[fr, to]] = 0 then (0, [], false, nodesR n es [[fr, to]]) else if ¬ (rg.length : Int) = n then (0, [], false, 8) else
    match lpR (Re (uppR n es rg fr to)) (Tl [to]) fr with
    | some p => (p.1, wayR (Re (uppR n es rg fr to)) (Tl [to]) p.2.toNat fr, true, 0)
    | none => (0, [], false, 0)
theorem nodes1b {n : Int} {es : List Ed} {a b : Int} (hv : validR n es = 0) : nodesR n es [[a, b]] = if isR n a = true ∧ isR n b = true then 0 else 2 := by
  unfold nodesR
  rw [if_neg (by simp [hv])]
  simp [allR]
-- the way by regions costs as much as the least one
theorem brd_keep {n : Int} {es : List Ed} {rg : List Int} {fr to : Int} (hes : EsOk n es) (k : Nat) : ∀ i, i ≤ es.length → ∀ m, m ≤ i → gB (brdJ n es rg fr to m) k = true → gB (brdJ n es rg fr to i) k = true
  | 0, _, m, hm, h => by
    have : m = 0 := by omega
    subst this; exact h
  | i + 1, hi, m, hm, h => by
    by_cases e : m = i + 1
    · rw [← e]; exact h
    · have ih := brd_keep hes k i (by omega) m (by omega) h
      rw [brdJ_succ (by omega)]
      unfold brdS
      split
      · have hl := brdJ_len (n := n) (es := es) (rg := rg) (fr := fr) (to := to) i (by omega)
        have hb := hes.ok _ (gE_mem (n := i) (l := es) (by omega))
        rw [gB_set (by rw [List.length_set]; omega), gB_set (by omega)]
        split
        · rfl
        · split
          · rfl
          · exact ih
      · exact ih
theorem brd_from {n : Int} {es : List Ed} {rg : List Int} {fr to : Int} (hes : EsOk n es) (hf : 0 ≤ fr ∧ fr < n) (ht : 0 ≤ to ∧ to < n) : gB (brdJ n es rg fr to es.length) fr.toNat = true ∧ gB (brdJ n es rg fr to es.length) to.toNat = true := by
  have h0 : gB (brdJ n es rg fr to 0) fr.toNat = true ∧ gB (brdJ n es rg fr to 0) to.toNat = true := by
    show gB (brd0 n fr to) fr.toNat = true ∧ gB (brd0 n fr to) to.toNat = true
    unfold brd0
    rw [gB_set (by rw [List.length_set, List.length_replicate]; omega), gB_set (by rw [List.length_replicate]; omega), gB_set (by rw [List.length_set, List.length_replicate]; omega)]
    simp
  exact ⟨brd_keep hes _ _ (Nat.le_refl _) 0 (Nat.zero_le _) h0.1, brd_keep hes _ _ (Nat.le_refl _) 0 (Nat.zero_le _) h0.2⟩
theorem brd_cross {n : Int} {es : List Ed} {rg : List Int} {fr to : Int} (hes : EsOk n es) {e : Ed} (he : e ∈ es) (hc : crossB rg e = true) : gB (brdJ n es rg fr to es.length) e.1.toNat = true ∧ gB (brdJ n es rg fr to es.length) e.2.1.toNat = true := by
  obtain ⟨i, hi, ei⟩ := List.getElem_of_mem he
  have hb := hes.ok _ he
  have hl := brdJ_len (n := n) (es := es) (rg := rg) (fr := fr) (to := to) i (by omega)
  have h1 : gB (brdJ n es rg fr to (i + 1)) e.1.toNat = true ∧ gB (brdJ n es rg fr to (i + 1)) e.2.1.toNat = true := by
    rw [brdJ_succ hi, gE_eq hi, ei]
    unfold brdS
    rw [if_pos hc, gB_set (by rw [List.length_set]; omega), gB_set (by omega), gB_set (by rw [List.length_set]; omega)]
    simp
  exact ⟨brd_keep hes _ _ (Nat.le_refl _) (i + 1) hi h1.1, brd_keep hes _ _ (Nat.le_refl _) (i + 1) hi h1.2⟩
theorem wy_app {R : Rel} {T : Int → Prop} {q k c s c' s' : Int} (h : Wy R (Tl [q]) k c s) (g : Wy R T q c' s') : Wy R T k (c + c') (s + s') := by
  generalize hT : Tl [q] = T' at h
  induction h with
  | nil ht =>
    rename_i a
    rw [← hT] at ht
    have : a = q := List.mem_singleton.1 ht
    subst this
    rw [Int.zero_add, Int.zero_add]
    exact g
  | cons hs _ ih =>
    rename_i x y w' c'' s'' _
    have := Wy.cons hs ih
    rwa [show c'' + c' + w' = c'' + w' + c' by omega, show s'' + s' + 1 = s'' + 1 + s' by omega] at this
theorem wy_snoc3 {R : Rel} {a k u c s w : Int} (h : Wy R (Tl [u]) a c s) (hr : R u k w) : Wy R (Tl [k]) a (c + w) (s + 1) := by
  have := wy_app h (.cons hr (.nil (T := Tl [k]) List.mem_cons_self))
  rwa [show c + (0 + w) = c + w by omega, show s + (0 + 1) = s + 1 by omega] at this
theorem wy_rev3 {es : List Ed} {a b c s : Int} (h : Wy (Re (es.map turnR)) (Tl [a]) b c s) : Wy (Re es) (Tl [b]) a c s := by
  induction h with
  | nil ht => rw [List.mem_singleton.1 ht]; exact .nil List.mem_cons_self
  | cons hr _ ih => exact wy_snoc3 ih (mem_turn.1 hr)
theorem wy_rev4 {es : List Ed} {a b c s : Int} (h : Wy (Re es) (Tl [b]) a c s) : Wy (Re (es.map turnR)) (Tl [a]) b c s := by
  rw [← turn_turn es] at h
  exact wy_rev3 h
section
variable {n : Int} {es : List Ed} {rg : List Int} {fr to : Int}
theorem upp_down (hv : validR n es = 0) {k c s : Int} (h : Wy (Re (uppR n es rg fr to)) (Tl [to]) k c s) : ∃ s', Wy (Re es) (Tl [to]) k c s' := by
  induction h with
  | nil ht => exact ⟨0, .nil ht⟩
  | cons hr _ ih =>
    rename_i k q w c s _
    obtain ⟨s', hs⟩ := ih
    have hm : (k, q, w) ∈ uppR n es rg fr to := hr
    unfold uppR at hm
    rcases List.mem_append.1 hm with h | h
    · unfold croJ at h
      rw [List.take_length] at h
      exact ⟨_, .cons (List.mem_filter.1 h).1 hs⟩
    · obtain ⟨i, j, _, _, _, hq, e⟩ := mem_shK.1 h
      unfold shE at e
      cases e
      obtain ⟨s2, h2⟩ := fC_is (sh_iff.1 hq).1
      have h3 := (wy_rev3 (lp_is h2).1).mono (R2 := Re es) (fun k q w h => wit_sub h)
      have := wy_app h3 hs
      rw [show fC (witR es rg) (i : Int) (j : Int) + c = c + fC (witR es rg) (i : Int) (j : Int) by omega] at this
      exact ⟨_, this⟩
theorem short_cut (hv : validR n es = 0) {q b c1 s1 c2 s2 : Int} (hq : 0 ≤ q ∧ q < n) (hb : 0 ≤ b ∧ b < n) (bq : gB (brdJ n es rg fr to es.length) q.toNat = true) (bb : gB (brdJ n es rg fr to es.length) b.toNat = true)
    (h1 : Wy (Re (witR es rg)) (Tl [b]) q c1 s1) (h2 : Wy (Re (uppR n es rg fr to)) (Tl [to]) b c2 s2) : ∃ c s, c ≤ c1 + c2 ∧ Wy (Re (uppR n es rg fr to)) (Tl [to]) q c s := by
  have hes := valid_es hv
  have hw := wit_ok (rg := rg) hes
  have h0 := h1.nonneg hw.steps
  by_cases e : q = b
  · subst e; exact ⟨c2, s2, by omega, h2⟩
  · have h3 := wy_rev4 h1
    obtain ⟨p, hp⟩ := lp_ex hw.turn.steps h3
    have hp : lpR (Re ((witR es rg).map turnR)) (Tl [q]) b = some (p.1, p.2) := hp
    have hf := fC_some hp
    have hmin := (lp_is hp).2 _ _ h3
    have hnn := lp_nonneg hw.turn.steps hp
    refine ⟨c2 + p.1, s2 + 1, by omega, .cons ?_ h2⟩
    show (q, b, p.1) ∈ uppR n es rg fr to
    unfold uppR
    refine List.mem_append_right _ (mem_shK.2 ⟨q.toNat, b.toNat, by omega, by omega, bq, sh_iff.2 ⟨?_, by omega, bb⟩, ?_⟩)
    · rw [show ((q.toNat : Nat) : Int) = q by omega, show ((b.toNat : Nat) : Int) = b by omega, hf]; exact hnn.1
    · unfold shE
      rw [show ((q.toNat : Nat) : Int) = q by omega, show ((b.toNat : Nat) : Int) = b by omega, hf]
theorem upp_up (hv : validR n es = 0) (hf : 0 ≤ fr ∧ fr < n) (ht : 0 ≤ to ∧ to < n) {k c s : Int} (h : Wy (Re es) (Tl [to]) k c s) : ∃ b c1 s1 c2 s2, (0 ≤ b ∧ b < n) ∧ gB (brdJ n es rg fr to es.length) b.toNat = true ∧ Wy (Re (witR es rg)) (Tl [b]) k c1 s1 ∧ Wy (Re (uppR n es rg fr to)) (Tl [to]) b c2 s2 ∧ c1 + c2 ≤ c := by
  have hes := valid_es hv
  induction h with
  | nil htt =>
    rename_i k
    have : k = to := List.mem_singleton.1 htt
    subst this
    exact ⟨k, 0, 0, 0, 0, ht, (brd_from hes hf ht).2, .nil List.mem_cons_self, .nil List.mem_cons_self, by omega⟩
  | cons hr _ ih =>
    rename_i k q w c s _
    have hm : (k, q, w) ∈ es := hr
    have hb := hes.ok _ hm
    simp only at hb
    obtain ⟨b, c1, s1, c2, s2, b1, b2, b3, b4, b5⟩ := ih
    cases hc : crossB rg (k, q, w)
    · refine ⟨b, c1 + w, s1 + 1, c2, s2, b1, b2, .cons ?_ b3, b4, by omega⟩
      show (k, q, w) ∈ witR es rg
      unfold witR witJ
      rw [List.take_length]
      exact List.mem_filter.2 ⟨hm, by simp [hc]⟩
    · have hcr := brd_cross (n := n) (fr := fr) (to := to) hes hm hc
      simp only at hcr
      obtain ⟨c3, s3, d1, d2⟩ := short_cut hv hb.2.1 b1 hcr.2 b2 b3 b4
      refine ⟨k, 0, 0, c3 + w, s3 + 1, hb.1, hcr.1, .nil List.mem_cons_self, .cons ?_ d2, by omega⟩
      show (k, q, w) ∈ uppR n es rg fr to
      unfold uppR croJ
      rw [List.take_length]
      exact List.mem_append_left _ (List.mem_filter.2 ⟨hm, hc⟩)
/-- The least cost by the borders is the least cost. -/
theorem upp_least (hv : validR n es = 0) (hf : 0 ≤ fr ∧ fr < n) (ht : 0 ≤ to ∧ to < n) : (lpR (Re (uppR n es rg fr to)) (Tl [to]) fr = none ∧ lpR (Re es) (Tl [to]) fr = none) ∨ ∃ c s s', lpR (Re (uppR n es rg fr to)) (Tl [to]) fr = some (c, s) ∧ lpR (Re es) (Tl [to]) fr = some (c, s') := by
  have hes := valid_es hv
  have hup := (upp_ok (rg := rg) (fr := fr) (to := to) hv).1
  have up : ∀ {c s : Int}, Wy (Re es) (Tl [to]) fr c s → ∃ c' s', c' ≤ c ∧ Wy (Re (uppR n es rg fr to)) (Tl [to]) fr c' s' := by
    intro c s hw
    obtain ⟨b, c1, s1, c2, s2, b1, b2, b3, b4, b5⟩ := upp_up (rg := rg) hv hf ht hw
    obtain ⟨c', s', d1, d2⟩ := short_cut hv hf b1 (brd_from hes hf ht).1 b2 b3 b4
    exact ⟨c', s', by omega, d2⟩
  cases e1 : lpR (Re (uppR n es rg fr to)) (Tl [to]) fr with
  | none =>
    left
    refine ⟨rfl, lp_none fun c s hw => ?_⟩
    obtain ⟨c', s', _, h⟩ := up hw
    obtain ⟨p, hp⟩ := lp_ex hup.steps h
    rw [hp] at e1
    cases e1
  | some p =>
    right
    have e1 : lpR (Re (uppR n es rg fr to)) (Tl [to]) fr = some (p.1, p.2) := e1
    obtain ⟨s', h1⟩ := upp_down hv (lp_is e1).1
    obtain ⟨q, hq⟩ := lp_ex hes.steps h1
    have hq : lpR (Re es) (Tl [to]) fr = some (q.1, q.2) := hq
    have l1 := (lp_is hq).2 _ _ h1
    obtain ⟨c'', s'', l2, h2⟩ := up (lp_is hq).1
    have l3 := (lp_is e1).2 _ _ h2
    have : p.1 = q.1 := by omega
    exact ⟨p.1, p.2, q.2, rfl, by rw [hq, this]⟩
end
end
end Go.Proofs.Ythgclbohlcgdgaa.Eng
set_option linter.unusedVariables false
set_option linter.unusedSimpArgs false
namespace Go.Proofs.Ythgclbohlcgdgaa.Eng
open Go
set_option maxRecDepth 100000
noncomputable section
def bestW (n : Int) (es : List Ed) (fr to : Int) : List Int × Int × Bool := match lpR (Re es) (Tl [to]) fr with
  | some p => (wayR (Re es) (Tl [to]) p.2.toNat fr, p.1, true)
  | none => ([], 0, false)
def S49b (es : List Ed) (l : List Fa) (c0 : Int) (out : List Int) (a : Int) : SL := ⟨List.replicate 1 .undef ++ [.sl eT es] ++ [.int .i64 c0] ++ List.replicate 8 .undef ++ [.own 0] ++ [.own 1] ++ [.int .i64 a] ++ List.replicate 92 .undef, [(0, .arr fT l), (1, .arr I out)], 2⟩
def S49c (es : List Ed) (l : List Fa) (c0 : Int) (out : List Int) (a x j : Int) : SL := ⟨List.replicate 1 .undef ++ [.sl eT es] ++ [.int .i64 c0] ++ List.replicate 8 .undef ++ [.own 0] ++ [.own 1] ++ [.int .i64 a] ++ [.int .i64 x] ++ List.replicate 23 .undef ++ [.sl eT es] ++ [.int .i64 es.length] ++ [.int .i64 j] ++ List.replicate 65 .undef, [(0, .arr fT l), (1, .arr I out)], 2⟩
def E49 : Env := ⟨tab, [(44, K44)], fun n => match n with | 6 => some ([1, 2, 11, 12, 13], [], []) | 9 => some ([1, 2, 11, 12, 13, 14, 38, 39, 40], [], []) | _ => none⟩
def K49 : Fn1 := ⟨.fld I (.fld (.sl eT) (.fld I (.one I))), .fld (.sl I) (.fld I (.one .bool)), fun (a : Int × List Ed × Int × Int) => [0 ≤ a.1 ∧ a.1 ≤ 100000, a.2.1.length ≤ 2000000, EsOk a.1 a.2.1, 0 ≤ a.2.2.1 ∧ a.2.2.1 < a.1, 0 ≤ a.2.2.2 ∧ a.2.2.2 < a.1], fun (a : Int × List Ed × Int × Int) => bestW a.1 a.2.1 a.2.2.1 a.2.2.2⟩
set_option maxHeartbeats 4000000 in
theorem k49 : FnOk Go.Proofs.Try.prog 49 K49 := by
  refine fn_ok (E := E49) (TOk.of tab_told) (AllOk.cons k44 .nil).at_ mix Go.Proofs.Try.func49 rfl rfl (by kernel_rfl) K49 ?_
  rintro ⟨(n : Int), (es : List Ed), (fr : Int), (to : Int)⟩ hp
  have v : 0 ≤ n ∧ n ≤ 100000 := hp _ (List.mem_cons_self ..)
  have hel : es.length ≤ 2000000 := hp _ (List.mem_cons_of_mem _ (List.mem_cons_self ..))
  have hes : EsOk n es := hp _ (List.mem_cons_of_mem _ (List.mem_cons_of_mem _ (List.mem_cons_self ..)))
  have hf : 0 ≤ fr ∧ fr < n := hp _ (List.mem_cons_of_mem _ (List.mem_cons_of_mem _ (List.mem_cons_of_mem _ (List.mem_cons_self ..))))
  have ht : 0 ≤ to ∧ to < n := hp _ (List.mem_cons_of_mem _ (List.mem_cons_of_mem _ (List.mem_cons_of_mem _ (List.mem_cons_of_mem _ (List.mem_cons_self ..)))))
  clear hp
  obtain ⟨v1, v2⟩ := v
  conv => whnf
  refine ⟨show 0 ≤ n ∧ n ≤ 100000 by omega, ?_⟩
  conv => whnf
  refine ⟨show es.length ≤ 2000000 by omega, ?_⟩
  conv => whnf
  refine ⟨hes, ?_⟩
  conv => whnf
  refine ⟨show 1 ≤ 1000000000 by omega, ?_⟩
  conv => whnf
  refine ⟨show ∀ k ∈ [to], 0 ≤ k ∧ k < n from fun k hk => by rw [List.mem_singleton.1 hk]; exact ht, ?_⟩
  have frl : fr < ((toF (Re es) (Tl [to]) n.toNat).length : Int) := by rw [toF_len]; omega
  have hgf : gF (toF (Re es) (Tl [to]) n.toNat) fr.toNat = faOf ((lpR (Re es) (Tl [to])) fr) := by rw [toF_at (by omega), show ((fr.toNat : Nat) : Int) = fr by omega]
  conv => whnf
  refine ⟨hf.1, ?_⟩
  conv => whnf
  refine ⟨frl, ?_⟩
  conv => whnf
  refine cond_intro (fun c1 => ?_) (fun c1 => ?_)
  · have c1 : (gF (toF (Re es) (Tl [to]) n.toNat) fr.toNat).1 < 0 := @of_decide_eq_true _ _ c1
    have hp : (lpR (Re es) (Tl [to])) fr = none := by
      cases e : (lpR (Re es) (Tl [to])) fr with
      | none => rfl
      | some p =>
        rw [hgf, e] at c1
        have := lp_nonneg hes.steps (show (lpR (Re es) (Tl [to])) fr = some (p.1, p.2) from e)
        exact absurd (show p.1 < 0 from c1) (by omega)
    conv => whnf
    show ([], 0, false) = bestW n es fr to
    unfold bestW
    rw [hp]
  have c1 : ¬ ((gF (toF (Re es) (Tl [to]) n.toNat) fr.toNat).1 < 0) := @of_decide_eq_false _ _ c1
  obtain ⟨p, hp⟩ : ∃ p, (lpR (Re es) (Tl [to])) fr = some p := faOf_is (by rw [← hgf]; omega)
  have hgb : gF (toF (Re es) (Tl [to]) n.toNat) fr.toNat = p := by rw [hgf, hp]; rfl
  obtain ⟨b, hbe⟩ : ∃ b, b = fr := ⟨_, rfl⟩
  obtain ⟨S, hSe⟩ : ∃ S, S = p.2 := ⟨_, rfl⟩
  obtain ⟨c0, hce⟩ : ∃ c0 : Int, c0 = fr := ⟨_, rfl⟩
  have hb0 : 0 ≤ b ∧ b < n := by rw [hbe]; exact hf
  have hbl : (lpR (Re es) (Tl [to])) b = some (p.1, S) := by rw [hbe, hSe]; exact hp
  conv => whnf
  refine loop_rule (fun x : List Int × Int => S49b es (toF (Re es) (Tl [to]) n.toNat) c0 x.1 x.2) (fun x => (gF (toF (Re es) (Tl [to]) n.toNat) x.2.toNat).2.toNat) (fun x => (0 ≤ x.2 ∧ x.2 < n) ∧ ∃ c s, (lpR (Re es) (Tl [to])) x.2 = some (c, s) ∧ (x.1.length : Int) + s = 1 + S ∧ x.1 ++ (wayR (Re es) (Tl [to]) s.toNat x.2).tail = wayR (Re es) (Tl [to]) S.toNat b) ?_ ([b], b) (by kernel_rfl) ?_ ⟨hb0, p.1, S, hbl, rfl, (wayR_tail _ _ _ _).symm⟩
  case refine_2 => subst hbe hce; rfl
  rintro ⟨out, a⟩ ⟨⟨a0, a1⟩, c, s, hlp, hlen, hout⟩
  have a0 : 0 ≤ a := a0
  have a1 : a < n := a1
  have hlp : (lpR (Re es) (Tl [to])) a = some (c, s) := hlp
  have hlen : (out.length : Int) + s = 1 + S := hlen
  have hout : out ++ (wayR (Re es) (Tl [to]) s.toNat a).tail = wayR (Re es) (Tl [to]) S.toNat b := hout
  have al : a < ((toF (Re es) (Tl [to]) n.toNat).length : Int) := by rw [toF_len]; omega
  have ga : (gF (toF (Re es) (Tl [to]) n.toNat) a.toNat) = (c, s) := by rw [toF_at (by omega), show ((a.toNat : Nat) : Int) = a by omega, hlp]; rfl
  have hsn := lp_bnd hes.steps (by omega) hlp
  have hSn := lp_bnd hes.steps (by omega) hbl
  conv => whnf
  refine ⟨a0, ?_⟩
  conv => whnf
  refine ⟨al, ?_⟩
  conv => whnf
  refine cond_intro (fun hs => ?_) (fun hs => ?_)
  · have hs : 0 < (gF (toF (Re es) (Tl [to]) n.toNat) a.toNat).2 := @of_decide_eq_true _ _ hs
    rw [ga] at hs
    have hs : 0 < s := hs
    conv => whnf
    refine loop_rule (fun x : Int × Int => S49c es (toF (Re es) (Tl [to]) n.toNat) c0 out a x.1 x.2) (fun x => ((es.length : Int) - x.2).toNat) (fun x => 0 ≤ x.2 ∧ x.2 ≤ es.length ∧ NxI es (toF (Re es) (Tl [to]) n.toNat) a x.1 x.2.toNat) ?_ (-1, 0) (by kernel_rfl) ?_ ⟨Int.le_refl _, by show (0 : Int) ≤ _; omega, Or.inl ⟨rfl, fun i hi => by simp at hi⟩⟩
    case refine_2 => rfl
    rintro ⟨x, j⟩ ⟨j0, j1, hni⟩
    have j0 : 0 ≤ j := j0
    have j1 : j ≤ es.length := j1
    have hni : NxI es (toF (Re es) (Tl [to]) n.toNat) a x j.toNat := hni
    conv => whnf
    refine cond_intro (fun jlt => ?_) (fun jlt => ?_)
    · have jlt : j < (es.length : Int) := @of_decide_eq_true _ _ jlt
      have wj : IntKind.i64.wrap (j + 1) = j + 1 := wrap_eq (by omega) (by omega)
      have ej : (j + 1).toNat = j.toNat + 1 := by omega
      have hee := hes.ok _ (gE_mem (n := j.toNat) (l := es) (by omega))
      have tl : (gE es j.toNat).2.1 < ((toF (Re es) (Tl [to]) n.toNat).length : Int) := by rw [toF_len]; omega
      conv => whnf
      refine ⟨j0, ?_⟩
      conv => whnf
      refine ⟨jlt, ?_⟩
      conv => whnf
      refine ⟨hee.2.1.1, ?_⟩
      conv => whnf
      refine ⟨tl, ?_⟩
      conv => whnf
      refine cond_intro (fun i1 => ?_) (fun i1 => ?_)
      · have i1 : (gE es j.toNat).1 = a := @of_decide_eq_true _ _ i1
        conv => whnf
        refine cond_intro (fun i2 => ?_) (fun i2 => ?_)
        · have i2 : 0 ≤ (gF (toF (Re es) (Tl [to]) n.toNat) (gE es j.toNat).2.1.toNat).1 := @of_decide_eq_true _ _ i2
          have hb1 : (gF (toF (Re es) (Tl [to]) n.toNat) (gE es j.toNat).2.1.toNat).1 ≤ 1000000000000000000 ∧ (gF (toF (Re es) (Tl [to]) n.toNat) (gE es j.toNat).2.1.toNat).2 ≤ 100000 ∧ 0 ≤ (gF (toF (Re es) (Tl [to]) n.toNat) (gE es j.toNat).2.1.toNat).2 := fl_bnd hes ⟨v1, v2⟩ (by omega) i2
          have wc : IntKind.i64.wrap ((gF (toF (Re es) (Tl [to]) n.toNat) (gE es j.toNat).2.1.toNat).1 + (gE es j.toNat).2.2) = (gF (toF (Re es) (Tl [to]) n.toNat) (gE es j.toNat).2.1.toNat).1 + (gE es j.toNat).2.2 := wrap_eq (by omega) (by omega)
          have ws : IntKind.i64.wrap ((gF (toF (Re es) (Tl [to]) n.toNat) (gE es j.toNat).2.1.toNat).2 + 1) = (gF (toF (Re es) (Tl [to]) n.toNat) (gE es j.toNat).2.1.toNat).2 + 1 := wrap_eq (by omega) (by omega)
          conv => whnf
          refine ⟨a0, ?_⟩
          conv => whnf
          refine ⟨al, ?_⟩
          conv => whnf
          refine cond_intro (fun i3 => ?_) (fun i3 => ?_)
          · have i3 : IntKind.i64.wrap ((gF (toF (Re es) (Tl [to]) n.toNat) (gE es j.toNat).2.1.toNat).1 + (gE es j.toNat).2.2) = (gF (toF (Re es) (Tl [to]) n.toNat) a.toNat).1 := @of_decide_eq_true _ _ i3
            rw [wc] at i3
            conv => whnf
            refine ⟨a0, ?_⟩
            conv => whnf
            refine ⟨al, ?_⟩
            conv => whnf
            refine cond_intro (fun i4 => ?_) (fun i4 => ?_)
            · have i4 : IntKind.i64.wrap ((gF (toF (Re es) (Tl [to]) n.toNat) (gE es j.toNat).2.1.toNat).2 + 1) = (gF (toF (Re es) (Tl [to]) n.toNat) a.toNat).2 := @of_decide_eq_true _ _ i4
              rw [ws] at i4
              have htg : tightF (toF (Re es) (Tl [to]) n.toNat) a (gE es j.toNat) := ⟨i1, i2, i3, i4⟩
              conv => whnf
              refine cond_intro (fun i5 => ?_) (fun i5 => ?_)
              · have i5 : x < 0 := @of_decide_eq_true _ _ i5
                conv => whnf
                refine ⟨((gE es j.toNat).2.1, j + 1), ?_, ⟨by show 0 ≤ j + 1; omega, by show j + 1 ≤ _; omega, by show NxI es (toF (Re es) (Tl [to]) n.toNat) a (gE es j.toNat).2.1 (j + 1).toNat; rw [ej]; exact hni.set htg hee.2.1.1 (Or.inl i5)⟩, by show ((es.length : Int) - (j + 1)).toNat < ((es.length : Int) - j).toNat; omega⟩
                exact Eq.trans (b := S49c es (toF (Re es) (Tl [to]) n.toNat) c0 out a (gE es j.toNat).2.1 (IntKind.i64.wrap (j + 1))) rfl (by rw [wj])
              have i5 : ¬ (x < 0) := @of_decide_eq_false _ _ i5
              conv => whnf
              refine cond_intro (fun i6 => ?_) (fun i6 => ?_)
              · have i6 : (gE es j.toNat).2.1 < x := @of_decide_eq_true _ _ i6
                conv => whnf
                refine ⟨((gE es j.toNat).2.1, j + 1), ?_, ⟨by show 0 ≤ j + 1; omega, by show j + 1 ≤ _; omega, by show NxI es (toF (Re es) (Tl [to]) n.toNat) a (gE es j.toNat).2.1 (j + 1).toNat; rw [ej]; exact hni.set htg hee.2.1.1 (Or.inr i6)⟩, by show ((es.length : Int) - (j + 1)).toNat < ((es.length : Int) - j).toNat; omega⟩
                exact Eq.trans (b := S49c es (toF (Re es) (Tl [to]) n.toNat) c0 out a (gE es j.toNat).2.1 (IntKind.i64.wrap (j + 1))) rfl (by rw [wj])
              have i6 : ¬ ((gE es j.toNat).2.1 < x) := @of_decide_eq_false _ _ i6
              conv => whnf
              refine ⟨(x, j + 1), ?_, ⟨by show 0 ≤ j + 1; omega, by show j + 1 ≤ _; omega, by show NxI es (toF (Re es) (Tl [to]) n.toNat) a x (j + 1).toNat; rw [ej]; exact hni.stay i5 i6⟩, by show ((es.length : Int) - (j + 1)).toNat < ((es.length : Int) - j).toNat; omega⟩
              exact Eq.trans (b := S49c es (toF (Re es) (Tl [to]) n.toNat) c0 out a x (IntKind.i64.wrap (j + 1))) rfl (by rw [wj])
            have i4 : ¬ (IntKind.i64.wrap ((gF (toF (Re es) (Tl [to]) n.toNat) (gE es j.toNat).2.1.toNat).2 + 1) = (gF (toF (Re es) (Tl [to]) n.toNat) a.toNat).2) := @of_decide_eq_false _ _ i4
            rw [ws] at i4
            conv => whnf
            refine ⟨(x, j + 1), ?_, ⟨by show 0 ≤ j + 1; omega, by show j + 1 ≤ _; omega, by show NxI es (toF (Re es) (Tl [to]) n.toNat) a x (j + 1).toNat; rw [ej]; exact hni.skip fun h => i4 h.2.2.2⟩, by show ((es.length : Int) - (j + 1)).toNat < ((es.length : Int) - j).toNat; omega⟩
            exact Eq.trans (b := S49c es (toF (Re es) (Tl [to]) n.toNat) c0 out a x (IntKind.i64.wrap (j + 1))) rfl (by rw [wj])
          have i3 : ¬ (IntKind.i64.wrap ((gF (toF (Re es) (Tl [to]) n.toNat) (gE es j.toNat).2.1.toNat).1 + (gE es j.toNat).2.2) = (gF (toF (Re es) (Tl [to]) n.toNat) a.toNat).1) := @of_decide_eq_false _ _ i3
          rw [wc] at i3
          conv => whnf
          refine ⟨(x, j + 1), ?_, ⟨by show 0 ≤ j + 1; omega, by show j + 1 ≤ _; omega, by show NxI es (toF (Re es) (Tl [to]) n.toNat) a x (j + 1).toNat; rw [ej]; exact hni.skip fun h => i3 h.2.2.1⟩, by show ((es.length : Int) - (j + 1)).toNat < ((es.length : Int) - j).toNat; omega⟩
          exact Eq.trans (b := S49c es (toF (Re es) (Tl [to]) n.toNat) c0 out a x (IntKind.i64.wrap (j + 1))) rfl (by rw [wj])
        have i2 : ¬ (0 ≤ (gF (toF (Re es) (Tl [to]) n.toNat) (gE es j.toNat).2.1.toNat).1) := @of_decide_eq_false _ _ i2
        conv => whnf
        refine ⟨(x, j + 1), ?_, ⟨by show 0 ≤ j + 1; omega, by show j + 1 ≤ _; omega, by show NxI es (toF (Re es) (Tl [to]) n.toNat) a x (j + 1).toNat; rw [ej]; exact hni.skip fun h => i2 h.2.1⟩, by show ((es.length : Int) - (j + 1)).toNat < ((es.length : Int) - j).toNat; omega⟩
        exact Eq.trans (b := S49c es (toF (Re es) (Tl [to]) n.toNat) c0 out a x (IntKind.i64.wrap (j + 1))) rfl (by rw [wj])
      have i1 : ¬ ((gE es j.toNat).1 = a) := @of_decide_eq_false _ _ i1
      conv => whnf
      refine ⟨(x, j + 1), ?_, ⟨by show 0 ≤ j + 1; omega, by show j + 1 ≤ _; omega, by show NxI es (toF (Re es) (Tl [to]) n.toNat) a x (j + 1).toNat; rw [ej]; exact hni.skip fun h => i1 h.1⟩, by show ((es.length : Int) - (j + 1)).toNat < ((es.length : Int) - j).toNat; omega⟩
      exact Eq.trans (b := S49c es (toF (Re es) (Tl [to]) n.toNat) c0 out a x (IntKind.i64.wrap (j + 1))) rfl (by rw [wj])
    have jlt : ¬ (j < (es.length : Int)) := @of_decide_eq_false _ _ jlt
    have hx := NxI.done hes ⟨a0, a1⟩ hlp hs (by rw [show j.toNat = es.length by omega] at hni; exact hni)
    obtain ⟨w, n1, _, n2⟩ := nx_lp hes hlp hs
    have gn : gF (toF (Re es) (Tl [to]) n.toNat) x.toNat = (c - w, s - 1) := by rw [hx, toF_at (by omega), show (((nxR (Re es) (Tl [to]) a).toNat : Nat) : Int) = nxR (Re es) (Tl [to]) a by omega, n1]; rfl
    conv => whnf
    refine ⟨show (out.length + 1) * 8 ≤ 70368744177664 by omega, ?_⟩
    conv => whnf
    refine ⟨show out.length + 1 ≤ 70368744177664 by omega, ?_⟩
    conv => whnf
    refine ⟨(out ++ [x], x), rfl, ⟨by show 0 ≤ x ∧ x < n; rw [hx]; exact n2, ⟨c - w, s - 1, by show (lpR (Re es) (Tl [to])) x = _; rw [hx]; exact n1, ?_, ?_⟩⟩, ?_⟩
    · show ((out ++ [x]).length : Int) + (s - 1) = _
      rw [List.length_append, List.length_singleton]; omega
    · show (out ++ [x]) ++ _ = _
      rw [hx, way_step hs]; exact hout
    · show (gF (toF (Re es) (Tl [to]) n.toNat) x.toNat).2.toNat < (gF (toF (Re es) (Tl [to]) n.toNat) a.toNat).2.toNat
      rw [gn, ga]
      show (s - 1).toNat < s.toNat
      omega
  have hs : ¬ (0 < (gF (toF (Re es) (Tl [to]) n.toNat) a.toNat).2) := @of_decide_eq_false _ _ hs
  rw [ga] at hs
  have hs : ¬ 0 < s := hs
  rw [show s.toNat = 0 by omega] at hout
  have hout : out ++ [] = wayR (Re es) (Tl [to]) S.toNat b := hout
  rw [List.append_nil] at hout
  rw [hce]
  conv => whnf
  refine ⟨hf.1, ?_⟩
  conv => whnf
  refine ⟨frl, ?_⟩
  conv => whnf
  show (out, (gF (toF (Re es) (Tl [to]) n.toNat) fr.toNat).1, true) = bestW n es fr to
  unfold bestW
  rw [hp, hgb, hout, hbe, hSe]
end
end Go.Proofs.Ythgclbohlcgdgaa.Eng
set_option linter.unusedVariables false
set_option linter.unusedSimpArgs false
namespace Go.Proofs.Ythgclbohlcgdgaa.Eng
open Go
set_option maxRecDepth 100000
noncomputable section
theorem reg_bad {n : Int} {es : List Ed} {rg : List Int} {fr to : Int} (h : ¬ nodesR n es [[fr, to]] = 0) : regR n es rg fr to = (0, [], false, nodesR n es [[fr, to]]) := by
  unfold regR; rw [if_pos h]
theorem reg_fit {n : Int} {es : List Ed} {rg : List Int} {fr to : Int} (h : nodesR n es [[fr, to]] = 0) (h2 : ¬ (rg.length : Int) = n) : regR n es rg fr to = (0, [], false, 8) := by
  unfold regR; rw [if_neg (by simp [h]), if_pos h2]
theorem reg_ok {n : Int} {es : List Ed} {rg : List Int} {fr to : Int} (h : nodesR n es [[fr, to]] = 0) (h2 : (rg.length : Int) = n) : regR n es rg fr to = match lpR (Re (uppR n es rg fr to)) (Tl [to]) fr with
    | some p => (p.1, wayR (Re (uppR n es rg fr to)) (Tl [to]) p.2.toNat fr, true, 0)
    | none => (0, [], false, 0) := by
  unfold regR; rw [if_neg (by simp [h]), if_neg (by simp [h2])]; all_goals rfl
def upJ (n : Int) (es : List Ed) (rg : List Int) (fr to : Int) (k : Nat) : List Ed := croJ es rg es.length ++ shK es rg (brdJ n es rg fr to es.length) n.toNat k
theorem upJ_len {n : Int} {es : List Ed} {rg : List Int} {fr to : Int} (hv : validR n es = 0) {k : Nat} (hk : k ≤ n.toNat) : (upJ n es rg fr to k).length ≤ 1004000 := by
  obtain ⟨v1, v2, v3, _⟩ := valid_iff hv
  unfold upJ
  rw [List.length_append]
  have h1 := croJ_len es rg es.length
  have h2 := shK_len es rg (brdJ n es rg fr to es.length) n.toNat k
  have h3 : k * n.toNat ≤ 1000 * 1000 := Nat.mul_le_mul (by omega) (by omega)
  omega
end
end Go.Proofs.Ythgclbohlcgdgaa.Eng
set_option linter.unusedVariables false
set_option linter.unusedSimpArgs false
namespace Go.Proofs.Ythgclbohlcgdgaa.Eng
open Go
set_option maxRecDepth 100000
noncomputable section
def S33a (n : Int) (es : List Ed) (rg : List Int) (fr to : Int) (bd : List Bool) (wi up : List Ed) (i : Int) : SL := ⟨[.int .i64 n, .undef, .sl I rg, .int .i64 fr, .int .i64 to, .undef, .undef, .undef, .undef, .undef, .undef, .undef, .undef, .undef, .undef, .own 0, .own 1, .own 2, .undef, .undef, .undef, .undef, .undef, .undef, .undef, .undef, .undef, .undef, .undef, .undef, .undef, .undef, .undef, .undef, .undef, .undef, .undef, .undef, .undef, .undef, .undef, .undef, .undef, .undef, .undef, .undef, .undef, .undef, .undef, .undef, .undef, .undef, .undef, .undef, .undef, .undef, .sl eT es, .int .i64 es.length, .int .i64 i, .undef, .undef, .undef, .undef, .undef, .undef, .undef, .undef, .undef, .undef, .undef, .undef, .undef, .undef, .undef, .undef, .undef, .undef, .undef, .undef, .undef, .undef, .undef, .undef, .undef, .undef, .undef, .undef, .undef, .undef, .undef, .undef, .undef, .undef, .undef, .undef, .undef, .undef, .undef, .undef, .undef, .undef, .undef, .undef, .undef, .undef, .undef, .undef, .undef, .undef, .undef, .undef, .undef, .undef, .undef, .undef, .undef, .undef, .undef, .undef, .undef, .undef, .undef, .undef, .undef, .undef, .undef, .undef, .undef, .undef, .undef, .undef, .undef, .undef, .undef, .undef, .undef, .undef, .undef, .undef, .undef, .undef, .undef, .undef, .undef, .undef, .undef, .undef], [(0, .arr .bool bd), (1, .arr eT up), (2, .arr eT wi)], 3⟩
def S33b (n fr to : Int) (bd : List Bool) (wi up : List Ed) (k : Int) : SL := ⟨[.int .i64 n, .undef, .undef, .int .i64 fr, .int .i64 to, .undef, .undef, .undef, .undef, .undef, .undef, .undef, .undef, .undef, .undef, .own 0, .own 1, .own 2, .undef, .undef, .undef, .undef, .undef, .undef, .undef, .undef, .undef, .undef, .undef, .undef, .undef, .undef, .undef, .undef, .undef, .undef, .undef, .undef, .undef, .undef, .undef, .undef, .undef, .undef, .undef, .undef, .undef, .undef, .undef, .undef, .undef, .undef, .undef, .undef, .undef, .undef, .undef, .undef, .undef, .undef, .undef, .undef, .undef, .undef, .undef, .undef, .undef, .undef, .undef, .undef, .undef, .undef, .undef, .undef, .undef, .undef, .undef, .undef, .undef, .undef, .undef, .undef, .undef, .undef, .undef, .undef, .undef, .undef, .undef, .undef, .int .i64 n, .int .i64 k, .undef, .undef, .undef, .undef, .undef, .undef, .undef, .undef, .undef, .undef, .undef, .undef, .undef, .undef, .undef, .undef, .undef, .undef, .undef, .undef, .undef, .undef, .undef, .undef, .undef, .undef, .undef, .undef, .undef, .undef, .undef, .undef, .undef, .undef, .undef, .undef, .undef, .undef, .undef, .undef, .undef, .undef, .undef, .undef, .undef, .undef, .undef, .undef, .undef, .undef, .undef, .undef, .undef, .undef, .undef], [(0, .arr .bool bd), (1, .arr eT up), (2, .arr eT wi)], 3⟩
def S33c (n fr to : Int) (bd : List Bool) (wi : List Ed) (k : Int) (ls : List Int) (up : List Ed) (j : Int) : SL := ⟨[.int .i64 n, .undef, .undef, .int .i64 fr, .int .i64 to, .undef, .undef, .undef, .undef, .undef, .undef, .undef, .undef, .undef, .undef, .own 0, .own 1, .own 2, .undef, .undef, .int .i64 k, .undef, .undef, .undef, .undef, .undef, .undef, .undef, .undef, .undef, .undef, .undef, .undef, .undef, .undef, .undef, .undef, .undef, .undef, .undef, .undef, .undef, .undef, .undef, .undef, .undef, .undef, .undef, .undef, .undef, .undef, .undef, .undef, .undef, .undef, .undef, .undef, .undef, .undef, .undef, .undef, .undef, .undef, .undef, .undef, .undef, .undef, .undef, .undef, .undef, .undef, .undef, .undef, .undef, .undef, .undef, .undef, .undef, .undef, .undef, .undef, .undef, .undef, .undef, .undef, .undef, .undef, .undef, .undef, .undef, .int .i64 n, .int .i64 k, .undef, .undef, .undef, .undef, .undef, .undef, .undef, .undef, .undef, .undef, .undef, .undef, .undef, .undef, .own 3, .int .i64 ls.length, .int .i64 j, .undef, .undef, .undef, .undef, .undef, .undef, .undef, .undef, .undef, .undef, .undef, .undef, .undef, .undef, .undef, .undef, .undef, .undef, .undef, .undef, .undef, .undef, .undef, .undef, .undef, .undef, .undef, .undef, .undef, .undef, .undef, .undef, .undef, .undef, .undef, .undef, .undef, .undef], [(0, .arr .bool bd), (1, .arr eT up), (2, .arr eT wi), (3, .arr I ls)], 4⟩
def E33 : Env := ⟨tab, [(19, K19), (36, K36), (27, K27), (49, K49)], fun n => match n with | 13 => some ([0, 2, 3, 4, 15, 16, 17, 56, 57, 58], [(16, eT), (17, eT)], []) | 22 => some ([0, 3, 4, 15, 16, 17, 90, 91], [], []) | 27 => some ([0, 3, 4, 15, 16, 17, 20, 90, 91, 106, 107, 108], [], []) | _ => none⟩
def K33 : Fn1 := ⟨.fld I (.fld (.sl eT) (.fld (.sl I) (.fld I (.one I)))), .fld I (.fld (.sl I) (.fld .bool (.one I))), fun _ => [], fun (a : Int × List Ed × List Int × Int × Int) => regR a.1 a.2.1 a.2.2.1 a.2.2.2.1 a.2.2.2.2⟩
set_option maxHeartbeats 4000000 in
theorem k33 : FnOk Go.Proofs.Try.prog 33 K33 := by
  refine fn_ok (E := E33) (TOk.of tab_told) (AllOk.cons k19 (.cons k36 (.cons k27 (.cons k49 .nil)))).at_ mix Go.Proofs.Try.func33 rfl rfl (by kernel_rfl) K33 ?_
  rintro ⟨(n : Int), (es : List Ed), (rg : List Int), (fr : Int), (to : Int)⟩ hp
  clear hp
  conv => whnf
  refine cond_intro (fun hv0 => ?_) (fun hv0 => ?_)
  · have hv0 : (!decide (validR n es = 0)) = true := hv0
    have hv0 : ¬ (validR n es = 0) := fun e => absurd hv0 (by rw [decide_eq_true e]; decide)
    have hnd : ¬ nodesR n es [[fr, to]] = 0 := fun h => hv0 (nodes_iff h).1
    have hne : nodesR n es [[fr, to]] = validR n es := by unfold nodesR; rw [if_pos hv0]
    conv => whnf
    show (0, [], false, validR n es) = regR n es rg fr to
    rw [reg_bad hnd, hne]
  have hv0 : (!decide (validR n es = 0)) = false := hv0
  have hv0 : validR n es = 0 := Decidable.byContradiction fun e => absurd hv0 (by rw [decide_eq_false e]; decide)
  conv => whnf
  refine cond_intro (fun ha1 => ?_) (fun ha1 => ?_)
  · have ha1 : (!(isR n fr)) = true := ha1
    have ha1 : (isR n fr) = false := by cases e : (isR n fr) with | false => rfl | true => exact absurd ha1 (by rw [e]; decide)
    have hne : nodesR n es [[fr, to]] = 2 := by rw [nodes1b hv0, if_neg (by rw [ha1]; simp)]
    conv => whnf
    show (0, [], false, 2) = regR n es rg fr to
    rw [reg_bad (by rw [hne]; decide), hne]
  have ha1 : (!(isR n fr)) = false := ha1
  have ha1 : (isR n fr) = true := by cases e : (isR n fr) with | true => rfl | false => exact absurd ha1 (by rw [e]; decide)
  conv => whnf
  refine cond_intro (fun ha2 => ?_) (fun ha2 => ?_)
  · have ha2 : (!(isR n to)) = true := ha2
    have ha2 : (isR n to) = false := by cases e : (isR n to) with | false => rfl | true => exact absurd ha2 (by rw [e]; decide)
    have hne : nodesR n es [[fr, to]] = 2 := by rw [nodes1b hv0, if_neg (by rw [ha2]; simp)]
    conv => whnf
    show (0, [], false, 2) = regR n es rg fr to
    rw [reg_bad (by rw [hne]; decide), hne]
  have ha2 : (!(isR n to)) = false := ha2
  have ha2 : (isR n to) = true := by cases e : (isR n to) with | true => rfl | false => exact absurd ha2 (by rw [e]; decide)
  have hnd : nodesR n es [[fr, to]] = 0 := by rw [nodes1b hv0, if_pos ⟨ha1, ha2⟩]
  obtain ⟨hv, hnn⟩ := nodes_iff hnd
  have hes := valid_es hv
  obtain ⟨v1, v2, v3, _⟩ := valid_iff hv
  have hf : 0 ≤ fr ∧ fr < n := hnn [fr, to] List.mem_cons_self fr List.mem_cons_self
  have ht : 0 ≤ to ∧ to < n := hnn [fr, to] List.mem_cons_self to (List.mem_cons_of_mem _ List.mem_cons_self)
  have hwv := wit_valid (rg := rg) hv
  obtain ⟨huo, hul0⟩ := upp_ok (rg := rg) (fr := fr) (to := to) hv
  conv => whnf
  refine cond_intro (fun hgl => ?_) (fun hgl => ?_)
  · have hgl : (!decide ((rg.length : Int) = n)) = true := hgl
    have hgl : ¬ ((rg.length : Int) = n) := fun e => absurd hgl (by rw [decide_eq_true e]; decide)
    conv => whnf
    show (0, [], false, 8) = regR n es rg fr to
    rw [reg_fit hnd hgl]
  have hgl : (!decide ((rg.length : Int) = n)) = false := hgl
  have hgl : (rg.length : Int) = n := Decidable.byContradiction fun e => absurd hgl (by rw [decide_eq_false e]; decide)
  conv => whnf
  refine ⟨v1, ?_⟩
  conv => whnf
  refine ⟨Int.le_refl _, ?_⟩
  conv => whnf
  refine ⟨show n * 1 ≤ 70368744177664 by omega, ?_⟩
  conv => whnf
  refine ⟨show n ≤ 70368744177664 by omega, ?_⟩
  conv => whnf
  refine ⟨hf.1, ?_⟩
  conv => whnf
  refine ⟨show fr < ((List.replicate n.toNat false).length : Int) by rw [List.length_replicate]; omega, ?_⟩
  conv => whnf
  refine ⟨ht.1, ?_⟩
  conv => whnf
  refine ⟨show to < (((List.replicate n.toNat false).set fr.toNat true).length : Int) by rw [List.length_set, List.length_replicate]; omega, ?_⟩
  conv => whnf
  refine loop_rule (fun i => S33a n es rg fr to (brdJ n es rg fr to i.toNat) (witJ es rg i.toNat) (croJ es rg i.toNat) i) (fun i => ((es.length : Int) - i).toNat) (fun i => 0 ≤ i ∧ i ≤ es.length) ?_ 0 (by kernel_rfl) ?_ ⟨by omega, by omega⟩
  case refine_2 => rfl
  rintro i ⟨h0, i1⟩
  conv => whnf
  refine cond_intro (fun hlt => ?_) (fun hlt => ?_)
  · have hlt : i < (es.length : Int) := @of_decide_eq_true _ _ hlt
    have wi : IntKind.i64.wrap (i + 1) = i + 1 := wrap_eq (by omega) (by omega)
    have ei : (i + 1).toNat = i.toNat + 1 := by omega
    have hil : i.toNat < es.length := by omega
    have hee := hes.ok _ (gE_mem hil)
    have hbl := brdJ_len (n := n) (es := es) (rg := rg) (fr := fr) (to := to) i.toNat (by omega)
    have hwl := witJ_len es rg i.toNat
    have hul := croJ_len es rg i.toNat
    have f1 : (gE es i.toNat).1 < (rg.length : Int) := by omega
    have t1 : (gE es i.toNat).2.1 < (rg.length : Int) := by omega
    have f2 : (gE es i.toNat).1 < ((brdJ n es rg fr to i.toNat).length : Int) := by omega
    have t2 : (gE es i.toNat).2.1 < (((brdJ n es rg fr to i.toNat).set (gE es i.toNat).1.toNat true).length : Int) := by rw [List.length_set]; omega
    conv => whnf
    refine ⟨h0, ?_⟩
    conv => whnf
    refine ⟨hlt, ?_⟩
    conv => whnf
    refine ⟨hee.1.1, ?_⟩
    conv => whnf
    refine ⟨f1, ?_⟩
    conv => whnf
    refine ⟨hee.2.1.1, ?_⟩
    conv => whnf
    refine ⟨t1, ?_⟩
    conv => whnf
    refine cond_intro (fun c1 => ?_) (fun c1 => ?_)
    · have c1 : (!decide (gI rg (gE es i.toNat).1.toNat = gI rg (gE es i.toNat).2.1.toNat)) = true := c1
      have c1 : ¬ (gI rg (gE es i.toNat).1.toNat = gI rg (gE es i.toNat).2.1.toNat) := fun e => absurd c1 (by rw [decide_eq_true e]; decide)
      have hc : crossB rg (gE es i.toNat) = true := by unfold crossB; rw [decide_eq_false c1]; rfl
      conv => whnf
      refine ⟨hee.1.1, ?_⟩
      conv => whnf
      refine ⟨f2, ?_⟩
      conv => whnf
      refine ⟨hee.2.1.1, ?_⟩
      conv => whnf
      refine ⟨t2, ?_⟩
      conv => whnf
      refine ⟨show ((croJ es rg i.toNat).length + 1) * 24 ≤ 70368744177664 by omega, ?_⟩
      conv => whnf
      refine ⟨show (croJ es rg i.toNat).length + 1 ≤ 70368744177664 by omega, ?_⟩
      conv => whnf
      refine ⟨i + 1, ?_, ⟨by omega, by omega⟩, by omega⟩
      exact Eq.trans (b := S33a n es rg fr to (((brdJ n es rg fr to i.toNat).set (gE es i.toNat).1.toNat true).set (gE es i.toNat).2.1.toNat true) (witJ es rg i.toNat) ((croJ es rg i.toNat) ++ [(gE es i.toNat)]) (IntKind.i64.wrap (i + 1))) rfl (by rw [wi, ei, brdJ_succ hil, witJ_succ hil, croJ_succ hil]; unfold brdS; rw [if_pos hc, if_pos hc, if_pos hc])
    have c1 : (!decide (gI rg (gE es i.toNat).1.toNat = gI rg (gE es i.toNat).2.1.toNat)) = false := c1
    have c1 : gI rg (gE es i.toNat).1.toNat = gI rg (gE es i.toNat).2.1.toNat := Decidable.byContradiction fun e => absurd c1 (by rw [decide_eq_false e]; decide)
    have hc : crossB rg (gE es i.toNat) = false := by unfold crossB; rw [decide_eq_true c1]; rfl
    conv => whnf
    refine ⟨show ((witJ es rg i.toNat).length + 1) * 24 ≤ 70368744177664 by omega, ?_⟩
    conv => whnf
    refine ⟨show (witJ es rg i.toNat).length + 1 ≤ 70368744177664 by omega, ?_⟩
    conv => whnf
    refine ⟨i + 1, ?_, ⟨by omega, by omega⟩, by omega⟩
    exact Eq.trans (b := S33a n es rg fr to (brdJ n es rg fr to i.toNat) ((witJ es rg i.toNat) ++ [(gE es i.toNat)]) (croJ es rg i.toNat) (IntKind.i64.wrap (i + 1))) rfl (by rw [wi, ei, brdJ_succ hil, witJ_succ hil, croJ_succ hil]; unfold brdS; rw [if_neg (by rw [hc]; decide), if_neg (by rw [hc]; decide), if_neg (by rw [hc]; decide)])
  have hlt : ¬ (i < (es.length : Int)) := @of_decide_eq_false _ _ hlt
  rw [show i.toNat = es.length by omega]
  conv => whnf
  refine loop_rule (fun k => S33b n fr to (brdJ n es rg fr to es.length) (witR es rg) (upJ n es rg fr to k.toNat) k) (fun k => (n - k).toNat) (fun k => 0 ≤ k ∧ k ≤ n) ?_ 0 (by kernel_rfl) ?_ ⟨Int.le_refl _, v1⟩
  case refine_2 => exact Eq.trans (b := S33b n fr to (brdJ n es rg fr to es.length) (witR es rg) (croJ es rg es.length) 0) rfl (by unfold upJ; rw [show shK es rg (brdJ n es rg fr to es.length) n.toNat (0 : Int).toNat = [] from rfl, List.append_nil])
  rintro k ⟨k0, k1⟩
  have hbE := brdJ_len (n := n) (es := es) (rg := rg) (fr := fr) (to := to) es.length (Nat.le_refl _)
  conv => whnf
  refine cond_intro (fun klt => ?_) (fun klt => ?_)
  · have klt : k < n := @of_decide_eq_true _ _ klt
    have wk : IntKind.i64.wrap (k + 1) = k + 1 := wrap_eq (by omega) (by omega)
    have ek : (k + 1).toNat = k.toNat + 1 := by omega
    have hkn := klt
    have kb : k < ((brdJ n es rg fr to es.length).length : Int) := by omega
    conv => whnf
    refine ⟨k0, ?_⟩
    conv => whnf
    refine ⟨kb, ?_⟩
    conv => whnf
    refine cond_intro (fun ib => ?_) (fun ib => ?_)
    · have ib : (!(gB (brdJ n es rg fr to es.length) k.toNat)) = true := ib
      have ib : (gB (brdJ n es rg fr to es.length) k.toNat) = false := by cases e : (gB (brdJ n es rg fr to es.length) k.toNat) with | false => rfl | true => exact absurd ib (by rw [e]; decide)
      conv => whnf
      refine ⟨k + 1, ?_, ⟨by omega, by omega⟩, by omega⟩
      exact Eq.trans (b := S33b n fr to (brdJ n es rg fr to es.length) (witR es rg) (upJ n es rg fr to k.toNat) (IntKind.i64.wrap (k + 1))) rfl (by rw [wk, ek]; unfold upJ; rw [shK_succ, if_neg (by rw [ib]; decide), List.append_nil])
    have ib : (!(gB (brdJ n es rg fr to es.length) k.toNat)) = false := ib
    have ib : (gB (brdJ n es rg fr to es.length) k.toNat) = true := by cases e : (gB (brdJ n es rg fr to es.length) k.toNat) with | true => rfl | false => exact absurd ib (by rw [e]; decide)
    conv => whnf
    refine loop_rule (fun j => S33c n fr to (brdJ n es rg fr to es.length) (witR es rg) k (allsR n (witR es rg) k).1 ((upJ n es rg fr to k.toNat) ++ (shJ es rg (brdJ n es rg fr to es.length) k.toNat j.toNat)) j) (fun j => (n - j).toNat) (fun j => 0 ≤ j ∧ j ≤ n) ?_ 0 (by kernel_rfl) ?_ ⟨Int.le_refl _, v1⟩
    case refine_2 => exact Eq.trans (b := S33c n fr to (brdJ n es rg fr to es.length) (witR es rg) k (allsR n (witR es rg) k).1 ((upJ n es rg fr to k.toNat)) 0) rfl (by rw [show shJ es rg (brdJ n es rg fr to es.length) k.toNat (0 : Int).toNat = [] from rfl, List.append_nil])
    rintro j ⟨j0, j1⟩
    have hlsl : ((allsR n (witR es rg) k).1.length : Int) = n := by rw [(alls_at hwv ⟨k0, hkn⟩ (k := 0) (by omega)).1]; omega
    conv => whnf
    refine cond_intro (fun jlt => ?_) (fun jlt => ?_)
    · have jlt : j < ((allsR n (witR es rg) k).1.length : Int) := @of_decide_eq_true _ _ jlt
      have jlt' := jlt
      rw [hlsl] at jlt'
      have wj : IntKind.i64.wrap (j + 1) = j + 1 := wrap_eq (by omega) (by omega)
      have ej : (j + 1).toNat = j.toNat + 1 := by omega
      have hval : fC (witR es rg) k j = gI (allsR n (witR es rg) k).1 j.toNat := (fC_at hwv ⟨k0, hkn⟩ (by omega)).symm
      have ek' : ((k.toNat : Nat) : Int) = k := by omega
      have ej' : ((j.toNat : Nat) : Int) = j := by omega
      have hsq := sh_iff (es := es) (rg := rg) (bd := (brdJ n es rg fr to es.length)) (k := k.toNat) (j := j.toNat)
      rw [ek', ej'] at hsq
      have hsl := shJ_len es rg (brdJ n es rg fr to es.length) k.toNat j.toNat
      have hul := upJ_len (rg := rg) (fr := fr) (to := to) hv (k := k.toNat) (by omega)
      have hap : ((upJ n es rg fr to k.toNat) ++ (shJ es rg (brdJ n es rg fr to es.length) k.toNat j.toNat)).length ≤ 1010000 := by rw [List.length_append]; omega
      have jb : j < ((brdJ n es rg fr to es.length).length : Int) := by omega
      have hsh : shE es rg k.toNat j.toNat = (k, j, gI (allsR n (witR es rg) k).1 j.toNat) := by unfold shE; rw [ek', ej', hval]
      conv => whnf
      refine ⟨j0, ?_⟩
      conv => whnf
      refine ⟨jlt, ?_⟩
      conv => whnf
      refine cond_intro (fun i1 => ?_) (fun i1 => ?_)
      · have i1 : 0 ≤ gI (allsR n (witR es rg) k).1 j.toNat := @of_decide_eq_true _ _ i1
        have hnn : 0 ≤ fC (witR es rg) k j := by rw [hval]; exact i1
        conv => whnf
        refine cond_intro (fun i2 => ?_) (fun i2 => ?_)
        · have i2 : (!decide (k = j)) = true := i2
          have i2 : ¬ (k = j) := fun e => absurd i2 (by rw [decide_eq_true e]; decide)
          conv => whnf
          refine ⟨j0, ?_⟩
          conv => whnf
          refine ⟨jb, ?_⟩
          conv => whnf
          refine cond_intro (fun i3 => ?_) (fun i3 => ?_)
          · have i3 : (gB (brdJ n es rg fr to es.length) j.toNat) = true := i3
            conv => whnf
            refine ⟨show (((upJ n es rg fr to k.toNat) ++ (shJ es rg (brdJ n es rg fr to es.length) k.toNat j.toNat)).length + 1) * 24 ≤ 70368744177664 by omega, ?_⟩
            conv => whnf
            refine ⟨show ((upJ n es rg fr to k.toNat) ++ (shJ es rg (brdJ n es rg fr to es.length) k.toNat j.toNat)).length + 1 ≤ 70368744177664 by omega, ?_⟩
            conv => whnf
            refine ⟨j + 1, ?_, ⟨by omega, by omega⟩, by omega⟩
            exact Eq.trans (b := S33c n fr to (brdJ n es rg fr to es.length) (witR es rg) k (allsR n (witR es rg) k).1 (((upJ n es rg fr to k.toNat) ++ (shJ es rg (brdJ n es rg fr to es.length) k.toNat j.toNat)) ++ [(k, j, gI (allsR n (witR es rg) k).1 j.toNat)]) (IntKind.i64.wrap (j + 1))) rfl (by rw [wj, ej, shJ_succ, if_pos (hsq.2 ⟨hnn, fun e => i2 (by omega), i3⟩), hsh, List.append_assoc])
          have i3 : (gB (brdJ n es rg fr to es.length) j.toNat) = false := i3
          conv => whnf
          refine ⟨j + 1, ?_, ⟨by omega, by omega⟩, by omega⟩
          exact Eq.trans (b := S33c n fr to (brdJ n es rg fr to es.length) (witR es rg) k (allsR n (witR es rg) k).1 ((upJ n es rg fr to k.toNat) ++ (shJ es rg (brdJ n es rg fr to es.length) k.toNat j.toNat)) (IntKind.i64.wrap (j + 1))) rfl (by rw [wj, ej, shJ_succ, if_neg (fun h => by have h := hsq.1 h; exact absurd h.2.2 (by rw [i3]; decide))])
        have i2 : (!decide (k = j)) = false := i2
        have i2 : k = j := Decidable.byContradiction fun e => absurd i2 (by rw [decide_eq_false e]; decide)
        conv => whnf
        refine ⟨j + 1, ?_, ⟨by omega, by omega⟩, by omega⟩
        exact Eq.trans (b := S33c n fr to (brdJ n es rg fr to es.length) (witR es rg) k (allsR n (witR es rg) k).1 ((upJ n es rg fr to k.toNat) ++ (shJ es rg (brdJ n es rg fr to es.length) k.toNat j.toNat)) (IntKind.i64.wrap (j + 1))) rfl (by rw [wj, ej, shJ_succ, if_neg (fun h => by have h := hsq.1 h; exact h.2.1 (by omega))])
      have i1 : ¬ (0 ≤ gI (allsR n (witR es rg) k).1 j.toNat) := @of_decide_eq_false _ _ i1
      conv => whnf
      refine ⟨j + 1, ?_, ⟨by omega, by omega⟩, by omega⟩
      exact Eq.trans (b := S33c n fr to (brdJ n es rg fr to es.length) (witR es rg) k (allsR n (witR es rg) k).1 ((upJ n es rg fr to k.toNat) ++ (shJ es rg (brdJ n es rg fr to es.length) k.toNat j.toNat)) (IntKind.i64.wrap (j + 1))) rfl (by rw [wj, ej, shJ_succ, if_neg (fun h => by have h := hsq.1 h; exact i1 (by rw [← hval]; exact h.1))])
    have jlt : ¬ (j < ((allsR n (witR es rg) k).1.length : Int)) := @of_decide_eq_false _ _ jlt
    rw [hlsl] at jlt
    rw [show j.toNat = n.toNat by omega]
    conv => whnf
    refine ⟨k + 1, ?_, ⟨by omega, by omega⟩, by omega⟩
    exact Eq.trans (b := S33b n fr to (brdJ n es rg fr to es.length) (witR es rg) ((upJ n es rg fr to k.toNat) ++ (shJ es rg (brdJ n es rg fr to es.length) k.toNat n.toNat)) (IntKind.i64.wrap (k + 1))) rfl (by rw [wk, ek]; unfold upJ; rw [shK_succ, if_pos ib, List.append_assoc])
  have klt : ¬ (k < n) := @of_decide_eq_false _ _ klt
  have hup : (upJ n es rg fr to k.toNat) = uppR n es rg fr to := by rw [show k.toNat = n.toNat by omega]; rfl
  rw [hup]
  conv => whnf
  refine ⟨show 0 ≤ n ∧ n ≤ 100000 by omega, ?_⟩
  conv => whnf
  refine ⟨show (uppR n es rg fr to).length ≤ 2000000 by omega, ?_⟩
  conv => whnf
  refine ⟨huo, ?_⟩
  conv => whnf
  refine ⟨hf, ?_⟩
  conv => whnf
  refine ⟨ht, ?_⟩
  conv => whnf
  show ((bestW n (uppR n es rg fr to) fr to).2.1, (bestW n (uppR n es rg fr to) fr to).1, (bestW n (uppR n es rg fr to) fr to).2.2, 0) = regR n es rg fr to
  rw [reg_ok hnd hgl]
  unfold bestW
  cases (lpR (Re (uppR n es rg fr to)) (Tl [to])) fr <;> rfl
end
end Go.Proofs.Ythgclbohlcgdgaa.Eng
set_option linter.unusedVariables false
set_option linter.unusedSimpArgs false
namespace Go.Proofs.Ythgclbohlcgdgaa.Eng
open Go
set_option maxRecDepth 100000
noncomputable section
def S32a (n : Int) (es : List Ed) (rg : List Int) (fr to : Int) (bd : List Bool) (wi up : List Ed) (i : Int) : SL := ⟨[.int .i64 n, .undef, .sl I rg, .int .i64 fr, .int .i64 to, .undef, .undef, .undef, .undef, .undef, .undef, .undef, .undef, .undef, .undef, .own 0, .own 1, .own 2, .undef, .undef, .undef, .undef, .undef, .undef, .undef, .undef, .undef, .undef, .undef, .undef, .undef, .undef, .undef, .undef, .undef, .undef, .undef, .undef, .undef, .undef, .undef, .undef, .undef, .undef, .undef, .undef, .undef, .undef, .undef, .sl eT es, .int .i64 es.length, .int .i64 i, .undef, .undef, .undef, .undef, .undef, .undef, .undef, .undef, .undef, .undef, .undef, .undef, .undef, .undef, .undef, .undef, .undef, .undef, .undef, .undef, .undef, .undef, .undef, .undef, .undef, .undef, .undef, .undef, .undef, .undef, .undef, .undef, .undef, .undef, .undef, .undef, .undef, .undef, .undef, .undef, .undef, .undef, .undef, .undef, .undef, .undef, .undef, .undef, .undef, .undef, .undef, .undef, .undef, .undef, .undef, .undef, .undef, .undef, .undef, .undef, .undef, .undef, .undef, .undef, .undef, .undef, .undef, .undef, .undef, .undef, .undef, .undef, .undef, .undef, .undef, .undef, .undef, .undef, .undef, .undef, .undef, .undef, .undef, .undef, .undef, .undef, .undef, .undef, .undef, .undef, .undef, .undef, .undef, .undef, .undef, .undef, .undef, .undef, .undef, .undef, .undef, .undef, .undef, .undef, .undef, .undef, .undef], [(0, .arr .bool bd), (1, .arr eT wi), (2, .arr eT up)], 3⟩
def S32b (n fr to : Int) (bd : List Bool) (g b : List (List Ed)) (up : List Ed) (k : Int) : SL := ⟨[.int .i64 n, .undef, .undef, .int .i64 fr, .int .i64 to, .undef, .undef, .undef, .undef, .undef, .undef, .undef, .undef, .undef, .undef, .own 0, .undef, .own 1, .undef, .undef, .own 2, .own 3, .undef, .undef, .undef, .undef, .undef, .undef, .undef, .undef, .undef, .undef, .undef, .undef, .undef, .undef, .undef, .undef, .undef, .undef, .undef, .undef, .undef, .undef, .undef, .undef, .undef, .undef, .undef, .undef, .undef, .undef, .undef, .undef, .undef, .undef, .undef, .undef, .undef, .undef, .undef, .undef, .undef, .undef, .undef, .undef, .undef, .undef, .undef, .undef, .undef, .undef, .undef, .undef, .undef, .undef, .undef, .undef, .undef, .undef, .undef, .undef, .undef, .undef, .undef, .undef, .undef, .undef, .undef, .undef, .int .i64 n, .int .i64 k, .undef, .undef, .undef, .undef, .undef, .undef, .undef, .undef, .undef, .undef, .undef, .undef, .undef, .undef, .undef, .undef, .undef, .undef, .undef, .undef, .undef, .undef, .undef, .undef, .undef, .undef, .undef, .undef, .undef, .undef, .undef, .undef, .undef, .undef, .undef, .undef, .undef, .undef, .undef, .undef, .undef, .undef, .undef, .undef, .undef, .undef, .undef, .undef, .undef, .undef, .undef, .undef, .undef, .undef, .undef, .undef, .undef, .undef, .undef, .undef, .undef, .undef, .undef, .undef, .undef, .undef, .undef], [(0, .arr .bool bd), (1, .arr eT up), (2, .arr (.sl eT) g), (3, .arr (.sl eT) b)], 4⟩
def S32c (n fr to : Int) (bd : List Bool) (g b : List (List Ed)) (k : Int) (ls : List Gl) (up : List Ed) (j : Int) : SL := ⟨[.int .i64 n, .undef, .undef, .int .i64 fr, .int .i64 to, .undef, .undef, .undef, .undef, .undef, .undef, .undef, .undef, .undef, .undef, .own 0, .undef, .own 1, .undef, .undef, .own 2, .own 3, .int .i64 k, .undef, .undef, .undef, .undef, .undef, .undef, .undef, .undef, .undef, .undef, .undef, .undef, .undef, .undef, .undef, .undef, .undef, .undef, .undef, .undef, .undef, .undef, .undef, .undef, .undef, .undef, .undef, .undef, .undef, .undef, .undef, .undef, .undef, .undef, .undef, .undef, .undef, .undef, .undef, .undef, .undef, .undef, .undef, .undef, .undef, .undef, .undef, .undef, .undef, .undef, .undef, .undef, .undef, .undef, .undef, .undef, .undef, .undef, .undef, .undef, .undef, .undef, .undef, .undef, .undef, .undef, .undef, .int .i64 n, .int .i64 k, .undef, .undef, .undef, .undef, .undef, .undef, .undef, .undef, .undef, .undef, .undef, .own 4, .int .i64 ls.length, .int .i64 j, .undef, .undef, .undef, .undef, .undef, .undef, .undef, .undef, .undef, .undef, .undef, .undef, .undef, .undef, .undef, .undef, .undef, .undef, .undef, .undef, .undef, .undef, .undef, .undef, .undef, .undef, .undef, .undef, .undef, .undef, .undef, .undef, .undef, .undef, .undef, .undef, .undef, .undef, .undef, .undef, .undef, .undef, .undef, .undef, .undef, .undef, .undef, .undef, .undef, .undef, .undef, .undef, .undef], [(0, .arr .bool bd), (1, .arr eT up), (2, .arr (.sl eT) g), (3, .arr (.sl eT) b), (4, .arr gT ls)], 5⟩
def E32 : Env := ⟨tab, [(37, K37), (38, .eff X38), (40, K40), (39, K39), (42, K42)], fun n => match n with | 10 => some ([0, 2, 3, 4, 15, 16, 17, 49, 50, 51], [(16, eT), (17, eT)], []) | 19 => some ([0, 3, 4, 15, 17, 20, 21, 90, 91], [], []) | 23 => some ([0, 3, 4, 15, 17, 20, 21, 22, 90, 91, 103, 104, 105], [], []) | _ => none⟩
def K32 : Fn1 := ⟨.fld I (.fld (.sl eT) (.fld (.sl I) (.fld I (.one I)))), .fld I (.fld (.sl I) (.fld .bool (.one I))), fun _ => [], fun (a : Int × List Ed × List Int × Int × Int) => regR a.1 a.2.1 a.2.2.1 a.2.2.2.1 a.2.2.2.2⟩
set_option maxHeartbeats 20000000 in
theorem k32 : FnOk Go.Proofs.Try.prog 32 K32 := by
  refine fn_ok (E := E32) (TOk.of tab_told) (AllOk.cons k37 (.consX k38 (.cons k40 (.cons k39 (.cons k42 .nil))))).at_ mix Go.Proofs.Try.func32 rfl rfl (by kernel_rfl) K32 ?_
  rintro ⟨(n : Int), (es : List Ed), (rg : List Int), (fr : Int), (to : Int)⟩ hp
  clear hp
  have hl1 : ∀ l ∈ [[fr, to]], l.length ≤ 140737488351232 := fun l hl => by rw [List.mem_singleton.1 hl]; show 2 ≤ _; omega
  conv => whnf
  refine ⟨show 1 ≤ 100000 by omega, ?_⟩
  conv => whnf
  refine ⟨hl1, ?_⟩
  conv => whnf
  refine cond_intro (fun hnd => ?_) (fun hnd => ?_)
  · have hnd : (!decide (nodesR n es [[fr, to]] = 0)) = true := hnd
    have hnd : ¬ (nodesR n es [[fr, to]] = 0) := fun e => absurd hnd (by rw [decide_eq_true e]; decide)
    conv => whnf
    show (0, [], false, nodesR n es [[fr, to]]) = regR n es rg fr to
    rw [reg_bad hnd]
  have hnd : (!decide (nodesR n es [[fr, to]] = 0)) = false := hnd
  have hnd : nodesR n es [[fr, to]] = 0 := Decidable.byContradiction fun e => absurd hnd (by rw [decide_eq_false e]; decide)
  obtain ⟨hv, hnn⟩ := nodes_iff hnd
  have hes := valid_es hv
  obtain ⟨v1, v2, v3, _⟩ := valid_iff hv
  have hf : 0 ≤ fr ∧ fr < n := hnn [fr, to] List.mem_cons_self fr List.mem_cons_self
  have ht : 0 ≤ to ∧ to < n := hnn [fr, to] List.mem_cons_self to (List.mem_cons_of_mem _ List.mem_cons_self)
  have hwv := wit_valid (rg := rg) hv
  obtain ⟨huo, hul0⟩ := upp_ok (rg := rg) (fr := fr) (to := to) hv
  conv => whnf
  refine cond_intro (fun hgl => ?_) (fun hgl => ?_)
  · have hgl : (!decide ((rg.length : Int) = n)) = true := hgl
    have hgl : ¬ ((rg.length : Int) = n) := fun e => absurd hgl (by rw [decide_eq_true e]; decide)
    conv => whnf
    show (0, [], false, 8) = regR n es rg fr to
    rw [reg_fit hnd hgl]
  have hgl : (!decide ((rg.length : Int) = n)) = false := hgl
  have hgl : (rg.length : Int) = n := Decidable.byContradiction fun e => absurd hgl (by rw [decide_eq_false e]; decide)
  conv => whnf
  refine ⟨v1, ?_⟩
  conv => whnf
  refine ⟨Int.le_refl _, ?_⟩
  conv => whnf
  refine ⟨show n * 1 ≤ 70368744177664 by omega, ?_⟩
  conv => whnf
  refine ⟨show n ≤ 70368744177664 by omega, ?_⟩
  conv => whnf
  refine ⟨hf.1, ?_⟩
  conv => whnf
  refine ⟨show fr < ((List.replicate n.toNat false).length : Int) by rw [List.length_replicate]; omega, ?_⟩
  conv => whnf
  refine ⟨ht.1, ?_⟩
  conv => whnf
  refine ⟨show to < (((List.replicate n.toNat false).set fr.toNat true).length : Int) by rw [List.length_set, List.length_replicate]; omega, ?_⟩
  conv => whnf
  refine loop_rule (fun i => S32a n es rg fr to (brdJ n es rg fr to i.toNat) (witJ es rg i.toNat) (croJ es rg i.toNat) i) (fun i => ((es.length : Int) - i).toNat) (fun i => 0 ≤ i ∧ i ≤ es.length) ?_ 0 (by kernel_rfl) ?_ ⟨by omega, by omega⟩
  case refine_2 => rfl
  rintro i ⟨h0, i1⟩
  conv => whnf
  refine cond_intro (fun hlt => ?_) (fun hlt => ?_)
  · have hlt : i < (es.length : Int) := @of_decide_eq_true _ _ hlt
    have wi : IntKind.i64.wrap (i + 1) = i + 1 := wrap_eq (by omega) (by omega)
    have ei : (i + 1).toNat = i.toNat + 1 := by omega
    have hil : i.toNat < es.length := by omega
    have hee := hes.ok _ (gE_mem hil)
    have hbl := brdJ_len (n := n) (es := es) (rg := rg) (fr := fr) (to := to) i.toNat (by omega)
    have hwl := witJ_len es rg i.toNat
    have hul := croJ_len es rg i.toNat
    have f1 : (gE es i.toNat).1 < (rg.length : Int) := by omega
    have t1 : (gE es i.toNat).2.1 < (rg.length : Int) := by omega
    have f2 : (gE es i.toNat).1 < ((brdJ n es rg fr to i.toNat).length : Int) := by omega
    have t2 : (gE es i.toNat).2.1 < (((brdJ n es rg fr to i.toNat).set (gE es i.toNat).1.toNat true).length : Int) := by rw [List.length_set]; omega
    conv => whnf
    refine ⟨h0, ?_⟩
    conv => whnf
    refine ⟨hlt, ?_⟩
    conv => whnf
    refine ⟨hee.1.1, ?_⟩
    conv => whnf
    refine ⟨f1, ?_⟩
    conv => whnf
    refine ⟨hee.2.1.1, ?_⟩
    conv => whnf
    refine ⟨t1, ?_⟩
    conv => whnf
    refine cond_intro (fun c1 => ?_) (fun c1 => ?_)
    · have c1 : (!decide (gI rg (gE es i.toNat).1.toNat = gI rg (gE es i.toNat).2.1.toNat)) = true := c1
      have c1 : ¬ (gI rg (gE es i.toNat).1.toNat = gI rg (gE es i.toNat).2.1.toNat) := fun e => absurd c1 (by rw [decide_eq_true e]; decide)
      have hc : crossB rg (gE es i.toNat) = true := by unfold crossB; rw [decide_eq_false c1]; rfl
      conv => whnf
      refine ⟨hee.1.1, ?_⟩
      conv => whnf
      refine ⟨f2, ?_⟩
      conv => whnf
      refine ⟨hee.2.1.1, ?_⟩
      conv => whnf
      refine ⟨t2, ?_⟩
      conv => whnf
      refine ⟨show ((croJ es rg i.toNat).length + 1) * 24 ≤ 70368744177664 by omega, ?_⟩
      conv => whnf
      refine ⟨show (croJ es rg i.toNat).length + 1 ≤ 70368744177664 by omega, ?_⟩
      conv => whnf
      refine ⟨i + 1, ?_, ⟨by omega, by omega⟩, by omega⟩
      exact Eq.trans (b := S32a n es rg fr to (((brdJ n es rg fr to i.toNat).set (gE es i.toNat).1.toNat true).set (gE es i.toNat).2.1.toNat true) (witJ es rg i.toNat) ((croJ es rg i.toNat) ++ [(gE es i.toNat)]) (IntKind.i64.wrap (i + 1))) rfl (by rw [wi, ei, brdJ_succ hil, witJ_succ hil, croJ_succ hil]; unfold brdS; rw [if_pos hc, if_pos hc, if_pos hc])
    have c1 : (!decide (gI rg (gE es i.toNat).1.toNat = gI rg (gE es i.toNat).2.1.toNat)) = false := c1
    have c1 : gI rg (gE es i.toNat).1.toNat = gI rg (gE es i.toNat).2.1.toNat := Decidable.byContradiction fun e => absurd c1 (by rw [decide_eq_false e]; decide)
    have hc : crossB rg (gE es i.toNat) = false := by unfold crossB; rw [decide_eq_true c1]; rfl
    conv => whnf
    refine ⟨show ((witJ es rg i.toNat).length + 1) * 24 ≤ 70368744177664 by omega, ?_⟩
    conv => whnf
    refine ⟨show (witJ es rg i.toNat).length + 1 ≤ 70368744177664 by omega, ?_⟩
    conv => whnf
    refine ⟨i + 1, ?_, ⟨by omega, by omega⟩, by omega⟩
    exact Eq.trans (b := S32a n es rg fr to (brdJ n es rg fr to i.toNat) ((witJ es rg i.toNat) ++ [(gE es i.toNat)]) (croJ es rg i.toNat) (IntKind.i64.wrap (i + 1))) rfl (by rw [wi, ei, brdJ_succ hil, witJ_succ hil, croJ_succ hil]; unfold brdS; rw [if_neg (by rw [hc]; decide), if_neg (by rw [hc]; decide), if_neg (by rw [hc]; decide)])
  have hlt : ¬ (i < (es.length : Int)) := @of_decide_eq_false _ _ hlt
  rw [show i.toNat = es.length by omega]
  have hwl := witJ_len es rg es.length
  have hml : ((witR es rg).map turnR).length = (witR es rg).length := List.length_map ..
  have hwl : (witR es rg).length ≤ es.length := hwl
  have hw := wit_ok (rg := rg) hes
  have hgl1 := graph_len n (witR es rg)
  have hgl2 := graph_len n ((witR es rg).map turnR)
  have hgw := graph_gok hw (by omega) v1
  conv => whnf
  refine ⟨show 0 ≤ n ∧ n ≤ 100000 by omega, ?_⟩
  conv => whnf
  refine ⟨show (witR es rg).length ≤ 2000000 by omega, ?_⟩
  conv => whnf
  refine ⟨show ∀ e ∈ (witR es rg), 0 ≤ e.1 ∧ e.1 < n from fun e he => (hw.ok e he).1, ?_⟩
  conv => whnf
  refine ⟨show (witR es rg).length ≤ 2000000 by omega, ?_⟩
  conv => whnf
  refine ⟨show 0 ≤ n ∧ n ≤ 100000 by omega, ?_⟩
  conv => whnf
  refine ⟨show ((witR es rg).map turnR).length ≤ 2000000 by omega, ?_⟩
  conv => whnf
  refine ⟨show ∀ e ∈ (witR es rg).map turnR, 0 ≤ e.1 ∧ e.1 < n from fun e he => (hw.turn.ok e he).1, ?_⟩
  conv => whnf
  refine loop_rule (fun (x : List Bool × List (List Ed) × List (List Ed) × List Ed × Int) => S32b n fr to x.1 x.2.1 x.2.2.1 x.2.2.2.1 x.2.2.2.2) (fun x => (n - x.2.2.2.2).toNat) (fun x => x.1 = (brdJ n es rg fr to es.length) ∧ x.2.1 = (graphR n (witR es rg)) ∧ x.2.2.1 = (graphR n ((witR es rg).map turnR)) ∧ x.2.2.2.1 = upJ n es rg fr to x.2.2.2.2.toNat ∧ 0 ≤ x.2.2.2.2 ∧ x.2.2.2.2 ≤ n) ?_ ((brdJ n es rg fr to es.length), (graphR n (witR es rg)), (graphR n ((witR es rg).map turnR)), (croJ es rg es.length), 0) (by kernel_rfl) ?_ ⟨rfl, rfl, rfl, by show (croJ es rg es.length) = upJ n es rg fr to (0 : Int).toNat; unfold upJ; rw [show shK es rg (brdJ n es rg fr to es.length) n.toNat (0 : Int).toNat = [] from rfl, List.append_nil], Int.le_refl _, v1⟩
  case refine_2 => rfl
  rintro ⟨BD, G1, G2, UP, k⟩ ⟨hBD, hG1, hG2, hUP, k0, k1⟩
  have hBD : BD = (brdJ n es rg fr to es.length) := hBD
  have hG1 : G1 = (graphR n (witR es rg)) := hG1
  have hG2 : G2 = (graphR n ((witR es rg).map turnR)) := hG2
  have hUP : UP = (upJ n es rg fr to k.toNat) := hUP
  have k0 : 0 ≤ k := k0
  have k1 : k ≤ n := k1
  have hbE := brdJ_len (n := n) (es := es) (rg := rg) (fr := fr) (to := to) es.length (Nat.le_refl _)
  rw [← hBD] at hbE
  rw [← hG1] at hgl1
  rw [← hG2] at hgl2
  have hgwG : GOk G1 := by rw [hG1]; exact hgw
  have hul := upJ_len (rg := rg) (fr := fr) (to := to) hv (k := k.toNat) (by omega)
  rw [← hUP] at hul
  conv => whnf
  refine cond_intro (fun klt => ?_) (fun klt => ?_)
  · have klt : k < n := @of_decide_eq_true _ _ klt
    have wk : IntKind.i64.wrap (k + 1) = k + 1 := wrap_eq (by omega) (by omega)
    have ek : (k + 1).toNat = k.toNat + 1 := by omega
    have kb : k < (BD.length : Int) := by omega
    conv => whnf
    refine ⟨k0, ?_⟩
    conv => whnf
    refine ⟨kb, ?_⟩
    conv => whnf
    refine cond_intro (fun ib => ?_) (fun ib => ?_)
    · have ib : (!(gB BD k.toNat)) = true := ib
      have ib : (gB BD k.toNat) = false := by cases e : (gB BD k.toNat) with | false => rfl | true => exact absurd ib (by rw [e]; decide)
      conv => whnf
      refine ⟨(BD, G1, G2, UP, k + 1), Eq.trans (b := S32b n fr to BD G1 G2 UP (IntKind.i64.wrap (k + 1))) rfl (by rw [wk]), ⟨hBD, hG1, hG2, ?_, by show 0 ≤ k + 1; omega, by show k + 1 ≤ n; omega⟩, by show (n - (k + 1)).toNat < (n - k).toNat; omega⟩
      show UP = upJ n es rg fr to (k + 1).toNat
      rw [hUP, ek]; unfold upJ; rw [shK_succ, ← hBD, if_neg (by rw [ib]; decide), List.append_nil]
    have ib : (!(gB BD k.toNat)) = false := ib
    have ib : (gB BD k.toNat) = true := by cases e : (gB BD k.toNat) with | true => rfl | false => exact absurd ib (by rw [e]; decide)
    conv => whnf
    refine ⟨show G2.length = G1.length ∧ G1.length ≤ 100000 by omega, ?_⟩
    conv => whnf
    refine ⟨show 1 ≤ 1000000000 by omega, ?_⟩
    conv => whnf
    refine ⟨show ∀ q ∈ [k], 0 ≤ q ∧ q < (G1.length : Int) from fun q hq => by rw [List.mem_singleton.1 hq]; omega, ?_⟩
    conv => whnf
    refine ⟨hgwG, ?_⟩
    conv => whnf
    refine loop_rule (fun (y : List Gl × List Ed × Int) => S32c n fr to BD G1 G2 k y.1 y.2.1 y.2.2) (fun y => (n - y.2.2).toNat) (fun y => y.1 = (toG (Re ((witR es rg).map turnR)) (Tl [k]) n.toNat) ∧ y.2.1 = UP ++ (shJ es rg BD k.toNat y.2.2.toNat) ∧ 0 ≤ y.2.2 ∧ y.2.2 ≤ n) ?_ ((toG (Rb G1) (Tl [k]) G1.length), UP, 0) (by kernel_rfl) ?_ ⟨by show (toG (Rb G1) (Tl [k]) G1.length) = _; rw [hG1]; exact goals2_eq (wit_ok hes) _, by show UP = UP ++ shJ es rg BD k.toNat (0 : Int).toNat; rw [show shJ es rg BD k.toNat (0 : Int).toNat = [] from rfl, List.append_nil], Int.le_refl _, v1⟩
    case refine_2 => rfl
    rintro ⟨LS, UQ, j⟩ hy
    have hLS : LS = (toG (Re ((witR es rg).map turnR)) (Tl [k]) n.toNat) := hy.1
    have hUQ : UQ = UP ++ (shJ es rg BD k.toNat j.toNat) := hy.2.1
    have j0 : 0 ≤ j := hy.2.2.1
    have j1 : j ≤ n := hy.2.2.2
    clear hy
    have hlsl : (LS.length : Int) = n := by rw [hLS, toG_len]; omega
    conv => whnf
    refine cond_intro (fun jlt => ?_) (fun jlt => ?_)
    · have jlt : j < (LS.length : Int) := @of_decide_eq_true _ _ jlt
      have jlt' := jlt
      rw [hlsl] at jlt'
      have wj : IntKind.i64.wrap (j + 1) = j + 1 := wrap_eq (by omega) (by omega)
      have ej : (j + 1).toNat = j.toNat + 1 := by omega
      have hgk : gG LS j.toNat = glOf (lpR (Re ((witR es rg).map turnR)) (Tl [k]) ((j.toNat : Nat) : Int)) := by rw [hLS]; exact toG_at (by omega)
      rw [show ((j.toNat : Nat) : Int) = j by omega] at hgk
      have hval0 : 0 ≤ fC (witR es rg) k j → fC (witR es rg) k j = (gG LS j.toNat).1 := fun h => by obtain ⟨s, hs⟩ := fC_is h; rw [hgk, hs]; rfl
      have his : (gG LS j.toNat).2.2 = true ↔ 0 ≤ fC (witR es rg) k j := by
        rw [hgk]
        unfold fC
        cases e : lpR (Re ((witR es rg).map turnR)) (Tl [k]) j with
        | none => simp [glOf, costOf]
        | some p =>
          have := (lp_nonneg (wit_ok hes).turn.steps (show lpR (Re ((witR es rg).map turnR)) (Tl [k]) j = some (p.1, p.2) from e)).1
          simp [glOf, costOf, this]
      have ek' : ((k.toNat : Nat) : Int) = k := by omega
      have ej' : ((j.toNat : Nat) : Int) = j := by omega
      have hsq := sh_iff (es := es) (rg := rg) (bd := BD) (k := k.toNat) (j := j.toNat)
      rw [ek', ej'] at hsq
      have hsl := shJ_len es rg BD k.toNat j.toNat
      have hap : UQ.length ≤ 1010000 := by rw [hUQ, List.length_append]; omega
      have jb : j < (BD.length : Int) := by omega
      conv => whnf
      refine ⟨j0, ?_⟩
      conv => whnf
      refine ⟨jlt, ?_⟩
      conv => whnf
      refine cond_intro (fun i1 => ?_) (fun i1 => ?_)
      · have i1 : ((gG LS j.toNat).2.2) = true := i1
        have hnn := his.1 i1
        have hval := hval0 hnn
        have hsh : shE es rg k.toNat j.toNat = (k, j, (gG LS j.toNat).1) := by unfold shE; rw [ek', ej', hval]
        conv => whnf
        refine cond_intro (fun i2 => ?_) (fun i2 => ?_)
        · have i2 : (!decide (j = k)) = true := i2
          have i2 : ¬ (j = k) := fun e => absurd i2 (by rw [decide_eq_true e]; decide)
          conv => whnf
          refine ⟨j0, ?_⟩
          conv => whnf
          refine ⟨jb, ?_⟩
          conv => whnf
          refine cond_intro (fun i3 => ?_) (fun i3 => ?_)
          · have i3 : (gB BD j.toNat) = true := i3
            conv => whnf
            refine ⟨show (UQ.length + 1) * 24 ≤ 70368744177664 by omega, ?_⟩
            conv => whnf
            refine ⟨show UQ.length + 1 ≤ 70368744177664 by omega, ?_⟩
            conv => whnf
            have z2 : ¬ (j = k) := i2
            have z3 : gB BD j.toNat = true := i3
            refine ⟨(LS, (UQ ++ [(k, j, (gG LS j.toNat).1)]), j + 1), Eq.trans (b := S32c n fr to BD G1 G2 k LS (UQ ++ [(k, j, (gG LS j.toNat).1)]) (IntKind.i64.wrap (j + 1))) rfl (by rw [wj]), ⟨hLS, ?_, by show 0 ≤ j + 1; omega, by show j + 1 ≤ n; omega⟩, by show (n - (j + 1)).toNat < (n - j).toNat; omega⟩
            show (UQ ++ [(k, j, (gG LS j.toNat).1)]) = UP ++ (shJ es rg BD k.toNat (j + 1).toNat)
            rw [ej, shJ_succ, if_pos (hsq.2 ⟨hnn, fun e => z2 (by omega), z3⟩), hsh, hUQ, List.append_assoc]
          have i3 : (gB BD j.toNat) = false := i3
          conv => whnf
          have z3 : gB BD j.toNat = false := i3
          refine ⟨(LS, UQ, j + 1), Eq.trans (b := S32c n fr to BD G1 G2 k LS UQ (IntKind.i64.wrap (j + 1))) rfl (by rw [wj]), ⟨hLS, ?_, by show 0 ≤ j + 1; omega, by show j + 1 ≤ n; omega⟩, by show (n - (j + 1)).toNat < (n - j).toNat; omega⟩
          show UQ = UP ++ (shJ es rg BD k.toNat (j + 1).toNat)
          rw [ej, shJ_succ, if_neg (fun h => by have h := hsq.1 h; exact absurd h.2.2 (by rw [z3]; decide)), hUQ]
        have i2 : (!decide (j = k)) = false := i2
        have i2 : j = k := Decidable.byContradiction fun e => absurd i2 (by rw [decide_eq_false e]; decide)
        conv => whnf
        have z2 : j = k := i2
        refine ⟨(LS, UQ, j + 1), Eq.trans (b := S32c n fr to BD G1 G2 k LS UQ (IntKind.i64.wrap (j + 1))) rfl (by rw [wj]), ⟨hLS, ?_, by show 0 ≤ j + 1; omega, by show j + 1 ≤ n; omega⟩, by show (n - (j + 1)).toNat < (n - j).toNat; omega⟩
        show UQ = UP ++ (shJ es rg BD k.toNat (j + 1).toNat)
        rw [ej, shJ_succ, if_neg (fun h => by have h := hsq.1 h; exact h.2.1 (by omega)), hUQ]
      have i1 : ((gG LS j.toNat).2.2) = false := i1
      conv => whnf
      have z1 : (gG LS j.toNat).2.2 = false := i1
      refine ⟨(LS, UQ, j + 1), Eq.trans (b := S32c n fr to BD G1 G2 k LS UQ (IntKind.i64.wrap (j + 1))) rfl (by rw [wj]), ⟨hLS, ?_, by show 0 ≤ j + 1; omega, by show j + 1 ≤ n; omega⟩, by show (n - (j + 1)).toNat < (n - j).toNat; omega⟩
      show UQ = UP ++ (shJ es rg BD k.toNat (j + 1).toNat)
      rw [ej, shJ_succ, if_neg (fun h => by have h := hsq.1 h; exact absurd (his.2 h.1) (by rw [z1]; decide)), hUQ]
    have jlt : ¬ (j < (LS.length : Int)) := @of_decide_eq_false _ _ jlt
    rw [hlsl] at jlt
    rw [show j.toNat = n.toNat by omega] at hUQ
    conv => whnf
    refine ⟨(BD, G1, G2, UQ, k + 1), Eq.trans (b := S32b n fr to BD G1 G2 UQ (IntKind.i64.wrap (k + 1))) rfl (by rw [wk]), ⟨hBD, hG1, hG2, ?_, by show 0 ≤ k + 1; omega, by show k + 1 ≤ n; omega⟩, by show (n - (k + 1)).toNat < (n - k).toNat; omega⟩
    show UQ = upJ n es rg fr to (k + 1).toNat
    rw [hUQ, hUP, ek]; unfold upJ; rw [shK_succ, ← hBD, if_pos ib, List.append_assoc]
  have klt : ¬ (k < n) := @of_decide_eq_false _ _ klt
  have hup : UP = uppR n es rg fr to := by rw [hUP, show k.toNat = n.toNat by omega]; rfl
  rw [← hup] at huo hul0
  have hgu1 := graph_len n UP
  have hgu2 := graph_len n (UP.map turnR)
  have hmlu : (UP.map turnR).length = UP.length := List.length_map ..
  have hgou := graph_gok huo.turn (by rw [hmlu]; exact hul0) v1
  have hge := goals_eq huo [to]
  have hgfr : gG (toG (Re UP) (Tl [to]) n.toNat) fr.toNat = glOf ((lpR (Re UP) (Tl [to])) fr) := by rw [toG_at (by omega), show ((fr.toNat : Nat) : Int) = fr by omega]
  have frl : fr < ((toG (Rb (graphR n (UP.map turnR))) (Tl [to]) (graphR n (UP.map turnR)).length).length : Int) := by rw [hge, toG_len]; omega
  conv => whnf
  refine ⟨show 0 ≤ n ∧ n ≤ 100000 by omega, ?_⟩
  conv => whnf
  refine ⟨hul0, ?_⟩
  conv => whnf
  refine ⟨show ∀ e ∈ UP, 0 ≤ e.1 ∧ e.1 < n from fun e he => (huo.ok e he).1, ?_⟩
  conv => whnf
  refine ⟨hul0, ?_⟩
  conv => whnf
  refine ⟨show 0 ≤ n ∧ n ≤ 100000 by omega, ?_⟩
  conv => whnf
  refine ⟨show (UP.map turnR).length ≤ 2000000 by omega, ?_⟩
  conv => whnf
  refine ⟨show ∀ e ∈ UP.map turnR, 0 ≤ e.1 ∧ e.1 < n from fun e he => (huo.turn.ok e he).1, ?_⟩
  conv => whnf
  refine ⟨show (graphR n UP).length = (graphR n (UP.map turnR)).length ∧ (graphR n (UP.map turnR)).length ≤ 100000 by omega, ?_⟩
  conv => whnf
  refine ⟨show 1 ≤ 1000000000 by omega, ?_⟩
  conv => whnf
  refine ⟨show ∀ q ∈ [to], 0 ≤ q ∧ q < ((graphR n (UP.map turnR)).length : Int) from fun q hq => by rw [List.mem_singleton.1 hq]; omega, ?_⟩
  conv => whnf
  refine ⟨hgou, ?_⟩
  conv => whnf
  refine ⟨hf.1, ?_⟩
  conv => whnf
  refine ⟨frl, ?_⟩
  conv => whnf
  refine cond_intro (fun ui => ?_) (fun ui => ?_)
  · have ui : (!((gG (toG (Rb (graphR n (UP.map turnR))) (Tl [to]) (graphR n (UP.map turnR)).length) fr.toNat).2.2)) = true := ui
    have ui : ((gG (toG (Rb (graphR n (UP.map turnR))) (Tl [to]) (graphR n (UP.map turnR)).length) fr.toNat).2.2) = false := by cases e : ((gG (toG (Rb (graphR n (UP.map turnR))) (Tl [to]) (graphR n (UP.map turnR)).length) fr.toNat).2.2) with | false => rfl | true => exact absurd ui (by rw [e]; decide)
    rw [hge, hgfr] at ui
    have hp : (lpR (Re UP) (Tl [to])) fr = none := by cases e : (lpR (Re UP) (Tl [to])) fr with | none => rfl | some p => rw [e] at ui; cases ui
    conv => whnf
    show (0, [], false, 0) = regR n es rg fr to
    rw [reg_ok hnd hgl, ← hup, hp]
  have ui : (!((gG (toG (Rb (graphR n (UP.map turnR))) (Tl [to]) (graphR n (UP.map turnR)).length) fr.toNat).2.2)) = false := ui
  have ui : ((gG (toG (Rb (graphR n (UP.map turnR))) (Tl [to]) (graphR n (UP.map turnR)).length) fr.toNat).2.2) = true := by cases e : ((gG (toG (Rb (graphR n (UP.map turnR))) (Tl [to]) (graphR n (UP.map turnR)).length) fr.toNat).2.2) with | true => rfl | false => exact absurd ui (by rw [e]; decide)
  rw [hge, hgfr] at ui
  obtain ⟨p, hp⟩ := glOf_is ui
  have hp : (lpR (Re UP) (Tl [to])) fr = some (p.1, p.2) := hp
  have h0 := lp_nonneg huo.steps hp
  have hgv : gG (toG (Rb (graphR n (UP.map turnR))) (Tl [to]) (graphR n (UP.map turnR)).length) fr.toNat = (p.1, p.2 + 1, true) := by rw [hge, hgfr, hp]; rfl
  conv => whnf
  refine ⟨hf.1, ?_⟩
  conv => whnf
  refine ⟨frl, ?_⟩
  conv => whnf
  refine ⟨show WOk (graphR n UP) (toG (Rb (graphR n (UP.map turnR))) (Tl [to]) (graphR n (UP.map turnR)).length) by rw [hge]; exact walk_ok huo hul0 (by omega), ?_⟩
  conv => whnf
  refine ⟨show 0 ≤ fr ∧ fr < ((toG (Rb (graphR n (UP.map turnR))) (Tl [to]) (graphR n (UP.map turnR)).length).length : Int) ∧ 1 ≤ (gG (toG (Rb (graphR n (UP.map turnR))) (Tl [to]) (graphR n (UP.map turnR)).length) fr.toNat).2.1 from ⟨hf.1, frl, by rw [hgv]; show 1 ≤ p.2 + 1; omega⟩, ?_⟩
  conv => whnf
  show ((gG (toG (Rb (graphR n (UP.map turnR))) (Tl [to]) (graphR n (UP.map turnR)).length) fr.toNat).1, walkG (graphR n UP) (toG (Rb (graphR n (UP.map turnR))) (Tl [to]) (graphR n (UP.map turnR)).length) ((gG (toG (Rb (graphR n (UP.map turnR))) (Tl [to]) (graphR n (UP.map turnR)).length) fr.toNat).2.1 - 1).toNat fr, true, 0) = regR n es rg fr to
  rw [reg_ok hnd hgl, ← hup, hp, hgv, hge]
  show (p.1, walkG (graphR n UP) (toG (Re UP) (Tl [to]) n.toNat) (p.2 + 1 - 1).toNat fr, true, (0 : Int)) = (p.1, wayR (Re UP) (Tl [to]) p.2.toNat fr, true, 0)
  rw [show (p.2 + 1 - 1).toNat = p.2.toNat by omega, walk_way huo p.2.toNat fr p.1 (by rw [hp]; congr 2; omega) hf]
end
end Go.Proofs.Ythgclbohlcgdgaa.Eng
