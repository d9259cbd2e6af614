/- What the functions that the law reaches answer, each for every input. -/
import Derived.Test.YthgclbohlcgdgaaFnTwo
set_option linter.unusedVariables false
set_option linter.unusedSimpArgs false
set_option linter.unusedVariables false
set_option linter.unusedSimpArgs false
namespace Go.Proofs.Ythgclbohlcgdgaa.Eng
open Go
set_option maxRecDepth 100000
noncomputable section
-- the least cost of an edge between two nodes (as in the law's price)
def minT (u v : Int) (m : Int) (e : Ed) : Int := if e.1 = u ∧ e.2.1 = v ∧ (m < 0 ∨ e.2.2 < m) then e.2.2 else m
def minK (es : List Ed) (u v : Int) (j : Nat) : Int := (es.take j).foldl (minT u v) (-1)
theorem minK_succ {es : List Ed} {u v : Int} {j : Nat} (h : j < es.length) : minK es u v (j + 1) = minT u v (minK es u v j) (gE es j) := by
  unfold minK
  rw [List.take_succ_eq_append_getElem h, List.foldl_append, gE_eq h]
  rfl
theorem minK_spec {es : List Ed} (hc : ∀ e ∈ es, 0 ≤ e.2.2) (u v : Int) (j : Nat) (hj : j ≤ es.length) : (minK es u v j = -1 ∧ ∀ i, i < j → ¬ ((gE es i).1 = u ∧ (gE es i).2.1 = v)) ∨ (0 ≤ minK es u v j ∧ (∃ i, i < j ∧ ((gE es i).1 = u ∧ (gE es i).2.1 = v) ∧ (gE es i).2.2 = minK es u v j) ∧ ∀ i, i < j → ((gE es i).1 = u ∧ (gE es i).2.1 = v) → minK es u v j ≤ (gE es i).2.2) := by
  induction j with
  | zero => exact Or.inl ⟨rfl, fun i hi => by omega⟩
  | succ j ih =>
    have ih := ih (by omega)
    have hcj := hc _ (gE_mem (n := j) (l := es) (by omega))
    rw [minK_succ (by omega)]
    generalize minK es u v j = m at ih
    unfold minT
    split
    · rename_i g
      refine Or.inr ⟨hcj, ⟨j, by omega, ⟨g.1, g.2.1⟩, rfl⟩, fun i hi hi' => ?_⟩
      rcases Nat.lt_or_eq_of_le (Nat.le_of_lt_succ hi) with g' | g'
      · rcases ih with ⟨_, h2⟩ | ⟨h1, _, h4⟩
        · exact absurd hi' (h2 i g')
        · have := h4 i g' hi'
          rcases g.2.2 with g3 | g3 <;> omega
      · subst g'; exact Int.le_refl _
    · rename_i g
      rcases ih with ⟨h1, h2⟩ | ⟨h1, ⟨i, i1, i2⟩, h4⟩
      · refine Or.inl ⟨h1, fun i hi hi' => ?_⟩
        rcases Nat.lt_or_eq_of_le (Nat.le_of_lt_succ hi) with g' | g'
        · exact h2 i g' hi'
        · subst g'; exact g ⟨hi'.1, hi'.2, Or.inl (by omega)⟩
      · refine Or.inr ⟨h1, ⟨i, by omega, i2⟩, fun k hk hk' => ?_⟩
        rcases Nat.lt_or_eq_of_le (Nat.le_of_lt_succ hk) with g' | g'
        · exact h4 k g' hk'
        · subst g'
          have : ¬ (m < 0 ∨ (gE es k).2.2 < m) := fun h => g ⟨hk'.1, hk'.2, h⟩
          omega
/-- Told by its marks: the least of some numbers that are not below 0, or -1. -/
def IsMin (P : Int → Prop) (m : Int) : Prop := (m = -1 ∧ ∀ w, ¬ P w) ∨ (0 ≤ m ∧ P m ∧ ∀ w, P w → m ≤ w)
theorem IsMin.uniq {P Q : Int → Prop} {m m' : Int} (h : IsMin P m) (g : IsMin Q m') (h1 : ∀ w, P w → ∃ w', w' ≤ w ∧ Q w') (h2 : ∀ w, Q w → ∃ w', w' ≤ w ∧ P w') : m = m' := by
  rcases h with ⟨a1, a2⟩ | ⟨a1, a2, a3⟩ <;> rcases g with ⟨b1, b2⟩ | ⟨b1, b2, b3⟩
  · omega
  · obtain ⟨w, _, hw⟩ := h2 _ b2; exact absurd hw (a2 w)
  · obtain ⟨w, _, hw⟩ := h1 _ a2; exact absurd hw (b2 w)
  · obtain ⟨w, w1, hw⟩ := h1 _ a2
    obtain ⟨x, x1, hx⟩ := h2 _ b2
    have := b3 _ hw
    have := a3 _ hx
    omega
theorem minK_min {es : List Ed} (hc : ∀ e ∈ es, 0 ≤ e.2.2) (u v : Int) : IsMin (fun w => (u, v, w) ∈ es) (minK es u v es.length) := by
  rcases minK_spec hc u v es.length (Nat.le_refl _) with ⟨h1, h2⟩ | ⟨h1, ⟨i, i1, i2, i3⟩, h4⟩
  · refine Or.inl ⟨h1, fun w hw => ?_⟩
    obtain ⟨k, hk, ek⟩ := List.getElem_of_mem hw
    exact h2 k hk (by rw [gE_eq hk, ek]; exact ⟨rfl, rfl⟩)
  · refine Or.inr ⟨h1, ?_, fun w hw => ?_⟩
    · have : gE es i = (u, v, minK es u v es.length) := Prod.ext i2.1 (Prod.ext i2.2 i3)
      show (u, v, minK es u v es.length) ∈ es
      rw [← this]
      exact gE_mem i1
    · obtain ⟨k, hk, ek⟩ := List.getElem_of_mem hw
      have := h4 k hk (by rw [gE_eq hk, ek]; exact ⟨rfl, rfl⟩)
      rw [gE_eq hk, ek] at this
      exact this
theorem minK_row {n : Int} {es : List Ed} (he : EsOk n es) {u : Int} (hu : 0 ≤ u) (v : Int) : minK (gEs (graphR n es) u.toNat) u v (gEs (graphR n es) u.toNat).length = minK es u v es.length := by
  have hc : ∀ e ∈ es, 0 ≤ e.2.2 := fun e h => (he.ok e h).2.2.1
  have sub : ∀ w, (u, v, w) ∈ gEs (graphR n es) u.toNat → (u, v, w) ∈ es := fun w hw => (graph_sub hw).1
  refine (minK_min (fun e h => hc e (graph_sub h).1) u v).uniq (minK_min hc u v) (fun w hw => ⟨w, Int.le_refl _, sub w hw⟩) (fun w hw => ?_)
  have hb := he.ok _ hw
  simp only at hb
  obtain ⟨e', h1, h2, h3⟩ := graph_sup hw hb.1.1 hb.1.2
  simp only at h1 h2 h3
  refine ⟨e'.2.2, h3, ?_⟩
  have : e' = (u, v, e'.2.2) := Prod.ext (by rw [(graph_sub h1).2]; simp only; omega) (Prod.ext h2 rfl)
  rw [← this]
  exact h1
/-- A node's cost behind edges: its own, or that of the node that is taken up and the least of some edges. -/
def newC (cl : List Int) (dn : List Bool) (a : Int) (m : Int) (k : Nat) : Int := if gB dn k = true then gI cl k else if m < 0 then gI cl k else if gI cl k < 0 ∨ gI cl a.toNat + m < gI cl k then gI cl a.toNat + m else gI cl k
def relL (cl : List Int) (dn : List Bool) (a : Int) (es : List Ed) (j : Nat) : List Int := (List.range cl.length).map fun (k : Nat) => newC cl dn a (minK es a (k : Int) j) k
theorem relL_len (cl : List Int) (dn : List Bool) (a : Int) (es : List Ed) (j : Nat) : (relL cl dn a es j).length = cl.length := by simp [relL]
theorem relL_at {cl : List Int} {dn : List Bool} {a : Int} {es : List Ed} {j k : Nat} (h : k < cl.length) : gI (relL cl dn a es j) k = newC cl dn a (minK es a (k : Int) j) k := by
  rw [gI_eq (by rw [relL_len]; exact h)]; simp [relL]
theorem relL_zero (cl : List Int) (dn : List Bool) (a : Int) (es : List Ed) : relL cl dn a es 0 = cl := by
  apply List.ext_getElem
  · exact relL_len ..
  · intro k k1 k2
    rw [← gI_eq k1, ← gI_eq k2, relL_at k2]
    unfold newC
    have : minK es a (k : Int) 0 = -1 := rfl
    rw [this]
    split
    · rfl
    · rw [if_pos (by omega)]
theorem relL_self {cl : List Int} {dn : List Bool} {a : Int} {es : List Ed} {j : Nat} (ha : a.toNat < cl.length) (hd : gB dn a.toNat = true) : gI (relL cl dn a es j) a.toNat = gI cl a.toNat := by
  rw [relL_at ha]
  unfold newC
  rw [if_pos hd]
/-- One edge more. -/
theorem relL_step {cl : List Int} {dn : List Bool} {a : Int} {es : List Ed} {j : Nat} (hj : j < es.length) (hc : ∀ e ∈ es, 0 ≤ e.2.2) (ha : 0 ≤ gI cl a.toNat) (ht : 0 ≤ (gE es j).2.1 ∧ (gE es j).2.1 < (cl.length : Int)) :
    relL cl dn a es (j + 1) = if (gE es j).1 = a ∧ gB dn (gE es j).2.1.toNat = false ∧ (gI (relL cl dn a es j) (gE es j).2.1.toNat < 0 ∨ gI cl a.toNat + (gE es j).2.2 < gI (relL cl dn a es j) (gE es j).2.1.toNat) then (relL cl dn a es j).set (gE es j).2.1.toNat (gI cl a.toNat + (gE es j).2.2) else relL cl dn a es j := by
  have hcj := hc _ (gE_mem hj)
  have htl : (gE es j).2.1.toNat < cl.length := by omega
  have off : ∀ k : Nat, k < cl.length → k ≠ (gE es j).2.1.toNat → gI (relL cl dn a es (j + 1)) k = gI (relL cl dn a es j) k := by
    intro k hk hne
    rw [relL_at hk, relL_at hk, minK_succ hj]
    unfold minT
    rw [if_neg (fun h => hne (by omega))]
  have here : gI (relL cl dn a es (j + 1)) (gE es j).2.1.toNat = if (gE es j).1 = a ∧ gB dn (gE es j).2.1.toNat = false ∧ (gI (relL cl dn a es j) (gE es j).2.1.toNat < 0 ∨ gI cl a.toNat + (gE es j).2.2 < gI (relL cl dn a es j) (gE es j).2.1.toNat) then gI cl a.toNat + (gE es j).2.2 else gI (relL cl dn a es j) (gE es j).2.1.toNat := by
    rw [relL_at htl, relL_at htl, minK_succ hj]
    have hm := minK_spec hc a (((gE es j).2.1.toNat : Nat) : Int) j (by omega)
    have et : (((gE es j).2.1.toNat : Nat) : Int) = (gE es j).2.1 := Int.toNat_of_nonneg ht.1
    rw [et] at hm ⊢
    have hm2 : minK es a (gE es j).2.1 j = -1 ∨ 0 ≤ minK es a (gE es j).2.1 j := by rcases hm with h | h; exact Or.inl h.1; exact Or.inr h.1
    clear hm
    generalize minK es a (gE es j).2.1 j = m at hm2
    unfold minT newC
    cases hb : gB dn (gE es j).2.1.toNat
    · simp only [Bool.false_eq_true, if_false, true_and]
      by_cases h1 : (gE es j).1 = a
      · simp only [h1, true_and]
        repeat' split
        all_goals omega
      · simp only [h1, false_and, if_false]
    · simp
  apply List.ext_getElem
  · rw [relL_len]
    split
    · rw [List.length_set, relL_len]
    · rw [relL_len]
  · intro k k1 k2
    have hk : k < cl.length := by rw [relL_len] at k1; exact k1
    rw [← gI_eq k1, ← gI_eq k2]
    by_cases e : k = (gE es j).2.1.toNat
    · subst e
      rw [here]
      split
      · rw [gI_set (by rw [relL_len]; exact htl), if_pos rfl]
      · rfl
    · rw [off k hk e]
      split
      · rw [gI_set (by rw [relL_len]; exact htl), if_neg (fun h => e h.symm)]
      · rfl
theorem relL_row {n : Int} {es : List Ed} (he : EsOk n es) {cl : List Int} {dn : List Bool} {a : Int} (ha : 0 ≤ a) : relL cl dn a (gEs (graphR n es) a.toNat) (gEs (graphR n es) a.toNat).length = relL cl dn a es es.length := by
  unfold relL
  refine List.map_congr_left fun k _ => ?_
  rw [minK_row he ha]
/-- The choice of the next node. -/
def pickB (g cl : List Int) (dn : List Bool) (k : Nat) (a : Int) : Bool := decide (0 ≤ gI cl k) && (!gB dn k && (decide (a < 0) || lessR (gI cl k + gI g k) (gI cl k) (gI cl a.toNat + gI g a.toNat) (gI cl a.toNat)))
def pickJ (g cl : List Int) (dn : List Bool) (j : Nat) : Int := (List.range j).foldl (fun a k => if pickB g cl dn k a = true then (k : Int) else a) (-1)
theorem pickJ_succ (g cl : List Int) (dn : List Bool) (j : Nat) : pickJ g cl dn (j + 1) = if pickB g cl dn j (pickJ g cl dn j) = true then (j : Int) else pickJ g cl dn j := by
  unfold pickJ
  rw [List.range_succ, List.foldl_append]
  rfl
theorem pick_spec (g cl : List Int) (dn : List Bool) : ∀ j, (pickJ g cl dn j = -1 ∧ ∀ k, k < j → 0 ≤ gI cl k → gB dn k = true) ∨ ((0 ≤ pickJ g cl dn j ∧ pickJ g cl dn j < (j : Int)) ∧ 0 ≤ gI cl (pickJ g cl dn j).toNat ∧ gB dn (pickJ g cl dn j).toNat = false ∧ ∀ k, k < j → 0 ≤ gI cl k → gB dn k = false → gI cl (pickJ g cl dn j).toNat + gI g (pickJ g cl dn j).toNat ≤ gI cl k + gI g k)
  | 0 => Or.inl ⟨rfl, fun k hk => by omega⟩
  | j + 1 => by
    have ih := pick_spec g cl dn j
    rw [pickJ_succ]
    generalize pickJ g cl dn j = a at ih
    cases hb : pickB g cl dn j a
    · simp only [Bool.false_eq_true, if_false]
      have hb' : ¬ (0 ≤ gI cl j ∧ gB dn j = false ∧ (a < 0 ∨ lessR (gI cl j + gI g j) (gI cl j) (gI cl a.toNat + gI g a.toNat) (gI cl a.toNat) = true)) := by
        rintro ⟨h1, h2, h3⟩
        unfold pickB at hb
        rw [decide_eq_true h1, h2] at hb
        rcases h3 with h3 | h3
        · rw [decide_eq_true h3] at hb; simp at hb
        · rw [h3] at hb; simp at hb
      rcases ih with ⟨h1, h2⟩ | ⟨h1, h2, h3, h4⟩
      · refine Or.inl ⟨h1, fun k hk h0 => ?_⟩
        rcases Nat.lt_or_eq_of_le (Nat.le_of_lt_succ hk) with e | e
        · exact h2 k e h0
        · subst e
          cases hd : gB dn k
          · exact absurd ⟨h0, hd, Or.inl (by omega)⟩ hb'
          · rfl
      · refine Or.inr ⟨⟨h1.1, by omega⟩, h2, h3, fun k hk h0 hd => ?_⟩
        rcases Nat.lt_or_eq_of_le (Nat.le_of_lt_succ hk) with e | e
        · exact h4 k e h0 hd
        · subst e
          refine Int.le_of_not_gt fun hlt => hb' ⟨h0, hd, Or.inr ?_⟩
          unfold lessR
          exact decide_eq_true (Or.inl hlt)
    · simp only [if_true]
      unfold pickB at hb
      simp only [Bool.and_eq_true, Bool.or_eq_true, decide_eq_true_eq, Bool.not_eq_true'] at hb
      obtain ⟨b1, b2, b3⟩ := hb
      rw [show ((j : Int)).toNat = j by omega]
      refine Or.inr ⟨⟨by omega, by omega⟩, b1, b2, fun k hk h0 hd => ?_⟩
      rcases Nat.lt_or_eq_of_le (Nat.le_of_lt_succ hk) with e | e
      · rcases ih with ⟨h1, h2⟩ | ⟨h1, h2, h3, h4⟩
        · rw [h2 k e h0] at hd; cases hd
        · have := h4 k e h0 hd
          rcases b3 with b3 | b3
          · omega
          · unfold lessR at b3
            have b3 := of_decide_eq_true b3
            omega
      · subst e; exact Int.le_refl _
/-- The search led by guesses, from a state on: the cost, how many nodes were taken up, whether it got there. -/
def guideF (es : List Ed) (g : List Int) (to : Int) : Nat → List Int → List Bool → Int → Int × Int × Bool
  | 0, _, _, _ => (0, 0, false)
  | f + 1, cl, dn, cnt => if pickJ g cl dn cl.length < 0 then (0, cnt, false) else if pickJ g cl dn cl.length = to then (gI cl (pickJ g cl dn cl.length).toNat, cnt + 1, true) else
    guideF es g to f (relL cl (dn.set (pickJ g cl dn cl.length).toNat true) (pickJ g cl dn cl.length) es es.length) (dn.set (pickJ g cl dn cl.length).toNat true) (cnt + 1)
def startC (n from_ : Int) : List Int := (List.replicate n.toNat (-1)).set from_.toNat 0
def guideR (n : Int) (es : List Ed) (from_ to : Int) (g : List Int) : Int × Int × Bool × Int :=
  if ¬ guessR n es g [from_, to] = 0 then (0, 0, false, guessR n es g [from_, to]) else
    ((guideF es g to (n.toNat + 1) (startC n from_) (List.replicate n.toNat false) 0).1, (guideF es g to (n.toNat + 1) (startC n from_) (List.replicate n.toNat false) 0).2.1, (guideF es g to (n.toNat + 1) (startC n from_) (List.replicate n.toNat false) 0).2.2, 0)
/-- The state of the search. -/
structure Gd (N : Nat) (cl : List Int) (dn : List Bool) : Prop where
  lc : cl.length = N
  ld : dn.length = N
  low : ∀ k, k < N → -1 ≤ gI cl k
  high : ∀ k, k < N → gI cl k ≤ 1000000000000 * (dn.count true : Int)
theorem Gd.next {n : Int} {es : List Ed} (he : EsOk n es) {cl : List Int} {dn : List Bool} (h : Gd n.toNat cl dn) {a : Int} (ha : 0 ≤ a ∧ a < n) (h1 : 0 ≤ gI cl a.toNat) (h2 : gB dn a.toNat = false) : Gd n.toNat (relL cl (dn.set a.toNat true) a es es.length) (dn.set a.toNat true) := by
  have hc : ∀ e ∈ es, 0 ≤ e.2.2 := fun e h => (he.ok e h).2.2.1
  have hcnt := count_set_true (l := dn) (k := a.toNat) (by rw [h.ld]; omega) h2
  have hA := h.high a.toNat (by omega)
  refine ⟨by rw [relL_len]; exact h.lc, by rw [List.length_set]; exact h.ld, fun k hk => ?_, fun k hk => ?_⟩
  · rw [relL_at (by rw [h.lc]; exact hk)]
    have := h.low k hk
    have hm := minK_spec hc a (k : Int) es.length (Nat.le_refl _)
    have hm2 : minK es a (k : Int) es.length = -1 ∨ 0 ≤ minK es a (k : Int) es.length := by rcases hm with h | h; exact Or.inl h.1; exact Or.inr h.1
    unfold newC
    repeat' split
    all_goals omega
  · rw [relL_at (by rw [h.lc]; exact hk), hcnt]
    have := h.high k hk
    have hm := minK_min hc a (k : Int)
    have hm2 : minK es a (k : Int) es.length ≤ 1000000000000 := by
      rcases hm with ⟨h, _⟩ | ⟨_, h, _⟩
      · omega
      · exact (he.ok _ h).2.2.2
    unfold newC
    repeat' split
    all_goals omega
theorem gd_start {n from_ : Int} (h : 0 ≤ from_ ∧ from_ < n) : Gd n.toNat (startC n from_) (List.replicate n.toNat false) := by
  have hl : from_.toNat < (List.replicate n.toNat (-1 : Int)).length := by rw [List.length_replicate]; omega
  have at_ : ∀ k, k < n.toNat → gI (startC n from_) k = if from_.toNat = k then 0 else -1 := by
    intro k hk
    unfold startC
    rw [gI_set hl]
    split
    · rfl
    · unfold gI
      rw [List.getD_eq_getElem?_getD, List.getElem?_replicate, if_pos hk]; rfl
  refine ⟨by simp [startC], by simp, fun k hk => ?_, fun k hk => ?_⟩
  · rw [at_ k hk]; split <;> omega
  · rw [at_ k hk]; split <;> omega
end
end Go.Proofs.Ythgclbohlcgdgaa.Eng
set_option linter.unusedVariables false
set_option linter.unusedSimpArgs false
namespace Go.Proofs.Ythgclbohlcgdgaa.Eng
open Go
set_option maxRecDepth 100000
noncomputable section
def coL (cl : List Int) : List Int := cl.map fun c => if c < 0 then 0 else c
def knL (cl : List Int) : List Bool := cl.map fun c => decide (0 ≤ c)
theorem coL_len (cl : List Int) : (coL cl).length = cl.length := by simp [coL]
theorem knL_len (cl : List Int) : (knL cl).length = cl.length := by simp [knL]
theorem coL_at {cl : List Int} {k : Nat} (h : k < cl.length) : gI (coL cl) k = if gI cl k < 0 then 0 else gI cl k := by
  rw [gI_eq (by rw [coL_len]; exact h), gI_eq h]; simp [coL]
theorem knL_at {cl : List Int} {k : Nat} (h : k < cl.length) : gB (knL cl) k = decide (0 ≤ gI cl k) := by
  rw [gB_eq (by rw [knL_len]; exact h), gI_eq h]; simp [knL]
theorem coL_set {cl : List Int} {k : Nat} {v : Int} (h : 0 ≤ v) : (coL cl).set k v = coL (cl.set k v) := by
  unfold coL
  rw [List.map_set, if_neg (by omega)]
theorem knL_set {cl : List Int} {k : Nat} {v : Int} (h : 0 ≤ v) : (knL cl).set k true = knL (cl.set k v) := by
  unfold knL
  rw [List.map_set, decide_eq_true h]
theorem coL_start (n from_ : Int) : List.replicate n.toNat (0 : Int) = coL (startC n from_) := by
  unfold startC
  rw [← coL_set (Int.le_refl _)]
  have : coL (List.replicate n.toNat (-1)) = List.replicate n.toNat (0 : Int) := by unfold coL; rw [List.map_replicate]; rfl
  rw [this]
  apply List.ext_getElem?
  intro i
  rw [List.getElem?_set]
  split
  · rename_i e; subst e
    rw [List.getElem?_replicate]
    split <;> simp_all
  · rfl
theorem knL_start (n from_ : Int) : (List.replicate n.toNat false).set from_.toNat true = knL (startC n from_) := by
  unfold startC
  rw [← knL_set (Int.le_refl _)]
  have : knL (List.replicate n.toNat (-1)) = List.replicate n.toNat false := by unfold knL; rw [List.map_replicate]; rfl
  rw [this]
section
variable {es : List Ed} {g cl : List Int} {dn : List Bool} {to cnt : Int} {f : Nat}
theorem guide_stop (h : pickJ g cl dn cl.length < 0) : guideF es g to (f + 1) cl dn cnt = (0, cnt, false) := by
  show (if pickJ g cl dn cl.length < 0 then _ else _) = _
  rw [if_pos h]
theorem guide_at (h : ¬ pickJ g cl dn cl.length < 0) (h2 : pickJ g cl dn cl.length = to) : guideF es g to (f + 1) cl dn cnt = (gI cl (pickJ g cl dn cl.length).toNat, cnt + 1, true) := by
  show (if pickJ g cl dn cl.length < 0 then _ else if pickJ g cl dn cl.length = to then _ else _) = _
  rw [if_neg h, if_pos h2]
theorem guide_go (h : ¬ pickJ g cl dn cl.length < 0) (h2 : ¬ pickJ g cl dn cl.length = to) : guideF es g to (f + 1) cl dn cnt = guideF es g to f (relL cl (dn.set (pickJ g cl dn cl.length).toNat true) (pickJ g cl dn cl.length) es es.length) (dn.set (pickJ g cl dn cl.length).toNat true) (cnt + 1) := by
  show (if pickJ g cl dn cl.length < 0 then _ else if pickJ g cl dn cl.length = to then _ else _) = _
  rw [if_neg h, if_neg h2]
end
theorem guide_bad {n : Int} {es : List Ed} {a b : Int} {g : List Int} (h : ¬ guessR n es g [a, b] = 0) : guideR n es a b g = (0, 0, false, guessR n es g [a, b]) := by
  unfold guideR; rw [if_pos h]
theorem guide_ok {n : Int} {es : List Ed} {a b : Int} {g : List Int} {x : Int × Int × Bool} (h : guessR n es g [a, b] = 0) (hx : guideF es g b (n.toNat + 1) (startC n a) (List.replicate n.toNat false) 0 = x) : guideR n es a b g = (x.1, x.2.1, x.2.2, 0) := by
  unfold guideR; rw [if_neg (by simp [h]), hx]
def S34x (n to : Int) (g : List Int) (gr : List (List Ed)) (co : List Int) (kn : List Bool) (dn : List Bool) (cnt : Int) : SL := ⟨[.int .i64 n] ++ List.replicate 2 .undef ++ [.int .i64 to] ++ [.sl I g] ++ List.replicate 10 .undef ++ [.own 0] ++ [.own 1] ++ [.own 2] ++ [.own 3] ++ [.int .i64 cnt] ++ List.replicate 142 .undef, [(0, .arr (.sl eT) gr), (1, .arr I co), (2, .arr .bool kn), (3, .arr .bool dn)], 4⟩
def S34a (n to : Int) (g : List Int) (gr : List (List Ed)) (cl : List Int) (dn : List Bool) (cnt : Int) : SL := S34x n to g gr (coL cl) (knL cl) dn cnt
def S34b (n to : Int) (g : List Int) (gr : List (List Ed)) (cl : List Int) (dn : List Bool) (cnt : Int) (a k : Int) : SL := ⟨[.int .i64 n] ++ List.replicate 2 .undef ++ [.int .i64 to] ++ [.sl I g] ++ List.replicate 10 .undef ++ [.own 0] ++ [.own 1] ++ [.own 2] ++ [.own 3] ++ [.int .i64 cnt] ++ [.int .i64 a] ++ List.replicate 26 .undef ++ [.int .i64 n] ++ [.int .i64 k] ++ List.replicate 113 .undef, [(0, .arr (.sl eT) gr), (1, .arr I (coL cl)), (2, .arr .bool (knL cl)), (3, .arr .bool dn)], 4⟩
def S34c (n to : Int) (g : List Int) (gr : List (List Ed)) (cl : List Int) (dn : List Bool) (cnt : Int) (a : Int) (row : List Ed) (j : Int) : SL := ⟨[.int .i64 n] ++ List.replicate 2 .undef ++ [.int .i64 to] ++ [.sl I g] ++ List.replicate 10 .undef ++ [.own 0] ++ [.own 1] ++ [.own 2] ++ [.own 3] ++ [.int .i64 cnt] ++ [.int .i64 a] ++ List.replicate 95 .undef ++ [.sl eT row] ++ [.int .i64 row.length] ++ [.int .i64 j] ++ List.replicate 43 .undef, [(0, .arr (.sl eT) gr), (1, .arr I (coL cl)), (2, .arr .bool (knL cl)), (3, .arr .bool dn)], 4⟩
def E34 : Env := ⟨tab, [(46, K46), (38, .eff X38), (41, K41)], fun n => match n with | 9 => some ([0, 3, 4, 15, 16, 17, 18, 19], [], []) | 11 => some ([0, 3, 4, 15, 16, 17, 18, 19, 20, 47, 48], [], []) | 23 => some ([0, 3, 4, 15, 16, 17, 18, 19, 20, 116, 117, 118], [], []) | _ => none⟩
def K34 : Fn1 := ⟨.fld I (.fld (.sl eT) (.fld I (.fld I (.one (.sl I))))), .fld I (.fld I (.fld .bool (.one I))), fun (a : Int × List Ed × Int × Int × List Int) => [a.2.2.2.2.length ≤ 1000000000], fun (a : Int × List Ed × Int × Int × List Int) => guideR a.1 a.2.1 a.2.2.1 a.2.2.2.1 a.2.2.2.2⟩
set_option maxHeartbeats 4000000 in
theorem k34 : FnOk Go.Proofs.Try.prog 34 K34 := by
  refine fn_ok (E := E34) (TOk.of tab_told) (AllOk.cons k46 (.consX k38 (.cons k41 .nil))).at_ mix Go.Proofs.Try.func34 rfl rfl (by kernel_rfl) K34 ?_
  rintro ⟨(n : Int), (es : List Ed), (fr : Int), (to : Int), (g : List Int)⟩ hp
  have hgl0 : g.length ≤ 1000000000 := hp _ (List.mem_cons_self ..)
  clear hp
  conv => whnf
  refine ⟨show g.length ≤ 1000000000 by omega, ?_⟩
  conv => whnf
  refine ⟨show 2 ≤ 1000000000 by omega, ?_⟩
  conv => whnf
  refine cond_intro (fun hgs => ?_) (fun hgs => ?_)
  · have hgs : (!decide (guessR n es g [fr, to] = 0)) = true := hgs
    have hgs : ¬ (guessR n es g [fr, to] = 0) := fun e => absurd hgs (by rw [decide_eq_true e]; decide)
    conv => whnf
    show (0, 0, false, guessR n es g [fr, to]) = guideR n es fr to g
    rw [guide_bad hgs]
  have hgs : (!decide (guessR n es g [fr, to] = 0)) = false := hgs
  have hgs : guessR n es g [fr, to] = 0 := Decidable.byContradiction fun e => absurd hgs (by rw [decide_eq_false e]; decide)
  obtain ⟨hnd, hgl, hgo⟩ := guess_iff hgs
  obtain ⟨hv, hnn⟩ := nodes_iff hnd
  have hes := valid_es hv
  obtain ⟨v1, v2, v3, _⟩ := valid_iff hv
  have hft : (0 ≤ fr ∧ fr < n) ∧ 0 ≤ to ∧ to < n := ⟨hnn [fr, to] List.mem_cons_self fr List.mem_cons_self, hnn [fr, to] List.mem_cons_self to (List.mem_cons_of_mem _ List.mem_cons_self)⟩
  have hcr : (List.replicate n.toNat false).count false = n.toNat := List.count_replicate_self ..
  have hgrl := graph_len n es
  have hgok := graph_gok hes (by omega) v1
  conv => whnf
  refine ⟨show 0 ≤ n ∧ n ≤ 100000 by omega, ?_⟩
  conv => whnf
  refine ⟨show es.length ≤ 2000000 by omega, ?_⟩
  conv => whnf
  refine ⟨show ∀ e ∈ es, 0 ≤ e.1 ∧ e.1 < n from fun e he => (hes.ok e he).1, ?_⟩
  conv => whnf
  refine ⟨v1, ?_⟩
  conv => whnf
  refine ⟨Int.le_refl _, ?_⟩
  conv => whnf
  refine ⟨show n * 8 ≤ 70368744177664 by omega, ?_⟩
  conv => whnf
  refine ⟨show n ≤ 70368744177664 by omega, ?_⟩
  conv => whnf
  refine ⟨v1, ?_⟩
  conv => whnf
  refine ⟨Int.le_refl _, ?_⟩
  conv => whnf
  refine ⟨show n * 1 ≤ 70368744177664 by omega, ?_⟩
  conv => whnf
  refine ⟨show n ≤ 70368744177664 by omega, ?_⟩
  conv => whnf
  refine ⟨v1, ?_⟩
  conv => whnf
  refine ⟨Int.le_refl _, ?_⟩
  conv => whnf
  refine ⟨show n * 1 ≤ 70368744177664 by omega, ?_⟩
  conv => whnf
  refine ⟨show n ≤ 70368744177664 by omega, ?_⟩
  conv => whnf
  refine ⟨hft.1.1, ?_⟩
  conv => whnf
  refine ⟨show fr < ((List.replicate n.toNat false).length : Int) by rw [List.length_replicate]; omega, ?_⟩
  conv => whnf
  refine loop_rule (fun x : (List Int × List Bool) × Int => S34a n to g (graphR n es) x.1.1 x.1.2 x.2) (fun x => x.1.2.count false) (fun x => Gd n.toNat x.1.1 x.1.2 ∧ 0 ≤ x.2 ∧ x.2 ≤ (x.1.2.count true : Int) ∧ guideF es g to (x.1.2.count false + 1) x.1.1 x.1.2 x.2 = guideF es g to (n.toNat + 1) (startC n fr) (List.replicate n.toNat false) 0) ?_ ((startC n fr, List.replicate n.toNat false), 0) (by kernel_rfl) ?_ ⟨gd_start hft.1, Int.le_refl _, by show (0 : Int) ≤ _; omega, by show guideF es g to ((List.replicate n.toNat false).count false + 1) _ _ _ = _; rw [hcr]⟩
  case refine_2 => exact Eq.trans (b := S34x n to g (graphR n es) (List.replicate n.toNat (0 : Int)) ((List.replicate n.toNat false).set fr.toNat true) (List.replicate n.toNat false) 0) rfl (by rw [coL_start n fr, knL_start n fr]; rfl)
  rintro ⟨⟨cl, dn⟩, cnt⟩ ⟨hgd, c0, c1, htot⟩
  have hgd : Gd n.toNat cl dn := hgd
  have c0 : 0 ≤ cnt := c0
  have c1 : cnt ≤ (dn.count true : Int) := c1
  have htot : guideF es g to (dn.count false + 1) cl dn cnt = guideF es g to (n.toNat + 1) (startC n fr) (List.replicate n.toNat false) 0 := htot
  have hcn := count_le dn
  have hdl := hgd.ld
  have hll := hgd.lc
  conv => whnf
  refine loop_rule (fun k => S34b n to g (graphR n es) cl dn cnt (pickJ g cl dn k.toNat) k) (fun k => (n - k).toNat) (fun k => 0 ≤ k ∧ k ≤ n) ?_ 0 (by kernel_rfl) ?_ ⟨Int.le_refl _, v1⟩
  case refine_2 => rfl
  rintro k ⟨k0, k1⟩
  have hps0 := pick_spec g cl dn k.toNat
  have hcl0 : (coL cl).length = n.toNat := by rw [coL_len]; exact hgd.lc
  have hkl0 : (knL cl).length = n.toNat := by rw [knL_len]; exact hgd.lc
  have hdl0 := hgd.ld
  have hll := hgd.lc
  conv => whnf
  refine cond_intro (fun klt => ?_) (fun klt => ?_)
  · have klt : k < n := @of_decide_eq_true _ _ klt
    have wk : IntKind.i64.wrap (k + 1) = k + 1 := wrap_eq (by omega) (by omega)
    have ek : (k + 1).toNat = k.toNat + 1 := by omega
    have kc : k < ((coL cl).length : Int) := by omega
    have kk : k < ((knL cl).length : Int) := by omega
    have kd : k < (dn.length : Int) := by omega
    have kg : k < (g.length : Int) := by omega
    have hka := knL_at (cl := cl) (k := k.toNat) (by omega)
    have hca := coL_at (cl := cl) (k := k.toNat) (by omega)
    conv => whnf
    refine ⟨k0, ?_⟩
    conv => whnf
    refine ⟨kk, ?_⟩
    conv => whnf
    refine cond_intro (fun i1 => ?_) (fun i1 => ?_)
    · have i1 : (gB (knL cl) k.toNat) = true := i1
      rw [hka] at i1
      have i1' : 0 ≤ gI cl k.toNat := of_decide_eq_true i1
      rw [if_neg (by omega)] at hca
      conv => whnf
      refine ⟨k0, ?_⟩
      conv => whnf
      refine ⟨kd, ?_⟩
      conv => whnf
      refine cond_intro (fun i2 => ?_) (fun i2 => ?_)
      · have i2 : (!(gB dn k.toNat)) = true := i2
        have i2 : (gB dn k.toNat) = false := by cases e : (gB dn k.toNat) with | false => rfl | true => exact absurd i2 (by rw [e]; decide)
        conv => whnf
        refine cond_intro (fun i3 => ?_) (fun i3 => ?_)
        · have i3 : (pickJ g cl dn k.toNat) < 0 := @of_decide_eq_true _ _ i3
          have hpb : pickB g cl dn k.toNat (pickJ g cl dn k.toNat) = true := by unfold pickB; rw [i1, i2, decide_eq_true i3]; rfl
          have hps := pickJ_succ g cl dn k.toNat
          rw [hpb] at hps
          conv => whnf
          refine ⟨k + 1, ?_, ⟨by omega, by omega⟩, by omega⟩
          exact Eq.trans (b := S34b n to g (graphR n es) cl dn cnt k (IntKind.i64.wrap (k + 1))) rfl (by rw [wk, ek, hps]; rw [if_pos rfl, show ((k.toNat : Nat) : Int) = k by omega])
        have i3 : ¬ ((pickJ g cl dn k.toNat) < 0) := @of_decide_eq_false _ _ i3
        obtain ⟨ha1, ha2, ha3, _⟩ : (0 ≤ (pickJ g cl dn k.toNat) ∧ (pickJ g cl dn k.toNat) < ((k.toNat : Nat) : Int)) ∧ 0 ≤ gI cl (pickJ g cl dn k.toNat).toNat ∧ gB dn (pickJ g cl dn k.toNat).toNat = false ∧ ∀ m, m < k.toNat → 0 ≤ gI cl m → gB dn m = false → gI cl (pickJ g cl dn k.toNat).toNat + gI g (pickJ g cl dn k.toNat).toNat ≤ gI cl m + gI g m := by
          rcases hps0 with h | h
          · omega
          · exact h
        have hca2 := coL_at (cl := cl) (k := (pickJ g cl dn k.toNat).toNat) (by omega)
        rw [if_neg (by omega)] at hca2
        have hk1 := hgd.high k.toNat (by omega)
        have hk2 := hgd.high (pickJ g cl dn k.toNat).toNat (by omega)
        have g1 := hgo k.toNat (by omega)
        have g2 := hgo (pickJ g cl dn k.toNat).toNat (by omega)
        have wa : IntKind.i64.wrap (gI cl k.toNat + gI g k.toNat) = gI cl k.toNat + gI g k.toNat := wrap_eq (by omega) (by omega)
        have wb : IntKind.i64.wrap (gI cl (pickJ g cl dn k.toNat).toNat + gI g (pickJ g cl dn k.toNat).toNat) = gI cl (pickJ g cl dn k.toNat).toNat + gI g (pickJ g cl dn k.toNat).toNat := wrap_eq (by omega) (by omega)
        have ac : (pickJ g cl dn k.toNat) < ((coL cl).length : Int) := by omega
        have ag : (pickJ g cl dn k.toNat) < (g.length : Int) := by omega
        conv => whnf
        refine ⟨k0, ?_⟩
        conv => whnf
        refine ⟨kc, ?_⟩
        conv => whnf
        refine ⟨k0, ?_⟩
        conv => whnf
        refine ⟨kg, ?_⟩
        conv => whnf
        refine ⟨k0, ?_⟩
        conv => whnf
        refine ⟨kc, ?_⟩
        conv => whnf
        refine ⟨ha1.1, ?_⟩
        conv => whnf
        refine ⟨ac, ?_⟩
        conv => whnf
        refine ⟨ha1.1, ?_⟩
        conv => whnf
        refine ⟨ag, ?_⟩
        conv => whnf
        refine ⟨ha1.1, ?_⟩
        conv => whnf
        refine ⟨ac, ?_⟩
        conv => whnf
        refine cond_intro (fun i4 => ?_) (fun i4 => ?_)
        · have i4 : (lessR (IntKind.i64.wrap (gI (coL cl) k.toNat + gI g k.toNat)) (gI (coL cl) k.toNat) (IntKind.i64.wrap (gI (coL cl) (pickJ g cl dn k.toNat).toNat + gI g (pickJ g cl dn k.toNat).toNat)) (gI (coL cl) (pickJ g cl dn k.toNat).toNat)) = true := i4
          rw [hca, hca2, wa, wb] at i4
          have hpb : pickB g cl dn k.toNat (pickJ g cl dn k.toNat) = true := by unfold pickB; rw [i1, i2, decide_eq_false i3, i4]; rfl
          have hps := pickJ_succ g cl dn k.toNat
          rw [hpb] at hps
          conv => whnf
          refine ⟨k + 1, ?_, ⟨by omega, by omega⟩, by omega⟩
          exact Eq.trans (b := S34b n to g (graphR n es) cl dn cnt k (IntKind.i64.wrap (k + 1))) rfl (by rw [wk, ek, hps]; rw [if_pos rfl, show ((k.toNat : Nat) : Int) = k by omega])
        have i4 : (lessR (IntKind.i64.wrap (gI (coL cl) k.toNat + gI g k.toNat)) (gI (coL cl) k.toNat) (IntKind.i64.wrap (gI (coL cl) (pickJ g cl dn k.toNat).toNat + gI g (pickJ g cl dn k.toNat).toNat)) (gI (coL cl) (pickJ g cl dn k.toNat).toNat)) = false := i4
        rw [hca, hca2, wa, wb] at i4
        have hpb : pickB g cl dn k.toNat (pickJ g cl dn k.toNat) = false := by unfold pickB; rw [i1, i2, decide_eq_false i3, i4]; rfl
        have hps := pickJ_succ g cl dn k.toNat
        rw [hpb] at hps
        conv => whnf
        refine ⟨k + 1, ?_, ⟨by omega, by omega⟩, by omega⟩
        exact Eq.trans (b := S34b n to g (graphR n es) cl dn cnt (pickJ g cl dn k.toNat) (IntKind.i64.wrap (k + 1))) rfl (by rw [wk, ek, hps]; rw [if_neg (by decide)])
      have i2 : (!(gB dn k.toNat)) = false := i2
      have i2 : (gB dn k.toNat) = true := by cases e : (gB dn k.toNat) with | true => rfl | false => exact absurd i2 (by rw [e]; decide)
      have hpb : pickB g cl dn k.toNat (pickJ g cl dn k.toNat) = false := by unfold pickB; rw [i1, i2]; rfl
      have hps := pickJ_succ g cl dn k.toNat
      rw [hpb] at hps
      conv => whnf
      refine ⟨k + 1, ?_, ⟨by omega, by omega⟩, by omega⟩
      exact Eq.trans (b := S34b n to g (graphR n es) cl dn cnt (pickJ g cl dn k.toNat) (IntKind.i64.wrap (k + 1))) rfl (by rw [wk, ek, hps]; rw [if_neg (by decide)])
    have i1 : (gB (knL cl) k.toNat) = false := i1
    rw [hka] at i1
    have hpb : pickB g cl dn k.toNat (pickJ g cl dn k.toNat) = false := by unfold pickB; rw [i1]; rfl
    have hps := pickJ_succ g cl dn k.toNat
    rw [hpb] at hps
    conv => whnf
    refine ⟨k + 1, ?_, ⟨by omega, by omega⟩, by omega⟩
    exact Eq.trans (b := S34b n to g (graphR n es) cl dn cnt (pickJ g cl dn k.toNat) (IntKind.i64.wrap (k + 1))) rfl (by rw [wk, ek, hps]; rw [if_neg (by decide)])
  have klt : ¬ (k < n) := @of_decide_eq_false _ _ klt
  have hkn : k.toNat = cl.length := by omega
  rw [hkn] at hps0
  rw [hkn]
  obtain ⟨a, hae⟩ : ∃ a, a = (pickJ g cl dn cl.length) := ⟨_, rfl⟩
  rw [← hae] at hps0 ⊢
  conv => whnf
  refine cond_intro (fun q0 => ?_) (fun q0 => ?_)
  · have q0 : a < 0 := @of_decide_eq_true _ _ q0
    have hgf : guideF es g to (n.toNat + 1) (startC n fr) (List.replicate n.toNat false) 0 = (0, cnt, false) := by rw [← htot]; exact guide_stop (by rw [← hae]; exact q0)
    conv => whnf
    show (0, cnt, false, 0) = guideR n es fr to g
    rw [guide_ok hgs hgf]
  have q0 : ¬ (a < 0) := @of_decide_eq_false _ _ q0
  obtain ⟨ha1, hca0, hd0, _⟩ : (0 ≤ a ∧ a < ((cl.length : Nat) : Int)) ∧ 0 ≤ gI cl a.toNat ∧ gB dn a.toNat = false ∧ ∀ m, m < cl.length → 0 ≤ gI cl m → gB dn m = false → gI cl a.toNat + gI g a.toNat ≤ gI cl m + gI g m := by
    rcases hps0 with h | h
    · omega
    · exact h
  have a0 := ha1.1
  have a1 : a < n := by omega
  have wcn : IntKind.i64.wrap (cnt + 1) = cnt + 1 := wrap_eq (by omega) (by omega)
  have hcoa0 : gI (coL cl) a.toNat = gI cl a.toNat := by rw [coL_at (by omega), if_neg (by omega)]
  have acl : a < ((coL cl).length : Int) := by omega
  have adn : a < (dn.length : Int) := by omega
  have agr : a < ((graphR n es).length : Int) := by omega
  conv => whnf
  refine ⟨a0, ?_⟩
  conv => whnf
  refine ⟨adn, ?_⟩
  conv => whnf
  refine cond_intro (fun q1 => ?_) (fun q1 => ?_)
  · have q1 : a = to := @of_decide_eq_true _ _ q1
    have hgf : guideF es g to (n.toNat + 1) (startC n fr) (List.replicate n.toNat false) 0 = (gI cl a.toNat, cnt + 1, true) := by rw [← htot, guide_at (by rw [← hae]; exact q0) (by rw [← hae]; exact q1), ← hae]
    conv => whnf
    refine ⟨a0, ?_⟩
    conv => whnf
    refine ⟨acl, ?_⟩
    conv => whnf
    show (gI (coL cl) a.toNat, IntKind.i64.wrap (cnt + 1), true, 0) = guideR n es fr to g
    rw [guide_ok hgs hgf, wcn, hcoa0]
  have q1 : ¬ (a = to) := @of_decide_eq_false _ _ q1
  have hrow := hgok.ok a.toNat (by omega)
  conv => whnf
  refine ⟨a0, ?_⟩
  conv => whnf
  refine ⟨agr, ?_⟩
  conv => whnf
  refine loop_rule (fun j => S34c n to g (graphR n es) (relL cl (dn.set a.toNat true) a (gEs (graphR n es) a.toNat) j.toNat) (dn.set a.toNat true) (cnt + 1) a (gEs (graphR n es) a.toNat) j) (fun j => (((gEs (graphR n es) a.toNat).length : Int) - j).toNat) (fun j => 0 ≤ j ∧ j ≤ (gEs (graphR n es) a.toNat).length) ?_ 0 (by kernel_rfl) ?_ ⟨by omega, by omega⟩
  case refine_2 => exact Eq.trans (b := S34c n to g (graphR n es) cl (dn.set a.toNat true) (IntKind.i64.wrap (cnt + 1)) a (gEs (graphR n es) a.toNat) 0) rfl (by rw [wcn]; rw [show (0 : Int).toNat = 0 from rfl, relL_zero])
  rintro j ⟨j0, j1⟩
  conv => whnf
  refine cond_intro (fun jlt => ?_) (fun jlt => ?_)
  · have jlt : j < ((gEs (graphR n es) a.toNat).length : Int) := @of_decide_eq_true _ _ jlt
    have wj : IntKind.i64.wrap (j + 1) = j + 1 := wrap_eq (by omega) (by omega)
    have ej : (j + 1).toNat = j.toNat + 1 := by omega
    have hjl : j.toNat < (gEs (graphR n es) a.toNat).length := by omega
    have hee := hrow.2 _ (gE_mem hjl)
    have hfr := (graph_sub (gE_mem hjl)).2
    have hlo : (relL cl (dn.set a.toNat true) a (gEs (graphR n es) a.toNat) j.toNat).length = n.toNat := by rw [relL_len]; exact hgd.lc
    have hcl1 : (coL (relL cl (dn.set a.toNat true) a (gEs (graphR n es) a.toNat) j.toNat)).length = n.toNat := by rw [coL_len]; exact hlo
    have hkl1 : (knL (relL cl (dn.set a.toNat true) a (gEs (graphR n es) a.toNat) j.toNat)).length = n.toNat := by rw [knL_len]; exact hlo
    have hdl1 : (dn.set a.toNat true).length = n.toNat := by rw [List.length_set]; exact hgd.ld
    have hda : gB (dn.set a.toNat true) a.toNat = true := by rw [gB_set (by omega), if_pos rfl]
    have hself : gI (relL cl (dn.set a.toNat true) a (gEs (graphR n es) a.toNat) j.toNat) a.toNat = gI cl a.toNat := relL_self (by rw [hgd.lc]; omega) hda
    have hcoa : gI (coL (relL cl (dn.set a.toNat true) a (gEs (graphR n es) a.toNat) j.toNat)) a.toNat = gI cl a.toNat := by rw [coL_at (by omega), hself, if_neg (by omega)]
    have hka := hgd.high a.toNat (by omega)
    have wc0 : IntKind.i64.wrap (gI cl a.toNat + (gE (gEs (graphR n es) a.toNat) j.toNat).2.2) = gI cl a.toNat + (gE (gEs (graphR n es) a.toNat) j.toNat).2.2 := wrap_eq (by omega) (by omega)
    have wcc : IntKind.i64.wrap (gI (coL (relL cl (dn.set a.toNat true) a (gEs (graphR n es) a.toNat) j.toNat)) a.toNat + (gE (gEs (graphR n es) a.toNat) j.toNat).2.2) = gI cl a.toNat + (gE (gEs (graphR n es) a.toNat) j.toNat).2.2 := by rw [hcoa]; exact wc0
    have hv0 : 0 ≤ gI cl a.toNat + (gE (gEs (graphR n es) a.toNat) j.toNat).2.2 := by omega
    have hstp := relL_step (cl := cl) (dn := (dn.set a.toNat true)) (a := a) hjl (fun e he => (hrow.2 e he).2.1) hca0 (by rw [hgd.lc]; omega)
    have hf1 : (gE (gEs (graphR n es) a.toNat) j.toNat).1 = a := by rw [hfr]; omega
    have tc : (gE (gEs (graphR n es) a.toNat) j.toNat).2.1 < ((coL (relL cl (dn.set a.toNat true) a (gEs (graphR n es) a.toNat) j.toNat)).length : Int) := by omega
    have tk : (gE (gEs (graphR n es) a.toNat) j.toNat).2.1 < ((knL (relL cl (dn.set a.toNat true) a (gEs (graphR n es) a.toNat) j.toNat)).length : Int) := by omega
    have td : (gE (gEs (graphR n es) a.toNat) j.toNat).2.1 < ((dn.set a.toNat true).length : Int) := by omega
    have hkt := knL_at (cl := (relL cl (dn.set a.toNat true) a (gEs (graphR n es) a.toNat) j.toNat)) (k := (gE (gEs (graphR n es) a.toNat) j.toNat).2.1.toNat) (by omega)
    have hct := coL_at (cl := (relL cl (dn.set a.toNat true) a (gEs (graphR n es) a.toNat) j.toNat)) (k := (gE (gEs (graphR n es) a.toNat) j.toNat).2.1.toNat) (by omega)
    have ac : a < ((coL (relL cl (dn.set a.toNat true) a (gEs (graphR n es) a.toNat) j.toNat)).length : Int) := by omega
    conv => whnf
    refine ⟨j0, ?_⟩
    conv => whnf
    refine ⟨jlt, ?_⟩
    conv => whnf
    refine ⟨a0, ?_⟩
    conv => whnf
    refine ⟨ac, ?_⟩
    conv => whnf
    refine ⟨hee.1.1, ?_⟩
    conv => whnf
    refine ⟨td, ?_⟩
    conv => whnf
    refine cond_intro (fun i1 => ?_) (fun i1 => ?_)
    · have i1 : (!(gB (dn.set a.toNat true) (gE (gEs (graphR n es) a.toNat) j.toNat).2.1.toNat)) = true := i1
      have i1 : (gB (dn.set a.toNat true) (gE (gEs (graphR n es) a.toNat) j.toNat).2.1.toNat) = false := by cases e : (gB (dn.set a.toNat true) (gE (gEs (graphR n es) a.toNat) j.toNat).2.1.toNat) with | false => rfl | true => exact absurd i1 (by rw [e]; decide)
      conv => whnf
      refine ⟨hee.1.1, ?_⟩
      conv => whnf
      refine ⟨tk, ?_⟩
      conv => whnf
      refine cond_intro (fun i2 => ?_) (fun i2 => ?_)
      · have i2 : (!(gB (knL (relL cl (dn.set a.toNat true) a (gEs (graphR n es) a.toNat) j.toNat)) (gE (gEs (graphR n es) a.toNat) j.toNat).2.1.toNat)) = true := i2
        have i2 : (gB (knL (relL cl (dn.set a.toNat true) a (gEs (graphR n es) a.toNat) j.toNat)) (gE (gEs (graphR n es) a.toNat) j.toNat).2.1.toNat) = false := by cases e : (gB (knL (relL cl (dn.set a.toNat true) a (gEs (graphR n es) a.toNat) j.toNat)) (gE (gEs (graphR n es) a.toNat) j.toNat).2.1.toNat) with | false => rfl | true => exact absurd i2 (by rw [e]; decide)
        rw [hkt] at i2
        have i2' := of_decide_eq_false i2
        conv => whnf
        refine ⟨hee.1.1, ?_⟩
        conv => whnf
        refine ⟨tk, ?_⟩
        conv => whnf
        refine ⟨hee.1.1, ?_⟩
        conv => whnf
        refine ⟨tc, ?_⟩
        conv => whnf
        refine ⟨j + 1, ?_, ⟨by omega, by omega⟩, by omega⟩
        exact Eq.trans (b := S34c n to g (graphR n es) ((relL cl (dn.set a.toNat true) a (gEs (graphR n es) a.toNat) j.toNat).set (gE (gEs (graphR n es) a.toNat) j.toNat).2.1.toNat (gI cl a.toNat + (gE (gEs (graphR n es) a.toNat) j.toNat).2.2)) (dn.set a.toNat true) (cnt + 1) a (gEs (graphR n es) a.toNat) (IntKind.i64.wrap (j + 1))) (by rw [S34c, ← coL_set hv0, ← knL_set hv0]; rw [← wcc]; rfl) (by rw [wj, ej, hstp, if_pos ⟨hf1, i1, Or.inl (by omega)⟩])
      have i2 : (!(gB (knL (relL cl (dn.set a.toNat true) a (gEs (graphR n es) a.toNat) j.toNat)) (gE (gEs (graphR n es) a.toNat) j.toNat).2.1.toNat)) = false := i2
      have i2 : (gB (knL (relL cl (dn.set a.toNat true) a (gEs (graphR n es) a.toNat) j.toNat)) (gE (gEs (graphR n es) a.toNat) j.toNat).2.1.toNat) = true := by cases e : (gB (knL (relL cl (dn.set a.toNat true) a (gEs (graphR n es) a.toNat) j.toNat)) (gE (gEs (graphR n es) a.toNat) j.toNat).2.1.toNat) with | true => rfl | false => exact absurd i2 (by rw [e]; decide)
      rw [hkt] at i2
      have i2' := of_decide_eq_true i2
      rw [if_neg (by omega)] at hct
      conv => whnf
      refine ⟨hee.1.1, ?_⟩
      conv => whnf
      refine ⟨tc, ?_⟩
      conv => whnf
      refine cond_intro (fun i3 => ?_) (fun i3 => ?_)
      · have i3 : IntKind.i64.wrap (gI (coL (relL cl (dn.set a.toNat true) a (gEs (graphR n es) a.toNat) j.toNat)) a.toNat + (gE (gEs (graphR n es) a.toNat) j.toNat).2.2) < gI (coL (relL cl (dn.set a.toNat true) a (gEs (graphR n es) a.toNat) j.toNat)) (gE (gEs (graphR n es) a.toNat) j.toNat).2.1.toNat := @of_decide_eq_true _ _ i3
        rw [wcc, hct] at i3
        conv => whnf
        refine ⟨hee.1.1, ?_⟩
        conv => whnf
        refine ⟨tk, ?_⟩
        conv => whnf
        refine ⟨hee.1.1, ?_⟩
        conv => whnf
        refine ⟨tc, ?_⟩
        conv => whnf
        refine ⟨j + 1, ?_, ⟨by omega, by omega⟩, by omega⟩
        exact Eq.trans (b := S34c n to g (graphR n es) ((relL cl (dn.set a.toNat true) a (gEs (graphR n es) a.toNat) j.toNat).set (gE (gEs (graphR n es) a.toNat) j.toNat).2.1.toNat (gI cl a.toNat + (gE (gEs (graphR n es) a.toNat) j.toNat).2.2)) (dn.set a.toNat true) (cnt + 1) a (gEs (graphR n es) a.toNat) (IntKind.i64.wrap (j + 1))) (by rw [S34c, ← coL_set hv0, ← knL_set hv0]; rw [← wcc]; rfl) (by rw [wj, ej, hstp, if_pos ⟨hf1, i1, Or.inr i3⟩])
      have i3 : ¬ (IntKind.i64.wrap (gI (coL (relL cl (dn.set a.toNat true) a (gEs (graphR n es) a.toNat) j.toNat)) a.toNat + (gE (gEs (graphR n es) a.toNat) j.toNat).2.2) < gI (coL (relL cl (dn.set a.toNat true) a (gEs (graphR n es) a.toNat) j.toNat)) (gE (gEs (graphR n es) a.toNat) j.toNat).2.1.toNat) := @of_decide_eq_false _ _ i3
      rw [wcc, hct] at i3
      conv => whnf
      refine ⟨j + 1, ?_, ⟨by omega, by omega⟩, by omega⟩
      exact Eq.trans (b := S34c n to g (graphR n es) (relL cl (dn.set a.toNat true) a (gEs (graphR n es) a.toNat) j.toNat) (dn.set a.toNat true) (cnt + 1) a (gEs (graphR n es) a.toNat) (IntKind.i64.wrap (j + 1))) rfl (by rw [wj, ej, hstp, if_neg (fun h => by rcases h.2.2 with h | h <;> omega)])
    have i1 : (!(gB (dn.set a.toNat true) (gE (gEs (graphR n es) a.toNat) j.toNat).2.1.toNat)) = false := i1
    have i1 : (gB (dn.set a.toNat true) (gE (gEs (graphR n es) a.toNat) j.toNat).2.1.toNat) = true := by cases e : (gB (dn.set a.toNat true) (gE (gEs (graphR n es) a.toNat) j.toNat).2.1.toNat) with | true => rfl | false => exact absurd i1 (by rw [e]; decide)
    conv => whnf
    refine ⟨j + 1, ?_, ⟨by omega, by omega⟩, by omega⟩
    exact Eq.trans (b := S34c n to g (graphR n es) (relL cl (dn.set a.toNat true) a (gEs (graphR n es) a.toNat) j.toNat) (dn.set a.toNat true) (cnt + 1) a (gEs (graphR n es) a.toNat) (IntKind.i64.wrap (j + 1))) rfl (by rw [wj, ej, hstp, if_neg (fun h => by rw [h.2.1] at i1; cases i1)])
  have jlt : ¬ (j < ((gEs (graphR n es) a.toNat).length : Int)) := @of_decide_eq_false _ _ jlt
  have hnx := hgd.next hes ⟨a0, a1⟩ hca0 hd0
  have hcs := count_set_true (l := dn) (k := a.toNat) (by omega) hd0
  have hcf := count_set_false (l := dn) (k := a.toNat) (by omega) hd0
  rw [show j.toNat = (gEs (graphR n es) a.toNat).length by omega, relL_row hes a0]
  conv => whnf
  refine ⟨((relL cl (dn.set a.toNat true) a es es.length, (dn.set a.toNat true)), cnt + 1), rfl, ⟨hnx, by show 0 ≤ cnt + 1; omega, by show cnt + 1 ≤ ((dn.set a.toNat true).count true : Int); omega, ?_⟩, by show (dn.set a.toNat true).count false < dn.count false; omega⟩
  show guideF es g to ((dn.set a.toNat true).count false + 1) (relL cl (dn.set a.toNat true) a es es.length) (dn.set a.toNat true) (cnt + 1) = guideF es g to (n.toNat + 1) (startC n fr) (List.replicate n.toNat false) 0
  rw [hcf, ← htot, guide_go (by omega) (by rw [← hae]; exact q1), ← hae]
end
end Go.Proofs.Ythgclbohlcgdgaa.Eng
set_option linter.unusedVariables false
set_option linter.unusedSimpArgs false
namespace Go.Proofs.Ythgclbohlcgdgaa.Eng
open Go
set_option maxRecDepth 100000
noncomputable section
theorem startC_at (n a : Int) (k : Nat) (hk : k < n.toNat) (ha : 0 ≤ a ∧ a < n) : gI (startC n a) k = if a.toNat = k then 0 else -1 := by
  unfold startC
  rw [gI_set (by rw [List.length_replicate]; omega)]
  split
  · rfl
  · unfold gI
    rw [List.getD_eq_getElem?_getD, List.getElem?_replicate, if_pos hk]; rfl
theorem all_start {n a : Int} {out : List Int} (ha : 0 ≤ a ∧ a < n) (h : AllAt n.toNat (fun _ => -1) n.toNat out) : out.set a.toNat 0 = startC n a := by
  have hl : a.toNat < out.length := by rw [h.lo]; omega
  apply List.ext_getElem
  · rw [List.length_set, h.lo]; simp [startC]
  · intro k k1 k2
    have hk : k < n.toNat := by rw [List.length_set, h.lo] at k1; exact k1
    rw [← gI_eq k1, ← gI_eq k2, startC_at n a k hk ha, gI_set hl]
    split
    · rfl
    · exact h.at_ k hk hk
def S35i (es : List Ed) (fr to : Int) (g out : List Int) (dn : List Bool) (m : Nat) (i : Int) : SL := ⟨List.replicate 1 .undef ++ [.sl eT es] ++ [.int .i64 fr] ++ [.int .i64 to] ++ [.sl I g] ++ List.replicate 10 .undef ++ [.own 0] ++ [.own 1] ++ List.replicate 22 .undef ++ [.int .i64 (m : Int)] ++ [.int .i64 i] ++ List.replicate 142 .undef, [(0, .arr I out), (1, .arr .bool dn)], 2⟩
def S35a (es : List Ed) (to : Int) (g : List Int) (cl : List Int) (dn : List Bool) (cnt : Int) : SL := ⟨List.replicate 1 .undef ++ [.sl eT es] ++ List.replicate 1 .undef ++ [.int .i64 to] ++ [.sl I g] ++ List.replicate 10 .undef ++ [.own 0] ++ [.own 1] ++ List.replicate 1 .undef ++ [.int .i64 cnt] ++ List.replicate 164 .undef, [(0, .arr I cl), (1, .arr .bool dn)], 2⟩
def S35b (es : List Ed) (to : Int) (g : List Int) (cl : List Int) (dn : List Bool) (cnt : Int) (m : Nat) (a k : Int) : SL := ⟨List.replicate 1 .undef ++ [.sl eT es] ++ List.replicate 1 .undef ++ [.int .i64 to] ++ [.sl I g] ++ List.replicate 10 .undef ++ [.own 0] ++ [.own 1] ++ List.replicate 1 .undef ++ [.int .i64 cnt] ++ [.int .i64 a] ++ List.replicate 32 .undef ++ [.own 0] ++ [.int .i64 (m : Int)] ++ [.int .i64 k] ++ List.replicate 128 .undef, [(0, .arr I cl), (1, .arr .bool dn)], 2⟩
def S35c (es : List Ed) (to : Int) (g : List Int) (cl : List Int) (dn : List Bool) (cnt : Int) (a j : Int) : SL := ⟨List.replicate 1 .undef ++ [.sl eT es] ++ List.replicate 1 .undef ++ [.int .i64 to] ++ [.sl I g] ++ List.replicate 10 .undef ++ [.own 0] ++ [.own 1] ++ List.replicate 1 .undef ++ [.int .i64 cnt] ++ [.int .i64 a] ++ List.replicate 110 .undef ++ [.sl eT es] ++ [.int .i64 es.length] ++ [.int .i64 j] ++ List.replicate 50 .undef, [(0, .arr I cl), (1, .arr .bool dn)], 2⟩
def E35 : Env := ⟨tab, [(47, K47)], fun n => match n with | 7 => some ([1, 2, 3, 4, 15, 16, 39, 40], [], []) | 14 => some ([1, 3, 4, 15, 16, 18], [], []) | 16 => some ([1, 3, 4, 15, 16, 18, 19, 52, 53, 54], [], []) | 28 => some ([1, 3, 4, 15, 16, 18, 19, 130, 131, 132], [], []) | _ => none⟩
def K35 : Fn1 := ⟨.fld I (.fld (.sl eT) (.fld I (.fld I (.one (.sl I))))), .fld I (.fld I (.fld .bool (.one I))), fun (a : Int × List Ed × Int × Int × List Int) => [a.2.2.2.2.length ≤ 1000000000], fun (a : Int × List Ed × Int × Int × List Int) => guideR a.1 a.2.1 a.2.2.1 a.2.2.2.1 a.2.2.2.2⟩
set_option maxHeartbeats 4000000 in
theorem k35 : FnOk Go.Proofs.Try.prog 35 K35 := by
  refine fn_ok (E := E35) (TOk.of tab_told) (AllOk.cons k47 .nil).at_ mix Go.Proofs.Try.func35 rfl rfl (by kernel_rfl) K35 ?_
  rintro ⟨(n : Int), (es : List Ed), (fr : Int), (to : Int), (g : List Int)⟩ hp
  have hgl0 : g.length ≤ 1000000000 := hp _ (List.mem_cons_self ..)
  clear hp
  conv => whnf
  refine ⟨show g.length ≤ 1000000000 by omega, ?_⟩
  conv => whnf
  refine ⟨show 2 ≤ 1000000000 by omega, ?_⟩
  conv => whnf
  refine cond_intro (fun hgs => ?_) (fun hgs => ?_)
  · have hgs : (!decide (guessR n es g [fr, to] = 0)) = true := hgs
    have hgs : ¬ (guessR n es g [fr, to] = 0) := fun e => absurd hgs (by rw [decide_eq_true e]; decide)
    conv => whnf
    show (0, 0, false, guessR n es g [fr, to]) = guideR n es fr to g
    rw [guide_bad hgs]
  have hgs : (!decide (guessR n es g [fr, to] = 0)) = false := hgs
  have hgs : guessR n es g [fr, to] = 0 := Decidable.byContradiction fun e => absurd hgs (by rw [decide_eq_false e]; decide)
  obtain ⟨hnd, hgl, hgo⟩ := guess_iff hgs
  obtain ⟨hv, hnn⟩ := nodes_iff hnd
  have hes := valid_es hv
  obtain ⟨v1, v2, v3, _⟩ := valid_iff hv
  have hft : (0 ≤ fr ∧ fr < n) ∧ 0 ≤ to ∧ to < n := ⟨hnn [fr, to] List.mem_cons_self fr List.mem_cons_self, hnn [fr, to] List.mem_cons_self to (List.mem_cons_of_mem _ List.mem_cons_self)⟩
  have hcr : (List.replicate n.toNat false).count false = n.toNat := List.count_replicate_self ..
  conv => whnf
  refine ⟨v1, ?_⟩
  conv => whnf
  refine ⟨Int.le_refl _, ?_⟩
  conv => whnf
  refine ⟨show n * 8 ≤ 70368744177664 by omega, ?_⟩
  conv => whnf
  refine ⟨show n ≤ 70368744177664 by omega, ?_⟩
  conv => whnf
  refine ⟨v1, ?_⟩
  conv => whnf
  refine ⟨Int.le_refl _, ?_⟩
  conv => whnf
  refine ⟨show n * 1 ≤ 70368744177664 by omega, ?_⟩
  conv => whnf
  refine ⟨show n ≤ 70368744177664 by omega, ?_⟩
  conv => whnf
  refine loop_rule (fun x : List Int × Int => S35i es fr to g x.1 (List.replicate n.toNat false) n.toNat x.2) (fun x => (n - x.2).toNat) (fun x => 0 ≤ x.2 ∧ x.2 ≤ n ∧ AllAt n.toNat (fun _ => -1) x.2.toNat x.1) ?_ (List.replicate n.toNat 0, 0) (by kernel_rfl) ?_ ⟨Int.le_refl _, v1, allat_start _ _⟩
  case refine_2 => exact Eq.trans (b := S35i es fr to g (List.replicate n.toNat 0) (List.replicate n.toNat false) (List.replicate n.toNat (0 : Int)).length 0) rfl (by rw [List.length_replicate])
  rintro ⟨out, i⟩ ⟨h0, i1, hat⟩
  have h0 : 0 ≤ i := h0
  have i1 : i ≤ n := i1
  have hat : AllAt n.toNat (fun _ => -1) i.toNat out := hat
  have hlo := hat.lo
  conv => whnf
  refine cond_intro (fun hlt0 => ?_) (fun hlt0 => ?_)
  · have hlt0 : i < ((n.toNat : Nat) : Int) := @of_decide_eq_true _ _ hlt0
    have wi : IntKind.i64.wrap (i + 1) = i + 1 := wrap_eq (by omega) (by omega)
    have ei : (i + 1).toNat = i.toNat + 1 := by omega
    conv => whnf
    refine ⟨h0, ?_⟩
    conv => whnf
    refine ⟨show i < (out.length : Int) by omega, ?_⟩
    conv => whnf
    refine ⟨(out.set i.toNat (-1), i + 1), ?_, ⟨by show 0 ≤ i + 1; omega, by show i + 1 ≤ _; omega, by show AllAt _ _ (i + 1).toNat _; rw [ei]; exact hat.step (by omega) rfl⟩, by show (n - (i + 1)).toNat < (n - i).toNat; omega⟩
    exact Eq.trans (b := S35i es fr to g (out.set i.toNat (-1)) (List.replicate n.toNat false) n.toNat (IntKind.i64.wrap (i + 1))) rfl (by rw [wi])
  have hlt0 : ¬ (i < ((n.toNat : Nat) : Int)) := @of_decide_eq_false _ _ hlt0
  rw [show i.toNat = n.toNat by omega] at hat
  have hst := all_start hft.1 hat
  conv => whnf
  refine ⟨hft.1.1, ?_⟩
  conv => whnf
  refine ⟨show fr < (out.length : Int) by omega, ?_⟩
  conv => whnf
  refine loop_rule (fun x : (List Int × List Bool) × Int => S35a es to g x.1.1 x.1.2 x.2) (fun x => x.1.2.count false) (fun x => Gd n.toNat x.1.1 x.1.2 ∧ 1 ≤ x.2 ∧ x.2 ≤ (x.1.2.count true : Int) + 1 ∧ guideF es g to (x.1.2.count false + 1) x.1.1 x.1.2 (x.2 - 1) = guideF es g to (n.toNat + 1) (startC n fr) (List.replicate n.toNat false) 0) ?_ ((startC n fr, List.replicate n.toNat false), 1) (by kernel_rfl) ?_ ⟨gd_start hft.1, Int.le_refl _, by show (1 : Int) ≤ _ + 1; omega, by show guideF es g to ((List.replicate n.toNat false).count false + 1) _ _ (1 - 1) = _; rw [hcr]; rfl⟩
  case refine_2 => exact Eq.trans (b := S35a es to g (out.set fr.toNat 0) (List.replicate n.toNat false) 1) rfl (by rw [hst])
  rintro ⟨⟨cl, dn⟩, cnt⟩ ⟨hgd, c0, c1, htot⟩
  have hgd : Gd n.toNat cl dn := hgd
  have c0 : 1 ≤ cnt := c0
  have c1 : cnt ≤ (dn.count true : Int) + 1 := c1
  have htot : guideF es g to (dn.count false + 1) cl dn (cnt - 1) = guideF es g to (n.toNat + 1) (startC n fr) (List.replicate n.toNat false) 0 := htot
  have hcn := count_le dn
  have hdl := hgd.ld
  have hll := hgd.lc
  conv => whnf
  refine loop_rule (fun k => S35b es to g cl dn cnt n.toNat (pickJ g cl dn k.toNat) k) (fun k => (n - k).toNat) (fun k => 0 ≤ k ∧ k ≤ n) ?_ 0 (by kernel_rfl) ?_ ⟨Int.le_refl _, v1⟩
  case refine_2 => exact Eq.trans (b := S35b es to g cl dn cnt cl.length (-1) 0) rfl (by rw [hll]; rfl)
  rintro k ⟨k0, k1⟩
  have hps0 := pick_spec g cl dn k.toNat
  conv => whnf
  refine cond_intro (fun klt => ?_) (fun klt => ?_)
  · have klt : k < ((n.toNat : Nat) : Int) := @of_decide_eq_true _ _ klt
    have wk : IntKind.i64.wrap (k + 1) = k + 1 := wrap_eq (by omega) (by omega)
    have ek : (k + 1).toNat = k.toNat + 1 := by omega
    have kc : k < (cl.length : Int) := by omega
    have kd : k < (dn.length : Int) := by omega
    have kg : k < (g.length : Int) := by omega
    conv => whnf
    refine ⟨k0, ?_⟩
    conv => whnf
    refine ⟨kc, ?_⟩
    conv => whnf
    refine cond_intro (fun i1 => ?_) (fun i1 => ?_)
    · have i1 : gI cl k.toNat < 0 := @of_decide_eq_true _ _ i1
      have hpb : pickB g cl dn k.toNat (pickJ g cl dn k.toNat) = false := by unfold pickB; rw [decide_eq_false (by omega)]; rfl
      have hps := pickJ_succ g cl dn k.toNat
      rw [hpb] at hps
      conv => whnf
      refine ⟨k + 1, ?_, ⟨by omega, by omega⟩, by omega⟩
      exact Eq.trans (b := S35b es to g cl dn cnt n.toNat (pickJ g cl dn k.toNat) (IntKind.i64.wrap (k + 1))) rfl (by rw [wk, ek, hps]; rw [if_neg (by decide)])
    have i1 : ¬ (gI cl k.toNat < 0) := @of_decide_eq_false _ _ i1
    have i1' : 0 ≤ gI cl k.toNat := by omega
    conv => whnf
    refine ⟨k0, ?_⟩
    conv => whnf
    refine ⟨kd, ?_⟩
    conv => whnf
    refine cond_intro (fun i2 => ?_) (fun i2 => ?_)
    · have i2 : (gB dn k.toNat) = true := i2
      have hpb : pickB g cl dn k.toNat (pickJ g cl dn k.toNat) = false := by unfold pickB; rw [decide_eq_true i1', i2]; rfl
      have hps := pickJ_succ g cl dn k.toNat
      rw [hpb] at hps
      conv => whnf
      refine ⟨k + 1, ?_, ⟨by omega, by omega⟩, by omega⟩
      exact Eq.trans (b := S35b es to g cl dn cnt n.toNat (pickJ g cl dn k.toNat) (IntKind.i64.wrap (k + 1))) rfl (by rw [wk, ek, hps]; rw [if_neg (by decide)])
    have i2 : (gB dn k.toNat) = false := i2
    conv => whnf
    refine cond_intro (fun i3 => ?_) (fun i3 => ?_)
    · have i3 : (pickJ g cl dn k.toNat) < 0 := @of_decide_eq_true _ _ i3
      have hpb : pickB g cl dn k.toNat (pickJ g cl dn k.toNat) = true := by unfold pickB; rw [decide_eq_true i1', i2, decide_eq_true i3]; rfl
      have hps := pickJ_succ g cl dn k.toNat
      rw [hpb] at hps
      conv => whnf
      refine ⟨k + 1, ?_, ⟨by omega, by omega⟩, by omega⟩
      exact Eq.trans (b := S35b es to g cl dn cnt n.toNat k (IntKind.i64.wrap (k + 1))) rfl (by rw [wk, ek, hps]; rw [if_pos rfl, show ((k.toNat : Nat) : Int) = k by omega])
    have i3 : ¬ ((pickJ g cl dn k.toNat) < 0) := @of_decide_eq_false _ _ i3
    obtain ⟨ha1, ha2, ha3, _⟩ : (0 ≤ (pickJ g cl dn k.toNat) ∧ (pickJ g cl dn k.toNat) < ((k.toNat : Nat) : Int)) ∧ 0 ≤ gI cl (pickJ g cl dn k.toNat).toNat ∧ gB dn (pickJ g cl dn k.toNat).toNat = false ∧ ∀ m, m < k.toNat → 0 ≤ gI cl m → gB dn m = false → gI cl (pickJ g cl dn k.toNat).toNat + gI g (pickJ g cl dn k.toNat).toNat ≤ gI cl m + gI g m := by
      rcases hps0 with h | h
      · omega
      · exact h
    have hk1 := hgd.high k.toNat (by omega)
    have hk2 := hgd.high (pickJ g cl dn k.toNat).toNat (by omega)
    have g1 := hgo k.toNat (by omega)
    have g2 := hgo (pickJ g cl dn k.toNat).toNat (by omega)
    have wa : IntKind.i64.wrap (gI cl k.toNat + gI g k.toNat) = gI cl k.toNat + gI g k.toNat := wrap_eq (by omega) (by omega)
    have wb : IntKind.i64.wrap (gI cl (pickJ g cl dn k.toNat).toNat + gI g (pickJ g cl dn k.toNat).toNat) = gI cl (pickJ g cl dn k.toNat).toNat + gI g (pickJ g cl dn k.toNat).toNat := wrap_eq (by omega) (by omega)
    have ac : (pickJ g cl dn k.toNat) < (cl.length : Int) := by omega
    have ag : (pickJ g cl dn k.toNat) < (g.length : Int) := by omega
    conv => whnf
    refine ⟨k0, ?_⟩
    conv => whnf
    refine ⟨kg, ?_⟩
    conv => whnf
    refine ⟨ha1.1, ?_⟩
    conv => whnf
    refine ⟨ac, ?_⟩
    conv => whnf
    refine ⟨ha1.1, ?_⟩
    conv => whnf
    refine ⟨ag, ?_⟩
    conv => whnf
    refine cond_intro (fun i4 => ?_) (fun i4 => ?_)
    · have i4 : IntKind.i64.wrap (gI cl k.toNat + gI g k.toNat) < IntKind.i64.wrap (gI cl (pickJ g cl dn k.toNat).toNat + gI g (pickJ g cl dn k.toNat).toNat) := @of_decide_eq_true _ _ i4
      rw [wa, wb] at i4
      have hpb : pickB g cl dn k.toNat (pickJ g cl dn k.toNat) = true := by unfold pickB; rw [decide_eq_true i1', i2, decide_eq_false i3]; unfold lessR; rw [decide_eq_true (Or.inl i4)]; rfl
      have hps := pickJ_succ g cl dn k.toNat
      rw [hpb] at hps
      conv => whnf
      refine ⟨k + 1, ?_, ⟨by omega, by omega⟩, by omega⟩
      exact Eq.trans (b := S35b es to g cl dn cnt n.toNat k (IntKind.i64.wrap (k + 1))) rfl (by rw [wk, ek, hps]; rw [if_pos rfl, show ((k.toNat : Nat) : Int) = k by omega])
    have i4 : ¬ (IntKind.i64.wrap (gI cl k.toNat + gI g k.toNat) < IntKind.i64.wrap (gI cl (pickJ g cl dn k.toNat).toNat + gI g (pickJ g cl dn k.toNat).toNat)) := @of_decide_eq_false _ _ i4
    rw [wa, wb] at i4
    conv => whnf
    refine ⟨k0, ?_⟩
    conv => whnf
    refine ⟨kg, ?_⟩
    conv => whnf
    refine ⟨ha1.1, ?_⟩
    conv => whnf
    refine ⟨ac, ?_⟩
    conv => whnf
    refine ⟨ha1.1, ?_⟩
    conv => whnf
    refine ⟨ag, ?_⟩
    conv => whnf
    refine cond_intro (fun i5 => ?_) (fun i5 => ?_)
    · have i5 : IntKind.i64.wrap (gI cl k.toNat + gI g k.toNat) = IntKind.i64.wrap (gI cl (pickJ g cl dn k.toNat).toNat + gI g (pickJ g cl dn k.toNat).toNat) := @of_decide_eq_true _ _ i5
      rw [wa, wb] at i5
      conv => whnf
      refine ⟨ha1.1, ?_⟩
      conv => whnf
      refine ⟨ac, ?_⟩
      conv => whnf
      refine cond_intro (fun i6 => ?_) (fun i6 => ?_)
      · have i6 : gI cl k.toNat < gI cl (pickJ g cl dn k.toNat).toNat := @of_decide_eq_true _ _ i6
        have hpb : pickB g cl dn k.toNat (pickJ g cl dn k.toNat) = true := by unfold pickB; rw [decide_eq_true i1', i2, decide_eq_false i3]; unfold lessR; rw [decide_eq_true (Or.inr ⟨i5, i6⟩)]; rfl
        have hps := pickJ_succ g cl dn k.toNat
        rw [hpb] at hps
        conv => whnf
        refine ⟨k + 1, ?_, ⟨by omega, by omega⟩, by omega⟩
        exact Eq.trans (b := S35b es to g cl dn cnt n.toNat k (IntKind.i64.wrap (k + 1))) rfl (by rw [wk, ek, hps]; rw [if_pos rfl, show ((k.toNat : Nat) : Int) = k by omega])
      have i6 : ¬ (gI cl k.toNat < gI cl (pickJ g cl dn k.toNat).toNat) := @of_decide_eq_false _ _ i6
      have hpb : pickB g cl dn k.toNat (pickJ g cl dn k.toNat) = false := by unfold pickB; rw [decide_eq_true i1', i2, decide_eq_false i3]; unfold lessR; rw [decide_eq_false (fun h => by omega)]; rfl
      have hps := pickJ_succ g cl dn k.toNat
      rw [hpb] at hps
      conv => whnf
      refine ⟨k + 1, ?_, ⟨by omega, by omega⟩, by omega⟩
      exact Eq.trans (b := S35b es to g cl dn cnt n.toNat (pickJ g cl dn k.toNat) (IntKind.i64.wrap (k + 1))) rfl (by rw [wk, ek, hps]; rw [if_neg (by decide)])
    have i5 : ¬ (IntKind.i64.wrap (gI cl k.toNat + gI g k.toNat) = IntKind.i64.wrap (gI cl (pickJ g cl dn k.toNat).toNat + gI g (pickJ g cl dn k.toNat).toNat)) := @of_decide_eq_false _ _ i5
    rw [wa, wb] at i5
    have hpb : pickB g cl dn k.toNat (pickJ g cl dn k.toNat) = false := by unfold pickB; rw [decide_eq_true i1', i2, decide_eq_false i3]; unfold lessR; rw [decide_eq_false (fun h => by omega)]; rfl
    have hps := pickJ_succ g cl dn k.toNat
    rw [hpb] at hps
    conv => whnf
    refine ⟨k + 1, ?_, ⟨by omega, by omega⟩, by omega⟩
    exact Eq.trans (b := S35b es to g cl dn cnt n.toNat (pickJ g cl dn k.toNat) (IntKind.i64.wrap (k + 1))) rfl (by rw [wk, ek, hps]; rw [if_neg (by decide)])
  have klt : ¬ (k < ((n.toNat : Nat) : Int)) := @of_decide_eq_false _ _ klt
  have hkn : k.toNat = cl.length := by omega
  rw [hkn] at hps0
  rw [hkn]
  obtain ⟨a, hae⟩ : ∃ a, a = (pickJ g cl dn cl.length) := ⟨_, rfl⟩
  rw [← hae] at hps0 ⊢
  have wcn : IntKind.i64.wrap (cnt + 1) = cnt + 1 := wrap_eq (by omega) (by omega)
  have wcm : IntKind.i64.wrap (cnt - 1) = cnt - 1 := wrap_eq (by omega) (by omega)
  conv => whnf
  refine cond_intro (fun q0 => ?_) (fun q0 => ?_)
  · have q0 : a < 0 := @of_decide_eq_true _ _ q0
    have hgf : guideF es g to (n.toNat + 1) (startC n fr) (List.replicate n.toNat false) 0 = (0, cnt - 1, false) := by rw [← htot]; exact guide_stop (by rw [← hae]; exact q0)
    conv => whnf
    show (0, IntKind.i64.wrap (cnt - 1), false, 0) = guideR n es fr to g
    rw [guide_ok hgs hgf, wcm]
  have q0 : ¬ (a < 0) := @of_decide_eq_false _ _ q0
  obtain ⟨ha1, hca0, hd0, _⟩ : (0 ≤ a ∧ a < ((cl.length : Nat) : Int)) ∧ 0 ≤ gI cl a.toNat ∧ gB dn a.toNat = false ∧ ∀ m, m < cl.length → 0 ≤ gI cl m → gB dn m = false → gI cl a.toNat + gI g a.toNat ≤ gI cl m + gI g m := by
    rcases hps0 with h | h
    · omega
    · exact h
  have a0 := ha1.1
  have a1 : a < n := by omega
  have acl : a < (cl.length : Int) := by omega
  have adn : a < (dn.length : Int) := by omega
  conv => whnf
  refine ⟨a0, ?_⟩
  conv => whnf
  refine ⟨adn, ?_⟩
  conv => whnf
  refine cond_intro (fun q1 => ?_) (fun q1 => ?_)
  · have q1 : a = to := @of_decide_eq_true _ _ q1
    have hgf : guideF es g to (n.toNat + 1) (startC n fr) (List.replicate n.toNat false) 0 = (gI cl a.toNat, cnt - 1 + 1, true) := by rw [← htot, guide_at (by rw [← hae]; exact q0) (by rw [← hae]; exact q1), ← hae]
    conv => whnf
    refine ⟨a0, ?_⟩
    conv => whnf
    refine ⟨acl, ?_⟩
    conv => whnf
    show (gI cl a.toNat, cnt, true, 0) = guideR n es fr to g
    rw [guide_ok hgs hgf, show cnt - 1 + 1 = cnt by omega]
  have q1 : ¬ (a = to) := @of_decide_eq_false _ _ q1
  conv => whnf
  refine loop_rule (fun j => S35c es to g (relL cl (dn.set a.toNat true) a es j.toNat) (dn.set a.toNat true) cnt a j) (fun j => ((es.length : Int) - j).toNat) (fun j => 0 ≤ j ∧ j ≤ es.length) ?_ 0 (by kernel_rfl) ?_ ⟨by omega, by omega⟩
  case refine_2 => exact Eq.trans (b := S35c es to g cl (dn.set a.toNat true) cnt a 0) rfl (by rw [show (0 : Int).toNat = 0 from rfl, relL_zero])
  rintro j ⟨j0, j1⟩
  conv => whnf
  refine cond_intro (fun jlt => ?_) (fun jlt => ?_)
  · have jlt : j < (es.length : Int) := @of_decide_eq_true _ _ jlt
    have wj : IntKind.i64.wrap (j + 1) = j + 1 := wrap_eq (by omega) (by omega)
    have ej : (j + 1).toNat = j.toNat + 1 := by omega
    have hjl : j.toNat < es.length := by omega
    have hee := hes.ok _ (gE_mem hjl)
    have hlo : (relL cl (dn.set a.toNat true) a es j.toNat).length = n.toNat := by rw [relL_len]; exact hgd.lc
    have hdl1 : (dn.set a.toNat true).length = n.toNat := by rw [List.length_set]; exact hgd.ld
    have hda : gB (dn.set a.toNat true) a.toNat = true := by rw [gB_set (by omega), if_pos rfl]
    have hself : gI (relL cl (dn.set a.toNat true) a es j.toNat) a.toNat = gI cl a.toNat := relL_self (by rw [hgd.lc]; omega) hda
    have hka := hgd.high a.toNat (by omega)
    have wcc : (IntKind.i64.wrap (gI (relL cl (dn.set a.toNat true) a es j.toNat) a.toNat + (gE es j.toNat).2.2)) = (gI cl a.toNat + (gE es j.toNat).2.2) := by rw [hself]; exact wrap_eq (by omega) (by omega)
    have hstp := relL_step (cl := cl) (dn := (dn.set a.toNat true)) (a := a) hjl (fun e he => (hes.ok e he).2.2.1) hca0 (by rw [hgd.lc]; omega)
    have tc : (gE es j.toNat).2.1 < ((relL cl (dn.set a.toNat true) a es j.toNat).length : Int) := by omega
    have td : (gE es j.toNat).2.1 < ((dn.set a.toNat true).length : Int) := by omega
    have ac : a < ((relL cl (dn.set a.toNat true) a es j.toNat).length : Int) := by omega
    conv => whnf
    refine ⟨j0, ?_⟩
    conv => whnf
    refine ⟨jlt, ?_⟩
    conv => whnf
    refine cond_intro (fun i0 => ?_) (fun i0 => ?_)
    · have i0 : (gE es j.toNat).1 = a := @of_decide_eq_true _ _ i0
      conv => whnf
      refine ⟨hee.2.1.1, ?_⟩
      conv => whnf
      refine ⟨td, ?_⟩
      conv => whnf
      refine cond_intro (fun i1 => ?_) (fun i1 => ?_)
      · have i1 : (!(gB (dn.set a.toNat true) (gE es j.toNat).2.1.toNat)) = true := i1
        have i1 : (gB (dn.set a.toNat true) (gE es j.toNat).2.1.toNat) = false := by cases e : (gB (dn.set a.toNat true) (gE es j.toNat).2.1.toNat) with | false => rfl | true => exact absurd i1 (by rw [e]; decide)
        conv => whnf
        refine ⟨hee.2.1.1, ?_⟩
        conv => whnf
        refine ⟨tc, ?_⟩
        conv => whnf
        refine cond_intro (fun i2 => ?_) (fun i2 => ?_)
        · have i2 : gI (relL cl (dn.set a.toNat true) a es j.toNat) (gE es j.toNat).2.1.toNat < 0 := @of_decide_eq_true _ _ i2
          conv => whnf
          refine ⟨a0, ?_⟩
          conv => whnf
          refine ⟨ac, ?_⟩
          conv => whnf
          refine ⟨hee.2.1.1, ?_⟩
          conv => whnf
          refine ⟨tc, ?_⟩
          conv => whnf
          refine ⟨j + 1, ?_, ⟨by omega, by omega⟩, by omega⟩
          exact Eq.trans (b := S35c es to g ((relL cl (dn.set a.toNat true) a es j.toNat).set (gE es j.toNat).2.1.toNat (IntKind.i64.wrap (gI (relL cl (dn.set a.toNat true) a es j.toNat) a.toNat + (gE es j.toNat).2.2))) (dn.set a.toNat true) cnt a (IntKind.i64.wrap (j + 1))) rfl (by rw [wj, ej, hstp, if_pos ⟨i0, i1, Or.inl i2⟩]; rw [wcc])
        have i2 : ¬ (gI (relL cl (dn.set a.toNat true) a es j.toNat) (gE es j.toNat).2.1.toNat < 0) := @of_decide_eq_false _ _ i2
        conv => whnf
        refine ⟨a0, ?_⟩
        conv => whnf
        refine ⟨ac, ?_⟩
        conv => whnf
        refine ⟨hee.2.1.1, ?_⟩
        conv => whnf
        refine ⟨tc, ?_⟩
        conv => whnf
        refine cond_intro (fun i3 => ?_) (fun i3 => ?_)
        · have i3 : (IntKind.i64.wrap (gI (relL cl (dn.set a.toNat true) a es j.toNat) a.toNat + (gE es j.toNat).2.2)) < gI (relL cl (dn.set a.toNat true) a es j.toNat) (gE es j.toNat).2.1.toNat := @of_decide_eq_true _ _ i3
          have i3' := i3
          rw [wcc] at i3'
          conv => whnf
          refine ⟨a0, ?_⟩
          conv => whnf
          refine ⟨ac, ?_⟩
          conv => whnf
          refine ⟨hee.2.1.1, ?_⟩
          conv => whnf
          refine ⟨tc, ?_⟩
          conv => whnf
          refine ⟨j + 1, ?_, ⟨by omega, by omega⟩, by omega⟩
          exact Eq.trans (b := S35c es to g ((relL cl (dn.set a.toNat true) a es j.toNat).set (gE es j.toNat).2.1.toNat (IntKind.i64.wrap (gI (relL cl (dn.set a.toNat true) a es j.toNat) a.toNat + (gE es j.toNat).2.2))) (dn.set a.toNat true) cnt a (IntKind.i64.wrap (j + 1))) rfl (by rw [wj, ej, hstp, if_pos ⟨i0, i1, Or.inr i3'⟩]; rw [wcc])
        have i3 : ¬ ((IntKind.i64.wrap (gI (relL cl (dn.set a.toNat true) a es j.toNat) a.toNat + (gE es j.toNat).2.2)) < gI (relL cl (dn.set a.toNat true) a es j.toNat) (gE es j.toNat).2.1.toNat) := @of_decide_eq_false _ _ i3
        rw [wcc] at i3
        conv => whnf
        refine ⟨j + 1, ?_, ⟨by omega, by omega⟩, by omega⟩
        exact Eq.trans (b := S35c es to g (relL cl (dn.set a.toNat true) a es j.toNat) (dn.set a.toNat true) cnt a (IntKind.i64.wrap (j + 1))) rfl (by rw [wj, ej, hstp, if_neg (fun h => by rcases h.2.2 with h | h <;> omega)])
      have i1 : (!(gB (dn.set a.toNat true) (gE es j.toNat).2.1.toNat)) = false := i1
      have i1 : (gB (dn.set a.toNat true) (gE es j.toNat).2.1.toNat) = true := by cases e : (gB (dn.set a.toNat true) (gE es j.toNat).2.1.toNat) with | true => rfl | false => exact absurd i1 (by rw [e]; decide)
      conv => whnf
      refine ⟨j + 1, ?_, ⟨by omega, by omega⟩, by omega⟩
      exact Eq.trans (b := S35c es to g (relL cl (dn.set a.toNat true) a es j.toNat) (dn.set a.toNat true) cnt a (IntKind.i64.wrap (j + 1))) rfl (by rw [wj, ej, hstp, if_neg (fun h => by rw [h.2.1] at i1; cases i1)])
    have i0 : ¬ ((gE es j.toNat).1 = a) := @of_decide_eq_false _ _ i0
    conv => whnf
    refine ⟨j + 1, ?_, ⟨by omega, by omega⟩, by omega⟩
    exact Eq.trans (b := S35c es to g (relL cl (dn.set a.toNat true) a es j.toNat) (dn.set a.toNat true) cnt a (IntKind.i64.wrap (j + 1))) rfl (by rw [wj, ej, hstp, if_neg (fun h => i0 h.1)])
  have jlt : ¬ (j < (es.length : Int)) := @of_decide_eq_false _ _ jlt
  have hnx := hgd.next hes ⟨a0, a1⟩ hca0 hd0
  have hcs := count_set_true (l := dn) (k := a.toNat) (by omega) hd0
  have hcf := count_set_false (l := dn) (k := a.toNat) (by omega) hd0
  rw [show j.toNat = es.length by omega]
  conv => whnf
  refine ⟨((relL cl (dn.set a.toNat true) a es es.length, (dn.set a.toNat true)), cnt + 1), ?_, ⟨hnx, by show 1 ≤ cnt + 1; omega, by show cnt + 1 ≤ ((dn.set a.toNat true).count true : Int) + 1; omega, ?_⟩, by show (dn.set a.toNat true).count false < dn.count false; omega⟩
  · exact Eq.trans (b := S35a es to g (relL cl (dn.set a.toNat true) a es es.length) (dn.set a.toNat true) (IntKind.i64.wrap (cnt + 1))) rfl (by rw [wcn])
  · show guideF es g to ((dn.set a.toNat true).count false + 1) (relL cl (dn.set a.toNat true) a es es.length) (dn.set a.toNat true) (cnt + 1 - 1) = guideF es g to (n.toNat + 1) (startC n fr) (List.replicate n.toNat false) 0
    rw [hcf, ← htot, guide_go (by omega) (by rw [← hae]; exact q1), ← hae, show cnt + 1 - 1 = cnt - 1 + 1 by omega]
def E13 : Env := ⟨tab, [(16, K16), (17, K17), (34, K34), (35, K35)], ann0⟩
def K13 : Fn1 := ⟨.fld I (.fld (.sl eT) (.fld I (.fld I (.one (.sl I))))), .one .bool, fun _ => [], fun _ => true⟩
theorem k13 : FnOk Go.Proofs.Try.prog 13 K13 := by
  refine fn_ok (E := E13) (TOk.of tab_told) (AllOk.cons k16 (.cons k17 (.cons k34 (.cons k35 .nil)))).at_ mix Go.Proofs.Try.func13 rfl rfl (by kernel_rfl) K13 ?_
  rintro ⟨(n : Int), (es : List Ed), (fr : Int), (to : Int), (g : List Int)⟩ hp
  clear hp
  conv => whnf
  refine ⟨show 1 ≤ 100000 by omega, ?_⟩
  conv => whnf
  refine cond_intro (fun hlg => ?_) (fun hlg => ?_)
  · have hlg : (largeR es [g]) = true := hlg
    conv => whnf
    show true = true
    rfl
  have hlg : (largeR es [g]) = false := hlg
  have hl2 : g.length ≤ 5000 := (large_no hlg).2 g List.mem_cons_self
  conv => whnf
  refine ⟨show g.length ≤ 1000000000 by omega, ?_⟩
  conv => whnf
  refine ⟨show g.length ≤ 1000000000 by omega, ?_⟩
  conv => whnf
  refine cond_intro (fun q1 => ?_) (fun q1 => ?_)
  · have q1 : (guideR n es fr to g).1 = (guideR n es fr to g).1 := @of_decide_eq_true _ _ q1
    conv => whnf
    refine cond_intro (fun q2 => ?_) (fun q2 => ?_)
    · have q2 : (guideR n es fr to g).2.1 = (guideR n es fr to g).2.1 := @of_decide_eq_true _ _ q2
      conv => whnf
      refine cond_intro (fun q3 => ?_) (fun q3 => ?_)
      · have q3 : (((guideR n es fr to g).2.2.1 == (guideR n es fr to g).2.2.1)) = true := q3
        conv => whnf
        refine cond_intro (fun q4 => ?_) (fun q4 => ?_)
        · have q4 : (guideR n es fr to g).2.2.2 = (guideR n es fr to g).2.2.2 := @of_decide_eq_true _ _ q4
          conv => whnf
          show true = true
          rfl
        have q4 : ¬ ((guideR n es fr to g).2.2.2 = (guideR n es fr to g).2.2.2) := @of_decide_eq_false _ _ q4
        exact absurd rfl q4
      have q3 : (((guideR n es fr to g).2.2.1 == (guideR n es fr to g).2.2.1)) = false := q3
      exact absurd q3 (by rw [beq_self_eq_true]; decide)
    have q2 : ¬ ((guideR n es fr to g).2.1 = (guideR n es fr to g).2.1) := @of_decide_eq_false _ _ q2
    exact absurd rfl q2
  have q1 : ¬ ((guideR n es fr to g).1 = (guideR n es fr to g).1) := @of_decide_eq_false _ _ q1
  exact absurd rfl q1
end
end Go.Proofs.Ythgclbohlcgdgaa.Eng
