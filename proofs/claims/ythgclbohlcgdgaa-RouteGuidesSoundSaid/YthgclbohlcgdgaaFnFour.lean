/- What the functions that the law reaches answer, each for every input. -/
import Derived.Test.YthgclbohlcgdgaaFnThree
set_option linter.unusedVariables false
set_option linter.unusedSimpArgs false
set_option linter.unusedVariables false
set_option linter.unusedSimpArgs false
namespace Go.Proofs.Ythgclbohlcgdgaa.Eng
open Go
set_option maxRecDepth 100000
noncomputable section
theorem wy_snoc2 {R : Rel} {a k u c s w : Int} (h : Wy R (Tl [u]) a c s) (hr : R u k w) : Wy R (Tl [k]) a (c + w) (s + 1) := by
  generalize hT : Tl [u] = T at h
  induction h with
  | nil ht =>
    rename_i a
    rw [← hT] at ht
    have : a = u := List.mem_singleton.1 ht
    subst this
    exact Wy.cons hr (Wy.nil (R := R) (T := Tl [k]) (List.mem_cons_self))
  | cons hs _ ih =>
    rename_i x y w' c' s' _
    have := Wy.cons hs ih
    rwa [show c' + w + w' = c' + w' + w by omega] at this
theorem wy_rev {es : List Ed} {a b c s : Int} (h : Wy (Re (es.map turnR)) (Tl [a]) b c s) : Wy (Re es) (Tl [b]) a c s := by
  induction h with
  | nil ht => rw [List.mem_singleton.1 ht]; exact .nil List.mem_cons_self
  | cons hr _ ih => exact wy_snoc2 ih (mem_turn.1 hr)
theorem wy_rev2 {es : List Ed} {a b c s : Int} (h : Wy (Re es) (Tl [b]) a c s) : Wy (Re (es.map turnR)) (Tl [a]) b c s := by
  rw [← turn_turn es] at h
  exact wy_rev h
/-- A way from the first node. -/
def Fw (es : List Ed) (a k c : Int) : Prop := ∃ s, Wy (Re (es.map turnR)) (Tl [a]) k c s
structure Gi (es : List Ed) (fr to : Int) (cl : List Int) (dn : List Bool) : Prop where
  way : ∀ k : Nat, k < cl.length → 0 ≤ gI cl k → Fw es fr (k : Int) (gI cl k)
  st : gI cl fr.toNat = 0
  dn_ : ∀ k : Nat, k < cl.length → gB dn k = true → 0 ≤ gI cl k ∧ ∀ c, Fw es fr (k : Int) c → gI cl k ≤ c
  edge : ∀ (q k : Nat) (w : Int), gB dn q = true → ((q : Int), (k : Int), w) ∈ es → 0 ≤ gI cl k ∧ gI cl k ≤ gI cl q + w
  nto : gB dn to.toNat = false
section
variable {n : Int} {es : List Ed} {fr to : Int} {cl : List Int} {dn : List Bool} {g : List Int}
theorem Gi.open_ (he : EsOk n es) (hg : ∀ e ∈ es, soundE g e = true) (hf : 0 ≤ fr ∧ fr < n) (hd : Gd n.toNat cl dn) (h : Gi es fr to cl dn) {k c : Int} (hw : Fw es fr k c) : (gB dn k.toNat = true ∧ gI cl k.toNat ≤ c) ∨ ∃ v : Nat, v < n.toNat ∧ 0 ≤ gI cl v ∧ gB dn v = false ∧ gI cl v + gI g v ≤ c + gI g k.toNat := by
  obtain ⟨s, hw⟩ := hw
  induction hw with
  | nil ht =>
    rename_i k
    have : k = fr := List.mem_singleton.1 ht
    subst this
    cases hb : gB dn k.toNat
    · exact Or.inr ⟨k.toNat, by omega, by rw [h.st]; exact Int.le_refl _, hb, by rw [h.st]; exact Int.le_refl _⟩
    · exact Or.inl ⟨rfl, by rw [h.st]; exact Int.le_refl _⟩
  | cons hr _ ih =>
    rename_i k q w c s _
    have hm := mem_turn.1 hr
    have hb := he.ok _ hm
    simp only at hb
    have hs := hg _ hm
    unfold soundE at hs
    have hs := of_decide_eq_true hs
    simp only at hs
    rcases ih with ⟨i1, i2⟩ | ⟨v, v1, v2, v3, v4⟩
    · obtain ⟨e1, e2⟩ := h.edge q.toNat k.toNat w i1 (by rw [show ((q.toNat : Nat) : Int) = q by omega, show ((k.toNat : Nat) : Int) = k by omega]; exact hm)
      cases hk : gB dn k.toNat
      · exact Or.inr ⟨k.toNat, by omega, e1, hk, by omega⟩
      · exact Or.inl ⟨rfl, by omega⟩
    · exact Or.inr ⟨v, v1, v2, v3, by omega⟩
theorem Gi.next (he : EsOk n es) (hg : ∀ e ∈ es, soundE g e = true) (hf : 0 ≤ fr ∧ fr < n) (hd : Gd n.toNat cl dn) (h : Gi es fr to cl dn) {a : Int} (ha : 0 ≤ a ∧ a < n) (h1 : 0 ≤ gI cl a.toNat) (h2 : gB dn a.toNat = false) (hmin : ∀ m, m < n.toNat → 0 ≤ gI cl m → gB dn m = false → gI cl a.toNat + gI g a.toNat ≤ gI cl m + gI g m) :
    (∀ c, Fw es fr a c → gI cl a.toNat ≤ c) ∧ (a ≠ to → 0 ≤ to → Gi es fr to (relL cl (dn.set a.toNat true) a es es.length) (dn.set a.toNat true)) := by
  have hleast : ∀ c, Fw es fr a c → gI cl a.toNat ≤ c := by
    intro c hc
    rcases h.open_ he hg hf hd hc with ⟨g1, _⟩ | ⟨v, v1, v2, v3, v4⟩
    · rw [h2] at g1; cases g1
    · have := hmin v v1 v2 v3
      omega
  refine ⟨hleast, fun hat ht0 => ?_⟩
  have hal : a.toNat < dn.length := by rw [hd.ld]; omega
  have hll := hd.lc
  have ea : ((a.toNat : Nat) : Int) = a := by omega
  have hFa : Fw es fr a (gI cl a.toNat) := by have := h.way a.toNat (by omega) h1; rwa [ea] at this
  have hc : ∀ e ∈ es, 0 ≤ e.2.2 := fun e h => (he.ok e h).2.2.1
  have done_ : ∀ k : Nat, k < n.toNat → gB (dn.set a.toNat true) k = true → gI (relL cl (dn.set a.toNat true) a es es.length) k = gI cl k ∧ 0 ≤ gI cl k ∧ ∀ c, Fw es fr (k : Int) c → gI cl k ≤ c := by
    intro k hk hb
    have e1 : gI (relL cl (dn.set a.toNat true) a es es.length) k = gI cl k := by
      rw [relL_at (by omega)]
      unfold newC
      rw [if_pos hb]
    rw [gB_set hal] at hb
    split at hb
    · rename_i e
      subst e
      rw [ea]
      exact ⟨e1, h1, hleast⟩
    · exact ⟨e1, h.dn_ k (by omega) hb⟩
  have selfa := (done_ a.toNat (by omega) (by rw [gB_set hal, if_pos rfl])).1
  refine ⟨fun k hk hb => ?_, ?_, fun k hk hb => ?_, fun q k w hq hm => ?_, ?_⟩
  · rw [relL_len] at hk
    rw [relL_at hk] at hb ⊢
    have hm := minK_min hc a (k : Int)
    unfold newC at hb ⊢
    split at hb
    · rename_i e; rw [if_pos e]; exact h.way k hk hb
    · rename_i e
      rw [if_neg e]
      split at hb
      · rename_i e2; rw [if_pos e2]; exact h.way k hk hb
      · rename_i e2
        rw [if_neg e2]
        split at hb
        · rename_i e3
          rw [if_pos e3]
          rcases hm with ⟨m1, _⟩ | ⟨_, m2, _⟩
          · omega
          · obtain ⟨s, hs⟩ := hFa
            exact ⟨s + 1, .cons (mem_turn.2 m2) hs⟩
        · rename_i e3; rw [if_neg e3]; exact h.way k hk hb
  · by_cases e : gB (dn.set a.toNat true) fr.toNat = true
    · rw [(done_ fr.toNat (by omega) e).1]; exact h.st
    · have hh := minK_min hc a ((fr.toNat : Nat) : Int)
      rw [relL_at (by omega)]
      unfold newC
      rw [if_neg e]
      split
      · exact h.st
      · rename_i e2
        rw [if_neg (by rw [h.st]; omega)]
        exact h.st
  · rw [relL_len] at hk
    obtain ⟨d1, d2, d3⟩ := done_ k (by omega) hb
    rw [d1]
    exact ⟨d2, d3⟩
  · have hbb := he.ok _ hm
    simp only at hbb
    have hkn : k < n.toNat := by omega
    have hqn : q < n.toNat := by omega
    rw [(done_ q hqn hq).1]
    by_cases e : gB (dn.set a.toNat true) k = true
    · obtain ⟨d1, d2, d3⟩ := done_ k hkn e
      rw [d1]
      refine ⟨d2, ?_⟩
      by_cases eq : q = a.toNat
      · subst eq
        refine d3 _ ?_
        obtain ⟨s, hs⟩ := hFa
        rw [ea] at hm
        exact ⟨s + 1, .cons (mem_turn.2 hm) hs⟩
      · rw [gB_set hal, if_neg (fun e => eq e.symm)] at hq
        exact (h.edge q k w hq hm).2
    · rw [relL_at (by omega)]
      have hm2 := minK_min hc a (k : Int)
      by_cases eq : q = a.toNat
      · subst eq
        rw [ea] at hm
        rcases hm2 with ⟨_, m2⟩ | ⟨m1, _, m3⟩
        · exact absurd hm (m2 w)
        · have := m3 w hm
          unfold newC
          rw [if_neg e, if_neg (by omega)]
          split <;> omega
      · rw [gB_set hal, if_neg (fun e => eq e.symm)] at hq
        obtain ⟨o1, o2⟩ := h.edge q k w hq hm
        have hm3 : minK es a (k : Int) es.length = -1 ∨ 0 ≤ minK es a (k : Int) es.length := by rcases hm2 with h | h; exact Or.inl h.1; exact Or.inr h.1
        unfold newC
        rw [if_neg e]
        split
        · exact ⟨o1, o2⟩
        · split <;> omega
  · rw [gB_set hal, if_neg (by omega)]
    exact h.nto
theorem guide_true (he : EsOk n es) (hg : ∀ e ∈ es, soundE g e = true) (hf : 0 ≤ fr ∧ fr < n) (ht : 0 ≤ to ∧ to < n) : ∀ (f : Nat) (cl : List Int) (dn : List Bool) (cnt : Int), f = dn.count false → Gd n.toNat cl dn → Gi es fr to cl dn → cnt = (dn.count true : Int) →
    (1 ≤ (guideF es g to (f + 1) cl dn cnt).2.1 ∧ (guideF es g to (f + 1) cl dn cnt).2.1 ≤ n) ∧ ((guideF es g to (f + 1) cl dn cnt).2.2 = true → Fw es fr to (guideF es g to (f + 1) cl dn cnt).1 ∧ ∀ c, Fw es fr to c → (guideF es g to (f + 1) cl dn cnt).1 ≤ c) ∧ ((guideF es g to (f + 1) cl dn cnt).2.2 = false → (guideF es g to (f + 1) cl dn cnt).1 = 0 ∧ ∀ c, ¬ Fw es fr to c) := by
  intro f
  induction f with
  | zero =>
    intro cl dn cnt hfc hd hi hcnt
    have hsp := pick_spec g cl dn cl.length
    have hcf := count_false dn
    have hld := hd.ld
    by_cases hp : pickJ g cl dn cl.length < 0
    · rw [guide_stop hp]
      have hno : ∀ k, k < cl.length → 0 ≤ gI cl k → gB dn k = true := by rcases hsp with h | h; exact h.2; exact fun _ _ _ => by omega
      have hfr := hno fr.toNat (by rw [hd.lc]; omega) (by rw [hi.st]; exact Int.le_refl _)
      refine ⟨⟨by show 1 ≤ cnt; omega, by show cnt ≤ n; omega⟩, fun h => (by cases h), fun _ => ⟨rfl, fun c hc => ?_⟩⟩
      rcases hi.open_ he hg hf hd hc with ⟨g1, _⟩ | ⟨v, v1, v2, v3, _⟩
      · rw [hi.nto] at g1; cases g1
      · rw [hno v (by rw [hd.lc]; exact v1) v2] at v3; cases v3
    · obtain ⟨a1, a2, a3, a4⟩ := hsp.resolve_left (fun h => by omega)
      have := count_set_false (l := dn) (k := (pickJ g cl dn cl.length).toNat) (by rw [hd.ld]; have := hd.lc; omega) a3
      omega
  | succ f ih =>
    intro cl dn cnt hfc hd hi hcnt
    have hsp := pick_spec g cl dn cl.length
    have hcf := count_false dn
    have hld := hd.ld
    have hlc := hd.lc
    by_cases hp : pickJ g cl dn cl.length < 0
    · rw [guide_stop hp]
      have hno : ∀ k, k < cl.length → 0 ≤ gI cl k → gB dn k = true := by rcases hsp with h | h; exact h.2; exact fun _ _ _ => by omega
      have hfr := hno fr.toNat (by omega) (by rw [hi.st]; exact Int.le_refl _)
      have hc1 : 1 ≤ dn.count true := by
        have : true ∈ dn := by rw [gB_eq (by omega)] at hfr; rw [← hfr]; exact List.getElem_mem _
        exact List.count_pos_iff.2 this
      refine ⟨⟨by show 1 ≤ cnt; omega, by show cnt ≤ n; omega⟩, fun h => (by cases h), fun _ => ⟨rfl, fun c hc => ?_⟩⟩
      rcases hi.open_ he hg hf hd hc with ⟨g1, _⟩ | ⟨v, v1, v2, v3, _⟩
      · rw [hi.nto] at g1; cases g1
      · rw [hno v (by omega) v2] at v3; cases v3
    · obtain ⟨a1, a2, a3, a4⟩ := hsp.resolve_left (fun h => by omega)
      obtain ⟨n1, n2⟩ := hi.next he hg hf hd (a := pickJ g cl dn cl.length) ⟨a1.1, by omega⟩ a2 a3 (fun m hm => a4 m (by omega))
      by_cases ht2 : pickJ g cl dn cl.length = to
      · rw [guide_at hp ht2]
        refine ⟨⟨by show 1 ≤ cnt + 1; omega, by show cnt + 1 ≤ n; omega⟩, fun _ => ?_, fun h => (by cases h)⟩
        have hw := hi.way (pickJ g cl dn cl.length).toNat (by omega) a2
        rw [show (((pickJ g cl dn cl.length).toNat : Nat) : Int) = pickJ g cl dn cl.length by omega] at hw
        rw [ht2] at hw n1 ⊢
        exact ⟨hw, n1⟩
      · rw [guide_go hp ht2]
        have c1 := count_set_false (l := dn) (k := (pickJ g cl dn cl.length).toNat) (by omega) a3
        have c2 := count_set_true (l := dn) (k := (pickJ g cl dn cl.length).toNat) (by omega) a3
        exact ih _ _ _ (by omega) (hd.next he ⟨a1.1, by omega⟩ a2 a3) (n2 ht2 ht.1) (by omega)
theorem gi_start (he : EsOk n es) (hf : 0 ≤ fr ∧ fr < n) : Gi es fr to (startC n fr) (List.replicate n.toNat false) := by
  have hl : (startC n fr).length = n.toNat := by simp [startC]
  refine ⟨fun k hk h => ?_, ?_, fun k hk h => ?_, fun q k w h => ?_, gB_rep⟩
  · rw [hl] at hk
    rw [startC_at n fr k hk hf] at h ⊢
    split at h
    · rename_i e
      rw [if_pos e]
      refine ⟨0, ?_⟩
      rw [show (k : Int) = fr by omega]
      exact .nil List.mem_cons_self
    · omega
  · rw [startC_at n fr _ (by omega) hf, if_pos rfl]
  · rw [gB_rep] at h; cases h
  · rw [gB_rep] at h; cases h
end
theorem guide_err (n : Int) (es : List Ed) (a b : Int) (g : List Int) : (guideR n es a b g).2.2.2 = guessR n es g [a, b] := by
  unfold guideR
  split
  · rfl
  · rename_i h; exact (Decidable.not_not.1 h).symm
theorem sound_is {n : Int} {es : List Ed} {to : Int} {g : List Int} (h : (soundR n es to g).1 = true) : ∀ e ∈ es, soundE g e = true := by
  unfold soundR at h
  split at h
  · cases h
  · split at h
    · rename_i g1; exact fun e he => List.all_eq_true.1 g1 e he
    · cases h
/-- A search by sound guesses finds what the search without them finds. -/
theorem guide_least {n : Int} {es : List Ed} {a b : Int} {g : List Int} (hgs : guessR n es g [a, b] = 0) (hs : (soundR n es b g).1 = true) : (leastR n es [a] [b]).2.2.2 = 0 ∧ (leastR n es [a] [b]).2.2.1 = (guideR n es a b g).2.2.1 ∧ (leastR n es [a] [b]).2.1 = (guideR n es a b g).1 ∧ 1 ≤ (guideR n es a b g).2.1 ∧ (guideR n es a b g).2.1 ≤ n := by
  obtain ⟨hnd, hgl, hgo⟩ := guess_iff hgs
  obtain ⟨hv, hnn⟩ := nodes_iff hnd
  have hes := valid_es hv
  have ha := hnn [a, b] List.mem_cons_self a List.mem_cons_self
  have hb := hnn [a, b] List.mem_cons_self b (List.mem_cons_of_mem _ List.mem_cons_self)
  have hn2 : nodesR n es [[a], [b]] = 0 := by rw [nodes2 hv, if_pos]; simp [allR, isR_iff, ha, hb]
  have hcr : (List.replicate n.toNat false).count false = n.toNat := List.count_replicate_self ..
  have hct : (List.replicate n.toNat false).count true = 0 := by have := count_false (List.replicate n.toNat false); rw [List.length_replicate] at this; omega
  have hT := guide_true hes (sound_is hs) ha hb n.toNat (startC n a) (List.replicate n.toNat false) 0 hcr.symm (gd_start ha) (gi_start hes ha) (by rw [hct]; rfl)
  have hg := guide_ok (x := guideF es g b (n.toNat + 1) (startC n a) (List.replicate n.toNat false) 0) hgs rfl
  rw [hg]
  generalize guideF es g b (n.toNat + 1) (startC n a) (List.replicate n.toNat false) 0 = r at hT
  obtain ⟨⟨t1, t2⟩, t3, t4⟩ := hT
  have herr : (leastR n es [a] [b]).2.2.2 = 0 := by rw [least_err]; exact hn2
  have bestone : ∀ p, lpR (Re es) (Tl [b]) a = some p → bestR (lpR (Re es) (Tl [b])) [a] = a := by
    intro p hp
    show (if betterL (lpR (Re es) (Tl [b])) a (-1) = true then a else -1) = a
    rw [if_pos]
    unfold betterL
    rw [hp]
    rfl
  refine ⟨herr, ?_, ?_, t1, t2⟩
  · show _ = r.2.2
    cases hr : r.2.2
    · have h4 := (t4 hr).2
      have hl : lpR (Re es) (Tl [b]) a = none := lp_none fun c s hw => h4 c ⟨s, wy_rev2 hw⟩
      have hbn : bestR (lpR (Re es) (Tl [b])) [a] = -1 := by
        show (if betterL (lpR (Re es) (Tl [b])) a (-1) = true then a else -1) = -1
        rw [if_neg]
        unfold betterL
        rw [hl]
        exact fun h => by cases h
      rw [least_none hn2 (by rw [hbn]; omega)]
    · obtain ⟨s, hs3⟩ := (t3 hr).1
      obtain ⟨p, hp⟩ := lp_ex hes.steps (wy_rev hs3)
      have hp : lpR (Re es) (Tl [b]) a = some (p.1, p.2) := hp
      have hb1 := bestone _ hp
      rw [least_some hn2 (by rw [hb1]; omega) (by rw [hb1]; exact hp)]
  · show _ = r.1
    cases hr : r.2.2
    · have h4 := t4 hr
      have hl : lpR (Re es) (Tl [b]) a = none := lp_none fun c s hw => h4.2 c ⟨s, wy_rev2 hw⟩
      have hbn : bestR (lpR (Re es) (Tl [b])) [a] = -1 := by
        show (if betterL (lpR (Re es) (Tl [b])) a (-1) = true then a else -1) = -1
        rw [if_neg]
        unfold betterL
        rw [hl]
        exact fun h => by cases h
      rw [least_none hn2 (by rw [hbn]; omega)]
      exact h4.1.symm
    · obtain ⟨⟨s, hs3⟩, hmin⟩ := t3 hr
      obtain ⟨p, hp⟩ := lp_ex hes.steps (wy_rev hs3)
      have hp : lpR (Re es) (Tl [b]) a = some (p.1, p.2) := hp
      have hb1 := bestone _ hp
      rw [least_some hn2 (by rw [hb1]; omega) (by rw [hb1]; exact hp)]
      show p.1 = r.1
      have h1 := (lp_is hp).2 _ _ (wy_rev hs3)
      have h2 := hmin _ ⟨p.2, wy_rev2 (lp_is hp).1⟩
      omega
def E15 : Env := ⟨tab, [(16, K16), (17, K17), (28, K28), (34, K34), (20, K20)], ann0⟩
def K15 : Fn1 := ⟨.fld I (.fld (.sl eT) (.fld I (.fld I (.one (.sl I))))), .one .bool, fun _ => [], fun _ => true⟩
theorem k15 : FnOk Go.Proofs.Try.prog 15 K15 := by
  refine fn_ok (E := E15) (TOk.of tab_told) (AllOk.cons k16 (.cons k17 (.cons k28 (.cons k34 (.cons k20 .nil))))).at_ mix Go.Proofs.Try.func15 rfl rfl (by kernel_rfl) K15 ?_
  rintro ⟨(n : Int), (es : List Ed), (fr : Int), (to : Int), (g : List Int)⟩ hp
  clear hp
  conv => whnf
  refine ⟨show 1 ≤ 100000 by omega, ?_⟩
  conv => whnf
  refine cond_intro (fun hlg => ?_) (fun hlg => ?_)
  · have hlg : (largeR es [g]) = true := hlg
    conv => whnf
    show true = true
    rfl
  have hlg : (largeR es [g]) = false := hlg
  have hl2 : g.length ≤ 5000 := (large_no hlg).2 g List.mem_cons_self
  conv => whnf
  refine ⟨show g.length ≤ 1000000000 by omega, ?_⟩
  conv => whnf
  refine ⟨show g.length ≤ 1000000000 by omega, ?_⟩
  conv => whnf
  refine cond_intro (fun e1 => ?_) (fun e1 => ?_)
  · have e1 : (!decide ((soundR n es to g).2 = 0)) = true := e1
    have e1 : ¬ ((soundR n es to g).2 = 0) := fun e => absurd e1 (by rw [decide_eq_true e]; decide)
    conv => whnf
    show true = true
    rfl
  have e1 : (!decide ((soundR n es to g).2 = 0)) = false := e1
  have e1 : (soundR n es to g).2 = 0 := Decidable.byContradiction fun e => absurd e1 (by rw [decide_eq_false e]; decide)
  conv => whnf
  refine cond_intro (fun e2 => ?_) (fun e2 => ?_)
  · have e2 : (!decide ((guideR n es fr to g).2.2.2 = 0)) = true := e2
    have e2 : ¬ ((guideR n es fr to g).2.2.2 = 0) := fun e => absurd e2 (by rw [decide_eq_true e]; decide)
    conv => whnf
    show true = true
    rfl
  have e2 : (!decide ((guideR n es fr to g).2.2.2 = 0)) = false := e2
  have e2 : (guideR n es fr to g).2.2.2 = 0 := Decidable.byContradiction fun e => absurd e2 (by rw [decide_eq_false e]; decide)
  conv => whnf
  refine cond_intro (fun e3 => ?_) (fun e3 => ?_)
  · have e3 : (!((soundR n es to g).1)) = true := e3
    have e3 : ((soundR n es to g).1) = false := by cases e : ((soundR n es to g).1) with | false => rfl | true => exact absurd e3 (by rw [e]; decide)
    conv => whnf
    show true = true
    rfl
  have e3 : (!((soundR n es to g).1)) = false := e3
  have e3 : ((soundR n es to g).1) = true := by cases e : ((soundR n es to g).1) with | true => rfl | false => exact absurd e3 (by rw [e]; decide)
  have hgs : guessR n es g [fr, to] = 0 := by rw [← guide_err]; exact e2
  obtain ⟨y1, y2, y3, y4, y5⟩ := guide_least hgs e3
  conv => whnf
  refine ⟨show 1 ≤ 1000000000 by omega, ?_⟩
  conv => whnf
  refine ⟨show 1 ≤ 1000000000 by omega, ?_⟩
  conv => whnf
  refine cond_intro (fun q1 => ?_) (fun q1 => ?_)
  · have q1 : (leastR n es [fr] [to]).2.2.2 = 0 := @of_decide_eq_true _ _ q1
    conv => whnf
    refine cond_intro (fun q2 => ?_) (fun q2 => ?_)
    · have q2 : (((guideR n es fr to g).2.2.1 == (leastR n es [fr] [to]).2.2.1)) = true := q2
      conv => whnf
      refine cond_intro (fun q3 => ?_) (fun q3 => ?_)
      · have q3 : (guideR n es fr to g).1 = (leastR n es [fr] [to]).2.1 := @of_decide_eq_true _ _ q3
        conv => whnf
        refine cond_intro (fun q4 => ?_) (fun q4 => ?_)
        · have q4 : 1 ≤ (guideR n es fr to g).2.1 := @of_decide_eq_true _ _ q4
          conv => whnf
          refine cond_intro (fun q5 => ?_) (fun q5 => ?_)
          · have q5 : (guideR n es fr to g).2.1 ≤ n := @of_decide_eq_true _ _ q5
            conv => whnf
            show true = true
            rfl
          have q5 : ¬ ((guideR n es fr to g).2.1 ≤ n) := @of_decide_eq_false _ _ q5
          exact absurd y5 q5
        have q4 : ¬ (1 ≤ (guideR n es fr to g).2.1) := @of_decide_eq_false _ _ q4
        exact absurd y4 q4
      have q3 : ¬ ((guideR n es fr to g).1 = (leastR n es [fr] [to]).2.1) := @of_decide_eq_false _ _ q3
      exact absurd y3.symm q3
    have q2 : (((guideR n es fr to g).2.2.1 == (leastR n es [fr] [to]).2.2.1)) = false := q2
    rw [y2, beq_self_eq_true] at q2
    cases q2
  have q1 : ¬ ((leastR n es [fr] [to]).2.2.2 = 0) := @of_decide_eq_false _ _ q1
  exact absurd y1 q1
end
end Go.Proofs.Ythgclbohlcgdgaa.Eng
