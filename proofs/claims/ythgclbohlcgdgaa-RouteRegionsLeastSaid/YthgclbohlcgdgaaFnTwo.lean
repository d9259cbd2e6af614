/- What the functions that the law reaches answer, each for every input. -/
import Derived.Test.YthgclbohlcgdgaaFnOne
set_option linter.unusedVariables false
set_option linter.unusedSimpArgs false
set_option linter.unusedVariables false
set_option linter.unusedSimpArgs false
namespace Go.Proofs.Ythgclbohlcgdgaa.Eng
open Go
set_option maxRecDepth 100000
noncomputable section
def exE : List Ed := [(0, 1, 3), (1, 2, 1), (0, 2, 4)]
theorem ex_steps : Steps (Re exE) 3 1000000000000 := by
  refine ⟨fun {k q w} hr => ?_⟩
  have hr : (k, q, w) ∈ exE := hr
  simp only [exE, List.mem_cons, List.not_mem_nil, or_false, Prod.mk.injEq] at hr
  omega
theorem ex_low {k c s : Int} (h : Wy (Re exE) (Tl [2]) k c s) : 0 ≤ c ∧ 0 ≤ s ∧ (k = 0 → 4 < c ∨ (4 = c ∧ 1 ≤ s)) ∧ (k = 1 → 1 < c ∨ (1 = c ∧ 1 ≤ s)) := by
  induction h with
  | nil ht =>
    rename_i k
    have ht : k ∈ ([2] : List Int) := ht
    simp only [List.mem_cons, List.not_mem_nil, or_false] at ht
    omega
  | cons hr hw ih =>
    rename_i k q w c s
    have hr : (k, q, w) ∈ exE := hr
    simp only [exE, List.mem_cons, List.not_mem_nil, or_false, Prod.mk.injEq] at hr
    omega
theorem ex_two : Tl [2] 2 := List.mem_cons_self
theorem ex_l2 : lpR (Re exE) (Tl [2]) 2 = some (0, 0) := lp_some ⟨.nil ex_two, fun c' s' h => by have := ex_low h; omega⟩
theorem ex_l0 : lpR (Re exE) (Tl [2]) 0 = some (4, 1) := by
  have h : Wy (Re exE) (Tl [2]) 0 (0 + 4) (0 + 1) := .cons (q := 2) (by show (0, 2, 4) ∈ exE; simp [exE]) (.nil ex_two)
  exact lp_some ⟨h, fun c' s' h => by have := ex_low h; omega⟩
theorem ex_nx : nxR (Re exE) (Tl [2]) 0 = 2 := by
  refine nx_eq (by omega) ⟨4, 0, 0, by show (0, 2, 4) ∈ exE; simp [exE], ex_l2, ex_l0⟩ fun u hu h => ?_
  obtain ⟨w, c, s, hr, h1, h2⟩ := h
  have hr : (0, u, w) ∈ exE := hr
  simp only [exE, List.mem_cons, List.not_mem_nil, or_false, Prod.mk.injEq] at hr
  rw [ex_l0] at h2
  have h2 := Option.some.inj h2
  have h3 : (4 : Int) = c + w := congrArg Prod.fst h2
  have h4 : (1 : Int) = s + 1 := congrArg Prod.snd h2
  have h5 := ex_low (lp_is h1).1
  omega
theorem ex_least : leastR 3 exE [0] [2] = ([0, 2], 4, true, 0) := by
  have hn : nodesR 3 exE [[0], [2]] = 0 := by decide
  have hb : bestR (lpR (Re exE) (Tl [2])) [0] = 0 := by
    show (if betterL (lpR (Re exE) (Tl [2])) 0 (-1) = true then (0 : Int) else -1) = 0
    rw [if_pos]
    unfold betterL
    rw [ex_l0]
    rfl
  rw [least_some hn (by rw [hb]; omega) (by rw [hb]; exact ex_l0), hb]
  show ([0, nxR (Re exE) (Tl [2]) 0], (4 : Int), true, (0 : Int)) = _
  rw [ex_nx]
def E17 : Env := ⟨tab, [(20, K20)], ann0⟩
def K17 : Fn1 := ⟨.bool, .one .bool, fun _ => [], fun _ => true⟩
theorem k17 : FnOk Go.Proofs.Try.prog 17 K17 := by
  refine fn_ok (E := E17) (TOk.of tab_told) (AllOk.cons k20 .nil).at_ mix Go.Proofs.Try.func17 rfl rfl (by kernel_rfl) K17 ?_
  rintro (z : Bool) hp
  clear hp
  conv => whnf
  refine ⟨show 1 ≤ 1000000000 by omega, ?_⟩
  conv => whnf
  refine ⟨show 1 ≤ 1000000000 by omega, ?_⟩
  conv => whnf
  refine cond_intro (fun a1 => ?_) (fun a1 => ?_)
  · have a1 : ((leastR 3 exE [0] [2]).2.2.1) = true := a1
    conv => whnf
    refine cond_intro (fun a2 => ?_) (fun a2 => ?_)
    · have a2 : (leastR 3 exE [0] [2]).2.2.2 = 0 := @of_decide_eq_true _ _ a2
      conv => whnf
      refine cond_intro (fun a3 => ?_) (fun a3 => ?_)
      · have a3 : (leastR 3 exE [0] [2]).2.1 = 4 := @of_decide_eq_true _ _ a3
        conv => whnf
        refine cond_intro (fun a4 => ?_) (fun a4 => ?_)
        · have a4 : ((leastR 3 exE [0] [2]).1.length : Int) = 2 := @of_decide_eq_true _ _ a4
          conv => whnf
          refine ⟨show (0 : Int) ≤ 0 by omega, ?_⟩
          conv => whnf
          refine ⟨show 0 < ((leastR 3 exE [0] [2]).1.length : Int) by omega, ?_⟩
          conv => whnf
          refine cond_intro (fun a5 => ?_) (fun a5 => ?_)
          · have a5 : gI (leastR 3 exE [0] [2]).1 0 = 0 := @of_decide_eq_true _ _ a5
            conv => whnf
            refine ⟨show (0 : Int) ≤ 1 by omega, ?_⟩
            conv => whnf
            refine ⟨show 1 < ((leastR 3 exE [0] [2]).1.length : Int) by omega, ?_⟩
            conv => whnf
            show decide (gI (leastR 3 exE [0] [2]).1 1 = 2) = true
            rw [ex_least]
            rfl
          have a5 : ¬ (gI (leastR 3 exE [0] [2]).1 0 = 0) := @of_decide_eq_false _ _ a5
          exact absurd a5 (by rw [ex_least]; decide)
        have a4 : ¬ (((leastR 3 exE [0] [2]).1.length : Int) = 2) := @of_decide_eq_false _ _ a4
        exact absurd a4 (by rw [ex_least]; decide)
      have a3 : ¬ ((leastR 3 exE [0] [2]).2.1 = 4) := @of_decide_eq_false _ _ a3
      exact absurd a3 (by rw [ex_least]; decide)
    have a2 : ¬ ((leastR 3 exE [0] [2]).2.2.2 = 0) := @of_decide_eq_false _ _ a2
    exact absurd a2 (by rw [ex_least]; decide)
  have a1 : ((leastR 3 exE [0] [2]).2.2.1) = false := a1
  exact absurd (show (leastR 3 exE [0] [2]).2.2.1 = false from a1) (by rw [ex_least]; decide)
def E3 : Env := ⟨tab, [(16, K16), (17, K17), (18, K18), (19, K19)], ann0⟩
def K3 : Fn1 := ⟨.fld I (.one (.sl eT)), .one .bool, fun _ => [], fun _ => true⟩
theorem k3 : FnOk Go.Proofs.Try.prog 3 K3 := by
  refine fn_ok (E := E3) (TOk.of tab_told) (AllOk.cons k16 (.cons k17 (.cons k18 (.cons k19 .nil)))).at_ mix Go.Proofs.Try.func3 rfl rfl (by kernel_rfl) K3 ?_
  rintro ⟨(n : Int), (es : List Ed)⟩ hp
  clear hp
  conv => whnf
  refine ⟨show 0 ≤ 100000 by omega, ?_⟩
  conv => whnf
  refine cond_intro (fun a1 => ?_) (fun a1 => ?_)
  · have a1 : (largeR es []) = true := a1
    conv => whnf
    show true = true
    rfl
  have a1 : (largeR es []) = false := a1
  conv => whnf
  refine cond_intro (fun a2 => ?_) (fun a2 => ?_)
  · have a2 : validR n es = validR n es := @of_decide_eq_true _ _ a2
    conv => whnf
    show true = true
    rfl
  have a2 : ¬ (validR n es = validR n es) := @of_decide_eq_false _ _ a2
  exact absurd rfl a2
end
end Go.Proofs.Ythgclbohlcgdgaa.Eng
set_option linter.unusedVariables false
set_option linter.unusedSimpArgs false
namespace Go.Proofs.Ythgclbohlcgdgaa.Eng
open Go
set_option maxRecDepth 100000
noncomputable section
theorem nodes2 {n : Int} {es : List Ed} {a b : List Int} (hv : validR n es = 0) : nodesR n es [a, b] = if allR n a = true ∧ allR n b = true then 0 else 2 := by
  unfold nodesR
  rw [if_neg (by simp [hv])]
  simp
def tightF (l : List Fa) (a : Int) (e : Ed) : Prop := e.1 = a ∧ 0 ≤ (gF l e.2.1.toNat).1 ∧ (gF l e.2.1.toNat).1 + e.2.2 = (gF l a.toNat).1 ∧ (gF l e.2.1.toNat).2 + 1 = (gF l a.toNat).2
def NxI (es : List Ed) (l : List Fa) (a x : Int) (j : Nat) : Prop :=
  (x = -1 ∧ ∀ i, i < j → ¬ tightF l a (gE es i)) ∨ (0 ≤ x ∧ (∃ i, i < j ∧ tightF l a (gE es i) ∧ (gE es i).2.1 = x) ∧ ∀ i, i < j → tightF l a (gE es i) → x ≤ (gE es i).2.1)
section
variable {es : List Ed} {l : List Fa} {a x : Int} {j : Nat}
theorem NxI.skip (h : NxI es l a x j) (hn : ¬ tightF l a (gE es j)) : NxI es l a x (j + 1) := by
  rcases h with ⟨h1, h2⟩ | ⟨h1, ⟨i, h2, h3⟩, h4⟩
  · refine Or.inl ⟨h1, fun i hi => ?_⟩
    rcases Nat.lt_or_eq_of_le (Nat.le_of_lt_succ hi) with g | g
    · exact h2 i g
    · subst g; exact hn
  · refine Or.inr ⟨h1, ⟨i, by omega, h3⟩, fun i hi ht => ?_⟩
    rcases Nat.lt_or_eq_of_le (Nat.le_of_lt_succ hi) with g | g
    · exact h4 i g ht
    · subst g; exact absurd ht hn
theorem NxI.stay (h : NxI es l a x j) (h0 : ¬ x < 0) (hx : ¬ (gE es j).2.1 < x) : NxI es l a x (j + 1) := by
  rcases h with ⟨h1, h2⟩ | ⟨h1, ⟨i, h2, h3⟩, h4⟩
  · omega
  · refine Or.inr ⟨h1, ⟨i, by omega, h3⟩, fun i hi ht => ?_⟩
    rcases Nat.lt_or_eq_of_le (Nat.le_of_lt_succ hi) with g | g
    · exact h4 i g ht
    · subst g; omega
theorem NxI.set (h : NxI es l a x j) (ht : tightF l a (gE es j)) (h0 : 0 ≤ (gE es j).2.1) (hx : x < 0 ∨ (gE es j).2.1 < x) : NxI es l a (gE es j).2.1 (j + 1) := by
  refine Or.inr ⟨h0, ⟨j, by omega, ht, rfl⟩, fun i hi hti => ?_⟩
  rcases Nat.lt_or_eq_of_le (Nat.le_of_lt_succ hi) with g | g
  · rcases h with ⟨h1, h2⟩ | ⟨h1, _, h4⟩
    · exact absurd hti (h2 i g)
    · have := h4 i g hti
      rcases hx with hx | hx <;> omega
  · subst g; exact Int.le_refl _
end
section
variable {n : Int} {es : List Ed} {T : Int → Prop}
theorem faOf_is {o : Option (Int × Int)} (h : 0 ≤ (faOf o).1) : ∃ p, o = some p := by
  cases o with
  | none => simp [faOf] at h
  | some p => exact ⟨p, rfl⟩
theorem tightF_nx (he : EsOk n es) {a c s : Int} {e : Ed} (ha : 0 ≤ a ∧ a < n) (hl : lpR (Re es) T a = some (c, s)) (hm : e ∈ es) (h : tightF (toF (Re es) T n.toNat) a e) : nxP (Re es) T a e.2.1 := by
  obtain ⟨h1, h2, h3, h4⟩ := h
  have hb := he.ok _ hm
  have e1 : gF (toF (Re es) T n.toNat) e.2.1.toNat = faOf (lpR (Re es) T e.2.1) := by rw [toF_at (by omega), show ((e.2.1.toNat : Nat) : Int) = e.2.1 by omega]
  have e2 : gF (toF (Re es) T n.toNat) a.toNat = (c, s) := by rw [toF_at (by omega), show ((a.toNat : Nat) : Int) = a by omega, hl]; rfl
  rw [e1] at h2 h3 h4
  rw [e2] at h3 h4
  obtain ⟨p, hp⟩ := faOf_is h2
  rw [hp] at h3 h4
  simp only [faOf] at h3 h4
  refine ⟨e.2.2, p.1, p.2, ?_, hp, by rw [hl, h3, h4]⟩
  show (a, e.2.1, e.2.2) ∈ es
  rw [← h1]
  exact hm
theorem nx_tightF (he : EsOk n es) {a t : Int} (h : nxP (Re es) T a t) : ∃ e ∈ es, e.2.1 = t ∧ tightF (toF (Re es) T n.toNat) a e := by
  obtain ⟨w, c, s, hr, h1, h2⟩ := h
  have hb := he.ok _ hr
  simp only at hb
  have e1 : gF (toF (Re es) T n.toNat) t.toNat = (c, s) := by rw [toF_at (by omega), show ((t.toNat : Nat) : Int) = t by omega, h1]; rfl
  have e2 : gF (toF (Re es) T n.toNat) a.toNat = (c + w, s + 1) := by rw [toF_at (by omega), show ((a.toNat : Nat) : Int) = a by omega, h2]; rfl
  have h0 := lp_nonneg he.steps h1
  refine ⟨(a, t, w), hr, rfl, rfl, ?_, ?_, ?_⟩
  · show 0 ≤ (gF (toF (Re es) T n.toNat) t.toNat).1
    rw [e1]; exact h0.1
  · show (gF (toF (Re es) T n.toNat) t.toNat).1 + w = (gF (toF (Re es) T n.toNat) a.toNat).1
    rw [e1, e2]
  · show (gF (toF (Re es) T n.toNat) t.toNat).2 + 1 = (gF (toF (Re es) T n.toNat) a.toNat).2
    rw [e1, e2]
theorem NxI.done (he : EsOk n es) {a c s x : Int} (ha : 0 ≤ a ∧ a < n) (hl : lpR (Re es) T a = some (c, s)) (hs : 0 < s) (h : NxI es (toF (Re es) T n.toNat) a x es.length) : x = nxR (Re es) T a := by
  rcases h with ⟨_, h2⟩ | ⟨h1, ⟨i, i1, i2, i3⟩, h4⟩
  · obtain ⟨t, ht⟩ := nxP_of he.steps hl hs
    obtain ⟨e, e1, e2, e3⟩ := nx_tightF he ht
    obtain ⟨i, hi, ei⟩ := List.getElem_of_mem e1
    have := h2 i hi
    rw [gE_eq hi, ei] at this
    exact absurd e3 this
  · refine (nx_eq h1 (by rw [← i3]; exact tightF_nx he ha hl (gE_mem i1) i2) fun u _ hu => ?_).symm
    obtain ⟨e, e1, e2, e3⟩ := nx_tightF he hu
    obtain ⟨m, hm, em⟩ := List.getElem_of_mem e1
    have := h4 m hm (by rw [gE_eq hm, em]; exact e3)
    rw [gE_eq hm, em, e2] at this
    exact this
theorem wayR_tail (R : Rel) (T : Int → Prop) (s : Nat) (k : Int) : wayR R T s k = k :: (wayR R T s k).tail := by cases s <;> rfl
theorem way_step {R : Rel} {T : Int → Prop} {s k : Int} (hs : 0 < s) (out : List Int) : (out ++ [nxR R T k]) ++ (wayR R T (s - 1).toNat (nxR R T k)).tail = out ++ (wayR R T s.toNat k).tail := by
  have e : s.toNat = (s - 1).toNat + 1 := by omega
  rw [e]
  show _ = out ++ wayR R T (s - 1).toNat (nxR R T k)
  rw [wayR_tail R T _ (nxR R T k), List.append_assoc]
  rfl
end
def S21a (es : List Ed) (l : List Fa) (fr : List Int) (b i : Int) : SL := ⟨List.replicate 1 .undef ++ [.sl eT es] ++ List.replicate 11 .undef ++ [.own 0] ++ [.int .i64 b] ++ List.replicate 28 .undef ++ [.sl I fr] ++ [.int .i64 fr.length] ++ [.int .i64 i] ++ List.replicate 121 .undef, [(0, .arr fT l)], 1⟩
theorem fl_bnd {n : Int} {es : List Ed} {T : Int → Prop} (he : EsOk n es) (hn : 0 ≤ n ∧ n ≤ 100000) {k : Nat} (hk : k < n.toNat) (h : 0 ≤ (gF (toF (Re es) T n.toNat) k).1) : (gF (toF (Re es) T n.toNat) k).1 ≤ 1000000000000000000 ∧ (gF (toF (Re es) T n.toNat) k).2 ≤ 100000 ∧ 0 ≤ (gF (toF (Re es) T n.toNat) k).2 := by
  rw [toF_at hk] at h ⊢
  obtain ⟨p, hp⟩ := faOf_is h
  rw [hp]
  have := lp_bnd he.steps (by omega) (show lpR (Re es) T (k : Int) = some (p.1, p.2) from hp)
  simp only [faOf]
  omega
def S21b (es : List Ed) (l : List Fa) (c0 : Int) (out : List Int) (a : Int) : SL := ⟨List.replicate 1 .undef ++ [.sl eT es] ++ List.replicate 11 .undef ++ [.own 0] ++ [.int .i64 a] ++ List.replicate 2 .undef ++ [.int .i64 c0] ++ [.own 1] ++ List.replicate 148 .undef, [(0, .arr fT l), (1, .arr I out)], 2⟩
def S21c (es : List Ed) (l : List Fa) (c0 : Int) (out : List Int) (a x j : Int) : SL := ⟨List.replicate 1 .undef ++ [.sl eT es] ++ List.replicate 11 .undef ++ [.own 0] ++ [.int .i64 a] ++ List.replicate 2 .undef ++ [.int .i64 c0] ++ [.own 1] ++ [.int .i64 x] ++ List.replicate 83 .undef ++ [.sl eT es] ++ [.int .i64 es.length] ++ [.int .i64 j] ++ List.replicate 61 .undef, [(0, .arr fT l), (1, .arr I out)], 2⟩
def E21 : Env := ⟨tab, [(19, K19), (43, K43), (44, K44), (45, K45)], fun n => match n with | 9 => some ([1, 13, 14, 43, 44, 45], [], []) | 17 => some ([1, 13, 14, 17, 18], [], []) | 20 => some ([1, 13, 14, 17, 18, 19, 103, 104, 105], [], []) | _ => none⟩
def K21 : Fn1 := ⟨.fld I (.fld (.sl eT) (.fld (.sl I) (.one (.sl I)))), .fld (.sl I) (.fld I (.fld .bool (.one I))), fun (a : Int × List Ed × List Int × List Int) => [a.2.2.1.length ≤ 1000000000, a.2.2.2.length ≤ 1000000000], fun (a : Int × List Ed × List Int × List Int) => leastR a.1 a.2.1 a.2.2.1 a.2.2.2⟩
set_option maxHeartbeats 4000000 in
theorem k21 : FnOk Go.Proofs.Try.prog 21 K21 := by
  refine fn_ok (E := E21) (TOk.of tab_told) (AllOk.cons k19 (.cons k43 (.cons k44 (.cons k45 .nil)))).at_ mix Go.Proofs.Try.func21 rfl rfl (by kernel_rfl) K21 ?_
  rintro ⟨(n : Int), (es : List Ed), (fr : List Int), (to : List Int)⟩ hp
  have hfl : fr.length ≤ 1000000000 := hp _ (List.mem_cons_self ..)
  have htl : to.length ≤ 1000000000 := hp _ (List.mem_cons_of_mem _ (List.mem_cons_self ..))
  clear hp
  conv => whnf
  refine cond_intro (fun hv => ?_) (fun hv => ?_)
  · have hv : (!decide (validR n es = 0)) = true := hv
    have hv : ¬ (validR n es = 0) := fun e => absurd hv (by rw [decide_eq_true e]; decide)
    have hnd : ¬ nodesR n es [fr, to] = 0 := fun h => hv (nodes_iff h).1
    have hne : nodesR n es [fr, to] = validR n es := by unfold nodesR; rw [if_pos hv]
    conv => whnf
    show ([], 0, false, validR n es) = leastR n es fr to
    rw [least_bad hnd, hne]
  have hv : (!decide (validR n es = 0)) = false := hv
  have hv : validR n es = 0 := Decidable.byContradiction fun e => absurd hv (by rw [decide_eq_false e]; decide)
  conv => whnf
  refine ⟨show fr.length ≤ 140737488351232 by omega, ?_⟩
  conv => whnf
  refine cond_intro (fun ha1 => ?_) (fun ha1 => ?_)
  · have ha1 : (!(allR n fr)) = true := ha1
    have ha1 : (allR n fr) = false := by cases e : (allR n fr) with | false => rfl | true => exact absurd ha1 (by rw [e]; decide)
    have hne : nodesR n es [fr, to] = 2 := by rw [nodes2 hv, if_neg (by rw [ha1]; simp)]
    conv => whnf
    show ([], 0, false, 2) = leastR n es fr to
    rw [least_bad (by rw [hne]; decide), hne]
  have ha1 : (!(allR n fr)) = false := ha1
  have ha1 : (allR n fr) = true := by cases e : (allR n fr) with | true => rfl | false => exact absurd ha1 (by rw [e]; decide)
  conv => whnf
  refine ⟨show to.length ≤ 140737488351232 by omega, ?_⟩
  conv => whnf
  refine cond_intro (fun ha2 => ?_) (fun ha2 => ?_)
  · have ha2 : (!(allR n to)) = true := ha2
    have ha2 : (allR n to) = false := by cases e : (allR n to) with | false => rfl | true => exact absurd ha2 (by rw [e]; decide)
    have hne : nodesR n es [fr, to] = 2 := by rw [nodes2 hv, if_neg (by rw [ha2]; simp)]
    conv => whnf
    show ([], 0, false, 2) = leastR n es fr to
    rw [least_bad (by rw [hne]; decide), hne]
  have ha2 : (!(allR n to)) = false := ha2
  have ha2 : (allR n to) = true := by cases e : (allR n to) with | true => rfl | false => exact absurd ha2 (by rw [e]; decide)
  have hnd : nodesR n es [fr, to] = 0 := by rw [nodes2 hv, if_pos ⟨ha1, ha2⟩]
  obtain ⟨_, hnn⟩ := nodes_iff hnd
  have hes := valid_es hv
  obtain ⟨v1, v2', v3, _⟩ := valid_iff hv
  have v2 : n ≤ 100000 := by omega
  have hfr : ∀ k ∈ fr, 0 ≤ k ∧ k < n := hnn fr List.mem_cons_self
  have hto : ∀ k ∈ to, 0 ≤ k ∧ k < n := hnn to (List.mem_cons_of_mem _ List.mem_cons_self)
  conv => whnf
  refine ⟨show 0 ≤ n ∧ n ≤ 100000 by omega, ?_⟩
  conv => whnf
  refine ⟨show es.length ≤ 2000000 by omega, ?_⟩
  conv => whnf
  refine ⟨hes, ?_⟩
  conv => whnf
  refine ⟨show to.length ≤ 1000000000 by omega, ?_⟩
  conv => whnf
  refine ⟨hto, ?_⟩
  conv => whnf
  refine loop_rule (fun i => S21a es (toF (Re es) (Tl to) n.toNat) fr (bestR (lpR (Re es) (Tl to)) (fr.take i.toNat)) i) (fun i => ((fr.length : Int) - i).toNat) (fun i => 0 ≤ i ∧ i ≤ fr.length) ?_ 0 (by kernel_rfl) ?_ ⟨by omega, by omega⟩
  case refine_2 => rfl
  rintro i ⟨h0, i1'⟩
  have hbi := best_in (n := n) (L := (lpR (Re es) (Tl to))) (l := fr) hfr i.toNat
  conv => whnf
  refine cond_intro (fun hlt => ?_) (fun hlt => ?_)
  · have hlt : i < (fr.length : Int) := @of_decide_eq_true _ _ hlt
    have wi : IntKind.i64.wrap (i + 1) = i + 1 := wrap_eq (by omega) (by omega)
    have ei : (i + 1).toNat = i.toNat + 1 := by omega
    have hkr := hfr (gI fr i.toNat) (gI_mem (n := i.toNat) (by omega))
    have hkl : (gI fr i.toNat) < ((toF (Re es) (Tl to) n.toNat).length : Int) := by rw [toF_len]; omega
    have hkr : 0 ≤ (gI fr i.toNat) ∧ (gI fr i.toNat) < (n.toNat : Int) := by omega
    conv => whnf
    refine ⟨h0, ?_⟩
    conv => whnf
    refine ⟨hlt, ?_⟩
    conv => whnf
    refine ⟨hkr.1, ?_⟩
    conv => whnf
    refine ⟨hkl, ?_⟩
    conv => whnf
    refine cond_intro (fun i1 => ?_) (fun i1 => ?_)
    · have i1 : 0 ≤ (gF (toF (Re es) (Tl to) n.toNat) (gI fr i.toNat).toNat).1 := @of_decide_eq_true _ _ i1
      conv => whnf
      refine cond_intro (fun i2 => ?_) (fun i2 => ?_)
      · have i2 : (bestR (lpR (Re es) (Tl to)) (fr.take i.toNat)) < 0 := @of_decide_eq_true _ _ i2
        have hbt : betterL (lpR (Re es) (Tl to)) (gI fr i.toNat) (bestR (lpR (Re es) (Tl to)) (fr.take i.toNat)) = true := by rw [betterF_eq hes.steps hkr hbi]; unfold betterF; rw [decide_eq_true i1, decide_eq_true i2]; rfl
        have hb1 := best_take (L := (lpR (Re es) (Tl to))) (l := fr) (i := i.toNat) (by omega)
        rw [hbt] at hb1
        conv => whnf
        refine ⟨i + 1, ?_, ⟨by omega, by omega⟩, by omega⟩
        exact Eq.trans (b := S21a es (toF (Re es) (Tl to) n.toNat) fr (gI fr i.toNat) (IntKind.i64.wrap (i + 1))) rfl (by rw [wi, ei, hb1]; rfl)
      have i2 : ¬ ((bestR (lpR (Re es) (Tl to)) (fr.take i.toNat)) < 0) := @of_decide_eq_false _ _ i2
      have hbr : 0 ≤ (bestR (lpR (Re es) (Tl to)) (fr.take i.toNat)) ∧ (bestR (lpR (Re es) (Tl to)) (fr.take i.toNat)) < ((toF (Re es) (Tl to) n.toNat).length : Int) := by rw [toF_len]; rcases hbi with h | ⟨h, _⟩ <;> omega
      conv => whnf
      refine ⟨hkr.1, ?_⟩
      conv => whnf
      refine ⟨hkl, ?_⟩
      conv => whnf
      refine ⟨hbr.1, ?_⟩
      conv => whnf
      refine ⟨hbr.2, ?_⟩
      conv => whnf
      refine cond_intro (fun i3 => ?_) (fun i3 => ?_)
      · have i3 : (lessF (gF (toF (Re es) (Tl to) n.toNat) (gI fr i.toNat).toNat) (gF (toF (Re es) (Tl to) n.toNat) (bestR (lpR (Re es) (Tl to)) (fr.take i.toNat)).toNat)) = true := i3
        have hbt : betterL (lpR (Re es) (Tl to)) (gI fr i.toNat) (bestR (lpR (Re es) (Tl to)) (fr.take i.toNat)) = true := by rw [betterF_eq hes.steps hkr hbi]; unfold betterF; rw [decide_eq_true i1, decide_eq_false i2, i3]; rfl
        have hb1 := best_take (L := (lpR (Re es) (Tl to))) (l := fr) (i := i.toNat) (by omega)
        rw [hbt] at hb1
        conv => whnf
        refine ⟨i + 1, ?_, ⟨by omega, by omega⟩, by omega⟩
        exact Eq.trans (b := S21a es (toF (Re es) (Tl to) n.toNat) fr (gI fr i.toNat) (IntKind.i64.wrap (i + 1))) rfl (by rw [wi, ei, hb1]; rfl)
      have i3 : (lessF (gF (toF (Re es) (Tl to) n.toNat) (gI fr i.toNat).toNat) (gF (toF (Re es) (Tl to) n.toNat) (bestR (lpR (Re es) (Tl to)) (fr.take i.toNat)).toNat)) = false := i3
      conv => whnf
      refine ⟨hkr.1, ?_⟩
      conv => whnf
      refine ⟨hkl, ?_⟩
      conv => whnf
      refine ⟨hbr.1, ?_⟩
      conv => whnf
      refine ⟨hbr.2, ?_⟩
      conv => whnf
      refine cond_intro (fun i4 => ?_) (fun i4 => ?_)
      · have i4 : (decide ((gF (toF (Re es) (Tl to) n.toNat) (gI fr i.toNat).toNat).1 = (gF (toF (Re es) (Tl to) n.toNat) (bestR (lpR (Re es) (Tl to)) (fr.take i.toNat)).toNat).1) && (decide ((gF (toF (Re es) (Tl to) n.toNat) (gI fr i.toNat).toNat).2 = (gF (toF (Re es) (Tl to) n.toNat) (bestR (lpR (Re es) (Tl to)) (fr.take i.toNat)).toNat).2) && true)) = true := i4
        have i4' : eqF (gF (toF (Re es) (Tl to) n.toNat) (gI fr i.toNat).toNat) (gF (toF (Re es) (Tl to) n.toNat) (bestR (lpR (Re es) (Tl to)) (fr.take i.toNat)).toNat) = true := i4
        conv => whnf
        refine cond_intro (fun i5 => ?_) (fun i5 => ?_)
        · have i5 : (gI fr i.toNat) < (bestR (lpR (Re es) (Tl to)) (fr.take i.toNat)) := @of_decide_eq_true _ _ i5
          have hbt : betterL (lpR (Re es) (Tl to)) (gI fr i.toNat) (bestR (lpR (Re es) (Tl to)) (fr.take i.toNat)) = true := by rw [betterF_eq hes.steps hkr hbi]; unfold betterF; rw [decide_eq_true i1, decide_eq_false i2, i3, i4', decide_eq_true i5]; rfl
          have hb1 := best_take (L := (lpR (Re es) (Tl to))) (l := fr) (i := i.toNat) (by omega)
          rw [hbt] at hb1
          conv => whnf
          refine ⟨i + 1, ?_, ⟨by omega, by omega⟩, by omega⟩
          exact Eq.trans (b := S21a es (toF (Re es) (Tl to) n.toNat) fr (gI fr i.toNat) (IntKind.i64.wrap (i + 1))) rfl (by rw [wi, ei, hb1]; rfl)
        have i5 : ¬ ((gI fr i.toNat) < (bestR (lpR (Re es) (Tl to)) (fr.take i.toNat))) := @of_decide_eq_false _ _ i5
        have hbt : betterL (lpR (Re es) (Tl to)) (gI fr i.toNat) (bestR (lpR (Re es) (Tl to)) (fr.take i.toNat)) = false := by rw [betterF_eq hes.steps hkr hbi]; unfold betterF; rw [decide_eq_true i1, decide_eq_false i2, i3, i4', decide_eq_false i5]; rfl
        have hb1 := best_take (L := (lpR (Re es) (Tl to))) (l := fr) (i := i.toNat) (by omega)
        rw [hbt] at hb1
        conv => whnf
        refine ⟨i + 1, ?_, ⟨by omega, by omega⟩, by omega⟩
        exact Eq.trans (b := S21a es (toF (Re es) (Tl to) n.toNat) fr (bestR (lpR (Re es) (Tl to)) (fr.take i.toNat)) (IntKind.i64.wrap (i + 1))) rfl (by rw [wi, ei, hb1]; rfl)
      have i4 : (decide ((gF (toF (Re es) (Tl to) n.toNat) (gI fr i.toNat).toNat).1 = (gF (toF (Re es) (Tl to) n.toNat) (bestR (lpR (Re es) (Tl to)) (fr.take i.toNat)).toNat).1) && (decide ((gF (toF (Re es) (Tl to) n.toNat) (gI fr i.toNat).toNat).2 = (gF (toF (Re es) (Tl to) n.toNat) (bestR (lpR (Re es) (Tl to)) (fr.take i.toNat)).toNat).2) && true)) = false := i4
      have i4' : eqF (gF (toF (Re es) (Tl to) n.toNat) (gI fr i.toNat).toNat) (gF (toF (Re es) (Tl to) n.toNat) (bestR (lpR (Re es) (Tl to)) (fr.take i.toNat)).toNat) = false := i4
      have hbt : betterL (lpR (Re es) (Tl to)) (gI fr i.toNat) (bestR (lpR (Re es) (Tl to)) (fr.take i.toNat)) = false := by rw [betterF_eq hes.steps hkr hbi]; unfold betterF; rw [decide_eq_true i1, decide_eq_false i2, i3, i4']; rfl
      have hb1 := best_take (L := (lpR (Re es) (Tl to))) (l := fr) (i := i.toNat) (by omega)
      rw [hbt] at hb1
      conv => whnf
      refine ⟨i + 1, ?_, ⟨by omega, by omega⟩, by omega⟩
      exact Eq.trans (b := S21a es (toF (Re es) (Tl to) n.toNat) fr (bestR (lpR (Re es) (Tl to)) (fr.take i.toNat)) (IntKind.i64.wrap (i + 1))) rfl (by rw [wi, ei, hb1]; rfl)
    have i1 : ¬ (0 ≤ (gF (toF (Re es) (Tl to) n.toNat) (gI fr i.toNat).toNat).1) := @of_decide_eq_false _ _ i1
    have hbt : betterL (lpR (Re es) (Tl to)) (gI fr i.toNat) (bestR (lpR (Re es) (Tl to)) (fr.take i.toNat)) = false := by rw [betterF_eq hes.steps hkr hbi]; unfold betterF; rw [decide_eq_false i1]; rfl
    have hb1 := best_take (L := (lpR (Re es) (Tl to))) (l := fr) (i := i.toNat) (by omega)
    rw [hbt] at hb1
    conv => whnf
    refine ⟨i + 1, ?_, ⟨by omega, by omega⟩, by omega⟩
    exact Eq.trans (b := S21a es (toF (Re es) (Tl to) n.toNat) fr (bestR (lpR (Re es) (Tl to)) (fr.take i.toNat)) (IntKind.i64.wrap (i + 1))) rfl (by rw [wi, ei, hb1]; rfl)
  have hlt : ¬ (i < (fr.length : Int)) := @of_decide_eq_false _ _ hlt
  have hta : fr.take i.toNat = fr := List.take_of_length_le (by omega)
  rw [hta] at hbi
  rw [hta]
  conv => whnf
  refine cond_intro (fun b1 => ?_) (fun b1 => ?_)
  · have b1 : (bestR (lpR (Re es) (Tl to)) fr) < 0 := @of_decide_eq_true _ _ b1
    conv => whnf
    show ([], 0, false, 0) = leastR n es fr to
    rw [least_none hnd b1]
  have b1 : ¬ ((bestR (lpR (Re es) (Tl to)) fr) < 0) := @of_decide_eq_false _ _ b1
  obtain ⟨hbr, ⟨cc, ss⟩, hbp⟩ : (0 ≤ (bestR (lpR (Re es) (Tl to)) fr) ∧ (bestR (lpR (Re es) (Tl to)) fr) < (n.toNat : Int)) ∧ ∃ p, (lpR (Re es) (Tl to)) (bestR (lpR (Re es) (Tl to)) fr) = some p := by
    rcases hbi with h | h
    · exact absurd h b1
    · exact h
  have hbl0 : (bestR (lpR (Re es) (Tl to)) fr) < ((toF (Re es) (Tl to) n.toNat).length : Int) := by rw [toF_len]; exact hbr.2
  have hgb : gF (toF (Re es) (Tl to) n.toNat) (bestR (lpR (Re es) (Tl to)) fr).toNat = (cc, ss) := by rw [toF_at (by omega), show (((bestR (lpR (Re es) (Tl to)) fr).toNat : Nat) : Int) = (bestR (lpR (Re es) (Tl to)) fr) by omega, hbp]; rfl
  conv => whnf
  refine ⟨hbr.1, ?_⟩
  conv => whnf
  refine ⟨hbl0, ?_⟩
  obtain ⟨b, hbe⟩ : ∃ b, b = (bestR (lpR (Re es) (Tl to)) fr) := ⟨_, rfl⟩
  obtain ⟨S, hSe⟩ : ∃ S, S = ss := ⟨_, rfl⟩
  obtain ⟨c0, hce⟩ : ∃ c0 : Int, c0 = (gF (toF (Re es) (Tl to) n.toNat) (bestR (lpR (Re es) (Tl to)) fr).toNat).1 := ⟨_, rfl⟩
  have hb0 : 0 ≤ b ∧ b < n := by rw [hbe]; omega
  have hce : c0 = cc := by rw [hce, hgb]
  have hbl : (lpR (Re es) (Tl to)) b = some (c0, S) := by rw [hbe, hce, hSe]; exact hbp
  conv => whnf
  refine loop_rule (fun x : List Int × Int => S21b es (toF (Re es) (Tl to) n.toNat) c0 x.1 x.2) (fun x => (gF (toF (Re es) (Tl to) n.toNat) x.2.toNat).2.toNat) (fun x => (0 ≤ x.2 ∧ x.2 < n) ∧ ∃ c s, (lpR (Re es) (Tl to)) x.2 = some (c, s) ∧ (x.1.length : Int) + s = 1 + S ∧ x.1 ++ (wayR (Re es) (Tl to) s.toNat x.2).tail = wayR (Re es) (Tl to) S.toNat b) ?_ ([b], b) (by kernel_rfl) ?_ ⟨hb0, c0, S, hbl, rfl, (wayR_tail _ _ _ _).symm⟩
  case refine_2 => exact Eq.trans (b := S21b es (toF (Re es) (Tl to) n.toNat) (gF (toF (Re es) (Tl to) n.toNat) (bestR (lpR (Re es) (Tl to)) fr).toNat).1 [(bestR (lpR (Re es) (Tl to)) fr)] (bestR (lpR (Re es) (Tl to)) fr)) rfl (by rw [hgb, hbe, hce])
  rintro ⟨out, a⟩ ⟨⟨a0, a1⟩, c, s, hlp, hlen, hout⟩
  have a0 : 0 ≤ a := a0
  have a1 : a < n := a1
  have hlp : (lpR (Re es) (Tl to)) a = some (c, s) := hlp
  have hlen : (out.length : Int) + s = 1 + S := hlen
  have hout : out ++ (wayR (Re es) (Tl to) s.toNat a).tail = wayR (Re es) (Tl to) S.toNat b := hout
  have al : a < ((toF (Re es) (Tl to) n.toNat).length : Int) := by rw [toF_len]; omega
  have ga : (gF (toF (Re es) (Tl to) n.toNat) a.toNat) = (c, s) := by rw [toF_at (by omega), show ((a.toNat : Nat) : Int) = a by omega, hlp]; rfl
  have hsn := lp_bnd hes.steps (by omega) hlp
  have hSn := lp_bnd hes.steps (by omega) hbl
  conv => whnf
  refine ⟨a0, ?_⟩
  conv => whnf
  refine ⟨al, ?_⟩
  conv => whnf
  refine cond_intro (fun hs => ?_) (fun hs => ?_)
  · have hs : 0 < (gF (toF (Re es) (Tl to) n.toNat) a.toNat).2 := @of_decide_eq_true _ _ hs
    rw [ga] at hs
    have hs : 0 < s := hs
    conv => whnf
    refine loop_rule (fun x : Int × Int => S21c es (toF (Re es) (Tl to) n.toNat) c0 out a x.1 x.2) (fun x => ((es.length : Int) - x.2).toNat) (fun x => 0 ≤ x.2 ∧ x.2 ≤ es.length ∧ NxI es (toF (Re es) (Tl to) n.toNat) a x.1 x.2.toNat) ?_ (-1, 0) (by kernel_rfl) ?_ ⟨Int.le_refl _, by show (0 : Int) ≤ _; omega, Or.inl ⟨rfl, fun i hi => by simp at hi⟩⟩
    case refine_2 => rfl
    rintro ⟨x, j⟩ ⟨j0, j1, hni⟩
    have j0 : 0 ≤ j := j0
    have j1 : j ≤ es.length := j1
    have hni : NxI es (toF (Re es) (Tl to) n.toNat) a x j.toNat := hni
    conv => whnf
    refine cond_intro (fun jlt => ?_) (fun jlt => ?_)
    · have jlt : j < (es.length : Int) := @of_decide_eq_true _ _ jlt
      have wj : IntKind.i64.wrap (j + 1) = j + 1 := wrap_eq (by omega) (by omega)
      have ej : (j + 1).toNat = j.toNat + 1 := by omega
      have hee := hes.ok _ (gE_mem (n := j.toNat) (l := es) (by omega))
      have tl : (gE es j.toNat).2.1 < ((toF (Re es) (Tl to) n.toNat).length : Int) := by rw [toF_len]; omega
      conv => whnf
      refine ⟨j0, ?_⟩
      conv => whnf
      refine ⟨jlt, ?_⟩
      conv => whnf
      refine ⟨hee.2.1.1, ?_⟩
      conv => whnf
      refine ⟨tl, ?_⟩
      conv => whnf
      refine cond_intro (fun i1 => ?_) (fun i1 => ?_)
      · have i1 : (gE es j.toNat).1 = a := @of_decide_eq_true _ _ i1
        conv => whnf
        refine cond_intro (fun i2 => ?_) (fun i2 => ?_)
        · have i2 : 0 ≤ (gF (toF (Re es) (Tl to) n.toNat) (gE es j.toNat).2.1.toNat).1 := @of_decide_eq_true _ _ i2
          have hb1 : (gF (toF (Re es) (Tl to) n.toNat) (gE es j.toNat).2.1.toNat).1 ≤ 1000000000000000000 ∧ (gF (toF (Re es) (Tl to) n.toNat) (gE es j.toNat).2.1.toNat).2 ≤ 100000 ∧ 0 ≤ (gF (toF (Re es) (Tl to) n.toNat) (gE es j.toNat).2.1.toNat).2 := fl_bnd hes ⟨v1, v2⟩ (by omega) i2
          have wc : IntKind.i64.wrap ((gF (toF (Re es) (Tl to) n.toNat) (gE es j.toNat).2.1.toNat).1 + (gE es j.toNat).2.2) = (gF (toF (Re es) (Tl to) n.toNat) (gE es j.toNat).2.1.toNat).1 + (gE es j.toNat).2.2 := wrap_eq (by omega) (by omega)
          have ws : IntKind.i64.wrap ((gF (toF (Re es) (Tl to) n.toNat) (gE es j.toNat).2.1.toNat).2 + 1) = (gF (toF (Re es) (Tl to) n.toNat) (gE es j.toNat).2.1.toNat).2 + 1 := wrap_eq (by omega) (by omega)
          conv => whnf
          refine ⟨a0, ?_⟩
          conv => whnf
          refine ⟨al, ?_⟩
          conv => whnf
          refine cond_intro (fun i3 => ?_) (fun i3 => ?_)
          · have i3 : IntKind.i64.wrap ((gF (toF (Re es) (Tl to) n.toNat) (gE es j.toNat).2.1.toNat).1 + (gE es j.toNat).2.2) = (gF (toF (Re es) (Tl to) n.toNat) a.toNat).1 := @of_decide_eq_true _ _ i3
            rw [wc] at i3
            conv => whnf
            refine ⟨a0, ?_⟩
            conv => whnf
            refine ⟨al, ?_⟩
            conv => whnf
            refine cond_intro (fun i4 => ?_) (fun i4 => ?_)
            · have i4 : IntKind.i64.wrap ((gF (toF (Re es) (Tl to) n.toNat) (gE es j.toNat).2.1.toNat).2 + 1) = (gF (toF (Re es) (Tl to) n.toNat) a.toNat).2 := @of_decide_eq_true _ _ i4
              rw [ws] at i4
              have htg : tightF (toF (Re es) (Tl to) n.toNat) a (gE es j.toNat) := ⟨i1, i2, i3, i4⟩
              conv => whnf
              refine cond_intro (fun i5 => ?_) (fun i5 => ?_)
              · have i5 : x < 0 := @of_decide_eq_true _ _ i5
                conv => whnf
                refine ⟨((gE es j.toNat).2.1, j + 1), ?_, ⟨by show 0 ≤ j + 1; omega, by show j + 1 ≤ _; omega, by show NxI es (toF (Re es) (Tl to) n.toNat) a (gE es j.toNat).2.1 (j + 1).toNat; rw [ej]; exact hni.set htg hee.2.1.1 (Or.inl i5)⟩, by show ((es.length : Int) - (j + 1)).toNat < ((es.length : Int) - j).toNat; omega⟩
                exact Eq.trans (b := S21c es (toF (Re es) (Tl to) n.toNat) c0 out a (gE es j.toNat).2.1 (IntKind.i64.wrap (j + 1))) rfl (by rw [wj])
              have i5 : ¬ (x < 0) := @of_decide_eq_false _ _ i5
              conv => whnf
              refine cond_intro (fun i6 => ?_) (fun i6 => ?_)
              · have i6 : (gE es j.toNat).2.1 < x := @of_decide_eq_true _ _ i6
                conv => whnf
                refine ⟨((gE es j.toNat).2.1, j + 1), ?_, ⟨by show 0 ≤ j + 1; omega, by show j + 1 ≤ _; omega, by show NxI es (toF (Re es) (Tl to) n.toNat) a (gE es j.toNat).2.1 (j + 1).toNat; rw [ej]; exact hni.set htg hee.2.1.1 (Or.inr i6)⟩, by show ((es.length : Int) - (j + 1)).toNat < ((es.length : Int) - j).toNat; omega⟩
                exact Eq.trans (b := S21c es (toF (Re es) (Tl to) n.toNat) c0 out a (gE es j.toNat).2.1 (IntKind.i64.wrap (j + 1))) rfl (by rw [wj])
              have i6 : ¬ ((gE es j.toNat).2.1 < x) := @of_decide_eq_false _ _ i6
              conv => whnf
              refine ⟨(x, j + 1), ?_, ⟨by show 0 ≤ j + 1; omega, by show j + 1 ≤ _; omega, by show NxI es (toF (Re es) (Tl to) n.toNat) a x (j + 1).toNat; rw [ej]; exact hni.stay i5 i6⟩, by show ((es.length : Int) - (j + 1)).toNat < ((es.length : Int) - j).toNat; omega⟩
              exact Eq.trans (b := S21c es (toF (Re es) (Tl to) n.toNat) c0 out a x (IntKind.i64.wrap (j + 1))) rfl (by rw [wj])
            have i4 : ¬ (IntKind.i64.wrap ((gF (toF (Re es) (Tl to) n.toNat) (gE es j.toNat).2.1.toNat).2 + 1) = (gF (toF (Re es) (Tl to) n.toNat) a.toNat).2) := @of_decide_eq_false _ _ i4
            rw [ws] at i4
            conv => whnf
            refine ⟨(x, j + 1), ?_, ⟨by show 0 ≤ j + 1; omega, by show j + 1 ≤ _; omega, by show NxI es (toF (Re es) (Tl to) n.toNat) a x (j + 1).toNat; rw [ej]; exact hni.skip fun h => i4 h.2.2.2⟩, by show ((es.length : Int) - (j + 1)).toNat < ((es.length : Int) - j).toNat; omega⟩
            exact Eq.trans (b := S21c es (toF (Re es) (Tl to) n.toNat) c0 out a x (IntKind.i64.wrap (j + 1))) rfl (by rw [wj])
          have i3 : ¬ (IntKind.i64.wrap ((gF (toF (Re es) (Tl to) n.toNat) (gE es j.toNat).2.1.toNat).1 + (gE es j.toNat).2.2) = (gF (toF (Re es) (Tl to) n.toNat) a.toNat).1) := @of_decide_eq_false _ _ i3
          rw [wc] at i3
          conv => whnf
          refine ⟨(x, j + 1), ?_, ⟨by show 0 ≤ j + 1; omega, by show j + 1 ≤ _; omega, by show NxI es (toF (Re es) (Tl to) n.toNat) a x (j + 1).toNat; rw [ej]; exact hni.skip fun h => i3 h.2.2.1⟩, by show ((es.length : Int) - (j + 1)).toNat < ((es.length : Int) - j).toNat; omega⟩
          exact Eq.trans (b := S21c es (toF (Re es) (Tl to) n.toNat) c0 out a x (IntKind.i64.wrap (j + 1))) rfl (by rw [wj])
        have i2 : ¬ (0 ≤ (gF (toF (Re es) (Tl to) n.toNat) (gE es j.toNat).2.1.toNat).1) := @of_decide_eq_false _ _ i2
        conv => whnf
        refine ⟨(x, j + 1), ?_, ⟨by show 0 ≤ j + 1; omega, by show j + 1 ≤ _; omega, by show NxI es (toF (Re es) (Tl to) n.toNat) a x (j + 1).toNat; rw [ej]; exact hni.skip fun h => i2 h.2.1⟩, by show ((es.length : Int) - (j + 1)).toNat < ((es.length : Int) - j).toNat; omega⟩
        exact Eq.trans (b := S21c es (toF (Re es) (Tl to) n.toNat) c0 out a x (IntKind.i64.wrap (j + 1))) rfl (by rw [wj])
      have i1 : ¬ ((gE es j.toNat).1 = a) := @of_decide_eq_false _ _ i1
      conv => whnf
      refine ⟨(x, j + 1), ?_, ⟨by show 0 ≤ j + 1; omega, by show j + 1 ≤ _; omega, by show NxI es (toF (Re es) (Tl to) n.toNat) a x (j + 1).toNat; rw [ej]; exact hni.skip fun h => i1 h.1⟩, by show ((es.length : Int) - (j + 1)).toNat < ((es.length : Int) - j).toNat; omega⟩
      exact Eq.trans (b := S21c es (toF (Re es) (Tl to) n.toNat) c0 out a x (IntKind.i64.wrap (j + 1))) rfl (by rw [wj])
    have jlt : ¬ (j < (es.length : Int)) := @of_decide_eq_false _ _ jlt
    have hx := NxI.done hes ⟨a0, a1⟩ hlp hs (by rw [show j.toNat = es.length by omega] at hni; exact hni)
    obtain ⟨w, n1, _, n2⟩ := nx_lp hes hlp hs
    have gn : gF (toF (Re es) (Tl to) n.toNat) x.toNat = (c - w, s - 1) := by rw [hx, toF_at (by omega), show (((nxR (Re es) (Tl to) a).toNat : Nat) : Int) = nxR (Re es) (Tl to) a by omega, n1]; rfl
    conv => whnf
    refine ⟨show (out.length + 1) * 8 ≤ 70368744177664 by omega, ?_⟩
    conv => whnf
    refine ⟨show out.length + 1 ≤ 70368744177664 by omega, ?_⟩
    conv => whnf
    refine ⟨(out ++ [x], x), rfl, ⟨by show 0 ≤ x ∧ x < n; rw [hx]; exact n2, ⟨c - w, s - 1, by show (lpR (Re es) (Tl to)) x = _; rw [hx]; exact n1, ?_, ?_⟩⟩, ?_⟩
    · show ((out ++ [x]).length : Int) + (s - 1) = _
      rw [List.length_append, List.length_singleton]; omega
    · show (out ++ [x]) ++ _ = _
      rw [hx, way_step hs]; exact hout
    · show (gF (toF (Re es) (Tl to) n.toNat) x.toNat).2.toNat < (gF (toF (Re es) (Tl to) n.toNat) a.toNat).2.toNat
      rw [gn, ga]
      show (s - 1).toNat < s.toNat
      omega
  have hs : ¬ (0 < (gF (toF (Re es) (Tl to) n.toNat) a.toNat).2) := @of_decide_eq_false _ _ hs
  rw [ga] at hs
  have hs : ¬ 0 < s := hs
  rw [show s.toNat = 0 by omega] at hout
  have hout : out ++ [] = wayR (Re es) (Tl to) S.toNat b := hout
  rw [List.append_nil] at hout
  conv => whnf
  show (out, c0, true, 0) = leastR n es fr to
  rw [least_some hnd b1 hbp, hout, hbe, hSe, hce]
end
end Go.Proofs.Ythgclbohlcgdgaa.Eng
set_option linter.unusedVariables false
set_option linter.unusedSimpArgs false
namespace Go.Proofs.Ythgclbohlcgdgaa.Eng
open Go
set_option maxRecDepth 100000
noncomputable section
theorem wayR_len (R : Rel) (T : Int → Prop) : ∀ (s : Nat) (k : Int), (wayR R T s k).length = s + 1
  | 0, _ => rfl
  | s + 1, k => by
    show (wayR R T s (nxR R T k)).length + 1 = s + 1 + 1
    rw [wayR_len R T s]
theorem least_len (n : Int) (es : List Ed) (fr to : List Int) : (leastR n es fr to).1.length ≤ 100001 := by
  unfold leastR
  split
  · simp
  · rename_i hn
    obtain ⟨hv, _⟩ := nodes_iff (Decidable.not_not.1 hn)
    have h4 := valid_iff hv
    split
    · rename_i p hp
      split
      · simp
      · show (wayR _ _ p.2.toNat _).length ≤ _
        rw [wayR_len]
        have := lp_bnd (valid_es hv).steps (by omega) (show lpR (Re es) (Tl to) _ = some (p.1, p.2) from hp)
        omega
    · simp
theorem least_is {n : Int} {es : List Ed} {fr to : List Int} (h : (leastR n es fr to).2.2.1 = true) : 1 ≤ (leastR n es fr to).1.length := by
  unfold leastR at h ⊢
  split
  · rename_i hn; rw [if_pos hn] at h; cases h
  · rename_i hn
    rw [if_neg hn] at h
    split
    · rename_i p hp
      rw [hp] at h
      simp only at h
      split
      · rename_i hb; rw [if_pos hb] at h; cases h
      · show 1 ≤ (wayR _ _ p.2.toNat _).length
        rw [wayR_len]; omega
    · rename_i hp; rw [hp] at h; cases h
theorem least_err (n : Int) (es : List Ed) (fr to : List Int) : (leastR n es fr to).2.2.2 = nodesR n es [fr, to] := by
  unfold leastR
  split
  · rfl
  · rename_i hn
    have := Decidable.not_not.1 hn
    rw [this]
    split
    · split <;> rfl
    · rfl
theorem least_no {n : Int} {es : List Ed} {fr to : List Int} (hn : ¬ nodesR n es [fr, to] = 0) : (leastR n es fr to).2.2.1 = false := by
  unfold leastR
  rw [if_pos hn]
def nextsR (n : Int) (es : List Ed) (a : Int) (to : List Int) : Int × Bool × Int :=
  if ¬ nodesR n es [[a], to] = 0 then (0, false, nodesR n es [[a], to]) else
    if (leastR n es [a] to).2.2.1 = true then (gI (leastR n es [a] to).1 (min2 1 ((leastR n es [a] to).1.length - 1)).toNat, true, 0) else (0, false, 0)
def E4 : Env := ⟨tab, [(16, K16), (17, K17), (20, K20), (21, K21), (22, K22)], ann0⟩
def K4 : Fn1 := ⟨.fld I (.fld (.sl eT) (.fld (.sl I) (.one (.sl I)))), .one .bool, fun _ => [], fun _ => true⟩
theorem k4 : FnOk Go.Proofs.Try.prog 4 K4 := by
  refine fn_ok (E := E4) (TOk.of tab_told) (AllOk.cons k16 (.cons k17 (.cons k20 (.cons k21 (.cons k22 .nil))))).at_ mix Go.Proofs.Try.func4 rfl rfl (by kernel_rfl) K4 ?_
  rintro ⟨(n : Int), (es : List Ed), (fr : List Int), (to : List Int)⟩ hp
  clear hp
  conv => whnf
  refine ⟨show 2 ≤ 100000 by omega, ?_⟩
  conv => whnf
  refine cond_intro (fun hlg => ?_) (fun hlg => ?_)
  · have hlg : (largeR es [fr, to]) = true := hlg
    conv => whnf
    show true = true
    rfl
  have hlg : (largeR es [fr, to]) = false := hlg
  have hl2 : fr.length ≤ 5000 ∧ to.length ≤ 5000 := ⟨(large_no hlg).2 fr List.mem_cons_self, (large_no hlg).2 to (List.mem_cons_of_mem _ List.mem_cons_self)⟩
  have hll := least_len n es fr to
  conv => whnf
  refine ⟨show fr.length ≤ 1000000000 by omega, ?_⟩
  conv => whnf
  refine ⟨show to.length ≤ 1000000000 by omega, ?_⟩
  conv => whnf
  refine ⟨show fr.length ≤ 1000000000 by omega, ?_⟩
  conv => whnf
  refine ⟨show to.length ≤ 1000000000 by omega, ?_⟩
  conv => whnf
  refine cond_intro (fun q1 => ?_) (fun q1 => ?_)
  · have q1 : (leastR n es fr to).2.2.2 = (leastR n es fr to).2.2.2 := @of_decide_eq_true _ _ q1
    conv => whnf
    refine cond_intro (fun q2 => ?_) (fun q2 => ?_)
    · have q2 : (((leastR n es fr to).2.2.1 == (leastR n es fr to).2.2.1)) = true := q2
      conv => whnf
      refine cond_intro (fun q3 => ?_) (fun q3 => ?_)
      · have q3 : (leastR n es fr to).2.1 = (leastR n es fr to).2.1 := @of_decide_eq_true _ _ q3
        conv => whnf
        refine ⟨show (leastR n es fr to).1.length ≤ 1000000000 by omega, ?_⟩
        conv => whnf
        refine cond_intro (fun q5 => ?_) (fun q5 => ?_)
        · have q5 : (eqI (leastR n es fr to).1 (leastR n es fr to).1) = true := q5
          conv => whnf
          show true = true
          rfl
        have q5 : (eqI (leastR n es fr to).1 (leastR n es fr to).1) = false := q5
        exact absurd q5 (by unfold eqI; rw [decide_eq_true rfl]; decide)
      have q3 : ¬ ((leastR n es fr to).2.1 = (leastR n es fr to).2.1) := @of_decide_eq_false _ _ q3
      exact absurd rfl q3
    have q2 : (((leastR n es fr to).2.2.1 == (leastR n es fr to).2.2.1)) = false := q2
    exact absurd q2 (by rw [beq_self_eq_true]; decide)
  have q1 : ¬ ((leastR n es fr to).2.2.2 = (leastR n es fr to).2.2.2) := @of_decide_eq_false _ _ q1
  exact absurd rfl q1
def E24 : Env := ⟨tab, [(37, K37), (20, K20)], ann0⟩
def K24 : Fn1 := ⟨.fld I (.fld (.sl eT) (.fld I (.one (.sl I)))), .fld I (.fld .bool (.one I)), fun (a : Int × List Ed × Int × List Int) => [a.2.2.2.length ≤ 1000000000], fun (a : Int × List Ed × Int × List Int) => nextsR a.1 a.2.1 a.2.2.1 a.2.2.2⟩
theorem k24 : FnOk Go.Proofs.Try.prog 24 K24 := by
  refine fn_ok (E := E24) (TOk.of tab_told) (AllOk.cons k37 (.cons k20 .nil)).at_ mix Go.Proofs.Try.func24 rfl rfl (by kernel_rfl) K24 ?_
  rintro ⟨(n : Int), (es : List Ed), (a : Int), (to : List Int)⟩ hp
  have htl : to.length ≤ 1000000000 := hp _ (List.mem_cons_self ..)
  clear hp
  have hl2 : ∀ l ∈ [[a], to], l.length ≤ 140737488351232 := by
    intro l hl
    simp only [List.mem_cons, List.not_mem_nil, or_false] at hl
    rcases hl with rfl | rfl
    · show 1 ≤ _; omega
    · omega
  conv => whnf
  refine ⟨show 2 ≤ 100000 by omega, ?_⟩
  conv => whnf
  refine ⟨hl2, ?_⟩
  conv => whnf
  refine cond_intro (fun hnd => ?_) (fun hnd => ?_)
  · have hnd : (!decide (nodesR n es [[a], to] = 0)) = true := hnd
    have hnd : ¬ (nodesR n es [[a], to] = 0) := fun e => absurd hnd (by rw [decide_eq_true e]; decide)
    conv => whnf
    show (0, false, nodesR n es [[a], to]) = nextsR n es a to
    rw [nextsR, if_pos hnd]
  have hnd : (!decide (nodesR n es [[a], to] = 0)) = false := hnd
  have hnd : nodesR n es [[a], to] = 0 := Decidable.byContradiction fun e => absurd hnd (by rw [decide_eq_false e]; decide)
  conv => whnf
  refine ⟨show 1 ≤ 1000000000 by omega, ?_⟩
  conv => whnf
  refine ⟨show to.length ≤ 1000000000 by omega, ?_⟩
  conv => whnf
  refine cond_intro (fun hi => ?_) (fun hi => ?_)
  · have hi : (!((leastR n es [a] to).2.2.1)) = true := hi
    have hi : ((leastR n es [a] to).2.2.1) = false := by cases e : ((leastR n es [a] to).2.2.1) with | false => rfl | true => exact absurd hi (by rw [e]; decide)
    conv => whnf
    show (0, false, 0) = nextsR n es a to
    rw [nextsR, if_neg (by simp [hnd]), if_neg (by rw [hi]; decide)]
  have hi : (!((leastR n es [a] to).2.2.1)) = false := hi
  have hi : ((leastR n es [a] to).2.2.1) = true := by cases e : ((leastR n es [a] to).2.2.1) with | true => rfl | false => exact absurd hi (by rw [e]; decide)
  have hll := least_len n es [a] to
  have hl1 := least_is hi
  have wl : IntKind.i64.wrap (((leastR n es [a] to).1.length : Int) - 1) = ((leastR n es [a] to).1.length : Int) - 1 := wrap_eq (by omega) (by omega)
  have mi0 : 0 ≤ min2 1 (IntKind.i64.wrap (((leastR n es [a] to).1.length : Int) - 1)) := by rw [wl]; unfold min2; split <;> omega
  have mi1 : min2 1 (IntKind.i64.wrap (((leastR n es [a] to).1.length : Int) - 1)) < ((leastR n es [a] to).1.length : Int) := by rw [wl]; unfold min2; split <;> omega
  conv => whnf
  refine ⟨mi0, ?_⟩
  conv => whnf
  refine ⟨mi1, ?_⟩
  conv => whnf
  show (gI (leastR n es [a] to).1 (min2 1 (IntKind.i64.wrap (((leastR n es [a] to).1.length : Int) - 1))).toNat, true, 0) = nextsR n es a to
  rw [nextsR, if_neg (by simp [hnd]), if_pos hi, wl]
def E25 : Env := ⟨tab, [(21, K21)], ann0⟩
def K25 : Fn1 := ⟨.fld I (.fld (.sl eT) (.fld I (.one (.sl I)))), .fld I (.fld .bool (.one I)), fun (a : Int × List Ed × Int × List Int) => [a.2.2.2.length ≤ 1000000000], fun (a : Int × List Ed × Int × List Int) => nextsR a.1 a.2.1 a.2.2.1 a.2.2.2⟩
theorem k25 : FnOk Go.Proofs.Try.prog 25 K25 := by
  refine fn_ok (E := E25) (TOk.of tab_told) (AllOk.cons k21 .nil).at_ mix Go.Proofs.Try.func25 rfl rfl (by kernel_rfl) K25 ?_
  rintro ⟨(n : Int), (es : List Ed), (a : Int), (to : List Int)⟩ hp
  have htl : to.length ≤ 1000000000 := hp _ (List.mem_cons_self ..)
  clear hp
  have herr := least_err n es [a] to
  conv => whnf
  refine ⟨show 1 ≤ 1000000000 by omega, ?_⟩
  conv => whnf
  refine ⟨show to.length ≤ 1000000000 by omega, ?_⟩
  conv => whnf
  refine cond_intro (fun hnd => ?_) (fun hnd => ?_)
  · have hnd : (!decide ((leastR n es [a] to).2.2.2 = 0)) = true := hnd
    have hnd : ¬ ((leastR n es [a] to).2.2.2 = 0) := fun e => absurd hnd (by rw [decide_eq_true e]; decide)
    rw [herr] at hnd
    conv => whnf
    show (0, false, (leastR n es [a] to).2.2.2) = nextsR n es a to
    rw [nextsR, if_pos hnd, herr]
  have hnd : (!decide ((leastR n es [a] to).2.2.2 = 0)) = false := hnd
  have hnd : (leastR n es [a] to).2.2.2 = 0 := Decidable.byContradiction fun e => absurd hnd (by rw [decide_eq_false e]; decide)
  rw [herr] at hnd
  conv => whnf
  refine cond_intro (fun hi => ?_) (fun hi => ?_)
  · have hi : (!((leastR n es [a] to).2.2.1)) = true := hi
    have hi : ((leastR n es [a] to).2.2.1) = false := by cases e : ((leastR n es [a] to).2.2.1) with | false => rfl | true => exact absurd hi (by rw [e]; decide)
    conv => whnf
    show (0, false, (leastR n es [a] to).2.2.2) = nextsR n es a to
    rw [nextsR, if_neg (by simp [hnd]), if_neg (by rw [hi]; decide), herr, hnd]
  have hi : (!((leastR n es [a] to).2.2.1)) = false := hi
  have hi : ((leastR n es [a] to).2.2.1) = true := by cases e : ((leastR n es [a] to).2.2.1) with | true => rfl | false => exact absurd hi (by rw [e]; decide)
  have hll := least_len n es [a] to
  have hl1 := least_is hi
  have wl : IntKind.i64.wrap (((leastR n es [a] to).1.length : Int) - 1) = ((leastR n es [a] to).1.length : Int) - 1 := wrap_eq (by omega) (by omega)
  have mi0 : 0 ≤ min2 1 (IntKind.i64.wrap (((leastR n es [a] to).1.length : Int) - 1)) := by rw [wl]; unfold min2; split <;> omega
  have mi1 : min2 1 (IntKind.i64.wrap (((leastR n es [a] to).1.length : Int) - 1)) < ((leastR n es [a] to).1.length : Int) := by rw [wl]; unfold min2; split <;> omega
  conv => whnf
  refine ⟨mi0, ?_⟩
  conv => whnf
  refine ⟨mi1, ?_⟩
  conv => whnf
  show (gI (leastR n es [a] to).1 (min2 1 (IntKind.i64.wrap (((leastR n es [a] to).1.length : Int) - 1))).toNat, true, 0) = nextsR n es a to
  rw [nextsR, if_neg (by simp [hnd]), if_pos hi, wl]
def E6 : Env := ⟨tab, [(16, K16), (17, K17), (24, K24), (25, K25)], ann0⟩
def K6 : Fn1 := ⟨.fld I (.fld (.sl eT) (.fld I (.one (.sl I)))), .one .bool, fun _ => [], fun _ => true⟩
theorem k6 : FnOk Go.Proofs.Try.prog 6 K6 := by
  refine fn_ok (E := E6) (TOk.of tab_told) (AllOk.cons k16 (.cons k17 (.cons k24 (.cons k25 .nil)))).at_ mix Go.Proofs.Try.func6 rfl rfl (by kernel_rfl) K6 ?_
  rintro ⟨(n : Int), (es : List Ed), (a : Int), (to : List Int)⟩ hp
  clear hp
  conv => whnf
  refine ⟨show 1 ≤ 100000 by omega, ?_⟩
  conv => whnf
  refine cond_intro (fun hlg => ?_) (fun hlg => ?_)
  · have hlg : (largeR es [to]) = true := hlg
    conv => whnf
    show true = true
    rfl
  have hlg : (largeR es [to]) = false := hlg
  have hl2 : to.length ≤ 5000 := (large_no hlg).2 to List.mem_cons_self
  conv => whnf
  refine ⟨show to.length ≤ 1000000000 by omega, ?_⟩
  conv => whnf
  refine ⟨show to.length ≤ 1000000000 by omega, ?_⟩
  conv => whnf
  refine cond_intro (fun q1 => ?_) (fun q1 => ?_)
  · have q1 : (nextsR n es a to).1 = (nextsR n es a to).1 := @of_decide_eq_true _ _ q1
    conv => whnf
    refine cond_intro (fun q2 => ?_) (fun q2 => ?_)
    · have q2 : (((nextsR n es a to).2.1 == (nextsR n es a to).2.1)) = true := q2
      conv => whnf
      refine cond_intro (fun q3 => ?_) (fun q3 => ?_)
      · have q3 : (nextsR n es a to).2.2 = (nextsR n es a to).2.2 := @of_decide_eq_true _ _ q3
        conv => whnf
        show true = true
        rfl
      have q3 : ¬ ((nextsR n es a to).2.2 = (nextsR n es a to).2.2) := @of_decide_eq_false _ _ q3
      exact absurd rfl q3
    have q2 : (((nextsR n es a to).2.1 == (nextsR n es a to).2.1)) = false := q2
    exact absurd q2 (by rw [beq_self_eq_true]; decide)
  have q1 : ¬ ((nextsR n es a to).1 = (nextsR n es a to).1) := @of_decide_eq_false _ _ q1
  exact absurd rfl q1
end
end Go.Proofs.Ythgclbohlcgdgaa.Eng
set_option linter.unusedVariables false
set_option linter.unusedSimpArgs false
namespace Go.Proofs.Ythgclbohlcgdgaa.Eng
open Go
set_option maxRecDepth 100000
noncomputable section
def costOf (o : Option (Int × Int)) : Int := match o with | some p => p.1 | none => -1
def allsR (n : Int) (es : List Ed) (a : Int) : List Int × Int :=
  if ¬ nodesR n es [[a]] = 0 then ([], nodesR n es [[a]]) else ((List.range n.toNat).map (fun (k : Nat) => costOf (lpR (Re (es.map turnR)) (Tl [a]) (k : Int))), 0)
theorem goals2_eq {n : Int} {es : List Ed} (h : EsOk n es) (T : Int → Prop) : toG (Rb (graphR n es)) T (graphR n es).length = toG (Re (es.map turnR)) T n.toNat := by
  unfold toG
  rw [rb_graph h, graph_len]
theorem gI_set {l : List Int} {k m : Nat} {x : Int} (h : k < l.length) : gI (l.set k x) m = if k = m then x else gI l m := by
  unfold gI
  rw [List.getD_eq_getElem?_getD, List.getD_eq_getElem?_getD, List.getElem?_set]
  by_cases e : k = m
  · subst e; simp [h]
  · simp [e]
/-- The first places of a list are told. -/
structure AllAt (N : Nat) (f : Nat → Int) (i : Nat) (out : List Int) : Prop where
  lo : out.length = N
  at_ : ∀ m, m < N → m < i → gI out m = f m
theorem AllAt.step {N : Nat} {f : Nat → Int} {i : Nat} {out : List Int} {x : Int} (h : AllAt N f i out) (hi : i < N) (hx : x = f i) : AllAt N f (i + 1) (out.set i x) := by
  have hl : i < out.length := by rw [h.lo]; exact hi
  refine ⟨by rw [List.length_set]; exact h.lo, fun m hm hmi => ?_⟩
  rw [gI_set hl]
  split
  · rename_i e; rw [hx, e]
  · exact h.at_ m hm (by omega)
theorem AllAt.done {N : Nat} {f : Nat → Int} {out : List Int} (h : AllAt N f N out) : out = (List.range N).map f := by
  apply List.ext_getElem
  · rw [h.lo]; simp
  · intro k k1 k2
    have hk : k < N := by rw [← h.lo]; exact k1
    rw [← gI_eq k1, h.at_ k hk hk]
    simp
theorem nodes1 {n : Int} {es : List Ed} {a : Int} (hv : validR n es = 0) : nodesR n es [[a]] = if isR n a = true then 0 else 2 := by
  unfold nodesR
  rw [if_neg (by simp [hv])]
  simp [allR]
def S26 (l : List Gl) (out : List Int) (i : Int) : SL := ⟨List.replicate 10 .undef ++ [.own 0] ++ List.replicate 23 .undef ++ [.own 1] ++ [.int .i64 l.length] ++ [.int .i64 i] ++ List.replicate 16 .undef, [(0, .arr I out), (1, .arr gT l)], 2⟩
def E26 : Env := ⟨tab, [(37, K37), (38, .eff X38), (40, K40), (39, K39)], fun n => match n with | 7 => some ([10, 34, 35, 36], [], []) | _ => none⟩
def K26 : Fn1 := ⟨.fld I (.fld (.sl eT) (.one I)), .fld (.sl I) (.one I), fun _ => [], fun (a : Int × List Ed × Int) => allsR a.1 a.2.1 a.2.2⟩
set_option maxHeartbeats 4000000 in
theorem k26 : FnOk Go.Proofs.Try.prog 26 K26 := by
  refine fn_ok (E := E26) (TOk.of tab_told) (AllOk.cons k37 (.consX k38 (.cons k40 (.cons k39 .nil)))).at_ mix Go.Proofs.Try.func26 rfl rfl (by kernel_rfl) K26 ?_
  rintro ⟨(n : Int), (es : List Ed), (a : Int)⟩ hp
  clear hp
  have hl1 : ∀ l ∈ [[a]], l.length ≤ 140737488351232 := fun l hl => by rw [List.mem_singleton.1 hl]; show 1 ≤ _; omega
  conv => whnf
  refine ⟨show 1 ≤ 100000 by omega, ?_⟩
  conv => whnf
  refine ⟨hl1, ?_⟩
  conv => whnf
  refine cond_intro (fun hnd => ?_) (fun hnd => ?_)
  · have hnd : (!decide (nodesR n es [[a]] = 0)) = true := hnd
    have hnd : ¬ (nodesR n es [[a]] = 0) := fun e => absurd hnd (by rw [decide_eq_true e]; decide)
    conv => whnf
    show ([], nodesR n es [[a]]) = allsR n es a
    rw [allsR, if_pos hnd]
  have hnd : (!decide (nodesR n es [[a]] = 0)) = false := hnd
  have hnd : nodesR n es [[a]] = 0 := Decidable.byContradiction fun e => absurd hnd (by rw [decide_eq_false e]; decide)
  obtain ⟨hv, hnn⟩ := nodes_iff hnd
  have hes := valid_es hv
  obtain ⟨v1, v2', v3, _⟩ := valid_iff hv
  have ha : 0 ≤ a ∧ a < n := hnn [a] List.mem_cons_self a List.mem_cons_self
  have hta : ∀ k ∈ [a], 0 ≤ k ∧ k < n := fun k hk => by rw [List.mem_singleton.1 hk]; exact ha
  have hgl1 := graph_len n es
  have hgl2 := graph_len n (es.map turnR)
  have hml : (es.map turnR).length = es.length := List.length_map ..
  have hgo := graph_gok hes (by omega) v1
  conv => whnf
  refine ⟨show es.length ≤ 2000000 by omega, ?_⟩
  conv => whnf
  refine ⟨show 0 ≤ n ∧ n ≤ 100000 by omega, ?_⟩
  conv => whnf
  refine ⟨show (es.map turnR).length ≤ 2000000 by omega, ?_⟩
  conv => whnf
  refine ⟨show ∀ e ∈ es.map turnR, 0 ≤ e.1 ∧ e.1 < n from fun e he => (hes.turn.ok e he).1, ?_⟩
  conv => whnf
  refine ⟨show 0 ≤ n ∧ n ≤ 100000 by omega, ?_⟩
  conv => whnf
  refine ⟨show es.length ≤ 2000000 by omega, ?_⟩
  conv => whnf
  refine ⟨show ∀ e ∈ es, 0 ≤ e.1 ∧ e.1 < n from fun e he => (hes.ok e he).1, ?_⟩
  conv => whnf
  refine ⟨show (graphR n (es.map turnR)).length = (graphR n es).length ∧ (graphR n es).length ≤ 100000 by omega, ?_⟩
  conv => whnf
  refine ⟨show 1 ≤ 1000000000 by omega, ?_⟩
  conv => whnf
  refine ⟨show ∀ k ∈ [a], 0 ≤ k ∧ k < ((graphR n es).length : Int) from fun k hk => by have := hta k hk; omega, ?_⟩
  conv => whnf
  refine ⟨hgo, ?_⟩
  conv => whnf
  refine ⟨v1, ?_⟩
  conv => whnf
  refine ⟨Int.le_refl _, ?_⟩
  conv => whnf
  refine ⟨show n * 8 ≤ 70368744177664 by omega, ?_⟩
  conv => whnf
  refine ⟨show n ≤ 70368744177664 by omega, ?_⟩
  conv => whnf
  refine loop_rule (fun x : List Int × Int => S26 (toG (Re (es.map turnR)) (Tl [a]) n.toNat) x.1 x.2) (fun x => (n - x.2).toNat) (fun x => 0 ≤ x.2 ∧ x.2 ≤ n ∧ AllAt n.toNat (fun (k : Nat) => costOf (lpR (Re (es.map turnR)) (Tl [a]) (k : Int))) x.2.toNat x.1) ?_ (List.replicate n.toNat 0, 0) (by kernel_rfl) ?_ ⟨Int.le_refl _, v1, ⟨by simp, fun m _ hm => by simp at hm⟩⟩
  case refine_2 => exact Eq.trans (b := S26 (toG (Rb (graphR n es)) (Tl [a]) (graphR n es).length) (List.replicate n.toNat 0) 0) rfl (by rw [goals2_eq hes])
  rintro ⟨out, k⟩ ⟨k0, k1, hat⟩
  have k0 : 0 ≤ k := k0
  have k1 : k ≤ n := k1
  have hat : AllAt n.toNat (fun (k : Nat) => costOf (lpR (Re (es.map turnR)) (Tl [a]) (k : Int))) k.toNat out := hat
  have hlo := hat.lo
  have hgl : ((toG (Re (es.map turnR)) (Tl [a]) n.toNat).length : Int) = n := by rw [toG_len]; omega
  conv => whnf
  refine cond_intro (fun hlt => ?_) (fun hlt => ?_)
  · have hlt : k < ((toG (Re (es.map turnR)) (Tl [a]) n.toNat).length : Int) := @of_decide_eq_true _ _ hlt
    rw [hgl] at hlt
    have wk : IntKind.i64.wrap (k + 1) = k + 1 := wrap_eq (by omega) (by omega)
    have ek : (k + 1).toNat = k.toNat + 1 := by omega
    have hgk : (gG (toG (Re (es.map turnR)) (Tl [a]) n.toNat) k.toNat) = glOf (lpR (Re (es.map turnR)) (Tl [a]) ((k.toNat : Nat) : Int)) := toG_at (by omega)
    have kl : k < ((toG (Re (es.map turnR)) (Tl [a]) n.toNat).length : Int) := by rw [toG_len]; omega
    have ko : k < (out.length : Int) := by omega
    conv => whnf
    refine ⟨k0, ?_⟩
    conv => whnf
    refine ⟨kl, ?_⟩
    conv => whnf
    refine ⟨k0, ?_⟩
    conv => whnf
    refine ⟨ko, ?_⟩
    conv => whnf
    refine cond_intro (fun i1 => ?_) (fun i1 => ?_)
    · have i1 : ((gG (toG (Re (es.map turnR)) (Tl [a]) n.toNat) k.toNat).2.2) = true := i1
      obtain ⟨p, hp⟩ := glOf_is (by rw [← hgk]; exact i1)
      have ko2 : k < ((out.set k.toNat (-1)).length : Int) := by rw [List.length_set]; exact ko
      conv => whnf
      refine ⟨k0, ?_⟩
      conv => whnf
      refine ⟨ko2, ?_⟩
      conv => whnf
      refine ⟨((out.set k.toNat (-1)).set k.toNat (gG (toG (Re (es.map turnR)) (Tl [a]) n.toNat) k.toNat).1, k + 1), ?_, ⟨by show 0 ≤ k + 1; omega, by show k + 1 ≤ _; omega, ?_⟩, by show (n - (k + 1)).toNat < (n - k).toNat; omega⟩
      · exact Eq.trans (b := S26 (toG (Re (es.map turnR)) (Tl [a]) n.toNat) ((out.set k.toNat (-1)).set k.toNat (gG (toG (Re (es.map turnR)) (Tl [a]) n.toNat) k.toNat).1) (IntKind.i64.wrap (k + 1))) rfl (by rw [wk])
      · show AllAt _ _ (k + 1).toNat _
        rw [ek, List.set_set]
        refine hat.step (by omega) ?_
        rw [hgk, hp]
        rfl
    have i1 : ((gG (toG (Re (es.map turnR)) (Tl [a]) n.toNat) k.toNat).2.2) = false := i1
    conv => whnf
    refine ⟨(out.set k.toNat (-1), k + 1), ?_, ⟨by show 0 ≤ k + 1; omega, by show k + 1 ≤ _; omega, ?_⟩, by show (n - (k + 1)).toNat < (n - k).toNat; omega⟩
    · exact Eq.trans (b := S26 (toG (Re (es.map turnR)) (Tl [a]) n.toNat) (out.set k.toNat (-1)) (IntKind.i64.wrap (k + 1))) rfl (by rw [wk])
    · show AllAt _ _ (k + 1).toNat _
      rw [ek]
      refine hat.step (by omega) ?_
      show -1 = costOf _
      cases hp : lpR (Re (es.map turnR)) (Tl [a]) ((k.toNat : Nat) : Int) with
      | none => rfl
      | some p => rw [hgk, hp] at i1; cases i1
  have hlt : ¬ (k < ((toG (Re (es.map turnR)) (Tl [a]) n.toNat).length : Int)) := @of_decide_eq_false _ _ hlt
  rw [hgl] at hlt
  rw [show k.toNat = n.toNat by omega] at hat
  conv => whnf
  show (out, 0) = allsR n es a
  rw [allsR, if_neg (by simp [hnd]), hat.done]
def S27a (n a : Int) (es out : List Ed) (i : Int) : SL := ⟨[.int .i64 n] ++ List.replicate 1 .undef ++ [.int .i64 a] ++ List.replicate 6 .undef ++ [.own 0] ++ List.replicate 15 .undef ++ [.sl eT es] ++ [.int .i64 es.length] ++ [.int .i64 i] ++ List.replicate 31 .undef, [(0, .arr eT out)], 1⟩
def S27b (l : List Fa) (out : List Int) (k : Int) : SL := ⟨List.replicate 12 .undef ++ [.own 0] ++ List.replicate 33 .undef ++ [.own 1] ++ [.int .i64 l.length] ++ [.int .i64 k] ++ List.replicate 10 .undef, [(0, .arr I out), (1, .arr fT l)], 2⟩
def E27 : Env := ⟨tab, [(19, K19), (36, K36), (44, K44)], fun n => match n with | 8 => some ([0, 2, 9, 25, 26, 27], [(9, eT)], []) | 14 => some ([12, 46, 47, 48], [(12, I)], []) | _ => none⟩
def K27 : Fn1 := ⟨.fld I (.fld (.sl eT) (.one I)), .fld (.sl I) (.one I), fun _ => [], fun (a : Int × List Ed × Int) => allsR a.1 a.2.1 a.2.2⟩
set_option maxHeartbeats 4000000 in
theorem k27 : FnOk Go.Proofs.Try.prog 27 K27 := by
  refine fn_ok (E := E27) (TOk.of tab_told) (AllOk.cons k19 (.cons k36 (.cons k44 .nil))).at_ mix Go.Proofs.Try.func27 rfl rfl (by kernel_rfl) K27 ?_
  rintro ⟨(n : Int), (es : List Ed), (a : Int)⟩ hp
  clear hp
  conv => whnf
  refine cond_intro (fun hv => ?_) (fun hv => ?_)
  · have hv : (!decide (validR n es = 0)) = true := hv
    have hv : ¬ (validR n es = 0) := fun e => absurd hv (by rw [decide_eq_true e]; decide)
    have hnd : ¬ nodesR n es [[a]] = 0 := fun h => hv (nodes_iff h).1
    have hne : nodesR n es [[a]] = validR n es := by unfold nodesR; rw [if_pos hv]
    conv => whnf
    show ([], validR n es) = allsR n es a
    rw [allsR, if_pos hnd, hne]
  have hv : (!decide (validR n es = 0)) = false := hv
  have hv : validR n es = 0 := Decidable.byContradiction fun e => absurd hv (by rw [decide_eq_false e]; decide)
  conv => whnf
  refine cond_intro (fun hi => ?_) (fun hi => ?_)
  · have hi : (!(isR n a)) = true := hi
    have hi : (isR n a) = false := by cases e : (isR n a) with | false => rfl | true => exact absurd hi (by rw [e]; decide)
    have hne : nodesR n es [[a]] = 2 := by rw [nodes1 hv, if_neg (by rw [hi]; decide)]
    conv => whnf
    show ([], 2) = allsR n es a
    rw [allsR, hne, if_pos (by decide)]
  have hi : (!(isR n a)) = false := hi
  have hi : (isR n a) = true := by cases e : (isR n a) with | true => rfl | false => exact absurd hi (by rw [e]; decide)
  have hnd : nodesR n es [[a]] = 0 := by rw [nodes1 hv, if_pos hi]
  obtain ⟨hv, hnn⟩ := nodes_iff hnd
  have hes := valid_es hv
  obtain ⟨v1, v2', v3, _⟩ := valid_iff hv
  have ha : 0 ≤ a ∧ a < n := hnn [a] List.mem_cons_self a List.mem_cons_self
  have hta : ∀ k ∈ [a], 0 ≤ k ∧ k < n := fun k hk => by rw [List.mem_singleton.1 hk]; exact ha
  have hgl1 := graph_len n es
  have hgl2 := graph_len n (es.map turnR)
  have hml : (es.map turnR).length = es.length := List.length_map ..
  conv => whnf
  refine loop_rule (fun i => S27a n a es ((es.take i.toNat).map turnR) i) (fun i => ((es.length : Int) - i).toNat) (fun i => 0 ≤ i ∧ i ≤ es.length) ?_ 0 (by kernel_rfl) ?_ ⟨by omega, by omega⟩
  case refine_2 => rfl
  rintro i ⟨h0, i1⟩
  have hln : ((es.take i.toNat).map turnR).length = i.toNat := by rw [List.length_map, List.length_take]; omega
  conv => whnf
  refine cond_intro (fun hlt => ?_) (fun hlt => ?_)
  · have hlt : i < (es.length : Int) := @of_decide_eq_true _ _ hlt
    have wi : IntKind.i64.wrap (i + 1) = i + 1 := wrap_eq (by omega) (by omega)
    have ei : (i + 1).toNat = i.toNat + 1 := by omega
    conv => whnf
    refine ⟨h0, ?_⟩
    conv => whnf
    refine ⟨hlt, ?_⟩
    conv => whnf
    refine ⟨show (((es.take i.toNat).map turnR).length + 1) * 24 ≤ 70368744177664 by omega, ?_⟩
    conv => whnf
    refine ⟨show ((es.take i.toNat).map turnR).length + 1 ≤ 70368744177664 by omega, ?_⟩
    conv => whnf
    refine ⟨i + 1, ?_, ⟨by omega, by omega⟩, by omega⟩
    exact Eq.trans (b := S27a n a es (((es.take i.toNat).map turnR) ++ [turnR (gE es i.toNat)]) (IntKind.i64.wrap (i + 1))) rfl (by rw [wi, ei, map_take (gE es i.toNat) (by omega) (gE_eq (by omega))])
  have hlt : ¬ (i < (es.length : Int)) := @of_decide_eq_false _ _ hlt
  have ee : i.toNat = es.length := by omega
  have htk : ((es.take i.toNat).map turnR) = es.map turnR := by rw [ee, List.take_length]
  rw [htk]
  conv => whnf
  refine ⟨show 0 ≤ n ∧ n ≤ 100000 by omega, ?_⟩
  conv => whnf
  refine ⟨show (es.map turnR).length ≤ 2000000 by omega, ?_⟩
  conv => whnf
  refine ⟨hes.turn, ?_⟩
  conv => whnf
  refine ⟨show 1 ≤ 1000000000 by omega, ?_⟩
  conv => whnf
  refine ⟨hta, ?_⟩
  conv => whnf
  refine loop_rule (fun k => S27b (toF (Re (es.map turnR)) (Tl [a]) n.toNat) ((List.range k.toNat).map (fun (k : Nat) => costOf (lpR (Re (es.map turnR)) (Tl [a]) (k : Int)))) k) (fun k => (n - k).toNat) (fun k => 0 ≤ k ∧ k ≤ n) ?_ 0 (by kernel_rfl) ?_ ⟨Int.le_refl _, v1⟩
  case refine_2 => rfl
  rintro k ⟨k0, k1⟩
  have hfl : ((toF (Re (es.map turnR)) (Tl [a]) n.toNat).length : Int) = n := by rw [toF_len]; omega
  conv => whnf
  refine cond_intro (fun klt => ?_) (fun klt => ?_)
  · have klt : k < ((toF (Re (es.map turnR)) (Tl [a]) n.toNat).length : Int) := @of_decide_eq_true _ _ klt
    rw [hfl] at klt
    have wk : IntKind.i64.wrap (k + 1) = k + 1 := wrap_eq (by omega) (by omega)
    have ek : (k + 1).toNat = k.toNat + 1 := by omega
    have kl : k < ((toF (Re (es.map turnR)) (Tl [a]) n.toNat).length : Int) := by rw [toF_len]; omega
    have hgk : gF (toF (Re (es.map turnR)) (Tl [a]) n.toNat) k.toNat = faOf (lpR (Re (es.map turnR)) (Tl [a]) ((k.toNat : Nat) : Int)) := toF_at (by omega)
    have hlr : ((List.range k.toNat).map (fun (k : Nat) => costOf (lpR (Re (es.map turnR)) (Tl [a]) (k : Int)))).length = k.toNat := by simp
    conv => whnf
    refine ⟨k0, ?_⟩
    conv => whnf
    refine ⟨kl, ?_⟩
    conv => whnf
    refine ⟨show (((List.range k.toNat).map (fun (k : Nat) => costOf (lpR (Re (es.map turnR)) (Tl [a]) (k : Int)))).length + 1) * 8 ≤ 70368744177664 by omega, ?_⟩
    conv => whnf
    refine ⟨show ((List.range k.toNat).map (fun (k : Nat) => costOf (lpR (Re (es.map turnR)) (Tl [a]) (k : Int)))).length + 1 ≤ 70368744177664 by omega, ?_⟩
    conv => whnf
    refine ⟨k + 1, ?_, ⟨by omega, by omega⟩, by omega⟩
    exact Eq.trans (b := S27b (toF (Re (es.map turnR)) (Tl [a]) n.toNat) (((List.range k.toNat).map (fun (k : Nat) => costOf (lpR (Re (es.map turnR)) (Tl [a]) (k : Int)))) ++ [(gF (toF (Re (es.map turnR)) (Tl [a]) n.toNat) k.toNat).1]) (IntKind.i64.wrap (k + 1))) rfl (by
      rw [wk, ek, List.range_succ, List.map_append, hgk]
      congr 2
      show [_] = [costOf _]
      cases lpR (Re (es.map turnR)) (Tl [a]) ((k.toNat : Nat) : Int) <;> rfl)
  have klt : ¬ (k < ((toF (Re (es.map turnR)) (Tl [a]) n.toNat).length : Int)) := @of_decide_eq_false _ _ klt
  rw [hfl] at klt
  rw [show k.toNat = n.toNat by omega]
  conv => whnf
  show ((List.range n.toNat).map (fun (k : Nat) => costOf (lpR (Re (es.map turnR)) (Tl [a]) (k : Int))), 0) = allsR n es a
  rw [allsR, if_neg (by simp [hnd])]
theorem alls_len (n : Int) (es : List Ed) (a : Int) : (allsR n es a).1.length ≤ 1000000 := by
  unfold allsR
  split
  · simp
  · rename_i hn
    obtain ⟨hv, _⟩ := nodes_iff (Decidable.not_not.1 hn)
    have := valid_iff hv
    show (List.map _ _).length ≤ _
    rw [List.length_map, List.length_range]
    omega
def E7 : Env := ⟨tab, [(16, K16), (17, K17), (26, K26), (27, K27), (22, K22)], ann0⟩
def K7 : Fn1 := ⟨.fld I (.fld (.sl eT) (.one I)), .one .bool, fun _ => [], fun _ => true⟩
theorem k7 : FnOk Go.Proofs.Try.prog 7 K7 := by
  refine fn_ok (E := E7) (TOk.of tab_told) (AllOk.cons k16 (.cons k17 (.cons k26 (.cons k27 (.cons k22 .nil))))).at_ mix Go.Proofs.Try.func7 rfl rfl (by kernel_rfl) K7 ?_
  rintro ⟨(n : Int), (es : List Ed), (a : Int)⟩ hp
  clear hp
  conv => whnf
  refine ⟨show 0 ≤ 100000 by omega, ?_⟩
  conv => whnf
  refine cond_intro (fun hlg => ?_) (fun hlg => ?_)
  · have hlg : (largeR es []) = true := hlg
    conv => whnf
    show true = true
    rfl
  have hlg : (largeR es []) = false := hlg
  conv => whnf
  refine cond_intro (fun q1 => ?_) (fun q1 => ?_)
  · have q1 : (allsR n es a).2 = (allsR n es a).2 := @of_decide_eq_true _ _ q1
    have hll := alls_len n es a
    conv => whnf
    refine ⟨show (allsR n es a).1.length ≤ 1000000000 by omega, ?_⟩
    conv => whnf
    refine cond_intro (fun q5 => ?_) (fun q5 => ?_)
    · have q5 : (eqI (allsR n es a).1 (allsR n es a).1) = true := q5
      conv => whnf
      show true = true
      rfl
    have q5 : (eqI (allsR n es a).1 (allsR n es a).1) = false := q5
    exact absurd q5 (by unfold eqI; rw [decide_eq_true rfl]; decide)
  have q1 : ¬ ((allsR n es a).2 = (allsR n es a).2) := @of_decide_eq_false _ _ q1
  exact absurd rfl q1
end
end Go.Proofs.Ythgclbohlcgdgaa.Eng
set_option linter.unusedVariables false
set_option linter.unusedSimpArgs false
namespace Go.Proofs.Ythgclbohlcgdgaa.Eng
open Go
set_option maxRecDepth 100000
noncomputable section
def gOk (g : Int) : Bool := decide (0 ≤ g) && decide (g ≤ 1000000)
def guessR (n : Int) (es : List Ed) (g l : List Int) : Int := if ¬ nodesR n es [l] = 0 then nodesR n es [l] else if ¬ (g.length : Int) = n then 8 else if g.all gOk = true then 0 else 1
theorem gOk_iff {g : Int} : gOk g = true ↔ 0 ≤ g ∧ g ≤ 1000000 := by simp [gOk]
theorem guess_bad {n : Int} {es : List Ed} {g l : List Int} {x : Int} (h1 : nodesR n es [l] = 0) (h2 : (g.length : Int) = n) (hx : x ∈ g) (hb : ¬ (0 ≤ x ∧ x ≤ 1000000)) : guessR n es g l = 1 := by
  have : gOk x = false := by cases h : gOk x; rfl; exact absurd (gOk_iff.1 h) hb
  rw [guessR, if_neg (by simp [h1]), if_neg (by simp [h2]), if_neg (by rw [all_not hx this]; decide)]
theorem guess_ok {n : Int} {es : List Ed} {g l : List Int} (h1 : nodesR n es [l] = 0) (h2 : (g.length : Int) = n) (h : ∀ k, k < g.length → 0 ≤ gI g k ∧ gI g k ≤ 1000000) : guessR n es g l = 0 := by
  rw [guessR, if_neg (by simp [h1]), if_neg (by simp [h2]), if_pos (all_take (gI g) (fun n h => gI_eq h) fun k hk => gOk_iff.2 (h k hk))]
theorem guess_iff {n : Int} {es : List Ed} {g l : List Int} (h : guessR n es g l = 0) : nodesR n es [l] = 0 ∧ (g.length : Int) = n ∧ ∀ k, k < g.length → 0 ≤ gI g k ∧ gI g k ≤ 1000000 := by
  unfold guessR at h
  split at h
  · rename_i a; exact absurd h a
  · rename_i a
    split at h
    · cases h
    · rename_i b
      split at h
      · rename_i c
        exact ⟨Decidable.not_not.1 a, Decidable.not_not.1 b, fun k hk => gOk_iff.1 (List.all_eq_true.1 c _ (gI_mem hk))⟩
      · cases h
theorem nodesL {n : Int} {es : List Ed} {l : List Int} (hv : validR n es = 0) : nodesR n es [l] = if allR n l = true then 0 else 2 := by
  unfold nodesR
  rw [if_neg (by simp [hv])]
  simp
def soundE (g : List Int) (e : Ed) : Bool := decide (gI g e.1.toNat ≤ e.2.2 + gI g e.2.1.toNat)
def soundR (n : Int) (es : List Ed) (to : Int) (g : List Int) : Bool × Int := if ¬ guessR n es g [to] = 0 then (false, guessR n es g [to]) else if es.all (soundE g) = true then (decide (gI g to.toNat ≤ 0), 0) else (false, 0)
def S46 (g : List Int) (i : Int) : SL := ⟨List.replicate 24 .undef ++ [.sl I g] ++ [.int .i64 g.length] ++ [.int .i64 i] ++ List.replicate 10 .undef, [], 0⟩
def E46 : Env := ⟨tab, [(37, K37)], fun n => match n with | 7 => some ([24, 25, 26], [], []) | _ => none⟩
def K46 : Fn1 := ⟨.fld I (.fld (.sl eT) (.fld (.sl I) (.one (.sl I)))), .one I, fun (a : Int × List Ed × List Int × List Int) => [a.2.2.1.length ≤ 1000000000, a.2.2.2.length ≤ 1000000000], fun (a : Int × List Ed × List Int × List Int) => guessR a.1 a.2.1 a.2.2.1 a.2.2.2⟩
theorem k46 : FnOk Go.Proofs.Try.prog 46 K46 := by
  refine fn_ok (E := E46) (TOk.of tab_told) (AllOk.cons k37 .nil).at_ mix Go.Proofs.Try.func46 rfl rfl (by kernel_rfl) K46 ?_
  rintro ⟨(n : Int), (es : List Ed), (g : List Int), (l : List Int)⟩ hp
  have hgl0 : g.length ≤ 1000000000 := hp _ (List.mem_cons_self ..)
  have hll : l.length ≤ 1000000000 := hp _ (List.mem_cons_of_mem _ (List.mem_cons_self ..))
  clear hp
  have hl1 : ∀ q ∈ [l], q.length ≤ 140737488351232 := fun q hq => by rw [List.mem_singleton.1 hq]; omega
  conv => whnf
  refine ⟨show 1 ≤ 100000 by omega, ?_⟩
  conv => whnf
  refine ⟨hl1, ?_⟩
  conv => whnf
  refine cond_intro (fun hnd => ?_) (fun hnd => ?_)
  · have hnd : (!decide (nodesR n es [l] = 0)) = true := hnd
    have hnd : ¬ (nodesR n es [l] = 0) := fun e => absurd hnd (by rw [decide_eq_true e]; decide)
    conv => whnf
    show nodesR n es [l] = guessR n es g l
    rw [guessR, if_pos hnd]
  have hnd : (!decide (nodesR n es [l] = 0)) = false := hnd
  have hnd : nodesR n es [l] = 0 := Decidable.byContradiction fun e => absurd hnd (by rw [decide_eq_false e]; decide)
  conv => whnf
  refine cond_intro (fun hgl => ?_) (fun hgl => ?_)
  · have hgl : (!decide ((g.length : Int) = n)) = true := hgl
    have hgl : ¬ ((g.length : Int) = n) := fun e => absurd hgl (by rw [decide_eq_true e]; decide)
    conv => whnf
    show (8 : Int) = guessR n es g l
    rw [guessR, if_neg (by simp [hnd]), if_pos hgl]
  have hgl : (!decide ((g.length : Int) = n)) = false := hgl
  have hgl : (g.length : Int) = n := Decidable.byContradiction fun e => absurd hgl (by rw [decide_eq_false e]; decide)
  conv => whnf
  refine loop_rule (S46 g) (fun i => ((g.length : Int) - i).toNat) (fun i => 0 ≤ i ∧ i ≤ g.length ∧ ∀ k, k < i.toNat → 0 ≤ gI g k ∧ gI g k ≤ 1000000) ?_ 0 (by kernel_rfl) ?_ ⟨by omega, by omega, fun k hk => by simp at hk⟩
  case refine_2 => rfl
  rintro i ⟨h0, i1, hin⟩
  conv => whnf
  refine cond_intro (fun hlt => ?_) (fun hlt => ?_)
  · have hlt : i < (g.length : Int) := @of_decide_eq_true _ _ hlt
    have wi : IntKind.i64.wrap (i + 1) = i + 1 := wrap_eq (by omega) (by omega)
    have ei : (i + 1).toNat = i.toNat + 1 := by omega
    conv => whnf
    refine ⟨h0, ?_⟩
    conv => whnf
    refine ⟨hlt, ?_⟩
    conv => whnf
    refine cond_intro (fun c1 => ?_) (fun c1 => ?_)
    · have c1 : (gI g i.toNat) < 0 := @of_decide_eq_true _ _ c1
      conv => whnf
      show (1 : Int) = guessR n es g l
      rw [guess_bad hnd hgl (gI_mem (n := i.toNat) (l := g) (by omega)) (fun h => by omega)]
    have c1 : ¬ ((gI g i.toNat) < 0) := @of_decide_eq_false _ _ c1
    conv => whnf
    refine cond_intro (fun c2 => ?_) (fun c2 => ?_)
    · have c2 : 1000000 < (gI g i.toNat) := @of_decide_eq_true _ _ c2
      conv => whnf
      show (1 : Int) = guessR n es g l
      rw [guess_bad hnd hgl (gI_mem (n := i.toNat) (l := g) (by omega)) (fun h => by omega)]
    have c2 : ¬ (1000000 < (gI g i.toNat)) := @of_decide_eq_false _ _ c2
    conv => whnf
    refine ⟨i + 1, ?_, ⟨by omega, by omega, fun k hk => ?_⟩, by omega⟩
    · exact Eq.trans (b := S46 g (IntKind.i64.wrap (i + 1))) rfl (by rw [wi])
    · rw [ei] at hk
      rcases Nat.lt_or_eq_of_le (Nat.le_of_lt_succ hk) with g' | g'
      · exact hin k g'
      · subst g'; exact ⟨by omega, by omega⟩
  have hlt : ¬ (i < (g.length : Int)) := @of_decide_eq_false _ _ hlt
  conv => whnf
  show (0 : Int) = guessR n es g l
  rw [guess_ok hnd hgl fun k hk => hin k (by omega)]
def S47 (g : List Int) (i : Int) : SL := ⟨List.replicate 26 .undef ++ [.sl I g] ++ [.int .i64 g.length] ++ [.int .i64 i] ++ List.replicate 10 .undef, [], 0⟩
def E47 : Env := ⟨tab, [(19, K19), (43, K43)], fun n => match n with | 9 => some ([26, 27, 28], [], []) | _ => none⟩
def K47 : Fn1 := ⟨.fld I (.fld (.sl eT) (.fld (.sl I) (.one (.sl I)))), .one I, fun (a : Int × List Ed × List Int × List Int) => [a.2.2.2.length ≤ 1000000000, a.2.2.1.length ≤ 1000000000], fun (a : Int × List Ed × List Int × List Int) => guessR a.1 a.2.1 a.2.2.2 a.2.2.1⟩
theorem k47 : FnOk Go.Proofs.Try.prog 47 K47 := by
  refine fn_ok (E := E47) (TOk.of tab_told) (AllOk.cons k19 (.cons k43 .nil)).at_ mix Go.Proofs.Try.func47 rfl rfl (by kernel_rfl) K47 ?_
  rintro ⟨(n : Int), (es : List Ed), (l : List Int), (g : List Int)⟩ hp
  have hgl0 : g.length ≤ 1000000000 := hp _ (List.mem_cons_self ..)
  have hll : l.length ≤ 1000000000 := hp _ (List.mem_cons_of_mem _ (List.mem_cons_self ..))
  clear hp
  conv => whnf
  refine cond_intro (fun hv => ?_) (fun hv => ?_)
  · have hv : (!decide (validR n es = 0)) = true := hv
    have hv : ¬ (validR n es = 0) := fun e => absurd hv (by rw [decide_eq_true e]; decide)
    have hnd : ¬ nodesR n es [l] = 0 := fun h => hv (nodes_iff h).1
    have hne : nodesR n es [l] = validR n es := by unfold nodesR; rw [if_pos hv]
    conv => whnf
    show validR n es = guessR n es g l
    rw [guessR, if_pos hnd, hne]
  have hv : (!decide (validR n es = 0)) = false := hv
  have hv : validR n es = 0 := Decidable.byContradiction fun e => absurd hv (by rw [decide_eq_false e]; decide)
  conv => whnf
  refine ⟨show l.length ≤ 140737488351232 by omega, ?_⟩
  conv => whnf
  refine cond_intro (fun ha => ?_) (fun ha => ?_)
  · have ha : (!(allR n l)) = true := ha
    have ha : (allR n l) = false := by cases e : (allR n l) with | false => rfl | true => exact absurd ha (by rw [e]; decide)
    have hne : nodesR n es [l] = 2 := by rw [nodesL hv, if_neg (by rw [ha]; decide)]
    conv => whnf
    show (2 : Int) = guessR n es g l
    rw [guessR, hne, if_pos (by decide)]
  have ha : (!(allR n l)) = false := ha
  have ha : (allR n l) = true := by cases e : (allR n l) with | true => rfl | false => exact absurd ha (by rw [e]; decide)
  have hnd : nodesR n es [l] = 0 := by rw [nodesL hv, if_pos ha]
  conv => whnf
  refine cond_intro (fun hgl => ?_) (fun hgl => ?_)
  · have hgl : (!decide ((g.length : Int) = n)) = true := hgl
    have hgl : ¬ ((g.length : Int) = n) := fun e => absurd hgl (by rw [decide_eq_true e]; decide)
    conv => whnf
    show (8 : Int) = guessR n es g l
    rw [guessR, if_neg (by simp [hnd]), if_pos hgl]
  have hgl : (!decide ((g.length : Int) = n)) = false := hgl
  have hgl : (g.length : Int) = n := Decidable.byContradiction fun e => absurd hgl (by rw [decide_eq_false e]; decide)
  conv => whnf
  refine loop_rule (S47 g) (fun i => ((g.length : Int) - i).toNat) (fun i => 0 ≤ i ∧ i ≤ g.length ∧ ∀ k, k < i.toNat → 0 ≤ gI g k ∧ gI g k ≤ 1000000) ?_ 0 (by kernel_rfl) ?_ ⟨by omega, by omega, fun k hk => by simp at hk⟩
  case refine_2 => rfl
  rintro i ⟨h0, i1, hin⟩
  conv => whnf
  refine cond_intro (fun hlt => ?_) (fun hlt => ?_)
  · have hlt : i < (g.length : Int) := @of_decide_eq_true _ _ hlt
    have wi : IntKind.i64.wrap (i + 1) = i + 1 := wrap_eq (by omega) (by omega)
    have ei : (i + 1).toNat = i.toNat + 1 := by omega
    conv => whnf
    refine ⟨h0, ?_⟩
    conv => whnf
    refine ⟨hlt, ?_⟩
    conv => whnf
    refine cond_intro (fun c1 => ?_) (fun c1 => ?_)
    · have c1 : (gI g i.toNat) < 0 := @of_decide_eq_true _ _ c1
      conv => whnf
      show (1 : Int) = guessR n es g l
      rw [guess_bad hnd hgl (gI_mem (n := i.toNat) (l := g) (by omega)) (fun h => by omega)]
    have c1 : ¬ ((gI g i.toNat) < 0) := @of_decide_eq_false _ _ c1
    conv => whnf
    refine cond_intro (fun c2 => ?_) (fun c2 => ?_)
    · have c2 : 1000000 < (gI g i.toNat) := @of_decide_eq_true _ _ c2
      conv => whnf
      show (1 : Int) = guessR n es g l
      rw [guess_bad hnd hgl (gI_mem (n := i.toNat) (l := g) (by omega)) (fun h => by omega)]
    have c2 : ¬ (1000000 < (gI g i.toNat)) := @of_decide_eq_false _ _ c2
    conv => whnf
    refine ⟨i + 1, ?_, ⟨by omega, by omega, fun k hk => ?_⟩, by omega⟩
    · exact Eq.trans (b := S47 g (IntKind.i64.wrap (i + 1))) rfl (by rw [wi])
    · rw [ei] at hk
      rcases Nat.lt_or_eq_of_le (Nat.le_of_lt_succ hk) with g' | g'
      · exact hin k g'
      · subst g'; exact ⟨by omega, by omega⟩
  have hlt : ¬ (i < (g.length : Int)) := @of_decide_eq_false _ _ hlt
  conv => whnf
  show (0 : Int) = guessR n es g l
  rw [guess_ok hnd hgl fun k hk => hin k (by omega)]
def S28 (g : List Int) (to : Int) (es : List Ed) (i : Int) : SL := ⟨List.replicate 2 .undef ++ [.int .i64 to] ++ [.sl I g] ++ List.replicate 18 .undef ++ [.sl eT es] ++ [.int .i64 es.length] ++ [.int .i64 i] ++ List.replicate 23 .undef, [], 0⟩
def E28 : Env := ⟨tab, [(46, K46)], fun n => match n with | 5 => some ([2, 3, 22, 23, 24], [], []) | _ => none⟩
def K28 : Fn1 := ⟨.fld I (.fld (.sl eT) (.fld I (.one (.sl I)))), .fld .bool (.one I), fun (a : Int × List Ed × Int × List Int) => [a.2.2.2.length ≤ 1000000000], fun (a : Int × List Ed × Int × List Int) => soundR a.1 a.2.1 a.2.2.1 a.2.2.2⟩
theorem k28 : FnOk Go.Proofs.Try.prog 28 K28 := by
  refine fn_ok (E := E28) (TOk.of tab_told) (AllOk.cons k46 .nil).at_ mix Go.Proofs.Try.func28 rfl rfl (by kernel_rfl) K28 ?_
  rintro ⟨(n : Int), (es : List Ed), (to : Int), (g : List Int)⟩ hp
  have hgl0 : g.length ≤ 1000000000 := hp _ (List.mem_cons_self ..)
  clear hp
  conv => whnf
  refine ⟨show g.length ≤ 1000000000 by omega, ?_⟩
  conv => whnf
  refine ⟨show 1 ≤ 1000000000 by omega, ?_⟩
  conv => whnf
  refine cond_intro (fun hgs => ?_) (fun hgs => ?_)
  · have hgs : (!decide (guessR n es g [to] = 0)) = true := hgs
    have hgs : ¬ (guessR n es g [to] = 0) := fun e => absurd hgs (by rw [decide_eq_true e]; decide)
    conv => whnf
    show (false, guessR n es g [to]) = soundR n es to g
    rw [soundR, if_pos hgs]
  have hgs : (!decide (guessR n es g [to] = 0)) = false := hgs
  have hgs : guessR n es g [to] = 0 := Decidable.byContradiction fun e => absurd hgs (by rw [decide_eq_false e]; decide)
  obtain ⟨hnd, hgl, hgo⟩ := guess_iff hgs
  obtain ⟨hv, hnn⟩ := nodes_iff hnd
  have hes := valid_es hv
  obtain ⟨v1, v2, v3, _⟩ := valid_iff hv
  have hto : 0 ≤ to ∧ to < n := hnn [to] List.mem_cons_self to List.mem_cons_self
  conv => whnf
  refine loop_rule (S28 g to es) (fun i => ((es.length : Int) - i).toNat) (fun i => 0 ≤ i ∧ i ≤ es.length ∧ ∀ k, k < i.toNat → soundE g (gE es k) = true) ?_ 0 (by kernel_rfl) ?_ ⟨by omega, by omega, fun k hk => by simp at hk⟩
  case refine_2 => rfl
  rintro i ⟨h0, i1, hin⟩
  conv => whnf
  refine cond_intro (fun hlt => ?_) (fun hlt => ?_)
  · have hlt : i < (es.length : Int) := @of_decide_eq_true _ _ hlt
    have wi : IntKind.i64.wrap (i + 1) = i + 1 := wrap_eq (by omega) (by omega)
    have ei : (i + 1).toNat = i.toNat + 1 := by omega
    have hee := hes.ok _ (gE_mem (n := i.toNat) (l := es) (by omega))
    have g1 := hgo (gE es i.toNat).1.toNat (by omega)
    have g2 := hgo (gE es i.toNat).2.1.toNat (by omega)
    have ws : IntKind.i64.wrap ((gE es i.toNat).2.2 + gI g (gE es i.toNat).2.1.toNat) = (gE es i.toNat).2.2 + gI g (gE es i.toNat).2.1.toNat := wrap_eq (by omega) (by omega)
    have f1 : (gE es i.toNat).1 < (g.length : Int) := by omega
    have f2 : (gE es i.toNat).2.1 < (g.length : Int) := by omega
    conv => whnf
    refine ⟨h0, ?_⟩
    conv => whnf
    refine ⟨hlt, ?_⟩
    conv => whnf
    refine ⟨hee.1.1, ?_⟩
    conv => whnf
    refine ⟨f1, ?_⟩
    conv => whnf
    refine ⟨hee.2.1.1, ?_⟩
    conv => whnf
    refine ⟨f2, ?_⟩
    conv => whnf
    refine cond_intro (fun c1 => ?_) (fun c1 => ?_)
    · have c1 : IntKind.i64.wrap ((gE es i.toNat).2.2 + gI g (gE es i.toNat).2.1.toNat) < gI g (gE es i.toNat).1.toNat := @of_decide_eq_true _ _ c1
      rw [ws] at c1
      conv => whnf
      show (false, 0) = soundR n es to g
      rw [soundR, if_neg (by simp [hgs]), if_neg (by rw [all_not (x := (gE es i.toNat)) (gE_mem (by omega)) (decide_eq_false (by omega))]; decide)]
    have c1 : ¬ (IntKind.i64.wrap ((gE es i.toNat).2.2 + gI g (gE es i.toNat).2.1.toNat) < gI g (gE es i.toNat).1.toNat) := @of_decide_eq_false _ _ c1
    rw [ws] at c1
    conv => whnf
    refine ⟨i + 1, ?_, ⟨by omega, by omega, fun k hk => ?_⟩, by omega⟩
    · exact Eq.trans (b := S28 g to es (IntKind.i64.wrap (i + 1))) rfl (by rw [wi])
    · rw [ei] at hk
      rcases Nat.lt_or_eq_of_le (Nat.le_of_lt_succ hk) with g' | g'
      · exact hin k g'
      · subst g'; exact decide_eq_true (by omega)
  have hlt : ¬ (i < (es.length : Int)) := @of_decide_eq_false _ _ hlt
  have hto2 := hgo to.toNat (by omega)
  conv => whnf
  refine ⟨hto.1, ?_⟩
  conv => whnf
  refine ⟨show to < (g.length : Int) by omega, ?_⟩
  conv => whnf
  show (decide (gI g to.toNat ≤ 0), 0) = soundR n es to g
  rw [soundR, if_neg (by simp [hgs]), if_pos (all_take (gE es) (fun n h => gE_eq h) fun k hk => hin k (by omega))]
def S29 (g : List Int) (to : Int) (es : List Ed) (i : Int) : SL := ⟨List.replicate 2 .undef ++ [.int .i64 to] ++ [.sl I g] ++ List.replicate 18 .undef ++ [.sl eT es] ++ [.int .i64 es.length] ++ [.int .i64 i] ++ List.replicate 23 .undef, [], 0⟩
def E29 : Env := ⟨tab, [(47, K47)], fun n => match n with | 5 => some ([2, 3, 22, 23, 24], [], []) | _ => none⟩
def K29 : Fn1 := ⟨.fld I (.fld (.sl eT) (.fld I (.one (.sl I)))), .fld .bool (.one I), fun (a : Int × List Ed × Int × List Int) => [a.2.2.2.length ≤ 1000000000], fun (a : Int × List Ed × Int × List Int) => soundR a.1 a.2.1 a.2.2.1 a.2.2.2⟩
theorem k29 : FnOk Go.Proofs.Try.prog 29 K29 := by
  refine fn_ok (E := E29) (TOk.of tab_told) (AllOk.cons k47 .nil).at_ mix Go.Proofs.Try.func29 rfl rfl (by kernel_rfl) K29 ?_
  rintro ⟨(n : Int), (es : List Ed), (to : Int), (g : List Int)⟩ hp
  have hgl0 : g.length ≤ 1000000000 := hp _ (List.mem_cons_self ..)
  clear hp
  conv => whnf
  refine ⟨show g.length ≤ 1000000000 by omega, ?_⟩
  conv => whnf
  refine ⟨show 1 ≤ 1000000000 by omega, ?_⟩
  conv => whnf
  refine cond_intro (fun hgs => ?_) (fun hgs => ?_)
  · have hgs : (!decide (guessR n es g [to] = 0)) = true := hgs
    have hgs : ¬ (guessR n es g [to] = 0) := fun e => absurd hgs (by rw [decide_eq_true e]; decide)
    conv => whnf
    show (false, guessR n es g [to]) = soundR n es to g
    rw [soundR, if_pos hgs]
  have hgs : (!decide (guessR n es g [to] = 0)) = false := hgs
  have hgs : guessR n es g [to] = 0 := Decidable.byContradiction fun e => absurd hgs (by rw [decide_eq_false e]; decide)
  obtain ⟨hnd, hgl, hgo⟩ := guess_iff hgs
  obtain ⟨hv, hnn⟩ := nodes_iff hnd
  have hes := valid_es hv
  obtain ⟨v1, v2, v3, _⟩ := valid_iff hv
  have hto : 0 ≤ to ∧ to < n := hnn [to] List.mem_cons_self to List.mem_cons_self
  conv => whnf
  refine loop_rule (S29 g to es) (fun i => ((es.length : Int) - i).toNat) (fun i => 0 ≤ i ∧ i ≤ es.length ∧ ∀ k, k < i.toNat → soundE g (gE es k) = true) ?_ 0 (by kernel_rfl) ?_ ⟨by omega, by omega, fun k hk => by simp at hk⟩
  case refine_2 => rfl
  rintro i ⟨h0, i1, hin⟩
  conv => whnf
  refine cond_intro (fun hlt => ?_) (fun hlt => ?_)
  · have hlt : i < (es.length : Int) := @of_decide_eq_true _ _ hlt
    have wi : IntKind.i64.wrap (i + 1) = i + 1 := wrap_eq (by omega) (by omega)
    have ei : (i + 1).toNat = i.toNat + 1 := by omega
    have hee := hes.ok _ (gE_mem (n := i.toNat) (l := es) (by omega))
    have g1 := hgo (gE es i.toNat).1.toNat (by omega)
    have g2 := hgo (gE es i.toNat).2.1.toNat (by omega)
    have ws : IntKind.i64.wrap ((gE es i.toNat).2.2 + gI g (gE es i.toNat).2.1.toNat) = (gE es i.toNat).2.2 + gI g (gE es i.toNat).2.1.toNat := wrap_eq (by omega) (by omega)
    have f1 : (gE es i.toNat).1 < (g.length : Int) := by omega
    have f2 : (gE es i.toNat).2.1 < (g.length : Int) := by omega
    conv => whnf
    refine ⟨h0, ?_⟩
    conv => whnf
    refine ⟨hlt, ?_⟩
    conv => whnf
    refine ⟨hee.1.1, ?_⟩
    conv => whnf
    refine ⟨f1, ?_⟩
    conv => whnf
    refine ⟨hee.2.1.1, ?_⟩
    conv => whnf
    refine ⟨f2, ?_⟩
    conv => whnf
    refine cond_intro (fun c1 => ?_) (fun c1 => ?_)
    · have c1 : IntKind.i64.wrap ((gE es i.toNat).2.2 + gI g (gE es i.toNat).2.1.toNat) < gI g (gE es i.toNat).1.toNat := @of_decide_eq_true _ _ c1
      rw [ws] at c1
      conv => whnf
      show (false, 0) = soundR n es to g
      rw [soundR, if_neg (by simp [hgs]), if_neg (by rw [all_not (x := (gE es i.toNat)) (gE_mem (by omega)) (decide_eq_false (by omega))]; decide)]
    have c1 : ¬ (IntKind.i64.wrap ((gE es i.toNat).2.2 + gI g (gE es i.toNat).2.1.toNat) < gI g (gE es i.toNat).1.toNat) := @of_decide_eq_false _ _ c1
    rw [ws] at c1
    conv => whnf
    refine ⟨i + 1, ?_, ⟨by omega, by omega, fun k hk => ?_⟩, by omega⟩
    · exact Eq.trans (b := S29 g to es (IntKind.i64.wrap (i + 1))) rfl (by rw [wi])
    · rw [ei] at hk
      rcases Nat.lt_or_eq_of_le (Nat.le_of_lt_succ hk) with g' | g'
      · exact hin k g'
      · subst g'; exact decide_eq_true (by omega)
  have hlt : ¬ (i < (es.length : Int)) := @of_decide_eq_false _ _ hlt
  have hto2 := hgo to.toNat (by omega)
  conv => whnf
  refine ⟨hto.1, ?_⟩
  conv => whnf
  refine ⟨show to < (g.length : Int) by omega, ?_⟩
  conv => whnf
  show (decide (gI g to.toNat = 0), 0) = soundR n es to g
  rw [soundR, if_neg (by simp [hgs]), if_pos (all_take (gE es) (fun n h => gE_eq h) fun k hk => hin k (by omega))]
  have e : decide (gI g to.toNat = 0) = decide (gI g to.toNat ≤ 0) := by
    rw [Bool.eq_iff_iff, decide_eq_true_iff, decide_eq_true_iff]
    omega
  rw [e]
def E9 : Env := ⟨tab, [(16, K16), (17, K17), (28, K28), (29, K29)], ann0⟩
def K9 : Fn1 := ⟨.fld I (.fld (.sl eT) (.fld I (.one (.sl I)))), .one .bool, fun _ => [], fun _ => true⟩
theorem k9 : FnOk Go.Proofs.Try.prog 9 K9 := by
  refine fn_ok (E := E9) (TOk.of tab_told) (AllOk.cons k16 (.cons k17 (.cons k28 (.cons k29 .nil)))).at_ mix Go.Proofs.Try.func9 rfl rfl (by kernel_rfl) K9 ?_
  rintro ⟨(n : Int), (es : List Ed), (to : Int), (g : List Int)⟩ hp
  clear hp
  conv => whnf
  refine ⟨show 1 ≤ 100000 by omega, ?_⟩
  conv => whnf
  refine cond_intro (fun hlg => ?_) (fun hlg => ?_)
  · have hlg : (largeR es [g]) = true := hlg
    conv => whnf
    show true = true
    rfl
  have hlg : (largeR es [g]) = false := hlg
  have hl2 : g.length ≤ 5000 := (large_no hlg).2 g List.mem_cons_self
  conv => whnf
  refine ⟨show g.length ≤ 1000000000 by omega, ?_⟩
  conv => whnf
  refine ⟨show g.length ≤ 1000000000 by omega, ?_⟩
  conv => whnf
  refine cond_intro (fun q1 => ?_) (fun q1 => ?_)
  · have q1 : (((soundR n es to g).1 == (soundR n es to g).1)) = true := q1
    conv => whnf
    refine cond_intro (fun q2 => ?_) (fun q2 => ?_)
    · have q2 : (soundR n es to g).2 = (soundR n es to g).2 := @of_decide_eq_true _ _ q2
      conv => whnf
      show true = true
      rfl
    have q2 : ¬ ((soundR n es to g).2 = (soundR n es to g).2) := @of_decide_eq_false _ _ q2
    exact absurd rfl q2
  have q1 : (((soundR n es to g).1 == (soundR n es to g).1)) = false := q1
  exact absurd q1 (by rw [beq_self_eq_true]; decide)
end
end Go.Proofs.Ythgclbohlcgdgaa.Eng
set_option linter.unusedVariables false
set_option linter.unusedSimpArgs false
namespace Go.Proofs.Ythgclbohlcgdgaa.Eng
open Go
set_option maxRecDepth 100000
noncomputable section
/-- What is reached from a node. -/
inductive Rch (R : Rel) (a : Int) : Int → Prop where
  | refl : Rch R a a
  | step {k q w : Int} (h : Rch R a k) (hr : R k q w) : Rch R a q
def Rw (g : List (List Ed)) : Rel := fun k q w => 0 ≤ k ∧ ∃ e ∈ gEs g k.toNat, e.2.1 = q ∧ e.2.2 = w
open Classical in
def rcB (R : Rel) (a k : Int) : Bool := if Rch R a k then true else false
theorem rcB_iff {R : Rel} {a k : Int} : rcB R a k = true ↔ Rch R a k := by
  unfold rcB
  split
  · rename_i h; exact ⟨fun _ => h, fun _ => rfl⟩
  · rename_i h; exact ⟨fun e => (by cases e), fun e => absurd e h⟩
def reachL (g : List (List Ed)) (a : Int) : List Bool := (List.range g.length).map fun (k : Nat) => rcB (Rw g) a (k : Int)
structure Bfs (g : List (List Ed)) (a : Int) (out : List Bool) (qu : List Int) (ex : Int → Prop) : Prop where
  lo : out.length = g.length
  st : gB out a.toNat = true
  rc : ∀ k : Nat, k < g.length → gB out k = true → Rch (Rw g) a (k : Int)
  inq : ∀ q ∈ qu, (0 ≤ q ∧ q < (g.length : Int)) ∧ gB out q.toNat = true
  cl : ∀ k : Nat, k < g.length → gB out k = true → (k : Int) ∈ qu ∨ ex (k : Int) ∨ ∀ e ∈ gEs g k, gB out e.2.1.toNat = true
  sz : 2 * out.count false + qu.length ≤ 2 * g.length + 1
theorem count_set_false {l : List Bool} {k : Nat} (h : k < l.length) (hk : gB l k = false) : (l.set k true).count false + 1 = l.count false := by
  have h1 := count_false l
  have h2 := count_false (l.set k true)
  have h3 := count_set_true h hk
  rw [List.length_set] at h2
  omega
section
variable {g : List (List Ed)} {a : Int} {out : List Bool} {qu : List Int} {ex : Int → Prop}
theorem Bfs.start (ha : 0 ≤ a ∧ a < (g.length : Int)) : Bfs g a ((List.replicate g.length false).set a.toNat true) [a] (fun _ => False) := by
  have hl : a.toNat < (List.replicate g.length false).length := by rw [List.length_replicate]; omega
  have e : ∀ k, gB ((List.replicate g.length false).set a.toNat true) k = true → k = a.toNat := by
    intro k hk
    rw [gB_set hl, gB_rep] at hk
    split at hk
    · rename_i h; exact h.symm
    · cases hk
  have ea : gB ((List.replicate g.length false).set a.toNat true) a.toNat = true := by rw [gB_set hl, if_pos rfl]
  have hc := count_set_false hl gB_rep
  have hr : (List.replicate g.length false).count false = g.length := List.count_replicate_self ..
  refine ⟨by simp, ea, fun k hk h => ?_, fun q hq => ?_, fun k hk h => ?_, ?_⟩
  · have := e k h
    subst this
    rw [show ((a.toNat : Nat) : Int) = a by omega]
    exact .refl
  · rw [List.mem_singleton.1 hq]; exact ⟨ha, ea⟩
  · left
    have := e k h
    subst this
    rw [show ((a.toNat : Nat) : Int) = a by omega]
    exact List.mem_singleton.2 rfl
  · show 2 * ((List.replicate g.length false).set a.toNat true).count false + 1 ≤ _
    omega
/-- A node that was not met yet is put behind the queue. -/
theorem Bfs.mark (h : Bfs g a out qu ex) {x : Int} (hx : gB out x.toNat = true) (hxr : 0 ≤ x ∧ x < (g.length : Int)) {e : Ed} (he : e ∈ gEs g x.toNat) (h0 : 0 ≤ e.2.1 ∧ e.2.1 < (g.length : Int)) (hn : gB out e.2.1.toNat = false) : Bfs g a (out.set e.2.1.toNat true) (qu ++ [e.2.1]) ex := by
  have hl : e.2.1.toNat < out.length := by rw [h.lo]; omega
  have up : ∀ k, gB out k = true → gB (out.set e.2.1.toNat true) k = true := by
    intro k hk
    rw [gB_set hl]
    split
    · rfl
    · exact hk
  have hc := count_set_false hl hn
  refine ⟨by rw [List.length_set]; exact h.lo, up _ h.st, fun k hk hb => ?_, fun q hq => ?_, fun k hk hb => ?_, ?_⟩
  · rw [gB_set hl] at hb
    split at hb
    · rename_i e1
      subst e1
      have := h.rc x.toNat (by omega) hx
      refine .step (k := x) (by rwa [show ((x.toNat : Nat) : Int) = x by omega] at this) ⟨hxr.1, e, he, by omega, rfl⟩
    · exact h.rc k hk hb
  · rcases List.mem_append.1 hq with g1 | g1
    · have := h.inq q g1
      exact ⟨this.1, up _ this.2⟩
    · rw [List.mem_singleton.1 g1]
      exact ⟨h0, by rw [gB_set hl, if_pos rfl]⟩
  · rw [gB_set hl] at hb
    split at hb
    · rename_i e1
      left
      refine List.mem_append_right _ (List.mem_singleton.2 ?_)
      omega
    · rcases h.cl k hk hb with g1 | g1 | g1
      · exact Or.inl (List.mem_append_left _ g1)
      · exact Or.inr (Or.inl g1)
      · exact Or.inr (Or.inr fun e' he' => up _ (g1 e' he'))
  · have := h.sz
    rw [List.length_append, List.length_singleton]
    omega
theorem Bfs.done (hg : GOk g) (h : Bfs g a out [] (fun _ => False)) (ha : 0 ≤ a ∧ a < (g.length : Int)) : out = reachL g a := by
  have key : ∀ {k : Int}, Rch (Rw g) a k → (0 ≤ k ∧ k < (g.length : Int)) ∧ gB out k.toNat = true := by
    intro k hr
    induction hr with
    | refl => exact ⟨ha, h.st⟩
    | step hr' hs ih =>
      obtain ⟨h1, h2⟩ := ih
      obtain ⟨_, e, he, rfl, _⟩ := hs
      have := (hg.ok _ (by omega)).2 e he
      refine ⟨this.1, ?_⟩
      rcases h.cl _ (by omega) h2 with g1 | g1 | g1
      · cases g1
      · exact g1.elim
      · exact g1 e he
  apply List.ext_getElem
  · rw [h.lo]; simp [reachL]
  · intro k k1 k2
    have hk : k < g.length := by rw [← h.lo]; exact k1
    have e1 : (reachL g a)[k] = rcB (Rw g) a (k : Int) := by simp [reachL]
    rw [e1, ← gB_eq k1, Bool.eq_iff_iff, rcB_iff]
    refine ⟨fun hb => h.rc k hk hb, fun hr => ?_⟩
    have := (key hr).2
    rwa [Int.toNat_natCast] at this
end
def S48a (g : List (List Ed)) (out : List Bool) (qu : List Int) : SL := ⟨[.sl (.sl eT) g] ++ List.replicate 4 .undef ++ [.own 0] ++ [.own 1] ++ List.replicate 43 .undef, [(0, .arr .bool out), (1, .arr I qu)], 2⟩
def S48b (g : List (List Ed)) (row : List Ed) (out : List Bool) (qu : List Int) (j : Int) : SL := ⟨[.sl (.sl eT) g] ++ List.replicate 4 .undef ++ [.own 0] ++ [.own 1] ++ List.replicate 20 .undef ++ [.sl eT row] ++ [.int .i64 row.length] ++ [.int .i64 j] ++ List.replicate 20 .undef, [(0, .arr .bool out), (1, .arr I qu)], 2⟩
def E48 : Env := ⟨tab, [], fun n => match n with | 4 => some ([0, 5, 6], [], []) | 7 => some ([0, 5, 6, 27, 28, 29], [], []) | _ => none⟩
def K48 : Fn1 := ⟨.fld (.sl (.sl eT)) (.one I), .one (.sl .bool), fun (a : List (List Ed) × Int) => [GOk a.1, a.1.length ≤ 100000, 0 ≤ a.2 ∧ a.2 < (a.1.length : Int)], fun (a : List (List Ed) × Int) => reachL a.1 a.2⟩
set_option maxHeartbeats 4000000 in
theorem k48 : FnOk Go.Proofs.Try.prog 48 K48 := by
  refine fn_ok (E := E48) (TOk.of tab_told) (fun f k h => by cases h) mix Go.Proofs.Try.func48 rfl rfl (by kernel_rfl) K48 ?_
  rintro ⟨(g : List (List Ed)), (a : Int)⟩ hp
  have hgo : GOk g := hp _ (List.mem_cons_self ..)
  have hgl : g.length ≤ 100000 := hp _ (List.mem_cons_of_mem _ (List.mem_cons_self ..))
  have ha : 0 ≤ a ∧ a < (g.length : Int) := hp _ (List.mem_cons_of_mem _ (List.mem_cons_of_mem _ (List.mem_cons_self ..)))
  clear hp
  conv => whnf
  refine ⟨show (0 : Int) ≤ (g.length : Int) by omega, ?_⟩
  conv => whnf
  refine ⟨Int.le_refl _, ?_⟩
  conv => whnf
  refine ⟨show (g.length : Int) * 1 ≤ 70368744177664 by omega, ?_⟩
  conv => whnf
  refine ⟨show (g.length : Int) ≤ 70368744177664 by omega, ?_⟩
  conv => whnf
  refine ⟨ha.1, ?_⟩
  conv => whnf
  refine ⟨show a < ((List.replicate ((g.length : Int)).toNat false).length : Int) by rw [List.length_replicate]; omega, ?_⟩
  conv => whnf
  refine loop_rule (fun x : List Bool × List Int => S48a g x.1 x.2) (fun x => 2 * x.1.count false + x.2.length) (fun x => Bfs g a x.1 x.2 (fun _ => False)) ?_ ((List.replicate g.length false).set a.toNat true, [a]) (by kernel_rfl) ?_ (Bfs.start ha)
  case refine_2 => exact Eq.trans (b := S48a g ((List.replicate ((g.length : Int)).toNat false).set a.toNat true) [a]) rfl (by rw [show ((g.length : Int)).toNat = g.length by omega])
  rintro ⟨out0, qu0⟩ hb0
  have hb0 : Bfs g a out0 qu0 (fun _ => False) := hb0
  conv => whnf
  refine cond_intro (fun hlt => ?_) (fun hlt => ?_)
  · have hlt : 0 < (qu0.length : Int) := @of_decide_eq_true _ _ hlt
    have hq : 0 < qu0.length := by omega
    have hxr : 0 ≤ (gI qu0 0) ∧ (gI qu0 0) < (g.length : Int) := (hb0.inq _ (gI_mem hq)).1
    have hrow := hgo.ok (gI qu0 0).toNat (by omega)
    conv => whnf
    refine ⟨Int.le_refl _, ?_⟩
    conv => whnf
    refine ⟨show (0 : Int) < (qu0.length : Int) by omega, ?_⟩
    conv => whnf
    refine ⟨hxr.1, ?_⟩
    conv => whnf
    refine ⟨hxr.2, ?_⟩
    conv => whnf
    refine loop_rule (fun x : (List Bool × List Int) × Int => S48b g (gEs g (gI qu0 0).toNat) x.1.1 x.1.2 x.2) (fun x => (((gEs g (gI qu0 0).toNat).length : Int) - x.2).toNat) (fun x => 0 ≤ x.2 ∧ x.2 ≤ (gEs g (gI qu0 0).toNat).length ∧ Bfs g a x.1.1 x.1.2 (fun _ => False) ∧ (∃ qt, x.1.2 = qu0 ++ qt) ∧ 2 * x.1.1.count false + x.1.2.length ≤ 2 * out0.count false + qu0.length ∧ ∀ i, i < x.2.toNat → gB x.1.1 (gE (gEs g (gI qu0 0).toNat) i).2.1.toNat = true) ?_ ((out0, qu0), 0) (by kernel_rfl) ?_ ⟨Int.le_refl _, by show (0 : Int) ≤ _; omega, hb0, ⟨[], (List.append_nil _).symm⟩, Nat.le_refl _, fun i hi => by simp at hi⟩
    case refine_2 => rfl
    rintro ⟨⟨out, qu⟩, j⟩ ⟨j0, j1, hb, ⟨qt, hqt⟩, hme, hin⟩
    have j0 : 0 ≤ j := j0
    have j1 : j ≤ (gEs g (gI qu0 0).toNat).length := j1
    have hb : Bfs g a out qu (fun _ => False) := hb
    have hqt : qu = qu0 ++ qt := hqt
    have hme : 2 * out.count false + qu.length ≤ 2 * out0.count false + qu0.length := hme
    have hin : ∀ i, i < j.toNat → gB out (gE (gEs g (gI qu0 0).toNat) i).2.1.toNat = true := hin
    conv => whnf
    refine cond_intro (fun hlt2 => ?_) (fun hlt2 => ?_)
    · have hlt2 : j < ((gEs g (gI qu0 0).toNat).length : Int) := @of_decide_eq_true _ _ hlt2
      have hlt := hlt2
      have wj : IntKind.i64.wrap (j + 1) = j + 1 := wrap_eq (by omega) (by omega)
      have ej : (j + 1).toNat = j.toNat + 1 := by omega
      have hjl : j.toNat < (gEs g (gI qu0 0).toNat).length := by omega
      have hee := hrow.2 _ (gE_mem hjl)
      have hlo := hb.lo
      have tl : (gE (gEs g (gI qu0 0).toNat) j.toNat).2.1 < (out.length : Int) := by omega
      conv => whnf
      refine ⟨j0, ?_⟩
      conv => whnf
      refine ⟨hlt, ?_⟩
      conv => whnf
      refine ⟨hee.1.1, ?_⟩
      conv => whnf
      refine ⟨tl, ?_⟩
      conv => whnf
      refine cond_intro (fun hn => ?_) (fun hn => ?_)
      · have hn : (!(gB out (gE (gEs g (gI qu0 0).toNat) j.toNat).2.1.toNat)) = true := hn
        have hn : (gB out (gE (gEs g (gI qu0 0).toNat) j.toNat).2.1.toNat) = false := by cases e : (gB out (gE (gEs g (gI qu0 0).toNat) j.toNat).2.1.toNat) with | false => rfl | true => exact absurd hn (by rw [e]; decide)
        have hq0 : gB out (gI qu0 0).toNat = true := (hb.inq _ (by rw [hqt]; exact List.mem_append_left _ (gI_mem hq))).2
        have hmk := hb.mark hq0 hxr (gE_mem hjl) hee.1 hn
        have hc := count_set_false (l := out) (k := (gE (gEs g (gI qu0 0).toNat) j.toNat).2.1.toNat) (by omega) hn
        have hsz := hb.sz
        conv => whnf
        refine ⟨hee.1.1, ?_⟩
        conv => whnf
        refine ⟨tl, ?_⟩
        conv => whnf
        refine ⟨show (qu.length + 1) * 8 ≤ 70368744177664 by omega, ?_⟩
        conv => whnf
        refine ⟨show qu.length + 1 ≤ 70368744177664 by omega, ?_⟩
        conv => whnf
        refine ⟨((out.set (gE (gEs g (gI qu0 0).toNat) j.toNat).2.1.toNat true, qu ++ [(gE (gEs g (gI qu0 0).toNat) j.toNat).2.1]), j + 1), ?_, ⟨by show 0 ≤ j + 1; omega, by show j + 1 ≤ _; omega, hmk, ⟨qt ++ [(gE (gEs g (gI qu0 0).toNat) j.toNat).2.1], by show qu ++ _ = _; rw [hqt, List.append_assoc]⟩, by show 2 * (out.set (gE (gEs g (gI qu0 0).toNat) j.toNat).2.1.toNat true).count false + (qu ++ [(gE (gEs g (gI qu0 0).toNat) j.toNat).2.1]).length ≤ _; rw [List.length_append, List.length_singleton]; omega, ?_⟩, by show (((gEs g (gI qu0 0).toNat).length : Int) - (j + 1)).toNat < (((gEs g (gI qu0 0).toNat).length : Int) - j).toNat; omega⟩
        · exact Eq.trans (b := S48b g (gEs g (gI qu0 0).toNat) (out.set (gE (gEs g (gI qu0 0).toNat) j.toNat).2.1.toNat true) (qu ++ [(gE (gEs g (gI qu0 0).toNat) j.toNat).2.1]) (IntKind.i64.wrap (j + 1))) rfl (by rw [wj])
        · show ∀ i, i < (j + 1).toNat → gB (out.set (gE (gEs g (gI qu0 0).toNat) j.toNat).2.1.toNat true) (gE (gEs g (gI qu0 0).toNat) i).2.1.toNat = true
          intro i hi
          rw [gB_set (by omega)]
          split
          · rfl
          · rename_i hne
            rw [ej] at hi
            rcases Nat.lt_or_eq_of_le (Nat.le_of_lt_succ hi) with g' | g'
            · exact hin i g'
            · subst g'; exact absurd rfl hne
      have hn : (!(gB out (gE (gEs g (gI qu0 0).toNat) j.toNat).2.1.toNat)) = false := hn
      have hn : (gB out (gE (gEs g (gI qu0 0).toNat) j.toNat).2.1.toNat) = true := by cases e : (gB out (gE (gEs g (gI qu0 0).toNat) j.toNat).2.1.toNat) with | true => rfl | false => exact absurd hn (by rw [e]; decide)
      conv => whnf
      refine ⟨((out, qu), j + 1), ?_, ⟨by show 0 ≤ j + 1; omega, by show j + 1 ≤ _; omega, hb, ⟨qt, hqt⟩, hme, ?_⟩, by show (((gEs g (gI qu0 0).toNat).length : Int) - (j + 1)).toNat < (((gEs g (gI qu0 0).toNat).length : Int) - j).toNat; omega⟩
      · exact Eq.trans (b := S48b g (gEs g (gI qu0 0).toNat) out qu (IntKind.i64.wrap (j + 1))) rfl (by rw [wj])
      · show ∀ i, i < (j + 1).toNat → gB out (gE (gEs g (gI qu0 0).toNat) i).2.1.toNat = true
        intro i hi
        rw [ej] at hi
        rcases Nat.lt_or_eq_of_le (Nat.le_of_lt_succ hi) with g' | g'
        · exact hin i g'
        · subst g'; exact hn
    have hlt2 : ¬ (j < ((gEs g (gI qu0 0).toNat).length : Int)) := @of_decide_eq_false _ _ hlt2
    have hql : qu.length = qu0.length + qt.length := by rw [hqt, List.length_append]
    have hq1 : qu = (gI qu0 0) :: qu.drop 1 := by
      rw [hqt]
      cases qu0 with
      | nil => simp at hq
      | cons y r => rfl
    conv => whnf
    refine ⟨show (0 : Int) ≤ 1 by omega, ?_⟩
    conv => whnf
    refine ⟨show (1 : Int) ≤ (qu.length : Int) by omega, ?_⟩
    conv => whnf
    refine ⟨(out, qu.drop 1), rfl, ⟨hb.lo, hb.st, hb.rc, fun q hq' => hb.inq q (List.mem_of_mem_drop hq'), fun k hk hk' => ?_, ?_⟩, ?_⟩
    · rcases hb.cl k hk hk' with g1 | g1 | g1
      · rw [hq1] at g1
        rcases List.mem_cons.1 g1 with g2 | g2
        · right; right
          intro e he
          have hkx : k = (gI qu0 0).toNat := by omega
          subst hkx
          obtain ⟨i, hi, ei⟩ := List.getElem_of_mem he
          have := hin i (by omega)
          rwa [gE_eq hi, ei] at this
        · exact Or.inl g2
      · exact g1.elim
      · exact Or.inr (Or.inr g1)
    · have := hb.sz
      show 2 * out.count false + (qu.drop 1).length ≤ _
      rw [List.length_drop]; omega
    · show 2 * out.count false + (qu.drop 1).length < 2 * out0.count false + qu0.length
      rw [List.length_drop]; omega
  have hlt : ¬ (0 < (qu0.length : Int)) := @of_decide_eq_false _ _ hlt
  have hq : qu0 = [] := List.length_eq_zero_iff.1 (by omega)
  subst hq
  conv => whnf
  show out0 = reachL g a
  exact hb0.done hgo ha
end
end Go.Proofs.Ythgclbohlcgdgaa.Eng
set_option linter.unusedVariables false
set_option linter.unusedSimpArgs false
namespace Go.Proofs.Ythgclbohlcgdgaa.Eng
open Go
set_option maxRecDepth 100000
noncomputable section
theorem lp_ex {R : Rel} {T : Int → Prop} {N : Nat} {C : Int} (hS : Steps R N C) {k c s : Int} (h : Wy R T k c s) : ∃ p, lpR R T k = some p := by
  obtain ⟨c0, ⟨s0, h0⟩, hc⟩ := first_of (p := fun c : Nat => ∃ s : Int, Wy R T k (c : Int) s) ⟨c.toNat, s, by have := h.nonneg hS; rw [show ((c.toNat : Nat) : Int) = c by omega]; exact h⟩
  obtain ⟨s1, h1, hs⟩ := first_of (p := fun s : Nat => Wy R T k (c0 : Int) (s : Int)) ⟨s0.toNat, by have := h0.nonneg hS; rw [show ((s0.toNat : Nat) : Int) = s0 by omega]; exact h0⟩
  refine ⟨_, lp_some (c := (c0 : Int)) (s := (s1 : Int)) ⟨h1, fun c' s' hw => ?_⟩⟩
  have hn := hw.nonneg hS
  have a1 : ¬ c'.toNat < c0 := fun hlt => hc _ hlt ⟨s', by rw [show ((c'.toNat : Nat) : Int) = c' by omega]; exact hw⟩
  by_cases e : c' = c0
  · have a2 : ¬ s'.toNat < s1 := fun hlt => hs _ hlt (by rw [show ((s'.toNat : Nat) : Int) = s' by omega, ← e]; exact hw)
    omega
  · omega
theorem rch_wy {R R' : Rel} (hr : ∀ k q w, R' q k w ↔ R k q w) {a b : Int} : Rch R a b ↔ ∃ c s, Wy R' (Tl [a]) b c s := by
  constructor
  · intro h
    induction h with
    | refl => exact ⟨0, 0, .nil List.mem_cons_self⟩
    | step _ hs ih =>
      obtain ⟨c, s, hw⟩ := ih
      exact ⟨_, _, .cons ((hr _ _ _).2 hs) hw⟩
  · rintro ⟨c, s, hw⟩
    induction hw with
    | nil ht => rw [List.mem_singleton.1 ht]; exact .refl
    | cons hs _ ih => exact .step ih ((hr _ _ _).1 hs)
theorem rch_lp {n : Int} {es : List Ed} (he : EsOk n es) {a b : Int} : Rch (Re es) a b ↔ ∃ p, lpR (Re (es.map turnR)) (Tl [a]) b = some p := by
  rw [rch_wy (R := Re es) (R' := Re (es.map turnR)) (fun k q w => mem_turn)]
  exact ⟨fun ⟨c, s, h⟩ => lp_ex he.turn.steps h, fun ⟨p, h⟩ => ⟨p.1, p.2, (lp_is h).1⟩⟩
theorem rch_lp2 {n : Int} {es : List Ed} (he : EsOk n es) {a b : Int} : Rch (Re (es.map turnR)) a b ↔ ∃ p, lpR (Re es) (Tl [a]) b = some p := by
  have := rch_lp he.turn (a := a) (b := b)
  rwa [turn_turn] at this
theorem rch_turn {es : List Ed} {a b : Int} : Rch (Re (es.map turnR)) a b ↔ Rch (Re es) b a := by
  have key : ∀ {R R' : Rel}, (∀ k q w, R k q w → R' q k w) → ∀ {a b : Int}, Rch R a b → Rch R' b a := by
    intro R R' h a b hr
    have cat : ∀ {x y z : Int}, Rch R' y z → Rch R' x y → Rch R' x z := by
      intro x y z h1 h2
      induction h1 with
      | refl => exact h2
      | step _ hs ih => exact .step ih hs
    induction hr with
    | refl => exact .refl
    | step _ hs ih => exact cat ih (.step .refl (h _ _ _ hs))
  exact ⟨key fun k q w h => mem_turn.1 h, key fun k q w h => mem_turn.2 h⟩
theorem rch_cat {R : Rel} {x y z : Int} (h1 : Rch R y z) (h2 : Rch R x y) : Rch R x z := by
  induction h1 with
  | refl => exact h2
  | step _ hs ih => exact .step ih hs
theorem rw_re {n : Int} {es : List Ed} (h : EsOk n es) {a b : Int} : Rch (Rw (graphR n es)) a b ↔ Rch (Re es) a b := by
  constructor
  · intro hr
    induction hr with
    | refl => exact .refl
    | step _ hs ih =>
      rename_i k q w _
      obtain ⟨k0, e, he, rfl, rfl⟩ := hs
      obtain ⟨h1, h2⟩ := graph_sub he
      refine .step ih (w := e.2.2) ?_
      show (k, e.2.1, e.2.2) ∈ es
      have : e = (k, e.2.1, e.2.2) := Prod.ext (by rw [h2]; simp only; omega) rfl
      rwa [← this]
  · intro hr
    induction hr with
    | refl => exact .refl
    | step _ hs ih =>
      have hb := h.ok _ hs
      simp only at hb
      obtain ⟨e', h1, h2, _⟩ := graph_sup hs hb.1.1 hb.1.2
      exact .step ih ⟨hb.1.1, e', h1, h2, rfl⟩
/-- Each is reached from the other one. -/
def Mut (es : List Ed) (i k : Int) : Prop := Rch (Re es) i k ∧ Rch (Re es) k i
theorem Mut.symm {es : List Ed} {i k : Int} (h : Mut es i k) : Mut es k i := ⟨h.2, h.1⟩
theorem Mut.trans {es : List Ed} {i k j : Int} (h : Mut es i k) (g : Mut es k j) : Mut es i j := ⟨rch_cat g.1 h.1, rch_cat h.2 g.2⟩
theorem Mut.refl (es : List Ed) (k : Int) : Mut es k k := ⟨.refl, .refl⟩
open Classical in
def lst (es : List Ed) (k : Nat) : Nat := Classical.choose (first_of (p := fun i : Nat => Mut es (i : Int) (k : Int)) ⟨k, Mut.refl es k⟩)
theorem lst_mut (es : List Ed) (k : Nat) : Mut es (lst es k : Int) (k : Int) := (Classical.choose_spec (first_of (p := fun i : Nat => Mut es (i : Int) (k : Int)) ⟨k, Mut.refl es k⟩)).1
theorem lst_min {es : List Ed} {k i : Nat} (h : Mut es (i : Int) (k : Int)) : lst es k ≤ i := by
  have := (Classical.choose_spec (first_of (p := fun i : Nat => Mut es (i : Int) (k : Int)) ⟨k, Mut.refl es k⟩)).2
  exact Nat.le_of_not_lt fun hlt => this i hlt h
theorem lst_le (es : List Ed) (k : Nat) : lst es k ≤ k := lst_min (Mut.refl es k)
theorem lst_same {es : List Ed} {i k : Nat} : lst es i = lst es k ↔ Mut es (i : Int) (k : Int) := by
  constructor
  · intro h
    have h1 := (lst_mut es i).symm
    rw [h] at h1
    exact h1.trans (lst_mut es k)
  · intro h
    have h1 := lst_min ((lst_mut es i).trans h)
    have h2 := lst_min ((lst_mut es k).trans h.symm)
    omega
def strongR (n : Int) (es : List Ed) : List Int × Int := if ¬ validR n es = 0 then ([], validR n es) else ((List.range n.toNat).map (fun (k : Nat) => (lst es k : Int)), 0)
/-- The classes of the nodes before the m-th are told; of the class of the m-th the first j nodes. -/
structure StrAt (N : Nat) (es : List Ed) (m j : Nat) (out : List Int) : Prop where
  lo : out.length = N
  at_ : ∀ k, k < N → gI out k = if lst es k < m ∨ (lst es k = m ∧ k < j) then (lst es k : Int) else -1
theorem StrAt.neg {N : Nat} {es : List Ed} {m j : Nat} {out : List Int} (h : StrAt N es m j out) {k : Nat} (hk : k < N) : (gI out k < 0 ↔ ¬ (lst es k < m ∨ (lst es k = m ∧ k < j))) := by
  rw [h.at_ k hk]
  split
  · rename_i g; exact ⟨fun e => by omega, fun e => absurd g e⟩
  · rename_i g; exact ⟨fun _ => g, fun _ => by omega⟩
theorem StrAt.skip {N : Nat} {es : List Ed} {m : Nat} {out : List Int} (h : StrAt N es m 0 out) (hm : lst es m ≠ m) : StrAt N es (m + 1) 0 out := by
  refine ⟨h.lo, fun k hk => ?_⟩
  rw [h.at_ k hk]
  have : lst es k ≠ m := by
    intro e
    have h1 := lst_mut es k
    rw [e] at h1
    exact hm ((lst_same.2 h1).trans e)
  by_cases g : lst es k < m
  · rw [if_pos (Or.inl g), if_pos (Or.inl (by omega))]
  · rw [if_neg (by omega), if_neg (by omega)]
theorem StrAt.next {N : Nat} {es : List Ed} {m : Nat} {out : List Int} (h : StrAt N es m N out) : StrAt N es (m + 1) 0 out := by
  refine ⟨h.lo, fun k hk => ?_⟩
  rw [h.at_ k hk]
  by_cases g : lst es k < m + 1
  · rw [if_pos (by omega), if_pos (Or.inl g)]
  · rw [if_neg (by omega), if_neg (by omega)]
theorem StrAt.set {N : Nat} {es : List Ed} {m j : Nat} {out : List Int} (h : StrAt N es m j out) (hj : j < N) (hl : lst es j = m) : StrAt N es m (j + 1) (out.set j (m : Int)) := by
  refine ⟨by rw [List.length_set]; exact h.lo, fun k hk => ?_⟩
  rw [gI_set (by rw [h.lo]; exact hj)]
  split
  · rename_i e; subst e; rw [if_pos (Or.inr ⟨hl, by omega⟩), hl]
  · rw [h.at_ k hk]
    by_cases g : lst es k < m ∨ (lst es k = m ∧ k < j)
    · rw [if_pos g, if_pos (by omega)]
    · rw [if_neg g, if_neg (by omega)]
theorem StrAt.pass {N : Nat} {es : List Ed} {m j : Nat} {out : List Int} (h : StrAt N es m j out) (hl : lst es j ≠ m) : StrAt N es m (j + 1) out := by
  refine ⟨h.lo, fun k hk => ?_⟩
  rw [h.at_ k hk]
  by_cases e : k = j
  · subst e
    by_cases g : lst es k < m
    · rw [if_pos (Or.inl g), if_pos (Or.inl g)]
    · rw [if_neg (by omega), if_neg (by omega)]
  · by_cases g : lst es k < m ∨ (lst es k = m ∧ k < j)
    · rw [if_pos g, if_pos (by omega)]
    · rw [if_neg g, if_neg (by omega)]
theorem StrAt.to {N : Nat} {es : List Ed} {m j : Nat} {out : List Int} (h : StrAt N es m 0 out) (hj : j ≤ m) : StrAt N es m j out := by
  refine ⟨h.lo, fun k hk => ?_⟩
  rw [h.at_ k hk]
  have := lst_le es k
  by_cases g : lst es k < m
  · rw [if_pos (Or.inl g), if_pos (Or.inl g)]
  · rw [if_neg (by omega), if_neg (by omega)]
theorem StrAt.start {N : Nat} {es : List Ed} {out : List Int} (h : AllAt N (fun _ => -1) N out) : StrAt N es 0 0 out := ⟨h.lo, fun k hk => by rw [h.at_ k hk hk, if_neg (by omega)]⟩
theorem StrAt.done {N : Nat} {es : List Ed} {out : List Int} (h : StrAt N es N 0 out) : out = (List.range N).map (fun (k : Nat) => (lst es k : Int)) := by
  apply List.ext_getElem
  · rw [h.lo]; simp
  · intro k k1 k2
    have hk : k < N := by rw [← h.lo]; exact k1
    have := lst_le es k
    rw [← gI_eq k1, h.at_ k hk, if_pos (Or.inl (by omega))]
    simp
theorem mut_lst {es : List Ed} {m j : Nat} (hm : lst es m = m) : Mut es (m : Int) (j : Int) ↔ lst es j = m := by
  rw [← lst_same, hm]
  exact ⟨fun h => h.symm, fun h => h.symm⟩
theorem reach_at {n : Int} {es : List Ed} (he : EsOk n es) {a : Int} {k : Nat} (hk : k < n.toNat) : gB (reachL (graphR n es) a) k = true ↔ Rch (Re es) a (k : Int) := by
  have hl : k < (reachL (graphR n es) a).length := by unfold reachL; rw [List.length_map, List.length_range, graph_len]; omega
  rw [gB_eq hl]
  have : (reachL (graphR n es) a)[k] = rcB (Rw (graphR n es)) a (k : Int) := by simp [reachL]
  rw [this, rcB_iff, rw_re he]
theorem reach_len (n : Int) (es : List Ed) (a : Int) : (reachL (graphR n es) a).length = n.toNat := by
  unfold reachL
  rw [List.length_map, List.length_range, graph_len]
theorem strong_len (n : Int) (es : List Ed) : (strongR n es).1.length ≤ 1000000 := by
  unfold strongR
  split
  · simp
  · rename_i hn
    have := valid_iff (Decidable.not_not.1 hn)
    show (List.map _ _).length ≤ _
    rw [List.length_map, List.length_range]
    omega
theorem allat_start (N : Nat) (f : Nat → Int) : AllAt N f 0 (List.replicate N 0) := ⟨by simp, fun m _ hm => by omega⟩
theorem alls_ok {n : Int} {es : List Ed} {a : Int} (hv : validR n es = 0) (ha : 0 ≤ a ∧ a < n) : allsR n es a = ((List.range n.toNat).map (fun (k : Nat) => costOf (lpR (Re (es.map turnR)) (Tl [a]) (k : Int))), 0) := by
  unfold allsR
  rw [if_neg (by rw [nodes1 hv, if_pos (isR_iff.2 ha)]; simp)]
theorem alls_at {n : Int} {es : List Ed} {a : Int} (hv : validR n es = 0) (ha : 0 ≤ a ∧ a < n) {k : Nat} (hk : k < n.toNat) : (allsR n es a).1.length = n.toNat ∧ (0 ≤ gI (allsR n es a).1 k ↔ Rch (Re es) a (k : Int)) := by
  have hes := valid_es hv
  rw [alls_ok hv ha]
  refine ⟨by simp, ?_⟩
  have hl : k < ((List.range n.toNat).map (fun (k : Nat) => costOf (lpR (Re (es.map turnR)) (Tl [a]) (k : Int)))).length := by rw [List.length_map, List.length_range]; exact hk
  show 0 ≤ gI ((List.range n.toNat).map (fun (k : Nat) => costOf (lpR (Re (es.map turnR)) (Tl [a]) (k : Int)))) k ↔ _
  rw [gI_eq hl, rch_lp hes]
  simp only [List.getElem_map, List.getElem_range]
  constructor
  · intro h
    cases e : lpR (Re (es.map turnR)) (Tl [a]) (k : Int) with
    | none => rw [e] at h; simp [costOf] at h
    | some p => exact ⟨p, rfl⟩
  · rintro ⟨p, hp⟩
    rw [hp]
    exact (lp_nonneg hes.turn.steps (show lpR _ _ _ = some (p.1, p.2) from hp)).1
theorem toF_rch {n : Int} {es : List Ed} {a : Int} (hes : EsOk n es) {k : Nat} (hk : k < n.toNat) : 0 ≤ (gF (toF (Re es) (Tl [a]) n.toNat) k).1 ↔ Rch (Re es) (k : Int) a := by
  rw [toF_at hk, ← rch_turn, rch_lp2 hes]
  constructor
  · exact fun h => faOf_is h
  · rintro ⟨p, hp⟩
    rw [hp]
    exact (lp_nonneg hes.steps (show lpR _ _ _ = some (p.1, p.2) from hp)).1
end
end Go.Proofs.Ythgclbohlcgdgaa.Eng
set_option linter.unusedVariables false
set_option linter.unusedSimpArgs false
namespace Go.Proofs.Ythgclbohlcgdgaa.Eng
open Go
set_option maxRecDepth 100000
noncomputable section
def S30a (n : Int) (g b : List (List Ed)) (out : List Int) (i : Int) : SL := ⟨[.int .i64 n] ++ List.replicate 6 .undef ++ [.own 0] ++ [.own 1] ++ [.own 2] ++ List.replicate 21 .undef ++ [.int .i64 ((n.toNat : Nat) : Int)] ++ [.int .i64 i] ++ List.replicate 43 .undef, [(0, .arr (.sl eT) g), (1, .arr (.sl eT) b), (2, .arr I out)], 3⟩
def S30b (n : Int) (g b : List (List Ed)) (out : List Int) (i : Int) : SL := ⟨[.int .i64 n] ++ List.replicate 6 .undef ++ [.own 0] ++ [.own 1] ++ [.own 2] ++ List.replicate 30 .undef ++ [.int .i64 ((n.toNat : Nat) : Int)] ++ [.int .i64 i] ++ List.replicate 34 .undef, [(0, .arr (.sl eT) g), (1, .arr (.sl eT) b), (2, .arr I out)], 3⟩
def S30c (n : Int) (g b : List (List Ed)) (i : Int) (on fr : List Bool) (out : List Int) (k : Int) : SL := ⟨[.int .i64 n] ++ List.replicate 6 .undef ++ [.own 0] ++ [.own 1] ++ [.own 2] ++ List.replicate 1 .undef ++ [.int .i64 i] ++ [.own 3] ++ [.own 4] ++ List.replicate 26 .undef ++ [.int .i64 ((n.toNat : Nat) : Int)] ++ [.int .i64 i] ++ List.replicate 13 .undef ++ [.int .i64 n] ++ [.int .i64 k] ++ List.replicate 19 .undef, [(0, .arr (.sl eT) g), (1, .arr (.sl eT) b), (2, .arr I out), (3, .arr .bool on), (4, .arr .bool fr)], 5⟩
def E30 : Env := ⟨tab, [(18, K18), (38, .eff X38), (40, K40), (48, K48)], fun n => match n with | 7 => some ([0, 7, 8, 9, 31, 32], [], []) | 12 => some ([0, 7, 8, 9, 40, 41], [], []) | 17 => some ([0, 7, 8, 9, 11, 12, 13, 40, 41, 55, 56], [], []) | _ => none⟩
def K30 : Fn1 := ⟨.fld I (.one (.sl eT)), .fld (.sl I) (.one I), fun _ => [], fun (a : Int × List Ed) => strongR a.1 a.2⟩
set_option maxHeartbeats 4000000 in
theorem k30 : FnOk Go.Proofs.Try.prog 30 K30 := by
  refine fn_ok (E := E30) (TOk.of tab_told) (AllOk.cons k18 (.consX k38 (.cons k40 (.cons k48 .nil)))).at_ mix Go.Proofs.Try.func30 rfl rfl (by kernel_rfl) K30 ?_
  rintro ⟨(n : Int), (es : List Ed)⟩ hp
  clear hp
  conv => whnf
  refine cond_intro (fun hv => ?_) (fun hv => ?_)
  · have hv : (!decide (validR n es = 0)) = true := hv
    have hv : ¬ (validR n es = 0) := fun e => absurd hv (by rw [decide_eq_true e]; decide)
    conv => whnf
    show ([], validR n es) = strongR n es
    rw [strongR, if_pos hv]
  have hv : (!decide (validR n es = 0)) = false := hv
  have hv : validR n es = 0 := Decidable.byContradiction fun e => absurd hv (by rw [decide_eq_false e]; decide)
  have hes := valid_es hv
  obtain ⟨v1, v2, v3, _⟩ := valid_iff hv
  have hml : (es.map turnR).length = es.length := List.length_map ..
  have hgl1 := graph_len n es
  have hgl2 := graph_len n (es.map turnR)
  have hgo1 := graph_gok hes (by omega) v1
  have hgo2 := graph_gok hes.turn (by omega) v1
  conv => whnf
  refine ⟨show 0 ≤ n ∧ n ≤ 100000 by omega, ?_⟩
  conv => whnf
  refine ⟨show es.length ≤ 2000000 by omega, ?_⟩
  conv => whnf
  refine ⟨show ∀ e ∈ es, 0 ≤ e.1 ∧ e.1 < n from fun e he => (hes.ok e he).1, ?_⟩
  conv => whnf
  refine ⟨show es.length ≤ 2000000 by omega, ?_⟩
  conv => whnf
  refine ⟨show 0 ≤ n ∧ n ≤ 100000 by omega, ?_⟩
  conv => whnf
  refine ⟨show (es.map turnR).length ≤ 2000000 by omega, ?_⟩
  conv => whnf
  refine ⟨show ∀ e ∈ es.map turnR, 0 ≤ e.1 ∧ e.1 < n from fun e he => (hes.turn.ok e he).1, ?_⟩
  conv => whnf
  refine ⟨v1, ?_⟩
  conv => whnf
  refine ⟨Int.le_refl _, ?_⟩
  conv => whnf
  refine ⟨show n * 8 ≤ 70368744177664 by omega, ?_⟩
  conv => whnf
  refine ⟨show n ≤ 70368744177664 by omega, ?_⟩
  conv => whnf
  refine loop_rule (fun x : List Int × Int => S30a n (graphR n es) (graphR n (es.map turnR)) x.1 x.2) (fun x => (n - x.2).toNat) (fun x => 0 ≤ x.2 ∧ x.2 ≤ n ∧ AllAt n.toNat (fun _ => -1) x.2.toNat x.1) ?_ (List.replicate n.toNat 0, 0) (by kernel_rfl) ?_ ⟨Int.le_refl _, v1, allat_start _ _⟩
  case refine_2 => exact Eq.trans (b := (⟨(S30a n (graphR n es) (graphR n (es.map turnR)) (List.replicate n.toNat 0) 0).slots.set 31 (.int .i64 ((List.replicate n.toNat (0 : Int)).length : Int)), (S30a n (graphR n es) (graphR n (es.map turnR)) (List.replicate n.toNat 0) 0).heap, 3⟩ : SL)) rfl (by rw [List.length_replicate]; rfl)
  rintro ⟨out1, i1⟩ ⟨g0, g1, hat⟩
  have g0 : 0 ≤ i1 := g0
  have g1 : i1 ≤ n := g1
  have hat : AllAt n.toNat (fun _ => -1) i1.toNat out1 := hat
  have hlo1 := hat.lo
  conv => whnf
  refine cond_intro (fun hlt0 => ?_) (fun hlt0 => ?_)
  · have hlt0 : i1 < ((n.toNat : Nat) : Int) := @of_decide_eq_true _ _ hlt0
    have wi1 : IntKind.i64.wrap (i1 + 1) = i1 + 1 := wrap_eq (by omega) (by omega)
    have ei1 : (i1 + 1).toNat = i1.toNat + 1 := by omega
    conv => whnf
    refine ⟨g0, ?_⟩
    conv => whnf
    refine ⟨show i1 < (out1.length : Int) by omega, ?_⟩
    conv => whnf
    refine ⟨(out1.set i1.toNat (-1), i1 + 1), ?_, ⟨by show 0 ≤ i1 + 1; omega, by show i1 + 1 ≤ _; omega, by show AllAt _ _ (i1 + 1).toNat _; rw [ei1]; exact hat.step (by omega) rfl⟩, by show (n - (i1 + 1)).toNat < (n - i1).toNat; omega⟩
    exact Eq.trans (b := S30a n (graphR n es) (graphR n (es.map turnR)) (out1.set i1.toNat (-1)) (IntKind.i64.wrap (i1 + 1))) rfl (by rw [wi1])
  have hlt0 : ¬ (i1 < ((n.toNat : Nat) : Int)) := @of_decide_eq_false _ _ hlt0
  conv => whnf
  refine loop_rule (fun x : List Int × Int => S30b n (graphR n es) (graphR n (es.map turnR)) x.1 x.2) (fun x => (n - x.2).toNat) (fun x => 0 ≤ x.2 ∧ x.2 ≤ n ∧ StrAt n.toNat es x.2.toNat 0 x.1) ?_ (out1, 0) (by kernel_rfl) ?_ ⟨Int.le_refl _, v1, by rw [show i1.toNat = n.toNat by omega] at hat; exact StrAt.start hat⟩
  case refine_2 => exact Eq.trans (b := (⟨(S30b n (graphR n es) (graphR n (es.map turnR)) out1 0).slots.set 40 (.int .i64 (out1.length : Int)), (S30b n (graphR n es) (graphR n (es.map turnR)) out1 0).heap, 3⟩ : SL)) rfl (by rw [hlo1]; rfl)
  rintro ⟨out0, i⟩ ⟨i0, i1', hs1⟩
  have i0 : 0 ≤ i := i0
  have i1' : i ≤ n := i1'
  have hs1 : StrAt n.toNat es i.toNat 0 out0 := hs1
  conv => whnf
  refine cond_intro (fun hlt => ?_) (fun hlt => ?_)
  · have hlt : i < ((n.toNat : Nat) : Int) := @of_decide_eq_true _ _ hlt
    have wi : IntKind.i64.wrap (i + 1) = i + 1 := wrap_eq (by omega) (by omega)
    have ei : (i + 1).toNat = i.toNat + 1 := by omega
    have hlo0 := hs1.lo
    have il : i < (out0.length : Int) := by omega
    have hng := hs1.neg (k := i.toNat) (by omega)
    have hle := lst_le es i.toNat
    conv => whnf
    refine ⟨i0, ?_⟩
    conv => whnf
    refine ⟨il, ?_⟩
    conv => whnf
    refine cond_intro (fun c1 => ?_) (fun c1 => ?_)
    · have c1 : 0 ≤ gI out0 i.toNat := @of_decide_eq_true _ _ c1
      conv => whnf
      refine ⟨(out0, i + 1), ?_, ⟨by show 0 ≤ i + 1; omega, by show i + 1 ≤ _; omega, by show StrAt _ _ (i + 1).toNat 0 _; rw [ei]; exact hs1.skip (fun e => absurd (hng.2 (by omega)) (by omega))⟩, by show (n - (i + 1)).toNat < (n - i).toNat; omega⟩
      exact Eq.trans (b := S30b n (graphR n es) (graphR n (es.map turnR)) out0 (IntKind.i64.wrap (i + 1))) rfl (by rw [wi])
    have c1 : ¬ (0 ≤ gI out0 i.toNat) := @of_decide_eq_false _ _ c1
    have hli : lst es i.toNat = i.toNat := by
      have := hng.1 (by omega)
      omega
    conv => whnf
    refine ⟨hgo1, ?_⟩
    conv => whnf
    refine ⟨show (graphR n es).length ≤ 100000 by omega, ?_⟩
    conv => whnf
    refine ⟨show 0 ≤ i ∧ i < ((graphR n es).length : Int) by omega, ?_⟩
    conv => whnf
    refine ⟨hgo2, ?_⟩
    conv => whnf
    refine ⟨show (graphR n (es.map turnR)).length ≤ 100000 by omega, ?_⟩
    conv => whnf
    refine ⟨show 0 ≤ i ∧ i < ((graphR n (es.map turnR)).length : Int) by omega, ?_⟩
    conv => whnf
    refine loop_rule (fun x : List Int × Int => S30c n (graphR n es) (graphR n (es.map turnR)) i (reachL (graphR n es) i) (reachL (graphR n (es.map turnR)) i) x.1 x.2) (fun x => (n - x.2).toNat) (fun x => 0 ≤ x.2 ∧ x.2 ≤ n ∧ StrAt n.toNat es i.toNat x.2.toNat x.1) ?_ (out0, 0) (by kernel_rfl) ?_ ⟨Int.le_refl _, v1, hs1⟩
    case refine_2 => rfl
    rintro ⟨out, k⟩ ⟨k0, k1, hs2⟩
    have k0 : 0 ≤ k := k0
    have k1 : k ≤ n := k1
    have hs2 : StrAt n.toNat es i.toNat k.toNat out := hs2
    conv => whnf
    refine cond_intro (fun klt => ?_) (fun klt => ?_)
    · have klt : k < n := @of_decide_eq_true _ _ klt
      have wk : IntKind.i64.wrap (k + 1) = k + 1 := wrap_eq (by omega) (by omega)
      have ek : (k + 1).toNat = k.toNat + 1 := by omega
      have kl : k < ((reachL (graphR n es) i).length : Int) := by rw [reach_len]; omega
      have kf : k < ((reachL (graphR n (es.map turnR)) i).length : Int) := by rw [reach_len]; omega
      have hlo2 := hs2.lo
      have hon := reach_at hes (a := i) (k := k.toNat) (by omega)
      have hfr := reach_at hes.turn (a := i) (k := k.toNat) (by omega)
      have hmu := mut_lst (j := k.toNat) hli
      rw [show ((i.toNat : Nat) : Int) = i by omega] at hmu
      conv => whnf
      refine ⟨k0, ?_⟩
      conv => whnf
      refine ⟨kl, ?_⟩
      conv => whnf
      refine cond_intro (fun i1 => ?_) (fun i1 => ?_)
      · have i1 : (gB (reachL (graphR n es) i) k.toNat) = true := i1
        conv => whnf
        refine ⟨k0, ?_⟩
        conv => whnf
        refine ⟨kf, ?_⟩
        conv => whnf
        refine cond_intro (fun i2 => ?_) (fun i2 => ?_)
        · have i2 : (gB (reachL (graphR n (es.map turnR)) i) k.toNat) = true := i2
          have hm : lst es k.toNat = i.toNat := hmu.1 ⟨hon.1 i1, rch_turn.1 (hfr.1 i2)⟩
          have hst := hs2.set (by omega) hm
          rw [show ((i.toNat : Nat) : Int) = i by omega] at hst
          conv => whnf
          refine ⟨k0, ?_⟩
          conv => whnf
          refine ⟨show k < (out.length : Int) by omega, ?_⟩
          conv => whnf
          refine ⟨(out.set k.toNat i, k + 1), ?_, ⟨by show 0 ≤ k + 1; omega, by show k + 1 ≤ _; omega, by show StrAt _ _ _ (k + 1).toNat _; rw [ek]; exact hst⟩, by show (n - (k + 1)).toNat < (n - k).toNat; omega⟩
          exact Eq.trans (b := S30c n (graphR n es) (graphR n (es.map turnR)) i (reachL (graphR n es) i) (reachL (graphR n (es.map turnR)) i) (out.set k.toNat i) (IntKind.i64.wrap (k + 1))) rfl (by rw [wk])
        have i2 : (gB (reachL (graphR n (es.map turnR)) i) k.toNat) = false := i2
        have hm : lst es k.toNat ≠ i.toNat := fun e => by
          have := hfr.2 (rch_turn.2 (hmu.2 e).2)
          rw [i2] at this
          cases this
        conv => whnf
        refine ⟨(out, k + 1), ?_, ⟨by show 0 ≤ k + 1; omega, by show k + 1 ≤ _; omega, by show StrAt _ _ _ (k + 1).toNat _; rw [ek]; exact hs2.pass hm⟩, by show (n - (k + 1)).toNat < (n - k).toNat; omega⟩
        exact Eq.trans (b := S30c n (graphR n es) (graphR n (es.map turnR)) i (reachL (graphR n es) i) (reachL (graphR n (es.map turnR)) i) (out) (IntKind.i64.wrap (k + 1))) rfl (by rw [wk])
      have i1 : (gB (reachL (graphR n es) i) k.toNat) = false := i1
      have hm : lst es k.toNat ≠ i.toNat := fun e => by
        have := hon.2 (hmu.2 e).1
        rw [i1] at this
        cases this
      conv => whnf
      refine ⟨(out, k + 1), ?_, ⟨by show 0 ≤ k + 1; omega, by show k + 1 ≤ _; omega, by show StrAt _ _ _ (k + 1).toNat _; rw [ek]; exact hs2.pass hm⟩, by show (n - (k + 1)).toNat < (n - k).toNat; omega⟩
      exact Eq.trans (b := S30c n (graphR n es) (graphR n (es.map turnR)) i (reachL (graphR n es) i) (reachL (graphR n (es.map turnR)) i) (out) (IntKind.i64.wrap (k + 1))) rfl (by rw [wk])
    have klt : ¬ (k < n) := @of_decide_eq_false _ _ klt
    conv => whnf
    refine ⟨(out, i + 1), ?_, ⟨by show 0 ≤ i + 1; omega, by show i + 1 ≤ _; omega, by show StrAt _ _ (i + 1).toNat 0 _; rw [ei]; rw [show k.toNat = n.toNat by omega] at hs2; exact hs2.next⟩, by show (n - (i + 1)).toNat < (n - i).toNat; omega⟩
    exact Eq.trans (b := S30b n (graphR n es) (graphR n (es.map turnR)) out (IntKind.i64.wrap (i + 1))) rfl (by rw [wi])
  have hlt : ¬ (i < ((n.toNat : Nat) : Int)) := @of_decide_eq_false _ _ hlt
  rw [show i.toNat = n.toNat by omega] at hs1
  conv => whnf
  show (out0, 0) = strongR n es
  rw [strongR, if_neg (by simp [hv]), hs1.done]
def S31a (n : Int) (es : List Ed) (out : List Int) (i : Int) : SL := ⟨[.int .i64 n] ++ [.sl eT es] ++ List.replicate 5 .undef ++ [.own 0] ++ List.replicate 15 .undef ++ [.int .i64 ((n.toNat : Nat) : Int)] ++ [.int .i64 i] ++ List.replicate 59 .undef, [(0, .arr I out)], 1⟩
def S31b (n : Int) (es : List Ed) (out : List Int) (i : Int) : SL := ⟨[.int .i64 n] ++ [.sl eT es] ++ List.replicate 5 .undef ++ [.own 0] ++ List.replicate 23 .undef ++ [.int .i64 n] ++ [.int .i64 i] ++ List.replicate 51 .undef, [(0, .arr I out)], 1⟩
def S31c (n : Int) (es : List Ed) (i : Int) (fo : List Int) (ba : List Fa) (out : List Int) (k : Int) : SL := ⟨[.int .i64 n] ++ [.sl eT es] ++ List.replicate 5 .undef ++ [.own 0] ++ List.replicate 1 .undef ++ [.int .i64 i] ++ [.own 1] ++ List.replicate 1 .undef ++ [.own 2] ++ [.int .i64 k] ++ List.replicate 17 .undef ++ [.int .i64 n] ++ [.int .i64 i] ++ List.replicate 51 .undef, [(0, .arr I out), (1, .arr I fo), (2, .arr fT ba)], 3⟩
def E31 : Env := ⟨tab, [(19, K19), (27, K27), (44, K44)], fun n => match n with | 6 => some ([0, 1, 7, 23, 24], [], []) | 11 => some ([0, 1, 7, 31, 32], [], []) | 17 => some ([0, 1, 7, 9, 10, 12, 13, 31, 32], [], []) | _ => none⟩
def K31 : Fn1 := ⟨.fld I (.one (.sl eT)), .fld (.sl I) (.one I), fun _ => [], fun (a : Int × List Ed) => strongR a.1 a.2⟩
set_option maxHeartbeats 4000000 in
theorem k31 : FnOk Go.Proofs.Try.prog 31 K31 := by
  refine fn_ok (E := E31) (TOk.of tab_told) (AllOk.cons k19 (.cons k27 (.cons k44 .nil))).at_ mix Go.Proofs.Try.func31 rfl rfl (by kernel_rfl) K31 ?_
  rintro ⟨(n : Int), (es : List Ed)⟩ hp
  clear hp
  conv => whnf
  refine cond_intro (fun hv => ?_) (fun hv => ?_)
  · have hv : (!decide (validR n es = 0)) = true := hv
    have hv : ¬ (validR n es = 0) := fun e => absurd hv (by rw [decide_eq_true e]; decide)
    conv => whnf
    show ([], validR n es) = strongR n es
    rw [strongR, if_pos hv]
  have hv : (!decide (validR n es = 0)) = false := hv
  have hv : validR n es = 0 := Decidable.byContradiction fun e => absurd hv (by rw [decide_eq_false e]; decide)
  have hes := valid_es hv
  obtain ⟨v1, v2, v3, _⟩ := valid_iff hv
  conv => whnf
  refine ⟨v1, ?_⟩
  conv => whnf
  refine ⟨Int.le_refl _, ?_⟩
  conv => whnf
  refine ⟨show n * 8 ≤ 70368744177664 by omega, ?_⟩
  conv => whnf
  refine ⟨show n ≤ 70368744177664 by omega, ?_⟩
  conv => whnf
  refine loop_rule (fun x : List Int × Int => S31a n es x.1 x.2) (fun x => (n - x.2).toNat) (fun x => 0 ≤ x.2 ∧ x.2 ≤ n ∧ AllAt n.toNat (fun _ => -1) x.2.toNat x.1) ?_ (List.replicate n.toNat 0, 0) (by kernel_rfl) ?_ ⟨Int.le_refl _, v1, allat_start _ _⟩
  case refine_2 => exact Eq.trans (b := (⟨(S31a n es (List.replicate n.toNat 0) 0).slots.set 23 (.int .i64 ((List.replicate n.toNat (0 : Int)).length : Int)), (S31a n es (List.replicate n.toNat 0) 0).heap, 1⟩ : SL)) rfl (by rw [List.length_replicate]; rfl)
  rintro ⟨out1, i1⟩ ⟨g0, g1, hat⟩
  have g0 : 0 ≤ i1 := g0
  have g1 : i1 ≤ n := g1
  have hat : AllAt n.toNat (fun _ => -1) i1.toNat out1 := hat
  have hlo1 := hat.lo
  conv => whnf
  refine cond_intro (fun hlt0 => ?_) (fun hlt0 => ?_)
  · have hlt0 : i1 < ((n.toNat : Nat) : Int) := @of_decide_eq_true _ _ hlt0
    have wi1 : IntKind.i64.wrap (i1 + 1) = i1 + 1 := wrap_eq (by omega) (by omega)
    have ei1 : (i1 + 1).toNat = i1.toNat + 1 := by omega
    conv => whnf
    refine ⟨g0, ?_⟩
    conv => whnf
    refine ⟨show i1 < (out1.length : Int) by omega, ?_⟩
    conv => whnf
    refine ⟨(out1.set i1.toNat (-1), i1 + 1), ?_, ⟨by show 0 ≤ i1 + 1; omega, by show i1 + 1 ≤ _; omega, by show AllAt _ _ (i1 + 1).toNat _; rw [ei1]; exact hat.step (by omega) rfl⟩, by show (n - (i1 + 1)).toNat < (n - i1).toNat; omega⟩
    exact Eq.trans (b := S31a n es (out1.set i1.toNat (-1)) (IntKind.i64.wrap (i1 + 1))) rfl (by rw [wi1])
  have hlt0 : ¬ (i1 < ((n.toNat : Nat) : Int)) := @of_decide_eq_false _ _ hlt0
  conv => whnf
  refine loop_rule (fun x : List Int × Int => S31b n es x.1 x.2) (fun x => (n - x.2).toNat) (fun x => 0 ≤ x.2 ∧ x.2 ≤ n ∧ StrAt n.toNat es x.2.toNat 0 x.1) ?_ (out1, 0) (by kernel_rfl) ?_ ⟨Int.le_refl _, v1, by rw [show i1.toNat = n.toNat by omega] at hat; exact StrAt.start hat⟩
  case refine_2 => rfl
  rintro ⟨out0, i⟩ ⟨i0, i1', hs1⟩
  have i0 : 0 ≤ i := i0
  have i1' : i ≤ n := i1'
  have hs1 : StrAt n.toNat es i.toNat 0 out0 := hs1
  conv => whnf
  refine cond_intro (fun hlt => ?_) (fun hlt => ?_)
  · have hlt : i < n := @of_decide_eq_true _ _ hlt
    have wi : IntKind.i64.wrap (i + 1) = i + 1 := wrap_eq (by omega) (by omega)
    have ei : (i + 1).toNat = i.toNat + 1 := by omega
    have ilt := hlt
    have hlo0 := hs1.lo
    have il : i < (out0.length : Int) := by omega
    have hng := hs1.neg (k := i.toNat) (by omega)
    have hle := lst_le es i.toNat
    conv => whnf
    refine ⟨i0, ?_⟩
    conv => whnf
    refine ⟨il, ?_⟩
    conv => whnf
    refine cond_intro (fun c1 => ?_) (fun c1 => ?_)
    · have c1 : 0 ≤ gI out0 i.toNat := @of_decide_eq_true _ _ c1
      conv => whnf
      refine ⟨(out0, i + 1), ?_, ⟨by show 0 ≤ i + 1; omega, by show i + 1 ≤ _; omega, by show StrAt _ _ (i + 1).toNat 0 _; rw [ei]; exact hs1.skip (fun e => absurd (hng.2 (by omega)) (by omega))⟩, by show (n - (i + 1)).toNat < (n - i).toNat; omega⟩
      exact Eq.trans (b := S31b n es out0 (IntKind.i64.wrap (i + 1))) rfl (by rw [wi])
    have c1 : ¬ (0 ≤ gI out0 i.toNat) := @of_decide_eq_false _ _ c1
    have hli : lst es i.toNat = i.toNat := by
      have := hng.1 (by omega)
      omega
    conv => whnf
    refine ⟨show 0 ≤ n ∧ n ≤ 100000 by omega, ?_⟩
    conv => whnf
    refine ⟨show es.length ≤ 2000000 by omega, ?_⟩
    conv => whnf
    refine ⟨hes, ?_⟩
    conv => whnf
    refine ⟨show 1 ≤ 1000000000 by omega, ?_⟩
    conv => whnf
    refine ⟨show ∀ k ∈ [i], 0 ≤ k ∧ k < n from fun k hk => by rw [List.mem_singleton.1 hk]; omega, ?_⟩
    conv => whnf
    refine loop_rule (fun x : List Int × Int => S31c n es i (allsR n es i).1 (toF (Re es) (Tl [i]) n.toNat) x.1 x.2) (fun x => (n - x.2).toNat) (fun x => i ≤ x.2 ∧ x.2 ≤ n ∧ StrAt n.toNat es i.toNat x.2.toNat x.1) ?_ (out0, i) (by kernel_rfl) ?_ ⟨Int.le_refl _, by show i ≤ n; omega, hs1.to (Nat.le_refl _)⟩
    case refine_2 => rfl
    rintro ⟨out, k⟩ ⟨k0, k1, hs2⟩
    have k0 : i ≤ k := k0
    have k1 : k ≤ n := k1
    have hs2 : StrAt n.toNat es i.toNat k.toNat out := hs2
    conv => whnf
    refine cond_intro (fun klt => ?_) (fun klt => ?_)
    · have klt : k < n := @of_decide_eq_true _ _ klt
      have wk : IntKind.i64.wrap (k + 1) = k + 1 := wrap_eq (by omega) (by omega)
      have ek : (k + 1).toNat = k.toNat + 1 := by omega
      have hfo := alls_at hv ⟨i0, ilt⟩ (k := k.toNat) (by omega)
      have hba := toF_rch hes (a := i) (k := k.toNat) (by omega)
      have hlo2 := hs2.lo
      have hng2 := hs2.neg (k := k.toNat) (by omega)
      have kl : k < (((allsR n es i).1).length : Int) := by rw [hfo.1]; omega
      have kf : k < ((toF (Re es) (Tl [i]) n.toNat).length : Int) := by rw [toF_len]; omega
      have ko : k < (out.length : Int) := by omega
      have k00 : 0 ≤ k := by omega
      have hmu := mut_lst (j := k.toNat) hli
      rw [show ((i.toNat : Nat) : Int) = i by omega] at hmu
      conv => whnf
      refine ⟨k00, ?_⟩
      conv => whnf
      refine ⟨ko, ?_⟩
      conv => whnf
      refine cond_intro (fun i0' => ?_) (fun i0' => ?_)
      · have i0' : gI out k.toNat < 0 := @of_decide_eq_true _ _ i0'
        conv => whnf
        refine ⟨k00, ?_⟩
        conv => whnf
        refine ⟨kl, ?_⟩
        conv => whnf
        refine cond_intro (fun i1 => ?_) (fun i1 => ?_)
        · have i1 : 0 ≤ gI (allsR n es i).1 k.toNat := @of_decide_eq_true _ _ i1
          conv => whnf
          refine ⟨k00, ?_⟩
          conv => whnf
          refine ⟨kf, ?_⟩
          conv => whnf
          refine cond_intro (fun i2 => ?_) (fun i2 => ?_)
          · have i2 : 0 ≤ (gF (toF (Re es) (Tl [i]) n.toNat) k.toNat).1 := @of_decide_eq_true _ _ i2
            have hm : lst es k.toNat = i.toNat := hmu.1 ⟨hfo.2.1 i1, hba.1 i2⟩
            have hst := hs2.set (by omega) hm
            rw [show ((i.toNat : Nat) : Int) = i by omega] at hst
            conv => whnf
            refine ⟨k00, ?_⟩
            conv => whnf
            refine ⟨ko, ?_⟩
            conv => whnf
            refine ⟨(out.set k.toNat i, k + 1), ?_, ⟨by show i ≤ k + 1; omega, by show k + 1 ≤ _; omega, by show StrAt _ _ _ (k + 1).toNat _; rw [ek]; exact hst⟩, by show (n - (k + 1)).toNat < (n - k).toNat; omega⟩
            exact Eq.trans (b := S31c n es i (allsR n es i).1 (toF (Re es) (Tl [i]) n.toNat) (out.set k.toNat i) (IntKind.i64.wrap (k + 1))) rfl (by rw [wk])
          have i2 : ¬ (0 ≤ (gF (toF (Re es) (Tl [i]) n.toNat) k.toNat).1) := @of_decide_eq_false _ _ i2
          conv => whnf
          refine ⟨(out, k + 1), ?_, ⟨by show i ≤ k + 1; omega, by show k + 1 ≤ _; omega, by show StrAt _ _ _ (k + 1).toNat _; rw [ek]; exact hs2.pass (fun e => i2 (hba.2 (hmu.2 e).2))⟩, by show (n - (k + 1)).toNat < (n - k).toNat; omega⟩
          exact Eq.trans (b := S31c n es i (allsR n es i).1 (toF (Re es) (Tl [i]) n.toNat) (out) (IntKind.i64.wrap (k + 1))) rfl (by rw [wk])
        have i1 : ¬ (0 ≤ gI (allsR n es i).1 k.toNat) := @of_decide_eq_false _ _ i1
        conv => whnf
        refine ⟨(out, k + 1), ?_, ⟨by show i ≤ k + 1; omega, by show k + 1 ≤ _; omega, by show StrAt _ _ _ (k + 1).toNat _; rw [ek]; exact hs2.pass (fun e => i1 (hfo.2.2 (hmu.2 e).1))⟩, by show (n - (k + 1)).toNat < (n - k).toNat; omega⟩
        exact Eq.trans (b := S31c n es i (allsR n es i).1 (toF (Re es) (Tl [i]) n.toNat) (out) (IntKind.i64.wrap (k + 1))) rfl (by rw [wk])
      have i0' : ¬ (gI out k.toNat < 0) := @of_decide_eq_false _ _ i0'
      conv => whnf
      refine ⟨(out, k + 1), ?_, ⟨by show i ≤ k + 1; omega, by show k + 1 ≤ _; omega, by show StrAt _ _ _ (k + 1).toNat _; rw [ek]; exact hs2.pass (fun e => i0' (hng2.2 (by omega)))⟩, by show (n - (k + 1)).toNat < (n - k).toNat; omega⟩
      exact Eq.trans (b := S31c n es i (allsR n es i).1 (toF (Re es) (Tl [i]) n.toNat) (out) (IntKind.i64.wrap (k + 1))) rfl (by rw [wk])
    have klt : ¬ (k < n) := @of_decide_eq_false _ _ klt
    conv => whnf
    refine ⟨(out, i + 1), ?_, ⟨by show 0 ≤ i + 1; omega, by show i + 1 ≤ _; omega, by show StrAt _ _ (i + 1).toNat 0 _; rw [ei]; rw [show k.toNat = n.toNat by omega] at hs2; exact hs2.next⟩, by show (n - (i + 1)).toNat < (n - i).toNat; omega⟩
    exact Eq.trans (b := S31b n es out (IntKind.i64.wrap (i + 1))) rfl (by rw [wi])
  have hlt : ¬ (i < n) := @of_decide_eq_false _ _ hlt
  rw [show i.toNat = n.toNat by omega] at hs1
  conv => whnf
  show (out0, 0) = strongR n es
  rw [strongR, if_neg (by simp [hv]), hs1.done]
def E10 : Env := ⟨tab, [(16, K16), (17, K17), (30, K30), (31, K31), (22, K22)], ann0⟩
def K10 : Fn1 := ⟨.fld I (.one (.sl eT)), .one .bool, fun _ => [], fun _ => true⟩
theorem k10 : FnOk Go.Proofs.Try.prog 10 K10 := by
  refine fn_ok (E := E10) (TOk.of tab_told) (AllOk.cons k16 (.cons k17 (.cons k30 (.cons k31 (.cons k22 .nil))))).at_ mix Go.Proofs.Try.func10 rfl rfl (by kernel_rfl) K10 ?_
  rintro ⟨(n : Int), (es : List Ed)⟩ hp
  clear hp
  conv => whnf
  refine ⟨show 0 ≤ 100000 by omega, ?_⟩
  conv => whnf
  refine cond_intro (fun hlg => ?_) (fun hlg => ?_)
  · have hlg : (largeR es []) = true := hlg
    conv => whnf
    show true = true
    rfl
  have hlg : (largeR es []) = false := hlg
  conv => whnf
  refine cond_intro (fun q1 => ?_) (fun q1 => ?_)
  · have q1 : (strongR n es).2 = (strongR n es).2 := @of_decide_eq_true _ _ q1
    have hll := strong_len n es
    conv => whnf
    refine ⟨show (strongR n es).1.length ≤ 1000000000 by omega, ?_⟩
    conv => whnf
    refine cond_intro (fun q5 => ?_) (fun q5 => ?_)
    · have q5 : (eqI (strongR n es).1 (strongR n es).1) = true := q5
      conv => whnf
      show true = true
      rfl
    have q5 : (eqI (strongR n es).1 (strongR n es).1) = false := q5
    exact absurd q5 (by unfold eqI; rw [decide_eq_true rfl]; decide)
  have q1 : ¬ ((strongR n es).2 = (strongR n es).2) := @of_decide_eq_false _ _ q1
  exact absurd rfl q1
end
end Go.Proofs.Ythgclbohlcgdgaa.Eng
set_option linter.unusedVariables false
set_option linter.unusedSimpArgs false
namespace Go.Proofs.Ythgclbohlcgdgaa.Eng
open Go
set_option maxRecDepth 100000
noncomputable section
theorem strong_at {n : Int} {es : List Ed} (hv : validR n es = 0) : (strongR n es).1.length = n.toNat ∧ (strongR n es).2 = 0 ∧ ∀ k, k < n.toNat → gI (strongR n es).1 k = (lst es k : Int) := by
  unfold strongR
  rw [if_neg (by simp [hv])]
  refine ⟨by simp, rfl, fun k hk => ?_⟩
  have hl : k < ((List.range n.toNat).map (fun (k : Nat) => (lst es k : Int))).length := by rw [List.length_map, List.length_range]; exact hk
  show gI ((List.range n.toNat).map (fun (k : Nat) => (lst es k : Int))) k = _
  rw [gI_eq hl]
  simp
theorem strong_err {n : Int} {es : List Ed} (h : (strongR n es).2 = 0) : validR n es = 0 := by
  unfold strongR at h
  split at h
  · rename_i g; exact absurd h g
  · rename_i g; exact Decidable.not_not.1 g
theorem alls_err {n : Int} {es : List Ed} {a : Int} (hv : validR n es = 0) (h : (allsR n es a).2 = 0) : 0 ≤ a ∧ a < n := by
  unfold allsR at h
  split at h
  · rename_i g; exact absurd h g
  · rename_i g
    have g := Decidable.not_not.1 g
    rw [nodes1 hv] at g
    split at g
    · rename_i k; exact isR_iff.1 k
    · cases g
theorem alls_bad {n : Int} {es : List Ed} {a : Int} (h : ¬ (allsR n es a).2 = 0) : (allsR n es a).1 = [] := by
  unfold allsR at h ⊢
  split
  · rfl
  · rename_i g; rw [if_neg g] at h; exact absurd rfl h
def E14 : Env := ⟨tab, [(16, K16), (17, K17), (30, K30), (26, K26)], ann0⟩
def K14 : Fn1 := ⟨.fld I (.fld (.sl eT) (.fld I (.one I))), .one .bool, fun _ => [], fun _ => true⟩
set_option maxHeartbeats 4000000 in
theorem k14 : FnOk Go.Proofs.Try.prog 14 K14 := by
  refine fn_ok (E := E14) (TOk.of tab_told) (AllOk.cons k16 (.cons k17 (.cons k30 (.cons k26 .nil)))).at_ mix Go.Proofs.Try.func14 rfl rfl (by kernel_rfl) K14 ?_
  rintro ⟨(n : Int), (es : List Ed), (a : Int), (b : Int)⟩ hp
  clear hp
  conv => whnf
  refine ⟨show 0 ≤ 100000 by omega, ?_⟩
  conv => whnf
  refine cond_intro (fun hlg => ?_) (fun hlg => ?_)
  · have hlg : (largeR es []) = true := hlg
    conv => whnf
    show true = true
    rfl
  have hlg : (largeR es []) = false := hlg
  conv => whnf
  refine cond_intro (fun e1 => ?_) (fun e1 => ?_)
  · have e1 : (!decide ((strongR n es).2 = 0)) = true := e1
    have e1 : ¬ ((strongR n es).2 = 0) := fun e => absurd e1 (by rw [decide_eq_true e]; decide)
    conv => whnf
    show true = true
    rfl
  have e1 : (!decide ((strongR n es).2 = 0)) = false := e1
  have e1 : (strongR n es).2 = 0 := Decidable.byContradiction fun e => absurd e1 (by rw [decide_eq_false e]; decide)
  conv => whnf
  refine cond_intro (fun e2 => ?_) (fun e2 => ?_)
  · have e2 : (!decide ((allsR n es a).2 = 0)) = true := e2
    have e2 : ¬ ((allsR n es a).2 = 0) := fun e => absurd e2 (by rw [decide_eq_true e]; decide)
    conv => whnf
    show true = true
    rfl
  have e2 : (!decide ((allsR n es a).2 = 0)) = false := e2
  have e2 : (allsR n es a).2 = 0 := Decidable.byContradiction fun e => absurd e2 (by rw [decide_eq_false e]; decide)
  conv => whnf
  refine cond_intro (fun e3 => ?_) (fun e3 => ?_)
  · have e3 : (!decide ((allsR n es b).2 = 0)) = true := e3
    have e3 : ¬ ((allsR n es b).2 = 0) := fun e => absurd e3 (by rw [decide_eq_true e]; decide)
    conv => whnf
    show true = true
    rfl
  have e3 : (!decide ((allsR n es b).2 = 0)) = false := e3
  have e3 : (allsR n es b).2 = 0 := Decidable.byContradiction fun e => absurd e3 (by rw [decide_eq_false e]; decide)
  have hv := strong_err e1
  have ha := alls_err hv e2
  have hb := alls_err hv e3
  obtain ⟨s1, _, s2⟩ := strong_at hv
  have fa := alls_at hv ha (k := b.toNat) (by omega)
  have fb := alls_at hv hb (k := a.toNat) (by omega)
  rw [show ((b.toNat : Nat) : Int) = b by omega] at fa
  rw [show ((a.toNat : Nat) : Int) = a by omega] at fb
  have la := s2 a.toNat (by omega)
  have lb := s2 b.toNat (by omega)
  have hle := lst_le es a.toNat
  have hsm : gI (strongR n es).1 a.toNat = gI (strongR n es).1 b.toNat ↔ Rch (Re es) a b ∧ Rch (Re es) b a := by
    rw [la, lb]
    have := lst_same (es := es) (i := a.toNat) (k := b.toNat)
    rw [show ((a.toNat : Nat) : Int) = a by omega, show ((b.toNat : Nat) : Int) = b by omega] at this
    exact ⟨fun h => this.1 (by omega), fun h => by rw [this.2 h]⟩
  conv => whnf
  refine cond_intro (fun d1 => ?_) (fun d1 => ?_)
  · have d1 : ((strongR n es).1.length : Int) = n := @of_decide_eq_true _ _ d1
    conv => whnf
    refine cond_intro (fun d2 => ?_) (fun d2 => ?_)
    · have d2 : ((allsR n es a).1.length : Int) = n := @of_decide_eq_true _ _ d2
      conv => whnf
      refine cond_intro (fun d3 => ?_) (fun d3 => ?_)
      · have d3 : ((allsR n es b).1.length : Int) = n := @of_decide_eq_true _ _ d3
        conv => whnf
        refine ⟨ha.1, ?_⟩
        conv => whnf
        refine ⟨show a < ((strongR n es).1.length : Int) by rw [s1]; omega, ?_⟩
        conv => whnf
        refine ⟨hb.1, ?_⟩
        conv => whnf
        refine ⟨show b < ((strongR n es).1.length : Int) by rw [s1]; omega, ?_⟩
        conv => whnf
        refine ⟨hb.1, ?_⟩
        conv => whnf
        refine ⟨show b < ((allsR n es a).1.length : Int) by rw [fa.1]; omega, ?_⟩
        conv => whnf
        refine cond_intro (fun i1 => ?_) (fun i1 => ?_)
        · have i1 : 0 ≤ gI (allsR n es a).1 b.toNat := @of_decide_eq_true _ _ i1
          conv => whnf
          refine ⟨ha.1, ?_⟩
          conv => whnf
          refine ⟨show a < ((allsR n es b).1.length : Int) by rw [fb.1]; omega, ?_⟩
          conv => whnf
          refine cond_intro (fun q => ?_) (fun q => ?_)
          · have q : ((decide (gI (strongR n es).1 a.toNat = gI (strongR n es).1 b.toNat) == decide (0 ≤ gI (allsR n es b).1 a.toNat))) = true := q
            conv => whnf
            refine ⟨ha.1, ?_⟩
            conv => whnf
            refine ⟨show a < ((strongR n es).1.length : Int) by rw [s1]; omega, ?_⟩
            conv => whnf
            refine cond_intro (fun z => ?_) (fun z => ?_)
            · have z : gI (strongR n es).1 a.toNat ≤ a := @of_decide_eq_true _ _ z
              conv => whnf
              show true = true
              rfl
            have z : ¬ (gI (strongR n es).1 a.toNat ≤ a) := @of_decide_eq_false _ _ z
            exact absurd (show gI (strongR n es).1 a.toNat ≤ a by rw [la]; omega) z
          have q : ((decide (gI (strongR n es).1 a.toNat = gI (strongR n es).1 b.toNat) == decide (0 ≤ gI (allsR n es b).1 a.toNat))) = false := q
          exfalso
          have e : decide (gI (strongR n es).1 a.toNat = gI (strongR n es).1 b.toNat) = decide (0 ≤ gI (allsR n es b).1 a.toNat) := by
            rw [Bool.eq_iff_iff, decide_eq_true_iff, decide_eq_true_iff, hsm, fb.2]
            exact ⟨fun h => h.2, fun h => ⟨fa.2.1 i1, h⟩⟩
          rw [e, beq_self_eq_true] at q
          cases q
        have i1 : ¬ (0 ≤ gI (allsR n es a).1 b.toNat) := @of_decide_eq_false _ _ i1
        conv => whnf
        refine cond_intro (fun q => ?_) (fun q => ?_)
        · have q : ((decide (gI (strongR n es).1 a.toNat = gI (strongR n es).1 b.toNat) == false)) = true := q
          conv => whnf
          refine ⟨ha.1, ?_⟩
          conv => whnf
          refine ⟨show a < ((strongR n es).1.length : Int) by rw [s1]; omega, ?_⟩
          conv => whnf
          refine cond_intro (fun z => ?_) (fun z => ?_)
          · have z : gI (strongR n es).1 a.toNat ≤ a := @of_decide_eq_true _ _ z
            conv => whnf
            show true = true
            rfl
          have z : ¬ (gI (strongR n es).1 a.toNat ≤ a) := @of_decide_eq_false _ _ z
          exact absurd (show gI (strongR n es).1 a.toNat ≤ a by rw [la]; omega) z
        have q : ((decide (gI (strongR n es).1 a.toNat = gI (strongR n es).1 b.toNat) == false)) = false := q
        exfalso
        have e : decide (gI (strongR n es).1 a.toNat = gI (strongR n es).1 b.toNat) = false := decide_eq_false (fun h => i1 (fa.2.2 (hsm.1 h).1))
        rw [e, beq_self_eq_true] at q
        cases q
      have d3 : ¬ (((allsR n es b).1.length : Int) = n) := @of_decide_eq_false _ _ d3
      exact absurd (show ((allsR n es b).1.length : Int) = n by rw [fb.1]; omega) d3
    have d2 : ¬ (((allsR n es a).1.length : Int) = n) := @of_decide_eq_false _ _ d2
    exact absurd (show ((allsR n es a).1.length : Int) = n by rw [fa.1]; omega) d2
  have d1 : ¬ (((strongR n es).1.length : Int) = n) := @of_decide_eq_false _ _ d1
  exact absurd (show ((strongR n es).1.length : Int) = n by rw [s1]; omega) d1
section
variable {n : Int} {es : List Ed} {a : Int}
/-- The least cost from a node. -/
def fC (es : List Ed) (a : Int) (k : Int) : Int := costOf (lpR (Re (es.map turnR)) (Tl [a]) k)
theorem fC_at (hv : validR n es = 0) (ha : 0 ≤ a ∧ a < n) {k : Int} (hk : 0 ≤ k ∧ k < n) : gI (allsR n es a).1 k.toNat = fC es a k := by
  rw [alls_ok hv ha]
  have hl : k.toNat < ((List.range n.toNat).map (fun (k : Nat) => costOf (lpR (Re (es.map turnR)) (Tl [a]) (k : Int)))).length := by rw [List.length_map, List.length_range]; omega
  show gI ((List.range n.toNat).map (fun (k : Nat) => costOf (lpR (Re (es.map turnR)) (Tl [a]) (k : Int)))) k.toNat = _
  rw [gI_eq hl]
  simp only [List.getElem_map, List.getElem_range]
  rw [show ((k.toNat : Nat) : Int) = k by omega]
  rfl
theorem fC_some {k c s : Int} (h : lpR (Re (es.map turnR)) (Tl [a]) k = some (c, s)) : fC es a k = c := by unfold fC; rw [h]; rfl
theorem fC_is {k : Int} (h : 0 ≤ fC es a k) : ∃ s, lpR (Re (es.map turnR)) (Tl [a]) k = some (fC es a k, s) := by
  unfold fC at h ⊢
  cases e : lpR (Re (es.map turnR)) (Tl [a]) k with
  | none => rw [e] at h; simp [costOf] at h
  | some p => exact ⟨p.2, rfl⟩
theorem fC_low (he : EsOk n es) (k : Int) : -1 ≤ fC es a k := by
  unfold fC
  cases e : lpR (Re (es.map turnR)) (Tl [a]) k with
  | none => simp [costOf]
  | some p =>
    have := lp_nonneg he.turn.steps (show lpR _ _ _ = some (p.1, p.2) from e)
    show -1 ≤ p.1
    omega
theorem fC_high (he : EsOk n es) (hn : n ≤ 1000) (k : Int) : fC es a k ≤ 1000000000000000 := by
  unfold fC
  cases e : lpR (Re (es.map turnR)) (Tl [a]) k with
  | none => simp [costOf]
  | some p =>
    have := lp_bnd he.turn.steps (by omega) (show lpR _ _ _ = some (p.1, p.2) from e)
    show p.1 ≤ _
    omega
theorem fC_self (he : EsOk n es) : fC es a a = 0 := fC_some (lp_some (c := 0) (s := 0) ⟨.nil List.mem_cons_self, fun c s h => by have := h.nonneg he.turn.steps; omega⟩)
theorem fC_edge (he : EsOk n es) {u v w : Int} (h : (u, v, w) ∈ es) (hu : 0 ≤ fC es a u) : 0 ≤ fC es a v ∧ fC es a v ≤ fC es a u + w := by
  obtain ⟨s, hs⟩ := fC_is hu
  have hw : Wy (Re (es.map turnR)) (Tl [a]) v (fC es a u + w) (s + 1) := .cons (mem_turn.2 h) (lp_is hs).1
  obtain ⟨p, hp⟩ := lp_ex he.turn.steps hw
  have hp : lpR (Re (es.map turnR)) (Tl [a]) v = some (p.1, p.2) := hp
  rw [fC_some hp]
  have h1 := (lp_is hp).2 _ _ hw
  have h2 := lp_nonneg he.turn.steps hp
  omega
theorem fC_tight (he : EsOk n es) {v : Int} (hv : 0 ≤ fC es a v) : v = a ∨ ∃ u w, (u, v, w) ∈ es ∧ 0 ≤ fC es a u ∧ fC es a v = fC es a u + w := by
  obtain ⟨s, hs⟩ := fC_is hv
  have h0 := lp_nonneg he.turn.steps hs
  by_cases g : 0 < s
  · right
    obtain ⟨q, w, hr, hq⟩ := lp_step he.turn.steps hs g
    have h1 := lp_nonneg he.turn.steps hq
    refine ⟨q, w, mem_turn.1 hr, ?_, ?_⟩
    · rw [fC_some hq]; exact h1.1
    · have := fC_some hq
      omega
  · left
    exact List.mem_singleton.1 (lp_zero he.turn.steps hs (by omega)).1
end
/-- What is marked behind the first edges. -/
structure TgI (es : List Ed) (a : Int) (N i : Nat) (t : List Bool) : Prop where
  lo : t.length = N
  st : gB t a.toNat = true
  yes : ∀ k, k < i → 0 ≤ fC es a (gE es k).1 → fC es a (gE es k).2.1 = fC es a (gE es k).1 + (gE es k).2.2 → gB t (gE es k).2.1.toNat = true
theorem TgI.step {es : List Ed} {a : Int} {N i : Nat} {t : List Bool} {b : Bool} (h : TgI es a N i t) (hl : (gE es i).2.1.toNat < N) (h1 : gB t (gE es i).2.1.toNat = true → b = true) (h2 : 0 ≤ fC es a (gE es i).1 → fC es a (gE es i).2.1 = fC es a (gE es i).1 + (gE es i).2.2 → b = true) : TgI es a N (i + 1) (t.set (gE es i).2.1.toNat b) := by
  have hl' : (gE es i).2.1.toNat < t.length := by rw [h.lo]; exact hl
  have up : ∀ k, gB t k = true → gB (t.set (gE es i).2.1.toNat b) k = true := by
    intro k hk
    rw [gB_set hl']
    split
    · rename_i e; exact h1 (by rw [e]; exact hk)
    · exact hk
  refine ⟨by rw [List.length_set]; exact h.lo, up _ h.st, fun k hk g1 g2 => ?_⟩
  rcases Nat.lt_or_eq_of_le (Nat.le_of_lt_succ hk) with g | g
  · exact up _ (h.yes k g g1 g2)
  · subst g
    rw [gB_set hl', if_pos rfl]
    exact h2 g1 g2
def S8a (l : List Int) (t : List Bool) (es : List Ed) (i : Int) : SL := ⟨List.replicate 7 .undef ++ [.own 0] ++ List.replicate 1 .undef ++ [.own 1] ++ List.replicate 40 .undef ++ [.sl eT es] ++ [.int .i64 es.length] ++ [.int .i64 i] ++ List.replicate 71 .undef, [(0, .arr I l), (1, .arr .bool t)], 2⟩
def S8b (l : List Int) (t : List Bool) (v : Int) : SL := ⟨List.replicate 9 .undef ++ [.own 0] ++ List.replicate 92 .undef ++ [.own 1] ++ [.int .i64 l.length] ++ [.int .i64 v] ++ List.replicate 19 .undef, [(0, .arr .bool t), (1, .arr I l)], 2⟩
def E8 : Env := ⟨tab, [(16, K16), (17, K17), (26, K26)], fun n => match n with | 11 => some ([7, 9, 50, 51, 52], [], []) | 19 => some ([9, 102, 103, 104], [], []) | _ => none⟩
def K8 : Fn1 := ⟨.fld I (.fld (.sl eT) (.one I)), .one .bool, fun _ => [], fun _ => true⟩
set_option maxHeartbeats 4000000 in
theorem k8 : FnOk Go.Proofs.Try.prog 8 K8 := by
  refine fn_ok (E := E8) (TOk.of tab_told) (AllOk.cons k16 (.cons k17 (.cons k26 .nil))).at_ mix Go.Proofs.Try.func8 rfl rfl (by kernel_rfl) K8 ?_
  rintro ⟨(n : Int), (es : List Ed), (a : Int)⟩ hp
  clear hp
  conv => whnf
  refine ⟨show 0 ≤ 100000 by omega, ?_⟩
  conv => whnf
  refine cond_intro (fun hlg => ?_) (fun hlg => ?_)
  · have hlg : (largeR es []) = true := hlg
    conv => whnf
    show true = true
    rfl
  have hlg : (largeR es []) = false := hlg
  conv => whnf
  refine cond_intro (fun e1 => ?_) (fun e1 => ?_)
  · have e1 : (!decide ((allsR n es a).2 = 0)) = true := e1
    have e1 : ¬ ((allsR n es a).2 = 0) := fun e => absurd e1 (by rw [decide_eq_true e]; decide)
    have hbd := alls_bad e1
    conv => whnf
    refine cond_intro (fun e2 => ?_) (fun e2 => ?_)
    · have e2 : ((allsR n es a).1.length : Int) = 0 := @of_decide_eq_true _ _ e2
      conv => whnf
      show true = true
      rfl
    have e2 : ¬ (((allsR n es a).1.length : Int) = 0) := @of_decide_eq_false _ _ e2
    exact absurd (by rw [hbd]; rfl) e2
  have e1 : (!decide ((allsR n es a).2 = 0)) = false := e1
  have e1 : (allsR n es a).2 = 0 := Decidable.byContradiction fun e => absurd e1 (by rw [decide_eq_false e]; decide)
  have hvv : validR n es = 0 := by
    have : nodesR n es [[a]] = 0 := by
      unfold allsR at e1
      split at e1
      · exact e1
      · rename_i g; exact Decidable.not_not.1 g
    exact (nodes_iff this).1
  have hv := hvv
  have ha := alls_err hv e1
  obtain ⟨v1, v2, v3, _⟩ := valid_iff hv
  have hes := valid_es hv
  have hal := (alls_at hv ha (k := a.toNat) (by omega)).1
  have hself := fC_at hv ha ha
  rw [fC_self hes] at hself
  conv => whnf
  refine cond_intro (fun d1 => ?_) (fun d1 => ?_)
  · have d1 : (!decide (((allsR n es a).1.length : Int) = n)) = true := d1
    have d1 : ¬ (((allsR n es a).1.length : Int) = n) := fun e => absurd d1 (by rw [decide_eq_true e]; decide)
    exact absurd (show ((allsR n es a).1.length : Int) = n by omega) d1
  have d1 : (!decide (((allsR n es a).1.length : Int) = n)) = false := d1
  have d1 : ((allsR n es a).1.length : Int) = n := Decidable.byContradiction fun e => absurd d1 (by rw [decide_eq_false e]; decide)
  conv => whnf
  refine ⟨ha.1, ?_⟩
  conv => whnf
  refine ⟨show a < ((allsR n es a).1.length : Int) by omega, ?_⟩
  conv => whnf
  refine cond_intro (fun d2 => ?_) (fun d2 => ?_)
  · have d2 : (!decide (gI (allsR n es a).1 a.toNat = 0)) = true := d2
    have d2 : ¬ (gI (allsR n es a).1 a.toNat = 0) := fun e => absurd d2 (by rw [decide_eq_true e]; decide)
    exact absurd hself d2
  have d2 : (!decide (gI (allsR n es a).1 a.toNat = 0)) = false := d2
  have d2 : gI (allsR n es a).1 a.toNat = 0 := Decidable.byContradiction fun e => absurd d2 (by rw [decide_eq_false e]; decide)
  conv => whnf
  refine ⟨v1, ?_⟩
  conv => whnf
  refine ⟨Int.le_refl _, ?_⟩
  conv => whnf
  refine ⟨show n * 1 ≤ 70368744177664 by omega, ?_⟩
  conv => whnf
  refine ⟨show n ≤ 70368744177664 by omega, ?_⟩
  conv => whnf
  refine ⟨ha.1, ?_⟩
  conv => whnf
  refine ⟨show a < ((List.replicate n.toNat false).length : Int) by rw [List.length_replicate]; omega, ?_⟩
  conv => whnf
  refine loop_rule (fun x : List Bool × Int => S8a (allsR n es a).1 x.1 es x.2) (fun x => ((es.length : Int) - x.2).toNat) (fun x => 0 ≤ x.2 ∧ x.2 ≤ es.length ∧ TgI es a n.toNat x.2.toNat x.1) ?_ ((List.replicate n.toNat false).set a.toNat true, 0) (by kernel_rfl) ?_ ⟨Int.le_refl _, by show (0 : Int) ≤ _; omega, ⟨by simp, by rw [gB_set (by rw [List.length_replicate]; omega), if_pos rfl], fun k hk => by simp at hk⟩⟩
  case refine_2 => rfl
  rintro ⟨t, i⟩ ⟨h0, i1, htg⟩
  have h0 : 0 ≤ i := h0
  have i1 : i ≤ es.length := i1
  have htg : TgI es a n.toNat i.toNat t := htg
  conv => whnf
  refine cond_intro (fun hlt => ?_) (fun hlt => ?_)
  · have hlt : i < (es.length : Int) := @of_decide_eq_true _ _ hlt
    have wi : IntKind.i64.wrap (i + 1) = i + 1 := wrap_eq (by omega) (by omega)
    have ei : (i + 1).toNat = i.toNat + 1 := by omega
    have hee := hes.ok _ (gE_mem (n := i.toNat) (l := es) (by omega))
    have eu := fC_at hv ha hee.1
    have ev := fC_at hv ha hee.2.1
    have hlo := htg.lo
    have ul : (gE es i.toNat).1 < ((allsR n es a).1.length : Int) := by omega
    have vl : (gE es i.toNat).2.1 < ((allsR n es a).1.length : Int) := by omega
    have tl : (gE es i.toNat).2.1 < (t.length : Int) := by omega
    have hlow := fC_low (a := a) hes (gE es i.toNat).1
    have hhigh := fC_high (a := a) hes (by omega) (gE es i.toNat).1
    have ws : IntKind.i64.wrap (gI (allsR n es a).1 (gE es i.toNat).1.toNat + (gE es i.toNat).2.2) = gI (allsR n es a).1 (gE es i.toNat).1.toNat + (gE es i.toNat).2.2 := wrap_eq (by omega) (by omega)
    have hed := fun h => fC_edge (a := a) (w := (gE es i.toNat).2.2) hes (u := (gE es i.toNat).1) (v := (gE es i.toNat).2.1) (gE_mem (n := i.toNat) (l := es) (by omega)) h
    conv => whnf
    refine ⟨h0, ?_⟩
    conv => whnf
    refine ⟨hlt, ?_⟩
    conv => whnf
    refine ⟨hee.1.1, ?_⟩
    conv => whnf
    refine ⟨ul, ?_⟩
    conv => whnf
    refine ⟨hee.2.1.1, ?_⟩
    conv => whnf
    refine ⟨vl, ?_⟩
    conv => whnf
    refine cond_intro (fun c1 => ?_) (fun c1 => ?_)
    · have c1 : 0 ≤ gI (allsR n es a).1 (gE es i.toNat).1.toNat := @of_decide_eq_true _ _ c1
      have hed := hed (by rw [← eu]; exact c1)
      rw [← eu, ← ev] at hed
      conv => whnf
      refine cond_intro (fun c2 => ?_) (fun c2 => ?_)
      · have c2 : gI (allsR n es a).1 (gE es i.toNat).2.1.toNat < 0 := @of_decide_eq_true _ _ c2
        exact absurd hed.1 (by omega)
      have c2 : ¬ (gI (allsR n es a).1 (gE es i.toNat).2.1.toNat < 0) := @of_decide_eq_false _ _ c2
      conv => whnf
      refine cond_intro (fun c3 => ?_) (fun c3 => ?_)
      · have c3 : IntKind.i64.wrap (gI (allsR n es a).1 (gE es i.toNat).1.toNat + (gE es i.toNat).2.2) < gI (allsR n es a).1 (gE es i.toNat).2.1.toNat := @of_decide_eq_true _ _ c3
        rw [ws] at c3
        exact absurd hed.2 (by omega)
      have c3 : ¬ (IntKind.i64.wrap (gI (allsR n es a).1 (gE es i.toNat).1.toNat + (gE es i.toNat).2.2) < gI (allsR n es a).1 (gE es i.toNat).2.1.toNat) := @of_decide_eq_false _ _ c3
      conv => whnf
      refine ⟨hee.2.1.1, ?_⟩
      conv => whnf
      refine ⟨tl, ?_⟩
      conv => whnf
      refine cond_intro (fun b1 => ?_) (fun b1 => ?_)
      · have b1 : (gB t (gE es i.toNat).2.1.toNat) = true := b1
        conv => whnf
        refine ⟨hee.2.1.1, ?_⟩
        conv => whnf
        refine ⟨tl, ?_⟩
        conv => whnf
        refine ⟨(t.set (gE es i.toNat).2.1.toNat (true), i + 1), ?_, ⟨by show 0 ≤ i + 1; omega, by show i + 1 ≤ _; omega, by show TgI _ _ _ (i + 1).toNat _; rw [ei]; exact htg.step (by omega) (fun _ => rfl) (fun _ _ => rfl)⟩, by show ((es.length : Int) - (i + 1)).toNat < ((es.length : Int) - i).toNat; omega⟩
        exact Eq.trans (b := S8a (allsR n es a).1 (t.set (gE es i.toNat).2.1.toNat (true)) es (IntKind.i64.wrap (i + 1))) rfl (by rw [wi])
      have b1 : (gB t (gE es i.toNat).2.1.toNat) = false := b1
      conv => whnf
      refine cond_intro (fun b2 => ?_) (fun b2 => ?_)
      · have b2 : 0 ≤ gI (allsR n es a).1 (gE es i.toNat).1.toNat := @of_decide_eq_true _ _ b2
        conv => whnf
        refine ⟨hee.2.1.1, ?_⟩
        conv => whnf
        refine ⟨tl, ?_⟩
        conv => whnf
        refine ⟨(t.set (gE es i.toNat).2.1.toNat (decide (gI (allsR n es a).1 (gE es i.toNat).2.1.toNat = IntKind.i64.wrap (gI (allsR n es a).1 (gE es i.toNat).1.toNat + (gE es i.toNat).2.2))), i + 1), ?_, ⟨by show 0 ≤ i + 1; omega, by show i + 1 ≤ _; omega, by show TgI _ _ _ (i + 1).toNat _; rw [ei]; exact htg.step (by omega) (fun h => by rw [b1] at h; cases h) (fun _ h => decide_eq_true (by rw [ws, eu, ev]; exact h))⟩, by show ((es.length : Int) - (i + 1)).toNat < ((es.length : Int) - i).toNat; omega⟩
        exact Eq.trans (b := S8a (allsR n es a).1 (t.set (gE es i.toNat).2.1.toNat (decide (gI (allsR n es a).1 (gE es i.toNat).2.1.toNat = IntKind.i64.wrap (gI (allsR n es a).1 (gE es i.toNat).1.toNat + (gE es i.toNat).2.2)))) es (IntKind.i64.wrap (i + 1))) rfl (by rw [wi])
      have b2 : ¬ (0 ≤ gI (allsR n es a).1 (gE es i.toNat).1.toNat) := @of_decide_eq_false _ _ b2
      conv => whnf
      refine ⟨hee.2.1.1, ?_⟩
      conv => whnf
      refine ⟨tl, ?_⟩
      conv => whnf
      refine ⟨(t.set (gE es i.toNat).2.1.toNat (false), i + 1), ?_, ⟨by show 0 ≤ i + 1; omega, by show i + 1 ≤ _; omega, by show TgI _ _ _ (i + 1).toNat _; rw [ei]; exact htg.step (by omega) (fun h => by rw [b1] at h; cases h) (fun h _ => absurd (show 0 ≤ gI (allsR n es a).1 (gE es i.toNat).1.toNat by rw [eu]; exact h) b2)⟩, by show ((es.length : Int) - (i + 1)).toNat < ((es.length : Int) - i).toNat; omega⟩
      exact Eq.trans (b := S8a (allsR n es a).1 (t.set (gE es i.toNat).2.1.toNat (false)) es (IntKind.i64.wrap (i + 1))) rfl (by rw [wi])
    have c1 : ¬ (0 ≤ gI (allsR n es a).1 (gE es i.toNat).1.toNat) := @of_decide_eq_false _ _ c1
    conv => whnf
    refine ⟨hee.2.1.1, ?_⟩
    conv => whnf
    refine ⟨tl, ?_⟩
    conv => whnf
    refine cond_intro (fun b1 => ?_) (fun b1 => ?_)
    · have b1 : (gB t (gE es i.toNat).2.1.toNat) = true := b1
      conv => whnf
      refine ⟨hee.2.1.1, ?_⟩
      conv => whnf
      refine ⟨tl, ?_⟩
      conv => whnf
      refine ⟨(t.set (gE es i.toNat).2.1.toNat (true), i + 1), ?_, ⟨by show 0 ≤ i + 1; omega, by show i + 1 ≤ _; omega, by show TgI _ _ _ (i + 1).toNat _; rw [ei]; exact htg.step (by omega) (fun _ => rfl) (fun _ _ => rfl)⟩, by show ((es.length : Int) - (i + 1)).toNat < ((es.length : Int) - i).toNat; omega⟩
      exact Eq.trans (b := S8a (allsR n es a).1 (t.set (gE es i.toNat).2.1.toNat (true)) es (IntKind.i64.wrap (i + 1))) rfl (by rw [wi])
    have b1 : (gB t (gE es i.toNat).2.1.toNat) = false := b1
    conv => whnf
    refine cond_intro (fun b2 => ?_) (fun b2 => ?_)
    · have b2 : 0 ≤ gI (allsR n es a).1 (gE es i.toNat).1.toNat := @of_decide_eq_true _ _ b2
      conv => whnf
      refine ⟨hee.2.1.1, ?_⟩
      conv => whnf
      refine ⟨tl, ?_⟩
      conv => whnf
      refine ⟨(t.set (gE es i.toNat).2.1.toNat (decide (gI (allsR n es a).1 (gE es i.toNat).2.1.toNat = IntKind.i64.wrap (gI (allsR n es a).1 (gE es i.toNat).1.toNat + (gE es i.toNat).2.2))), i + 1), ?_, ⟨by show 0 ≤ i + 1; omega, by show i + 1 ≤ _; omega, by show TgI _ _ _ (i + 1).toNat _; rw [ei]; exact htg.step (by omega) (fun h => by rw [b1] at h; cases h) (fun _ h => decide_eq_true (by rw [ws, eu, ev]; exact h))⟩, by show ((es.length : Int) - (i + 1)).toNat < ((es.length : Int) - i).toNat; omega⟩
      exact Eq.trans (b := S8a (allsR n es a).1 (t.set (gE es i.toNat).2.1.toNat (decide (gI (allsR n es a).1 (gE es i.toNat).2.1.toNat = IntKind.i64.wrap (gI (allsR n es a).1 (gE es i.toNat).1.toNat + (gE es i.toNat).2.2)))) es (IntKind.i64.wrap (i + 1))) rfl (by rw [wi])
    have b2 : ¬ (0 ≤ gI (allsR n es a).1 (gE es i.toNat).1.toNat) := @of_decide_eq_false _ _ b2
    conv => whnf
    refine ⟨hee.2.1.1, ?_⟩
    conv => whnf
    refine ⟨tl, ?_⟩
    conv => whnf
    refine ⟨(t.set (gE es i.toNat).2.1.toNat (false), i + 1), ?_, ⟨by show 0 ≤ i + 1; omega, by show i + 1 ≤ _; omega, by show TgI _ _ _ (i + 1).toNat _; rw [ei]; exact htg.step (by omega) (fun h => by rw [b1] at h; cases h) (fun h _ => absurd (show 0 ≤ gI (allsR n es a).1 (gE es i.toNat).1.toNat by rw [eu]; exact h) b2)⟩, by show ((es.length : Int) - (i + 1)).toNat < ((es.length : Int) - i).toNat; omega⟩
    exact Eq.trans (b := S8a (allsR n es a).1 (t.set (gE es i.toNat).2.1.toNat (false)) es (IntKind.i64.wrap (i + 1))) rfl (by rw [wi])
  have hlt : ¬ (i < (es.length : Int)) := @of_decide_eq_false _ _ hlt
  rw [show i.toNat = es.length by omega] at htg
  have hlo := htg.lo
  conv => whnf
  refine loop_rule (fun v => S8b (allsR n es a).1 t v) (fun v => (n - v).toNat) (fun v => 0 ≤ v ∧ v ≤ n) ?_ 0 (by kernel_rfl) ?_ ⟨Int.le_refl _, v1⟩
  case refine_2 => rfl
  rintro v ⟨v0, v1'⟩
  conv => whnf
  refine cond_intro (fun vlt => ?_) (fun vlt => ?_)
  · have vlt : v < ((allsR n es a).1.length : Int) := @of_decide_eq_true _ _ vlt
    have wv : IntKind.i64.wrap (v + 1) = v + 1 := wrap_eq (by omega) (by omega)
    have ev : (v + 1).toNat = v.toNat + 1 := by omega
    have evv := fC_at hv ha (k := v) (by omega)
    have hlow := fC_low (a := a) hes v
    have vt : v < (t.length : Int) := by omega
    conv => whnf
    refine ⟨v0, ?_⟩
    conv => whnf
    refine ⟨vlt, ?_⟩
    conv => whnf
    refine cond_intro (fun c1 => ?_) (fun c1 => ?_)
    · have c1 : gI (allsR n es a).1 v.toNat < -1 := @of_decide_eq_true _ _ c1
      exact absurd hlow (by omega)
    have c1 : ¬ (gI (allsR n es a).1 v.toNat < -1) := @of_decide_eq_false _ _ c1
    conv => whnf
    refine cond_intro (fun c2 => ?_) (fun c2 => ?_)
    · have c2 : 0 ≤ gI (allsR n es a).1 v.toNat := @of_decide_eq_true _ _ c2
      have htt : gB t v.toNat = true := by
        rcases fC_tight (a := a) hes (by rw [← evv]; exact c2) with e | ⟨u, w, e1, e2, e3⟩
        · rw [e]; exact htg.st
        · obtain ⟨k, hk, ek⟩ := List.getElem_of_mem e1
          have := htg.yes k (by omega)
          rw [gE_eq hk, ek] at this
          exact this e2 e3
      conv => whnf
      refine ⟨v0, ?_⟩
      conv => whnf
      refine ⟨vt, ?_⟩
      conv => whnf
      refine cond_intro (fun c3 => ?_) (fun c3 => ?_)
      · have c3 : (!(gB t v.toNat)) = true := c3
        have c3 : (gB t v.toNat) = false := by cases e : (gB t v.toNat) with | false => rfl | true => exact absurd c3 (by rw [e]; decide)
        rw [htt] at c3
        cases c3
      have c3 : (!(gB t v.toNat)) = false := c3
      have c3 : (gB t v.toNat) = true := by cases e : (gB t v.toNat) with | true => rfl | false => exact absurd c3 (by rw [e]; decide)
      conv => whnf
      refine ⟨v + 1, ?_, ⟨by omega, by omega⟩, by omega⟩
      exact Eq.trans (b := S8b (allsR n es a).1 t (IntKind.i64.wrap (v + 1))) rfl (by rw [wv])
    have c2 : ¬ (0 ≤ gI (allsR n es a).1 v.toNat) := @of_decide_eq_false _ _ c2
    conv => whnf
    refine ⟨v + 1, ?_, ⟨by omega, by omega⟩, by omega⟩
    exact Eq.trans (b := S8b (allsR n es a).1 t (IntKind.i64.wrap (v + 1))) rfl (by rw [wv])
  have vlt : ¬ (v < ((allsR n es a).1.length : Int)) := @of_decide_eq_false _ _ vlt
  conv => whnf
  show true = true
  rfl
end
end Go.Proofs.Ythgclbohlcgdgaa.Eng
