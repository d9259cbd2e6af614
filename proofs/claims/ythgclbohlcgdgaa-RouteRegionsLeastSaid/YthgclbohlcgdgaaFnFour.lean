/- What the functions that the law reaches answer, each for every input. -/
import Derived.Test.YthgclbohlcgdgaaFnThree
set_option linter.unusedVariables false
set_option linter.unusedSimpArgs false
set_option linter.unusedVariables false
set_option linter.unusedSimpArgs false
namespace Go.Proofs.Ythgclbohlcgdgaa.Eng
open Go
set_option maxRecDepth 100000
noncomputable section
theorem reg_len (n : Int) (es : List Ed) (rg : List Int) (fr to : Int) : (regR n es rg fr to).2.1.length ≤ 1000000 := by
  unfold regR
  split
  · simp
  · rename_i hn
    split
    · simp
    · obtain ⟨hv, _⟩ := nodes_iff (Decidable.not_not.1 hn)
      have h4 := valid_iff hv
      split
      · rename_i p hp
        show (wayR _ _ p.2.toNat _).length ≤ _
        rw [wayR_len]
        have := lp_bnd (upp_ok (rg := rg) (fr := fr) (to := to) hv).1.steps (by omega) (show lpR (Re (uppR n es rg fr to)) (Tl [to]) fr = some (p.1, p.2) from hp)
        omega
      · simp
theorem reg_err {n : Int} {es : List Ed} {rg : List Int} {fr to : Int} (h : ¬ (regR n es rg fr to).2.2.2 = 0) : (regR n es rg fr to).1 = 0 ∧ (regR n es rg fr to).2.1 = [] ∧ (regR n es rg fr to).2.2.1 = false := by
  unfold regR at h ⊢
  split
  · exact ⟨rfl, rfl, rfl⟩
  · rename_i h1
    rw [if_neg h1] at h
    split
    · exact ⟨rfl, rfl, rfl⟩
    · rename_i h2
      rw [if_neg h2] at h
      split
      · rename_i p hp; rw [hp] at h; exact absurd rfl h
      · exact ⟨rfl, rfl, rfl⟩
theorem reg_no {n : Int} {es : List Ed} {rg : List Int} {fr to : Int} (h : (regR n es rg fr to).2.2.2 = 0) : nodesR n es [[fr, to]] = 0 ∧ (rg.length : Int) = n := by
  unfold regR at h
  split at h
  · rename_i h1; exact absurd h h1
  · rename_i h1
    split at h
    · cases h
    · rename_i h2; exact ⟨Decidable.not_not.1 h1, Decidable.not_not.1 h2⟩
theorem way_end {n : Int} {es : List Ed} {T : Int → Prop} (he : EsOk n es) : ∀ (s : Nat) (k c : Int), lpR (Re es) T k = some (c, (s : Int)) → T (gI (wayR (Re es) T s k) s)
  | 0, k, c, h => (lp_zero he.steps h (by omega)).1
  | s + 1, k, c, h => by
    obtain ⟨w, h1, _, h2⟩ := nx_lp he h (by omega)
    exact way_end he s _ (c - w) (by rw [h1]; congr 2; omega)
/-- What the ways by regions and the least ones tell. -/
theorem reg_least {n : Int} {es : List Ed} {rg : List Int} {fr to : Int} (h : (regR n es rg fr to).2.2.2 = 0) : (leastR n es [fr] [to]).2.2.2 = 0 ∧ (leastR n es [fr] [to]).2.2.1 = (regR n es rg fr to).2.2.1 ∧ (leastR n es [fr] [to]).2.1 = (regR n es rg fr to).1 ∧
    ((regR n es rg fr to).2.2.1 = true → 0 < (regR n es rg fr to).2.1.length ∧ gI (regR n es rg fr to).2.1 0 = fr ∧ gI (regR n es rg fr to).2.1 ((regR n es rg fr to).2.1.length - 1) = to) := by
  obtain ⟨hnd, hgl⟩ := reg_no h
  obtain ⟨hv, hnn⟩ := nodes_iff hnd
  have hes := valid_es hv
  have hf : 0 ≤ fr ∧ fr < n := hnn [fr, to] List.mem_cons_self fr List.mem_cons_self
  have ht : 0 ≤ to ∧ to < n := hnn [fr, to] List.mem_cons_self to (List.mem_cons_of_mem _ List.mem_cons_self)
  have hn2 : nodesR n es [[fr], [to]] = 0 := by rw [nodes2 hv, if_pos]; simp [allR, isR_iff, hf, ht]
  have hup := (upp_ok (rg := rg) (fr := fr) (to := to) hv).1
  refine ⟨by rw [least_err]; exact hn2, ?_⟩
  rw [reg_ok hnd hgl]
  rcases upp_least (rg := rg) hv hf ht with ⟨h1, h2⟩ | ⟨c, s, s', h1, h2⟩
  · rw [h1]
    have hbn : bestR (lpR (Re es) (Tl [to])) [fr] = -1 := by
      show (if betterL (lpR (Re es) (Tl [to])) fr (-1) = true then fr else -1) = -1
      rw [if_neg]
      unfold betterL
      rw [h2]
      exact fun h => by cases h
    rw [least_none hn2 (by rw [hbn]; omega)]
    exact ⟨rfl, rfl, fun h => by cases h⟩
  · rw [h1]
    have hb1 : bestR (lpR (Re es) (Tl [to])) [fr] = fr := by
      show (if betterL (lpR (Re es) (Tl [to])) fr (-1) = true then fr else -1) = fr
      rw [if_pos]
      unfold betterL
      rw [h2]
      rfl
    rw [least_some hn2 (by rw [hb1]; omega) (by rw [hb1]; exact h2)]
    have h0 := lp_nonneg hup.steps h1
    refine ⟨rfl, rfl, fun _ => ⟨?_, ?_, ?_⟩⟩
    · show 0 < (wayR (Re (uppR n es rg fr to)) (Tl [to]) s.toNat fr).length
      rw [wayR_len]; omega
    · show gI (wayR (Re (uppR n es rg fr to)) (Tl [to]) s.toNat fr) 0 = fr
      rw [wayR_tail]; rfl
    · show gI (wayR (Re (uppR n es rg fr to)) (Tl [to]) s.toNat fr) ((wayR (Re (uppR n es rg fr to)) (Tl [to]) s.toNat fr).length - 1) = to
      rw [wayR_len, Nat.add_sub_cancel]
      exact List.mem_singleton.1 (way_end hup s.toNat fr c (by rw [h1]; congr 2; omega))
def E11 : Env := ⟨tab, [(16, K16), (17, K17), (32, K32), (33, K33), (22, K22)], ann0⟩
def K11 : Fn1 := ⟨.fld I (.fld (.sl eT) (.fld (.sl I) (.fld I (.one I)))), .one .bool, fun _ => [], fun _ => true⟩
theorem k11 : FnOk Go.Proofs.Try.prog 11 K11 := by
  refine fn_ok (E := E11) (TOk.of tab_told) (AllOk.cons k16 (.cons k17 (.cons k32 (.cons k33 (.cons k22 .nil))))).at_ mix Go.Proofs.Try.func11 rfl rfl (by kernel_rfl) K11 ?_
  rintro ⟨(n : Int), (es : List Ed), (rg : List Int), (fr : Int), (to : Int)⟩ hp
  clear hp
  conv => whnf
  refine ⟨show 1 ≤ 100000 by omega, ?_⟩
  conv => whnf
  refine cond_intro (fun hlg => ?_) (fun hlg => ?_)
  · have hlg : (largeR es [rg]) = true := hlg
    conv => whnf
    show true = true
    rfl
  have hlg : (largeR es [rg]) = false := hlg
  conv => whnf
  refine cond_intro (fun q1 => ?_) (fun q1 => ?_)
  · have q1 : (regR n es rg fr to).1 = (regR n es rg fr to).1 := @of_decide_eq_true _ _ q1
    conv => whnf
    refine cond_intro (fun q2 => ?_) (fun q2 => ?_)
    · have q2 : (((regR n es rg fr to).2.2.1 == (regR n es rg fr to).2.2.1)) = true := q2
      conv => whnf
      refine cond_intro (fun q3 => ?_) (fun q3 => ?_)
      · have q3 : (regR n es rg fr to).2.2.2 = (regR n es rg fr to).2.2.2 := @of_decide_eq_true _ _ q3
        have hll := reg_len n es rg fr to
        conv => whnf
        refine ⟨show (regR n es rg fr to).2.1.length ≤ 1000000000 by omega, ?_⟩
        conv => whnf
        refine cond_intro (fun q5 => ?_) (fun q5 => ?_)
        · have q5 : (eqI (regR n es rg fr to).2.1 (regR n es rg fr to).2.1) = true := q5
          conv => whnf
          show true = true
          rfl
        have q5 : (eqI (regR n es rg fr to).2.1 (regR n es rg fr to).2.1) = false := q5
        exact absurd q5 (by unfold eqI; rw [decide_eq_true rfl]; decide)
      have q3 : ¬ ((regR n es rg fr to).2.2.2 = (regR n es rg fr to).2.2.2) := @of_decide_eq_false _ _ q3
      exact absurd rfl q3
    have q2 : (((regR n es rg fr to).2.2.1 == (regR n es rg fr to).2.2.1)) = false := q2
    exact absurd q2 (by rw [beq_self_eq_true]; decide)
  have q1 : ¬ ((regR n es rg fr to).1 = (regR n es rg fr to).1) := @of_decide_eq_false _ _ q1
  exact absurd rfl q1
def E12 : Env := ⟨tab, [(16, K16), (17, K17), (32, K32), (20, K20)], ann0⟩
def K12 : Fn1 := ⟨.fld I (.fld (.sl eT) (.fld (.sl I) (.fld I (.one I)))), .one .bool, fun _ => [], fun _ => true⟩
theorem k12 : FnOk Go.Proofs.Try.prog 12 K12 := by
  refine fn_ok (E := E12) (TOk.of tab_told) (AllOk.cons k16 (.cons k17 (.cons k32 (.cons k20 .nil)))).at_ mix Go.Proofs.Try.func12 rfl rfl (by kernel_rfl) K12 ?_
  rintro ⟨(n : Int), (es : List Ed), (rg : List Int), (fr : Int), (to : Int)⟩ hp
  clear hp
  conv => whnf
  refine ⟨show 1 ≤ 100000 by omega, ?_⟩
  conv => whnf
  refine cond_intro (fun hlg => ?_) (fun hlg => ?_)
  · have hlg : (largeR es [rg]) = true := hlg
    conv => whnf
    show true = true
    rfl
  have hlg : (largeR es [rg]) = false := hlg
  conv => whnf
  refine cond_intro (fun he => ?_) (fun he => ?_)
  · have he : (!decide ((regR n es rg fr to).2.2.2 = 0)) = true := he
    have he : ¬ ((regR n es rg fr to).2.2.2 = 0) := fun e => absurd he (by rw [decide_eq_true e]; decide)
    obtain ⟨b1, b2, b3⟩ := reg_err he
    conv => whnf
    refine cond_intro (fun g1 => ?_) (fun g1 => ?_)
    · have g1 : (!((regR n es rg fr to).2.2.1)) = true := g1
      have g1 : ((regR n es rg fr to).2.2.1) = false := by cases e : ((regR n es rg fr to).2.2.1) with | false => rfl | true => exact absurd g1 (by rw [e]; decide)
      conv => whnf
      refine cond_intro (fun g2 => ?_) (fun g2 => ?_)
      · have g2 : (regR n es rg fr to).1 = 0 := @of_decide_eq_true _ _ g2
        conv => whnf
        refine cond_intro (fun g3 => ?_) (fun g3 => ?_)
        · have g3 : ((regR n es rg fr to).2.1.length : Int) = 0 := @of_decide_eq_true _ _ g3
          conv => whnf
          show true = true
          rfl
        have g3 : ¬ (((regR n es rg fr to).2.1.length : Int) = 0) := @of_decide_eq_false _ _ g3
        exact absurd (by rw [b2]; rfl) g3
      have g2 : ¬ ((regR n es rg fr to).1 = 0) := @of_decide_eq_false _ _ g2
      exact absurd b1 g2
    have g1 : (!((regR n es rg fr to).2.2.1)) = false := g1
    have g1 : ((regR n es rg fr to).2.2.1) = true := by cases e : ((regR n es rg fr to).2.2.1) with | true => rfl | false => exact absurd g1 (by rw [e]; decide)
    rw [b3] at g1
    cases g1
  have he : (!decide ((regR n es rg fr to).2.2.2 = 0)) = false := he
  have he : (regR n es rg fr to).2.2.2 = 0 := Decidable.byContradiction fun e => absurd he (by rw [decide_eq_false e]; decide)
  obtain ⟨y1, y2, y3, y4⟩ := reg_least he
  conv => whnf
  refine ⟨show 1 ≤ 1000000000 by omega, ?_⟩
  conv => whnf
  refine ⟨show 1 ≤ 1000000000 by omega, ?_⟩
  conv => whnf
  refine cond_intro (fun hok => ?_) (fun hok => ?_)
  · have hok : ((regR n es rg fr to).2.2.1) = true := hok
    obtain ⟨z1, z2, z3⟩ := y4 hok
    have hll := reg_len n es rg fr to
    have wl : IntKind.i64.wrap (((regR n es rg fr to).2.1.length : Int) - 1) = ((regR n es rg fr to).2.1.length : Int) - 1 := wrap_eq (by omega) (by omega)
    have tl : (((regR n es rg fr to).2.1.length : Int) - 1).toNat = (regR n es rg fr to).2.1.length - 1 := by omega
    conv => whnf
    refine cond_intro (fun s1 => ?_) (fun s1 => ?_)
    · have s1 : ((regR n es rg fr to).2.1.length : Int) = 0 := @of_decide_eq_true _ _ s1
      exact absurd s1 (by omega)
    have s1 : ¬ (((regR n es rg fr to).2.1.length : Int) = 0) := @of_decide_eq_false _ _ s1
    conv => whnf
    refine ⟨Int.le_refl _, ?_⟩
    conv => whnf
    refine ⟨show (0 : Int) < ((regR n es rg fr to).2.1.length : Int) by omega, ?_⟩
    conv => whnf
    refine cond_intro (fun s2 => ?_) (fun s2 => ?_)
    · have s2 : (!decide (gI (regR n es rg fr to).2.1 0 = fr)) = true := s2
      have s2 : ¬ (gI (regR n es rg fr to).2.1 0 = fr) := fun e => absurd s2 (by rw [decide_eq_true e]; decide)
      exact absurd z2 s2
    have s2 : (!decide (gI (regR n es rg fr to).2.1 0 = fr)) = false := s2
    have s2 : gI (regR n es rg fr to).2.1 0 = fr := Decidable.byContradiction fun e => absurd s2 (by rw [decide_eq_false e]; decide)
    conv => whnf
    refine ⟨show 0 ≤ IntKind.i64.wrap (((regR n es rg fr to).2.1.length : Int) - 1) by omega, ?_⟩
    conv => whnf
    refine ⟨show IntKind.i64.wrap (((regR n es rg fr to).2.1.length : Int) - 1) < ((regR n es rg fr to).2.1.length : Int) by omega, ?_⟩
    conv => whnf
    refine cond_intro (fun s3 => ?_) (fun s3 => ?_)
    · have s3 : (!decide (gI (regR n es rg fr to).2.1 (IntKind.i64.wrap (((regR n es rg fr to).2.1.length : Int) - 1)).toNat = to)) = true := s3
      have s3 : ¬ (gI (regR n es rg fr to).2.1 (IntKind.i64.wrap (((regR n es rg fr to).2.1.length : Int) - 1)).toNat = to) := fun e => absurd s3 (by rw [decide_eq_true e]; decide)
      exact absurd (by rw [wl, tl]; exact z3) s3
    have s3 : (!decide (gI (regR n es rg fr to).2.1 (IntKind.i64.wrap (((regR n es rg fr to).2.1.length : Int) - 1)).toNat = to)) = false := s3
    have s3 : gI (regR n es rg fr to).2.1 (IntKind.i64.wrap (((regR n es rg fr to).2.1.length : Int) - 1)).toNat = to := Decidable.byContradiction fun e => absurd s3 (by rw [decide_eq_false e]; decide)
    conv => whnf
    refine cond_intro (fun r1 => ?_) (fun r1 => ?_)
    · have r1 : (leastR n es [fr] [to]).2.2.2 = 0 := @of_decide_eq_true _ _ r1
      conv => whnf
      refine cond_intro (fun r2 => ?_) (fun r2 => ?_)
      · have r2 : (((regR n es rg fr to).2.2.1 == (leastR n es [fr] [to]).2.2.1)) = true := r2
        conv => whnf
        refine cond_intro (fun r3 => ?_) (fun r3 => ?_)
        · have r3 : (regR n es rg fr to).1 = (leastR n es [fr] [to]).2.1 := @of_decide_eq_true _ _ r3
          conv => whnf
          show true = true
          rfl
        have r3 : ¬ ((regR n es rg fr to).1 = (leastR n es [fr] [to]).2.1) := @of_decide_eq_false _ _ r3
        exact absurd y3.symm r3
      have r2 : (((regR n es rg fr to).2.2.1 == (leastR n es [fr] [to]).2.2.1)) = false := r2
      rw [y2, beq_self_eq_true] at r2
      cases r2
    have r1 : ¬ ((leastR n es [fr] [to]).2.2.2 = 0) := @of_decide_eq_false _ _ r1
    exact absurd y1 r1
  have hok : ((regR n es rg fr to).2.2.1) = false := hok
  conv => whnf
  refine cond_intro (fun r1 => ?_) (fun r1 => ?_)
  · have r1 : (leastR n es [fr] [to]).2.2.2 = 0 := @of_decide_eq_true _ _ r1
    conv => whnf
    refine cond_intro (fun r2 => ?_) (fun r2 => ?_)
    · have r2 : (((regR n es rg fr to).2.2.1 == (leastR n es [fr] [to]).2.2.1)) = true := r2
      conv => whnf
      refine cond_intro (fun r3 => ?_) (fun r3 => ?_)
      · have r3 : (regR n es rg fr to).1 = (leastR n es [fr] [to]).2.1 := @of_decide_eq_true _ _ r3
        conv => whnf
        show true = true
        rfl
      have r3 : ¬ ((regR n es rg fr to).1 = (leastR n es [fr] [to]).2.1) := @of_decide_eq_false _ _ r3
      exact absurd y3.symm r3
    have r2 : (((regR n es rg fr to).2.2.1 == (leastR n es [fr] [to]).2.2.1)) = false := r2
    rw [y2, beq_self_eq_true] at r2
    cases r2
  have r1 : ¬ ((leastR n es [fr] [to]).2.2.2 = 0) := @of_decide_eq_false _ _ r1
  exact absurd y1 r1
end
end Go.Proofs.Ythgclbohlcgdgaa.Eng
