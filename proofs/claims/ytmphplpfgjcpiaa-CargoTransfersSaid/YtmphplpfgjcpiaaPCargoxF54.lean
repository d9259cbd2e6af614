/- Lean functions with the answers of the Go functions that a law uses,and for each that the Go code comes to just that; written by a program of this session's. -/
import Derived.Test.YtmphplpfgjcpiaaPCargox0
namespace Go.Proofs.Ytmphplpfgjcpiaa.PCargo
open Go.RowKit Go.Proofs.YtmphplpfgjcpiaaW.PrintWords Go.Proofs.YtmphplpfgjcpiaaW.PrintLast Go.Proofs.YtmphplpfgjcpiaaW.PrintMore
attribute [local go_sem] max2_int min2_int max_two min_two max_three min_three max_four min_four   -- for this text's walks alone
set_option linter.unusedVariables false
set_option linter.unusedSimpArgs false

/-! ### cargo_steps: function 54 -/
def cargo_steps.f (a0 : Int) (a1 : Int) (a2 : Int) : Option (Int):=if a0 = 0 then (none) else (some (wrap64 ((mx (wrap64 ((Int.tmod a1 a0) - (Int.tmod a2 a0))) (wrap64 (-(wrap64 ((Int.tmod a1 a0) - (Int.tmod a2 a0)))))) + (mx (wrap64 ((wrap64 (Int.tdiv a1 a0)) - (wrap64 (Int.tdiv a2 a0)))) (wrap64 (-(wrap64 ((wrap64 (Int.tdiv a1 a0)) - (wrap64 (Int.tdiv a2 a0))))))))))
set_option maxHeartbeats 8000000 in
set_option maxRecDepth 100000 in
theorem cargo_steps.calls (a0 : Int) (a1 : Int) (a2 : Int) (r : Int) (w : World) (h : cargo_steps.f a0 a1 a2 = some r) :
  Calls Try.prog 54 #[.int .i64 a0,.int .i64 a1,.int .i64 a2] w fun e w' => e = .returned (.int .i64 r) ∧ Below w.heap.size w w':=by
 have HB:=Aside0.mk (Below.refl w.heap.size w);have H : (if a0 = 0 then (none) else (some (wrap64 ((mx (wrap64 ((Int.tmod a1 a0) - (Int.tmod a2 a0))) (wrap64 (-(wrap64 ((Int.tmod a1 a0) - (Int.tmod a2 a0)))))) + (mx (wrap64 ((wrap64 (Int.tdiv a1 a0)) - (wrap64 (Int.tdiv a2 a0)))) (wrap64 (-(wrap64 ((wrap64 (Int.tdiv a1 a0)) - (wrap64 (Int.tdiv a2 a0))))))))))) = some r:=h;clear h
 by_cases c4 : a0 = 0
 ·rw [if_pos c4] at H
  exact absurd H (by simp)
 ·rw [if_neg c4] at H
  have c4b0 : (a0 == 0) = false:=beq_eq_false_iff_ne.mpr c4;have c4b1 : (a0 != 0) = true:=bne_iff_ne.mpr c4;obtain ⟨ji5,hji5⟩ : ∃ j_ : Int,(mx (wrap64 ((Int.tmod a1 a0) - (Int.tmod a2 a0))) (wrap64 (-(wrap64 ((Int.tmod a1 a0) - (Int.tmod a2 a0)))))) = j_:=⟨_,rfl⟩
  replace H : (some (wrap64 (ji5 + (mx (wrap64 ((wrap64 (Int.tdiv a1 a0)) - (wrap64 (Int.tdiv a2 a0)))) (wrap64 (-(wrap64 ((wrap64 (Int.tdiv a1 a0)) - (wrap64 (Int.tdiv a2 a0)))))))))) = some r:=by first | (rw [hji5] at H; exact H) | (simp only [hji5] at H ⊢; exact H)
  have hji5_ : (if (wrap64 ((Int.tmod a1 a0) - (Int.tmod a2 a0))) < (wrap64 (-(wrap64 ((Int.tmod a1 a0) - (Int.tmod a2 a0))))) then (wrap64 (-(wrap64 ((Int.tmod a1 a0) - (Int.tmod a2 a0))))) else (wrap64 ((Int.tmod a1 a0) - (Int.tmod a2 a0)))) = ji5:=hji5;obtain ⟨ji6,hji6⟩ : ∃ j_ : Int,(mx (wrap64 ((wrap64 (Int.tdiv a1 a0)) - (wrap64 (Int.tdiv a2 a0)))) (wrap64 (-(wrap64 ((wrap64 (Int.tdiv a1 a0)) - (wrap64 (Int.tdiv a2 a0))))))) = j_:=⟨_,rfl⟩
  replace H : (some (wrap64 (ji5 + ji6))) = some r:=by first | (rw [hji6] at H; exact H) | (simp only [hji6] at H ⊢; exact H)
  have hji6_ : (if (wrap64 ((wrap64 (Int.tdiv a1 a0)) - (wrap64 (Int.tdiv a2 a0)))) < (wrap64 (-(wrap64 ((wrap64 (Int.tdiv a1 a0)) - (wrap64 (Int.tdiv a2 a0)))))) then (wrap64 (-(wrap64 ((wrap64 (Int.tdiv a1 a0)) - (wrap64 (Int.tdiv a2 a0)))))) else (wrap64 ((wrap64 (Int.tdiv a1 a0)) - (wrap64 (Int.tdiv a2 a0))))) = ji6:=hji6;obtain rfl:=Option.some.inj H
  go_enter Try.func54,Try.ntmps54
  go_wp2
  repeat (go_quiet (fail); try go_wp2)
  go_ret
  exact ⟨by first | rfl | (simp [errW_none,errW_some] <;> rfl) | (simp only [← hji5,← hji6]; first | rfl | (simp [errW_none,errW_some] <;> rfl)) | (simp [*,errW_none,errW_some] <;> rfl),by repeat (first | (with_reducible first | exact HB.out | apply below_alloc | apply pw_below_drewN | apply below_drew1) | exact HB.out)⟩

end Go.Proofs.Ytmphplpfgjcpiaa.PCargo
