/- Lean functions with the answers of the Go functions that a law uses,and for each that the Go code comes to just that; written by a program of this session's. -/
import Derived.Test.YtmphplpfgjcpiaaPCargox0
namespace Go.Proofs.Ytmphplpfgjcpiaa.PCargo
open Go.RowKit Go.Proofs.YtmphplpfgjcpiaaW.PrintWords Go.Proofs.YtmphplpfgjcpiaaW.PrintLast Go.Proofs.YtmphplpfgjcpiaaW.PrintMore
attribute [local go_sem] max2_int min2_int max_two min_two max_three min_three max_four min_four   -- for this text's walks alone
set_option linter.unusedVariables false
set_option linter.unusedSimpArgs false

/-! ### hinterlandref09_MulDiv: function 67 -/
def hinterlandref09_MulDiv.f (a0 : Int) (a1 : Int) (a2 : Int) : Option (Int):=if a2 = 0 then (none) else (some (wrap64 (Int.tdiv (wrap64 (a0 * a1)) a2)))
set_option maxHeartbeats 8000000 in
set_option maxRecDepth 100000 in
theorem hinterlandref09_MulDiv.calls (a0 : Int) (a1 : Int) (a2 : Int) (r : Int) (w : World) (h : hinterlandref09_MulDiv.f a0 a1 a2 = some r) :
  Calls Try.prog 67 #[.int .i64 a0,.int .i64 a1,.int .i64 a2] w fun e w' => e = .returned (.int .i64 r) ∧ Drawn0 w w':=by
 have H : (if a2 = 0 then (none) else (some (wrap64 (Int.tdiv (wrap64 (a0 * a1)) a2)))) = some r:=h;clear h
 by_cases c4 : a2 = 0
 ·rw [if_pos c4] at H
  exact absurd H (by simp)
 ·rw [if_neg c4] at H
  have c4b0 : (a2 == 0) = false:=beq_eq_false_iff_ne.mpr c4;have c4b1 : (a2 != 0) = true:=bne_iff_ne.mpr c4;obtain rfl:=Option.some.inj H
  go_enter Try.func67,Try.ntmps67
  go_wp2
  go_ret
  exact ⟨by first | rfl | (simp; done) | (simp [*]; done),by repeat (first | exact Drawn0.refl _ | apply Drawn0.step)⟩

end Go.Proofs.Ytmphplpfgjcpiaa.PCargo
