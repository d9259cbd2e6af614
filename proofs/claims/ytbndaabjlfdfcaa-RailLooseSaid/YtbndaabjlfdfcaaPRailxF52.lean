/- Lean functions with the answers of the Go functions that a law uses, and for each that the Go code comes to just that; written by a program of this session's. -/
import Derived.Test.YtbndaabjlfdfcaaPRailx0
import Derived.Test.YtbndaabjlfdfcaaPRailxF40
import Derived.Test.YtbndaabjlfdfcaaPRailxF41
namespace Go.Proofs.Ytbndaabjlfdfcaa.PRail
open Go.RowKit Go.Proofs.YtbndaabjlfdfcaaW.PrintWords Go.Proofs.YtbndaabjlfdfcaaW.PrintLast Go.Proofs.YtbndaabjlfdfcaaW.PrintMore
attribute [local go_sem] max2_int min2_int max_two min_two max_three min_three max_four min_four   -- for this text's walks alone
set_option linter.unusedVariables false
set_option linter.unusedSimpArgs false

/-! ### hinterlandref03_Has: function 52 -/
def hinterlandref03_Has.f (k : Nat) (a0 : Int) (a1 : Int) : Option (Bool) := if a1 ≥ 0 then ((hinterlandref03_first.f k a0).bind fun t367 => (if t367 = a1 then (some true) else ((hinterlandref03_second.f k a0).bind fun t368 => (some (t368 == a1))))) else (some false)
theorem hinterlandref03_Has.mono : ∀ a0 a1 k, LeO (hinterlandref03_Has.f k a0 a1) (hinterlandref03_Has.f (k + 1) a0 a1) := by
  intro a0 a1 k
  unfold hinterlandref03_Has.f
  repeat' first
      | (with_reducible exact hinterlandref03_first.mono _ _)
      | (with_reducible exact hinterlandref03_second.mono _ _)
      | (with_reducible exact LeO.refl _)
      | (with_reducible exact LeO.none _)
      | (with_reducible refine LeO.ite ?_ ?_)
      | (with_reducible refine LeO.bind ?_ (fun _ => ?_))
      | exact hinterlandref03_first.mono _ _
      | exact hinterlandref03_second.mono _ _
      | exact LeO.none _
      | refine LeO.ite ?_ ?_
      | refine LeO.bind ?_ (fun _ => ?_)
set_option maxHeartbeats 8000000 in
set_option maxRecDepth 100000 in
theorem hinterlandref03_Has.calls (k : Nat) (a0 : Int) (a1 : Int) (r : Bool) (w : World) (h : hinterlandref03_Has.f k a0 a1 = some r) :
    Calls Try.prog 52 #[.int .i64 a0, .int .i64 a1] w fun e w' => e = .returned (.bool r) ∧ Drawn0 w w' := by
  have H : (if a1 ≥ 0 then ((hinterlandref03_first.f k a0).bind fun t367 => (if t367 = a1 then (some true) else ((hinterlandref03_second.f k a0).bind fun t368 => (some (t368 == a1))))) else (some false)) = some r := h
  clear h
  by_cases c3 : a1 ≥ 0
  · rw [if_pos c3] at H
    have c3b0 : decide (0 ≤ a1) = true := decide_eq_true c3
    clear c3
    replace H := Option.bind_eq_some_iff.mp H
    obtain ⟨t367, A40, H⟩ := H
    replace H : (if t367 = a1 then (some true) else ((hinterlandref03_second.f k a0).bind fun t368 => (some (t368 == a1)))) = some r := H
    have A4 := Aside0.mk A40
    clear A40
    by_cases c5 : t367 = a1
    · rw [if_pos c5] at H
      have c5b0 : (t367 == a1) = true := beq_iff_eq.mpr c5
      have c5b1 : (t367 != a1) = false := bne_eq_false_iff_eq.mpr c5
      clear c5
      obtain rfl := Option.some.inj H
      go_enter Try.func52, Try.ntmps52
      go_wp2_with (first | (go_at_call 40; (with_reducible refine (hinterlandref03_first.calls k a0 t367 _ A4.out).mono ?_); rintro e w' ⟨rfl, ⟨nd, rfl⟩⟩))
      go_ret
      exact ⟨by first | rfl | (simp; done) | (simp [*]; done), by repeat (first | exact Drawn0.refl _ | apply Drawn0.step)⟩
    · rw [if_neg c5] at H
      have c5b0 : (t367 == a1) = false := beq_eq_false_iff_ne.mpr c5
      have c5b1 : (t367 != a1) = true := bne_iff_ne.mpr c5
      replace H := Option.bind_eq_some_iff.mp H
      obtain ⟨t368, A60, H⟩ := H
      replace H : (some (t368 == a1)) = some r := H
      have A6 := Aside0.mk A60
      clear A60
      obtain rfl := Option.some.inj H
      go_enter Try.func52, Try.ntmps52
      go_wp2_with (first | (go_at_call 40; (with_reducible refine (hinterlandref03_first.calls k a0 t367 _ A4.out).mono ?_); rintro e w' ⟨rfl, ⟨nd, rfl⟩⟩) | (go_at_call 41; (with_reducible refine (hinterlandref03_second.calls k a0 t368 _ A6.out).mono ?_); rintro e w' ⟨rfl, ⟨nd, rfl⟩⟩))
      go_ret
      exact ⟨by first | rfl | (simp; done) | (simp [*]; done), by repeat (first | exact Drawn0.refl _ | apply Drawn0.step)⟩
  · rw [if_neg c3] at H
    have c3b0 : decide (0 ≤ a1) = false := decide_eq_false c3
    clear c3
    obtain rfl := Option.some.inj H
    go_enter Try.func52, Try.ntmps52
    go_wp2
    go_ret
    exact ⟨by first | rfl | (simp; done) | (simp [*]; done), by repeat (first | exact Drawn0.refl _ | apply Drawn0.step)⟩

end Go.Proofs.Ytbndaabjlfdfcaa.PRail
