/- Lean functions with the answers of the Go functions that a law uses, and for each that the Go code comes to just that; written by a program of this session's. -/
import Derived.Test.YtbndaabjlfdfcaaPRailx0
import Derived.Test.YtbndaabjlfdfcaaPRailxF17
import Derived.Test.YtbndaabjlfdfcaaPRailxF24
import Derived.Test.YtbndaabjlfdfcaaPRailxF25
namespace Go.Proofs.Ytbndaabjlfdfcaa.PRail
open Go.RowKit Go.Proofs.YtbndaabjlfdfcaaW.PrintWords Go.Proofs.YtbndaabjlfdfcaaW.PrintLast Go.Proofs.YtbndaabjlfdfcaaW.PrintMore
attribute [local go_sem] max2_int min2_int max_two min_two max_three min_three max_four min_four   -- for this text's walks alone
set_option linter.unusedVariables false
set_option linter.unusedSimpArgs false

/-! ### hinterlandlaw03_RailCosts: function 5 -/
def hinterlandlaw03_RailCosts.f (k : Nat) (a0 : Int) (a1 : Int) : Option (Bool) := (hinterlandref03_Cost.f k a0 a1).bind fun bt164 => ((rail_Cost.f k a0 a1).bind fun bt166 => (if bt166.1 = bt164.1 then (if bt166.2 = bt164.2 then ((hinterlandlaw03_known.f k).bind fun t168 => (some t168)) else (some false)) else (some false)))
theorem hinterlandlaw03_RailCosts.mono : ∀ a0 a1 k, LeO (hinterlandlaw03_RailCosts.f k a0 a1) (hinterlandlaw03_RailCosts.f (k + 1) a0 a1) := by
  intro a0 a1 k
  unfold hinterlandlaw03_RailCosts.f
  repeat' first
      | (with_reducible exact hinterlandlaw03_known.mono _)
      | (with_reducible exact hinterlandref03_Cost.mono _ _ _)
      | (with_reducible exact rail_Cost.mono _ _ _)
      | (with_reducible exact LeO.refl _)
      | (with_reducible exact LeO.none _)
      | (with_reducible refine LeO.ite ?_ ?_)
      | (with_reducible refine LeO.bind ?_ (fun _ => ?_))
      | exact hinterlandlaw03_known.mono _
      | exact hinterlandref03_Cost.mono _ _ _
      | exact rail_Cost.mono _ _ _
      | exact LeO.none _
      | refine LeO.ite ?_ ?_
      | refine LeO.bind ?_ (fun _ => ?_)
set_option maxHeartbeats 8000000 in
set_option maxRecDepth 100000 in
theorem hinterlandlaw03_RailCosts.calls (k : Nat) (a0 : Int) (a1 : Int) (r : Bool) (w : World) (h : hinterlandlaw03_RailCosts.f k a0 a1 = some r) :
    Calls Try.prog 5 #[.int .i64 a0, .int .i64 a1] w fun e w' => e = .returned (.bool r) ∧ Drawn0 w w' := by
  have H : ((hinterlandref03_Cost.f k a0 a1).bind fun bt164 => ((rail_Cost.f k a0 a1).bind fun bt166 => (if bt166.1 = bt164.1 then (if bt166.2 = bt164.2 then ((hinterlandlaw03_known.f k).bind fun t168 => (some t168)) else (some false)) else (some false)))) = some r := h
  clear h
  replace H := Option.bind_eq_some_iff.mp H
  obtain ⟨⟨t164, t165⟩, A30, H⟩ := H
  replace H : ((rail_Cost.f k a0 a1).bind fun bt166 => (if bt166.1 = t164 then (if bt166.2 = t165 then ((hinterlandlaw03_known.f k).bind fun t168 => (some t168)) else (some false)) else (some false))) = some r := H
  have A3 := Aside0.mk A30
  clear A30
  replace H := Option.bind_eq_some_iff.mp H
  obtain ⟨⟨t166, t167⟩, A40, H⟩ := H
  replace H : (if t166 = t164 then (if t167 = t165 then ((hinterlandlaw03_known.f k).bind fun t168 => (some t168)) else (some false)) else (some false)) = some r := H
  have A4 := Aside0.mk A40
  clear A40
  by_cases c5 : t166 = t164
  · rw [if_pos c5] at H
    have c5b0 : (t166 == t164) = true := beq_iff_eq.mpr c5
    have c5b1 : (t166 != t164) = false := bne_eq_false_iff_eq.mpr c5
    clear c5
    by_cases c6 : t167 = t165
    · rw [if_pos c6] at H
      have c6b0 : (t167 == t165) = true := beq_iff_eq.mpr c6
      have c6b1 : (t167 != t165) = false := bne_eq_false_iff_eq.mpr c6
      clear c6
      replace H := Option.bind_eq_some_iff.mp H
      obtain ⟨t168, A70, H⟩ := H
      replace H : (some t168) = some r := H
      have A7 := Aside0.mk A70
      clear A70
      obtain rfl := Option.some.inj H
      go_enter Try.func5, Try.ntmps5
      go_wp2_with (first | ((with_reducible refine gate_callee (f := 24) rfl ?_); refine goesL_ (some 12) rfl rfl Try.func24 (by kernel_rfl) rfl #[.int .i64 a0, .int .i64 a1] rfl (by (try simp only [List.map_toArray, List.map_cons, List.map_nil]); first | done | rfl | (simp only [List.length_drop, List.length_take]; rfl)) ?_; (with_reducible refine (hinterlandref03_Cost.calls k a0 a1 t164 t165 _ A3.out).mono ?_); rintro e w' ⟨rfl, ⟨nd, rfl⟩⟩; refine ⟨_, rfl, ?_⟩) | ((with_reducible refine gate_callee (f := 25) rfl ?_); refine goesL_ (some 18) rfl rfl Try.func25 (by kernel_rfl) rfl #[.int .i64 a0, .int .i64 a1] rfl (by (try simp only [List.map_toArray, List.map_cons, List.map_nil]); first | done | rfl | (simp only [List.length_drop, List.length_take]; rfl)) ?_; (with_reducible refine (rail_Cost.calls k a0 a1 t166 t167 _ A4.out).mono ?_); rintro e w' ⟨rfl, ⟨nd, rfl⟩⟩; refine ⟨_, rfl, ?_⟩) | (go_at_call 17; (with_reducible refine (hinterlandlaw03_known.calls k  t168 _ A7.out).mono ?_); rintro e w' ⟨rfl, ⟨nd, rfl⟩⟩))
      go_ret
      exact ⟨by first | rfl | (simp; done) | (simp [*]; done), by repeat (first | exact Drawn0.refl _ | apply Drawn0.step)⟩
    · rw [if_neg c6] at H
      have c6b0 : (t167 == t165) = false := beq_eq_false_iff_ne.mpr c6
      have c6b1 : (t167 != t165) = true := bne_iff_ne.mpr c6
      obtain rfl := Option.some.inj H
      go_enter Try.func5, Try.ntmps5
      go_wp2_with (first | ((with_reducible refine gate_callee (f := 24) rfl ?_); refine goesL_ (some 12) rfl rfl Try.func24 (by kernel_rfl) rfl #[.int .i64 a0, .int .i64 a1] rfl (by (try simp only [List.map_toArray, List.map_cons, List.map_nil]); first | done | rfl | (simp only [List.length_drop, List.length_take]; rfl)) ?_; (with_reducible refine (hinterlandref03_Cost.calls k a0 a1 t164 t165 _ A3.out).mono ?_); rintro e w' ⟨rfl, ⟨nd, rfl⟩⟩; refine ⟨_, rfl, ?_⟩) | ((with_reducible refine gate_callee (f := 25) rfl ?_); refine goesL_ (some 18) rfl rfl Try.func25 (by kernel_rfl) rfl #[.int .i64 a0, .int .i64 a1] rfl (by (try simp only [List.map_toArray, List.map_cons, List.map_nil]); first | done | rfl | (simp only [List.length_drop, List.length_take]; rfl)) ?_; (with_reducible refine (rail_Cost.calls k a0 a1 t166 t167 _ A4.out).mono ?_); rintro e w' ⟨rfl, ⟨nd, rfl⟩⟩; refine ⟨_, rfl, ?_⟩))
      go_ret
      exact ⟨by first | rfl | (simp; done) | (simp [*]; done), by repeat (first | exact Drawn0.refl _ | apply Drawn0.step)⟩
  · rw [if_neg c5] at H
    have c5b0 : (t166 == t164) = false := beq_eq_false_iff_ne.mpr c5
    have c5b1 : (t166 != t164) = true := bne_iff_ne.mpr c5
    obtain rfl := Option.some.inj H
    go_enter Try.func5, Try.ntmps5
    go_wp2_with (first | ((with_reducible refine gate_callee (f := 24) rfl ?_); refine goesL_ (some 12) rfl rfl Try.func24 (by kernel_rfl) rfl #[.int .i64 a0, .int .i64 a1] rfl (by (try simp only [List.map_toArray, List.map_cons, List.map_nil]); first | done | rfl | (simp only [List.length_drop, List.length_take]; rfl)) ?_; (with_reducible refine (hinterlandref03_Cost.calls k a0 a1 t164 t165 _ A3.out).mono ?_); rintro e w' ⟨rfl, ⟨nd, rfl⟩⟩; refine ⟨_, rfl, ?_⟩) | ((with_reducible refine gate_callee (f := 25) rfl ?_); refine goesL_ (some 18) rfl rfl Try.func25 (by kernel_rfl) rfl #[.int .i64 a0, .int .i64 a1] rfl (by (try simp only [List.map_toArray, List.map_cons, List.map_nil]); first | done | rfl | (simp only [List.length_drop, List.length_take]; rfl)) ?_; (with_reducible refine (rail_Cost.calls k a0 a1 t166 t167 _ A4.out).mono ?_); rintro e w' ⟨rfl, ⟨nd, rfl⟩⟩; refine ⟨_, rfl, ?_⟩))
    go_ret
    exact ⟨by first | rfl | (simp; done) | (simp [*]; done), by repeat (first | exact Drawn0.refl _ | apply Drawn0.step)⟩

end Go.Proofs.Ytbndaabjlfdfcaa.PRail
