/- Lean functions with the answers of the Go functions that a law uses, and for each that the Go code comes to just that; written by a program of this session's. -/
import Derived.Test.YtbndaabjlfdfcaaPRailx0
namespace Go.Proofs.Ytbndaabjlfdfcaa.PRail
open Go.RowKit Go.Proofs.YtbndaabjlfdfcaaW.PrintWords Go.Proofs.YtbndaabjlfdfcaaW.PrintLast Go.Proofs.YtbndaabjlfdfcaaW.PrintMore
attribute [local go_sem] max2_int min2_int max_two min_two max_three min_three max_four min_four   -- for this text's walks alone
set_option linter.unusedVariables false
set_option linter.unusedSimpArgs false

/-! ### rail_beside: function 65 -/
def rail_beside.j0 : Nat → Int → Int → Int → Int → Int → Int → Bool → Option (Int × Bool)
  | 0, _, _, _, _, _, _, _ => none
  | k + 1, x0, x1, x3, x10, x11, x18, x19 => if x19 = true then (if (wrap64 (x10 + (wrap64 (1 - x3)))) ≥ 0 then (if (wrap64 (x10 + (wrap64 (1 - x3)))) < x0 then (if x11 ≥ 0 then (some (wrap64 ((wrap64 (x11 * x0)) + (wrap64 (x10 + (wrap64 (1 - x3))))), decide (x11 < x1))) else (some (wrap64 ((wrap64 (x11 * x0)) + (wrap64 (x10 + (wrap64 (1 - x3))))), false))) else (some (wrap64 ((wrap64 (x11 * x0)) + (wrap64 (x10 + (wrap64 (1 - x3))))), false))) else (some (wrap64 ((wrap64 (x11 * x0)) + (wrap64 (x10 + (wrap64 (1 - x3))))), false))) else (if x18 = 1 then (if x10 ≥ 0 then (if x10 < x0 then (if (wrap64 (x11 + (wrap64 (2 - x3)))) ≥ 0 then (some (wrap64 ((wrap64 ((wrap64 (x11 + (wrap64 (2 - x3)))) * x0)) + x10), decide ((wrap64 (x11 + (wrap64 (2 - x3)))) < x1))) else (some (wrap64 ((wrap64 ((wrap64 (x11 + (wrap64 (2 - x3)))) * x0)) + x10), false))) else (some (wrap64 ((wrap64 ((wrap64 (x11 + (wrap64 (2 - x3)))) * x0)) + x10), false))) else (some (wrap64 ((wrap64 ((wrap64 (x11 + (wrap64 (2 - x3)))) * x0)) + x10), false))) else (if x18 = 3 then (if x10 ≥ 0 then (if x10 < x0 then (if (wrap64 (x11 + (wrap64 (2 - x3)))) ≥ 0 then (some (wrap64 ((wrap64 ((wrap64 (x11 + (wrap64 (2 - x3)))) * x0)) + x10), decide ((wrap64 (x11 + (wrap64 (2 - x3)))) < x1))) else (some (wrap64 ((wrap64 ((wrap64 (x11 + (wrap64 (2 - x3)))) * x0)) + x10), false))) else (some (wrap64 ((wrap64 ((wrap64 (x11 + (wrap64 (2 - x3)))) * x0)) + x10), false))) else (some (wrap64 ((wrap64 ((wrap64 (x11 + (wrap64 (2 - x3)))) * x0)) + x10), false))) else (if x10 ≥ 0 then (if x10 < x0 then (if x11 ≥ 0 then (some (wrap64 ((wrap64 (x11 * x0)) + x10), decide (x11 < x1))) else (some (wrap64 ((wrap64 (x11 * x0)) + x10), false))) else (some (wrap64 ((wrap64 (x11 * x0)) + x10), false))) else (some (wrap64 ((wrap64 (x11 * x0)) + x10), false)))))
def rail_beside.f (k : Nat) (a0 : Int) (a1 : Int) (a2 : Int) (a3 : Int) : Option (Int × Bool) := if a0 = 0 then (none) else (if a3 = 0 then (rail_beside.j0 k a0 a1 a3 (Int.tmod a2 a0) (wrap64 (Int.tdiv a2 a0)) a3 (a3 == 0)) else (rail_beside.j0 k a0 a1 a3 (Int.tmod a2 a0) (wrap64 (Int.tdiv a2 a0)) a3 (a3 == 2)))
theorem rail_beside.mono_l : ∀ k, (∀ y0 y1 y2 y3 y4 y5 y6, LeO (rail_beside.j0 k y0 y1 y2 y3 y4 y5 y6) (rail_beside.j0 (k + 1) y0 y1 y2 y3 y4 y5 y6))
  | 0 => fun _ _ _ _ _ _ _ r h => by simp [rail_beside.j0] at h
  | k + 1 => by
    have ih0 := rail_beside.mono_l k
    · intro y0 y1 y2 y3 y4 y5 y6
      unfold rail_beside.j0
      repeat' first
      | (with_reducible exact ih0 _ _ _ _ _ _ _)
      | (with_reducible exact LeO.refl _)
      | (with_reducible exact LeO.none _)
      | (with_reducible refine LeO.ite ?_ ?_)
      | (with_reducible refine LeO.bind ?_ (fun _ => ?_))
      | exact ih0 _ _ _ _ _ _ _
      | exact LeO.none _
      | refine LeO.ite ?_ ?_
      | refine LeO.bind ?_ (fun _ => ?_)
theorem rail_beside.mono : ∀ a0 a1 a2 a3 k, LeO (rail_beside.f k a0 a1 a2 a3) (rail_beside.f (k + 1) a0 a1 a2 a3) := by
  intro a0 a1 a2 a3 k
  have ih0 := rail_beside.mono_l k
  unfold rail_beside.f
  repeat' first
      | (with_reducible exact ih0 _ _ _ _ _ _ _)
      | (with_reducible exact LeO.refl _)
      | (with_reducible exact LeO.none _)
      | (with_reducible refine LeO.ite ?_ ?_)
      | (with_reducible refine LeO.bind ?_ (fun _ => ?_))
      | exact ih0 _ _ _ _ _ _ _
      | exact LeO.none _
      | refine LeO.ite ?_ ?_
      | refine LeO.bind ?_ (fun _ => ?_)
set_option maxHeartbeats 8000000 in
set_option maxRecDepth 100000 in
theorem rail_beside.calls (k : Nat) (a0 : Int) (a1 : Int) (a2 : Int) (a3 : Int) (r1 : Int) (r2 : Bool) (w : World) (h : rail_beside.f k a0 a1 a2 a3 = some (r1, r2)) :
    Calls Try.prog 65 #[.int .i64 a0, .int .i64 a1, .int .i64 a2, .int .i64 a3] w fun e w' => e = .returned (.tuple #[.int .i64 r1, .bool r2]) ∧ Drawn0 w w' := by
  have H : (if a0 = 0 then (none) else (if a3 = 0 then (rail_beside.j0 k a0 a1 a3 (Int.tmod a2 a0) (wrap64 (Int.tdiv a2 a0)) a3 (a3 == 0)) else (rail_beside.j0 k a0 a1 a3 (Int.tmod a2 a0) (wrap64 (Int.tdiv a2 a0)) a3 (a3 == 2)))) = some (r1, r2) := h
  clear h
  by_cases c5 : a0 = 0
  · rw [if_pos c5] at H
    exact absurd H (by simp)
  · rw [if_neg c5] at H
    have c5b0 : (a0 == 0) = false := beq_eq_false_iff_ne.mpr c5
    have c5b1 : (a0 != 0) = true := bne_iff_ne.mpr c5
    have HC6 := Aside0.mk H
    clear H
    go_enter Try.func65, Try.ntmps65
    go_upto_if 19 with (fail)
    repeat (go_quiet (fail); go_upto_if 19 with (fail))
    go_cut [19] (fun v19 wc => ∃ (kq : Nat) (x19_5 : Bool), v19 = .bool x19_5 ∧ Aside0 (rail_beside.j0 kq a0 a1 a3 (Int.tmod a2 a0) (wrap64 (Int.tdiv a2 a0)) a3 x19_5 = some (r1, r2)) ∧ Aside0 (kq ≤ k) ∧ Drawn0 w wc)
    case first =>
      have H := HC6.out
      clear HC6
      by_cases c7 : a3 = 0
      · rw [if_pos c7] at H
        have c7b0 : (a3 == 0) = true := beq_iff_eq.mpr c7
        have c7b1 : (a3 != 0) = false := bne_eq_false_iff_eq.mpr c7
        clear c7
        (first | rw [c7b0] | (simp only [i64_w, i32_w]; rw [c7b0]) | skip)
        have H' := Aside0.mk H
        clear H
        go_wp2
        repeat (go_quiet (fail); try go_wp2)
        go_meet
        case rel => exact ⟨_, ((a3 == 0)), (by first | rfl | (simp; done) | (simp [*]; done)), H', ⟨by first | omega | exact Nat.le_refl _⟩, by repeat (first | exact Drawn0.refl _ | apply Drawn0.step)⟩
      · rw [if_neg c7] at H
        have c7b0 : (a3 == 0) = false := beq_eq_false_iff_ne.mpr c7
        have c7b1 : (a3 != 0) = true := bne_iff_ne.mpr c7
        (first | rw [c7b0] | (simp only [i64_w, i32_w]; rw [c7b0]) | skip)
        have H' := Aside0.mk H
        clear H
        go_wp2
        repeat (go_quiet (fail); try go_wp2)
        go_meet
        case rel => exact ⟨_, ((a3 == 2)), (by first | rfl | (simp; done) | (simp [*]; done)), H', ⟨by first | omega | exact Nat.le_refl _⟩, by repeat (first | exact Drawn0.refl _ | apply Drawn0.step)⟩
    case rest =>
      clear HC6
      try clear p2
      try clear c5
      try clear c5b0
      try clear c5b1
      try clear c6
      try clear p6
      try clear c7
      try clear c7b0
      try clear c7b1
      obtain ⟨kq, x19_5, rfl, HA, HJ5, ⟨mc5, rfl⟩⟩ := hcut
      cases kq with
      | zero => exact absurd HA.out (by simp [rail_beside.j0])
      | succ kj5 =>
        have H := HA.out
        clear HA
        simp only [rail_beside.j0] at H
        by_cases c8 : x19_5 = true
        · subst c8
          have H1 : (if (wrap64 ((Int.tmod a2 a0) + (wrap64 (1 - a3)))) ≥ 0 then (if (wrap64 ((Int.tmod a2 a0) + (wrap64 (1 - a3)))) < a0 then (if (wrap64 (Int.tdiv a2 a0)) ≥ 0 then (some (wrap64 ((wrap64 ((wrap64 (Int.tdiv a2 a0)) * a0)) + (wrap64 ((Int.tmod a2 a0) + (wrap64 (1 - a3))))), decide ((wrap64 (Int.tdiv a2 a0)) < a1))) else (some (wrap64 ((wrap64 ((wrap64 (Int.tdiv a2 a0)) * a0)) + (wrap64 ((Int.tmod a2 a0) + (wrap64 (1 - a3))))), false))) else (some (wrap64 ((wrap64 ((wrap64 (Int.tdiv a2 a0)) * a0)) + (wrap64 ((Int.tmod a2 a0) + (wrap64 (1 - a3))))), false))) else (some (wrap64 ((wrap64 ((wrap64 (Int.tdiv a2 a0)) * a0)) + (wrap64 ((Int.tmod a2 a0) + (wrap64 (1 - a3))))), false))) = some (r1, r2) := by rw [if_pos rfl] at H; exact H
          clear H
          have H := H1
          clear H1
          by_cases c9 : (wrap64 ((Int.tmod a2 a0) + (wrap64 (1 - a3)))) ≥ 0
          · rw [if_pos c9] at H
            have c9b0 : decide (0 ≤ (wrap64 ((Int.tmod a2 a0) + (wrap64 (1 - a3))))) = true := decide_eq_true c9
            clear c9
            by_cases c10 : (wrap64 ((Int.tmod a2 a0) + (wrap64 (1 - a3)))) < a0
            · rw [if_pos c10] at H
              have c10b0 : decide ((wrap64 ((Int.tmod a2 a0) + (wrap64 (1 - a3)))) < a0) = true := decide_eq_true c10
              clear c10
              by_cases c11 : (wrap64 (Int.tdiv a2 a0)) ≥ 0
              · rw [if_pos c11] at H
                have c11b0 : decide (0 ≤ (wrap64 (Int.tdiv a2 a0))) = true := decide_eq_true c11
                clear c11
                simp only [Option.some.injEq, Prod.mk.injEq] at H
                obtain ⟨rfl, rfl⟩ := H
                go_wp2
                repeat (go_quiet (fail); try go_wp2)
                go_ret2
                exact ⟨by first | rfl | (simp; done) | (simp [*]; done), by repeat (first | exact Drawn0.refl _ | apply Drawn0.step)⟩
              · rw [if_neg c11] at H
                have c11b0 : decide (0 ≤ (wrap64 (Int.tdiv a2 a0))) = false := decide_eq_false c11
                clear c11
                simp only [Option.some.injEq, Prod.mk.injEq] at H
                obtain ⟨rfl, rfl⟩ := H
                go_wp2
                repeat (go_quiet (fail); try go_wp2)
                go_ret2
                exact ⟨by first | rfl | (simp; done) | (simp [*]; done), by repeat (first | exact Drawn0.refl _ | apply Drawn0.step)⟩
            · rw [if_neg c10] at H
              have c10b0 : decide ((wrap64 ((Int.tmod a2 a0) + (wrap64 (1 - a3)))) < a0) = false := decide_eq_false c10
              clear c10
              simp only [Option.some.injEq, Prod.mk.injEq] at H
              obtain ⟨rfl, rfl⟩ := H
              go_wp2
              repeat (go_quiet (fail); try go_wp2)
              go_ret2
              exact ⟨by first | rfl | (simp; done) | (simp [*]; done), by repeat (first | exact Drawn0.refl _ | apply Drawn0.step)⟩
          · rw [if_neg c9] at H
            have c9b0 : decide (0 ≤ (wrap64 ((Int.tmod a2 a0) + (wrap64 (1 - a3))))) = false := decide_eq_false c9
            clear c9
            simp only [Option.some.injEq, Prod.mk.injEq] at H
            obtain ⟨rfl, rfl⟩ := H
            go_wp2
            repeat (go_quiet (fail); try go_wp2)
            go_ret2
            exact ⟨by first | rfl | (simp; done) | (simp [*]; done), by repeat (first | exact Drawn0.refl _ | apply Drawn0.step)⟩
        · replace c8 := Bool.eq_false_iff.mpr c8
          subst c8
          have H1 : (if a3 = 1 then (if (Int.tmod a2 a0) ≥ 0 then (if (Int.tmod a2 a0) < a0 then (if (wrap64 ((wrap64 (Int.tdiv a2 a0)) + (wrap64 (2 - a3)))) ≥ 0 then (some (wrap64 ((wrap64 ((wrap64 ((wrap64 (Int.tdiv a2 a0)) + (wrap64 (2 - a3)))) * a0)) + (Int.tmod a2 a0)), decide ((wrap64 ((wrap64 (Int.tdiv a2 a0)) + (wrap64 (2 - a3)))) < a1))) else (some (wrap64 ((wrap64 ((wrap64 ((wrap64 (Int.tdiv a2 a0)) + (wrap64 (2 - a3)))) * a0)) + (Int.tmod a2 a0)), false))) else (some (wrap64 ((wrap64 ((wrap64 ((wrap64 (Int.tdiv a2 a0)) + (wrap64 (2 - a3)))) * a0)) + (Int.tmod a2 a0)), false))) else (some (wrap64 ((wrap64 ((wrap64 ((wrap64 (Int.tdiv a2 a0)) + (wrap64 (2 - a3)))) * a0)) + (Int.tmod a2 a0)), false))) else (if a3 = 3 then (if (Int.tmod a2 a0) ≥ 0 then (if (Int.tmod a2 a0) < a0 then (if (wrap64 ((wrap64 (Int.tdiv a2 a0)) + (wrap64 (2 - a3)))) ≥ 0 then (some (wrap64 ((wrap64 ((wrap64 ((wrap64 (Int.tdiv a2 a0)) + (wrap64 (2 - a3)))) * a0)) + (Int.tmod a2 a0)), decide ((wrap64 ((wrap64 (Int.tdiv a2 a0)) + (wrap64 (2 - a3)))) < a1))) else (some (wrap64 ((wrap64 ((wrap64 ((wrap64 (Int.tdiv a2 a0)) + (wrap64 (2 - a3)))) * a0)) + (Int.tmod a2 a0)), false))) else (some (wrap64 ((wrap64 ((wrap64 ((wrap64 (Int.tdiv a2 a0)) + (wrap64 (2 - a3)))) * a0)) + (Int.tmod a2 a0)), false))) else (some (wrap64 ((wrap64 ((wrap64 ((wrap64 (Int.tdiv a2 a0)) + (wrap64 (2 - a3)))) * a0)) + (Int.tmod a2 a0)), false))) else (if (Int.tmod a2 a0) ≥ 0 then (if (Int.tmod a2 a0) < a0 then (if (wrap64 (Int.tdiv a2 a0)) ≥ 0 then (some (wrap64 ((wrap64 ((wrap64 (Int.tdiv a2 a0)) * a0)) + (Int.tmod a2 a0)), decide ((wrap64 (Int.tdiv a2 a0)) < a1))) else (some (wrap64 ((wrap64 ((wrap64 (Int.tdiv a2 a0)) * a0)) + (Int.tmod a2 a0)), false))) else (some (wrap64 ((wrap64 ((wrap64 (Int.tdiv a2 a0)) * a0)) + (Int.tmod a2 a0)), false))) else (some (wrap64 ((wrap64 ((wrap64 (Int.tdiv a2 a0)) * a0)) + (Int.tmod a2 a0)), false))))) = some (r1, r2) := by rw [if_neg (show ¬ (false = true) by decide)] at H; exact H
          clear H
          have H := H1
          clear H1
          by_cases c12 : a3 = 1
          · rw [if_pos c12] at H
            have c12b0 : (a3 == 1) = true := beq_iff_eq.mpr c12
            have c12b1 : (a3 != 1) = false := bne_eq_false_iff_eq.mpr c12
            clear c12
            by_cases c13 : (Int.tmod a2 a0) ≥ 0
            · rw [if_pos c13] at H
              have c13b0 : decide (0 ≤ (Int.tmod a2 a0)) = true := decide_eq_true c13
              clear c13
              by_cases c14 : (Int.tmod a2 a0) < a0
              · rw [if_pos c14] at H
                have c14b0 : decide ((Int.tmod a2 a0) < a0) = true := decide_eq_true c14
                clear c14
                by_cases c15 : (wrap64 ((wrap64 (Int.tdiv a2 a0)) + (wrap64 (2 - a3)))) ≥ 0
                · rw [if_pos c15] at H
                  have c15b0 : decide (0 ≤ (wrap64 ((wrap64 (Int.tdiv a2 a0)) + (wrap64 (2 - a3))))) = true := decide_eq_true c15
                  clear c15
                  simp only [Option.some.injEq, Prod.mk.injEq] at H
                  obtain ⟨rfl, rfl⟩ := H
                  go_wp2
                  repeat (go_quiet (fail); try go_wp2)
                  go_ret2
                  exact ⟨by first | rfl | (simp; done) | (simp [*]; done), by repeat (first | exact Drawn0.refl _ | apply Drawn0.step)⟩
                · rw [if_neg c15] at H
                  have c15b0 : decide (0 ≤ (wrap64 ((wrap64 (Int.tdiv a2 a0)) + (wrap64 (2 - a3))))) = false := decide_eq_false c15
                  clear c15
                  simp only [Option.some.injEq, Prod.mk.injEq] at H
                  obtain ⟨rfl, rfl⟩ := H
                  go_wp2
                  repeat (go_quiet (fail); try go_wp2)
                  go_ret2
                  exact ⟨by first | rfl | (simp; done) | (simp [*]; done), by repeat (first | exact Drawn0.refl _ | apply Drawn0.step)⟩
              · rw [if_neg c14] at H
                have c14b0 : decide ((Int.tmod a2 a0) < a0) = false := decide_eq_false c14
                clear c14
                simp only [Option.some.injEq, Prod.mk.injEq] at H
                obtain ⟨rfl, rfl⟩ := H
                go_wp2
                repeat (go_quiet (fail); try go_wp2)
                go_ret2
                exact ⟨by first | rfl | (simp; done) | (simp [*]; done), by repeat (first | exact Drawn0.refl _ | apply Drawn0.step)⟩
            · rw [if_neg c13] at H
              have c13b0 : decide (0 ≤ (Int.tmod a2 a0)) = false := decide_eq_false c13
              clear c13
              simp only [Option.some.injEq, Prod.mk.injEq] at H
              obtain ⟨rfl, rfl⟩ := H
              go_wp2
              repeat (go_quiet (fail); try go_wp2)
              go_ret2
              exact ⟨by first | rfl | (simp; done) | (simp [*]; done), by repeat (first | exact Drawn0.refl _ | apply Drawn0.step)⟩
          · rw [if_neg c12] at H
            have c12b0 : (a3 == 1) = false := beq_eq_false_iff_ne.mpr c12
            have c12b1 : (a3 != 1) = true := bne_iff_ne.mpr c12
            by_cases c16 : a3 = 3
            · rw [if_pos c16] at H
              have c16b0 : (a3 == 3) = true := beq_iff_eq.mpr c16
              have c16b1 : (a3 != 3) = false := bne_eq_false_iff_eq.mpr c16
              clear c16
              by_cases c17 : (Int.tmod a2 a0) ≥ 0
              · rw [if_pos c17] at H
                have c17b0 : decide (0 ≤ (Int.tmod a2 a0)) = true := decide_eq_true c17
                clear c17
                by_cases c18 : (Int.tmod a2 a0) < a0
                · rw [if_pos c18] at H
                  have c18b0 : decide ((Int.tmod a2 a0) < a0) = true := decide_eq_true c18
                  clear c18
                  by_cases c19 : (wrap64 ((wrap64 (Int.tdiv a2 a0)) + (wrap64 (2 - a3)))) ≥ 0
                  · rw [if_pos c19] at H
                    have c19b0 : decide (0 ≤ (wrap64 ((wrap64 (Int.tdiv a2 a0)) + (wrap64 (2 - a3))))) = true := decide_eq_true c19
                    clear c19
                    simp only [Option.some.injEq, Prod.mk.injEq] at H
                    obtain ⟨rfl, rfl⟩ := H
                    go_wp2
                    repeat (go_quiet (fail); try go_wp2)
                    go_ret2
                    exact ⟨by first | rfl | (simp; done) | (simp [*]; done), by repeat (first | exact Drawn0.refl _ | apply Drawn0.step)⟩
                  · rw [if_neg c19] at H
                    have c19b0 : decide (0 ≤ (wrap64 ((wrap64 (Int.tdiv a2 a0)) + (wrap64 (2 - a3))))) = false := decide_eq_false c19
                    clear c19
                    simp only [Option.some.injEq, Prod.mk.injEq] at H
                    obtain ⟨rfl, rfl⟩ := H
                    go_wp2
                    repeat (go_quiet (fail); try go_wp2)
                    go_ret2
                    exact ⟨by first | rfl | (simp; done) | (simp [*]; done), by repeat (first | exact Drawn0.refl _ | apply Drawn0.step)⟩
                · rw [if_neg c18] at H
                  have c18b0 : decide ((Int.tmod a2 a0) < a0) = false := decide_eq_false c18
                  clear c18
                  simp only [Option.some.injEq, Prod.mk.injEq] at H
                  obtain ⟨rfl, rfl⟩ := H
                  go_wp2
                  repeat (go_quiet (fail); try go_wp2)
                  go_ret2
                  exact ⟨by first | rfl | (simp; done) | (simp [*]; done), by repeat (first | exact Drawn0.refl _ | apply Drawn0.step)⟩
              · rw [if_neg c17] at H
                have c17b0 : decide (0 ≤ (Int.tmod a2 a0)) = false := decide_eq_false c17
                clear c17
                simp only [Option.some.injEq, Prod.mk.injEq] at H
                obtain ⟨rfl, rfl⟩ := H
                go_wp2
                repeat (go_quiet (fail); try go_wp2)
                go_ret2
                exact ⟨by first | rfl | (simp; done) | (simp [*]; done), by repeat (first | exact Drawn0.refl _ | apply Drawn0.step)⟩
            · rw [if_neg c16] at H
              have c16b0 : (a3 == 3) = false := beq_eq_false_iff_ne.mpr c16
              have c16b1 : (a3 != 3) = true := bne_iff_ne.mpr c16
              by_cases c20 : (Int.tmod a2 a0) ≥ 0
              · rw [if_pos c20] at H
                have c20b0 : decide (0 ≤ (Int.tmod a2 a0)) = true := decide_eq_true c20
                clear c20
                by_cases c21 : (Int.tmod a2 a0) < a0
                · rw [if_pos c21] at H
                  have c21b0 : decide ((Int.tmod a2 a0) < a0) = true := decide_eq_true c21
                  clear c21
                  by_cases c22 : (wrap64 (Int.tdiv a2 a0)) ≥ 0
                  · rw [if_pos c22] at H
                    have c22b0 : decide (0 ≤ (wrap64 (Int.tdiv a2 a0))) = true := decide_eq_true c22
                    clear c22
                    simp only [Option.some.injEq, Prod.mk.injEq] at H
                    obtain ⟨rfl, rfl⟩ := H
                    go_wp2
                    repeat (go_quiet (fail); try go_wp2)
                    go_ret2
                    exact ⟨by first | rfl | (simp; done) | (simp [*]; done), by repeat (first | exact Drawn0.refl _ | apply Drawn0.step)⟩
                  · rw [if_neg c22] at H
                    have c22b0 : decide (0 ≤ (wrap64 (Int.tdiv a2 a0))) = false := decide_eq_false c22
                    clear c22
                    simp only [Option.some.injEq, Prod.mk.injEq] at H
                    obtain ⟨rfl, rfl⟩ := H
                    go_wp2
                    repeat (go_quiet (fail); try go_wp2)
                    go_ret2
                    exact ⟨by first | rfl | (simp; done) | (simp [*]; done), by repeat (first | exact Drawn0.refl _ | apply Drawn0.step)⟩
                · rw [if_neg c21] at H
                  have c21b0 : decide ((Int.tmod a2 a0) < a0) = false := decide_eq_false c21
                  clear c21
                  simp only [Option.some.injEq, Prod.mk.injEq] at H
                  obtain ⟨rfl, rfl⟩ := H
                  go_wp2
                  repeat (go_quiet (fail); try go_wp2)
                  go_ret2
                  exact ⟨by first | rfl | (simp; done) | (simp [*]; done), by repeat (first | exact Drawn0.refl _ | apply Drawn0.step)⟩
              · rw [if_neg c20] at H
                have c20b0 : decide (0 ≤ (Int.tmod a2 a0)) = false := decide_eq_false c20
                clear c20
                simp only [Option.some.injEq, Prod.mk.injEq] at H
                obtain ⟨rfl, rfl⟩ := H
                go_wp2
                repeat (go_quiet (fail); try go_wp2)
                go_ret2
                exact ⟨by first | rfl | (simp; done) | (simp [*]; done), by repeat (first | exact Drawn0.refl _ | apply Drawn0.step)⟩

end Go.Proofs.Ytbndaabjlfdfcaa.PRail
