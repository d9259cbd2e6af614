/- Lean functions with the answers of the Go functions that a law uses, and for each that the Go code comes to just that; written by a program of this session's. -/
import Derived.Test.YtbndaabjlfdfcaaPRailx0
namespace Go.Proofs.Ytbndaabjlfdfcaa.PRail
open Go.RowKit Go.Proofs.YtbndaabjlfdfcaaW.PrintWords Go.Proofs.YtbndaabjlfdfcaaW.PrintLast Go.Proofs.YtbndaabjlfdfcaaW.PrintMore
attribute [local go_sem] max2_int min2_int max_two min_two max_three min_three max_four min_four   -- for this text's walks alone
set_option linter.unusedVariables false
set_option linter.unusedSimpArgs false

/-! ### hinterlandref03_Cost: function 24 -/
mutual
def hinterlandref03_Cost.j0 : Nat → Int → Int → Bool → Option (Int × Int)
  | 0, _, _, _ => none
  | k + 1, x0, x1, x22 => if x22 = true then (some (0, 1)) else (if x1 = 0 then (some (0, 0)) else (if x0 ≥ 16 then (some (0, 5)) else (hinterlandref03_Cost.l0 k x0 x1 0 0)))
def hinterlandref03_Cost.l0 : Nat → Int → Int → Int → Int → Option (Int × Int)
  | 0, _, _, _, _ => none
  | k + 1, x0, x1, x6, x7 => if x7 < 6 then (if 0 ≤ x7 then (hinterlandref03_Cost.l0 k x0 x1 (wrap64 (x6 + (Go.bits .and .i64 (shr .i64 x1 x7) 1))) (wrap64 (x7 + 1))) else (none)) else (if x1 = 1 then (if x0 = 6 then (if x0 = 0 then (some (wrap64 (x6 * 300), 0)) else (some (wrap64 (x6 * 300), 0))) else (if x0 = 9 then (if x0 = 0 then (some (wrap64 (x6 * 300), 0)) else (some (wrap64 (x6 * 300), 0))) else (if x1 = 2 then (if x0 = 3 then (if x0 = 0 then (some (wrap64 (x6 * 300), 0)) else (some (wrap64 (x6 * 300), 0))) else (if x0 = 0 then (some (wrap64 (x6 * 300), 0)) else (if x0 = 12 then (some (wrap64 (x6 * 300), 0)) else (some (wrap64 ((wrap64 (x6 * 300)) + 200), 0))))) else (if x0 = 0 then (some (wrap64 (x6 * 300), 0)) else (some (wrap64 ((wrap64 (x6 * 300)) + 200), 0)))))) else (if x1 = 2 then (if x0 = 3 then (if x0 = 0 then (some (wrap64 (x6 * 300), 0)) else (some (wrap64 (x6 * 300), 0))) else (if x0 = 0 then (some (wrap64 (x6 * 300), 0)) else (if x0 = 12 then (some (wrap64 (x6 * 300), 0)) else (some (wrap64 ((wrap64 (x6 * 300)) + 200), 0))))) else (if x0 = 0 then (some (wrap64 (x6 * 300), 0)) else (some (wrap64 ((wrap64 (x6 * 300)) + 200), 0)))))
end
def hinterlandref03_Cost.f (k : Nat) (a0 : Int) (a1 : Int) : Option (Int × Int) := if a0 < 0 then (hinterlandref03_Cost.j0 k a0 a1 true) else (if a0 > 31 then (hinterlandref03_Cost.j0 k a0 a1 true) else (if a1 < 0 then (hinterlandref03_Cost.j0 k a0 a1 true) else (hinterlandref03_Cost.j0 k a0 a1 (decide (a1 > 63)))))
theorem hinterlandref03_Cost.mono_l : ∀ k, (∀ y0 y1 y2, LeO (hinterlandref03_Cost.j0 k y0 y1 y2) (hinterlandref03_Cost.j0 (k + 1) y0 y1 y2)) ∧ (∀ y0 y1 y2 y3, LeO (hinterlandref03_Cost.l0 k y0 y1 y2 y3) (hinterlandref03_Cost.l0 (k + 1) y0 y1 y2 y3))
  | 0 => ⟨fun _ _ _ r h => by simp [hinterlandref03_Cost.j0] at h, fun _ _ _ _ r h => by simp [hinterlandref03_Cost.l0] at h⟩
  | k + 1 => by
    obtain ⟨ih0, ih1⟩ := hinterlandref03_Cost.mono_l k
    refine ⟨?_, ?_⟩
    · intro y0 y1 y2
      unfold hinterlandref03_Cost.j0
      repeat' first
      | (with_reducible exact ih0 _ _ _)
      | (with_reducible exact ih1 _ _ _ _)
      | (with_reducible exact LeO.refl _)
      | (with_reducible exact LeO.none _)
      | (with_reducible refine LeO.ite ?_ ?_)
      | (with_reducible refine LeO.bind ?_ (fun _ => ?_))
      | exact ih0 _ _ _
      | exact ih1 _ _ _ _
      | exact LeO.none _
      | refine LeO.ite ?_ ?_
      | refine LeO.bind ?_ (fun _ => ?_)
    · intro y0 y1 y2 y3
      unfold hinterlandref03_Cost.l0
      repeat' first
      | (with_reducible exact ih0 _ _ _)
      | (with_reducible exact ih1 _ _ _ _)
      | (with_reducible exact LeO.refl _)
      | (with_reducible exact LeO.none _)
      | (with_reducible refine LeO.ite ?_ ?_)
      | (with_reducible refine LeO.bind ?_ (fun _ => ?_))
      | exact ih0 _ _ _
      | exact ih1 _ _ _ _
      | exact LeO.none _
      | refine LeO.ite ?_ ?_
      | refine LeO.bind ?_ (fun _ => ?_)
theorem hinterlandref03_Cost.mono : ∀ a0 a1 k, LeO (hinterlandref03_Cost.f k a0 a1) (hinterlandref03_Cost.f (k + 1) a0 a1) := by
  intro a0 a1 k
  obtain ⟨ih0, ih1⟩ := hinterlandref03_Cost.mono_l k
  unfold hinterlandref03_Cost.f
  repeat' first
      | (with_reducible exact ih0 _ _ _)
      | (with_reducible exact ih1 _ _ _ _)
      | (with_reducible exact LeO.refl _)
      | (with_reducible exact LeO.none _)
      | (with_reducible refine LeO.ite ?_ ?_)
      | (with_reducible refine LeO.bind ?_ (fun _ => ?_))
      | exact ih0 _ _ _
      | exact ih1 _ _ _ _
      | exact LeO.none _
      | refine LeO.ite ?_ ?_
      | refine LeO.bind ?_ (fun _ => ?_)
set_option maxHeartbeats 8000000 in
set_option maxRecDepth 100000 in
theorem hinterlandref03_Cost.calls (k : Nat) (a0 : Int) (a1 : Int) (r1 : Int) (r2 : Int) (w : World) (h : hinterlandref03_Cost.f k a0 a1 = some (r1, r2)) :
    Calls Try.prog 24 #[.int .i64 a0, .int .i64 a1] w fun e w' => e = .returned (.tuple #[.int .i64 r1, .int .i64 r2]) ∧ Drawn0 w w' := by
  have H : (if a0 < 0 then (hinterlandref03_Cost.j0 k a0 a1 true) else (if a0 > 31 then (hinterlandref03_Cost.j0 k a0 a1 true) else (if a1 < 0 then (hinterlandref03_Cost.j0 k a0 a1 true) else (hinterlandref03_Cost.j0 k a0 a1 (decide (a1 > 63)))))) = some (r1, r2) := h
  clear h
  have HC3 := Aside0.mk H
  clear H
  go_enter Try.func24, Try.ntmps24
  go_upto_region 1 with (fail)
  go_cut [22] (fun v22 wc => ∃ (kq : Nat) (x22_2 : Bool), v22 = .bool x22_2 ∧ Aside0 (hinterlandref03_Cost.j0 kq a0 a1 x22_2 = some (r1, r2)) ∧ Aside0 (kq ≤ k) ∧ Drawn0 w wc)
  case first =>
    have H := HC3.out
    clear HC3
    by_cases c4 : a0 < 0
    · rw [if_pos c4] at H
      have c4b0 : decide (a0 < 0) = true := decide_eq_true c4
      clear c4
      (first | rw [c4b0] | (simp only [i64_w, i32_w]; rw [c4b0]) | skip)
      have H' := Aside0.mk H
      clear H
      go_wp2
      go_meet
      case rel => exact ⟨_, (true), (by first | rfl | (simp; done) | (simp [*]; done)), H', ⟨by first | omega | exact Nat.le_refl _⟩, by repeat (first | exact Drawn0.refl _ | apply Drawn0.step)⟩
    · rw [if_neg c4] at H
      have c4b0 : decide (a0 < 0) = false := decide_eq_false c4
      clear c4
      (first | rw [c4b0] | (simp only [i64_w, i32_w]; rw [c4b0]) | skip)
      by_cases c5 : a0 > 31
      · rw [if_pos c5] at H
        have c5b0 : decide (31 < a0) = true := decide_eq_true c5
        clear c5
        have H' := Aside0.mk H
        clear H
        go_wp2
        go_meet
        case rel => exact ⟨_, (true), (by first | rfl | (simp; done) | (simp [*]; done)), H', ⟨by first | omega | exact Nat.le_refl _⟩, by repeat (first | exact Drawn0.refl _ | apply Drawn0.step)⟩
      · rw [if_neg c5] at H
        have c5b0 : decide (31 < a0) = false := decide_eq_false c5
        clear c5
        by_cases c6 : a1 < 0
        · rw [if_pos c6] at H
          have c6b0 : decide (a1 < 0) = true := decide_eq_true c6
          clear c6
          have H' := Aside0.mk H
          clear H
          go_wp2
          go_meet
          case rel => exact ⟨_, (true), (by first | rfl | (simp; done) | (simp [*]; done)), H', ⟨by first | omega | exact Nat.le_refl _⟩, by repeat (first | exact Drawn0.refl _ | apply Drawn0.step)⟩
        · rw [if_neg c6] at H
          have c6b0 : decide (a1 < 0) = false := decide_eq_false c6
          clear c6
          have H' := Aside0.mk H
          clear H
          go_wp2
          go_meet
          case rel => exact ⟨_, (decide (a1 > 63)), (by first | rfl | (simp; done) | (simp [*]; done)), H', ⟨by first | omega | exact Nat.le_refl _⟩, by repeat (first | exact Drawn0.refl _ | apply Drawn0.step)⟩
  case rest =>
    clear HC3
    try clear c2
    try clear p2
    try clear c4
    try clear c4b0
    try clear c5
    try clear c5b0
    try clear c6
    try clear c6b0
    obtain ⟨kq, x22_2, rfl, HA, HJ2, ⟨mc2, rfl⟩⟩ := hcut
    cases kq with
    | zero => exact absurd HA.out (by simp [hinterlandref03_Cost.j0])
    | succ kj2 =>
      have H := HA.out
      clear HA
      simp only [hinterlandref03_Cost.j0] at H
      by_cases c7 : x22_2 = true
      · subst c7
        have H1 : (some (0, 1)) = some (r1, r2) := by rw [if_pos rfl] at H; exact H
        clear H
        have H := H1
        clear H1
        simp only [Option.some.injEq, Prod.mk.injEq] at H
        obtain ⟨rfl, rfl⟩ := H
        go_wp2
        go_ret2
        exact ⟨by first | rfl | (simp; done) | (simp [*]; done), by repeat (first | exact Drawn0.refl _ | apply Drawn0.step)⟩
      · replace c7 := Bool.eq_false_iff.mpr c7
        subst c7
        have H1 : (if a1 = 0 then (some (0, 0)) else (if a0 ≥ 16 then (some (0, 5)) else (hinterlandref03_Cost.l0 kj2 a0 a1 0 0))) = some (r1, r2) := by rw [if_neg (show ¬ (false = true) by decide)] at H; exact H
        clear H
        have H := H1
        clear H1
        by_cases c8 : a1 = 0
        · rw [if_pos c8] at H
          have c8b0 : (a1 == 0) = true := beq_iff_eq.mpr c8
          have c8b1 : (a1 != 0) = false := bne_eq_false_iff_eq.mpr c8
          clear c8
          simp only [Option.some.injEq, Prod.mk.injEq] at H
          obtain ⟨rfl, rfl⟩ := H
          go_wp2
          go_ret2
          exact ⟨by first | rfl | (simp; done) | (simp [*]; done), by repeat (first | exact Drawn0.refl _ | apply Drawn0.step)⟩
        · rw [if_neg c8] at H
          have c8b0 : (a1 == 0) = false := beq_eq_false_iff_ne.mpr c8
          have c8b1 : (a1 != 0) = true := bne_iff_ne.mpr c8
          by_cases c9 : a0 ≥ 16
          · rw [if_pos c9] at H
            have c9b0 : decide (16 ≤ a0) = true := decide_eq_true c9
            clear c9
            simp only [Option.some.injEq, Prod.mk.injEq] at H
            obtain ⟨rfl, rfl⟩ := H
            go_wp2
            go_ret2
            exact ⟨by first | rfl | (simp; done) | (simp [*]; done), by repeat (first | exact Drawn0.refl _ | apply Drawn0.step)⟩
          · rw [if_neg c9] at H
            have c9b0 : decide (16 ≤ a0) = false := decide_eq_false c9
            clear c9
            have H' := Aside0.mk H
            clear H
            go_wp2
            go_loopg [6, 7] kj2 (fun kq v6 v7 w' => ∃ (x6_2 : Int) (x7_2 : Int), v6 = .int .i64 x6_2 ∧ v7 = .int .i64 x7_2 ∧ Aside0 (hinterlandref03_Cost.l0 kq a0 a1 x6_2 x7_2 = some (r1, r2)) ∧ Aside0 (kq ≤ kj2) ∧ Drawn0 w w')
            case atStart => exact ⟨(0), (0), (by first | rfl | (simp; done) | (simp [*]; done)), (by first | rfl | (simp; done) | (simp [*]; done)), H', ⟨Nat.le_refl _⟩, by repeat (first | exact Drawn0.refl _ | apply Drawn0.step)⟩
            case round =>
              clear H'
              try clear c2
              try clear p2
              try clear c4
              try clear c4b0
              try clear c5
              try clear c5b0
              try clear c6
              try clear c6b0
              try clear c7
              try clear c8
              try clear c8b0
              try clear c8b1
              try clear c9
              try clear c9b0
              try clear p2
              obtain ⟨x6_2, x7_2, rfl, rfl, HA, HK2, ⟨m2, rfl⟩⟩ := hrel
              cases gk with
              | zero => exact absurd HA.out (by simp [hinterlandref03_Cost.l0])
              | succ k2 =>
                have H := HA.out
                clear HA
                simp only [hinterlandref03_Cost.l0] at H
                by_cases c10 : x7_2 < 6
                · rw [if_pos c10] at H
                  have c10b0 : decide (x7_2 < 6) = true := decide_eq_true c10
                  clear c10
                  by_cases c11 : 0 ≤ x7_2
                  · rw [if_pos c11] at H
                    have c11b0 := eq_true c11
                    have c11b1 : decide (0 ≤ x7_2) = true := decide_eq_true c11
                    clear c11
                    obtain ⟨ji12, hji12⟩ : ∃ j_ : Int, (shr .i64 a1 x7_2) = j_ := ⟨_, rfl⟩
                    replace H : (hinterlandref03_Cost.l0 k2 a0 a1 (wrap64 (x6_2 + (Go.bits .and .i64 (ji12) 1))) (wrap64 (x7_2 + 1))) = some (r1, r2) := by first | (rw [hji12] at H; exact H) | (simp only [hji12] at H ⊢; exact H)
                    have hji12_ : (a1 / 2 ^ min x7_2.toNat 64) = ji12 := hji12
                    have hji12z : x7_2 ≤ 64 → (a1 / 2 ^ x7_2.toNat) = ji12 := shr_small hji12
                    have H' := Aside0.mk H
                    clear H
                    go_wp2
                    go_roundg k2
                    case measure => have := HJ2.out; have := HK2.out; omega
                    case rel => exact ⟨(wrap64 (x6_2 + (Go.bits .and .i64 (ji12) 1))), (wrap64 (x7_2 + 1)), (by first | rfl | (simp; done) | (simp only [← hji12] <;> (first | rfl | simp)) | (simp [*]; done)), (by first | rfl | (simp; done) | (simp [*]; done)), H', ⟨by have := HJ2.out; have := HK2.out; omega⟩, by repeat (first | exact Drawn0.refl _ | apply Drawn0.step)⟩
                  · rw [if_neg c11] at H
                    exact absurd H (by simp)
                · rw [if_neg c10] at H
                  have c10b0 : decide (x7_2 < 6) = false := decide_eq_false c10
                  clear c10
                  by_cases c13 : a1 = 1
                  · rw [if_pos c13] at H
                    have c13b0 : (a1 == 1) = true := beq_iff_eq.mpr c13
                    have c13b1 : (a1 != 1) = false := bne_eq_false_iff_eq.mpr c13
                    clear c13
                    by_cases c14 : a0 = 6
                    · rw [if_pos c14] at H
                      have c14b0 : (a0 == 6) = true := beq_iff_eq.mpr c14
                      have c14b1 : (a0 != 6) = false := bne_eq_false_iff_eq.mpr c14
                      clear c14
                      by_cases c15 : a0 = 0
                      · rw [if_pos c15] at H
                        have c15b0 : (a0 == 0) = true := beq_iff_eq.mpr c15
                        have c15b1 : (a0 != 0) = false := bne_eq_false_iff_eq.mpr c15
                        clear c15
                        simp only [Option.some.injEq, Prod.mk.injEq] at H
                        obtain ⟨rfl, rfl⟩ := H
                        go_wp2
                        go_ret2
                        exact ⟨by first | rfl | (simp; done) | (simp [*]; done), by repeat (first | exact Drawn0.refl _ | apply Drawn0.step)⟩
                      · rw [if_neg c15] at H
                        have c15b0 : (a0 == 0) = false := beq_eq_false_iff_ne.mpr c15
                        have c15b1 : (a0 != 0) = true := bne_iff_ne.mpr c15
                        simp only [Option.some.injEq, Prod.mk.injEq] at H
                        obtain ⟨rfl, rfl⟩ := H
                        go_wp2
                        go_ret2
                        exact ⟨by first | rfl | (simp; done) | (simp [*]; done), by repeat (first | exact Drawn0.refl _ | apply Drawn0.step)⟩
                    · rw [if_neg c14] at H
                      have c14b0 : (a0 == 6) = false := beq_eq_false_iff_ne.mpr c14
                      have c14b1 : (a0 != 6) = true := bne_iff_ne.mpr c14
                      by_cases c16 : a0 = 9
                      · rw [if_pos c16] at H
                        have c16b0 : (a0 == 9) = true := beq_iff_eq.mpr c16
                        have c16b1 : (a0 != 9) = false := bne_eq_false_iff_eq.mpr c16
                        clear c16
                        by_cases c17 : a0 = 0
                        · rw [if_pos c17] at H
                          have c17b0 : (a0 == 0) = true := beq_iff_eq.mpr c17
                          have c17b1 : (a0 != 0) = false := bne_eq_false_iff_eq.mpr c17
                          clear c17
                          simp only [Option.some.injEq, Prod.mk.injEq] at H
                          obtain ⟨rfl, rfl⟩ := H
                          go_wp2
                          go_ret2
                          exact ⟨by first | rfl | (simp; done) | (simp [*]; done), by repeat (first | exact Drawn0.refl _ | apply Drawn0.step)⟩
                        · rw [if_neg c17] at H
                          have c17b0 : (a0 == 0) = false := beq_eq_false_iff_ne.mpr c17
                          have c17b1 : (a0 != 0) = true := bne_iff_ne.mpr c17
                          simp only [Option.some.injEq, Prod.mk.injEq] at H
                          obtain ⟨rfl, rfl⟩ := H
                          go_wp2
                          go_ret2
                          exact ⟨by first | rfl | (simp; done) | (simp [*]; done), by repeat (first | exact Drawn0.refl _ | apply Drawn0.step)⟩
                      · rw [if_neg c16] at H
                        have c16b0 : (a0 == 9) = false := beq_eq_false_iff_ne.mpr c16
                        have c16b1 : (a0 != 9) = true := bne_iff_ne.mpr c16
                        by_cases c18 : a1 = 2
                        · rw [if_pos c18] at H
                          have c18b0 : (a1 == 2) = true := beq_iff_eq.mpr c18
                          have c18b1 : (a1 != 2) = false := bne_eq_false_iff_eq.mpr c18
                          clear c18
                          by_cases c19 : a0 = 3
                          · rw [if_pos c19] at H
                            have c19b0 : (a0 == 3) = true := beq_iff_eq.mpr c19
                            have c19b1 : (a0 != 3) = false := bne_eq_false_iff_eq.mpr c19
                            clear c19
                            by_cases c20 : a0 = 0
                            · rw [if_pos c20] at H
                              have c20b0 : (a0 == 0) = true := beq_iff_eq.mpr c20
                              have c20b1 : (a0 != 0) = false := bne_eq_false_iff_eq.mpr c20
                              clear c20
                              simp only [Option.some.injEq, Prod.mk.injEq] at H
                              obtain ⟨rfl, rfl⟩ := H
                              go_wp2
                              go_ret2
                              exact ⟨by first | rfl | (simp; done) | (simp [*]; done), by repeat (first | exact Drawn0.refl _ | apply Drawn0.step)⟩
                            · rw [if_neg c20] at H
                              have c20b0 : (a0 == 0) = false := beq_eq_false_iff_ne.mpr c20
                              have c20b1 : (a0 != 0) = true := bne_iff_ne.mpr c20
                              simp only [Option.some.injEq, Prod.mk.injEq] at H
                              obtain ⟨rfl, rfl⟩ := H
                              go_wp2
                              go_ret2
                              exact ⟨by first | rfl | (simp; done) | (simp [*]; done), by repeat (first | exact Drawn0.refl _ | apply Drawn0.step)⟩
                          · rw [if_neg c19] at H
                            have c19b0 : (a0 == 3) = false := beq_eq_false_iff_ne.mpr c19
                            have c19b1 : (a0 != 3) = true := bne_iff_ne.mpr c19
                            by_cases c21 : a0 = 0
                            · rw [if_pos c21] at H
                              have c21b0 : (a0 == 0) = true := beq_iff_eq.mpr c21
                              have c21b1 : (a0 != 0) = false := bne_eq_false_iff_eq.mpr c21
                              clear c21
                              simp only [Option.some.injEq, Prod.mk.injEq] at H
                              obtain ⟨rfl, rfl⟩ := H
                              go_wp2
                              go_ret2
                              exact ⟨by first | rfl | (simp; done) | (simp [*]; done), by repeat (first | exact Drawn0.refl _ | apply Drawn0.step)⟩
                            · rw [if_neg c21] at H
                              have c21b0 : (a0 == 0) = false := beq_eq_false_iff_ne.mpr c21
                              have c21b1 : (a0 != 0) = true := bne_iff_ne.mpr c21
                              by_cases c22 : a0 = 12
                              · rw [if_pos c22] at H
                                have c22b0 : (a0 == 12) = true := beq_iff_eq.mpr c22
                                have c22b1 : (a0 != 12) = false := bne_eq_false_iff_eq.mpr c22
                                clear c22
                                simp only [Option.some.injEq, Prod.mk.injEq] at H
                                obtain ⟨rfl, rfl⟩ := H
                                go_wp2
                                go_ret2
                                exact ⟨by first | rfl | (simp; done) | (simp [*]; done), by repeat (first | exact Drawn0.refl _ | apply Drawn0.step)⟩
                              · rw [if_neg c22] at H
                                have c22b0 : (a0 == 12) = false := beq_eq_false_iff_ne.mpr c22
                                have c22b1 : (a0 != 12) = true := bne_iff_ne.mpr c22
                                simp only [Option.some.injEq, Prod.mk.injEq] at H
                                obtain ⟨rfl, rfl⟩ := H
                                go_wp2
                                go_ret2
                                exact ⟨by first | rfl | (simp; done) | (simp [*]; done), by repeat (first | exact Drawn0.refl _ | apply Drawn0.step)⟩
                        · rw [if_neg c18] at H
                          have c18b0 : (a1 == 2) = false := beq_eq_false_iff_ne.mpr c18
                          have c18b1 : (a1 != 2) = true := bne_iff_ne.mpr c18
                          by_cases c23 : a0 = 0
                          · rw [if_pos c23] at H
                            have c23b0 : (a0 == 0) = true := beq_iff_eq.mpr c23
                            have c23b1 : (a0 != 0) = false := bne_eq_false_iff_eq.mpr c23
                            clear c23
                            simp only [Option.some.injEq, Prod.mk.injEq] at H
                            obtain ⟨rfl, rfl⟩ := H
                            go_wp2
                            go_ret2
                            exact ⟨by first | rfl | (simp; done) | (simp [*]; done), by repeat (first | exact Drawn0.refl _ | apply Drawn0.step)⟩
                          · rw [if_neg c23] at H
                            have c23b0 : (a0 == 0) = false := beq_eq_false_iff_ne.mpr c23
                            have c23b1 : (a0 != 0) = true := bne_iff_ne.mpr c23
                            simp only [Option.some.injEq, Prod.mk.injEq] at H
                            obtain ⟨rfl, rfl⟩ := H
                            go_wp2
                            go_ret2
                            exact ⟨by first | rfl | (simp; done) | (simp [*]; done), by repeat (first | exact Drawn0.refl _ | apply Drawn0.step)⟩
                  · rw [if_neg c13] at H
                    have c13b0 : (a1 == 1) = false := beq_eq_false_iff_ne.mpr c13
                    have c13b1 : (a1 != 1) = true := bne_iff_ne.mpr c13
                    by_cases c24 : a1 = 2
                    · rw [if_pos c24] at H
                      have c24b0 : (a1 == 2) = true := beq_iff_eq.mpr c24
                      have c24b1 : (a1 != 2) = false := bne_eq_false_iff_eq.mpr c24
                      clear c24
                      by_cases c25 : a0 = 3
                      · rw [if_pos c25] at H
                        have c25b0 : (a0 == 3) = true := beq_iff_eq.mpr c25
                        have c25b1 : (a0 != 3) = false := bne_eq_false_iff_eq.mpr c25
                        clear c25
                        by_cases c26 : a0 = 0
                        · rw [if_pos c26] at H
                          have c26b0 : (a0 == 0) = true := beq_iff_eq.mpr c26
                          have c26b1 : (a0 != 0) = false := bne_eq_false_iff_eq.mpr c26
                          clear c26
                          simp only [Option.some.injEq, Prod.mk.injEq] at H
                          obtain ⟨rfl, rfl⟩ := H
                          go_wp2
                          go_ret2
                          exact ⟨by first | rfl | (simp; done) | (simp [*]; done), by repeat (first | exact Drawn0.refl _ | apply Drawn0.step)⟩
                        · rw [if_neg c26] at H
                          have c26b0 : (a0 == 0) = false := beq_eq_false_iff_ne.mpr c26
                          have c26b1 : (a0 != 0) = true := bne_iff_ne.mpr c26
                          simp only [Option.some.injEq, Prod.mk.injEq] at H
                          obtain ⟨rfl, rfl⟩ := H
                          go_wp2
                          go_ret2
                          exact ⟨by first | rfl | (simp; done) | (simp [*]; done), by repeat (first | exact Drawn0.refl _ | apply Drawn0.step)⟩
                      · rw [if_neg c25] at H
                        have c25b0 : (a0 == 3) = false := beq_eq_false_iff_ne.mpr c25
                        have c25b1 : (a0 != 3) = true := bne_iff_ne.mpr c25
                        by_cases c27 : a0 = 0
                        · rw [if_pos c27] at H
                          have c27b0 : (a0 == 0) = true := beq_iff_eq.mpr c27
                          have c27b1 : (a0 != 0) = false := bne_eq_false_iff_eq.mpr c27
                          clear c27
                          simp only [Option.some.injEq, Prod.mk.injEq] at H
                          obtain ⟨rfl, rfl⟩ := H
                          go_wp2
                          go_ret2
                          exact ⟨by first | rfl | (simp; done) | (simp [*]; done), by repeat (first | exact Drawn0.refl _ | apply Drawn0.step)⟩
                        · rw [if_neg c27] at H
                          have c27b0 : (a0 == 0) = false := beq_eq_false_iff_ne.mpr c27
                          have c27b1 : (a0 != 0) = true := bne_iff_ne.mpr c27
                          by_cases c28 : a0 = 12
                          · rw [if_pos c28] at H
                            have c28b0 : (a0 == 12) = true := beq_iff_eq.mpr c28
                            have c28b1 : (a0 != 12) = false := bne_eq_false_iff_eq.mpr c28
                            clear c28
                            simp only [Option.some.injEq, Prod.mk.injEq] at H
                            obtain ⟨rfl, rfl⟩ := H
                            go_wp2
                            go_ret2
                            exact ⟨by first | rfl | (simp; done) | (simp [*]; done), by repeat (first | exact Drawn0.refl _ | apply Drawn0.step)⟩
                          · rw [if_neg c28] at H
                            have c28b0 : (a0 == 12) = false := beq_eq_false_iff_ne.mpr c28
                            have c28b1 : (a0 != 12) = true := bne_iff_ne.mpr c28
                            simp only [Option.some.injEq, Prod.mk.injEq] at H
                            obtain ⟨rfl, rfl⟩ := H
                            go_wp2
                            go_ret2
                            exact ⟨by first | rfl | (simp; done) | (simp [*]; done), by repeat (first | exact Drawn0.refl _ | apply Drawn0.step)⟩
                    · rw [if_neg c24] at H
                      have c24b0 : (a1 == 2) = false := beq_eq_false_iff_ne.mpr c24
                      have c24b1 : (a1 != 2) = true := bne_iff_ne.mpr c24
                      by_cases c29 : a0 = 0
                      · rw [if_pos c29] at H
                        have c29b0 : (a0 == 0) = true := beq_iff_eq.mpr c29
                        have c29b1 : (a0 != 0) = false := bne_eq_false_iff_eq.mpr c29
                        clear c29
                        simp only [Option.some.injEq, Prod.mk.injEq] at H
                        obtain ⟨rfl, rfl⟩ := H
                        go_wp2
                        go_ret2
                        exact ⟨by first | rfl | (simp; done) | (simp [*]; done), by repeat (first | exact Drawn0.refl _ | apply Drawn0.step)⟩
                      · rw [if_neg c29] at H
                        have c29b0 : (a0 == 0) = false := beq_eq_false_iff_ne.mpr c29
                        have c29b1 : (a0 != 0) = true := bne_iff_ne.mpr c29
                        simp only [Option.some.injEq, Prod.mk.injEq] at H
                        obtain ⟨rfl, rfl⟩ := H
                        go_wp2
                        go_ret2
                        exact ⟨by first | rfl | (simp; done) | (simp [*]; done), by repeat (first | exact Drawn0.refl _ | apply Drawn0.step)⟩

end Go.Proofs.Ytbndaabjlfdfcaa.PRail
