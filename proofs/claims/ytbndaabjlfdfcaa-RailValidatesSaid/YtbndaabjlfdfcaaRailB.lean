/- What the functions of rails over tiles tell: which rails are right, copies, sets of pieces, equal lists. -/
import Derived.Test.YtbndaabjlfdfcaaRailA
import Derived.Test.YtbndaabjlfdfcaaPRailxF16
import Derived.Test.YtbndaabjlfdfcaaPRailxF18
import Derived.Test.YtbndaabjlfdfcaaPRailxF19
import Derived.Test.YtbndaabjlfdfcaaPRailxF45
import Derived.Test.YtbndaabjlfdfcaaPRailxF47
namespace Go.Proofs.Ytbndaabjlfdfcaa.PRail
open Go.RowKit Go.Proofs.YtbndaabjlfdfcaaW.PrintWords Go.Proofs.YtbndaabjlfdfcaaW.PrintLast Go.Proofs.YtbndaabjlfdfcaaW.Evt
theorem w64 {x : Int} (h : -9223372036854775808 ≤ x) (h2 : x ≤ 9223372036854775807) : wrap64 x = x := by unfold wrap64; omega
theorem mul_bd {W H : Int} (h1 : 4 ≤ W) (h2 : W ≤ 32) (h3 : 4 ≤ H) (h4 : H ≤ 32) : 16 ≤ W * H ∧ W * H ≤ 1024 :=
  ⟨Int.mul_le_mul (a := 4) (b := 4) (c := W) (d := H) h1 h3 (by omega) (by omega), Int.mul_le_mul (a := W) (b := H) (c := 32) (d := 32) h2 h4 (by omega) (by omega)⟩
def vgood (S : List Int) (D : List Bool) (i : Int) : Bool := decide (0 ≤ rd S i) && (decide (rd S i ≤ 63) && !(rd S i == 0 && rdOf false D i))
def vscan (S : List Int) (D : List Bool) : Nat → Int → Int
  | 0, _ => 0
  | d + 1, i => if vgood S D i = true then vscan S D d (i + 1) else 1
def validOf (W H : Int) (S : List Int) (D : List Bool) : Int :=
  if 4 ≤ W ∧ W ≤ 32 ∧ 4 ≤ H ∧ H ≤ 32 ∧ (S.length : Int) = W * H ∧ (D.length : Int) = W * H then vscan S D S.length 0 else 1
theorem ref_loop (W H : Int) (S : List Int) (D : List Bool) (hl : S.length ≤ 1024) (hd : S.length ≤ D.length) : ∀ (d : Nat) (i : Int), 0 ≤ i → i + d = S.length → Evt (fun k => hinterlandref03_Validate.l0 k i W H S D) (vscan S D d i) := by
  intro d
  induction d with
  | zero =>
    intro i h0 h1
    refine Evt.succ (h := _) (fun k => by rw [hinterlandref03_Validate.l0]) ?_
    exact Evt.neg (by omega) (Evt.const _)
  | succ d ih =>
    intro i h0 h1
    refine Evt.succ (h := _) (fun k => by rw [hinterlandref03_Validate.l0]) ?_
    have hw : wrap64 (i + 1) = i + 1 := w64 (by omega) (by omega)
    have ih' := ih (i + 1) (by omega) (by omega)
    unfold vscan
    refine Evt.pos (by omega) (Evt.pos h0 ?_)
    rw [hw]
    by_cases a : rd S i < 0
    · rw [if_neg (by simp [vgood]; omega)]
      exact Evt.pos a (Evt.const _)
    refine Evt.neg a ?_
    by_cases b : rd S i > 63
    · rw [if_neg (by simp [vgood]; omega)]
      exact Evt.pos b (Evt.const _)
    refine Evt.neg b ?_
    by_cases c : rd S i = 0
    · refine Evt.pos c (Evt.pos (by omega) ?_)
      by_cases e : rdOf false D i = true
      · rw [if_neg (by simp [vgood, c, e])]
        exact Evt.pos e (Evt.const _)
      · rw [if_pos (by simp [vgood, c, e])]
        exact Evt.neg e ih'
    · rw [if_pos (by simp [vgood, c]; omega)]
      exact Evt.neg c ih'
theorem rail_loop (W H : Int) (S : List Int) (D : List Bool) (hl : S.length ≤ 1024) (hd : S.length ≤ D.length) : ∀ (d : Nat) (i : Int), 0 ≤ i → i + d = S.length → Evt (fun k => rail_Validate.l0 k S (S.length : Int) i W H S D) (vscan S D d i) := by
  intro d
  induction d with
  | zero =>
    intro i h0 h1
    refine Evt.succ (h := _) (fun k => by rw [rail_Validate.l0]) ?_
    exact Evt.neg (by omega) (Evt.const _)
  | succ d ih =>
    intro i h0 h1
    refine Evt.succ (h := _) (fun k => by rw [rail_Validate.l0]) ?_
    have hw : wrap64 (i + 1) = i + 1 := w64 (by omega) (by omega)
    have ih' := ih (i + 1) (by omega) (by omega)
    unfold vscan
    refine Evt.pos (by omega) (Evt.pos h0 (Evt.pos (by omega) ?_))
    rw [hw]
    by_cases a : rd S i < 0
    · rw [if_neg (by simp [vgood]; omega)]
      exact Evt.pos a (Evt.const _)
    refine Evt.neg a ?_
    by_cases b : rd S i ≥ 64
    · rw [if_neg (by simp [vgood]; omega)]
      exact Evt.pos b (Evt.const _)
    refine Evt.neg b ?_
    by_cases c : rd S i = 0
    · refine Evt.pos c (Evt.pos (by omega) ?_)
      by_cases e : rdOf false D i = true
      · rw [if_neg (by simp [vgood, c, e])]
        exact Evt.pos e (Evt.const _)
      · rw [if_pos (by simp [vgood, c, e])]
        exact Evt.neg e ih'
    · rw [if_pos (by simp [vgood, c]; omega)]
      exact Evt.neg c ih'
theorem ref_Validate_ev (W H : Int) (S : List Int) (D : List Bool) : Evt (fun k => hinterlandref03_Validate.f k W H S D) (validOf W H S D) := by
  have no : ¬ (4 ≤ W ∧ W ≤ 32 ∧ 4 ≤ H ∧ H ≤ 32 ∧ (S.length : Int) = W * H ∧ (D.length : Int) = W * H) → Evt (fun k => hinterlandref03_Validate.j0 k true W H S D) (validOf W H S D) := fun h => by
    unfold validOf
    rw [if_neg h]
    exact Evt.succ (h := fun _ => some 1) (fun k => by rw [hinterlandref03_Validate.j0]; simp) (Evt.const _)
  unfold hinterlandref03_Validate.f
  refine Evt.ite (fun h => no (by omega)) (fun h1 => Evt.ite (fun h => no (by omega)) (fun h2 => Evt.ite (fun h => no (by omega)) (fun h3 => Evt.ite (fun h => no (by omega)) (fun h4 => ?_))))
  have hm := mul_bd (W := W) (H := H) (by omega) (by omega) (by omega) (by omega)
  rw [w64 (x := W * H) (by omega) (by omega)]
  refine Evt.ite (fun h5 => ?_) (fun h => no (by omega))
  by_cases h6 : (D.length : Int) = W * H
  · refine Evt.succ (h := fun k => hinterlandref03_Validate.l0 k 0 W H S D) (fun k => by rw [hinterlandref03_Validate.j0]; rw [if_neg (by simp [h6])]) ?_
    unfold validOf
    rw [if_pos (by omega)]
    exact ref_loop W H S D (by omega) (by omega) S.length 0 (by omega) (by omega)
  · have e : ((D.length : Int) != W * H) = true := by simp [h6]
    rw [e]
    exact no (by omega)
theorem rail_Validate_ev (W H : Int) (S : List Int) (D : List Bool) : Evt (fun k => rail_Validate.f k W H S D) (validOf W H S D) := by
  have no : ¬ (4 ≤ W ∧ W ≤ 32 ∧ 4 ≤ H ∧ H ≤ 32 ∧ (S.length : Int) = W * H ∧ (D.length : Int) = W * H) → Evt (fun k => rail_Validate.j0 k true W H S D) (validOf W H S D) := fun h => by
    unfold validOf
    rw [if_neg h]
    exact Evt.succ (h := fun _ => some 1) (fun k => by rw [rail_Validate.j0]; simp) (Evt.const _)
  unfold rail_Validate.f
  refine Evt.ite (fun h => no (by omega)) (fun h1 => Evt.ite (fun h => no (by omega)) (fun h2 => Evt.ite (fun h => no (by omega)) (fun h3 => Evt.ite (fun h => no (by omega)) (fun h4 => ?_))))
  have hm := mul_bd (W := W) (H := H) (by omega) (by omega) (by omega) (by omega)
  rw [w64 (x := W * H) (by omega) (by omega)]
  refine Evt.ite (fun h5 => ?_) (fun h => no (by omega))
  by_cases h6 : (D.length : Int) = W * H
  · refine Evt.succ (h := fun k => rail_Validate.l0 k S (S.length : Int) 0 W H S D) (fun k => by rw [rail_Validate.j0]; rw [if_neg (by simp [h6])]) ?_
    unfold validOf
    rw [if_pos (by omega)]
    exact rail_loop W H S D (by omega) (by omega) S.length 0 (by omega) (by omega)
  · have e : ((D.length : Int) != W * H) = true := by simp [h6]
    rw [e]
    exact no (by omega)
theorem vscan_cases (S : List Int) (D : List Bool) : ∀ (d : Nat) (i : Int), vscan S D d i = 0 ∨ vscan S D d i = 1
  | 0, _ => Or.inl rfl
  | d + 1, i => by
    unfold vscan
    split
    · exact vscan_cases S D d (i + 1)
    · exact Or.inr rfl
theorem valid_cases (W H : Int) (S : List Int) (D : List Bool) : validOf W H S D = 0 ∨ validOf W H S D = 1 := by
  unfold validOf
  split
  · exact vscan_cases _ _ _ _
  · exact Or.inr rfl
theorem vscan_zero (S : List Int) (D : List Bool) : ∀ (d : Nat) (i : Int), vscan S D d i = 0 → ∀ j, i ≤ j → j < i + d → vgood S D j = true
  | 0, i, _, j, h1, h2 => by omega
  | d + 1, i, h, j, h1, h2 => by
    unfold vscan at h
    split at h
    · rename_i hg
      by_cases e : j = i
      · rw [e]; exact hg
      · exact vscan_zero S D d (i + 1) h j (by omega) (by omega)
    · omega
theorem vscan_of (S : List Int) (D : List Bool) : ∀ (d : Nat) (i : Int), (∀ j, i ≤ j → j < i + d → vgood S D j = true) → vscan S D d i = 0
  | 0, i, _ => rfl
  | d + 1, i, h => by
    unfold vscan
    rw [if_pos (h i (by omega) (by omega))]
    exact vscan_of S D d (i + 1) fun j h1 h2 => h j (by omega) (by omega)
structure Right (W H : Int) (S : List Int) (D : List Bool) : Prop where
  w4 : 4 ≤ W
  w32 : W ≤ 32
  h4 : 4 ≤ H
  h32 : H ≤ 32
  sl : (S.length : Int) = W * H
  dl : (D.length : Int) = W * H
  at0 : ∀ i : Int, 0 ≤ i → i < S.length → 0 ≤ rd S i
  at63 : ∀ i : Int, 0 ≤ i → i < S.length → rd S i ≤ 63
  atD : ∀ i : Int, 0 ≤ i → i < S.length → rd S i = 0 → rdOf false D i = false
theorem right_of {W H : Int} {S : List Int} {D : List Bool} (h : validOf W H S D = 0) : Right W H S D := by
  unfold validOf at h
  split at h
  · rename_i hc
    have g : ∀ i : Int, 0 ≤ i → i < S.length → vgood S D i = true := fun i h0 h1 => vscan_zero S D S.length 0 h i h0 (by omega)
    refine ⟨hc.1, hc.2.1, hc.2.2.1, hc.2.2.2.1, hc.2.2.2.2.1, hc.2.2.2.2.2, fun i h0 h1 => ?_, fun i h0 h1 => ?_, fun i h0 h1 h2 => ?_⟩
    all_goals have := g i h0 h1; simp [vgood] at this
    · exact this.1
    · exact this.2.1
    · exact this.2.2.resolve_left (fun h3 => h3 h2)
  · omega
theorem Right.valid {W H : Int} {S : List Int} {D : List Bool} (h : Right W H S D) : validOf W H S D = 0 := by
  unfold validOf
  rw [if_pos ⟨h.w4, h.w32, h.h4, h.h32, h.sl, h.dl⟩]
  refine vscan_of S D _ 0 fun j h0 h1 => ?_
  have h2 : j < S.length := by omega
  simp only [vgood, Bool.and_eq_true, decide_eq_true_eq, Bool.not_eq_true', Bool.and_eq_false_iff, beq_eq_false_iff_ne]
  refine ⟨h.at0 j h0 h2, h.at63 j h0 h2, ?_⟩
  by_cases e : rd S j = 0
  · exact Or.inr (h.atD j h0 h2 e)
  · exact Or.inl e
theorem Right.small {W H : Int} {S : List Int} {D : List Bool} (h : Right W H S D) : S.length ≤ 1024 ∧ 16 ≤ S.length ∧ D.length = S.length ∧ W * H = S.length := by
  have := mul_bd h.w4 h.w32 h.h4 h.h32
  have := h.sl
  have := h.dl
  omega
/-- Does a set have a piece? -/
def bitI (x p : Int) : Int := Go.bits .and .i64 (shr .i64 x p) 1
theorem bits_small : ∀ (x : Fin 64) (p : Fin 6), (bitI ((x.val : Nat) : Int) ((p.val : Nat) : Int) = 0 ∨ bitI ((x.val : Nat) : Int) ((p.val : Nat) : Int) = 1) ∧
    (bitI ((x.val : Nat) : Int) ((p.val : Nat) : Int) = 0 → Go.bits .or .i64 ((x.val : Nat) : Int) (shl .i64 1 ((p.val : Nat) : Int)) = wrap64 (((x.val : Nat) : Int) + shl .i64 1 ((p.val : Nat) : Int)) ∧ 0 < wrap64 (((x.val : Nat) : Int) + shl .i64 1 ((p.val : Nat) : Int)) ∧ wrap64 (((x.val : Nat) : Int) + shl .i64 1 ((p.val : Nat) : Int)) ≤ 63 ∧ bitI (wrap64 (((x.val : Nat) : Int) + shl .i64 1 ((p.val : Nat) : Int))) ((p.val : Nat) : Int) = 1 ∧ Go.bits .andNot .i64 (wrap64 (((x.val : Nat) : Int) + shl .i64 1 ((p.val : Nat) : Int))) (shl .i64 1 ((p.val : Nat) : Int)) = ((x.val : Nat) : Int)) ∧
    (bitI ((x.val : Nat) : Int) ((p.val : Nat) : Int) = 1 → Go.bits .andNot .i64 ((x.val : Nat) : Int) (shl .i64 1 ((p.val : Nat) : Int)) = wrap64 (((x.val : Nat) : Int) - shl .i64 1 ((p.val : Nat) : Int)) ∧ 0 ≤ wrap64 (((x.val : Nat) : Int) - shl .i64 1 ((p.val : Nat) : Int)) ∧ wrap64 (((x.val : Nat) : Int) - shl .i64 1 ((p.val : Nat) : Int)) ≤ 63) := by decide +kernel
theorem bits_of {x p : Int} (h0 : 0 ≤ x) (h1 : x ≤ 63) (h2 : 0 ≤ p) (h3 : p < 6) : (bitI x p = 0 ∨ bitI x p = 1) ∧
    (bitI x p = 0 → Go.bits .or .i64 x (shl .i64 1 p) = wrap64 (x + shl .i64 1 p) ∧ 0 < wrap64 (x + shl .i64 1 p) ∧ wrap64 (x + shl .i64 1 p) ≤ 63 ∧ bitI (wrap64 (x + shl .i64 1 p)) p = 1 ∧ Go.bits .andNot .i64 (wrap64 (x + shl .i64 1 p)) (shl .i64 1 p) = x) ∧
    (bitI x p = 1 → Go.bits .andNot .i64 x (shl .i64 1 p) = wrap64 (x - shl .i64 1 p) ∧ 0 ≤ wrap64 (x - shl .i64 1 p) ∧ wrap64 (x - shl .i64 1 p) ≤ 63) := by
  obtain ⟨x, rfl⟩ := Int.eq_ofNat_of_zero_le h0
  obtain ⟨p, rfl⟩ := Int.eq_ofNat_of_zero_le h2
  exact bits_small ⟨x, by omega⟩ ⟨p, by omega⟩
theorem far_ev (W H : Int) (S : List Int) (D : List Bool) : hinterlandlaw03_far.f W H S D = some (decide ((S.length : Int) > 3000 ∨ (D.length : Int) > 3000)) := by
  unfold hinterlandlaw03_far.f
  split
  · rename_i h; simp [h]
  · rename_i h; simp [h]
theorem lies_of {W H : Int} {S : List Int} (D : List Bool) (t p : Int) : hinterlandref03_Lies.f W H S D t p = some (decide (0 ≤ t ∧ t < S.length ∧ 0 ≤ p ∧ p < 6) && (bitI (rd S t) p == 1)) := by
  unfold hinterlandref03_Lies.f
  by_cases h1 : 0 ≤ t
  · rw [if_pos (show t ≥ 0 from h1)]
    by_cases h2 : t < S.length
    · rw [if_pos h2]
      by_cases h3 : 0 ≤ p
      · rw [if_pos (show p ≥ 0 from h3)]
        by_cases h4 : p < 6
        · rw [if_pos h4, if_pos h1, if_pos h3]; simp [h1, h2, h3, h4, bitI]
        · rw [if_neg h4]; simp [h4]
      · rw [if_neg (show ¬ p ≥ 0 from h3)]; simp [h3]
    · rw [if_neg h2]; simp [h2]
  · rw [if_neg (show ¬ t ≥ 0 from h1)]; simp [h1]
theorem tile_of {W H : Int} {S : List Int} {D : List Bool} (hr : Right W H S D) (t : Int) : rail_tile.f W H S D t = some (decide (0 ≤ t ∧ t < S.length)) := by
  unfold rail_tile.f
  have h1 := hr.small
  by_cases h : 0 ≤ t
  · rw [if_pos (show t ≥ 0 from h), w64 (by omega) (by omega), h1.2.2.2]; simp [h]
  · rw [if_neg (show ¬ t ≥ 0 from h)]; simp [h]
theorem first_neg {p : Int} : fst' p < 0 ↔ ¬ (0 ≤ p ∧ p < 6) := by
  rcases piece_cases p with (rfl | rfl | rfl | rfl | rfl | rfl) | ⟨_, h2, _, h3⟩
  all_goals first | decide | skip
  rw [h2]; simp only [h3]; decide
end Go.Proofs.Ytbndaabjlfdfcaa.PRail
