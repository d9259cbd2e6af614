/- What the functions that the law reaches answer, each for every input. -/
import Derived.Test.YtllgclopliegfaaDoorFnTwo
import Derived.Test.YtllgclopliegfaaDoorEngThree
set_option linter.unusedVariables false
set_option linter.unusedSimpArgs false
set_option linter.unusedVariables false
set_option linter.unusedSimpArgs false
namespace Go.Proofs.YtllgclopliegfaaDoor.Eng
open Go
set_option maxRecDepth 100000
noncomputable section
/-- The bytes of a block: one each tile, a line feed behind each row. -/
def bkJ (f : Nat → Int) (w : Int) : Nat → List Int
  | 0 => []
  | i + 1 => (bkJ f w i ++ [f i]) ++ (if (i : Int).tmod w = w - 1 then [10] else [])
def fS (l : List Int) (i : Nat) : Int := 48 + gI l i
def fW (l : List Bool) (i : Nat) : Int := if gB l i = true then 119 else 46
def textL (r : Rl) : List Int := (bkJ (fS r.2.2.1) r.1 r.2.2.1.length ++ [10]) ++ bkJ (fW r.2.2.2) r.1 r.2.2.2.length
def textR (r : Rl) : ByteArray × Int := if validR r = 0 then (strOfNums (textL r), 0) else (⟨#[]⟩, validR r)
theorem bkJ_succ (f : Nat → Int) (w : Int) (i : Nat) : bkJ f w (i + 1) = (bkJ f w i ++ [f i]) ++ (if (i : Int).tmod w = w - 1 then [10] else []) := rfl
theorem bkJ_len (f : Nat → Int) (w : Int) : ∀ i, (bkJ f w i).length ≤ 2 * i
  | 0 => by simp [bkJ]
  | i + 1 => by
    have ih := bkJ_len f w i
    unfold bkJ
    split <;> simp only [List.length_append, List.length_cons, List.length_nil] <;> omega
theorem str_app (a b : List Int) : strOfNums (a ++ b) = strOfNums a ++ strOfNums b := by
  apply ByteArray.ext
  simp [strOfNums]
/-- What a right set of tracks is. -/
structure Right (r : Rl) (W H : Nat) : Prop where
  w : r.1 = (W : Int)
  h : r.2.1 = (H : Int)
  w4 : 4 ≤ W ∧ W ≤ 32
  h4 : 4 ≤ H ∧ H ≤ 32
  ls : r.2.2.1.length = H * W
  lw : r.2.2.2.length = H * W
  at_ : ∀ i, i < H * W → 0 ≤ gI r.2.2.1 i ∧ gI r.2.2.1 i ≤ 63
theorem right_of {r : Rl} (hv : validR r = 0) : ∃ W H, Right r W H := by
  have hw : ¬ wrongR r := fun q => by unfold validR at hv; rw [if_pos q] at hv; cases hv
  have hb : ¬ (List.range r.2.2.1.length).any (badT r.2.2.1 r.2.2.2) = true := fun q => by unfold validR at hv; rw [if_neg hw, if_pos q] at hv; cases hv
  unfold wrongR at hw
  have h1 := Decidable.not_not.1 (fun q => hw (.inr (.inr (.inr (.inr (.inl q))))))
  have h2 := Decidable.not_not.1 (fun q => hw (.inr (.inr (.inr (.inr (.inr q))))))
  have a1 : ¬ r.1 < 4 := fun q => hw (.inl q)
  have a2 : ¬ 32 < r.1 := fun q => hw (.inr (.inl q))
  have a3 : ¬ r.2.1 < 4 := fun q => hw (.inr (.inr (.inl q)))
  have a4 : ¬ 32 < r.2.1 := fun q => hw (.inr (.inr (.inr (.inl q))))
  have hp := rails_area a1 a2 a3 a4
  rw [hp.2] at h1 h2
  obtain ⟨W, hW⟩ : ∃ W : Nat, r.1 = (W : Int) := ⟨r.1.toNat, by omega⟩
  obtain ⟨H, hH⟩ : ∃ H : Nat, r.2.1 = (H : Int) := ⟨r.2.1.toNat, by omega⟩
  have e : r.1 * r.2.1 = ((H * W : Nat) : Int) := by rw [hW, hH, Int.natCast_mul, Int.mul_comm]
  rw [e] at h1 h2
  refine ⟨W, H, hW, hH, by omega, by omega, by omega, by omega, fun i hi => ?_⟩
  have hb' : (List.range r.2.2.1.length).any (badT r.2.2.1 r.2.2.2) = false := by
    cases e : (List.range r.2.2.1.length).any (badT r.2.2.1 r.2.2.2) with
    | false => rfl
    | true => exact absurd e hb
  have := any_range.1 hb' i (by omega)
  unfold badT at this
  simp only [Bool.or_eq_false_iff, decide_eq_false_iff_not] at this
  omega
def rowOf (f : Nat → Int) (W k : Nat) : List Int := (List.range W).map fun y => f (k * W + y)
theorem tmod_at {W k x : Nat} (hx : x < W) : ((k * W + x : Nat) : Int).tmod (W : Int) = (x : Int) := by
  have h1 : (((k * W + x) % W : Nat) : Int) = ((k * W + x : Nat) : Int).tmod (W : Int) := rfl
  rw [← h1, Nat.mul_comm, Nat.mul_add_mod, Nat.mod_eq_of_lt hx]
theorem bk_in (f : Nat → Int) {W : Nat} (k : Nat) : ∀ x, x < W → bkJ f W (k * W + x) = bkJ f W (k * W) ++ (List.range x).map fun y => f (k * W + y)
  | 0, _ => by simp
  | x + 1, h => by
    have ih := bk_in f (W := W) k x (by omega)
    have ht : ¬ ((k * W + x : Nat) : Int).tmod (W : Int) = (W : Int) - 1 := by rw [tmod_at (W := W) (k := k) (x := x) (by omega)]; omega
    show bkJ f W ((k * W + x) + 1) = _
    rw [bkJ_succ, if_neg ht, ih, List.range_succ, List.map_append, List.append_nil, List.append_assoc]
    rfl
theorem bk_row (f : Nat → Int) {W : Nat} (hW : 0 < W) (k : Nat) : bkJ f W ((k + 1) * W) = (bkJ f W (k * W) ++ rowOf f W k) ++ [10] := by
  obtain ⟨x, rfl⟩ : ∃ x, W = x + 1 := ⟨W - 1, by omega⟩
  have ih := bk_in f (W := x + 1) k x (by omega)
  have ht : ((k * (x + 1) + x : Nat) : Int).tmod ((x + 1 : Nat) : Int) = ((x + 1 : Nat) : Int) - 1 := by rw [tmod_at (W := x + 1) (k := k) (x := x) (by omega)]; omega
  rw [show (k + 1) * (x + 1) = (k * (x + 1) + x) + 1 by rw [Nat.succ_mul]; omega]
  rw [bkJ_succ, if_pos ht, ih]
  unfold rowOf
  rw [List.range_succ, List.map_append]
  simp [List.append_assoc]
def bsN (l : List Int) : List UInt8 := l.map fun n => UInt8.ofNat n.toNat
theorem bsN_app (a b : List Int) : bsN (a ++ b) = bsN a ++ bsN b := List.map_append ..
theorem spl_rows (f : Nat → Int) {W : Nat} (hW : 0 < W) (hf : ∀ i, UInt8.ofNat (f i).toNat ≠ 10) : ∀ (k : Nat) (r : List UInt8), splN (bsN (bkJ f W (k * W)) ++ r) = (List.range k).map (fun j => bsN (rowOf f W j)) ++ splN r
  | 0, r => by simp [bkJ, bsN]
  | k + 1, r => by
    have ih := spl_rows f hW hf k (bsN (rowOf f W k) ++ 10 :: r)
    rw [bk_row f hW, bsN_app, bsN_app, List.append_assoc, List.append_assoc]
    show splN (bsN (bkJ f W (k * W)) ++ (bsN (rowOf f W k) ++ 10 :: r)) = _
    rw [ih, splN_cut, List.range_succ, List.map_append, List.append_assoc]
    · rfl
    · intro c hc
      unfold bsN rowOf at hc
      simp only [List.map_map, List.mem_map] at hc
      obtain ⟨y, _, rfl⟩ := hc
      exact hf _
theorem u8_at {n : Int} (h0 : 0 ≤ n) (h1 : n < 256) : ((UInt8.ofNat n.toNat).toNat : Int) = n := by
  rw [UInt8.toNat_ofNat']
  omega
theorem row_byte {f : Nat → Int} {W k x : Nat} (hx : x < W) (h0 : 0 ≤ f (k * W + x)) (h1 : f (k * W + x) < 256) : byteAt (mkB (bsN (rowOf f W k))) x = f (k * W + x) := by
  show (((bsN (rowOf f W k)).getD x 0).toNat : Int) = _
  have hl : x < (bsN (rowOf f W k)).length := by simp [bsN, rowOf, hx]
  rw [List.getD_eq_getElem?_getD, List.getElem?_eq_getElem hl]
  simp only [Option.getD_some, bsN, rowOf, List.getElem_map, List.getElem_range]
  exact u8_at h0 h1
theorem row_size {f : Nat → Int} {W k : Nat} : (mkB (bsN (rowOf f W k))).size = W := by
  rw [← bs_len, bs_mk]
  simp [bsN, rowOf]
theorem good_alls {p : Int → Bool} {s : ByteArray} : ∀ {n : Nat}, (∀ i, i < n → p (byteAt s i) = true) → goodN p s n = true
  | 0, _ => rfl
  | n + 1, h => by
    unfold goodN
    rw [good_alls (fun i hi => h i (by omega)), h n (by omega)]
    rfl
theorem fS_at {r : Rl} {W H i : Nat} (q : Right r W H) (hi : i < H * W) : 48 ≤ fS r.2.2.1 i ∧ fS r.2.2.1 i < 112 := by
  have := q.at_ i hi
  unfold fS
  omega
theorem fS_all {r : Rl} {W H : Nat} (q : Right r W H) (i : Nat) : 48 ≤ fS r.2.2.1 i ∧ fS r.2.2.1 i < 112 := by
  by_cases hi : i < H * W
  · exact fS_at q hi
  · unfold fS gI
    rw [List.getD_eq_getElem?_getD, List.getElem?_eq_none (by rw [q.ls]; omega)]
    simp
theorem fW_all (l : List Bool) (i : Nat) : fW l i = 119 ∨ fW l i = 46 := by unfold fW; split <;> simp
theorem ne10 {n : Int} (h0 : 11 ≤ n) (h1 : n < 256) : UInt8.ofNat n.toNat ≠ 10 := by
  intro e
  have := congrArg UInt8.toNat e
  rw [UInt8.toNat_ofNat'] at this
  have h2 : (10 : UInt8).toNat = 10 := rfl
  rw [h2] at this
  omega
theorem text_len {r : Rl} {W H : Nat} (q : Right r W H) : (textL r).length ≤ 10000 := by
  have h1 := bkJ_len (fS r.2.2.1) r.1 r.2.2.1.length
  have h2 := bkJ_len (fW r.2.2.2) r.1 r.2.2.2.length
  have h3 : H * W ≤ 32 * 32 := Nat.mul_le_mul q.h4.2 q.w4.2
  have h4 := q.ls
  have h5 := q.lw
  unfold textL
  simp only [List.length_append, List.length_cons, List.length_nil]
  omega
def rowsL (r : Rl) (W H : Nat) : List (List UInt8) := ((List.range H).map (fun j => bsN (rowOf (fS r.2.2.1) W j)) ++ [[]]) ++ (List.range H).map (fun j => bsN (rowOf (fW r.2.2.2) W j))
theorem lines_text {r : Rl} {W H : Nat} (q : Right r W H) : linesB (strOfNums (textL r)) = (rowsL r W H).map mkB := by
  have hW : 0 < W := by have := q.w4; omega
  have f1 : ∀ i, UInt8.ofNat (fS r.2.2.1 i).toNat ≠ 10 := fun i => by have := fS_all q i; exact ne10 (by omega) (by omega)
  have f2 : ∀ i, UInt8.ofNat (fW r.2.2.2 i).toNat ≠ 10 := fun i => by rcases fW_all r.2.2.2 i with h | h <;> rw [h] <;> decide
  have hb : bs (strOfNums (textL r)) = (bsN (bkJ (fS r.2.2.1) W (H * W)) ++ (10 :: (bsN (bkJ (fW r.2.2.2) W (H * W)) ++ []))) := by
    show bsN (textL r) = _
    unfold textL
    rw [q.ls, q.lw, q.w, bsN_app, bsN_app, List.append_nil, List.append_assoc]
    rfl
  have hs : splN (bs (strOfNums (textL r))) = rowsL r W H ++ [[]] := by
    rw [hb, spl_rows _ hW f1]
    have h2 : splN (10 :: (bsN (bkJ (fW r.2.2.2) W (H * W)) ++ [])) = [] :: splN (bsN (bkJ (fW r.2.2.2) W (H * W)) ++ []) := by simp [splN]
    rw [h2, spl_rows _ hW f2]
    simp [rowsL, splN, List.append_assoc]
  obtain ⟨l, hl⟩ : ∃ l, bs (strOfNums (textL r)) = l ++ [10] := by
    obtain ⟨k, hk⟩ : ∃ k, H = k + 1 := ⟨H - 1, by have := q.h4; omega⟩
    refine ⟨bsN (bkJ (fS r.2.2.1) W (H * W)) ++ (10 :: bsN (bkJ (fW r.2.2.2) W (k * W) ++ rowOf (fW r.2.2.2) W k)), ?_⟩
    have e : bsN (bkJ (fW r.2.2.2) W (H * W)) = bsN (bkJ (fW r.2.2.2) W (k * W) ++ rowOf (fW r.2.2.2) W k) ++ [10] := by
      rw [hk, bk_row (fW r.2.2.2) hW k, bsN_app]
      rfl
    rw [hb, List.append_nil, e, List.append_assoc, List.cons_append]
  have ht : trimN (bs (strOfNums (textL r))) = l := by
    rw [hl]
    unfold trimN
    rw [List.getLast?_append]
    simp
  have hsz : ¬ (strOfNums (textL r)).size = 0 := by
    rw [← bs_len, hl]
    simp
  unfold linesB
  rw [if_neg hsz, ht]
  rw [hl, splN_end] at hs
  rw [List.append_cancel_right hs]
end
end Go.Proofs.YtllgclopliegfaaDoor.Eng
set_option linter.unusedVariables false
set_option linter.unusedSimpArgs false
namespace Go.Proofs.YtllgclopliegfaaDoor.Eng
open Go
set_option maxRecDepth 100000
noncomputable section
theorem rowsL_len (r : Rl) (W H : Nat) : ((rowsL r W H).map mkB).length = 2 * H + 1 := by
  simp [rowsL]
  omega
theorem g_first {r : Rl} {W H j : Nat} (hj : j < H) : gS ((rowsL r W H).map mkB) j = mkB (bsN (rowOf (fS r.2.2.1) W j)) := by
  unfold gS rowsL
  rw [List.getD_eq_getElem?_getD, List.getElem?_map, List.append_assoc, List.getElem?_append_left (by simpa using hj), List.getElem?_map, List.getElem?_range hj]
  rfl
theorem g_mid {r : Rl} {W H : Nat} : gS ((rowsL r W H).map mkB) H = mkB [] := by
  unfold gS rowsL
  rw [List.getD_eq_getElem?_getD, List.getElem?_map, List.append_assoc, List.getElem?_append_right (by simp)]
  simp
theorem g_last {r : Rl} {W H j : Nat} (hj : j < H) : gS ((rowsL r W H).map mkB) (H + 1 + j) = mkB (bsN (rowOf (fW r.2.2.2) W j)) := by
  unfold gS rowsL
  rw [List.getD_eq_getElem?_getD, List.getElem?_map, List.getElem?_append_right (by simp)]
  have : H + 1 + j - ((List.range H).map (fun j => bsN (rowOf (fS r.2.2.1) W j)) ++ [[]]).length = j := by simp
  rw [this, List.getElem?_map, List.getElem?_range hj]
  rfl
theorem rowI_eq {l : List Int} {s : ByteArray} {a : Nat} : ∀ x, (∀ y, y < x → byteAt s y = 48 + gI l (a + y)) → a + x ≤ l.length → rowI s x = (l.drop a).take x
  | 0, _, _ => by simp [rowI]
  | x + 1, h, hl => by
    rw [rowI, rowI_eq x (fun y hy => h y (by omega)) (by omega), h x (by omega), List.take_add_one, List.getElem?_drop, List.getElem?_eq_getElem (by omega : a + x < l.length)]
    rw [gI_eq (by omega : a + x < l.length)]
    simp only [Option.toList_some]
    congr 2
    omega
theorem rowW_eq {l : List Bool} {s : ByteArray} {a : Nat} : ∀ x, (∀ y, y < x → decide (byteAt s y = 119) = gB l (a + y)) → a + x ≤ l.length → rowW s x = (l.drop a).take x
  | 0, _, _ => by simp [rowW]
  | x + 1, h, hl => by
    rw [rowW, rowW_eq x (fun y hy => h y (by omega)) (by omega), h x (by omega), List.take_add_one, List.getElem?_drop, List.getElem?_eq_getElem (by omega : a + x < l.length)]
    rw [gB_eq (by omega : a + x < l.length)]
    rfl
theorem mul_in {H W k y : Nat} (hk : k < H) (hy : y < W) : k * W + y < H * W := by
  have : (k + 1) * W ≤ H * W := Nat.mul_le_mul_right _ hk
  rw [Nat.succ_mul] at this
  omega
theorem byteS {r : Rl} {W H k y : Nat} (q : Right r W H) (hk : k < H) (hy : y < W) : byteAt (gS ((rowsL r W H).map mkB) k) y = 48 + gI r.2.2.1 (k * W + y) := by
  have := fS_all q (k * W + y)
  rw [g_first hk, row_byte hy (by omega) (by omega)]
  rfl
theorem byteW {r : Rl} {W H k y : Nat} (q : Right r W H) (hk : k < H) (hy : y < W) : byteAt (gS ((rowsL r W H).map mkB) (H + 1 + k)) y = fW r.2.2.2 (k * W + y) := by
  have := fW_all r.2.2.2 (k * W + y)
  rw [g_last hk, row_byte hy (by omega) (by omega)]
theorem rowsI_eq {r : Rl} {W H : Nat} (q : Right r W H) : ∀ n, n ≤ H → rowsI ((rowsL r W H).map mkB) W n = r.2.2.1.take (n * W)
  | 0, _ => by simp [rowsI]
  | n + 1, h => by
    have hb : (n + 1) * W ≤ H * W := Nat.mul_le_mul_right _ h
    have hl := q.ls
    rw [Nat.succ_mul] at hb
    rw [rowsI, rowsI_eq q n (by omega), rowI_eq W (fun y hy => byteS q (by omega) hy) (by omega), Nat.succ_mul, List.take_add]
theorem rowsW_eq {r : Rl} {W H : Nat} (q : Right r W H) : ∀ n, n ≤ H → rowsW ((rowsL r W H).map mkB) W H n = r.2.2.2.take (n * W)
  | 0, _ => by simp [rowsW]
  | n + 1, h => by
    have hb : (n + 1) * W ≤ H * W := Nat.mul_le_mul_right _ h
    have hl := q.lw
    rw [Nat.succ_mul] at hb
    rw [rowsW, rowsW_eq q n (by omega), rowW_eq W (fun y hy => by
      rw [byteW q (by omega) hy]
      unfold fW
      cases gB r.2.2.2 (n * W + y) <;> simp) (by omega), Nat.succ_mul, List.take_add]
theorem parse_text {r : Rl} (hv : validR r = 0) : parseL (linesB (strOfNums (textL r))) = (r, 0, 0) := by
  obtain ⟨W, H, q⟩ := right_of hv
  have hW := q.w4
  have hH := q.h4
  rw [lines_text q]
  have hl := rowsL_len r W H
  have h0 : (gS ((rowsL r W H).map mkB) 0).size = W := by rw [g_first (by omega), row_size]
  have goodS : ∀ j, j < H → goodR (gS ((rowsL r W H).map mkB) j) (W : Int) setB = true := by
    intro j hj
    have hs : (gS ((rowsL r W H).map mkB) j).size = W := by rw [g_first hj, row_size]
    refine good_all (by rw [hs]) (good_alls fun i hi => ?_)
    rw [hs] at hi
    rw [byteS q hj hi]
    have := q.at_ (j * W + i) (mul_in hj hi)
    rw [setB_iff]
    omega
  have goodW : ∀ j, j < H → goodR (gS ((rowsL r W H).map mkB) (H + 1 + j)) (W : Int) wireB = true := by
    intro j hj
    have hs : (gS ((rowsL r W H).map mkB) (H + 1 + j)).size = W := by rw [g_last hj, row_size]
    refine good_all (by rw [hs]) (good_alls fun i hi => ?_)
    rw [hs] at hi
    rw [byteW q hj hi, wireB_iff]
    exact fW_all _ _
  have b1 : B1 ((rowsL r W H).map mkB) H := by
    intro j hj
    unfold stop1
    rw [h0, goodS j hj]
    have hs : (gS ((rowsL r W H).map mkB) j).size = W := by rw [g_first hj, row_size]
    unfold emp
    rw [hs, decide_eq_false (by omega)]
    rfl
  have hat : AtH ((rowsL r W H).map mkB) H := ⟨b1, by omega, by rw [g_mid]; rfl, by omega⟩
  have b2 : B2 ((rowsL r W H).map mkB) H ((rowsL r W H).map mkB).length := by
    intro k h1 h2
    obtain ⟨j, rfl⟩ : ∃ j, k = H + 1 + j := ⟨k - (H + 1), by omega⟩
    unfold stop2
    rw [h0, goodW j (by omega), decide_eq_false (by omega)]
    rfl
  have hr : railsL ((rowsL r W H).map mkB) H = r := by
    unfold railsL
    rw [h0, rowsI_eq q H (Nat.le_refl _), rowsW_eq q H (Nat.le_refl _), ← q.ls, List.take_length, q.ls, ← q.lw, List.take_length, ← q.w, ← q.h]
  have := p_ok hat b2 (by omega) (by rw [hr]; exact hv)
  rw [hr] at this
  exact this
end
end Go.Proofs.YtllgclopliegfaaDoor.Eng
set_option linter.unusedVariables false
set_option linter.unusedSimpArgs false
namespace Go.Proofs.YtllgclopliegfaaDoor.Eng
open Go
set_option maxRecDepth 100000
noncomputable section
theorem bkJ_rng {f : Nat → Int} (hf : ∀ i, 0 ≤ f i ∧ f i < 256) (w : Int) : ∀ i, ∀ x ∈ bkJ f w i, 0 ≤ x ∧ x < 256
  | 0, x, h => by cases h
  | i + 1, x, h => by
    rw [bkJ_succ] at h
    rcases List.mem_append.1 h with h | h
    · rcases List.mem_append.1 h with h | h
      · exact bkJ_rng hf w i x h
      · rw [List.mem_singleton.1 h]; exact hf i
    · split at h
      · rw [List.mem_singleton.1 h]; omega
      · cases h
theorem bkJ_ne (f : Nat → Int) (w : Int) {i : Nat} (h : 0 < i) : bkJ f w i ≠ [] := by
  obtain ⟨k, rfl⟩ : ∃ k, i = k + 1 := ⟨i - 1, by omega⟩
  rw [bkJ_succ]
  simp
theorem fW_rng (l : List Bool) (i : Nat) : 0 ≤ fW l i ∧ fW l i < 256 := by rcases fW_all l i with h | h <;> rw [h] <;> decide
theorem conv_fS {r : Rl} {W H i : Nat} (q : Right r W H) (hi : i < H * W) : IntKind.u8.wrap (IntKind.i64.wrap (48 + gI r.2.2.1 i)) = fS r.2.2.1 i := by
  have := q.at_ i hi
  rw [wrap_eq (by omega) (by omega)]
  unfold fS IntKind.wrap
  simp only [IntKind.signed, IntKind.bits]
  have h := Int.emod_eq_of_lt (a := 48 + gI r.2.2.1 i) (b := 256) (by omega) (by omega)
  first | exact h | simpa using h | omega
def S10a (w h : Int) (l : List Int) (wl : List Bool) (a : List Int) (i : Int) : SL := ⟨List.replicate 1 .undef ++ [.ptr 0 0 0] ++ List.replicate 3 .undef ++ [.own 1] ++ [.int .i64 i] ++ List.replicate 68 .undef, [(0, .box [.int .i64 w, .int .i64 h, .sl I l, .sl .bool wl]), (1, .arr (.int .u8) a)], 2⟩
def S10b (w h : Int) (l : List Int) (wl : List Bool) (a : List Int) (j : Int) : SL := ⟨List.replicate 1 .undef ++ [.ptr 0 0 0] ++ List.replicate 3 .undef ++ [.own 1] ++ List.replicate 1 .undef ++ [.int .i64 j] ++ List.replicate 67 .undef, [(0, .box [.int .i64 w, .int .i64 h, .sl I l, .sl .bool wl]), (1, .arr (.int .u8) a)], 2⟩
def E10 : Env := ⟨tab, [(14, K14)], fun n => match n with | 6 => some ([1, 5, 6], [(5, .int .u8)], []) | 13 => some ([1, 5, 7], [], []) | _ => none⟩
def K10 : Fn1 := ⟨.one rlT, .fld .str (.one I), fun _ => [], fun (r : Rl) => textR r⟩
set_option maxHeartbeats 1000000 in
theorem k10 : FnOk Go.Proofs.Tryd.prog 10 K10 := by
  refine fn_ok (E := E10) (TOk.of tab_told) (AllOk.cons k14 .nil).at_ mix Go.Proofs.Tryd.func10 rfl rfl (by kernel_rfl) K10 ?_
  rintro ⟨(w : Int), (h : Int), (l : List Int), (wl : List Bool)⟩ hp
  clear hp
  conv => whnf
  refine cond_intro (fun hv => ?_) (fun hv => ?_)
  · have hv : (!decide (validR (w, h, l, wl) = 0)) = true := hv
    have hv : ¬ (validR (w, h, l, wl) = 0) := fun e => absurd hv (by rw [decide_eq_true e]; decide)
    conv => whnf
    show ((⟨#[]⟩ : ByteArray), validR (w, h, l, wl)) = textR (w, h, l, wl)
    unfold textR
    rw [if_neg hv]
  have hv : (!decide (validR (w, h, l, wl) = 0)) = false := hv
  have hv : validR (w, h, l, wl) = 0 := Decidable.byContradiction fun e => absurd hv (by rw [decide_eq_false e]; decide)
  obtain ⟨W, H, q⟩ := right_of hv
  have hw : w = (W : Int) := q.w
  have w4 := q.w4
  have h4 := q.h4
  have ll : l.length = H * W := q.ls
  have lw : wl.length = H * W := q.lw
  have hb : H * W ≤ 32 * 32 := Nat.mul_le_mul q.h4.2 q.w4.2
  have ww : IntKind.i64.wrap (w - 1) = w - 1 := wrap_eq (by omega) (by omega)
  have hpos : 4 * 4 ≤ H * W := Nat.mul_le_mul q.h4.1 q.w4.1
  conv => whnf
  refine loop_rule (fun i => S10a w h l wl (bkJ (fS l) w i.toNat) i) (fun i => ((l.length : Int) - i).toNat) (fun i => 0 ≤ i ∧ i ≤ l.length) ?_ 0 (by kernel_rfl) ?_ ⟨by omega, by omega⟩
  case refine_2 => rfl
  rintro i ⟨i0, i1⟩
  conv => whnf
  refine cond_intro (fun hi => ?_) (fun hi => ?_)
  · have hi : i < (l.length : Int) := @of_decide_eq_true _ _ hi
    have wi : IntKind.i64.wrap (i + 1) = i + 1 := wrap_eq (by omega) (by omega)
    have ei : (i + 1).toNat = i.toNat + 1 := by omega
    have hcv := conv_fS q (i := i.toNat) (by omega)
    have hcv : (IntKind.u8.wrap (IntKind.i64.wrap (48 + gI l i.toNat))) = fS l i.toNat := hcv
    have hbl := bkJ_len (fS l) w i.toNat
    conv => whnf
    refine ⟨i0, ?_⟩
    conv => whnf
    refine ⟨hi, ?_⟩
    conv => whnf
    refine ⟨show ((bkJ (fS l) w i.toNat).length + 1) * 1 ≤ 70368744177664 by first | omega | (simp only [List.length_append, List.length_cons, List.length_nil]; omega), ?_⟩
    conv => whnf
    refine ⟨show (bkJ (fS l) w i.toNat).length + 1 ≤ 70368744177664 by first | omega | (simp only [List.length_append, List.length_cons, List.length_nil]; omega), ?_⟩
    conv => whnf
    refine ⟨show ¬ w = 0 by omega, ?_⟩
    conv => whnf
    refine cond_intro (fun c1 => ?_) (fun c1 => ?_)
    · have c1 : i.tmod w = IntKind.i64.wrap (w - 1) := @of_decide_eq_true _ _ c1
      rw [ww] at c1
      have ct : ((i.toNat : Nat) : Int).tmod w = w - 1 := by rw [show ((i.toNat : Nat) : Int) = i by omega]; exact c1
      conv => whnf
      refine ⟨show (((bkJ (fS l) w i.toNat) ++ ([(IntKind.u8.wrap (IntKind.i64.wrap (48 + gI l i.toNat)))] : List Int)).length + 1) * 1 ≤ 70368744177664 by first | omega | (simp only [List.length_append, List.length_cons, List.length_nil]; omega), ?_⟩
      conv => whnf
      refine ⟨show ((bkJ (fS l) w i.toNat) ++ ([(IntKind.u8.wrap (IntKind.i64.wrap (48 + gI l i.toNat)))] : List Int)).length + 1 ≤ 70368744177664 by first | omega | (simp only [List.length_append, List.length_cons, List.length_nil]; omega), ?_⟩
      conv => whnf
      refine ⟨i + 1, ?_, ⟨by omega, by omega⟩, by omega⟩
      exact Eq.trans (b := S10a w h l wl (((bkJ (fS l) w i.toNat) ++ ([(IntKind.u8.wrap (IntKind.i64.wrap (48 + gI l i.toNat)))] : List Int)) ++ ([10] : List Int)) (IntKind.i64.wrap (i + 1))) rfl (by rw [wi, ei, bkJ_succ, if_pos ct, hcv])
    have c1 : ¬ (i.tmod w = IntKind.i64.wrap (w - 1)) := @of_decide_eq_false _ _ c1
    rw [ww] at c1
    have ct : ¬ ((i.toNat : Nat) : Int).tmod w = w - 1 := by rw [show ((i.toNat : Nat) : Int) = i by omega]; exact c1
    conv => whnf
    refine ⟨i + 1, ?_, ⟨by omega, by omega⟩, by omega⟩
    exact Eq.trans (b := S10a w h l wl ((bkJ (fS l) w i.toNat) ++ ([(IntKind.u8.wrap (IntKind.i64.wrap (48 + gI l i.toNat)))] : List Int)) (IntKind.i64.wrap (i + 1))) rfl (by rw [wi, ei, bkJ_succ, if_neg ct, hcv, List.append_nil])
  have hi : ¬ (i < (l.length : Int)) := @of_decide_eq_false _ _ hi
  rw [show i.toNat = l.length by omega]
  have hbl := bkJ_len (fS l) w l.length
  conv => whnf
  refine ⟨show ((bkJ (fS l) w l.length).length + 1) * 1 ≤ 70368744177664 by first | omega | (simp only [List.length_append, List.length_cons, List.length_nil]; omega), ?_⟩
  conv => whnf
  refine ⟨show (bkJ (fS l) w l.length).length + 1 ≤ 70368744177664 by first | omega | (simp only [List.length_append, List.length_cons, List.length_nil]; omega), ?_⟩
  conv => whnf
  refine loop_rule (fun j => S10b w h l wl ((bkJ (fS l) w l.length ++ ([10] : List Int)) ++ bkJ (fW wl) w j.toNat) j) (fun j => ((wl.length : Int) - j).toNat) (fun j => 0 ≤ j ∧ j ≤ wl.length) ?_ 0 (by kernel_rfl) ?_ ⟨by omega, by omega⟩
  case refine_2 => exact Eq.trans (b := S10b w h l wl (bkJ (fS l) w l.length ++ ([10] : List Int)) 0) rfl (by rw [show bkJ (fW wl) w (0 : Int).toNat = [] from rfl, List.append_nil])
  rintro j ⟨j0, j1⟩
  conv => whnf
  refine cond_intro (fun hj => ?_) (fun hj => ?_)
  · have hj : j < (wl.length : Int) := @of_decide_eq_true _ _ hj
    have wj : IntKind.i64.wrap (j + 1) = j + 1 := wrap_eq (by omega) (by omega)
    have ej : (j + 1).toNat = j.toNat + 1 := by omega
    have hbl := bkJ_len (fS l) w l.length
    have hbw := bkJ_len (fW wl) w j.toNat
    conv => whnf
    refine ⟨j0, ?_⟩
    conv => whnf
    refine ⟨hj, ?_⟩
    conv => whnf
    refine cond_intro (fun g => ?_) (fun g => ?_)
    · have g : (gB wl j.toNat) = true := g
      have hf : fW wl j.toNat = 119 := by unfold fW; rw [if_pos g]
      conv => whnf
      refine ⟨show (((bkJ (fS l) w l.length ++ ([10] : List Int)) ++ bkJ (fW wl) w j.toNat).length + 1) * 1 ≤ 70368744177664 by first | omega | (simp only [List.length_append, List.length_cons, List.length_nil]; omega), ?_⟩
      conv => whnf
      refine ⟨show ((bkJ (fS l) w l.length ++ ([10] : List Int)) ++ bkJ (fW wl) w j.toNat).length + 1 ≤ 70368744177664 by first | omega | (simp only [List.length_append, List.length_cons, List.length_nil]; omega), ?_⟩
      conv => whnf
      refine ⟨show ¬ w = 0 by omega, ?_⟩
      conv => whnf
      refine cond_intro (fun c1 => ?_) (fun c1 => ?_)
      · have c1 : j.tmod w = IntKind.i64.wrap (w - 1) := @of_decide_eq_true _ _ c1
        rw [ww] at c1
        have ct : ((j.toNat : Nat) : Int).tmod w = w - 1 := by rw [show ((j.toNat : Nat) : Int) = j by omega]; exact c1
        conv => whnf
        refine ⟨show ((((bkJ (fS l) w l.length ++ ([10] : List Int)) ++ bkJ (fW wl) w j.toNat) ++ ([119] : List Int)).length + 1) * 1 ≤ 70368744177664 by first | omega | (simp only [List.length_append, List.length_cons, List.length_nil]; omega), ?_⟩
        conv => whnf
        refine ⟨show (((bkJ (fS l) w l.length ++ ([10] : List Int)) ++ bkJ (fW wl) w j.toNat) ++ ([119] : List Int)).length + 1 ≤ 70368744177664 by first | omega | (simp only [List.length_append, List.length_cons, List.length_nil]; omega), ?_⟩
        conv => whnf
        refine ⟨j + 1, ?_, ⟨by omega, by omega⟩, by omega⟩
        exact Eq.trans (b := S10b w h l wl ((((bkJ (fS l) w l.length ++ ([10] : List Int)) ++ bkJ (fW wl) w j.toNat) ++ ([119] : List Int)) ++ ([10] : List Int)) (IntKind.i64.wrap (j + 1))) rfl (by rw [wj, ej, bkJ_succ, if_pos ct, hf]; simp only [List.append_assoc])
      have c1 : ¬ (j.tmod w = IntKind.i64.wrap (w - 1)) := @of_decide_eq_false _ _ c1
      rw [ww] at c1
      have ct : ¬ ((j.toNat : Nat) : Int).tmod w = w - 1 := by rw [show ((j.toNat : Nat) : Int) = j by omega]; exact c1
      conv => whnf
      refine ⟨j + 1, ?_, ⟨by omega, by omega⟩, by omega⟩
      exact Eq.trans (b := S10b w h l wl (((bkJ (fS l) w l.length ++ ([10] : List Int)) ++ bkJ (fW wl) w j.toNat) ++ ([119] : List Int)) (IntKind.i64.wrap (j + 1))) rfl (by rw [wj, ej, bkJ_succ, if_neg ct, hf, List.append_nil]; simp only [List.append_assoc])
    have g : (gB wl j.toNat) = false := g
    have hf : fW wl j.toNat = 46 := by unfold fW; rw [if_neg (by rw [g]; decide)]
    conv => whnf
    refine ⟨show (((bkJ (fS l) w l.length ++ ([10] : List Int)) ++ bkJ (fW wl) w j.toNat).length + 1) * 1 ≤ 70368744177664 by first | omega | (simp only [List.length_append, List.length_cons, List.length_nil]; omega), ?_⟩
    conv => whnf
    refine ⟨show ((bkJ (fS l) w l.length ++ ([10] : List Int)) ++ bkJ (fW wl) w j.toNat).length + 1 ≤ 70368744177664 by first | omega | (simp only [List.length_append, List.length_cons, List.length_nil]; omega), ?_⟩
    conv => whnf
    refine ⟨show ¬ w = 0 by omega, ?_⟩
    conv => whnf
    refine cond_intro (fun c1 => ?_) (fun c1 => ?_)
    · have c1 : j.tmod w = IntKind.i64.wrap (w - 1) := @of_decide_eq_true _ _ c1
      rw [ww] at c1
      have ct : ((j.toNat : Nat) : Int).tmod w = w - 1 := by rw [show ((j.toNat : Nat) : Int) = j by omega]; exact c1
      conv => whnf
      refine ⟨show ((((bkJ (fS l) w l.length ++ ([10] : List Int)) ++ bkJ (fW wl) w j.toNat) ++ ([46] : List Int)).length + 1) * 1 ≤ 70368744177664 by first | omega | (simp only [List.length_append, List.length_cons, List.length_nil]; omega), ?_⟩
      conv => whnf
      refine ⟨show (((bkJ (fS l) w l.length ++ ([10] : List Int)) ++ bkJ (fW wl) w j.toNat) ++ ([46] : List Int)).length + 1 ≤ 70368744177664 by first | omega | (simp only [List.length_append, List.length_cons, List.length_nil]; omega), ?_⟩
      conv => whnf
      refine ⟨j + 1, ?_, ⟨by omega, by omega⟩, by omega⟩
      exact Eq.trans (b := S10b w h l wl ((((bkJ (fS l) w l.length ++ ([10] : List Int)) ++ bkJ (fW wl) w j.toNat) ++ ([46] : List Int)) ++ ([10] : List Int)) (IntKind.i64.wrap (j + 1))) rfl (by rw [wj, ej, bkJ_succ, if_pos ct, hf]; simp only [List.append_assoc])
    have c1 : ¬ (j.tmod w = IntKind.i64.wrap (w - 1)) := @of_decide_eq_false _ _ c1
    rw [ww] at c1
    have ct : ¬ ((j.toNat : Nat) : Int).tmod w = w - 1 := by rw [show ((j.toNat : Nat) : Int) = j by omega]; exact c1
    conv => whnf
    refine ⟨j + 1, ?_, ⟨by omega, by omega⟩, by omega⟩
    exact Eq.trans (b := S10b w h l wl (((bkJ (fS l) w l.length ++ ([10] : List Int)) ++ bkJ (fW wl) w j.toNat) ++ ([46] : List Int)) (IntKind.i64.wrap (j + 1))) rfl (by rw [wj, ej, bkJ_succ, if_neg ct, hf, List.append_nil]; simp only [List.append_assoc])
  have hj : ¬ (j < (wl.length : Int)) := @of_decide_eq_false _ _ hj
  rw [show j.toNat = wl.length by omega]
  conv => whnf
  show (strOfNums ((bkJ (fS l) w l.length ++ ([10] : List Int)) ++ bkJ (fW wl) w wl.length), (0 : Int)) = textR (w, h, l, wl)
  unfold textR textL
  rw [if_pos hv]
end
end Go.Proofs.YtllgclopliegfaaDoor.Eng
set_option linter.unusedVariables false
set_option linter.unusedSimpArgs false
namespace Go.Proofs
open Go.RowKit Go.Shelf Go.Lib
def Tryd.bren : Go.Shelf.Ren := ⟨fun | 167 => 22 | 169 => 23 | 240 => 26 | 276 => 29 | n => n, fun | 0 => 0 | 3 => 3 | 4 => 4 | 5 => 5 | 9 => 9 | 20 => 20 | 37 => 44 | 70 => 45 | 72 => 47 | 75 => 49 | 80 => 51 | 127 => 54 | 164 => 56 | n => n, fun | n => n⟩
theorem Tryd.laysWB : Lays.n167 Tryd.prog Tryd.bren where
  mixed := by kernel_rfl
  f167 := Tryd.func22.trans (congrArg some (by kernel_rfl))
  f240 := Tryd.func26.trans (congrArg some (by kernel_rfl))
  f276 := Tryd.func29.trans (congrArg some (by kernel_rfl))
  t0 := Tryd.underlying0
  a0 := Tryd.isAgg0
  z0 := Tryd.sizeOf0
  v0 := Tryd.zeroValue0
  t4 := Tryd.underlying4
  a4 := Tryd.isAgg4
  z4 := Tryd.sizeOf4
  v4 := Tryd.zeroValue4
  t5 := Tryd.underlying5
  a5 := Tryd.isAgg5
  z5 := Tryd.sizeOf5
  v5 := Tryd.zeroValue5
  t9 := Tryd.underlying9
  a9 := Tryd.isAgg9
  z9 := Tryd.sizeOf9
  v9 := Tryd.zeroValue9
  t20 := Tryd.underlying20
  a20 := Tryd.isAgg20
  z20 := Tryd.sizeOf20
  v20 := Tryd.zeroValue20
  t37 := Tryd.underlying44
  a37 := Tryd.isAgg44
  z37 := Tryd.sizeOf44
  v37 := Tryd.zeroValue44
  t70 := Tryd.underlying45
  a70 := Tryd.isAgg45
  z70 := Tryd.sizeOf45
  v70 := Tryd.zeroValue45
  t72 := Tryd.underlying47
  a72 := Tryd.isAgg47
  z72 := Tryd.sizeOf47
  v72 := Tryd.zeroValue47
  t75 := Tryd.underlying49
  a75 := Tryd.isAgg49
  z75 := Tryd.sizeOf49
  v75 := Tryd.zeroValue49
  t164 := Tryd.underlying56
  a164 := Tryd.isAgg56
  z164 := Tryd.sizeOf56
  v164 := Tryd.zeroValue56
theorem Tryd.laysBS : Lays.n169 Tryd.prog Tryd.bren where
  mixed := by kernel_rfl
  f169 := Tryd.func23.trans (congrArg some (by kernel_rfl))
  t0 := Tryd.underlying0
  a0 := Tryd.isAgg0
  z0 := Tryd.sizeOf0
  v0 := Tryd.zeroValue0
  t3 := Tryd.underlying3
  a3 := Tryd.isAgg3
  z3 := Tryd.sizeOf3
  v3 := Tryd.zeroValue3
  t9 := Tryd.underlying9
  a9 := Tryd.isAgg9
  z9 := Tryd.sizeOf9
  v9 := Tryd.zeroValue9
  t37 := Tryd.underlying44
  a37 := Tryd.isAgg44
  z37 := Tryd.sizeOf44
  v37 := Tryd.zeroValue44
  t70 := Tryd.underlying45
  a70 := Tryd.isAgg45
  z70 := Tryd.sizeOf45
  v70 := Tryd.zeroValue45
  t72 := Tryd.underlying47
  a72 := Tryd.isAgg47
  z72 := Tryd.sizeOf47
  v72 := Tryd.zeroValue47
  t127 := Tryd.underlying54
  a127 := Tryd.isAgg54
  z127 := Tryd.sizeOf54
  v127 := Tryd.zeroValue54
theorem Tryd.extB : Builder.Extra Tryd.prog Tryd.bren where
  sizeBuilder := by kernel_rfl
  liesBuilder := by kernel_rfl
  t5 := Tryd.underlying5
  a5 := Tryd.isAgg5
  z5 := Tryd.sizeOf5
  v5 := Tryd.zeroValue5
  infoByte := by kernel_rfl
  cellsByte := by kernel_rfl
  sizeByte := by kernel_rfl
  neB5 := by decide
end Go.Proofs
namespace Go.Proofs.YtllgclopliegfaaDoor.Eng
open Go Go.Lib
set_option maxRecDepth 100000
noncomputable section
theorem k22 : FxOk Go.Proofs.Tryd.prog 22 (wbX 47 5) := wb_fx Tryd.laysWB Tryd.extB ⟨_, _, Go.Proofs.Tryd.func22, rfl, rfl⟩
theorem k23 : FxOk Go.Proofs.Tryd.prog 23 (bsX 47 5) := bs_fx Tryd.laysBS Tryd.extB ⟨_, _, Go.Proofs.Tryd.func23, rfl, rfl⟩
end
end Go.Proofs.YtllgclopliegfaaDoor.Eng
set_option linter.unusedVariables false
set_option linter.unusedSimpArgs false
namespace Go.Proofs.YtllgclopliegfaaDoor.Eng
open Go
set_option maxRecDepth 100000
noncomputable section
def S11 (w h : Int) (l : List Int) (wl : List Bool) (A B : List Int) (x : Bool × Int) : SL := match x with
  | (false, i) => ⟨List.replicate 1 .undef ++ [.ptr 0 0 0] ++ List.replicate 3 .undef ++ [.ptr 1 0 0] ++ [.ptr 2 0 0] ++ List.replicate 8 .undef ++ [.sl I l] ++ [.int .i64 l.length] ++ [.int .i64 i] ++ List.replicate 30 .undef, [(0, .box [.int .i64 w, .int .i64 h, .sl I l, .sl .bool wl]), (1, .tbx 47 none), (2, .tbx 47 none)], 3⟩
  | (true, i) => ⟨List.replicate 1 .undef ++ [.ptr 0 0 0] ++ List.replicate 3 .undef ++ [.ptr 1 0 0] ++ [.ptr 2 0 0] ++ List.replicate 8 .undef ++ [.sl I l] ++ [.int .i64 l.length] ++ [.int .i64 i] ++ List.replicate 30 .undef, [(0, .box [.int .i64 w, .int .i64 h, .sl I l, .sl .bool wl]), (1, .tbx 47 (some (some 3))), (2, .tbx 47 (some (some 4))), (3, .trow 5 A), (4, .trow 5 B)], 5⟩
def E11 : Env := ⟨tab, [(19, K19), (22, .eff (wbX 47 5)), (23, .eff (bsX 47 5))], fun n => match n with | 6 => some ([1, 5, 6, 15, 16, 17], [], []) | 999997 => some ([47], [], []) | _ => none⟩
def K11 : Fn1 := ⟨.one rlT, .fld .str (.one I), fun _ => [], fun (r : Rl) => textR r⟩
set_option maxHeartbeats 4000000 in
theorem k11 : FnOk Go.Proofs.Tryd.prog 11 K11 := by
  refine fn_ok (E := E11) (TOk.of tab_told) (AllOk.cons k19 (.consX k22 (.consX k23 .nil))).at_ mix Go.Proofs.Tryd.func11 rfl rfl (by kernel_rfl) K11 ?_
  rintro ⟨(w : Int), (h : Int), (l : List Int), (wl : List Bool)⟩ hp
  clear hp
  conv => whnf
  refine cond_intro (fun hv => ?_) (fun hv => ?_)
  · have hv : (!decide (validR (w, h, l, wl) = 0)) = true := hv
    have hv : ¬ (validR (w, h, l, wl) = 0) := fun e => absurd hv (by rw [decide_eq_true e]; decide)
    conv => whnf
    show ((⟨#[]⟩ : ByteArray), validR (w, h, l, wl)) = textR (w, h, l, wl)
    unfold textR
    rw [if_neg hv]
  have hv : (!decide (validR (w, h, l, wl) = 0)) = false := hv
  have hv : validR (w, h, l, wl) = 0 := Decidable.byContradiction fun e => absurd hv (by rw [decide_eq_false e]; decide)
  obtain ⟨W, H, q⟩ := right_of hv
  have hw : w = (W : Int) := q.w
  have w4 := q.w4
  have h4 := q.h4
  have ll : l.length = H * W := q.ls
  have lw : wl.length = H * W := q.lw
  have hb : H * W ≤ 32 * 32 := Nat.mul_le_mul q.h4.2 q.w4.2
  have ww : IntKind.i64.wrap (w - 1) = w - 1 := wrap_eq (by omega) (by omega)
  have hpos : 4 * 4 ≤ H * W := Nat.mul_le_mul q.h4.1 q.w4.1
  conv => whnf
  refine loop_rule (fun x => S11 w h l wl (bkJ (fS l) w x.2.toNat) (bkJ (fW wl) w x.2.toNat) x) (fun x => ((l.length : Int) - x.2).toNat) (fun x => (x.1 = false → x.2 = 0) ∧ (x.1 = true → 0 < x.2) ∧ x.2 ≤ l.length) ?_ (false, 0) (by kernel_rfl) ?_ ⟨fun _ => rfl, fun e => (by cases e), by show (0 : Int) ≤ _; omega⟩
  case refine_2 => rfl
  rintro ⟨u, i⟩ ⟨u0, u1, i1⟩
  have i1 : i ≤ (l.length : Int) := i1
  cases u
  · have i0 : i = 0 := u0 rfl
    clear u0 u1
    have i0' := i0
    have i0 : 0 ≤ i := by omega
    conv => whnf
    refine cond_intro (fun hi => ?_) (fun hi => ?_)
    · have hi : i < (l.length : Int) := @of_decide_eq_true _ _ hi
      have wi : IntKind.i64.wrap (i + 1) = i + 1 := wrap_eq (by omega) (by omega)
      have ei : (i + 1).toNat = i.toNat + 1 := by omega
      have hcv := conv_fS q (i := i.toNat) (by omega)
      have hcv : (IntKind.u8.wrap (IntKind.i64.wrap (48 + gI l i.toNat))) = fS l i.toNat := hcv
      have hbl := bkJ_len (fS l) w i.toNat
      have hbw := bkJ_len (fW wl) w i.toNat
      have hi2 : i < (wl.length : Int) := by omega
      have hi0 : i.toNat = 0 := by omega
      conv => whnf
      refine ⟨i0, ?_⟩
      conv => whnf
      refine ⟨hi, ?_⟩
      conv => whnf
      refine ⟨i0, ?_⟩
      conv => whnf
      refine ⟨hi2, ?_⟩
      conv => whnf
      refine cond_intro (fun g => ?_) (fun g => ?_)
      · have g : (gB wl i.toNat) = true := g
        have hf : fW wl i.toNat = 119 := by unfold fW; rw [if_pos g]
        conv => whnf
        refine ⟨show ¬ w = 0 by omega, ?_⟩
        conv => whnf
        refine cond_intro (fun c1 => ?_) (fun c1 => ?_)
        · have c1 : i.tmod w = IntKind.i64.wrap (w - 1) := @of_decide_eq_true _ _ c1
          rw [ww] at c1
          have ct : ((i.toNat : Nat) : Int).tmod w = w - 1 := by rw [show ((i.toNat : Nat) : Int) = i by omega]; exact c1
          exfalso
          rw [hi0] at ct
          have ct : (0 : Int) = w - 1 := by simpa using ct
          omega
        have c1 : ¬ (i.tmod w = IntKind.i64.wrap (w - 1)) := @of_decide_eq_false _ _ c1
        rw [ww] at c1
        have ct : ¬ ((i.toNat : Nat) : Int).tmod w = w - 1 := by rw [show ((i.toNat : Nat) : Int) = i by omega]; exact c1
        conv => whnf
        refine ⟨(true, i + 1), ?_, ⟨fun e => (by cases e), fun _ => (by show 0 < i + 1; omega), by show i + 1 ≤ (l.length : Int); omega⟩, by show ((l.length : Int) - (i + 1)).toNat < ((l.length : Int) - i).toNat; omega⟩
        exact Eq.trans (b := S11 w h l wl ([(IntKind.u8.wrap (IntKind.i64.wrap (48 + gI l i.toNat)))] : List Int) ([119] : List Int) (true, IntKind.i64.wrap (i + 1))) rfl (by show _ = S11 w h l wl (bkJ (fS l) w (i + 1).toNat) (bkJ (fW wl) w (i + 1).toNat) (true, i + 1); rw [wi, ei, bkJ_succ, bkJ_succ, if_neg ct, hcv, hf, List.append_nil, List.append_nil, hi0]; rfl)
      have g : (gB wl i.toNat) = false := g
      have hf : fW wl i.toNat = 46 := by unfold fW; rw [if_neg (by rw [g]; decide)]
      conv => whnf
      refine ⟨show ¬ w = 0 by omega, ?_⟩
      conv => whnf
      refine cond_intro (fun c1 => ?_) (fun c1 => ?_)
      · have c1 : i.tmod w = IntKind.i64.wrap (w - 1) := @of_decide_eq_true _ _ c1
        rw [ww] at c1
        have ct : ((i.toNat : Nat) : Int).tmod w = w - 1 := by rw [show ((i.toNat : Nat) : Int) = i by omega]; exact c1
        exfalso
        rw [hi0] at ct
        have ct : (0 : Int) = w - 1 := by simpa using ct
        omega
      have c1 : ¬ (i.tmod w = IntKind.i64.wrap (w - 1)) := @of_decide_eq_false _ _ c1
      rw [ww] at c1
      have ct : ¬ ((i.toNat : Nat) : Int).tmod w = w - 1 := by rw [show ((i.toNat : Nat) : Int) = i by omega]; exact c1
      conv => whnf
      refine ⟨(true, i + 1), ?_, ⟨fun e => (by cases e), fun _ => (by show 0 < i + 1; omega), by show i + 1 ≤ (l.length : Int); omega⟩, by show ((l.length : Int) - (i + 1)).toNat < ((l.length : Int) - i).toNat; omega⟩
      exact Eq.trans (b := S11 w h l wl ([(IntKind.u8.wrap (IntKind.i64.wrap (48 + gI l i.toNat)))] : List Int) ([46] : List Int) (true, IntKind.i64.wrap (i + 1))) rfl (by show _ = S11 w h l wl (bkJ (fS l) w (i + 1).toNat) (bkJ (fW wl) w (i + 1).toNat) (true, i + 1); rw [wi, ei, bkJ_succ, bkJ_succ, if_neg ct, hcv, hf, List.append_nil, List.append_nil, hi0]; rfl)
    have hi : ¬ (i < (l.length : Int)) := @of_decide_eq_false _ _ hi
    exfalso
    omega
  have i0 : 0 < i := u1 rfl
  clear u0 u1
  have i0' := i0
  have i0 : 0 ≤ i := by omega
  conv => whnf
  refine cond_intro (fun hi => ?_) (fun hi => ?_)
  · have hi : i < (l.length : Int) := @of_decide_eq_true _ _ hi
    have wi : IntKind.i64.wrap (i + 1) = i + 1 := wrap_eq (by omega) (by omega)
    have ei : (i + 1).toNat = i.toNat + 1 := by omega
    have hcv := conv_fS q (i := i.toNat) (by omega)
    have hcv : (IntKind.u8.wrap (IntKind.i64.wrap (48 + gI l i.toNat))) = fS l i.toNat := hcv
    have hbl := bkJ_len (fS l) w i.toNat
    have hbw := bkJ_len (fW wl) w i.toNat
    have hi2 : i < (wl.length : Int) := by omega
    conv => whnf
    refine ⟨i0, ?_⟩
    conv => whnf
    refine ⟨hi, ?_⟩
    conv => whnf
    refine ⟨show (bkJ (fS l) w i.toNat).length + 1 ≤ 70368744177664 by first | omega | (simp only [List.length_append, List.length_cons, List.length_nil]; omega), ?_⟩
    conv => whnf
    refine ⟨i0, ?_⟩
    conv => whnf
    refine ⟨hi2, ?_⟩
    conv => whnf
    refine cond_intro (fun g => ?_) (fun g => ?_)
    · have g : (gB wl i.toNat) = true := g
      have hf : fW wl i.toNat = 119 := by unfold fW; rw [if_pos g]
      conv => whnf
      refine ⟨show (bkJ (fW wl) w i.toNat).length + 1 ≤ 70368744177664 by first | omega | (simp only [List.length_append, List.length_cons, List.length_nil]; omega), ?_⟩
      conv => whnf
      refine ⟨show ¬ w = 0 by omega, ?_⟩
      conv => whnf
      refine cond_intro (fun c1 => ?_) (fun c1 => ?_)
      · have c1 : i.tmod w = IntKind.i64.wrap (w - 1) := @of_decide_eq_true _ _ c1
        rw [ww] at c1
        have ct : ((i.toNat : Nat) : Int).tmod w = w - 1 := by rw [show ((i.toNat : Nat) : Int) = i by omega]; exact c1
        conv => whnf
        refine ⟨show ((bkJ (fS l) w i.toNat) ++ ([(IntKind.u8.wrap (IntKind.i64.wrap (48 + gI l i.toNat)))] : List Int)).length + 1 ≤ 70368744177664 by first | omega | (simp only [List.length_append, List.length_cons, List.length_nil]; omega), ?_⟩
        conv => whnf
        refine ⟨show ((bkJ (fW wl) w i.toNat) ++ ([119] : List Int)).length + 1 ≤ 70368744177664 by first | omega | (simp only [List.length_append, List.length_cons, List.length_nil]; omega), ?_⟩
        conv => whnf
        refine ⟨(true, i + 1), ?_, ⟨fun e => (by cases e), fun _ => (by show 0 < i + 1; omega), by show i + 1 ≤ (l.length : Int); omega⟩, by show ((l.length : Int) - (i + 1)).toNat < ((l.length : Int) - i).toNat; omega⟩
        exact Eq.trans (b := S11 w h l wl (((bkJ (fS l) w i.toNat) ++ ([(IntKind.u8.wrap (IntKind.i64.wrap (48 + gI l i.toNat)))] : List Int)) ++ ([10] : List Int)) (((bkJ (fW wl) w i.toNat) ++ ([119] : List Int)) ++ ([10] : List Int)) (true, IntKind.i64.wrap (i + 1))) rfl (by show _ = S11 w h l wl (bkJ (fS l) w (i + 1).toNat) (bkJ (fW wl) w (i + 1).toNat) (true, i + 1); rw [wi, ei, bkJ_succ, bkJ_succ, if_pos ct, hcv, hf])
      have c1 : ¬ (i.tmod w = IntKind.i64.wrap (w - 1)) := @of_decide_eq_false _ _ c1
      rw [ww] at c1
      have ct : ¬ ((i.toNat : Nat) : Int).tmod w = w - 1 := by rw [show ((i.toNat : Nat) : Int) = i by omega]; exact c1
      conv => whnf
      refine ⟨(true, i + 1), ?_, ⟨fun e => (by cases e), fun _ => (by show 0 < i + 1; omega), by show i + 1 ≤ (l.length : Int); omega⟩, by show ((l.length : Int) - (i + 1)).toNat < ((l.length : Int) - i).toNat; omega⟩
      exact Eq.trans (b := S11 w h l wl ((bkJ (fS l) w i.toNat) ++ ([(IntKind.u8.wrap (IntKind.i64.wrap (48 + gI l i.toNat)))] : List Int)) ((bkJ (fW wl) w i.toNat) ++ ([119] : List Int)) (true, IntKind.i64.wrap (i + 1))) rfl (by show _ = S11 w h l wl (bkJ (fS l) w (i + 1).toNat) (bkJ (fW wl) w (i + 1).toNat) (true, i + 1); rw [wi, ei, bkJ_succ, bkJ_succ, if_neg ct, hcv, hf, List.append_nil, List.append_nil])
    have g : (gB wl i.toNat) = false := g
    have hf : fW wl i.toNat = 46 := by unfold fW; rw [if_neg (by rw [g]; decide)]
    conv => whnf
    refine ⟨show (bkJ (fW wl) w i.toNat).length + 1 ≤ 70368744177664 by first | omega | (simp only [List.length_append, List.length_cons, List.length_nil]; omega), ?_⟩
    conv => whnf
    refine ⟨show ¬ w = 0 by omega, ?_⟩
    conv => whnf
    refine cond_intro (fun c1 => ?_) (fun c1 => ?_)
    · have c1 : i.tmod w = IntKind.i64.wrap (w - 1) := @of_decide_eq_true _ _ c1
      rw [ww] at c1
      have ct : ((i.toNat : Nat) : Int).tmod w = w - 1 := by rw [show ((i.toNat : Nat) : Int) = i by omega]; exact c1
      conv => whnf
      refine ⟨show ((bkJ (fS l) w i.toNat) ++ ([(IntKind.u8.wrap (IntKind.i64.wrap (48 + gI l i.toNat)))] : List Int)).length + 1 ≤ 70368744177664 by first | omega | (simp only [List.length_append, List.length_cons, List.length_nil]; omega), ?_⟩
      conv => whnf
      refine ⟨show ((bkJ (fW wl) w i.toNat) ++ ([46] : List Int)).length + 1 ≤ 70368744177664 by first | omega | (simp only [List.length_append, List.length_cons, List.length_nil]; omega), ?_⟩
      conv => whnf
      refine ⟨(true, i + 1), ?_, ⟨fun e => (by cases e), fun _ => (by show 0 < i + 1; omega), by show i + 1 ≤ (l.length : Int); omega⟩, by show ((l.length : Int) - (i + 1)).toNat < ((l.length : Int) - i).toNat; omega⟩
      exact Eq.trans (b := S11 w h l wl (((bkJ (fS l) w i.toNat) ++ ([(IntKind.u8.wrap (IntKind.i64.wrap (48 + gI l i.toNat)))] : List Int)) ++ ([10] : List Int)) (((bkJ (fW wl) w i.toNat) ++ ([46] : List Int)) ++ ([10] : List Int)) (true, IntKind.i64.wrap (i + 1))) rfl (by show _ = S11 w h l wl (bkJ (fS l) w (i + 1).toNat) (bkJ (fW wl) w (i + 1).toNat) (true, i + 1); rw [wi, ei, bkJ_succ, bkJ_succ, if_pos ct, hcv, hf])
    have c1 : ¬ (i.tmod w = IntKind.i64.wrap (w - 1)) := @of_decide_eq_false _ _ c1
    rw [ww] at c1
    have ct : ¬ ((i.toNat : Nat) : Int).tmod w = w - 1 := by rw [show ((i.toNat : Nat) : Int) = i by omega]; exact c1
    conv => whnf
    refine ⟨(true, i + 1), ?_, ⟨fun e => (by cases e), fun _ => (by show 0 < i + 1; omega), by show i + 1 ≤ (l.length : Int); omega⟩, by show ((l.length : Int) - (i + 1)).toNat < ((l.length : Int) - i).toNat; omega⟩
    exact Eq.trans (b := S11 w h l wl ((bkJ (fS l) w i.toNat) ++ ([(IntKind.u8.wrap (IntKind.i64.wrap (48 + gI l i.toNat)))] : List Int)) ((bkJ (fW wl) w i.toNat) ++ ([46] : List Int)) (true, IntKind.i64.wrap (i + 1))) rfl (by show _ = S11 w h l wl (bkJ (fS l) w (i + 1).toNat) (bkJ (fW wl) w (i + 1).toNat) (true, i + 1); rw [wi, ei, bkJ_succ, bkJ_succ, if_neg ct, hcv, hf, List.append_nil, List.append_nil])
  have hi : ¬ (i < (l.length : Int)) := @of_decide_eq_false _ _ hi
  rw [show i.toNat = l.length by omega]
  have hbl := bkJ_len (fS l) w l.length
  have hbw := bkJ_len (fW wl) w l.length
  have hrS := bkJ_rng (fun i => (by have hh : 48 ≤ fS l i ∧ fS l i < 112 := fS_all q i; exact ⟨by omega, by omega⟩)) w l.length (f := fS l)
  have hrW := bkJ_rng (fW_rng wl) w l.length
  have nS := bkJ_ne (fS l) w (i := l.length) (by omega)
  have nW := bkJ_ne (fW wl) w (i := l.length) (by omega)
  have s1 : (strOfNums (bkJ (fS l) w l.length)).size = (bkJ (fS l) w l.length).length := strOfNums_size _
  have s2 : (strOfNums (bkJ (fW wl) w l.length)).size = (bkJ (fW wl) w l.length).length := strOfNums_size _
  have s3 : (strOfNums (bkJ (fS l) w l.length) ++ (⟨#[10]⟩ : ByteArray)).size = (bkJ (fS l) w l.length).length + 1 := by rw [ByteArray.size_append, s1]; rfl
  conv => whnf
  refine ⟨nS, ?_⟩
  conv => whnf
  refine ⟨hrS, ?_⟩
  conv => whnf
  refine ⟨show (strOfNums (bkJ (fS l) w l.length)).size + (⟨#[10]⟩ : ByteArray).size ≤ 1000000000000 by rw [s1]; show _ + 1 ≤ _; omega, ?_⟩
  conv => whnf
  refine ⟨nW, ?_⟩
  conv => whnf
  refine ⟨hrW, ?_⟩
  conv => whnf
  refine ⟨show (strOfNums (bkJ (fS l) w l.length) ++ (⟨#[10]⟩ : ByteArray)).size + (strOfNums (bkJ (fW wl) w l.length)).size ≤ 1000000000000 by rw [s3, s2]; omega, ?_⟩
  conv => whnf
  show ((strOfNums (bkJ (fS l) w l.length) ++ (⟨#[10]⟩ : ByteArray)) ++ strOfNums (bkJ (fW wl) w l.length), (0 : Int)) = textR (w, h, l, wl)
  unfold textR textL
  rw [if_pos hv]
  show _ = (strOfNums ((bkJ (fS l) w l.length ++ [10]) ++ bkJ (fW wl) w wl.length), (0 : Int))
  rw [str_app, str_app, show wl.length = l.length by omega]
  rfl
end
end Go.Proofs.YtllgclopliegfaaDoor.Eng
