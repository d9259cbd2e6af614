/- What the functions that the law reaches answer, each for every input. -/
import Derived.Test.YtbndaabjlfdfcaaEngTwo
set_option linter.unusedVariables false
set_option linter.unusedSimpArgs false
set_option linter.unusedVariables false
set_option linter.unusedSimpArgs false
namespace Go.Proofs.Ytbndaabjlfdfcaa.Eng
open Go
set_option maxRecDepth 100000
noncomputable section
abbrev I : Ty := .int .i64
abbrev rlT : Ty := .fld I (.fld I (.fld (.sl I) (.one (.sl .bool))))
abbrev spT : Ty := .fld I (.fld I (.one I))
abbrev Rl := Int × Int × List Int × List Bool
abbrev Sp := Int × Int × Int
theorem mix : Go.Proofs.Try.prog.follows .mixedOrders = true := by kernel_rfl
def ann0 : Nat → Option (List Nat × List (Nat × Ty) × List (Nat × Nat × Ty)) := fun _ => none
def E0 : Env := ⟨tab, [], ann0⟩
theorem noK : ∀ f k, findK (E0).K f = some k → CtrOk Go.Proofs.Try.prog f k := fun f k h => by cases h
theorem wrap_eq {i : Int} (h : -9223372036854775808 ≤ i) (g : i ≤ 9223372036854775807) : IntKind.i64.wrap i = i := by
  rw [IntKind.wrap_i64]; omega
def firstR (p : Int) : Int := if p = 0 then 0 else if p = 2 then 0 else if p = 1 then 1 else if p = 3 then 1 else if p = 4 then 2 else if p = 5 then 3 else -1
def K40 : Fn1 := ⟨.one I, .one I, fun _ => [], fun (p : Int) => firstR p⟩
theorem k40 : FnOk Go.Proofs.Try.prog 40 K40 := by
  refine fn_ok (E := E0) (TOk.of tab_told) noK mix Go.Proofs.Try.func40 rfl rfl (by kernel_rfl) K40 ?_
  rintro (p : Int) hp
  clear hp
  iterate 8 (all_goals (conv => whnf); all_goals (try (refine cond_intro (fun h => ?_) (fun h => ?_))))
  all_goals (simp only [decide_eq_true_eq, decide_eq_false_iff_not, cond_true, cond_false, Bool.not_eq_true', Bool.not_eq_false', Bool.not_true, Bool.not_false, Bool.and_eq_true, Bool.or_eq_true] at *; show (_ : Int) = firstR p; unfold firstR; (repeat' split) <;> omega)
def secondR (p : Int) : Int := if p = 0 then 2 else if p = 3 then 2 else if p = 1 then 3 else if p = 4 then 3 else if p = 2 then 1 else if p = 5 then 0 else -1
def K41 : Fn1 := ⟨.one I, .one I, fun _ => [], fun (p : Int) => secondR p⟩
theorem k41 : FnOk Go.Proofs.Try.prog 41 K41 := by
  refine fn_ok (E := E0) (TOk.of tab_told) noK mix Go.Proofs.Try.func41 rfl rfl (by kernel_rfl) K41 ?_
  rintro (p : Int) hp
  clear hp
  iterate 8 (all_goals (conv => whnf); all_goals (try (refine cond_intro (fun h => ?_) (fun h => ?_))))
  all_goals (simp only [decide_eq_true_eq, decide_eq_false_iff_not, cond_true, cond_false, Bool.not_eq_true', Bool.not_eq_false', Bool.not_true, Bool.not_false, Bool.and_eq_true, Bool.or_eq_true] at *; show (_ : Int) = secondR p; unfold secondR; (repeat' split) <;> omega)
def otherRefR (p s : Int) : Int := if s < 0 then -1 else if firstR p = s then secondR p else if secondR p = s then firstR p else -1
def K42 : Fn1 := ⟨.fld I (.one I), .one I, fun _ => [], fun (a : Int × Int) => otherRefR a.1 a.2⟩
theorem k42 : FnOk Go.Proofs.Try.prog 42 K42 := by
  refine fn_ok (E := (⟨tab, [(40, K40), (41, K41)], ann0⟩ : Env)) (TOk.of tab_told) (AllOk.cons k40 (.cons k41 .nil)).at_ mix Go.Proofs.Try.func42 rfl rfl (by kernel_rfl) K42 ?_
  rintro ⟨(p : Int), (s : Int)⟩ hp
  clear hp
  conv => whnf
  refine cond_intro (fun h0 => ?_) (fun h0 => ?_)
  · have h0 : s < 0 := @of_decide_eq_true _ _ h0
    conv => whnf
    show (-1 : Int) = otherRefR p s
    rw [otherRefR, if_pos h0]
  have h0 : ¬ (s < 0) := @of_decide_eq_false _ _ h0
  conv => whnf
  refine cond_intro (fun h1 => ?_) (fun h1 => ?_)
  · have h1 : firstR p = s := @of_decide_eq_true _ _ h1
    conv => whnf
    show secondR p = otherRefR p s
    rw [otherRefR, if_neg h0, if_pos h1]
  have h1 : ¬ (firstR p = s) := @of_decide_eq_false _ _ h1
  conv => whnf
  refine cond_intro (fun h2 => ?_) (fun h2 => ?_)
  · have h2 : secondR p = s := @of_decide_eq_true _ _ h2
    conv => whnf
    show firstR p = otherRefR p s
    rw [otherRefR, if_neg h0, if_neg h1, if_pos h2]
  have h2 : ¬ (secondR p = s) := @of_decide_eq_false _ _ h2
  conv => whnf
  show (-1 : Int) = otherRefR p s
  rw [otherRefR, if_neg h0, if_neg h1, if_neg h2]
def endsR (p : Int) : Int × Int × Int := if p = 0 then (0, 2, 0) else if p = 1 then (1, 3, 0) else if p = 2 then (0, 1, 0) else if p = 3 then (1, 2, 0) else if p = 4 then (2, 3, 0) else if p = 5 then (3, 0, 0) else (0, 0, 1)
def K22 : Fn1 := ⟨.one I, .fld I (.fld I (.one I)), fun _ => [], fun (p : Int) => endsR p⟩
theorem k22 : FnOk Go.Proofs.Try.prog 22 K22 := by
  refine fn_ok (E := E0) (TOk.of tab_told) noK mix Go.Proofs.Try.func22 rfl rfl (by kernel_rfl) K22 ?_
  rintro (p : Int) hp
  clear hp
  have hc : p = 0 ∨ p = 1 ∨ p = 2 ∨ p = 3 ∨ p = 4 ∨ p = 5 ∨ (p < 0 ∨ 5 < p) := by omega
  rcases hc with rfl | rfl | rfl | rfl | rfl | rfl | hc
  · conv => whnf
    kernel_rfl
  · conv => whnf
    kernel_rfl
  · conv => whnf
    refine ⟨by decide, ?_⟩
    conv => whnf
    kernel_rfl
  · conv => whnf
    refine ⟨by decide, ?_⟩
    conv => whnf
    kernel_rfl
  · conv => whnf
    refine ⟨by decide, ?_⟩
    conv => whnf
    kernel_rfl
  · conv => whnf
    refine ⟨by decide, ?_⟩
    conv => whnf
    kernel_rfl
  iterate 14 (all_goals (conv => whnf); all_goals (try (refine cond_intro (fun h => ?_) (fun h => ?_))))
  all_goals (first | (exfalso; simp only [decide_eq_true_eq, decide_eq_false_iff_not] at *; omega) | skip)
  all_goals (show ((0 : Int), (0 : Int), (1 : Int)) = endsR p; unfold endsR; (repeat' split) <;> first | rfl | omega)
def otherR (p s : Int) : Int × Bool := if (endsR p).2.2 ≠ 0 then (0, false) else if s = (endsR p).1 then ((endsR p).2.1, true) else if s = (endsR p).2.1 then ((endsR p).1, true) else (0, false)
def K43 : Fn1 := ⟨.fld I (.one I), .fld I (.one .bool), fun _ => [], fun (a : Int × Int) => otherR a.1 a.2⟩
theorem k43 : FnOk Go.Proofs.Try.prog 43 K43 := by
  refine fn_ok (E := (⟨tab, [(22, K22)], ann0⟩ : Env)) (TOk.of tab_told) (AllOk.cons k22 .nil).at_ mix Go.Proofs.Try.func43 rfl rfl (by kernel_rfl) K43 ?_
  rintro ⟨(p : Int), (s : Int)⟩ hp
  clear hp
  conv => whnf
  refine cond_intro (fun h0 => ?_) (fun h0 => ?_)
  · have h0 : (!decide ((endsR p).2.2 = 0)) = true := h0
    have h0 : ¬ ((endsR p).2.2 = 0) := by simpa using h0
    conv => whnf
    show ((0 : Int), false) = otherR p s
    rw [otherR, if_pos h0]
  have h0 : (!decide ((endsR p).2.2 = 0)) = false := h0
  have h0 : (endsR p).2.2 = 0 := by simpa using h0
  have h0' : ¬ ((endsR p).2.2 ≠ 0) := fun q => q h0
  conv => whnf
  refine cond_intro (fun h1 => ?_) (fun h1 => ?_)
  · have h1 : s = (endsR p).1 := @of_decide_eq_true _ _ h1
    conv => whnf
    show ((endsR p).2.1, true) = otherR p s
    rw [otherR, if_neg h0', if_pos h1]
  have h1 : ¬ (s = (endsR p).1) := @of_decide_eq_false _ _ h1
  conv => whnf
  refine cond_intro (fun h2 => ?_) (fun h2 => ?_)
  · have h2 : s = (endsR p).2.1 := @of_decide_eq_true _ _ h2
    conv => whnf
    show ((endsR p).1, true) = otherR p s
    rw [otherR, if_neg h0', if_neg h1, if_pos h2]
  have h2 : ¬ (s = (endsR p).2.1) := @of_decide_eq_false _ _ h2
  conv => whnf
  show ((0 : Int), false) = otherR p s
  rw [otherR, if_neg h0', if_neg h1, if_neg h2]
def tileR (r : Rl) (n : Int) : Bool := decide (0 ≤ n) && decide (n < IntKind.i64.wrap (r.1 * r.2.1))
def K47 : Fn1 := ⟨.fld rlT (.one I), .one .bool, fun _ => [], fun (a : Rl × Int) => tileR a.1 a.2⟩
theorem k47 : FnOk Go.Proofs.Try.prog 47 K47 := by
  refine fn_ok (E := E0) (TOk.of tab_told) noK mix Go.Proofs.Try.func47 rfl rfl (by kernel_rfl) K47 ?_
  rintro ⟨⟨(w : Int), (h : Int), (l : List Int), (wl : List Bool)⟩, (n : Int)⟩ hp
  clear hp
  conv => whnf
  refine cond_intro (fun h0 => ?_) (fun h0 => ?_)
  · have h0 : 0 ≤ n := @of_decide_eq_true _ _ h0
    conv => whnf
    show decide (n < IntKind.i64.wrap (w * h)) = tileR (w, h, l, wl) n
    simp [tileR, h0]
  have h0 : ¬ (0 ≤ n) := @of_decide_eq_false _ _ h0
  conv => whnf
  show false = tileR (w, h, l, wl) n
  simp [tileR, h0]
def farR (r : Rl) : Bool := decide (3000 < (r.2.2.1.length : Int)) || decide (3000 < (r.2.2.2.length : Int))
def K16 : Fn1 := ⟨.one rlT, .one .bool, fun _ => [], fun (r : Rl) => farR r⟩
theorem k16 : FnOk Go.Proofs.Try.prog 16 K16 := by
  refine fn_ok (E := E0) (TOk.of tab_told) noK mix Go.Proofs.Try.func16 rfl rfl (by kernel_rfl) K16 ?_
  rintro ⟨(w : Int), (h : Int), (l : List Int), (wl : List Bool)⟩ hp
  clear hp
  conv => whnf
  refine cond_intro (fun h0 => ?_) (fun h0 => ?_)
  · have h0 : 3000 < (l.length : Int) := @of_decide_eq_true _ _ h0
    conv => whnf
    show true = farR (w, h, l, wl)
    simp [farR, h0]
  have h0 : ¬ (3000 < (l.length : Int)) := @of_decide_eq_false _ _ h0
  conv => whnf
  show decide (3000 < (wl.length : Int)) = farR (w, h, l, wl)
  simp [farR, h0]
def K17 : Fn1 := ⟨.bool, .one .bool, fun _ => [], fun _ => true⟩
theorem k17 : FnOk Go.Proofs.Try.prog 17 K17 := by
  refine fn_ok (E := (⟨tab, [(22, K22)], ann0⟩ : Env)) (TOk.of tab_told) (AllOk.cons k22 .nil).at_ mix Go.Proofs.Try.func17 rfl rfl (by kernel_rfl) K17 ?_
  rintro (a : Bool) hp
  clear hp
  conv => whnf
  kernel_rfl
end
end Go.Proofs.Ytbndaabjlfdfcaa.Eng
set_option linter.unusedVariables false
set_option linter.unusedSimpArgs false
namespace Go.Proofs.Ytbndaabjlfdfcaa.Eng
open Go
set_option maxRecDepth 100000
noncomputable section
def gI (l : List Int) (n : Nat) : Int := l.getD n 0
theorem gI_eq {l : List Int} {n : Nat} (h : n < l.length) : gI l n = l[n] := by simp [gI, h]
def gB (l : List Bool) (n : Nat) : Bool := l.getD n false
def bitR (a p : Int) : Int := IntKind.i64.wrap (BitVec.ofInt IntKind.i64.bits (a.fdiv (2 ^ (min p.toNat IntKind.i64.bits))) &&& BitVec.ofInt IntKind.i64.bits 1).toNat
def liesR (r : Rl) (t p : Int) : Bool := decide (0 ≤ t) && decide (t < (r.2.2.1.length : Int)) && decide (0 ≤ p) && decide (p < 6) && decide (bitR (gI r.2.2.1 t.toNat) p = 1)
def K45 : Fn1 := ⟨.fld rlT (.fld I (.one I)), .one .bool, fun _ => [], fun (a : Rl × Int × Int) => liesR a.1 a.2.1 a.2.2⟩
theorem k45 : FnOk Go.Proofs.Try.prog 45 K45 := by
  refine fn_ok (E := E0) (TOk.of tab_told) noK mix Go.Proofs.Try.func45 rfl rfl (by kernel_rfl) K45 ?_
  rintro ⟨⟨(w : Int), (h : Int), (l : List Int), (wl : List Bool)⟩, (t : Int), (p : Int)⟩ hp
  clear hp
  conv => whnf
  refine cond_intro (fun h0 => ?_) (fun h0 => ?_)
  · have h0 : 0 ≤ t := @of_decide_eq_true _ _ h0
    conv => whnf
    refine cond_intro (fun h1 => ?_) (fun h1 => ?_)
    · have h1 : t < (l.length : Int) := @of_decide_eq_true _ _ h1
      conv => whnf
      refine cond_intro (fun h2 => ?_) (fun h2 => ?_)
      · have h2 : 0 ≤ p := @of_decide_eq_true _ _ h2
        conv => whnf
        refine cond_intro (fun h3 => ?_) (fun h3 => ?_)
        · have h3 : p < 6 := @of_decide_eq_true _ _ h3
          conv => whnf
          refine ⟨h0, ?_⟩
          conv => whnf
          refine ⟨h1, ?_⟩
          conv => whnf
          refine ⟨h2, ?_⟩
          conv => whnf
          show decide (bitR (gI l t.toNat) p = 1) = liesR (w, h, l, wl) t p
          simp [liesR, h0, h1, h2, h3]
        have h3 : ¬ (p < 6) := @of_decide_eq_false _ _ h3
        conv => whnf
        show false = liesR (w, h, l, wl) t p
        simp [liesR, h3]
      have h2 : ¬ (0 ≤ p) := @of_decide_eq_false _ _ h2
      conv => whnf
      show false = liesR (w, h, l, wl) t p
      simp [liesR, h2]
    have h1 : ¬ (t < (l.length : Int)) := @of_decide_eq_false _ _ h1
    conv => whnf
    show false = liesR (w, h, l, wl) t p
    simp [liesR, h1]
  have h0 : ¬ (0 ≤ t) := @of_decide_eq_false _ _ h0
  conv => whnf
  show false = liesR (w, h, l, wl) t p
  simp [liesR, h0]
def bx (w n s : Int) : Int := if s = 0 ∨ s = 2 then IntKind.i64.wrap (Int.tmod n w + IntKind.i64.wrap (1 - s)) else Int.tmod n w
def byy (w n s : Int) : Int := if s = 1 ∨ s = 3 then IntKind.i64.wrap (IntKind.i64.wrap (Int.tdiv n w) + IntKind.i64.wrap (2 - s)) else IntKind.i64.wrap (Int.tdiv n w)
def inR (x y w h : Int) : Bool := decide (0 ≤ x) && decide (x < w) && decide (0 ≤ y) && decide (y < h)
def besideR (w h n s : Int) : Int × Bool := (IntKind.i64.wrap (IntKind.i64.wrap (byy w n s * w) + bx w n s), inR (bx w n s) (byy w n s) w h)
def K65 : Fn1 := ⟨.fld I (.fld I (.fld I (.one I))), .fld I (.one .bool), fun (a : Int × Int × Int × Int) => [a.1 ≠ 0], fun (a : Int × Int × Int × Int) => besideR a.1 a.2.1 a.2.2.1 a.2.2.2⟩
theorem k65 : FnOk Go.Proofs.Try.prog 65 K65 := by
  refine fn_ok (E := E0) (TOk.of tab_told) noK mix Go.Proofs.Try.func65 rfl rfl (by kernel_rfl) K65 ?_
  rintro ⟨(w : Int), (h : Int), (n : Int), (s : Int)⟩ hp
  have hw : w ≠ 0 := hp _ (List.mem_cons_self ..)
  clear hp
  have hc : s = 0 ∨ s = 1 ∨ s = 2 ∨ s = 3 ∨ (s < 0 ∨ 3 < s) := by omega
  rcases hc with rfl | rfl | rfl | rfl | hc
  · conv => whnf
    refine ⟨hw, ?_⟩
    conv => whnf
    refine ⟨hw, ?_⟩
    conv => whnf
    refine cond_intro (fun h0 => ?_) (fun h0 => ?_)
    · have h0 : 0 ≤ bx w n 0 := @of_decide_eq_true _ _ h0
      conv => whnf
      refine cond_intro (fun h1 => ?_) (fun h1 => ?_)
      · have h1 : bx w n 0 < w := @of_decide_eq_true _ _ h1
        conv => whnf
        refine cond_intro (fun h2 => ?_) (fun h2 => ?_)
        · have h2 : 0 ≤ byy w n 0 := @of_decide_eq_true _ _ h2
          conv => whnf
          show (IntKind.i64.wrap (IntKind.i64.wrap (byy w n 0 * w) + bx w n 0), decide (byy w n 0 < h)) = besideR w h n 0
          simp [besideR, inR, h0, h1, h2]
        have h2 : ¬ (0 ≤ byy w n 0) := @of_decide_eq_false _ _ h2
        conv => whnf
        show (IntKind.i64.wrap (IntKind.i64.wrap (byy w n 0 * w) + bx w n 0), false) = besideR w h n 0
        simp [besideR, inR, h2]
      have h1 : ¬ (bx w n 0 < w) := @of_decide_eq_false _ _ h1
      conv => whnf
      show (IntKind.i64.wrap (IntKind.i64.wrap (byy w n 0 * w) + bx w n 0), false) = besideR w h n 0
      simp [besideR, inR, h1]
    have h0 : ¬ (0 ≤ bx w n 0) := @of_decide_eq_false _ _ h0
    conv => whnf
    show (IntKind.i64.wrap (IntKind.i64.wrap (byy w n 0 * w) + bx w n 0), false) = besideR w h n 0
    simp [besideR, inR, h0]
  · conv => whnf
    refine ⟨hw, ?_⟩
    conv => whnf
    refine ⟨hw, ?_⟩
    conv => whnf
    refine cond_intro (fun h0 => ?_) (fun h0 => ?_)
    · have h0 : 0 ≤ bx w n 1 := @of_decide_eq_true _ _ h0
      conv => whnf
      refine cond_intro (fun h1 => ?_) (fun h1 => ?_)
      · have h1 : bx w n 1 < w := @of_decide_eq_true _ _ h1
        conv => whnf
        refine cond_intro (fun h2 => ?_) (fun h2 => ?_)
        · have h2 : 0 ≤ byy w n 1 := @of_decide_eq_true _ _ h2
          conv => whnf
          show (IntKind.i64.wrap (IntKind.i64.wrap (byy w n 1 * w) + bx w n 1), decide (byy w n 1 < h)) = besideR w h n 1
          simp [besideR, inR, h0, h1, h2]
        have h2 : ¬ (0 ≤ byy w n 1) := @of_decide_eq_false _ _ h2
        conv => whnf
        show (IntKind.i64.wrap (IntKind.i64.wrap (byy w n 1 * w) + bx w n 1), false) = besideR w h n 1
        simp [besideR, inR, h2]
      have h1 : ¬ (bx w n 1 < w) := @of_decide_eq_false _ _ h1
      conv => whnf
      show (IntKind.i64.wrap (IntKind.i64.wrap (byy w n 1 * w) + bx w n 1), false) = besideR w h n 1
      simp [besideR, inR, h1]
    have h0 : ¬ (0 ≤ bx w n 1) := @of_decide_eq_false _ _ h0
    conv => whnf
    show (IntKind.i64.wrap (IntKind.i64.wrap (byy w n 1 * w) + bx w n 1), false) = besideR w h n 1
    simp [besideR, inR, h0]
  · conv => whnf
    refine ⟨hw, ?_⟩
    conv => whnf
    refine ⟨hw, ?_⟩
    conv => whnf
    refine cond_intro (fun h0 => ?_) (fun h0 => ?_)
    · have h0 : 0 ≤ bx w n 2 := @of_decide_eq_true _ _ h0
      conv => whnf
      refine cond_intro (fun h1 => ?_) (fun h1 => ?_)
      · have h1 : bx w n 2 < w := @of_decide_eq_true _ _ h1
        conv => whnf
        refine cond_intro (fun h2 => ?_) (fun h2 => ?_)
        · have h2 : 0 ≤ byy w n 2 := @of_decide_eq_true _ _ h2
          conv => whnf
          show (IntKind.i64.wrap (IntKind.i64.wrap (byy w n 2 * w) + bx w n 2), decide (byy w n 2 < h)) = besideR w h n 2
          simp [besideR, inR, h0, h1, h2]
        have h2 : ¬ (0 ≤ byy w n 2) := @of_decide_eq_false _ _ h2
        conv => whnf
        show (IntKind.i64.wrap (IntKind.i64.wrap (byy w n 2 * w) + bx w n 2), false) = besideR w h n 2
        simp [besideR, inR, h2]
      have h1 : ¬ (bx w n 2 < w) := @of_decide_eq_false _ _ h1
      conv => whnf
      show (IntKind.i64.wrap (IntKind.i64.wrap (byy w n 2 * w) + bx w n 2), false) = besideR w h n 2
      simp [besideR, inR, h1]
    have h0 : ¬ (0 ≤ bx w n 2) := @of_decide_eq_false _ _ h0
    conv => whnf
    show (IntKind.i64.wrap (IntKind.i64.wrap (byy w n 2 * w) + bx w n 2), false) = besideR w h n 2
    simp [besideR, inR, h0]
  · conv => whnf
    refine ⟨hw, ?_⟩
    conv => whnf
    refine ⟨hw, ?_⟩
    conv => whnf
    refine cond_intro (fun h0 => ?_) (fun h0 => ?_)
    · have h0 : 0 ≤ bx w n 3 := @of_decide_eq_true _ _ h0
      conv => whnf
      refine cond_intro (fun h1 => ?_) (fun h1 => ?_)
      · have h1 : bx w n 3 < w := @of_decide_eq_true _ _ h1
        conv => whnf
        refine cond_intro (fun h2 => ?_) (fun h2 => ?_)
        · have h2 : 0 ≤ byy w n 3 := @of_decide_eq_true _ _ h2
          conv => whnf
          show (IntKind.i64.wrap (IntKind.i64.wrap (byy w n 3 * w) + bx w n 3), decide (byy w n 3 < h)) = besideR w h n 3
          simp [besideR, inR, h0, h1, h2]
        have h2 : ¬ (0 ≤ byy w n 3) := @of_decide_eq_false _ _ h2
        conv => whnf
        show (IntKind.i64.wrap (IntKind.i64.wrap (byy w n 3 * w) + bx w n 3), false) = besideR w h n 3
        simp [besideR, inR, h2]
      have h1 : ¬ (bx w n 3 < w) := @of_decide_eq_false _ _ h1
      conv => whnf
      show (IntKind.i64.wrap (IntKind.i64.wrap (byy w n 3 * w) + bx w n 3), false) = besideR w h n 3
      simp [besideR, inR, h1]
    have h0 : ¬ (0 ≤ bx w n 3) := @of_decide_eq_false _ _ h0
    conv => whnf
    show (IntKind.i64.wrap (IntKind.i64.wrap (byy w n 3 * w) + bx w n 3), false) = besideR w h n 3
    simp [besideR, inR, h0]
  have hx : bx w n s = Int.tmod n w := by rw [bx, if_neg (by omega)]
  have hy : byy w n s = IntKind.i64.wrap (Int.tdiv n w) := by rw [byy, if_neg (by omega)]
  conv => whnf
  refine ⟨hw, ?_⟩
  conv => whnf
  refine ⟨hw, ?_⟩
  conv => whnf
  refine cond_intro (fun q => ?_) (fun q => ?_)
  · have q : s = 0 := @of_decide_eq_true _ _ q
    exfalso
    omega
  have q : ¬ (s = 0) := @of_decide_eq_false _ _ q
  conv => whnf
  refine cond_intro (fun q => ?_) (fun q => ?_)
  · have q : s = 2 := @of_decide_eq_true _ _ q
    exfalso
    omega
  have q : ¬ (s = 2) := @of_decide_eq_false _ _ q
  conv => whnf
  refine cond_intro (fun q => ?_) (fun q => ?_)
  · have q : s = 1 := @of_decide_eq_true _ _ q
    exfalso
    omega
  have q : ¬ (s = 1) := @of_decide_eq_false _ _ q
  conv => whnf
  refine cond_intro (fun q => ?_) (fun q => ?_)
  · have q : s = 3 := @of_decide_eq_true _ _ q
    exfalso
    omega
  have q : ¬ (s = 3) := @of_decide_eq_false _ _ q
  conv => whnf
  refine cond_intro (fun h0 => ?_) (fun h0 => ?_)
  · have h0 : 0 ≤ Int.tmod n w := @of_decide_eq_true _ _ h0
    conv => whnf
    refine cond_intro (fun h1 => ?_) (fun h1 => ?_)
    · have h1 : Int.tmod n w < w := @of_decide_eq_true _ _ h1
      conv => whnf
      refine cond_intro (fun h2 => ?_) (fun h2 => ?_)
      · have h2 : 0 ≤ IntKind.i64.wrap (Int.tdiv n w) := @of_decide_eq_true _ _ h2
        conv => whnf
        show (IntKind.i64.wrap (IntKind.i64.wrap (IntKind.i64.wrap (Int.tdiv n w) * w) + Int.tmod n w), decide (IntKind.i64.wrap (Int.tdiv n w) < h)) = besideR w h n s
        simp [besideR, inR, h0, h1, h2, hx, hy]
      have h2 : ¬ (0 ≤ IntKind.i64.wrap (Int.tdiv n w)) := @of_decide_eq_false _ _ h2
      conv => whnf
      show (IntKind.i64.wrap (IntKind.i64.wrap (IntKind.i64.wrap (Int.tdiv n w) * w) + Int.tmod n w), false) = besideR w h n s
      simp [besideR, inR, h2, hx, hy]
    have h1 : ¬ (Int.tmod n w < w) := @of_decide_eq_false _ _ h1
    conv => whnf
    show (IntKind.i64.wrap (IntKind.i64.wrap (IntKind.i64.wrap (Int.tdiv n w) * w) + Int.tmod n w), false) = besideR w h n s
    simp [besideR, inR, h1, hx, hy]
  have h0 : ¬ (0 ≤ Int.tmod n w) := @of_decide_eq_false _ _ h0
  conv => whnf
  show (IntKind.i64.wrap (IntKind.i64.wrap (IntKind.i64.wrap (Int.tdiv n w) * w) + Int.tmod n w), false) = besideR w h n s
  simp [besideR, inR, h0, hx, hy]
def beyondR (w h n s : Int) : Int := if (besideR w h n s).2 = true then (besideR w h n s).1 else -1
def K64 : Fn1 := ⟨.fld I (.fld I (.fld I (.one I))), .one I, fun (a : Int × Int × Int × Int) => [a.1 ≠ 0], fun (a : Int × Int × Int × Int) => beyondR a.1 a.2.1 a.2.2.1 a.2.2.2⟩
theorem k64 : FnOk Go.Proofs.Try.prog 64 K64 := by
  refine fn_ok (E := E0) (TOk.of tab_told) noK mix Go.Proofs.Try.func64 rfl rfl (by kernel_rfl) K64 ?_
  rintro ⟨(w : Int), (h : Int), (n : Int), (s : Int)⟩ hp
  have hw : w ≠ 0 := hp _ (List.mem_cons_self ..)
  clear hp
  have hc : s = 0 ∨ s = 1 ∨ s = 2 ∨ s = 3 ∨ (s < 0 ∨ 3 < s) := by omega
  rcases hc with rfl | rfl | rfl | rfl | hc
  · conv => whnf
    refine ⟨hw, ?_⟩
    conv => whnf
    refine ⟨hw, ?_⟩
    conv => whnf
    refine cond_intro (fun h0 => ?_) (fun h0 => ?_)
    · have h0 : bx w n 0 < 0 := @of_decide_eq_true _ _ h0
      conv => whnf
      show (-1 : Int) = beyondR w h n 0
      rw [beyondR, if_neg (by simp [besideR, inR, show ¬ 0 ≤ bx w n 0 by omega])]
    have h0 : ¬ (bx w n 0 < 0) := @of_decide_eq_false _ _ h0
    conv => whnf
    refine cond_intro (fun h1 => ?_) (fun h1 => ?_)
    · have h1 : w ≤ bx w n 0 := @of_decide_eq_true _ _ h1
      conv => whnf
      show (-1 : Int) = beyondR w h n 0
      rw [beyondR, if_neg (by simp [besideR, inR, show ¬ bx w n 0 < w by omega])]
    have h1 : ¬ (w ≤ bx w n 0) := @of_decide_eq_false _ _ h1
    conv => whnf
    refine cond_intro (fun h2 => ?_) (fun h2 => ?_)
    · have h2 : byy w n 0 < 0 := @of_decide_eq_true _ _ h2
      conv => whnf
      show (-1 : Int) = beyondR w h n 0
      rw [beyondR, if_neg (by simp [besideR, inR, show ¬ 0 ≤ byy w n 0 by omega])]
    have h2 : ¬ (byy w n 0 < 0) := @of_decide_eq_false _ _ h2
    conv => whnf
    refine cond_intro (fun h3 => ?_) (fun h3 => ?_)
    · have h3 : h ≤ byy w n 0 := @of_decide_eq_true _ _ h3
      conv => whnf
      show (-1 : Int) = beyondR w h n 0
      rw [beyondR, if_neg (by simp [besideR, inR, show ¬ byy w n 0 < h by omega])]
    have h3 : ¬ (h ≤ byy w n 0) := @of_decide_eq_false _ _ h3
    conv => whnf
    show IntKind.i64.wrap (IntKind.i64.wrap (byy w n 0 * w) + bx w n 0) = beyondR w h n 0
    rw [beyondR, if_pos (by simp [besideR, inR, show 0 ≤ bx w n 0 by omega, show bx w n 0 < w by omega, show 0 ≤ byy w n 0 by omega, show byy w n 0 < h by omega])]
    rfl
  · conv => whnf
    refine ⟨hw, ?_⟩
    conv => whnf
    refine ⟨hw, ?_⟩
    conv => whnf
    refine cond_intro (fun h0 => ?_) (fun h0 => ?_)
    · have h0 : bx w n 1 < 0 := @of_decide_eq_true _ _ h0
      conv => whnf
      show (-1 : Int) = beyondR w h n 1
      rw [beyondR, if_neg (by simp [besideR, inR, show ¬ 0 ≤ bx w n 1 by omega])]
    have h0 : ¬ (bx w n 1 < 0) := @of_decide_eq_false _ _ h0
    conv => whnf
    refine cond_intro (fun h1 => ?_) (fun h1 => ?_)
    · have h1 : w ≤ bx w n 1 := @of_decide_eq_true _ _ h1
      conv => whnf
      show (-1 : Int) = beyondR w h n 1
      rw [beyondR, if_neg (by simp [besideR, inR, show ¬ bx w n 1 < w by omega])]
    have h1 : ¬ (w ≤ bx w n 1) := @of_decide_eq_false _ _ h1
    conv => whnf
    refine cond_intro (fun h2 => ?_) (fun h2 => ?_)
    · have h2 : byy w n 1 < 0 := @of_decide_eq_true _ _ h2
      conv => whnf
      show (-1 : Int) = beyondR w h n 1
      rw [beyondR, if_neg (by simp [besideR, inR, show ¬ 0 ≤ byy w n 1 by omega])]
    have h2 : ¬ (byy w n 1 < 0) := @of_decide_eq_false _ _ h2
    conv => whnf
    refine cond_intro (fun h3 => ?_) (fun h3 => ?_)
    · have h3 : h ≤ byy w n 1 := @of_decide_eq_true _ _ h3
      conv => whnf
      show (-1 : Int) = beyondR w h n 1
      rw [beyondR, if_neg (by simp [besideR, inR, show ¬ byy w n 1 < h by omega])]
    have h3 : ¬ (h ≤ byy w n 1) := @of_decide_eq_false _ _ h3
    conv => whnf
    show IntKind.i64.wrap (IntKind.i64.wrap (byy w n 1 * w) + bx w n 1) = beyondR w h n 1
    rw [beyondR, if_pos (by simp [besideR, inR, show 0 ≤ bx w n 1 by omega, show bx w n 1 < w by omega, show 0 ≤ byy w n 1 by omega, show byy w n 1 < h by omega])]
    rfl
  · conv => whnf
    refine ⟨hw, ?_⟩
    conv => whnf
    refine ⟨hw, ?_⟩
    conv => whnf
    refine cond_intro (fun h0 => ?_) (fun h0 => ?_)
    · have h0 : bx w n 2 < 0 := @of_decide_eq_true _ _ h0
      conv => whnf
      show (-1 : Int) = beyondR w h n 2
      rw [beyondR, if_neg (by simp [besideR, inR, show ¬ 0 ≤ bx w n 2 by omega])]
    have h0 : ¬ (bx w n 2 < 0) := @of_decide_eq_false _ _ h0
    conv => whnf
    refine cond_intro (fun h1 => ?_) (fun h1 => ?_)
    · have h1 : w ≤ bx w n 2 := @of_decide_eq_true _ _ h1
      conv => whnf
      show (-1 : Int) = beyondR w h n 2
      rw [beyondR, if_neg (by simp [besideR, inR, show ¬ bx w n 2 < w by omega])]
    have h1 : ¬ (w ≤ bx w n 2) := @of_decide_eq_false _ _ h1
    conv => whnf
    refine cond_intro (fun h2 => ?_) (fun h2 => ?_)
    · have h2 : byy w n 2 < 0 := @of_decide_eq_true _ _ h2
      conv => whnf
      show (-1 : Int) = beyondR w h n 2
      rw [beyondR, if_neg (by simp [besideR, inR, show ¬ 0 ≤ byy w n 2 by omega])]
    have h2 : ¬ (byy w n 2 < 0) := @of_decide_eq_false _ _ h2
    conv => whnf
    refine cond_intro (fun h3 => ?_) (fun h3 => ?_)
    · have h3 : h ≤ byy w n 2 := @of_decide_eq_true _ _ h3
      conv => whnf
      show (-1 : Int) = beyondR w h n 2
      rw [beyondR, if_neg (by simp [besideR, inR, show ¬ byy w n 2 < h by omega])]
    have h3 : ¬ (h ≤ byy w n 2) := @of_decide_eq_false _ _ h3
    conv => whnf
    show IntKind.i64.wrap (IntKind.i64.wrap (byy w n 2 * w) + bx w n 2) = beyondR w h n 2
    rw [beyondR, if_pos (by simp [besideR, inR, show 0 ≤ bx w n 2 by omega, show bx w n 2 < w by omega, show 0 ≤ byy w n 2 by omega, show byy w n 2 < h by omega])]
    rfl
  · conv => whnf
    refine ⟨hw, ?_⟩
    conv => whnf
    refine ⟨hw, ?_⟩
    conv => whnf
    refine cond_intro (fun h0 => ?_) (fun h0 => ?_)
    · have h0 : bx w n 3 < 0 := @of_decide_eq_true _ _ h0
      conv => whnf
      show (-1 : Int) = beyondR w h n 3
      rw [beyondR, if_neg (by simp [besideR, inR, show ¬ 0 ≤ bx w n 3 by omega])]
    have h0 : ¬ (bx w n 3 < 0) := @of_decide_eq_false _ _ h0
    conv => whnf
    refine cond_intro (fun h1 => ?_) (fun h1 => ?_)
    · have h1 : w ≤ bx w n 3 := @of_decide_eq_true _ _ h1
      conv => whnf
      show (-1 : Int) = beyondR w h n 3
      rw [beyondR, if_neg (by simp [besideR, inR, show ¬ bx w n 3 < w by omega])]
    have h1 : ¬ (w ≤ bx w n 3) := @of_decide_eq_false _ _ h1
    conv => whnf
    refine cond_intro (fun h2 => ?_) (fun h2 => ?_)
    · have h2 : byy w n 3 < 0 := @of_decide_eq_true _ _ h2
      conv => whnf
      show (-1 : Int) = beyondR w h n 3
      rw [beyondR, if_neg (by simp [besideR, inR, show ¬ 0 ≤ byy w n 3 by omega])]
    have h2 : ¬ (byy w n 3 < 0) := @of_decide_eq_false _ _ h2
    conv => whnf
    refine cond_intro (fun h3 => ?_) (fun h3 => ?_)
    · have h3 : h ≤ byy w n 3 := @of_decide_eq_true _ _ h3
      conv => whnf
      show (-1 : Int) = beyondR w h n 3
      rw [beyondR, if_neg (by simp [besideR, inR, show ¬ byy w n 3 < h by omega])]
    have h3 : ¬ (h ≤ byy w n 3) := @of_decide_eq_false _ _ h3
    conv => whnf
    show IntKind.i64.wrap (IntKind.i64.wrap (byy w n 3 * w) + bx w n 3) = beyondR w h n 3
    rw [beyondR, if_pos (by simp [besideR, inR, show 0 ≤ bx w n 3 by omega, show bx w n 3 < w by omega, show 0 ≤ byy w n 3 by omega, show byy w n 3 < h by omega])]
    rfl
  have hx : bx w n s = Int.tmod n w := by rw [bx, if_neg (by omega)]
  have hy : byy w n s = IntKind.i64.wrap (Int.tdiv n w) := by rw [byy, if_neg (by omega)]
  conv => whnf
  refine ⟨hw, ?_⟩
  conv => whnf
  refine ⟨hw, ?_⟩
  conv => whnf
  refine cond_intro (fun q => ?_) (fun q => ?_)
  · have q : s = 0 := @of_decide_eq_true _ _ q
    exfalso
    omega
  have q : ¬ (s = 0) := @of_decide_eq_false _ _ q
  conv => whnf
  refine cond_intro (fun q => ?_) (fun q => ?_)
  · have q : s = 1 := @of_decide_eq_true _ _ q
    exfalso
    omega
  have q : ¬ (s = 1) := @of_decide_eq_false _ _ q
  conv => whnf
  refine cond_intro (fun q => ?_) (fun q => ?_)
  · have q : s = 2 := @of_decide_eq_true _ _ q
    exfalso
    omega
  have q : ¬ (s = 2) := @of_decide_eq_false _ _ q
  conv => whnf
  refine cond_intro (fun q => ?_) (fun q => ?_)
  · have q : s = 3 := @of_decide_eq_true _ _ q
    exfalso
    omega
  have q : ¬ (s = 3) := @of_decide_eq_false _ _ q
  conv => whnf
  refine cond_intro (fun h0 => ?_) (fun h0 => ?_)
  · have h0 : Int.tmod n w < 0 := @of_decide_eq_true _ _ h0
    conv => whnf
    show (-1 : Int) = beyondR w h n s
    rw [beyondR, if_neg (by simp [besideR, inR, show ¬ 0 ≤ Int.tmod n w by omega, hx, hy])]
  have h0 : ¬ (Int.tmod n w < 0) := @of_decide_eq_false _ _ h0
  conv => whnf
  refine cond_intro (fun h1 => ?_) (fun h1 => ?_)
  · have h1 : w ≤ Int.tmod n w := @of_decide_eq_true _ _ h1
    conv => whnf
    show (-1 : Int) = beyondR w h n s
    rw [beyondR, if_neg (by simp [besideR, inR, show ¬ Int.tmod n w < w by omega, hx, hy])]
  have h1 : ¬ (w ≤ Int.tmod n w) := @of_decide_eq_false _ _ h1
  conv => whnf
  refine cond_intro (fun h2 => ?_) (fun h2 => ?_)
  · have h2 : IntKind.i64.wrap (Int.tdiv n w) < 0 := @of_decide_eq_true _ _ h2
    conv => whnf
    show (-1 : Int) = beyondR w h n s
    rw [beyondR, if_neg (by simp [besideR, inR, show ¬ 0 ≤ IntKind.i64.wrap (Int.tdiv n w) by omega, hx, hy])]
  have h2 : ¬ (IntKind.i64.wrap (Int.tdiv n w) < 0) := @of_decide_eq_false _ _ h2
  conv => whnf
  refine cond_intro (fun h3 => ?_) (fun h3 => ?_)
  · have h3 : h ≤ IntKind.i64.wrap (Int.tdiv n w) := @of_decide_eq_true _ _ h3
    conv => whnf
    show (-1 : Int) = beyondR w h n s
    rw [beyondR, if_neg (by simp [besideR, inR, show ¬ IntKind.i64.wrap (Int.tdiv n w) < h by omega, hx, hy])]
  have h3 : ¬ (h ≤ IntKind.i64.wrap (Int.tdiv n w)) := @of_decide_eq_false _ _ h3
  conv => whnf
  show IntKind.i64.wrap (IntKind.i64.wrap (IntKind.i64.wrap (Int.tdiv n w) * w) + Int.tmod n w) = beyondR w h n s
  rw [beyondR, if_pos (by simp [besideR, inR, show 0 ≤ Int.tmod n w by omega, show Int.tmod n w < w by omega, show 0 ≤ IntKind.i64.wrap (Int.tdiv n w) by omega, show IntKind.i64.wrap (Int.tdiv n w) < h by omega, hx, hy])]
  rw [besideR, hx, hy]
end
end Go.Proofs.Ytbndaabjlfdfcaa.Eng
set_option linter.unusedVariables false
set_option linter.unusedSimpArgs false
namespace Go.Proofs.Ytbndaabjlfdfcaa.Eng
open Go
set_option maxRecDepth 100000
noncomputable section
theorem any_range {n : Nat} {f : Nat → Bool} : (List.range n).any f = false ↔ ∀ j, j < n → f j = false := by
  rw [List.any_eq_false]
  exact ⟨fun h j hj => by simpa using h j (List.mem_range.2 hj), fun h j hj => by simpa using h j (List.mem_range.1 hj)⟩
def wrongR (r : Rl) : Prop := r.1 < 4 ∨ 32 < r.1 ∨ r.2.1 < 4 ∨ 32 < r.2.1 ∨ ¬ ((r.2.2.1.length : Int) = IntKind.i64.wrap (r.1 * r.2.1)) ∨ ¬ ((r.2.2.2.length : Int) = IntKind.i64.wrap (r.1 * r.2.1))
instance (r : Rl) : Decidable (wrongR r) := by unfold wrongR; infer_instance
def badT (l : List Int) (wl : List Bool) (i : Nat) : Bool := decide (gI l i < 0) || decide (63 < gI l i) || (decide (gI l i = 0) && gB wl i)
def validR (r : Rl) : Int := if wrongR r then 1 else if (List.range r.2.2.1.length).any (badT r.2.2.1 r.2.2.2) then 1 else 0
def S18 (w h : Int) (l : List Int) (wl : List Bool) (i : Int) : SL := ⟨[.undef, .ptr 0 0 0, .undef, .int .i64 i] ++ List.replicate 76 .undef, [(0, .box [.int .i64 w, .int .i64 h, .sl I l, .sl .bool wl])], 1⟩
def S19 (w h : Int) (l : List Int) (wl : List Bool) (i : Int) : SL := ⟨[.undef, .ptr 0 0 0] ++ List.replicate 44 .undef ++ [.sl I l, .int .i64 l.length, .int .i64 i] ++ List.replicate 22 .undef, [(0, .box [.int .i64 w, .int .i64 h, .sl I l, .sl .bool wl])], 1⟩
def E18 : Env := ⟨tab, [], fun n => match n with | 4 => some ([1, 3], [], []) | _ => none⟩
def K18 : Fn1 := ⟨.one rlT, .one I, fun _ => [], fun (r : Rl) => validR r⟩
theorem k18 : FnOk Go.Proofs.Try.prog 18 K18 := by
  refine fn_ok (E := E18) (TOk.of tab_told) (fun f k h => by cases h) mix Go.Proofs.Try.func18 rfl rfl (by kernel_rfl) K18 ?_
  rintro ⟨(w : Int), (h : Int), (l : List Int), (wl : List Bool)⟩ hp
  clear hp
  conv => whnf
  refine cond_intro (fun q1 => ?_) (fun q1 => ?_)
  · have q1 : w < 4 := @of_decide_eq_true _ _ q1
    conv => whnf
    show (1 : Int) = validR (w, h, l, wl)
    rw [validR, if_pos (show wrongR (w, h, l, wl) by unfold wrongR; simp only; omega)]
  have q1 : ¬ (w < 4) := @of_decide_eq_false _ _ q1
  conv => whnf
  refine cond_intro (fun q2 => ?_) (fun q2 => ?_)
  · have q2 : 32 < w := @of_decide_eq_true _ _ q2
    conv => whnf
    show (1 : Int) = validR (w, h, l, wl)
    rw [validR, if_pos (show wrongR (w, h, l, wl) by unfold wrongR; simp only; omega)]
  have q2 : ¬ (32 < w) := @of_decide_eq_false _ _ q2
  conv => whnf
  refine cond_intro (fun q3 => ?_) (fun q3 => ?_)
  · have q3 : h < 4 := @of_decide_eq_true _ _ q3
    conv => whnf
    show (1 : Int) = validR (w, h, l, wl)
    rw [validR, if_pos (show wrongR (w, h, l, wl) by unfold wrongR; simp only; omega)]
  have q3 : ¬ (h < 4) := @of_decide_eq_false _ _ q3
  conv => whnf
  refine cond_intro (fun q4 => ?_) (fun q4 => ?_)
  · have q4 : 32 < h := @of_decide_eq_true _ _ q4
    conv => whnf
    show (1 : Int) = validR (w, h, l, wl)
    rw [validR, if_pos (show wrongR (w, h, l, wl) by unfold wrongR; simp only; omega)]
  have q4 : ¬ (32 < h) := @of_decide_eq_false _ _ q4
  conv => whnf
  refine cond_intro (fun q5 => ?_) (fun q5 => ?_)
  · have q5 : (!decide ((l.length : Int) = IntKind.i64.wrap (w * h))) = true := q5
    have q5 : ¬ ((l.length : Int) = IntKind.i64.wrap (w * h)) := by simpa using q5
    conv => whnf
    show (1 : Int) = validR (w, h, l, wl)
    rw [validR, if_pos (show wrongR (w, h, l, wl) by unfold wrongR; simp only; omega)]
  have q5 : (!decide ((l.length : Int) = IntKind.i64.wrap (w * h))) = false := q5
  have q5 : (l.length : Int) = IntKind.i64.wrap (w * h) := by simpa using q5
  conv => whnf
  refine cond_intro (fun q6 => ?_) (fun q6 => ?_)
  · have q6 : (!decide ((wl.length : Int) = IntKind.i64.wrap (w * h))) = true := q6
    have q6 : ¬ ((wl.length : Int) = IntKind.i64.wrap (w * h)) := by simpa using q6
    conv => whnf
    show (1 : Int) = validR (w, h, l, wl)
    rw [validR, if_pos (show wrongR (w, h, l, wl) by unfold wrongR; simp only; omega)]
  have q6 : (!decide ((wl.length : Int) = IntKind.i64.wrap (w * h))) = false := q6
  have q6 : (wl.length : Int) = IntKind.i64.wrap (w * h) := by simpa using q6
  have hw : ¬ wrongR (w, h, l, wl) := by unfold wrongR; simp only; omega
  have hlen : (l.length : Int) = (wl.length : Int) := by omega
  have hb : (l.length : Int) ≤ 9223372036854775807 := by rw [q5, IntKind.wrap_i64]; omega
  conv => whnf
  refine loop_rule (fun i => S18 w h l wl i) (fun i => ((l.length : Int) - i).toNat) (fun i => 0 ≤ i ∧ i ≤ l.length ∧ ∀ j, j < i.toNat → badT l wl j = false) ?_ 0 (by kernel_rfl) ?_ ⟨by omega, by omega, fun j hj => by simp at hj⟩
  case refine_2 => rfl
  rintro i ⟨h0, h1, h2⟩
  conv => whnf
  refine cond_intro (fun hlt => ?_) (fun hlt => ?_)
  · have hlt : i < (l.length : Int) := @of_decide_eq_true _ _ hlt
    have hwi : IntKind.i64.wrap (i + 1) = i + 1 := wrap_eq (by omega) (by omega)
    conv => whnf
    refine ⟨h0, ?_⟩
    conv => whnf
    refine ⟨show i < (l.length : Int) by omega, ?_⟩
    conv => whnf
    refine cond_intro (fun c1 => ?_) (fun c1 => ?_)
    · have c1 : gI l i.toNat < 0 := @of_decide_eq_true _ _ c1
      conv => whnf
      show (1 : Int) = validR (w, h, l, wl)
      rw [validR, if_neg hw, if_pos (List.any_eq_true.2 ⟨i.toNat, List.mem_range.2 (by show i.toNat < l.length; omega), by simp [badT, *]⟩)]
    have c1 : ¬ (gI l i.toNat < 0) := @of_decide_eq_false _ _ c1
    conv => whnf
    refine ⟨h0, ?_⟩
    conv => whnf
    refine ⟨show i < (l.length : Int) by omega, ?_⟩
    conv => whnf
    refine cond_intro (fun c2 => ?_) (fun c2 => ?_)
    · have c2 : 63 < gI l i.toNat := @of_decide_eq_true _ _ c2
      conv => whnf
      show (1 : Int) = validR (w, h, l, wl)
      rw [validR, if_neg hw, if_pos (List.any_eq_true.2 ⟨i.toNat, List.mem_range.2 (by show i.toNat < l.length; omega), by simp [badT, *]⟩)]
    have c2 : ¬ (63 < gI l i.toNat) := @of_decide_eq_false _ _ c2
    conv => whnf
    refine ⟨h0, ?_⟩
    conv => whnf
    refine ⟨show i < (l.length : Int) by omega, ?_⟩
    conv => whnf
    refine cond_intro (fun c3 => ?_) (fun c3 => ?_)
    · have c3 : gI l i.toNat = 0 := @of_decide_eq_true _ _ c3
      conv => whnf
      refine ⟨h0, ?_⟩
      conv => whnf
      refine ⟨show i < (wl.length : Int) by omega, ?_⟩
      conv => whnf
      refine cond_intro (fun c4 => ?_) (fun c4 => ?_)
      · have c4 : (gB wl i.toNat) = true := c4
        conv => whnf
        show (1 : Int) = validR (w, h, l, wl)
        rw [validR, if_neg hw, if_pos (List.any_eq_true.2 ⟨i.toNat, List.mem_range.2 (by show i.toNat < l.length; omega), by simp [badT, *]⟩)]
      have c4 : (gB wl i.toNat) = false := c4
      conv => whnf
      refine ⟨i + 1, ?_, ⟨by omega, by omega, ?_⟩, by omega⟩
      · exact Eq.trans (b := S18 w h l wl (IntKind.i64.wrap (i + 1))) rfl (by rw [hwi])
      · intro j hj
        by_cases e : j = i.toNat
        · subst e; simp [badT, *]
        · exact h2 j (by omega)
    have c3 : ¬ (gI l i.toNat = 0) := @of_decide_eq_false _ _ c3
    conv => whnf
    refine ⟨i + 1, ?_, ⟨by omega, by omega, ?_⟩, by omega⟩
    · exact Eq.trans (b := S18 w h l wl (IntKind.i64.wrap (i + 1))) rfl (by rw [hwi])
    · intro j hj
      by_cases e : j = i.toNat
      · subst e; simp [badT, *]
      · exact h2 j (by omega)
  have hlt : ¬ (i < (l.length : Int)) := @of_decide_eq_false _ _ hlt
  conv => whnf
  show (0 : Int) = validR (w, h, l, wl)
  rw [validR, if_neg hw, if_neg (by rw [show (List.range l.length).any (badT l wl) = false from any_range.2 fun j hj => h2 j (by omega)]; simp)]
def E19 : Env := ⟨tab, [], fun n => match n with | 4 => some ([1, 46, 47, 48], [], []) | _ => none⟩
def K19 : Fn1 := ⟨.one rlT, .one I, fun _ => [], fun (r : Rl) => validR r⟩
theorem k19 : FnOk Go.Proofs.Try.prog 19 K19 := by
  refine fn_ok (E := E19) (TOk.of tab_told) (fun f k h => by cases h) mix Go.Proofs.Try.func19 rfl rfl (by kernel_rfl) K19 ?_
  rintro ⟨(w : Int), (h : Int), (l : List Int), (wl : List Bool)⟩ hp
  clear hp
  conv => whnf
  refine cond_intro (fun q1 => ?_) (fun q1 => ?_)
  · have q1 : w < 4 := @of_decide_eq_true _ _ q1
    conv => whnf
    show (1 : Int) = validR (w, h, l, wl)
    rw [validR, if_pos (show wrongR (w, h, l, wl) by unfold wrongR; simp only; omega)]
  have q1 : ¬ (w < 4) := @of_decide_eq_false _ _ q1
  conv => whnf
  refine cond_intro (fun q2 => ?_) (fun q2 => ?_)
  · have q2 : 32 < w := @of_decide_eq_true _ _ q2
    conv => whnf
    show (1 : Int) = validR (w, h, l, wl)
    rw [validR, if_pos (show wrongR (w, h, l, wl) by unfold wrongR; simp only; omega)]
  have q2 : ¬ (32 < w) := @of_decide_eq_false _ _ q2
  conv => whnf
  refine cond_intro (fun q3 => ?_) (fun q3 => ?_)
  · have q3 : h < 4 := @of_decide_eq_true _ _ q3
    conv => whnf
    show (1 : Int) = validR (w, h, l, wl)
    rw [validR, if_pos (show wrongR (w, h, l, wl) by unfold wrongR; simp only; omega)]
  have q3 : ¬ (h < 4) := @of_decide_eq_false _ _ q3
  conv => whnf
  refine cond_intro (fun q4 => ?_) (fun q4 => ?_)
  · have q4 : 32 < h := @of_decide_eq_true _ _ q4
    conv => whnf
    show (1 : Int) = validR (w, h, l, wl)
    rw [validR, if_pos (show wrongR (w, h, l, wl) by unfold wrongR; simp only; omega)]
  have q4 : ¬ (32 < h) := @of_decide_eq_false _ _ q4
  conv => whnf
  refine cond_intro (fun q5 => ?_) (fun q5 => ?_)
  · have q5 : (!decide ((l.length : Int) = IntKind.i64.wrap (w * h))) = true := q5
    have q5 : ¬ ((l.length : Int) = IntKind.i64.wrap (w * h)) := by simpa using q5
    conv => whnf
    show (1 : Int) = validR (w, h, l, wl)
    rw [validR, if_pos (show wrongR (w, h, l, wl) by unfold wrongR; simp only; omega)]
  have q5 : (!decide ((l.length : Int) = IntKind.i64.wrap (w * h))) = false := q5
  have q5 : (l.length : Int) = IntKind.i64.wrap (w * h) := by simpa using q5
  conv => whnf
  refine cond_intro (fun q6 => ?_) (fun q6 => ?_)
  · have q6 : (!decide ((wl.length : Int) = IntKind.i64.wrap (w * h))) = true := q6
    have q6 : ¬ ((wl.length : Int) = IntKind.i64.wrap (w * h)) := by simpa using q6
    conv => whnf
    show (1 : Int) = validR (w, h, l, wl)
    rw [validR, if_pos (show wrongR (w, h, l, wl) by unfold wrongR; simp only; omega)]
  have q6 : (!decide ((wl.length : Int) = IntKind.i64.wrap (w * h))) = false := q6
  have q6 : (wl.length : Int) = IntKind.i64.wrap (w * h) := by simpa using q6
  have hw : ¬ wrongR (w, h, l, wl) := by unfold wrongR; simp only; omega
  have hlen : (l.length : Int) = (wl.length : Int) := by omega
  have hb : (l.length : Int) ≤ 9223372036854775807 := by rw [q5, IntKind.wrap_i64]; omega
  conv => whnf
  refine loop_rule (fun i => S19 w h l wl i) (fun i => ((l.length : Int) - i).toNat) (fun i => 0 ≤ i ∧ i ≤ l.length ∧ ∀ j, j < i.toNat → badT l wl j = false) ?_ 0 (by kernel_rfl) ?_ ⟨by omega, by omega, fun j hj => by simp at hj⟩
  case refine_2 => rfl
  rintro i ⟨h0, h1, h2⟩
  conv => whnf
  refine cond_intro (fun hlt => ?_) (fun hlt => ?_)
  · have hlt : i < (l.length : Int) := @of_decide_eq_true _ _ hlt
    have hwi : IntKind.i64.wrap (i + 1) = i + 1 := wrap_eq (by omega) (by omega)
    conv => whnf
    refine ⟨h0, ?_⟩
    conv => whnf
    refine ⟨show i < (l.length : Int) by omega, ?_⟩
    conv => whnf
    refine cond_intro (fun c1 => ?_) (fun c1 => ?_)
    · have c1 : gI l i.toNat < 0 := @of_decide_eq_true _ _ c1
      conv => whnf
      show (1 : Int) = validR (w, h, l, wl)
      rw [validR, if_neg hw, if_pos (List.any_eq_true.2 ⟨i.toNat, List.mem_range.2 (by show i.toNat < l.length; omega), by simp [badT, *]⟩)]
    have c1 : ¬ (gI l i.toNat < 0) := @of_decide_eq_false _ _ c1
    conv => whnf
    refine cond_intro (fun c2 => ?_) (fun c2 => ?_)
    · have c2 : 64 ≤ gI l i.toNat := @of_decide_eq_true _ _ c2
      have c2 : 63 < gI l i.toNat := by omega
      conv => whnf
      show (1 : Int) = validR (w, h, l, wl)
      rw [validR, if_neg hw, if_pos (List.any_eq_true.2 ⟨i.toNat, List.mem_range.2 (by show i.toNat < l.length; omega), by simp [badT, *]⟩)]
    have c2 : ¬ (64 ≤ gI l i.toNat) := @of_decide_eq_false _ _ c2
    have c2 : ¬ 63 < gI l i.toNat := by omega
    conv => whnf
    refine cond_intro (fun c3 => ?_) (fun c3 => ?_)
    · have c3 : gI l i.toNat = 0 := @of_decide_eq_true _ _ c3
      conv => whnf
      refine ⟨h0, ?_⟩
      conv => whnf
      refine ⟨show i < (wl.length : Int) by omega, ?_⟩
      conv => whnf
      refine cond_intro (fun c4 => ?_) (fun c4 => ?_)
      · have c4 : (gB wl i.toNat) = true := c4
        conv => whnf
        show (1 : Int) = validR (w, h, l, wl)
        rw [validR, if_neg hw, if_pos (List.any_eq_true.2 ⟨i.toNat, List.mem_range.2 (by show i.toNat < l.length; omega), by simp [badT, *]⟩)]
      have c4 : (gB wl i.toNat) = false := c4
      conv => whnf
      refine ⟨i + 1, ?_, ⟨by omega, by omega, ?_⟩, by omega⟩
      · exact Eq.trans (b := S19 w h l wl (IntKind.i64.wrap (i + 1))) rfl (by rw [hwi])
      · intro j hj
        by_cases e : j = i.toNat
        · subst e; simp [badT, *]
        · exact h2 j (by omega)
    have c3 : ¬ (gI l i.toNat = 0) := @of_decide_eq_false _ _ c3
    conv => whnf
    refine ⟨i + 1, ?_, ⟨by omega, by omega, ?_⟩, by omega⟩
    · exact Eq.trans (b := S19 w h l wl (IntKind.i64.wrap (i + 1))) rfl (by rw [hwi])
    · intro j hj
      by_cases e : j = i.toNat
      · subst e; simp [badT, *]
      · exact h2 j (by omega)
  have hlt : ¬ (i < (l.length : Int)) := @of_decide_eq_false _ _ hlt
  conv => whnf
  show (0 : Int) = validR (w, h, l, wl)
  rw [validR, if_neg hw, if_neg (by rw [show (List.range l.length).any (badT l wl) = false from any_range.2 fun j hj => h2 j (by omega)]; simp)]
end
end Go.Proofs.Ytbndaabjlfdfcaa.Eng
set_option linter.unusedVariables false
set_option linter.unusedSimpArgs false
namespace Go.Proofs.Ytbndaabjlfdfcaa.Eng
open Go
set_option maxRecDepth 100000
noncomputable section
def backR (s : Sp) : Sp × Int := if (otherR s.2.1 s.2.2).2 = false then ((0, 0, 0), 1) else ((s.1, s.2.1, (otherR s.2.1 s.2.2).1), 0)
def K23 : Fn1 := ⟨.one spT, .fld spT (.one I), fun _ => [], fun (s : Sp) => backR s⟩
theorem k23 : FnOk Go.Proofs.Try.prog 23 K23 := by
  refine fn_ok (E := (⟨tab, [(43, K43)], ann0⟩ : Env)) (TOk.of tab_told) (AllOk.cons k43 .nil).at_ mix Go.Proofs.Try.func23 rfl rfl (by kernel_rfl) K23 ?_
  rintro ⟨(st : Int), (sp : Int), (so : Int)⟩ hp
  clear hp
  conv => whnf
  refine cond_intro (fun h0 => ?_) (fun h0 => ?_)
  · have h0 : (!((otherR sp so).2)) = true := h0
    have h0 : ((otherR sp so).2) = false := by simpa using h0
    conv => whnf
    show (((0 : Int), (0 : Int), (0 : Int)), (1 : Int)) = backR (st, sp, so)
    rw [backR, if_pos h0]
  have h0 : (!((otherR sp so).2)) = false := h0
  have h0 : ((otherR sp so).2) = true := by simpa using h0
  conv => whnf
  show ((st, sp, (otherR sp so).1), (0 : Int)) = backR (st, sp, so)
  rw [backR, if_neg (by simp [h0])]
def errRefR (r : Rl) (s : Sp) : Int := if otherRefR s.2.1 s.2.2 < 0 then 1 else if liesR r s.1 s.2.1 = false then 2 else 0
def K55 : Fn1 := ⟨.fld rlT (.one spT), .one I, fun _ => [], fun (a : Rl × Sp) => errRefR a.1 a.2⟩
theorem k55 : FnOk Go.Proofs.Try.prog 55 K55 := by
  refine fn_ok (E := (⟨tab, [(42, K42), (45, K45)], ann0⟩ : Env)) (TOk.of tab_told) (AllOk.cons k42 (.cons k45 .nil)).at_ mix Go.Proofs.Try.func55 rfl rfl (by kernel_rfl) K55 ?_
  rintro ⟨⟨(w : Int), (h : Int), (l : List Int), (wl : List Bool)⟩, ⟨(st : Int), (sp : Int), (so : Int)⟩⟩ hp
  clear hp
  conv => whnf
  refine cond_intro (fun h0 => ?_) (fun h0 => ?_)
  · have h0 : otherRefR sp so < 0 := @of_decide_eq_true _ _ h0
    conv => whnf
    show (1 : Int) = errRefR (w, h, l, wl) (st, sp, so)
    rw [errRefR, if_pos h0]
  have h0 : ¬ (otherRefR sp so < 0) := @of_decide_eq_false _ _ h0
  conv => whnf
  refine cond_intro (fun h1 => ?_) (fun h1 => ?_)
  · have h1 : (!(liesR (w, h, l, wl) st sp)) = true := h1
    have h1 : (liesR (w, h, l, wl) st sp) = false := by simpa using h1
    conv => whnf
    show (2 : Int) = errRefR (w, h, l, wl) (st, sp, so)
    rw [errRefR, if_neg h0, if_pos h1]
  have h1 : (!(liesR (w, h, l, wl) st sp)) = false := h1
  have h1 : (liesR (w, h, l, wl) st sp) = true := by simpa using h1
  conv => whnf
  show (0 : Int) = errRefR (w, h, l, wl) (st, sp, so)
  rw [errRefR, if_neg h0, if_neg (by simp [h1])]
theorem ends_ok {p : Int} (h : (endsR p).2.2 = 0) : 0 ≤ p ∧ p ≤ 5 := by
  unfold endsR at h
  repeat' split at h
  all_goals (first | omega | (simp at h))
theorem other_ok {p s : Int} (h : (otherR p s).2 = true) : 0 ≤ p ∧ p ≤ 5 := by
  unfold otherR at h
  by_cases e : (endsR p).2.2 = 0
  · exact ends_ok e
  · rw [if_pos e] at h; cases h
theorem valid_len {r : Rl} (h : validR r = 0) : ((4 ≤ r.1 ∧ r.1 ≤ 32) ∧ (4 ≤ r.2.1 ∧ r.2.1 ≤ 32)) ∧ (r.2.2.1.length : Int) = r.1 * r.2.1 ∧ (r.2.2.2.length : Int) = r.1 * r.2.1 ∧ IntKind.i64.wrap (r.1 * r.2.1) = r.1 * r.2.1 ∧ r.1 * r.2.1 ≤ 1024 := by
  unfold validR at h
  by_cases hw : wrongR r
  · rw [if_pos hw] at h; cases h
  unfold wrongR at hw
  have h1 : (4 ≤ r.1 ∧ r.1 ≤ 32) ∧ (4 ≤ r.2.1 ∧ r.2.1 ≤ 32) := by omega
  have m1 : r.1 * r.2.1 ≤ 32 * 32 := Int.mul_le_mul h1.1.2 h1.2.2 (by omega) (by omega)
  have m0 : 0 ≤ r.1 * r.2.1 := Int.mul_nonneg (by omega) (by omega)
  have e : IntKind.i64.wrap (r.1 * r.2.1) = r.1 * r.2.1 := wrap_eq (by omega) (by omega)
  rw [e] at hw
  exact ⟨h1, by omega, by omega, e, by omega⟩
def thereR (r : Rl) (s : Sp) : Int := if (backR s).2 ≠ 0 then (backR s).2 else if tileR r s.1 = false then 2 else if bitR (gI r.2.2.1 s.1.toNat) s.2.1 = 0 then 2 else 0
def K66 : Fn1 := ⟨.fld rlT (.one spT), .one I, fun (a : Rl × Sp) => [validR a.1 = 0], fun (a : Rl × Sp) => thereR a.1 a.2⟩
theorem k66 : FnOk Go.Proofs.Try.prog 66 K66 := by
  refine fn_ok (E := (⟨tab, [(23, K23), (47, K47)], ann0⟩ : Env)) (TOk.of tab_told) (AllOk.cons k23 (.cons k47 .nil)).at_ mix Go.Proofs.Try.func66 rfl rfl (by kernel_rfl) K66 ?_
  rintro ⟨⟨(w : Int), (h : Int), (l : List Int), (wl : List Bool)⟩, ⟨(st : Int), (sp : Int), (so : Int)⟩⟩ hp
  have hv : validR (w, h, l, wl) = 0 := hp _ (List.mem_cons_self ..)
  clear hp
  obtain ⟨_, e1, _, e2, _⟩ := valid_len hv
  simp only at e1 e2
  conv => whnf
  refine cond_intro (fun h0 => ?_) (fun h0 => ?_)
  · have h0 : (!decide ((backR (st, sp, so)).2 = 0)) = true := h0
    have h0 : ¬ ((backR (st, sp, so)).2 = 0) := by simpa using h0
    conv => whnf
    show (backR (st, sp, so)).2 = thereR (w, h, l, wl) (st, sp, so)
    rw [thereR, if_pos h0]
  have h0 : (!decide ((backR (st, sp, so)).2 = 0)) = false := h0
  have h0 : (backR (st, sp, so)).2 = 0 := by simpa using h0
  have hb : 0 ≤ sp ∧ sp ≤ 5 := other_ok (s := so) (by
    unfold backR at h0
    cases e : (otherR sp so).2 with
    | true => rfl
    | false => simp [e] at h0)
  conv => whnf
  refine cond_intro (fun h1 => ?_) (fun h1 => ?_)
  · have h1 : (!(tileR (w, h, l, wl) st)) = true := h1
    have h1 : (tileR (w, h, l, wl) st) = false := by simpa using h1
    conv => whnf
    show (2 : Int) = thereR (w, h, l, wl) (st, sp, so)
    rw [thereR, if_neg (by simp [h0]), if_pos h1]
  have h1 : (!(tileR (w, h, l, wl) st)) = false := h1
  have h1 : (tileR (w, h, l, wl) st) = true := by simpa using h1
  have ht : 0 ≤ st ∧ st < l.length := by
    simp only [tileR, Bool.and_eq_true, decide_eq_true_eq, e2] at h1
    omega
  conv => whnf
  refine ⟨ht.1, ?_⟩
  conv => whnf
  refine ⟨ht.2, ?_⟩
  conv => whnf
  refine ⟨hb.1, ?_⟩
  conv => whnf
  refine cond_intro (fun h2 => ?_) (fun h2 => ?_)
  · have h2 : bitR (gI l st.toNat) sp = 0 := @of_decide_eq_true _ _ h2
    conv => whnf
    show (2 : Int) = thereR (w, h, l, wl) (st, sp, so)
    rw [thereR, if_neg (by simp [h0]), if_neg (by simp [h1]), if_pos h2]
  have h2 : ¬ (bitR (gI l st.toNat) sp = 0) := @of_decide_eq_false _ _ h2
  conv => whnf
  show (0 : Int) = thereR (w, h, l, wl) (st, sp, so)
  rw [thereR, if_neg (by simp [h0]), if_neg (by simp [h1]), if_neg h2]
def gSp (l : List Sp) (n : Nat) : Sp := l.getD n (0, 0, 0)
theorem gSp_eq {l : List Sp} {n : Nat} (h : n < l.length) : gSp l n = l[n] := by simp [gSp, h]
def idxR (l : List Sp) (v : Sp) : Int := if l.findIdx (fun q => decide (v = q)) < l.length then (l.findIdx (fun q => decide (v = q)) : Int) else -1
theorem sp_eq (a b : Sp) : decide (a = b) = (decide (a.1 = b.1) && (decide (a.2.1 = b.2.1) && (decide (a.2.2 = b.2.2) && true))) := by
  obtain ⟨a1, a2, a3⟩ := a
  obtain ⟨b1, b2, b3⟩ := b
  simp only [Prod.mk.injEq, Bool.and_true]
  rw [Bool.decide_and, Bool.decide_and]
theorem findIdx_at {α : Type} {f : α → Bool} {l : List α} {i : Nat} (hi : i < l.length) (h : ∀ j, (hj : j < i) → f (l[j]'(by omega)) = false) (hf : f l[i] = true) : l.findIdx f = i := by
  rw [List.findIdx_eq hi]
  exact ⟨hf, fun j hj => by simpa using h j hj⟩
theorem findIdx_none {α : Type} {f : α → Bool} {l : List α} (h : ∀ j, (hj : j < l.length) → f (l[j]'hj) = false) : ¬ l.findIdx f < l.length := by
  intro c
  have := List.findIdx_getElem (w := c)
  rw [h _ c] at this
  cases this
def S67 (l : List Sp) (v : Sp) (i : Int) : SL := ⟨[.sl spT l, .undef, .undef, .ptr 0 0 0, .undef, .undef, .undef, .int .i64 l.length, .int .i64 i] ++ List.replicate 10 .undef, [(0, .box [.int .i64 v.1, .int .i64 v.2.1, .int .i64 v.2.2])], 1⟩
def E67 : Env := ⟨tab, [], fun n => match n with | 2 => some ([0, 3, 7, 8], [], []) | _ => none⟩
def K67 : Fn1 := ⟨.fld (.sl spT) (.one spT), .one I, fun (a : List Sp × Sp) => [a.1.length ≤ 140737488351232], fun (a : List Sp × Sp) => idxR a.1 a.2⟩
theorem k67 : FnOk Go.Proofs.Try.prog 67 K67 := by
  refine fn_ok (E := E67) (TOk.of tab_told) (fun f k h => by cases h) mix Go.Proofs.Try.func67 rfl rfl (by kernel_rfl) K67 ?_
  rintro ⟨(l : List Sp), ⟨(st : Int), (sp : Int), (so : Int)⟩⟩ hp
  have hl : l.length ≤ 140737488351232 := hp _ (List.mem_cons_self ..)
  clear hp
  conv => whnf
  refine loop_rule (fun i => S67 l (st, sp, so) i) (fun i => ((l.length : Int) - i).toNat) (fun i => 0 ≤ i ∧ i ≤ l.length ∧ ∀ j, (hj : j < i.toNat) → (hk : j < l.length) → decide ((st, sp, so) = l[j]) = false) ?_ 0 (by kernel_rfl) ?_ ⟨by omega, by omega, fun j hj => by simp at hj⟩
  case refine_2 => rfl
  rintro i ⟨h0, h1, h2⟩
  conv => whnf
  refine cond_intro (fun hlt => ?_) (fun hlt => ?_)
  · have hlt : i < (l.length : Int) := @of_decide_eq_true _ _ hlt
    have hwi : IntKind.i64.wrap (i + 1) = i + 1 := wrap_eq (by omega) (by omega)
    have e : gSp l i.toNat = l[i.toNat]'(by omega) := gSp_eq _
    conv => whnf
    refine ⟨h0, ?_⟩
    conv => whnf
    refine ⟨hlt, ?_⟩
    conv => whnf
    refine cond_intro (fun hq => ?_) (fun hq => ?_)
    · have hq : decide (((st, sp, so) : Sp) = gSp l i.toNat) = true := by rw [sp_eq]; exact hq
      conv => whnf
      show i = idxR l (st, sp, so)
      have hf : l.findIdx (fun q => decide (((st, sp, so) : Sp) = q)) = i.toNat := findIdx_at (by omega) (fun j hj => h2 j hj (by omega)) (by rw [← e]; exact hq)
      rw [idxR, hf, if_pos (by omega)]
      omega
    have hq : decide (((st, sp, so) : Sp) = gSp l i.toNat) = false := by rw [sp_eq]; exact hq
    conv => whnf
    refine ⟨i + 1, ?_, ⟨by omega, by omega, ?_⟩, by omega⟩
    · exact Eq.trans (b := S67 l (st, sp, so) (IntKind.i64.wrap (i + 1))) rfl (by rw [hwi])
    · intro j hj hk
      by_cases ej : j = i.toNat
      · subst ej; rw [← e]; exact hq
      · exact h2 j (by omega) hk
  have hlt : ¬ (i < (l.length : Int)) := @of_decide_eq_false _ _ hlt
  conv => whnf
  show (-1 : Int) = idxR l (st, sp, so)
  rw [idxR, if_neg (findIdx_none fun j hj => h2 j (by omega) hj)]
def hasR (l : List Sp) (v : Sp) : Bool := decide (0 ≤ idxR l v)
def K57 : Fn1 := ⟨.fld (.sl spT) (.one spT), .one .bool, fun (a : List Sp × Sp) => [a.1.length ≤ 140737488351232], fun (a : List Sp × Sp) => hasR a.1 a.2⟩
theorem k57 : FnOk Go.Proofs.Try.prog 57 K57 := by
  refine fn_ok (E := (⟨tab, [(67, K67)], ann0⟩ : Env)) (TOk.of tab_told) (AllOk.cons k67 .nil).at_ mix Go.Proofs.Try.func57 rfl rfl (by kernel_rfl) K57 ?_
  rintro ⟨(l : List Sp), ⟨(st : Int), (sp : Int), (so : Int)⟩⟩ hp
  have hl : l.length ≤ 140737488351232 := hp _ (List.mem_cons_self ..)
  clear hp
  conv => whnf
  refine ⟨hl, ?_⟩
  conv => whnf
  rfl
def firstErr (f : Sp → Int) : List Sp → Int
  | [] => 0
  | x :: r => if f x ≠ 0 then f x else firstErr f r
theorem firstErr_at {f : Sp → Int} : ∀ {l : List Sp} {i : Nat}, (∀ j, j < i → (hk : j < l.length) → f l[j] = 0) → firstErr f l = firstErr f (l.drop i)
  | [], i, _ => by simp
  | x :: r, 0, _ => rfl
  | x :: r, i + 1, h => by
    rw [firstErr, if_neg (by have := h 0 (by omega) (by simp); simpa using this), List.drop_succ_cons]
    exact firstErr_at fun j hj hk => by have := h (j + 1) (by omega) (by simp; omega); simpa using this
def allR (r : Rl) (l : List Sp) : Int := if validR r ≠ 0 then validR r else firstErr (thereR r) l
def S56 (w h : Int) (l : List Int) (wl : List Bool) (q : List Sp) (i : Int) : SL := ⟨[.undef, .undef, .ptr 0 0 0] ++ List.replicate 11 .undef ++ [.sl spT q, .int .i64 q.length, .int .i64 i] ++ List.replicate 10 .undef, [(0, .box [.int .i64 w, .int .i64 h, .sl I l, .sl .bool wl])], 1⟩
def E56 : Env := ⟨tab, [(19, K19), (66, K66)], fun n => match n with | 5 => some ([2, 14, 15, 16], [], []) | _ => none⟩
def K56 : Fn1 := ⟨.fld rlT (.one (.sl spT)), .one I, fun (a : Rl × List Sp) => [a.2.length ≤ 140737488351232], fun (a : Rl × List Sp) => allR a.1 a.2⟩
theorem k56 : FnOk Go.Proofs.Try.prog 56 K56 := by
  refine fn_ok (E := E56) (TOk.of tab_told) (AllOk.cons k19 (.cons k66 .nil)).at_ mix Go.Proofs.Try.func56 rfl rfl (by kernel_rfl) K56 ?_
  rintro ⟨⟨(w : Int), (h : Int), (l : List Int), (wl : List Bool)⟩, (q : List Sp)⟩ hp
  have hl : q.length ≤ 140737488351232 := hp _ (List.mem_cons_self ..)
  clear hp
  conv => whnf
  refine cond_intro (fun hv => ?_) (fun hv => ?_)
  · have hv : (!decide (validR (w, h, l, wl) = 0)) = true := hv
    have hv : ¬ (validR (w, h, l, wl) = 0) := by simpa using hv
    conv => whnf
    show validR (w, h, l, wl) = allR (w, h, l, wl) q
    rw [allR, if_pos hv]
  have hv : (!decide (validR (w, h, l, wl) = 0)) = false := hv
  have hv : validR (w, h, l, wl) = 0 := by simpa using hv
  have v1 : allR (w, h, l, wl) q = firstErr (thereR (w, h, l, wl)) q := by rw [allR, if_neg (by simp [hv])]
  conv => whnf
  refine loop_rule (fun i => S56 w h l wl q i) (fun i => ((q.length : Int) - i).toNat) (fun i => 0 ≤ i ∧ i ≤ q.length ∧ ∀ j, j < i.toNat → (hk : j < q.length) → thereR (w, h, l, wl) q[j] = 0) ?_ 0 (by kernel_rfl) ?_ ⟨by omega, by omega, fun j hj => by simp at hj⟩
  case refine_2 => rfl
  rintro i ⟨h0, h1, h2⟩
  conv => whnf
  refine cond_intro (fun hlt => ?_) (fun hlt => ?_)
  · have hlt : i < (q.length : Int) := @of_decide_eq_true _ _ hlt
    have hwi : IntKind.i64.wrap (i + 1) = i + 1 := wrap_eq (by omega) (by omega)
    have e : gSp q i.toNat = q[i.toNat]'(by omega) := gSp_eq _
    conv => whnf
    refine ⟨h0, ?_⟩
    conv => whnf
    refine ⟨hlt, ?_⟩
    conv => whnf
    refine ⟨hv, ?_⟩
    conv => whnf
    refine cond_intro (fun he => ?_) (fun he => ?_)
    · have he : (!decide (thereR (w, h, l, wl) (gSp q i.toNat) = 0)) = true := he
      have he : ¬ (thereR (w, h, l, wl) (gSp q i.toNat) = 0) := by simpa using he
      conv => whnf
      show thereR (w, h, l, wl) (gSp q i.toNat) = allR (w, h, l, wl) q
      rw [v1, firstErr_at h2, List.drop_eq_getElem_cons (by omega), firstErr, ← e, if_pos he]
    have he : (!decide (thereR (w, h, l, wl) (gSp q i.toNat) = 0)) = false := he
    have he : thereR (w, h, l, wl) (gSp q i.toNat) = 0 := by simpa using he
    conv => whnf
    refine ⟨i + 1, ?_, ⟨by omega, by omega, ?_⟩, by omega⟩
    · exact Eq.trans (b := S56 w h l wl q (IntKind.i64.wrap (i + 1))) rfl (by rw [hwi])
    · intro j hj hk
      by_cases ej : j = i.toNat
      · subst ej; rw [← e]; exact he
      · exact h2 j (by omega) hk
  have hlt : ¬ (i < (q.length : Int)) := @of_decide_eq_false _ _ hlt
  conv => whnf
  show (0 : Int) = allR (w, h, l, wl) q
  rw [v1, firstErr_at h2, List.drop_of_length_le (by omega), firstErr]
end
end Go.Proofs.Ytbndaabjlfdfcaa.Eng
set_option linter.unusedVariables false
set_option linter.unusedSimpArgs false
namespace Go.Proofs.Ytbndaabjlfdfcaa.Eng
open Go
set_option maxRecDepth 100000
noncomputable section
theorem byW {w h x y : Int} (hw : 4 ≤ w ∧ w ≤ 32) (hh : 4 ≤ h ∧ h ≤ 32) (hx : 0 ≤ x ∧ x < w) (hy : 0 ≤ y ∧ y < h) : IntKind.i64.wrap (IntKind.i64.wrap (y * w) + x) = y * w + x ∧ 0 ≤ y * w + x ∧ y * w + x < w * h := by
  have m1 : y * w ≤ 32 * 32 := Int.mul_le_mul (by omega) hw.2 (by omega) (by omega)
  have m0 : 0 ≤ y * w := Int.mul_nonneg hy.1 (by omega)
  have m2 : y * w ≤ (h - 1) * w := Int.mul_le_mul_of_nonneg_right (by omega) (by omega)
  rw [Int.sub_mul, Int.one_mul, Int.mul_comm h w] at m2
  rw [wrap_eq (i := y * w) (by omega) (by omega), wrap_eq (i := y * w + x) (by omega) (by omega)]
  exact ⟨rfl, by omega, by omega⟩
theorem beside_in {r : Rl} {n s : Int} (hv : validR r = 0) (hb : (besideR r.1 r.2.1 n s).2 = true) : 0 ≤ (besideR r.1 r.2.1 n s).1 ∧ (besideR r.1 r.2.1 n s).1 < r.2.2.1.length := by
  obtain ⟨⟨hw, hh⟩, e1, _, _, _⟩ := valid_len hv
  unfold besideR inR at hb
  simp only [Bool.and_eq_true, decide_eq_true_eq] at hb
  obtain ⟨b1, b2, b3⟩ := byW hw hh ⟨hb.1.1.1, hb.1.1.2⟩ ⟨hb.1.2, hb.2⟩
  unfold besideR
  simp only
  rw [b1]
  omega
def turnT (so : Int) : Int := Int.tmod (IntKind.i64.wrap (so + 2)) 4
def stepP (r : Rl) (n so : Int) (p : Nat) : Option Sp := if bitR (gI r.2.2.1 n.toNat) p = 0 then none else if (otherR p (turnT so)).2 = true then some (n, (p : Int), (otherR p (turnT so)).1) else none
def nextR (r : Rl) (s : Sp) : List Sp := if (besideR r.1 r.2.1 s.1 s.2.2).2 = false then [] else (List.range 6).filterMap (stepP r (besideR r.1 r.2.1 s.1 s.2.2).1 s.2.2)
def stepF (r : Rl) (n so : Int) (p : Nat) : Option Sp := if otherRefR p (turnT so) < 0 then none else if liesR r n p = true then some (n, (p : Int), otherRefR p (turnT so)) else none
def followR (r : Rl) (s : Sp) : List Sp := if beyondR r.1 r.2.1 s.1 s.2.2 < 0 then [] else (List.range 6).filterMap (stepF r (beyondR r.1 r.2.1 s.1 s.2.2) s.2.2)
theorem fm_len (f : Nat → Option Sp) (n : Nat) : ((List.range n).filterMap f).length ≤ n := by
  have := List.length_filterMap_le f (List.range n)
  rwa [List.length_range] at this
theorem fm_snoc (f : Nat → Option Sp) (n : Nat) : (List.range (n + 1)).filterMap f = (List.range n).filterMap f ++ (match f n with | some x => [x] | none => []) := by
  rw [List.range_succ, List.filterMap_append]
  congr 1
  cases h : f n <;> simp [h]
def S54 (w h : Int) (l : List Int) (wl : List Bool) (st sp so n : Int) (out : List Sp) (p : Int) : SL := ⟨[.undef, .undef, .ptr 0 0 0, .ptr 1 0 0, .undef, .int .i64 n, .undef, .own 2] ++ List.replicate 17 .undef ++ [.int .i64 p] ++ List.replicate 30 .undef, [(0, .box [.int .i64 w, .int .i64 h, .sl I l, .sl .bool wl]), (1, .box [.int .i64 st, .int .i64 sp, .int .i64 so]), (2, .arr spT out)], 3⟩
def S53 (w h : Int) (l : List Int) (wl : List Bool) (st sp so n : Int) (out : List Sp) (p : Int) : SL := ⟨[.undef, .undef, .ptr 0 0 0, .ptr 1 0 0, .undef, .int .i64 n, .own 2, .int .i64 p] ++ List.replicate 38 .undef, [(0, .box [.int .i64 w, .int .i64 h, .sl I l, .sl .bool wl]), (1, .box [.int .i64 st, .int .i64 sp, .int .i64 so]), (2, .arr spT out)], 3⟩
def E54 : Env := ⟨tab, [(65, K65), (43, K43)], fun n => match n with | 6 => some ([2, 3, 5, 7, 25], [(7, spT)], []) | _ => none⟩
def K54 : Fn1 := ⟨.fld rlT (.one spT), .one (.sl spT), fun (a : Rl × Sp) => [validR a.1 = 0], fun (a : Rl × Sp) => nextR a.1 a.2⟩
theorem k54 : FnOk Go.Proofs.Try.prog 54 K54 := by
  refine fn_ok (E := E54) (TOk.of tab_told) (AllOk.cons k65 (.cons k43 .nil)).at_ mix Go.Proofs.Try.func54 rfl rfl (by kernel_rfl) K54 ?_
  rintro ⟨⟨(w : Int), (h : Int), (l : List Int), (wl : List Bool)⟩, ⟨(st : Int), (sp : Int), (so : Int)⟩⟩ hp
  have hv : validR (w, h, l, wl) = 0 := hp _ (List.mem_cons_self ..)
  clear hp
  obtain ⟨⟨hw, hh⟩, e1, _, e2, _⟩ := valid_len hv
  simp only at hw hh e1 e2
  have hw0 : w ≠ 0 := by omega
  conv => whnf
  refine ⟨hw0, ?_⟩
  conv => whnf
  refine cond_intro (fun hb => ?_) (fun hb => ?_)
  · have hb : (!((besideR w h st so).2)) = true := hb
    have hb : ((besideR w h st so).2) = false := by simpa using hb
    conv => whnf
    show ([] : List Sp) = nextR (w, h, l, wl) (st, sp, so)
    rw [nextR, if_pos hb]
  have hb : (!((besideR w h st so).2)) = false := hb
  have hb : ((besideR w h st so).2) = true := by simpa using hb
  have hn := beside_in (r := (w, h, l, wl)) hv hb
  simp only at hn
  conv => whnf
  refine loop_rule (fun p => S54 w h l wl st sp so (besideR w h st so).1 ((List.range p.toNat).filterMap (stepP (w, h, l, wl) (besideR w h st so).1 so)) p) (fun p => (6 - p).toNat) (fun p => 0 ≤ p ∧ p ≤ 6) ?_ 0 (by kernel_rfl) ?_ ⟨by omega, by omega⟩
  case refine_2 => rfl
  rintro p ⟨h0, h1⟩
  have hlen := fm_len (stepP (w, h, l, wl) (besideR w h st so).1 so) p.toNat
  conv => whnf
  refine cond_intro (fun hlt => ?_) (fun hlt => ?_)
  · have hlt : p < 6 := @of_decide_eq_true _ _ hlt
    have hwp : IntKind.i64.wrap (p + 1) = p + 1 := wrap_eq (by omega) (by omega)
    have ep : (p + 1).toNat = p.toNat + 1 := by omega
    have pe : ((p.toNat : Nat) : Int) = p := by omega
    conv => whnf
    refine ⟨hn.1, ?_⟩
    conv => whnf
    refine ⟨hn.2, ?_⟩
    conv => whnf
    refine ⟨h0, ?_⟩
    conv => whnf
    refine cond_intro (fun c1 => ?_) (fun c1 => ?_)
    · have c1 : bitR (gI l (besideR w h st so).1.toNat) p = 0 := @of_decide_eq_true _ _ c1
      have hst : stepP (w, h, l, wl) (besideR w h st so).1 so p.toNat = none := by rw [stepP, pe, if_pos c1]
      conv => whnf
      refine ⟨p + 1, ?_, ⟨by omega, by omega⟩, by omega⟩
      exact Eq.trans (b := S54 w h l wl st sp so (besideR w h st so).1 ((List.range p.toNat).filterMap (stepP (w, h, l, wl) (besideR w h st so).1 so)) (IntKind.i64.wrap (p + 1))) rfl (by rw [hwp, ep, fm_snoc, hst]; simp)
    have c1 : ¬ (bitR (gI l (besideR w h st so).1.toNat) p = 0) := @of_decide_eq_false _ _ c1
    conv => whnf
    refine ⟨show (4 : Int) ≠ 0 by decide, ?_⟩
    conv => whnf
    refine cond_intro (fun c2 => ?_) (fun c2 => ?_)
    · have c2 : ((otherR p (turnT so)).2) = true := c2
      have hst : stepP (w, h, l, wl) (besideR w h st so).1 so p.toNat = some ((besideR w h st so).1, p, (otherR p (turnT so)).1) := by rw [stepP, pe, if_neg c1, if_pos c2]
      conv => whnf
      refine ⟨show (((List.range p.toNat).filterMap (stepP (w, h, l, wl) (besideR w h st so).1 so)).length + 1) * 24 ≤ 70368744177664 by omega, ?_⟩
      conv => whnf
      refine ⟨show ((List.range p.toNat).filterMap (stepP (w, h, l, wl) (besideR w h st so).1 so)).length + 1 ≤ 70368744177664 by omega, ?_⟩
      conv => whnf
      refine ⟨p + 1, ?_, ⟨by omega, by omega⟩, by omega⟩
      exact Eq.trans (b := S54 w h l wl st sp so (besideR w h st so).1 (((List.range p.toNat).filterMap (stepP (w, h, l, wl) (besideR w h st so).1 so)) ++ [((besideR w h st so).1, p, (otherR p (turnT so)).1)]) (IntKind.i64.wrap (p + 1))) rfl (by rw [hwp, ep, fm_snoc, hst])
    have c2 : ((otherR p (turnT so)).2) = false := c2
    have hst : stepP (w, h, l, wl) (besideR w h st so).1 so p.toNat = none := by rw [stepP, pe, if_neg c1, if_neg (by simp [c2])]
    conv => whnf
    refine ⟨p + 1, ?_, ⟨by omega, by omega⟩, by omega⟩
    exact Eq.trans (b := S54 w h l wl st sp so (besideR w h st so).1 ((List.range p.toNat).filterMap (stepP (w, h, l, wl) (besideR w h st so).1 so)) (IntKind.i64.wrap (p + 1))) rfl (by rw [hwp, ep, fm_snoc, hst]; simp)
  have hlt : ¬ (p < 6) := @of_decide_eq_false _ _ hlt
  have ep : p.toNat = 6 := by omega
  conv => whnf
  show (List.range p.toNat).filterMap (stepP (w, h, l, wl) (besideR w h st so).1 so) = nextR (w, h, l, wl) (st, sp, so)
  rw [ep, nextR, if_neg (by simp [hb])]
end
end Go.Proofs.Ytbndaabjlfdfcaa.Eng
set_option linter.unusedVariables false
set_option linter.unusedSimpArgs false
namespace Go.Proofs.Ytbndaabjlfdfcaa.Eng
open Go
set_option maxRecDepth 100000
noncomputable section
def E53 : Env := ⟨tab, [(64, K64), (42, K42), (45, K45)], fun n => match n with | 6 => some ([2, 3, 5, 6, 7], [(6, spT)], []) | _ => none⟩
def K53 : Fn1 := ⟨.fld rlT (.one spT), .one (.sl spT), fun (a : Rl × Sp) => [validR a.1 = 0], fun (a : Rl × Sp) => followR a.1 a.2⟩
theorem k53 : FnOk Go.Proofs.Try.prog 53 K53 := by
  refine fn_ok (E := E53) (TOk.of tab_told) (AllOk.cons k64 (.cons k42 (.cons k45 .nil))).at_ mix Go.Proofs.Try.func53 rfl rfl (by kernel_rfl) K53 ?_
  rintro ⟨⟨(w : Int), (h : Int), (l : List Int), (wl : List Bool)⟩, ⟨(st : Int), (sp : Int), (so : Int)⟩⟩ hp
  have hv : validR (w, h, l, wl) = 0 := hp _ (List.mem_cons_self ..)
  clear hp
  obtain ⟨⟨hw, hh⟩, e1, _, e2, _⟩ := valid_len hv
  simp only at hw hh e1 e2
  have hw0 : w ≠ 0 := by omega
  conv => whnf
  refine ⟨hw0, ?_⟩
  conv => whnf
  refine cond_intro (fun hb => ?_) (fun hb => ?_)
  · have hb : beyondR w h st so < 0 := @of_decide_eq_true _ _ hb
    conv => whnf
    show ([] : List Sp) = followR (w, h, l, wl) (st, sp, so)
    rw [followR, if_pos hb]
  have hb : ¬ (beyondR w h st so < 0) := @of_decide_eq_false _ _ hb
  conv => whnf
  refine loop_rule (fun p => S53 w h l wl st sp so (beyondR w h st so) ((List.range p.toNat).filterMap (stepF (w, h, l, wl) (beyondR w h st so) so)) p) (fun p => (6 - p).toNat) (fun p => 0 ≤ p ∧ p ≤ 6) ?_ 0 (by kernel_rfl) ?_ ⟨by omega, by omega⟩
  case refine_2 => rfl
  rintro p ⟨h0, h1⟩
  have hlen := fm_len (stepF (w, h, l, wl) (beyondR w h st so) so) p.toNat
  conv => whnf
  refine cond_intro (fun hlt => ?_) (fun hlt => ?_)
  · have hlt : p < 6 := @of_decide_eq_true _ _ hlt
    have hwp : IntKind.i64.wrap (p + 1) = p + 1 := wrap_eq (by omega) (by omega)
    have ep : (p + 1).toNat = p.toNat + 1 := by omega
    have pe : ((p.toNat : Nat) : Int) = p := by omega
    conv => whnf
    refine ⟨show (4 : Int) ≠ 0 by decide, ?_⟩
    conv => whnf
    refine cond_intro (fun c1 => ?_) (fun c1 => ?_)
    · have c1 : 0 ≤ otherRefR p (turnT so) := @of_decide_eq_true _ _ c1
      conv => whnf
      refine cond_intro (fun c2 => ?_) (fun c2 => ?_)
      · have c2 : (liesR (w, h, l, wl) (beyondR w h st so) p) = true := c2
        have hst : stepF (w, h, l, wl) (beyondR w h st so) so p.toNat = some ((beyondR w h st so), p, otherRefR p (turnT so)) := by rw [stepF, pe, if_neg (by omega), if_pos c2]
        conv => whnf
        refine ⟨show (((List.range p.toNat).filterMap (stepF (w, h, l, wl) (beyondR w h st so) so)).length + 1) * 24 ≤ 70368744177664 by omega, ?_⟩
        conv => whnf
        refine ⟨show ((List.range p.toNat).filterMap (stepF (w, h, l, wl) (beyondR w h st so) so)).length + 1 ≤ 70368744177664 by omega, ?_⟩
        conv => whnf
        refine ⟨p + 1, ?_, ⟨by omega, by omega⟩, by omega⟩
        exact Eq.trans (b := S53 w h l wl st sp so (beyondR w h st so) (((List.range p.toNat).filterMap (stepF (w, h, l, wl) (beyondR w h st so) so)) ++ [((beyondR w h st so), p, otherRefR p (turnT so))]) (IntKind.i64.wrap (p + 1))) rfl (by rw [hwp, ep, fm_snoc, hst])
      have c2 : (liesR (w, h, l, wl) (beyondR w h st so) p) = false := c2
      have hst : stepF (w, h, l, wl) (beyondR w h st so) so p.toNat = none := by rw [stepF, pe, if_neg (by omega), if_neg (by simp [c2])]
      conv => whnf
      refine ⟨p + 1, ?_, ⟨by omega, by omega⟩, by omega⟩
      exact Eq.trans (b := S53 w h l wl st sp so (beyondR w h st so) ((List.range p.toNat).filterMap (stepF (w, h, l, wl) (beyondR w h st so) so)) (IntKind.i64.wrap (p + 1))) rfl (by rw [hwp, ep, fm_snoc, hst]; simp)
    have c1 : ¬ (0 ≤ otherRefR p (turnT so)) := @of_decide_eq_false _ _ c1
    have hst : stepF (w, h, l, wl) (beyondR w h st so) so p.toNat = none := by rw [stepF, pe, if_pos (by omega)]
    conv => whnf
    refine ⟨p + 1, ?_, ⟨by omega, by omega⟩, by omega⟩
    exact Eq.trans (b := S53 w h l wl st sp so (beyondR w h st so) ((List.range p.toNat).filterMap (stepF (w, h, l, wl) (beyondR w h st so) so)) (IntKind.i64.wrap (p + 1))) rfl (by rw [hwp, ep, fm_snoc, hst]; simp)
  have hlt : ¬ (p < 6) := @of_decide_eq_false _ _ hlt
  have ep : p.toNat = 6 := by omega
  conv => whnf
  show (List.range p.toNat).filterMap (stepF (w, h, l, wl) (beyondR w h st so) so) = followR (w, h, l, wl) (st, sp, so)
  rw [ep, followR, if_neg hb]
end
end Go.Proofs.Ytbndaabjlfdfcaa.Eng
set_option linter.unusedVariables false
set_option linter.unusedSimpArgs false
namespace Go.Proofs.Ytbndaabjlfdfcaa.Eng
open Go
set_option maxRecDepth 100000
noncomputable section
abbrev kT : Ty := .fld I (.one I)
def ksOf (l : List Sp) : List ((Int × Int) × Bool) := l.map fun s => ((s.1, s.2.1), true)
def sameK (k : Int × Int) (s : Sp) : Bool := decide (k.1 = s.1) && decide (k.2 = s.2.1)
theorem mget_ks (k : Int × Int) : ∀ (l : List Sp), mget kT .bool (ksOf l) k = if l.any (sameK k) = true then some true else none
  | [] => rfl
  | s :: r => by
    show (match (decide (k.1 = s.1) && decide (k.2 = s.2.1)) with | true => some true | false => mget kT .bool (ksOf r) k) = _
    rw [mget_ks k r, List.any_cons]
    cases hs : sameK k s with
    | true => unfold sameK at hs; rw [hs]; simp
    | false => unfold sameK at hs; rw [hs, Bool.false_or]
theorem ks_snoc (l : List Sp) (s : Sp) : ksOf (l ++ [s]) = ksOf l ++ [((s.1, s.2.1), true)] := by simp [ksOf]
def gapR (r : Rl) (q : List Sp) (i : Nat) : Bool := decide (0 < i) && !(hasR (nextR r (gSp q (i - 1))) (gSp q i))
def dupR (q : List Sp) (i : Nat) : Bool := (q.take i).any (sameK ((gSp q i).1, (gSp q i).2.1))
def wayR (r : Rl) (q : List Sp) : Int := if allR r q ≠ 0 then allR r q else if (List.range q.length).any (gapR r q) then 8 else if (List.range q.length).any (dupR q) then 3 else 0
theorem allR_valid {r : Rl} {q : List Sp} (h : allR r q = 0) : validR r = 0 := by
  unfold allR at h
  by_cases e : validR r = 0
  · exact e
  · rw [if_pos e] at h; exact h
theorem next_len (r : Rl) (s : Sp) : (nextR r s).length ≤ 6 := by
  unfold nextR
  split
  · simp
  · exact fm_len _ 6
theorem any_at {n i : Nat} {f : Nat → Bool} (hi : i < n) (h : f i = true) : (List.range n).any f = true := List.any_eq_true.2 ⟨i, List.mem_range.2 hi, h⟩
def S37a (w h : Int) (l : List Int) (wl : List Bool) (q : List Sp) (i : Int) : SL := ⟨[.undef, .sl spT q, .ptr 0 0 0, .undef, .undef, .undef, .mp 1] ++ List.replicate 12 .undef ++ [.int .i64 q.length, .int .i64 i] ++ List.replicate 37 .undef, [(0, .box [.int .i64 w, .int .i64 h, .sl I l, .sl .bool wl]), (1, .mp kT .bool [])], 2⟩
def S37b (q : List Sp) (es : List ((Int × Int) × Bool)) (i : Int) : SL := ⟨[.undef, .undef, .undef, .undef, .undef, .undef, .mp 0] ++ List.replicate 34 .undef ++ [.sl spT q, .int .i64 q.length, .int .i64 i] ++ List.replicate 14 .undef, [(0, .mp kT .bool es)], 1⟩
def E37 : Env := ⟨tab, [(56, K56), (54, K54), (57, K57)], fun n => match n with | 6 => some ([1, 2, 6, 19, 20], [], []) | 12 => some ([6, 41, 42, 43], [], []) | _ => none⟩
def K37 : Fn1 := ⟨.fld rlT (.one (.sl spT)), .one I, fun (a : Rl × List Sp) => [a.2.length ≤ 140737488351232], fun (a : Rl × List Sp) => wayR a.1 a.2⟩
theorem k37 : FnOk Go.Proofs.Try.prog 37 K37 := by
  refine fn_ok (E := E37) (TOk.of tab_told) (AllOk.cons k56 (.cons k54 (.cons k57 .nil))).at_ mix Go.Proofs.Try.func37 rfl rfl (by kernel_rfl) K37 ?_
  rintro ⟨⟨(w : Int), (h : Int), (l : List Int), (wl : List Bool)⟩, (q : List Sp)⟩ hp
  have hl : q.length ≤ 140737488351232 := hp _ (List.mem_cons_self ..)
  clear hp
  conv => whnf
  refine ⟨hl, ?_⟩
  conv => whnf
  refine cond_intro (fun ha => ?_) (fun ha => ?_)
  · have ha : (!decide (allR (w, h, l, wl) q = 0)) = true := ha
    have ha : ¬ (allR (w, h, l, wl) q = 0) := by simpa using ha
    conv => whnf
    show allR (w, h, l, wl) q = wayR (w, h, l, wl) q
    rw [wayR, if_pos ha]
  have ha : (!decide (allR (w, h, l, wl) q = 0)) = false := ha
  have ha : allR (w, h, l, wl) q = 0 := by simpa using ha
  have hv := allR_valid ha
  have v1 : wayR (w, h, l, wl) q = if (List.range q.length).any (gapR (w, h, l, wl) q) then 8 else if (List.range q.length).any (dupR q) then 3 else 0 := by rw [wayR, if_neg (by simp [ha])]
  conv => whnf
  refine loop_rule (fun i => S37a w h l wl q i) (fun i => ((q.length : Int) - i).toNat) (fun i => 0 ≤ i ∧ i ≤ q.length ∧ ∀ j, j < i.toNat → gapR (w, h, l, wl) q j = false) ?_ 0 (by kernel_rfl) ?_ ⟨by omega, by omega, fun j hj => by simp at hj⟩
  case refine_2 => rfl
  rintro i ⟨h0, h1, h2⟩
  conv => whnf
  refine cond_intro (fun hlt => ?_) (fun hlt => ?_)
  · have hlt : i < (q.length : Int) := @of_decide_eq_true _ _ hlt
    have hwi : IntKind.i64.wrap (i + 1) = i + 1 := wrap_eq (by omega) (by omega)
    conv => whnf
    refine cond_intro (fun c1 => ?_) (fun c1 => ?_)
    · have c1 : 0 < i := @of_decide_eq_true _ _ c1
      have hwm : IntKind.i64.wrap (i - 1) = i - 1 := wrap_eq (by omega) (by omega)
      have em : (IntKind.i64.wrap (i - 1)).toNat = i.toNat - 1 := by omega
      have hn := next_len (w, h, l, wl) (gSp q (IntKind.i64.wrap (i - 1)).toNat)
      conv => whnf
      refine ⟨show 0 ≤ IntKind.i64.wrap (i - 1) by omega, ?_⟩
      conv => whnf
      refine ⟨show IntKind.i64.wrap (i - 1) < (q.length : Int) by omega, ?_⟩
      conv => whnf
      refine ⟨hv, ?_⟩
      conv => whnf
      refine ⟨h0, ?_⟩
      conv => whnf
      refine ⟨show i < (q.length : Int) by omega, ?_⟩
      conv => whnf
      refine ⟨show (nextR (w, h, l, wl) (gSp q (IntKind.i64.wrap (i - 1)).toNat)).length ≤ 140737488351232 by omega, ?_⟩
      conv => whnf
      refine cond_intro (fun c2 => ?_) (fun c2 => ?_)
      · have c2 : (!(hasR (nextR (w, h, l, wl) (gSp q (IntKind.i64.wrap (i - 1)).toNat)) (gSp q i.toNat))) = true := c2
        have c2 : (hasR (nextR (w, h, l, wl) (gSp q (IntKind.i64.wrap (i - 1)).toNat)) (gSp q i.toNat)) = false := by simpa using c2
        have hg : gapR (w, h, l, wl) q i.toNat = true := by rw [em] at c2; simp [gapR, c2]; omega
        conv => whnf
        show (8 : Int) = wayR (w, h, l, wl) q
        rw [v1, if_pos (any_at (by omega) hg)]
      have c2 : (!(hasR (nextR (w, h, l, wl) (gSp q (IntKind.i64.wrap (i - 1)).toNat)) (gSp q i.toNat))) = false := c2
      have c2 : (hasR (nextR (w, h, l, wl) (gSp q (IntKind.i64.wrap (i - 1)).toNat)) (gSp q i.toNat)) = true := by simpa using c2
      have hg : gapR (w, h, l, wl) q i.toNat = false := by rw [em] at c2; simp [gapR, c2]
      conv => whnf
      refine ⟨i + 1, ?_, ⟨by omega, by omega, ?_⟩, by omega⟩
      · exact Eq.trans (b := S37a w h l wl q (IntKind.i64.wrap (i + 1))) rfl (by rw [hwi])
      · intro j hj
        by_cases e : j = i.toNat
        · subst e; exact hg
        · exact h2 j (by omega)
    have c1 : ¬ (0 < i) := @of_decide_eq_false _ _ c1
    have hi0 : i.toNat = 0 := by omega
    have hg : gapR (w, h, l, wl) q i.toNat = false := by rw [hi0]; rfl
    conv => whnf
    refine ⟨i + 1, ?_, ⟨by omega, by omega, ?_⟩, by omega⟩
    · exact Eq.trans (b := S37a w h l wl q (IntKind.i64.wrap (i + 1))) rfl (by rw [hwi])
    · intro j hj
      by_cases e : j = i.toNat
      · subst e; exact hg
      · exact h2 j (by omega)
  have hlt : ¬ (i < (q.length : Int)) := @of_decide_eq_false _ _ hlt
  have hgap : (List.range q.length).any (gapR (w, h, l, wl) q) = false := any_range.2 fun j hj => h2 j (by omega)
  rw [if_neg (by rw [hgap]; simp)] at v1
  conv => whnf
  refine loop_rule (fun i => S37b q (ksOf (q.take i.toNat)) i) (fun i => ((q.length : Int) - i).toNat) (fun i => 0 ≤ i ∧ i ≤ q.length ∧ ∀ j, j < i.toNat → dupR q j = false) ?_ 0 (by kernel_rfl) ?_ ⟨by omega, by omega, fun j hj => by simp at hj⟩
  case refine_2 => rfl
  rintro i ⟨h0, h1, h2⟩
  conv => whnf
  refine cond_intro (fun hlt => ?_) (fun hlt => ?_)
  · have hlt : i < (q.length : Int) := @of_decide_eq_true _ _ hlt
    have hwi : IntKind.i64.wrap (i + 1) = i + 1 := wrap_eq (by omega) (by omega)
    have en : (i + 1).toNat = i.toNat + 1 := by omega
    have e : gSp q i.toNat = q[i.toNat]'(by omega) := gSp_eq _
    have ht : q.take (i.toNat + 1) = q.take i.toNat ++ [gSp q i.toNat] := by rw [List.take_succ_eq_append_getElem (by omega), e]
    have hm := mget_ks ((gSp q i.toNat).1, (gSp q i.toNat).2.1) (q.take i.toNat)
    conv => whnf
    refine ⟨h0, ?_⟩
    conv => whnf
    refine ⟨hlt, ?_⟩
    conv => whnf
    refine cond_intro (fun c1 => ?_) (fun c1 => ?_)
    · have c1 : (optOr (mget kT .bool (ksOf (q.take i.toNat)) ((gSp q i.toNat).1, (gSp q i.toNat).2.1)) false) = true := c1
      have hd : dupR q i.toNat = true := by
        unfold dupR
        cases hd : (q.take i.toNat).any (sameK ((gSp q i.toNat).1, (gSp q i.toNat).2.1)) with
        | true => rfl
        | false => rw [hm, hd] at c1; simp [optOr] at c1
      conv => whnf
      show (3 : Int) = wayR (w, h, l, wl) q
      rw [v1, if_pos (any_at (by omega) hd)]
    have c1 : (optOr (mget kT .bool (ksOf (q.take i.toNat)) ((gSp q i.toNat).1, (gSp q i.toNat).2.1)) false) = false := c1
    have hd : dupR q i.toNat = false := by
      unfold dupR
      cases hd : (q.take i.toNat).any (sameK ((gSp q i.toNat).1, (gSp q i.toNat).2.1)) with
      | false => rfl
      | true => rw [hm, hd] at c1; simp [optOr] at c1
    conv => whnf
    refine ⟨show isOk (mget kT .bool (ksOf (q.take i.toNat)) ((gSp q i.toNat).1, (gSp q i.toNat).2.1)) = false by rw [hm, show (q.take i.toNat).any (sameK ((gSp q i.toNat).1, (gSp q i.toNat).2.1)) = false from hd]; rfl, ?_⟩
    conv => whnf
    refine ⟨i + 1, ?_, ⟨by omega, by omega, ?_⟩, by omega⟩
    · exact Eq.trans (b := S37b q (ksOf (q.take i.toNat) ++ [(((gSp q i.toNat).1, (gSp q i.toNat).2.1), true)]) (IntKind.i64.wrap (i + 1))) rfl (by rw [hwi, en, ht, ks_snoc])
    · intro j hj
      by_cases e : j = i.toNat
      · subst e; exact hd
      · exact h2 j (by omega)
  have hlt : ¬ (i < (q.length : Int)) := @of_decide_eq_false _ _ hlt
  conv => whnf
  show (0 : Int) = wayR (w, h, l, wl) q
  rw [v1, if_neg (by rw [show (List.range q.length).any (dupR q) = false from any_range.2 fun j hj => h2 j (by omega)]; simp)]
end
end Go.Proofs.Ytbndaabjlfdfcaa.Eng
set_option linter.unusedVariables false
set_option linter.unusedSimpArgs false
namespace Go.Proofs.Ytbndaabjlfdfcaa.Eng
open Go
set_option maxRecDepth 100000
noncomputable section
def gapF (r : Rl) (q : List Sp) (i : Nat) : Bool := decide (0 < i) && !((followR r (gSp q (i - 1))).any fun x => decide (x = gSp q i))
def wayRefR (r : Rl) (q : List Sp) : Int := if validR r ≠ 0 then validR r else if firstErr (errRefR r) q ≠ 0 then firstErr (errRefR r) q else if (List.range q.length).any (gapF r q) then 8 else if (List.range q.length).any (dupR q) then 3 else 0
theorem follow_len (r : Rl) (s : Sp) : (followR r s).length ≤ 6 := by
  unfold followR
  split
  · simp
  · exact fm_len _ 6
theorem firstErr_zero {f : Sp → Int} : ∀ {l : List Sp}, firstErr f l = 0 → ∀ x ∈ l, f x = 0
  | [], _, x, hx => by cases hx
  | y :: r, h, x, hx => by
    rw [firstErr] at h
    by_cases e : f y = 0
    · rw [if_neg (by simp [e])] at h
      rcases List.mem_cons.1 hx with rfl | hx
      · exact e
      · exact firstErr_zero h x hx
    · rw [if_pos e] at h
      exact absurd h e
theorem errRef_lies {r : Rl} {s : Sp} (h : errRefR r s = 0) : (0 ≤ s.1 ∧ s.1 < r.2.2.1.length) ∧ 0 ≤ s.2.1 ∧ s.2.1 < 6 ∧ bitR (gI r.2.2.1 s.1.toNat) s.2.1 = 1 := by
  unfold errRefR at h
  split at h
  · cases h
  · cases hl : liesR r s.1 s.2.1 with
    | false => rw [if_pos hl] at h; cases h
    | true =>
      simp only [liesR, Bool.and_eq_true, decide_eq_true_eq] at hl
      exact ⟨⟨hl.1.1.1.1, hl.1.1.1.2⟩, hl.1.1.2, hl.1.2, hl.2⟩
def numS (s : Sp) : Int := s.1 * 6 + s.2.1
theorem gB_set {m : List Bool} {a j : Nat} (ha : a < m.length) : gB (m.set a true) j = if j = a then true else gB m j := by
  unfold gB
  rw [List.getD_eq_getElem?_getD, List.getD_eq_getElem?_getD, List.getElem?_set]
  by_cases e : a = j
  · subst e; simp [ha]
  · rw [if_neg e, if_neg (fun h => e h.symm)]
theorem gB_rep {n j : Nat} : gB (List.replicate n false) j = false := by
  unfold gB
  rw [List.getD_eq_getElem?_getD, List.getElem?_replicate]
  split <;> rfl
theorem dup_num {q : List Sp} {i : Nat} (hi : i < q.length) (hp : ∀ x ∈ q, 0 ≤ x.2.1 ∧ x.2.1 < 6) : (q.take i).any (fun s => decide (numS s = numS (gSp q i))) = dupR q i := by
  unfold dupR
  rw [Bool.eq_iff_iff, List.any_eq_true, List.any_eq_true]
  have hx := hp (gSp q i) (by rw [gSp_eq hi]; exact List.getElem_mem _)
  constructor
  · rintro ⟨s, hs, e⟩
    have h1 := hp s (List.mem_of_mem_take hs)
    have e : numS s = numS (gSp q i) := by simpa using e
    unfold numS at e
    exact ⟨s, hs, by simp only [sameK, Bool.and_eq_true, decide_eq_true_eq]; omega⟩
  · rintro ⟨s, hs, e⟩
    simp only [sameK, Bool.and_eq_true, decide_eq_true_eq] at e
    exact ⟨s, hs, by unfold numS; simp only [decide_eq_true_eq]; omega⟩
def S36a (w h : Int) (l : List Int) (wl : List Bool) (q : List Sp) (i : Int) : SL := ⟨[.undef, .sl spT q, .ptr 0 0 0, .undef, .undef, .undef, .int .i64 i] ++ List.replicate 100 .undef, [(0, .box [.int .i64 w, .int .i64 h, .sl I l, .sl .bool wl])], 1⟩
def S36b (w h : Int) (l : List Int) (wl : List Bool) (q : List Sp) (i : Int) : SL := ⟨[.undef, .sl spT q, .ptr 0 0 0, .undef, .undef, .undef, .undef, .undef, .int .i64 i] ++ List.replicate 98 .undef, [(0, .box [.int .i64 w, .int .i64 h, .sl I l, .sl .bool wl])], 1⟩
def S36c (w h : Int) (l : List Int) (wl : List Bool) (q : List Sp) (i : Int) (b : Bool) (nx : List Sp) (k : Int) : SL := ⟨[.undef, .sl spT q, .ptr 0 0 0, .undef, .undef, .undef, .undef, .undef, .int .i64 i, .bool b, .own 1, .int .i64 k] ++ List.replicate 95 .undef, [(0, .box [.int .i64 w, .int .i64 h, .sl I l, .sl .bool wl]), (1, .arr spT nx)], 2⟩
def S36d (q : List Sp) (m : List Bool) (i : Int) : SL := ⟨[.undef, .sl spT q] ++ List.replicate 10 .undef ++ [.own 0, .int .i64 i] ++ List.replicate 93 .undef, [(0, .arr .bool m)], 1⟩
theorem gap0 {r : Rl} {q : List Sp} {j : Nat} (h : j = 0) : gapF r q j = false := by subst h; rfl
def E36 : Env := ⟨tab, [(18, K18), (55, K55), (53, K53)], fun n => match n with | 5 => some ([1, 2, 6], [], []) | 11 => some ([1, 2, 8], [], []) | 16 => some ([1, 2, 8, 9, 10, 11], [], []) | 23 => some ([1, 12, 13], [], []) | _ => none⟩
def K36 : Fn1 := ⟨.fld rlT (.one (.sl spT)), .one I, fun (a : Rl × List Sp) => [a.2.length ≤ 140737488351232], fun (a : Rl × List Sp) => wayRefR a.1 a.2⟩
theorem k36 : FnOk Go.Proofs.Try.prog 36 K36 := by
  refine fn_ok (E := E36) (TOk.of tab_told) (AllOk.cons k18 (.cons k55 (.cons k53 .nil))).at_ mix Go.Proofs.Try.func36 rfl rfl (by kernel_rfl) K36 ?_
  rintro ⟨⟨(w : Int), (h : Int), (l : List Int), (wl : List Bool)⟩, (q : List Sp)⟩ hp
  have hl : q.length ≤ 140737488351232 := hp _ (List.mem_cons_self ..)
  clear hp
  conv => whnf
  refine cond_intro (fun hv => ?_) (fun hv => ?_)
  · have hv : (!decide (validR (w, h, l, wl) = 0)) = true := hv
    have hv : ¬ (validR (w, h, l, wl) = 0) := by simpa using hv
    conv => whnf
    show validR (w, h, l, wl) = wayRefR (w, h, l, wl) q
    rw [wayRefR, if_pos hv]
  have hv : (!decide (validR (w, h, l, wl) = 0)) = false := hv
  have hv : validR (w, h, l, wl) = 0 := by simpa using hv
  have v1 : wayRefR (w, h, l, wl) q = if firstErr (errRefR (w, h, l, wl)) q ≠ 0 then firstErr (errRefR (w, h, l, wl)) q else if (List.range q.length).any (gapF (w, h, l, wl) q) then 8 else if (List.range q.length).any (dupR q) then 3 else 0 := by rw [wayRefR, if_neg (by simp [hv])]
  obtain ⟨⟨hw, hh⟩, e1, _, _, e3⟩ := valid_len hv
  simp only at e1 e3
  conv => whnf
  refine loop_rule (fun i => S36a w h l wl q i) (fun i => ((q.length : Int) - i).toNat) (fun i => 0 ≤ i ∧ i ≤ q.length ∧ ∀ j, j < i.toNat → (hk : j < q.length) → errRefR (w, h, l, wl) q[j] = 0) ?_ 0 (by kernel_rfl) ?_ ⟨by omega, by omega, fun j hj => by simp at hj⟩
  case refine_2 => rfl
  rintro i ⟨h0, h1, h2⟩
  conv => whnf
  refine cond_intro (fun hlt => ?_) (fun hlt => ?_)
  · have hlt : i < (q.length : Int) := @of_decide_eq_true _ _ hlt
    have hwi : IntKind.i64.wrap (i + 1) = i + 1 := wrap_eq (by omega) (by omega)
    have e : gSp q i.toNat = q[i.toNat]'(by omega) := gSp_eq _
    conv => whnf
    refine ⟨h0, ?_⟩
    conv => whnf
    refine ⟨hlt, ?_⟩
    conv => whnf
    refine cond_intro (fun he => ?_) (fun he => ?_)
    · have he : (!decide (errRefR (w, h, l, wl) (gSp q i.toNat) = 0)) = true := he
      have he : ¬ (errRefR (w, h, l, wl) (gSp q i.toNat) = 0) := by simpa using he
      have hf : firstErr (errRefR (w, h, l, wl)) q = errRefR (w, h, l, wl) (gSp q i.toNat) := by rw [firstErr_at h2, List.drop_eq_getElem_cons (by omega), firstErr, ← e, if_pos he]
      conv => whnf
      show errRefR (w, h, l, wl) (gSp q i.toNat) = wayRefR (w, h, l, wl) q
      rw [v1, hf, if_pos he]
    have he : (!decide (errRefR (w, h, l, wl) (gSp q i.toNat) = 0)) = false := he
    have he : errRefR (w, h, l, wl) (gSp q i.toNat) = 0 := by simpa using he
    conv => whnf
    refine ⟨i + 1, ?_, ⟨by omega, by omega, ?_⟩, by omega⟩
    · exact Eq.trans (b := S36a w h l wl q (IntKind.i64.wrap (i + 1))) rfl (by rw [hwi])
    · intro j hj hk
      by_cases ej : j = i.toNat
      · subst ej; rw [← e]; exact he
      · exact h2 j (by omega) hk
  have hlt : ¬ (i < (q.length : Int)) := @of_decide_eq_false _ _ hlt
  have hf : firstErr (errRefR (w, h, l, wl)) q = 0 := by rw [firstErr_at h2, List.drop_of_length_le (by omega), firstErr]
  have hz := firstErr_zero hf
  have hpc : ∀ x ∈ q, 0 ≤ x.2.1 ∧ x.2.1 < 6 := fun x hx => by have := errRef_lies (hz x hx); exact ⟨this.2.1, this.2.2.1⟩
  have v2 : wayRefR (w, h, l, wl) q = if (List.range q.length).any (gapF (w, h, l, wl) q) then 8 else if (List.range q.length).any (dupR q) then 3 else 0 := by rw [v1, if_neg (by simp [hf])]
  conv => whnf
  refine loop_rule (fun i => S36b w h l wl q i) (fun i => ((q.length : Int) - i).toNat) (fun i => 1 ≤ i ∧ (i ≤ q.length ∨ i = 1) ∧ ∀ j, j < i.toNat → gapF (w, h, l, wl) q j = false) ?_ 1 (by kernel_rfl) ?_ ⟨by omega, by omega, fun j hj => gap0 (by simp at hj; omega)⟩
  case refine_2 => rfl
  rintro i ⟨h0, h1, h2⟩
  conv => whnf
  refine cond_intro (fun hlt => ?_) (fun hlt => ?_)
  · have hlt : i < (q.length : Int) := @of_decide_eq_true _ _ hlt
    have hwi : IntKind.i64.wrap (i + 1) = i + 1 := wrap_eq (by omega) (by omega)
    have hwm : IntKind.i64.wrap (i - 1) = i - 1 := wrap_eq (by omega) (by omega)
    have em : (IntKind.i64.wrap (i - 1)).toNat = i.toNat - 1 := by omega
    have hn := follow_len (w, h, l, wl) (gSp q (IntKind.i64.wrap (i - 1)).toNat)
    conv => whnf
    refine ⟨show 0 ≤ IntKind.i64.wrap (i - 1) by omega, ?_⟩
    conv => whnf
    refine ⟨show IntKind.i64.wrap (i - 1) < (q.length : Int) by omega, ?_⟩
    conv => whnf
    refine ⟨hv, ?_⟩
    conv => whnf
    refine loop_rule (fun k => S36c w h l wl q i (((followR (w, h, l, wl) (gSp q (IntKind.i64.wrap (i - 1)).toNat)).take k.toNat).any (fun x => decide (x = gSp q i.toNat))) (followR (w, h, l, wl) (gSp q (IntKind.i64.wrap (i - 1)).toNat)) k) (fun k => (((followR (w, h, l, wl) (gSp q (IntKind.i64.wrap (i - 1)).toNat)).length : Int) - k).toNat) (fun k => 0 ≤ k ∧ k ≤ (followR (w, h, l, wl) (gSp q (IntKind.i64.wrap (i - 1)).toNat)).length) ?_ 0 (by kernel_rfl) ?_ ⟨by omega, by omega⟩
    case refine_2 => rfl
    rintro k ⟨k0, k1⟩
    conv => whnf
    refine cond_intro (fun hkl => ?_) (fun hkl => ?_)
    · have hkl : k < ((followR (w, h, l, wl) (gSp q (IntKind.i64.wrap (i - 1)).toNat)).length : Int) := @of_decide_eq_true _ _ hkl
      have hwk : IntKind.i64.wrap (k + 1) = k + 1 := wrap_eq (by omega) (by omega)
      have ek : (k + 1).toNat = k.toNat + 1 := by omega
      have e2 : gSp (followR (w, h, l, wl) (gSp q (IntKind.i64.wrap (i - 1)).toNat)) k.toNat = (followR (w, h, l, wl) (gSp q (IntKind.i64.wrap (i - 1)).toNat))[k.toNat]'(by omega) := gSp_eq _
      have hs : ((followR (w, h, l, wl) (gSp q (IntKind.i64.wrap (i - 1)).toNat)).take (k.toNat + 1)).any (fun x => decide (x = gSp q i.toNat)) = (((followR (w, h, l, wl) (gSp q (IntKind.i64.wrap (i - 1)).toNat)).take k.toNat).any (fun x => decide (x = gSp q i.toNat)) || decide ((gSp (followR (w, h, l, wl) (gSp q (IntKind.i64.wrap (i - 1)).toNat)) k.toNat) = (gSp q i.toNat))) := by rw [List.take_succ_eq_append_getElem (by omega), List.any_append, e2]; simp
      conv => whnf
      refine cond_intro (fun c1 => ?_) (fun c1 => ?_)
      · have c1 : (((followR (w, h, l, wl) (gSp q (IntKind.i64.wrap (i - 1)).toNat)).take k.toNat).any (fun x => decide (x = gSp q i.toNat))) = true := c1
        conv => whnf
        refine ⟨k + 1, ?_, ⟨by omega, by omega⟩, by omega⟩
        exact Eq.trans (b := S36c w h l wl q i true (followR (w, h, l, wl) (gSp q (IntKind.i64.wrap (i - 1)).toNat)) (IntKind.i64.wrap (k + 1))) rfl (by rw [hwk, ek, hs, c1]; rfl)
      have c1 : (((followR (w, h, l, wl) (gSp q (IntKind.i64.wrap (i - 1)).toNat)).take k.toNat).any (fun x => decide (x = gSp q i.toNat))) = false := c1
      conv => whnf
      refine ⟨k0, ?_⟩
      conv => whnf
      refine ⟨show k < ((followR (w, h, l, wl) (gSp q (IntKind.i64.wrap (i - 1)).toNat)).length : Int) by omega, ?_⟩
      conv => whnf
      refine ⟨show 0 ≤ i by omega, ?_⟩
      conv => whnf
      refine ⟨show i < (q.length : Int) by omega, ?_⟩
      conv => whnf
      refine ⟨k + 1, ?_, ⟨by omega, by omega⟩, by omega⟩
      exact Eq.trans (b := S36c w h l wl q i (decide ((gSp (followR (w, h, l, wl) (gSp q (IntKind.i64.wrap (i - 1)).toNat)) k.toNat).1 = (gSp q i.toNat).1) && (decide ((gSp (followR (w, h, l, wl) (gSp q (IntKind.i64.wrap (i - 1)).toNat)) k.toNat).2.1 = (gSp q i.toNat).2.1) && (decide ((gSp (followR (w, h, l, wl) (gSp q (IntKind.i64.wrap (i - 1)).toNat)) k.toNat).2.2 = (gSp q i.toNat).2.2) && true))) (followR (w, h, l, wl) (gSp q (IntKind.i64.wrap (i - 1)).toNat)) (IntKind.i64.wrap (k + 1))) rfl (by rw [hwk, ek, hs, c1, sp_eq, Bool.false_or])
    have hkl : ¬ (k < ((followR (w, h, l, wl) (gSp q (IntKind.i64.wrap (i - 1)).toNat)).length : Int)) := @of_decide_eq_false _ _ hkl
    rw [List.take_of_length_le (by omega)]
    conv => whnf
    refine cond_intro (fun c2 => ?_) (fun c2 => ?_)
    · have c2 : (!((followR (w, h, l, wl) (gSp q (IntKind.i64.wrap (i - 1)).toNat)).any (fun x => decide (x = gSp q i.toNat)))) = true := c2
      have c2 : ((followR (w, h, l, wl) (gSp q (IntKind.i64.wrap (i - 1)).toNat)).any (fun x => decide (x = gSp q i.toNat))) = false := by simpa using c2
      have hg : gapF (w, h, l, wl) q i.toNat = true := by rw [em] at c2; simp only [gapF, c2]; simp; omega
      conv => whnf
      show (8 : Int) = wayRefR (w, h, l, wl) q
      rw [v2, if_pos (any_at (by omega) hg)]
    have c2 : (!((followR (w, h, l, wl) (gSp q (IntKind.i64.wrap (i - 1)).toNat)).any (fun x => decide (x = gSp q i.toNat)))) = false := c2
    have c2 : ((followR (w, h, l, wl) (gSp q (IntKind.i64.wrap (i - 1)).toNat)).any (fun x => decide (x = gSp q i.toNat))) = true := by simpa using c2
    have hg : gapF (w, h, l, wl) q i.toNat = false := by rw [em] at c2; simp only [gapF, c2]; simp
    conv => whnf
    refine ⟨i + 1, ?_, ⟨by omega, by omega, ?_⟩, by omega⟩
    · exact Eq.trans (b := S36b w h l wl q (IntKind.i64.wrap (i + 1))) rfl (by rw [hwi])
    · intro j hj
      by_cases e : j = i.toNat
      · subst e; exact hg
      · exact h2 j (by omega)
  have hlt : ¬ (i < (q.length : Int)) := @of_decide_eq_false _ _ hlt
  have hgap : (List.range q.length).any (gapF (w, h, l, wl) q) = false := any_range.2 fun j hj => h2 j (by omega)
  rw [if_neg (by rw [hgap]; simp)] at v2
  have hw6 : IntKind.i64.wrap ((l.length : Int) * 6) = (l.length : Int) * 6 := wrap_eq (by omega) (by omega)
  conv => whnf
  refine ⟨show 0 ≤ IntKind.i64.wrap ((l.length : Int) * 6) by omega, ?_⟩
  conv => whnf
  refine ⟨show IntKind.i64.wrap ((l.length : Int) * 6) ≤ IntKind.i64.wrap ((l.length : Int) * 6) by omega, ?_⟩
  conv => whnf
  refine ⟨show IntKind.i64.wrap ((l.length : Int) * 6) * 1 ≤ 70368744177664 by omega, ?_⟩
  conv => whnf
  refine ⟨show IntKind.i64.wrap ((l.length : Int) * 6) ≤ 70368744177664 by omega, ?_⟩
  conv => whnf
  refine loop_rule (fun (x : Int × List Bool) => S36d q x.2 x.1) (fun x => ((q.length : Int) - x.1).toNat) (fun x => 0 ≤ x.1 ∧ x.1 ≤ q.length ∧ x.2.length = l.length * 6 ∧ (∀ j : Nat, j < x.2.length → gB x.2 j = (q.take x.1.toNat).any (fun s => decide (numS s = (j : Int)))) ∧ ∀ j, j < x.1.toNat → dupR q j = false) ?_ (0, List.replicate (IntKind.i64.wrap ((l.length : Int) * 6)).toNat false) (by kernel_rfl) ?_ ⟨by show (0 : Int) ≤ 0; omega, by show (0 : Int) ≤ q.length; omega, by simp only [List.length_replicate]; omega, fun j _ => by simp only; rw [gB_rep]; rfl, fun j hj => by simp at hj⟩
  case refine_2 => rfl
  rintro ⟨i, m⟩ ⟨h0, h1, h3, h4, h5⟩
  simp only at h0 h1 h3 h4 h5
  conv => whnf
  refine cond_intro (fun hlt => ?_) (fun hlt => ?_)
  · have hlt : i < (q.length : Int) := @of_decide_eq_true _ _ hlt
    have hwi : IntKind.i64.wrap (i + 1) = i + 1 := wrap_eq (by omega) (by omega)
    have en : (i + 1).toNat = i.toNat + 1 := by omega
    have hN : i.toNat < q.length := by omega
    have e : gSp q i.toNat = q[i.toNat]'hN := gSp_eq _
    have hb := errRef_lies (r := (w, h, l, wl)) (s := gSp q i.toNat) (hz _ (by rw [e]; exact List.getElem_mem _))
    simp only at hb
    obtain ⟨⟨b1, b2⟩, b3, b4, _⟩ := hb
    have hix : (IntKind.i64.wrap (IntKind.i64.wrap ((gSp q i.toNat).1 * 6) + (gSp q i.toNat).2.1)) = (gSp q i.toNat).1 * 6 + (gSp q i.toNat).2.1 := by rw [wrap_eq (i := (gSp q i.toNat).1 * 6) (by omega) (by omega)]; exact wrap_eq (by omega) (by omega)
    have hin : (IntKind.i64.wrap (IntKind.i64.wrap ((gSp q i.toNat).1 * 6) + (gSp q i.toNat).2.1)).toNat < m.length := by omega
    have hd := dup_num hN hpc
    have h4' := h4 (IntKind.i64.wrap (IntKind.i64.wrap ((gSp q i.toNat).1 * 6) + (gSp q i.toNat).2.1)).toNat hin
    have ecast : (((IntKind.i64.wrap (IntKind.i64.wrap ((gSp q i.toNat).1 * 6) + (gSp q i.toNat).2.1)).toNat : Nat) : Int) = numS (gSp q i.toNat) := by unfold numS; omega
    rw [ecast, hd] at h4'
    conv => whnf
    refine ⟨h0, ?_⟩
    conv => whnf
    refine ⟨hlt, ?_⟩
    conv => whnf
    refine ⟨h0, ?_⟩
    conv => whnf
    refine ⟨hlt, ?_⟩
    conv => whnf
    refine ⟨show 0 ≤ (IntKind.i64.wrap (IntKind.i64.wrap ((gSp q i.toNat).1 * 6) + (gSp q i.toNat).2.1)) by omega, ?_⟩
    conv => whnf
    refine ⟨show (IntKind.i64.wrap (IntKind.i64.wrap ((gSp q i.toNat).1 * 6) + (gSp q i.toNat).2.1)) < (m.length : Int) by omega, ?_⟩
    conv => whnf
    refine cond_intro (fun c1 => ?_) (fun c1 => ?_)
    · have c1 : (gB m (IntKind.i64.wrap (IntKind.i64.wrap ((gSp q i.toNat).1 * 6) + (gSp q i.toNat).2.1)).toNat) = true := c1
      rw [h4'] at c1
      conv => whnf
      show (3 : Int) = wayRefR (w, h, l, wl) q
      rw [v2, if_pos (any_at (by omega) c1)]
    have c1 : (gB m (IntKind.i64.wrap (IntKind.i64.wrap ((gSp q i.toNat).1 * 6) + (gSp q i.toNat).2.1)).toNat) = false := c1
    rw [h4'] at c1
    conv => whnf
    refine ⟨h0, ?_⟩
    conv => whnf
    refine ⟨hlt, ?_⟩
    conv => whnf
    refine ⟨h0, ?_⟩
    conv => whnf
    refine ⟨hlt, ?_⟩
    conv => whnf
    refine ⟨show 0 ≤ (IntKind.i64.wrap (IntKind.i64.wrap ((gSp q i.toNat).1 * 6) + (gSp q i.toNat).2.1)) by omega, ?_⟩
    conv => whnf
    refine ⟨show (IntKind.i64.wrap (IntKind.i64.wrap ((gSp q i.toNat).1 * 6) + (gSp q i.toNat).2.1)) < (m.length : Int) by omega, ?_⟩
    conv => whnf
    refine ⟨(i + 1, m.set (IntKind.i64.wrap (IntKind.i64.wrap ((gSp q i.toNat).1 * 6) + (gSp q i.toNat).2.1)).toNat true), ?_, ⟨?_, ?_, ?_, ?_, ?_⟩, ?_⟩
    · exact Eq.trans (b := S36d q (m.set (IntKind.i64.wrap (IntKind.i64.wrap ((gSp q i.toNat).1 * 6) + (gSp q i.toNat).2.1)).toNat true) (IntKind.i64.wrap (i + 1))) rfl (by rw [hwi])
    · show 0 ≤ i + 1
      omega
    · show i + 1 ≤ q.length
      omega
    · show (m.set _ true).length = _
      rw [List.length_set]; exact h3
    · intro j hj
      have hj : j < m.length := by have hj' : j < (m.set (IntKind.i64.wrap (IntKind.i64.wrap ((gSp q i.toNat).1 * 6) + (gSp q i.toNat).2.1)).toNat true).length := hj; rwa [List.length_set] at hj'
      show gB (m.set (IntKind.i64.wrap (IntKind.i64.wrap ((gSp q i.toNat).1 * 6) + (gSp q i.toNat).2.1)).toNat true) j = (q.take (i + 1).toNat).any _
      rw [gB_set hin, en, List.take_succ_eq_append_getElem hN, List.any_append, ← h4 j hj, ← e]
      by_cases ej : j = (IntKind.i64.wrap (IntKind.i64.wrap ((gSp q i.toNat).1 * 6) + (gSp q i.toNat).2.1)).toNat
      · rw [if_pos ej]; simp only [List.any_cons, List.any_nil, Bool.or_false]; rw [show decide (numS (gSp q i.toNat) = (j : Int)) = true by rw [ej, ecast]; simp, Bool.or_true]
      · rw [if_neg ej]; simp only [List.any_cons, List.any_nil, Bool.or_false]; rw [show decide (numS (gSp q i.toNat) = (j : Int)) = false by rw [← ecast]; simp; omega, Bool.or_false]
    · intro j hj
      have hj : j < (i + 1).toNat := hj
      by_cases ej : j = i.toNat
      · subst ej; exact c1
      · exact h5 j (by omega)
    · show ((q.length : Int) - (i + 1)).toNat < ((q.length : Int) - i).toNat
      omega
  have hlt : ¬ (i < (q.length : Int)) := @of_decide_eq_false _ _ hlt
  conv => whnf
  show (0 : Int) = wayRefR (w, h, l, wl) q
  rw [v2, if_neg (by rw [show (List.range q.length).any (dupR q) = false from any_range.2 fun j hj => h5 j (by omega)]; simp)]
end
end Go.Proofs.Ytbndaabjlfdfcaa.Eng
set_option linter.unusedVariables false
set_option linter.unusedSimpArgs false
namespace Go.Proofs.Ytbndaabjlfdfcaa.Eng
open Go
set_option maxRecDepth 100000
noncomputable section
theorem other_rel (p s : Int) : otherRefR p s = (if (otherR p s).2 = true then (otherR p s).1 else -1) ∧ ((otherR p s).2 = true → 0 ≤ (otherR p s).1) := by
  have hc : p = 0 ∨ p = 1 ∨ p = 2 ∨ p = 3 ∨ p = 4 ∨ p = 5 ∨ (p < 0 ∨ 5 < p) := by omega
  have key : ∀ a b : Int, endsR p = (a, b, 0) → firstR p = a → secondR p = b → 0 ≤ a → 0 ≤ b → a ≠ b → otherRefR p s = (if (otherR p s).2 = true then (otherR p s).1 else -1) ∧ ((otherR p s).2 = true → 0 ≤ (otherR p s).1) := by
    intro a b h1 h2 h3 h4 h5 h6
    unfold otherRefR otherR
    rw [h1, h2, h3]
    simp only [ne_eq, not_true_eq_false, if_false]
    by_cases c0 : s < 0
    · rw [if_pos c0, if_neg (show ¬ s = a by omega), if_neg (show ¬ s = b by omega)]; simp
    rw [if_neg c0]
    by_cases c1 : s = a
    · rw [if_pos c1.symm, if_pos c1]; simp [h5]
    rw [if_neg (fun e => c1 e.symm), if_neg c1]
    by_cases c2 : s = b
    · rw [if_pos c2.symm, if_pos c2]; simp [h4]
    rw [if_neg (fun e => c2 e.symm), if_neg c2]
    simp
  rcases hc with rfl | rfl | rfl | rfl | rfl | rfl | hc
  · exact key 0 2 rfl rfl rfl (by omega) (by omega) (by omega)
  · exact key 1 3 rfl rfl rfl (by omega) (by omega) (by omega)
  · exact key 0 1 rfl rfl rfl (by omega) (by omega) (by omega)
  · exact key 1 2 rfl rfl rfl (by omega) (by omega) (by omega)
  · exact key 2 3 rfl rfl rfl (by omega) (by omega) (by omega)
  · exact key 3 0 rfl rfl rfl (by omega) (by omega) (by omega)
  · have h1 : endsR p = (0, 0, 1) := by unfold endsR; rw [if_neg (by omega), if_neg (by omega), if_neg (by omega), if_neg (by omega), if_neg (by omega), if_neg (by omega)]
    have h2 : firstR p = -1 := by unfold firstR; rw [if_neg (by omega), if_neg (by omega), if_neg (by omega), if_neg (by omega), if_neg (by omega), if_neg (by omega)]
    have h3 : secondR p = -1 := by unfold secondR; rw [if_neg (by omega), if_neg (by omega), if_neg (by omega), if_neg (by omega), if_neg (by omega), if_neg (by omega)]
    unfold otherRefR otherR
    rw [h1, h2, h3, if_pos (show (1 : Int) ≠ 0 by omega)]
    refine ⟨?_, by simp⟩
    by_cases c0 : s < 0
    · rw [if_pos c0]; simp
    · rw [if_neg c0, if_neg (by omega), if_neg (by omega)]; simp
theorem bit01 (a p : Int) : bitR a p = 0 ∨ bitR a p = 1 := by
  unfold bitR
  have e : BitVec.ofInt IntKind.i64.bits 1 = 1#64 := rfl
  have h : (BitVec.ofInt IntKind.i64.bits (a.fdiv (2 ^ (min p.toNat IntKind.i64.bits))) &&& BitVec.ofInt IntKind.i64.bits 1).toNat ≤ 1 := by
    rw [BitVec.toNat_and, e]
    show _ &&& 1 ≤ 1
    rw [Nat.and_one_is_mod]
    omega
  generalize (BitVec.ofInt IntKind.i64.bits (a.fdiv (2 ^ (min p.toNat IntKind.i64.bits))) &&& BitVec.ofInt IntKind.i64.bits 1).toNat = x at h
  have : x = 0 ∨ x = 1 := by omega
  rcases this with rfl | rfl
  · exact Or.inl rfl
  · exact Or.inr rfl
theorem there_err {r : Rl} (hv : validR r = 0) (s : Sp) : thereR r s = errRefR r s := by
  obtain ⟨_, e1, _, e2, _⟩ := valid_len hv
  obtain ⟨o1, o2⟩ := other_rel s.2.1 s.2.2
  unfold thereR errRefR
  by_cases ho : (otherR s.2.1 s.2.2).2 = true
  · have hb0 : (backR s).2 = 0 := by unfold backR; rw [if_neg (by simp [ho])]
    have hp := other_ok ho
    have h0 := o2 ho
    rw [if_pos ho] at o1
    rw [if_neg (show ¬ ((backR s).2 ≠ 0) by simp [hb0]), o1, if_neg (show ¬ (otherR s.2.1 s.2.2).1 < 0 by omega)]
    have hb := bit01 (gI r.2.2.1 s.1.toNat) s.2.1
    unfold tileR liesR
    rw [e2, ← e1]
    by_cases c1 : 0 ≤ s.1 ∧ s.1 < (r.2.2.1.length : Int)
    · rw [if_neg (by simp [c1.1, c1.2])]
      rcases hb with hb | hb
      · rw [if_pos hb, if_pos (by simp [hb])]
      · rw [if_neg (by omega), if_neg (by simp [hb, c1.1, c1.2, hp.1, show s.2.1 < 6 by omega])]
    · have hf : (decide (0 ≤ s.1) && decide (s.1 < (r.2.2.1.length : Int))) = false := by
        rw [Bool.and_eq_false_iff, decide_eq_false_iff_not, decide_eq_false_iff_not]; omega
      rw [if_pos hf, if_pos (by rw [hf]; simp)]
  · have hb0 : (backR s).2 = 1 := by unfold backR; rw [if_pos (by simpa using ho)]
    rw [if_neg ho] at o1
    rw [o1, hb0, if_pos (show (1 : Int) ≠ 0 by omega), if_pos (show (-1 : Int) < 0 by omega)]
theorem fm_congr {f g : Nat → Option Sp} : ∀ {l : List Nat}, (∀ p ∈ l, f p = g p) → l.filterMap f = l.filterMap g
  | [], _ => rfl
  | x :: r, h => by
    rw [List.filterMap_cons, List.filterMap_cons, h x (by simp), fm_congr fun p hp => h p (by simp [hp])]
theorem follow_next {r : Rl} (hv : validR r = 0) (s : Sp) : followR r s = nextR r s := by
  unfold followR nextR beyondR
  cases hb : (besideR r.1 r.2.1 s.1 s.2.2).2 with
  | false => simp
  | true =>
    obtain ⟨n0, n1⟩ := beside_in hv hb
    rw [if_pos rfl, if_neg (by omega), if_neg (by simp)]
    generalize (besideR r.1 r.2.1 s.1 s.2.2).1 = n at *
    refine fm_congr fun p hp => ?_
    have hp : p < 6 := List.mem_range.1 hp
    obtain ⟨o1, o2⟩ := other_rel p (turnT s.2.2)
    have hbit := bit01 (gI r.2.2.1 n.toNat) p
    unfold stepF stepP
    rw [o1]
    have hl : liesR r n p = decide (bitR (gI r.2.2.1 n.toNat) p = 1) := by
      unfold liesR
      simp [n0, n1, show (p : Int) < 6 by omega]
    rw [hl]
    cases ho : (otherR p (turnT s.2.2)).2 with
    | false => simp
    | true =>
      have h0 := o2 ho
      rw [if_pos rfl, if_neg (by omega)]
      rcases hbit with hb | hb
      · simp [hb]
      · simp [hb]
theorem has_any (l : List Sp) (v : Sp) : hasR l v = l.any (fun x => decide (x = v)) := by
  unfold hasR idxR
  by_cases c : l.findIdx (fun q => decide (v = q)) < l.length
  · rw [if_pos c]
    have h1 := List.findIdx_getElem (w := c)
    have h2 : v = l[List.findIdx (fun q => decide (v = q)) l] := by simpa using h1
    have : l.any (fun x => decide (x = v)) = true := List.any_eq_true.2 ⟨_, List.getElem_mem c, by simpa using h2.symm⟩
    rw [this]
    simp
  · rw [if_neg c]
    have : l.any (fun x => decide (x = v)) = false := by
      cases h : l.any (fun x => decide (x = v)) with
      | false => rfl
      | true =>
        obtain ⟨x, hx, e⟩ := List.any_eq_true.1 h
        have e : x = v := by simpa using e
        exact absurd (List.findIdx_lt_length_of_exists ⟨x, hx, by simpa using e.symm⟩) c
    rw [this]
    simp
theorem firstErr_congr {f g : Sp → Int} (h : ∀ s, f s = g s) (l : List Sp) : firstErr f l = firstErr g l := by
  have : f = g := funext h
  rw [this]
theorem ways_same (r : Rl) (q : List Sp) : wayRefR r q = wayR r q := by
  unfold wayRefR wayR allR
  by_cases hv : ¬ validR r = 0
  · rw [if_pos hv, if_pos (by rw [if_pos hv]; exact hv), if_pos hv]
  have hv : validR r = 0 := Classical.not_not.1 hv
  rw [if_neg (show ¬ (validR r ≠ 0) by simp [hv]), if_neg (show ¬ (validR r ≠ 0) by simp [hv])]
  rw [firstErr_congr (fun s => there_err hv s) q]
  have hg : gapF r q = gapR r q := by
    funext i
    unfold gapF gapR
    rw [follow_next hv, has_any]
  rw [hg]
end
end Go.Proofs.Ytbndaabjlfdfcaa.Eng
set_option linter.unusedVariables false
set_option linter.unusedSimpArgs false
namespace Go.Proofs.Ytbndaabjlfdfcaa.Eng
open Go
set_option maxRecDepth 100000
noncomputable section
def K12 : Fn1 := ⟨.fld rlT (.one (.sl spT)), .one .bool, fun _ => [], fun _ => true⟩
theorem k12 : FnOk Go.Proofs.Try.prog 12 K12 := by
  refine fn_ok (E := (⟨tab, [(16, K16), (17, K17), (36, K36), (37, K37)], ann0⟩ : Env)) (TOk.of tab_told) (AllOk.cons k16 (.cons k17 (.cons k36 (.cons k37 .nil)))).at_ mix Go.Proofs.Try.func12 rfl rfl (by kernel_rfl) K12 ?_
  rintro ⟨⟨(w : Int), (h : Int), (l : List Int), (wl : List Bool)⟩, (q : List Sp)⟩ hp
  clear hp
  conv => whnf
  refine cond_intro (fun h1 => ?_) (fun h1 => ?_)
  · have h1 : (farR (w, h, l, wl)) = true := h1
    conv => whnf
    rfl
  have h1 : (farR (w, h, l, wl)) = false := h1
  conv => whnf
  refine cond_intro (fun h2 => ?_) (fun h2 => ?_)
  · have h2 : 3000 < (q.length : Int) := @of_decide_eq_true _ _ h2
    conv => whnf
    rfl
  have h2 : ¬ (3000 < (q.length : Int)) := @of_decide_eq_false _ _ h2
  have hq : q.length ≤ 140737488351232 := by omega
  conv => whnf
  refine ⟨hq, ?_⟩
  conv => whnf
  refine ⟨hq, ?_⟩
  conv => whnf
  refine cond_intro (fun h3 => ?_) (fun h3 => ?_)
  · have h3 : wayRefR (w, h, l, wl) q = wayR (w, h, l, wl) q := @of_decide_eq_true _ _ h3
    conv => whnf
    rfl
  have h3 : ¬ (wayRefR (w, h, l, wl) q = wayR (w, h, l, wl) q) := @of_decide_eq_false _ _ h3
  exact absurd (ways_same (w, h, l, wl) q) h3
end
end Go.Proofs.Ytbndaabjlfdfcaa.Eng
set_option linter.unusedVariables false
set_option linter.unusedSimpArgs false
namespace Go.Proofs.Ytbndaabjlfdfcaa.Eng
open Go
set_option maxRecDepth 100000
noncomputable section
theorem ends_cases {p : Int} (h : (endsR p).2.2 = 0) : ∃ a b, endsR p = (a, b, 0) ∧ (0 ≤ a ∧ a ≤ 3) ∧ (0 ≤ b ∧ b ≤ 3) ∧ a ≠ b := by
  have hp := ends_ok h
  have hc : p = 0 ∨ p = 1 ∨ p = 2 ∨ p = 3 ∨ p = 4 ∨ p = 5 := by omega
  rcases hc with rfl | rfl | rfl | rfl | rfl | rfl
  · exact ⟨0, 2, rfl, by omega, by omega, by omega⟩
  · exact ⟨1, 3, rfl, by omega, by omega, by omega⟩
  · exact ⟨0, 1, rfl, by omega, by omega, by omega⟩
  · exact ⟨1, 2, rfl, by omega, by omega, by omega⟩
  · exact ⟨2, 3, rfl, by omega, by omega, by omega⟩
  · exact ⟨3, 0, rfl, by omega, by omega, by omega⟩
theorem other_back {p s v : Int} (h : otherR p s = (v, true)) : otherR p v = (s, true) ∧ (0 ≤ s ∧ s ≤ 3) ∧ (0 ≤ v ∧ v ≤ 3) := by
  unfold otherR at h ⊢
  by_cases e : (endsR p).2.2 = 0
  · obtain ⟨a, b, h1, ha, hb, hab⟩ := ends_cases e
    rw [h1] at h ⊢
    simp only [ne_eq, not_true_eq_false, if_false] at h ⊢
    by_cases c1 : s = a
    · rw [if_pos c1] at h
      cases h
      rw [if_neg (fun q => hab q.symm), if_pos rfl, c1]
      exact ⟨rfl, ha, hb⟩
    · rw [if_neg c1] at h
      by_cases c2 : s = b
      · rw [if_pos c2] at h
        cases h
        rw [if_pos rfl, c2]
        exact ⟨rfl, hb, ha⟩
      · rw [if_neg c2] at h
        cases h
  · rw [if_pos e] at h
    cases h
theorem turnT_eq {s : Int} (h : 0 ≤ s ∧ s ≤ 3) : (s = 0 ∧ turnT s = 2) ∨ (s = 1 ∧ turnT s = 3) ∨ (s = 2 ∧ turnT s = 0) ∨ (s = 3 ∧ turnT s = 1) := by
  have hc : s = 0 ∨ s = 1 ∨ s = 2 ∨ s = 3 := by omega
  rcases hc with rfl | rfl | rfl | rfl
  · exact Or.inl ⟨rfl, rfl⟩
  · exact Or.inr (Or.inl ⟨rfl, rfl⟩)
  · exact Or.inr (Or.inr (Or.inl ⟨rfl, rfl⟩))
  · exact Or.inr (Or.inr (Or.inr ⟨rfl, rfl⟩))
theorem turn_turn {s : Int} (h : 0 ≤ s ∧ s ≤ 3) : turnT (turnT s) = s := by
  rcases turnT_eq h with ⟨rfl, e⟩ | ⟨rfl, e⟩ | ⟨rfl, e⟩ | ⟨rfl, e⟩ <;> rw [e] <;> rfl
theorem xy_of {w x y : Int} (hw : 0 < w) (hx : 0 ≤ x ∧ x < w) (hy : 0 ≤ y) : Int.tmod (y * w + x) w = x ∧ Int.tdiv (y * w + x) w = y := by
  have h0 : 0 ≤ y * w + x := by
    have := Int.mul_nonneg hy (Int.le_of_lt hw)
    omega
  rw [Int.tmod_eq_emod_of_nonneg h0, Int.tdiv_eq_ediv_of_nonneg h0, Int.add_comm, Int.add_mul_emod_self_right, Int.emod_eq_of_lt hx.1 hx.2, Int.add_mul_ediv_right _ _ (by omega), Int.ediv_eq_zero_of_lt hx.1 hx.2]
  exact ⟨rfl, by omega⟩
theorem beside_at {w h x y n s dx dy : Int} (hw : 4 ≤ w ∧ w ≤ 32) (hh : 4 ≤ h ∧ h ≤ 32) (hx : 0 ≤ x ∧ x < w) (hy : 0 ≤ y ∧ y < h) (hn : n = y * w + x)
    (hs : (s = 0 ∧ dx = 1 ∧ dy = 0) ∨ (s = 1 ∧ dx = 0 ∧ dy = 1) ∨ (s = 2 ∧ dx = -1 ∧ dy = 0) ∨ (s = 3 ∧ dx = 0 ∧ dy = -1)) : bx w n s = x + dx ∧ byy w n s = y + dy := by
  obtain ⟨e1, e2⟩ := xy_of (by omega) hx hy.1
  have e2' : IntKind.i64.wrap y = y := wrap_eq (by omega) (by omega)
  unfold bx byy
  rw [hn, e1, e2, e2']
  rcases hs with ⟨rfl, rfl, rfl⟩ | ⟨rfl, rfl, rfl⟩ | ⟨rfl, rfl, rfl⟩ | ⟨rfl, rfl, rfl⟩
  · refine ⟨?_, by simp⟩
    rw [if_pos (by simp)]
    exact wrap_eq (i := x + 1) (by omega) (by omega)
  · refine ⟨by simp, ?_⟩
    rw [if_pos (by simp)]
    exact wrap_eq (i := y + 1) (by omega) (by omega)
  · refine ⟨?_, by simp⟩
    rw [if_pos (by simp)]
    exact wrap_eq (i := x + -1) (by omega) (by omega)
  · refine ⟨by simp, ?_⟩
    rw [if_pos (by simp)]
    exact wrap_eq (i := y + -1) (by omega) (by omega)
theorem beside_back {w h t s n : Int} (hw : 4 ≤ w ∧ w ≤ 32) (hh : 4 ≤ h ∧ h ≤ 32) (ht : 0 ≤ t ∧ t < w * h) (hs : 0 ≤ s ∧ s ≤ 3) (hb : besideR w h t s = (n, true)) : besideR w h n (turnT s) = (t, true) := by
  have hx0 := Int.emod_nonneg t (show w ≠ 0 by omega)
  have hx1 := Int.emod_lt_of_pos t (show 0 < w by omega)
  have hy0 : 0 ≤ t / w := Int.ediv_nonneg ht.1 (by omega)
  have hy1 : t / w < h := Int.ediv_lt_of_lt_mul (by omega) (by rw [Int.mul_comm]; exact ht.2)
  have htx : t = t / w * w + t % w := by have := Int.mul_ediv_add_emod t w; rw [Int.mul_comm] at this; omega
  generalize t % w = x at *
  generalize t / w = y at *
  obtain ⟨dx, dy, hd, hd'⟩ : ∃ dx dy, ((s = 0 ∧ dx = 1 ∧ dy = 0) ∨ (s = 1 ∧ dx = 0 ∧ dy = 1) ∨ (s = 2 ∧ dx = -1 ∧ dy = 0) ∨ (s = 3 ∧ dx = 0 ∧ dy = -1)) ∧
      ((turnT s = 0 ∧ -dx = 1 ∧ -dy = 0) ∨ (turnT s = 1 ∧ -dx = 0 ∧ -dy = 1) ∨ (turnT s = 2 ∧ -dx = -1 ∧ -dy = 0) ∨ (turnT s = 3 ∧ -dx = 0 ∧ -dy = (-1 : Int))) := by
    rcases turnT_eq hs with ⟨rfl, e⟩ | ⟨rfl, e⟩ | ⟨rfl, e⟩ | ⟨rfl, e⟩
    · exact ⟨1, 0, by omega, by omega⟩
    · exact ⟨0, 1, by omega, by omega⟩
    · exact ⟨-1, 0, by omega, by omega⟩
    · exact ⟨0, -1, by omega, by omega⟩
  obtain ⟨b1, b2⟩ := beside_at hw hh ⟨hx0, hx1⟩ ⟨hy0, hy1⟩ htx hd
  unfold besideR at hb
  rw [b1, b2] at hb
  have hi : inR (x + dx) (y + dy) w h = true := congrArg Prod.snd hb
  have hn : IntKind.i64.wrap (IntKind.i64.wrap ((y + dy) * w) + (x + dx)) = n := congrArg Prod.fst hb
  simp only [inR, Bool.and_eq_true, decide_eq_true_eq] at hi
  obtain ⟨c1, _, _⟩ := byW hw hh ⟨hi.1.1.1, hi.1.1.2⟩ ⟨hi.1.2, hi.2⟩
  rw [c1] at hn
  obtain ⟨b3, b4⟩ := beside_at hw hh ⟨hi.1.1.1, hi.1.1.2⟩ ⟨hi.1.2, hi.2⟩ hn.symm hd'
  obtain ⟨c2, _, _⟩ := byW hw hh ⟨hx0, hx1⟩ ⟨hy0, hy1⟩
  unfold besideR
  rw [b3, b4, show x + dx + -dx = x by omega, show y + dy + -dy = y by omega, c2, ← htx]
  simp [inR, hx0, hx1, hy0, hy1]
def turned (s : Sp) : Sp := (backR s).1
theorem back_ok {r : Rl} {s : Sp} (hv : validR r = 0) (h : thereR r s = 0) : ∃ v, otherR s.2.1 s.2.2 = (v, true) ∧ turned s = (s.1, s.2.1, v) ∧ (0 ≤ s.1 ∧ s.1 < r.1 * r.2.1) ∧ bitR (gI r.2.2.1 s.1.toNat) s.2.1 ≠ 0 := by
  obtain ⟨_, e1, _, e2, _⟩ := valid_len hv
  unfold thereR at h
  by_cases ho : (otherR s.2.1 s.2.2).2 = true
  · have hb0 : (backR s).2 = 0 := by unfold backR; rw [if_neg (by simp [ho])]
    rw [if_neg (by simp [hb0])] at h
    by_cases ht : tileR r s.1 = false
    · rw [if_pos ht] at h; cases h
    rw [if_neg ht] at h
    by_cases hb : bitR (gI r.2.2.1 s.1.toNat) s.2.1 = 0
    · rw [if_pos hb] at h; cases h
    refine ⟨(otherR s.2.1 s.2.2).1, by rw [← ho], by unfold turned backR; rw [if_neg (by simp [ho])], ?_, hb⟩
    have ht : tileR r s.1 = true := by simpa using ht
    simp only [tileR, Bool.and_eq_true, decide_eq_true_eq, e2] at ht
    exact ht
  · have hb0 : (backR s).2 = 1 := by unfold backR; rw [if_pos (by simpa using ho)]
    rw [hb0, if_pos (by omega)] at h
    cases h
theorem there_turned {r : Rl} {s : Sp} (hv : validR r = 0) (h : thereR r s = 0) : thereR r (turned s) = 0 := by
  obtain ⟨_, e1, _, e2, _⟩ := valid_len hv
  obtain ⟨v, h1, h2, h3, h4⟩ := back_ok hv h
  obtain ⟨h5, _, _⟩ := other_back h1
  rw [h2]
  unfold thereR
  have hb0 : (backR (s.1, s.2.1, v)).2 = 0 := by unfold backR; simp only; rw [h5]; rfl
  have ht : tileR r s.1 = true := by simp only [tileR, Bool.and_eq_true, decide_eq_true_eq, e2]; exact h3
  rw [if_neg (by simp [hb0])]
  simp only
  rw [if_neg (by simp [ht]), if_neg h4]
theorem mem_next {r : Rl} {s x : Sp} : x ∈ nextR r s ↔ (besideR r.1 r.2.1 s.1 s.2.2).2 = true ∧ ∃ p : Nat, p < 6 ∧ stepP r (besideR r.1 r.2.1 s.1 s.2.2).1 s.2.2 p = some x := by
  unfold nextR
  cases hb : (besideR r.1 r.2.1 s.1 s.2.2).2 with
  | false => simp
  | true =>
    rw [if_neg (by simp), List.mem_filterMap]
    constructor
    · rintro ⟨p, hp, e⟩
      exact ⟨rfl, p, List.mem_range.1 hp, e⟩
    · rintro ⟨_, p, hp, e⟩
      exact ⟨p, List.mem_range.2 hp, e⟩
theorem next_turned {r : Rl} {x y : Sp} (hv : validR r = 0) (hx : thereR r x = 0) (hy : thereR r y = 0) (h : y ∈ nextR r x) : turned x ∈ nextR r (turned y) := by
  obtain ⟨⟨hw, hh⟩, _, _, _, _⟩ := valid_len hv
  obtain ⟨f, o1, t1, ht1, bit1⟩ := back_ok hv hx
  obtain ⟨e, o2, t2, ht2, bit2⟩ := back_ok hv hy
  obtain ⟨hb, p, hp, hs⟩ := mem_next.1 h
  obtain ⟨o1', s1, s2⟩ := other_back o1
  unfold stepP at hs
  by_cases hz : bitR (gI r.2.2.1 (besideR r.1 r.2.1 x.1 x.2.2).1.toNat) p = 0
  · rw [if_pos hz] at hs; cases hs
  rw [if_neg hz] at hs
  by_cases hq : ¬ (otherR p (turnT x.2.2)).2 = true
  · rw [if_neg hq] at hs; cases hs
  have hq : (otherR p (turnT x.2.2)).2 = true := Classical.not_not.1 hq
  rw [if_pos hq] at hs
  have hs := (Option.some.inj hs).symm
  subst hs
  simp only at o2 t2 ht2 bit2
  have hpair : otherR (p : Int) (turnT x.2.2) = ((otherR p (turnT x.2.2)).1, true) := by rw [← hq]
  obtain ⟨o3, s3, s4⟩ := other_back hpair
  rw [o3] at o2
  have he : turnT x.2.2 = e := congrArg Prod.fst o2
  subst he
  have hbp : besideR r.1 r.2.1 x.1 x.2.2 = ((besideR r.1 r.2.1 x.1 x.2.2).1, true) := by rw [← hb]
  have hback := beside_back hw hh ht1 s1 hbp
  rw [t1, t2, mem_next]
  simp only
  rw [hback]
  refine ⟨rfl, x.2.1.toNat, ?_, ?_⟩
  · have := other_ok (p := x.2.1) (s := x.2.2) (by rw [o1])
    omega
  · have hxp : ((x.2.1.toNat : Nat) : Int) = x.2.1 := by
      have := other_ok (p := x.2.1) (s := x.2.2) (by rw [o1])
      omega
    unfold stepP
    rw [hxp, if_neg bit1, turn_turn s1, o1]
    rfl
end
end Go.Proofs.Ytbndaabjlfdfcaa.Eng
set_option linter.unusedVariables false
set_option linter.unusedSimpArgs false
namespace Go.Proofs.Ytbndaabjlfdfcaa.Eng
open Go
set_option maxRecDepth 100000
noncomputable section
def apartK (a b : Sp) : Prop := ¬ (b.1 = a.1 ∧ b.2.1 = a.2.1)
theorem dup_iff {q : List Sp} : (∀ j, j < q.length → dupR q j = false) ↔ q.Pairwise apartK := by
  rw [List.pairwise_iff_getElem]
  constructor
  · intro h i j hi hj hij
    have h1 := h j hj
    unfold dupR at h1
    have h2 := List.any_eq_false.1 h1 q[i] (by rw [List.mem_take_iff_getElem]; exact ⟨i, by omega, rfl⟩)
    rw [gSp_eq hj] at h2
    simp only [sameK, Bool.and_eq_true, decide_eq_true_eq] at h2
    exact h2
  · intro h j hj
    unfold dupR
    rw [List.any_eq_false]
    intro s hs
    obtain ⟨i, hi, e⟩ := List.mem_take_iff_getElem.1 hs
    have := h i j (by omega) hj (by omega)
    rw [e] at this
    rw [gSp_eq hj]
    simp only [sameK, Bool.and_eq_true, decide_eq_true_eq]
    exact this
theorem firstErr_iff {f : Sp → Int} : ∀ {l : List Sp}, firstErr f l = 0 ↔ ∀ x ∈ l, f x = 0
  | [] => by simp [firstErr]
  | y :: r => by
    rw [firstErr]
    by_cases e : f y = 0
    · rw [if_neg (by simp [e]), firstErr_iff]; simp [e]
    · rw [if_pos e]
      constructor
      · intro h; exact absurd h e
      · intro h; exact h y (by simp)
theorem way_iff {r : Rl} {q : List Sp} : wayR r q = 0 ↔ validR r = 0 ∧ (∀ s ∈ q, thereR r s = 0) ∧ (∀ i, i + 1 < q.length → gSp q (i + 1) ∈ nextR r (gSp q i)) ∧ q.Pairwise apartK := by
  rw [← dup_iff]
  unfold wayR allR
  by_cases hv : ¬ validR r = 0
  · rw [if_pos (by rw [if_pos hv]; exact hv), if_pos hv]
    exact ⟨fun h => absurd h hv, fun h => absurd h.1 hv⟩
  have hv := Classical.not_not.1 hv
  rw [if_neg (show ¬ (validR r ≠ 0) by simp [hv])]
  by_cases hf : ¬ firstErr (thereR r) q = 0
  · rw [if_pos hf]
    exact ⟨fun h => absurd h hf, fun h => absurd (firstErr_iff.2 h.2.1) hf⟩
  have hf := Classical.not_not.1 hf
  rw [if_neg (show ¬ (firstErr (thereR r) q ≠ 0) by simp [hf])]
  have hgap : (List.range q.length).any (gapR r q) = false ↔ ∀ i, i + 1 < q.length → gSp q (i + 1) ∈ nextR r (gSp q i) := by
    rw [any_range]
    constructor
    · intro h i hi
      have := h (i + 1) hi
      unfold gapR at this
      rw [has_any] at this
      simp only [show decide (0 < i + 1) = true by simp, Bool.true_and, Bool.not_eq_false', show i + 1 - 1 = i by omega] at this
      obtain ⟨x, hx, e⟩ := List.any_eq_true.1 this
      have e : x = gSp q (i + 1) := by simpa using e
      rw [← e]
      exact hx
    · intro h j hj
      unfold gapR
      rw [has_any]
      cases j with
      | zero => rfl
      | succ i =>
        have := h i hj
        have : (nextR r (gSp q i)).any (fun x => decide (x = gSp q (i + 1))) = true := List.any_eq_true.2 ⟨_, this, by simp⟩
        simp only [show i + 1 - 1 = i by omega, this]
        simp
  cases hg : (List.range q.length).any (gapR r q) with
  | true =>
    rw [if_pos rfl]
    constructor
    · intro h; cases h
    · rintro ⟨_, _, h, _⟩
      rw [hgap.2 h] at hg
      cases hg
  | false =>
    rw [if_neg (by simp)]
    cases hd : (List.range q.length).any (dupR q) with
    | true =>
      rw [if_pos rfl]
      constructor
      · intro h; cases h
      · rintro ⟨_, _, _, h⟩
        rw [any_range.2 h] at hd
        cases hd
    | false =>
      rw [if_neg (by simp)]
      exact ⟨fun _ => ⟨hv, firstErr_iff.1 hf, hgap.1 hg, any_range.1 hd⟩, fun _ => rfl⟩
def backL (q : List Sp) : List Sp := q.reverse.map turned
theorem way_back {r : Rl} {q : List Sp} (h : wayR r q = 0) : wayR r (backL q) = 0 := by
  obtain ⟨hv, h1, h2, h3⟩ := way_iff.1 h
  rw [way_iff]
  have hl : (backL q).length = q.length := by simp [backL]
  have hg : ∀ i, i < q.length → gSp (backL q) i = turned (gSp q (q.length - 1 - i)) := by
    intro i hi
    rw [gSp_eq (by omega), gSp_eq (by omega)]
    simp [backL]
  refine ⟨hv, fun s hs => ?_, fun i hi => ?_, ?_⟩
  · obtain ⟨x, hx, rfl⟩ := List.mem_map.1 hs
    exact there_turned hv (h1 x (List.mem_reverse.1 hx))
  · rw [hl] at hi
    rw [hg i (by omega), hg (i + 1) hi]
    have := h2 (q.length - 1 - (i + 1)) (by omega)
    rw [show q.length - 1 - (i + 1) + 1 = q.length - 1 - i by omega] at this
    exact next_turned hv (h1 _ (by rw [gSp_eq (by omega)]; exact List.getElem_mem _)) (h1 _ (by rw [gSp_eq (by omega)]; exact List.getElem_mem _)) this
  · unfold backL
    rw [List.pairwise_map, List.pairwise_reverse]
    refine List.Pairwise.imp_of_mem ?_ h3
    intro a b ha hb hab
    obtain ⟨_, _, t1, _⟩ := back_ok hv (h1 a ha)
    obtain ⟨_, _, t2, _⟩ := back_ok hv (h1 b hb)
    rw [t1, t2]
    unfold apartK at hab ⊢
    simp only
    intro c
    exact hab ⟨c.1.symm, c.2.symm⟩
end
end Go.Proofs.Ytbndaabjlfdfcaa.Eng
set_option linter.unusedVariables false
set_option linter.unusedSimpArgs false
namespace Go.Proofs.Ytbndaabjlfdfcaa.Eng
open Go
set_option maxRecDepth 100000
noncomputable section
def S13 (w h : Int) (l : List Int) (wl : List Bool) (q out : List Sp) (i : Int) : SL := ⟨[.undef, .sl spT q, .ptr 0 0 0, .undef, .undef, .own 1, .int .i64 i] ++ List.replicate 44 .undef, [(0, .box [.int .i64 w, .int .i64 h, .sl I l, .sl .bool wl]), (1, .arr spT out)], 2⟩
theorem back_snoc {q : List Sp} {i : Nat} (hi : i < q.length) : backL (q.drop i) = backL (q.drop (i + 1)) ++ [turned (gSp q i)] := by
  unfold backL
  rw [List.drop_eq_getElem_cons hi, List.reverse_cons, List.map_append, gSp_eq hi]
  rfl
def E13 : Env := ⟨tab, [(16, K16), (37, K37), (17, K17), (23, K23)], fun n => match n with | 5 => some ([1, 2, 5, 6], [(5, spT)], []) | _ => none⟩
def K13 : Fn1 := ⟨.fld rlT (.one (.sl spT)), .one .bool, fun _ => [], fun _ => true⟩
theorem k13 : FnOk Go.Proofs.Try.prog 13 K13 := by
  refine fn_ok (E := E13) (TOk.of tab_told) (AllOk.cons k16 (.cons k37 (.cons k17 (.cons k23 .nil)))).at_ mix Go.Proofs.Try.func13 rfl rfl (by kernel_rfl) K13 ?_
  rintro ⟨⟨(w : Int), (h : Int), (l : List Int), (wl : List Bool)⟩, (q : List Sp)⟩ hp
  clear hp
  conv => whnf
  refine cond_intro (fun h1 => ?_) (fun h1 => ?_)
  · have h1 : (farR (w, h, l, wl)) = true := h1
    conv => whnf
    rfl
  have h1 : (farR (w, h, l, wl)) = false := h1
  conv => whnf
  refine cond_intro (fun h2 => ?_) (fun h2 => ?_)
  · have h2 : 3000 < (q.length : Int) := @of_decide_eq_true _ _ h2
    conv => whnf
    rfl
  have h2 : ¬ (3000 < (q.length : Int)) := @of_decide_eq_false _ _ h2
  have hq : q.length ≤ 140737488351232 := by omega
  conv => whnf
  refine ⟨hq, ?_⟩
  conv => whnf
  refine cond_intro (fun h3 => ?_) (fun h3 => ?_)
  · have h3 : (!decide (wayR (w, h, l, wl) q = 0)) = true := h3
    have h3 : ¬ (wayR (w, h, l, wl) q = 0) := by simpa using h3
    conv => whnf
    rfl
  have h3 : (!decide (wayR (w, h, l, wl) q = 0)) = false := h3
  have h3 : wayR (w, h, l, wl) q = 0 := by simpa using h3
  obtain ⟨hv, hth, _, _⟩ := way_iff.1 h3
  have hwl : IntKind.i64.wrap ((q.length : Int) - 1) = (q.length : Int) - 1 := wrap_eq (by omega) (by omega)
  conv => whnf
  refine loop_rule (fun i => S13 w h l wl q (backL (q.drop (i + 1).toNat)) i) (fun i => (i + 1).toNat) (fun i => -1 ≤ i ∧ i < q.length) ?_ ((q.length : Int) - 1) (by kernel_rfl) ?_ ⟨by omega, by omega⟩
  case refine_2 => exact Eq.trans (b := S13 w h l wl q [] (IntKind.i64.wrap ((q.length : Int) - 1))) rfl (by rw [hwl, show ((q.length : Int) - 1 + 1).toNat = q.length by omega, List.drop_length]; rfl)
  rintro i ⟨h0, h4⟩
  have hbl : (backL (q.drop (i + 1).toNat)).length ≤ 3000 := by simp only [backL, List.length_map, List.length_reverse, List.length_drop]; omega
  conv => whnf
  refine cond_intro (fun hge => ?_) (fun hge => ?_)
  · have hge : 0 ≤ i := @of_decide_eq_true _ _ hge
    have hwi : IntKind.i64.wrap (i - 1) = i - 1 := wrap_eq (by omega) (by omega)
    have en : (i + 1).toNat = i.toNat + 1 := by omega
    have em : (i - 1 + 1).toNat = i.toNat := by omega
    have e : gSp q i.toNat = q[i.toNat]'(by omega) := gSp_eq _
    have ht := hth (gSp q i.toNat) (by rw [e]; exact List.getElem_mem _)
    obtain ⟨v, o1, t1, _, _⟩ := back_ok hv ht
    have hb : (backR (gSp q i.toNat)).2 = 0 := by unfold backR; rw [o1]; rfl
    conv => whnf
    refine ⟨hge, ?_⟩
    conv => whnf
    refine ⟨h4, ?_⟩
    conv => whnf
    refine cond_intro (fun h5 => ?_) (fun h5 => ?_)
    · have h5 : (!decide ((backR (gSp q i.toNat)).2 = 0)) = true := h5
      have h5 : ¬ ((backR (gSp q i.toNat)).2 = 0) := by simpa using h5
      exact absurd hb h5
    have h5 : (!decide ((backR (gSp q i.toNat)).2 = 0)) = false := h5
    have h5 : (backR (gSp q i.toNat)).2 = 0 := by simpa using h5
    conv => whnf
    refine ⟨show ((backL (q.drop (i + 1).toNat)).length + 1) * 24 ≤ 70368744177664 by omega, ?_⟩
    conv => whnf
    refine ⟨show (backL (q.drop (i + 1).toNat)).length + 1 ≤ 70368744177664 by omega, ?_⟩
    conv => whnf
    refine ⟨i - 1, ?_, ⟨by omega, by omega⟩, by omega⟩
    exact Eq.trans (b := S13 w h l wl q ((backL (q.drop (i + 1).toNat)) ++ [turned (gSp q i.toNat)]) (IntKind.i64.wrap (i - 1))) rfl (by rw [hwi, em, en, ← back_snoc (by omega)])
  have hge : ¬ (0 ≤ i) := @of_decide_eq_false _ _ hge
  have ei : (i + 1).toNat = 0 := by omega
  rw [ei, List.drop_zero] at hbl ⊢
  conv => whnf
  refine ⟨show (backL q).length ≤ 140737488351232 by omega, ?_⟩
  conv => whnf
  refine cond_intro (fun h6 => ?_) (fun h6 => ?_)
  · have h6 : wayR (w, h, l, wl) (backL q) = 0 := @of_decide_eq_true _ _ h6
    conv => whnf
    rfl
  have h6 : ¬ (wayR (w, h, l, wl) (backL q) = 0) := @of_decide_eq_false _ _ h6
  exact absurd (way_back h3) h6
end
end Go.Proofs.Ytbndaabjlfdfcaa.Eng
