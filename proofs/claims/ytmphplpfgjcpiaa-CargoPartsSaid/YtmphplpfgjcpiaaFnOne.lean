/- What the functions that the law reaches answer, each for every input. -/
import Derived.Test.YtmphplpfgjcpiaaEngTwo
import Derived.Shelf.Lay
import Derived.Shelf.SlGeneric
import Derived.Ground.SlsfProg
set_option linter.unusedVariables false
set_option linter.unusedSimpArgs false
set_option linter.unusedVariables false
set_option linter.unusedSimpArgs false
namespace Go.Proofs.Ytmphplpfgjcpiaa.Eng
open Go
set_option maxRecDepth 100000
noncomputable section
abbrev I : Ty := .int .i64
theorem mix : Go.Proofs.Try.prog.follows .mixedOrders = true := by kernel_rfl
def gI (l : List Int) (n : Nat) : Int := l.getD n 0
theorem gI_eq {l : List Int} {n : Nat} (h : n < l.length) : gI l n = l[n] := by simp [gI, h]
theorem wrap_eq {i : Int} (h : -9223372036854775808 ≤ i) (g : i ≤ 9223372036854775807) : IntKind.i64.wrap i = i := by rw [IntKind.wrap_i64]; omega
abbrev paT : Ty := .fld I (.fld I (.fld I (.fld I (.fld I (.one I)))))
def ann0 : Nat → Option (List Nat × List (Nat × Ty) × List (Nat × Nat × Ty)) := fun _ => none
def E0 : Env := ⟨tab, [], ann0⟩
theorem noK : ∀ f k, findK (E0).K f = some k → CtrOk Go.Proofs.Try.prog f k := fun f k h => by cases h
abbrev Pa := Int × Int × Int × Int × Int × Int
abbrev Ra := Int × Int × Int × Int × Int
def in0 (n b : Int) : Bool := decide (0 ≤ n) && decide (n ≤ b)
def K44 : Fn1 := ⟨.fld I (.one I), .one .bool, fun _ => [], fun (a : Int × Int) => in0 a.1 a.2⟩
theorem k44 : FnOk Go.Proofs.Try.prog 44 K44 := by
  refine fn_ok (E := E0) (TOk.of tab_told) noK mix Go.Proofs.Try.func44 rfl rfl (by kernel_rfl) K44 ?_
  rintro ⟨(n : Int), (m : Int)⟩ hp
  clear hp
  iterate 3 (all_goals (conv => whnf); all_goals (try (refine cond_intro (fun h => ?_) (fun h => ?_))))
  all_goals (simp only [decide_eq_true_eq, decide_eq_false_iff_not] at *)
  all_goals (show _ = in0 n m; unfold in0)
  · have : 0 ≤ n := by assumption
    simp [this]
  · have : ¬ 0 ≤ n := by assumption
    simp [this]
def E47 : Env := ⟨tab, [(44, K44)], ann0⟩
def soundR (p : Pa) : Bool := decide (1 ≤ p.2.2.2.2.1) && decide (p.2.2.2.2.1 ≤ 1000000) && in0 p.2.2.2.1 255 && in0 p.2.2.2.2.2 1000000000000 && in0 p.1 1000000 && in0 p.2.1 1000000 && in0 p.2.2.1 1000000
def K47 : Fn1 := ⟨.one paT, .one .bool, fun _ => [], fun (p : Pa) => soundR p⟩
theorem k47 : FnOk Go.Proofs.Try.prog 47 K47 := by
  refine fn_ok (E := E47) (TOk.of tab_told) (AllOk.cons k44 .nil).at_ mix Go.Proofs.Try.func47 rfl rfl (by kernel_rfl) K47 ?_
  rintro ⟨(k : Int), (f : Int), (t : Int), (g : Int), (c : Int), (s : Int)⟩ hp
  clear hp
  iterate 9 (all_goals (conv => whnf); all_goals (try (refine cond_intro (fun h => ?_) (fun h => ?_))))
  all_goals (simp only [cond_true, K44] at *)
  all_goals (show _ = soundR (k, f, t, g, c, s); simp [soundR, *])
def K72 : Fn1 := ⟨.one I, .one .bool, fun _ => [], fun _ => false⟩
theorem k72 : FnOk Go.Proofs.Try.prog 72 K72 := by
  refine fn_ok (E := E0) (TOk.of tab_told) noK mix Go.Proofs.Try.func72 rfl rfl (by kernel_rfl) K72 ?_
  rintro (n : Int) hp
  clear hp
  conv => whnf
  show (!decide (n = n)) = false
  simp
def E59 : Env := ⟨tab, [(72, K72)], ann0⟩
def cmpR (a b : Int) : Int := if a < b then -1 else if b < a then 1 else 0
def K59 : Fn1 := ⟨.fld I (.one I), .one I, fun _ => [], fun (a : Int × Int) => cmpR a.1 a.2⟩
theorem k59 : FnOk Go.Proofs.Try.prog 59 K59 := by
  refine fn_ok (E := E59) (TOk.of tab_told) (AllOk.cons k72 .nil).at_ mix Go.Proofs.Try.func59 rfl rfl (by kernel_rfl) K59 ?_
  rintro ⟨(a : Int), (b : Int)⟩ hp
  clear hp
  iterate 9 (all_goals (conv => whnf); all_goals (try (refine cond_intro (fun h => ?_) (fun h => ?_))))
  all_goals (simp only [decide_eq_true_eq, decide_eq_false_iff_not] at *)
  all_goals (show _ = cmpR a b; simp [cmpR, *])
def E70 : Env := ⟨tab, [], fun n => match n with | 3 => some ([3, 6, 7, 8], [], []) | _ => none⟩
def K70 : Fn1 := ⟨.one (.sl I), .one I, fun (l : List Int) => [l.length ≤ 100000], fun (l : List Int) => (l.find? (fun n => decide (n ≠ 0))).getD 0⟩
def S70 (l : List Int) (i : Int) : SL := ⟨[.undef, .undef, .undef, .int .i64 0, .undef, .undef, .sl I l, .int .i64 l.length, .int .i64 i] ++ List.replicate 9 .undef, [], 0⟩
theorem k70 : FnOk Go.Proofs.Try.prog 70 K70 := by
  refine fn_ok (E := E70) (TOk.of tab_told) noK mix Go.Proofs.Try.func70 rfl rfl (by kernel_rfl) K70 ?_
  rintro (l : List Int) hp
  have hl : l.length ≤ 100000 := hp _ (List.mem_cons_self ..)
  clear hp
  conv => whnf
  refine loop_rule (S70 l) (fun i => ((l.length : Int) - i).toNat) (fun i => 0 ≤ i ∧ i ≤ l.length ∧ ∀ n ∈ l.take i.toNat, n = 0) ?_ 0 (by kernel_rfl) ?_ ⟨by omega, by omega, by simp⟩
  case refine_2 => rfl
  rintro i ⟨h0, h1, h2⟩
  conv => whnf
  have hsp : l = l.take i.toNat ++ l.drop i.toNat := (List.take_append_drop _ _).symm
  have hnone : (l.take i.toNat).find? (fun n => decide (n ≠ 0)) = none := by simpa using h2
  refine cond_intro (fun hlt => ?_) (fun hge => ?_)
  · have hlt : i < l.length := @of_decide_eq_true _ _ hlt
    have e : gI l i.toNat = l[i.toNat]'(by omega) := gI_eq _
    have hd : l.drop i.toNat = gI l i.toNat :: l.drop (i.toNat + 1) := by rw [List.drop_eq_getElem_cons (by omega), e]
    have ht : l.take (i.toNat + 1) = l.take i.toNat ++ [gI l i.toNat] := by rw [List.take_succ_eq_append_getElem (by omega), e]
    conv => whnf
    refine ⟨h0, ?_⟩
    conv => whnf
    refine ⟨hlt, ?_⟩
    conv => whnf
    refine cond_intro (fun hz => ?_) (fun hz => ?_)
    · have hz : gI l i.toNat ≠ 0 := by
        have hz : (!decide (gI l i.toNat = 0)) = true := hz
        simpa using hz
      conv => whnf
      show gI l i.toNat = (l.find? (fun n => decide (n ≠ 0))).getD 0
      rw [hsp, List.find?_append, hnone, ← hsp, hd]
      simp [hz]
    · have hz : gI l i.toNat = 0 := by
        have hz : (!decide (gI l i.toNat = 0)) = false := hz
        simpa using hz
      conv => whnf
      have hw : IntKind.i64.wrap (i + 1) = i + 1 := wrap_eq (by omega) (by omega)
      refine ⟨i + 1, ?_, ⟨by omega, by omega, ?_⟩, by omega⟩
      · exact Eq.trans (b := S70 l (IntKind.i64.wrap (i + 1))) rfl (by rw [hw])
      · rw [show (i + 1).toNat = i.toNat + 1 by omega, ht]
        intro n hn
        rcases List.mem_append.1 hn with hn | hn
        · exact h2 n hn
        · cases List.mem_singleton.1 hn
          exact hz
  · have hge : ¬ i < l.length := @of_decide_eq_false _ _ hge
    conv => whnf
    show 0 = (l.find? (fun n => decide (n ≠ 0))).getD 0
    rw [show l.take i.toNat = l from List.take_of_length_le (by omega)] at hnone
    rw [hnone]; rfl
def E48 : Env := ⟨tab, [(59, K59), (70, K70)], ann0⟩
def compareR (a b : Pa) : Int := ([cmpR a.1 b.1, cmpR a.2.1 b.2.1, cmpR a.2.2.1 b.2.2.1, cmpR a.2.2.2.1 b.2.2.2.1].find? (fun n => decide (n ≠ 0))).getD 0
def K48 : Fn1 := ⟨.fld paT (.one paT), .one I, fun _ => [], fun (a : Pa × Pa) => compareR a.1 a.2⟩
theorem k48 : FnOk Go.Proofs.Try.prog 48 K48 := by
  refine fn_ok (E := E48) (TOk.of tab_told) (AllOk.cons k59 (.cons k70 .nil)).at_ mix Go.Proofs.Try.func48 rfl rfl (by kernel_rfl) K48 ?_
  rintro ⟨⟨(k : Int), (f : Int), (t : Int), (g : Int), (c : Int), (s : Int)⟩, ⟨(k' : Int), (f' : Int), (t' : Int), (g' : Int), (c' : Int), (s' : Int)⟩⟩ hp
  clear hp
  conv => whnf
  refine ⟨show 4 ≤ 100000 by omega, ?_⟩
  conv => whnf
  rfl
def gP (l : List Pa) (n : Nat) : Pa := l.getD n (0, 0, 0, 0, 0, 0)
theorem gP_eq {l : List Pa} {n : Nat} (h : n < l.length) : gP l n = l[n] := by simp [gP, h]
/-- What is wrong at a place of a load. -/
def badP (l : List Pa) (i : Nat) : Bool := !soundR (gP l i) || (decide (0 < i) && decide (0 ≤ compareR (gP l (i - 1)) (gP l i)))
def cargoR (l : List Pa) : Int := if 200 < l.length then 4 else if (List.range l.length).any (badP l) then 1 else 0
def E21 : Env := ⟨tab, [(47, K47), (48, K48)], fun n => match n with | 4 => some ([0, 8, 9, 10], [], []) | _ => none⟩
def K21 : Fn1 := ⟨.one (.sl paT), .one I, fun (l : List Pa) => [l.length ≤ 100000], fun (l : List Pa) => cargoR l⟩
def S21 (l : List Pa) (i : Int) : SL := ⟨[.sl paT l, .undef, .undef, .undef, .undef, .undef, .undef, .undef, .sl paT l, .int .i64 l.length, .int .i64 i] ++ List.replicate 22 .undef, [], 0⟩
theorem k21 : FnOk Go.Proofs.Try.prog 21 K21 := by
  refine fn_ok (E := E21) (TOk.of tab_told) (AllOk.cons k47 (.cons k48 .nil)).at_ mix Go.Proofs.Try.func21 rfl rfl (by kernel_rfl) K21 ?_
  rintro (l : List Pa) hp
  have hl : l.length ≤ 100000 := hp _ (List.mem_cons_self ..)
  clear hp
  conv => whnf
  refine cond_intro (fun hlarge => ?_) (fun hsmall => ?_)
  · have hlarge : 200 < (l.length : Int) := @of_decide_eq_true _ _ hlarge
    conv => whnf
    show 4 = cargoR l
    rw [cargoR, if_pos (by omega)]
  have hsmall : ¬ 200 < (l.length : Int) := @of_decide_eq_false _ _ hsmall
  conv => whnf
  refine loop_rule (S21 l) (fun i => ((l.length : Int) - i).toNat) (fun i => 0 ≤ i ∧ i ≤ l.length ∧ ∀ j : Nat, (j : Int) < i → badP l j = false) ?_ 0 (by kernel_rfl) ?_ ⟨by omega, by omega, fun j hj => by omega⟩
  case refine_2 => rfl
  rintro i ⟨h0, h1, h2⟩
  have hbad : i < l.length → badP l i.toNat = true → 1 = cargoR l := by
    intro hlt hb
    rw [cargoR, if_neg (by omega), if_pos]
    exact List.any_eq_true.2 ⟨i.toNat, List.mem_range.2 (by omega), hb⟩
  have hw : i < l.length → IntKind.i64.wrap (i + 1) = i + 1 := fun _ => wrap_eq (by omega) (by omega)
  have hw' : IntKind.i64.wrap (i - 1) = i - 1 := wrap_eq (by omega) (by omega)
  conv => whnf
  refine cond_intro (fun hlt => ?_) (fun hge => ?_)
  · have hlt : i < l.length := @of_decide_eq_true _ _ hlt
    have hnext : badP l i.toNat = false → ∀ j : Nat, (j : Int) < i + 1 → badP l j = false := by
      intro hb j hj
      by_cases hji : (j : Int) < i
      · exact h2 j hji
      · rw [show j = i.toNat by omega]; exact hb
    conv => whnf
    refine ⟨h0, ?_⟩
    conv => whnf
    refine ⟨hlt, ?_⟩
    conv => whnf
    refine cond_intro (fun hs => ?_) (fun hs => ?_)
    · have hs : soundR (gP l i.toNat) = false := by
        have hs : (!soundR (gP l i.toNat)) = true := hs
        simpa using hs
      conv => whnf
      exact hbad hlt (by simp [badP, hs])
    · have hs : soundR (gP l i.toNat) = true := by
        have hs : (!soundR (gP l i.toNat)) = false := hs
        simpa using hs
      conv => whnf
      refine cond_intro (fun hpos => ?_) (fun hz => ?_)
      · have hpos : 0 < i := @of_decide_eq_true _ _ hpos
        conv => whnf
        refine ⟨show 0 ≤ IntKind.i64.wrap (i - 1) by rw [hw']; omega, ?_⟩
        conv => whnf
        refine ⟨show IntKind.i64.wrap (i - 1) < (l.length : Int) by rw [hw']; omega, ?_⟩
        conv => whnf
        have ei : (i - 1).toNat = i.toNat - 1 := by omega
        refine cond_intro (fun hc => ?_) (fun hc => ?_)
        · have hc : 0 ≤ compareR (gP l (IntKind.i64.wrap (i - 1)).toNat) (gP l i.toNat) := @of_decide_eq_true _ _ hc
          rw [hw', ei] at hc
          conv => whnf
          exact hbad hlt (by simp [badP, hs, hc]; omega)
        · have hc : ¬ 0 ≤ compareR (gP l (IntKind.i64.wrap (i - 1)).toNat) (gP l i.toNat) := @of_decide_eq_false _ _ hc
          rw [hw', ei] at hc
          conv => whnf
          refine ⟨i + 1, ?_, ⟨by omega, by omega, hnext ?_⟩, by omega⟩
          · exact Eq.trans (b := S21 l (IntKind.i64.wrap (i + 1))) rfl (by rw [hw hlt])
          · simp [badP, hs, hc]
      · have hz : ¬ 0 < i := @of_decide_eq_false _ _ hz
        conv => whnf
        refine ⟨i + 1, ?_, ⟨by omega, by omega, hnext ?_⟩, by omega⟩
        · exact Eq.trans (b := S21 l (IntKind.i64.wrap (i + 1))) rfl (by rw [hw hlt])
        · have : ¬ 0 < i.toNat := by omega
          simp [badP, hs, this]
  · have hge : ¬ i < l.length := @of_decide_eq_false _ _ hge
    conv => whnf
    show 0 = cargoR l
    rw [cargoR, if_neg (by omega), if_neg]
    intro hx
    obtain ⟨j, hj, hb⟩ := List.any_eq_true.1 hx
    rw [h2 j (by have := List.mem_range.1 hj; omega)] at hb
    cases hb
def K42 : Fn1 := ⟨.fld I (.one I), .one .bool, fun _ => [], fun (a : Int × Int) => decide (a.1 < 0) || decide (a.2 < a.1)⟩
theorem k42 : FnOk Go.Proofs.Try.prog 42 K42 := by
  refine fn_ok (E := E0) (TOk.of tab_told) noK mix Go.Proofs.Try.func42 rfl rfl (by kernel_rfl) K42 ?_
  rintro ⟨(n : Int), (m : Int)⟩ hp
  clear hp
  conv => whnf
  refine cond_intro (fun h => ?_) (fun h => ?_)
  · have h : decide (n < 0) = true := h
    conv => whnf
    show true = (decide (n < 0) || decide (m < n))
    rw [h]; rfl
  · have h : decide (n < 0) = false := h
    conv => whnf
    show _ = (decide (n < 0) || decide (m < n))
    rw [h]; rfl
theorem find4 (a b c d : Int) : ([a, b, c, d].find? (fun n => decide (n ≠ 0))).getD 0 = if a ≠ 0 then a else if b ≠ 0 then b else if c ≠ 0 then c else d := by
  by_cases h1 : a = 0 <;> by_cases h2 : b = 0 <;> by_cases h3 : c = 0 <;> by_cases h4 : d = 0 <;> simp [h1, h2, h3, h4]
theorem cmpR_lt (a b : Int) : cmpR a b < 0 ↔ a < b := by unfold cmpR; split <;> (try split) <;> omega
theorem cmpR_eq (a b : Int) : cmpR a b = 0 ↔ a = b := by unfold cmpR; split <;> (try split) <;> omega
def K46 : Fn1 := ⟨.fld paT (.one paT), .one .bool, fun _ => [], fun (a : Pa × Pa) => decide (compareR a.1 a.2 < 0)⟩
theorem k46 : FnOk Go.Proofs.Try.prog 46 K46 := by
  refine fn_ok (E := E0) (TOk.of tab_told) noK mix Go.Proofs.Try.func46 rfl rfl (by kernel_rfl) K46 ?_
  rintro ⟨⟨(k : Int), (f : Int), (t : Int), (g : Int), (c : Int), (s : Int)⟩, ⟨(k' : Int), (f' : Int), (t' : Int), (g' : Int), (c' : Int), (s' : Int)⟩⟩ hp
  clear hp
  iterate 6 (all_goals (conv => whnf); all_goals (try (refine cond_intro (fun h => ?_) (fun h => ?_))))
  all_goals (simp only [Bool.not_eq_true', Bool.not_eq_false', decide_eq_true_eq, decide_eq_false_iff_not] at *)
  all_goals (show _ = decide (compareR (k, f, t, g, c, s) (k', f', t', g', c', s') < 0); rw [decide_eq_decide, compareR, find4])
  all_goals (simp [cmpR_lt, cmpR_eq, *])
def E20 : Env := ⟨tab, [(46, K46), (42, K42)], fun n => match n with | 4 => some ([0, 3], [], []) | _ => none⟩
def K20 : Fn1 := ⟨.one (.sl paT), .one I, fun (l : List Pa) => [l.length ≤ 100000], fun (l : List Pa) => cargoR l⟩
def S20 (l : List Pa) (i : Int) : SL := ⟨[.sl paT l, .undef, .undef, .int .i64 i] ++ List.replicate 61 .undef, [], 0⟩
theorem badP_iff (l : List Pa) (i : Nat) : badP l i = true ↔ ((gP l i).2.2.2.2.1 < 1 ∨ 1000000 < (gP l i).2.2.2.2.1 ∨ (gP l i).2.2.2.1 < 0 ∨ 255 < (gP l i).2.2.2.1 ∨ (gP l i).2.2.2.2.2 < 0 ∨ 1000000000000 < (gP l i).2.2.2.2.2
    ∨ (gP l i).1 < 0 ∨ 1000000 < (gP l i).1 ∨ (gP l i).2.1 < 0 ∨ 1000000 < (gP l i).2.1 ∨ (gP l i).2.2.1 < 0 ∨ 1000000 < (gP l i).2.2.1) ∨ (0 < i ∧ 0 ≤ compareR (gP l (i - 1)) (gP l i)) := by
  simp only [badP, soundR, in0, Bool.or_eq_true, Bool.not_eq_true', Bool.and_eq_false_iff, Bool.and_eq_true, decide_eq_true_eq, decide_eq_false_iff_not]
  omega
theorem k20 : FnOk Go.Proofs.Try.prog 20 K20 := by
  refine fn_ok (E := E20) (TOk.of tab_told) (AllOk.cons k46 (.cons k42 .nil)).at_ mix Go.Proofs.Try.func20 rfl rfl (by kernel_rfl) K20 ?_
  rintro (l : List Pa) hp
  have hl : l.length ≤ 100000 := hp _ (List.mem_cons_self ..)
  clear hp
  conv => whnf
  refine cond_intro (fun hlarge => ?_) (fun hsmall => ?_)
  · have hlarge : 200 < (l.length : Int) := @of_decide_eq_true _ _ hlarge
    conv => whnf
    show 4 = cargoR l
    rw [cargoR, if_pos (by omega)]
  have hsmall : ¬ 200 < (l.length : Int) := @of_decide_eq_false _ _ hsmall
  conv => whnf
  refine loop_rule (S20 l) (fun i => ((l.length : Int) - i).toNat) (fun i => 0 ≤ i ∧ i ≤ l.length ∧ ∀ j : Nat, (j : Int) < i → badP l j = false) ?_ 0 (by kernel_rfl) ?_ ⟨by omega, by omega, fun j hj => by omega⟩
  case refine_2 => rfl
  rintro i ⟨h0, h1, h2⟩
  conv => whnf
  refine cond_intro (fun hlt => ?_) (fun hge => ?_)
  · have hlt : i < l.length := @of_decide_eq_true _ _ hlt
    have hbad : badP l i.toNat = true → 1 = cargoR l := by
      intro hb
      rw [cargoR, if_neg (by omega), if_pos]
      exact List.any_eq_true.2 ⟨i.toNat, List.mem_range.2 (by omega), hb⟩
    have hw : IntKind.i64.wrap (i + 1) = i + 1 := wrap_eq (by omega) (by omega)
    have hw' : IntKind.i64.wrap (i - 1) = i - 1 := wrap_eq (by omega) (by omega)
    have hnext : badP l i.toNat = false → ∀ j : Nat, (j : Int) < i + 1 → badP l j = false := by
      intro hb j hj
      by_cases hji : (j : Int) < i
      · exact h2 j hji
      · rw [show j = i.toNat by omega]; exact hb
    conv => whnf
    refine ⟨h0, ?_⟩
    conv => whnf
    refine ⟨hlt, ?_⟩
    conv => whnf
    refine cond_intro (fun hpos => ?_) (fun hz => ?_)
    · have hpos : 0 < i := @of_decide_eq_true _ _ hpos
      conv => whnf
      refine ⟨show 0 ≤ IntKind.i64.wrap (i - 1) by rw [hw']; omega, ?_⟩
      conv => whnf
      refine ⟨show IntKind.i64.wrap (i - 1) < (l.length : Int) by rw [hw']; omega, ?_⟩
      have ei : (i - 1).toNat = i.toNat - 1 := by omega
      conv => whnf
      refine cond_intro (fun q0 => ?_) (fun q0 => ?_)
      · have q0 : (!decide (compareR (gP l (IntKind.i64.wrap (i - 1)).toNat) (gP l i.toNat) < 0)) = true := q0
        rw [hw', ei] at q0
        conv => whnf
        exact hbad (by rw [badP_iff]; simp only [Bool.not_eq_true', decide_eq_false_iff_not] at q0; omega)
      have q0 : (!decide (compareR (gP l (IntKind.i64.wrap (i - 1)).toNat) (gP l i.toNat) < 0)) = false := q0
      rw [hw', ei] at q0
      conv => whnf
      refine cond_intro (fun q1 => ?_) (fun q1 => ?_)
      · have q1 : decide ((gP l i.toNat).2.2.2.2.1 < 1) = true := q1
        conv => whnf
        exact hbad (by rw [badP_iff]; simp only [Bool.or_eq_true, decide_eq_true_eq, Bool.not_eq_true', decide_eq_false_iff_not] at q1; omega)
      have q1 : decide ((gP l i.toNat).2.2.2.2.1 < 1) = false := q1
      conv => whnf
      refine cond_intro (fun q2 => ?_) (fun q2 => ?_)
      · have q2 : decide (1000000 < (gP l i.toNat).2.2.2.2.1) = true := q2
        conv => whnf
        exact hbad (by rw [badP_iff]; simp only [Bool.or_eq_true, decide_eq_true_eq, Bool.not_eq_true', decide_eq_false_iff_not] at q2; omega)
      have q2 : decide (1000000 < (gP l i.toNat).2.2.2.2.1) = false := q2
      conv => whnf
      refine cond_intro (fun q3 => ?_) (fun q3 => ?_)
      · have q3 : (decide ((gP l i.toNat).2.2.2.1 < 0) || decide (255 < (gP l i.toNat).2.2.2.1)) = true := q3
        conv => whnf
        exact hbad (by rw [badP_iff]; simp only [Bool.or_eq_true, decide_eq_true_eq, Bool.not_eq_true', decide_eq_false_iff_not] at q3; omega)
      have q3 : (decide ((gP l i.toNat).2.2.2.1 < 0) || decide (255 < (gP l i.toNat).2.2.2.1)) = false := q3
      conv => whnf
      refine cond_intro (fun q4 => ?_) (fun q4 => ?_)
      · have q4 : (decide ((gP l i.toNat).2.2.2.2.2 < 0) || decide (1000000000000 < (gP l i.toNat).2.2.2.2.2)) = true := q4
        conv => whnf
        exact hbad (by rw [badP_iff]; simp only [Bool.or_eq_true, decide_eq_true_eq, Bool.not_eq_true', decide_eq_false_iff_not] at q4; omega)
      have q4 : (decide ((gP l i.toNat).2.2.2.2.2 < 0) || decide (1000000000000 < (gP l i.toNat).2.2.2.2.2)) = false := q4
      conv => whnf
      refine cond_intro (fun q5 => ?_) (fun q5 => ?_)
      · have q5 : (decide ((gP l i.toNat).1 < 0) || decide (1000000 < (gP l i.toNat).1)) = true := q5
        conv => whnf
        exact hbad (by rw [badP_iff]; simp only [Bool.or_eq_true, decide_eq_true_eq, Bool.not_eq_true', decide_eq_false_iff_not] at q5; omega)
      have q5 : (decide ((gP l i.toNat).1 < 0) || decide (1000000 < (gP l i.toNat).1)) = false := q5
      conv => whnf
      refine cond_intro (fun q6 => ?_) (fun q6 => ?_)
      · have q6 : (decide ((gP l i.toNat).2.1 < 0) || decide (1000000 < (gP l i.toNat).2.1)) = true := q6
        conv => whnf
        exact hbad (by rw [badP_iff]; simp only [Bool.or_eq_true, decide_eq_true_eq, Bool.not_eq_true', decide_eq_false_iff_not] at q6; omega)
      have q6 : (decide ((gP l i.toNat).2.1 < 0) || decide (1000000 < (gP l i.toNat).2.1)) = false := q6
      conv => whnf
      refine cond_intro (fun q7 => ?_) (fun q7 => ?_)
      · have q7 : (decide ((gP l i.toNat).2.2.1 < 0) || decide (1000000 < (gP l i.toNat).2.2.1)) = true := q7
        conv => whnf
        exact hbad (by rw [badP_iff]; simp only [Bool.or_eq_true, decide_eq_true_eq, Bool.not_eq_true', decide_eq_false_iff_not] at q7; omega)
      have q7 : (decide ((gP l i.toNat).2.2.1 < 0) || decide (1000000 < (gP l i.toNat).2.2.1)) = false := q7
      conv => whnf
      refine ⟨i + 1, ?_, ⟨by omega, by omega, hnext ?_⟩, by omega⟩
      · exact Eq.trans (b := S20 l (IntKind.i64.wrap (i + 1))) rfl (by rw [hw])
      · rw [← Bool.not_eq_true, badP_iff]
        simp only [Bool.or_eq_false_iff, decide_eq_false_iff_not, Bool.not_eq_false', decide_eq_true_eq] at *
        omega
    · have hz : ¬ 0 < i := @of_decide_eq_false _ _ hz
      conv => whnf
      refine cond_intro (fun q1 => ?_) (fun q1 => ?_)
      · have q1 : decide ((gP l i.toNat).2.2.2.2.1 < 1) = true := q1
        conv => whnf
        exact hbad (by rw [badP_iff]; simp only [Bool.or_eq_true, decide_eq_true_eq, Bool.not_eq_true', decide_eq_false_iff_not] at q1; omega)
      have q1 : decide ((gP l i.toNat).2.2.2.2.1 < 1) = false := q1
      conv => whnf
      refine cond_intro (fun q2 => ?_) (fun q2 => ?_)
      · have q2 : decide (1000000 < (gP l i.toNat).2.2.2.2.1) = true := q2
        conv => whnf
        exact hbad (by rw [badP_iff]; simp only [Bool.or_eq_true, decide_eq_true_eq, Bool.not_eq_true', decide_eq_false_iff_not] at q2; omega)
      have q2 : decide (1000000 < (gP l i.toNat).2.2.2.2.1) = false := q2
      conv => whnf
      refine cond_intro (fun q3 => ?_) (fun q3 => ?_)
      · have q3 : (decide ((gP l i.toNat).2.2.2.1 < 0) || decide (255 < (gP l i.toNat).2.2.2.1)) = true := q3
        conv => whnf
        exact hbad (by rw [badP_iff]; simp only [Bool.or_eq_true, decide_eq_true_eq, Bool.not_eq_true', decide_eq_false_iff_not] at q3; omega)
      have q3 : (decide ((gP l i.toNat).2.2.2.1 < 0) || decide (255 < (gP l i.toNat).2.2.2.1)) = false := q3
      conv => whnf
      refine cond_intro (fun q4 => ?_) (fun q4 => ?_)
      · have q4 : (decide ((gP l i.toNat).2.2.2.2.2 < 0) || decide (1000000000000 < (gP l i.toNat).2.2.2.2.2)) = true := q4
        conv => whnf
        exact hbad (by rw [badP_iff]; simp only [Bool.or_eq_true, decide_eq_true_eq, Bool.not_eq_true', decide_eq_false_iff_not] at q4; omega)
      have q4 : (decide ((gP l i.toNat).2.2.2.2.2 < 0) || decide (1000000000000 < (gP l i.toNat).2.2.2.2.2)) = false := q4
      conv => whnf
      refine cond_intro (fun q5 => ?_) (fun q5 => ?_)
      · have q5 : (decide ((gP l i.toNat).1 < 0) || decide (1000000 < (gP l i.toNat).1)) = true := q5
        conv => whnf
        exact hbad (by rw [badP_iff]; simp only [Bool.or_eq_true, decide_eq_true_eq, Bool.not_eq_true', decide_eq_false_iff_not] at q5; omega)
      have q5 : (decide ((gP l i.toNat).1 < 0) || decide (1000000 < (gP l i.toNat).1)) = false := q5
      conv => whnf
      refine cond_intro (fun q6 => ?_) (fun q6 => ?_)
      · have q6 : (decide ((gP l i.toNat).2.1 < 0) || decide (1000000 < (gP l i.toNat).2.1)) = true := q6
        conv => whnf
        exact hbad (by rw [badP_iff]; simp only [Bool.or_eq_true, decide_eq_true_eq, Bool.not_eq_true', decide_eq_false_iff_not] at q6; omega)
      have q6 : (decide ((gP l i.toNat).2.1 < 0) || decide (1000000 < (gP l i.toNat).2.1)) = false := q6
      conv => whnf
      refine cond_intro (fun q7 => ?_) (fun q7 => ?_)
      · have q7 : (decide ((gP l i.toNat).2.2.1 < 0) || decide (1000000 < (gP l i.toNat).2.2.1)) = true := q7
        conv => whnf
        exact hbad (by rw [badP_iff]; simp only [Bool.or_eq_true, decide_eq_true_eq, Bool.not_eq_true', decide_eq_false_iff_not] at q7; omega)
      have q7 : (decide ((gP l i.toNat).2.2.1 < 0) || decide (1000000 < (gP l i.toNat).2.2.1)) = false := q7
      conv => whnf
      refine ⟨i + 1, ?_, ⟨by omega, by omega, hnext ?_⟩, by omega⟩
      · exact Eq.trans (b := S20 l (IntKind.i64.wrap (i + 1))) rfl (by rw [hw])
      · rw [← Bool.not_eq_true, badP_iff]
        simp only [Bool.or_eq_false_iff, decide_eq_false_iff_not, Bool.not_eq_false', decide_eq_true_eq] at *
        omega
  · have hge : ¬ i < l.length := @of_decide_eq_false _ _ hge
    conv => whnf
    show 0 = cargoR l
    rw [cargoR, if_neg (by omega), if_neg]
    intro hx
    obtain ⟨j, hj, hb⟩ := List.any_eq_true.1 hx
    rw [h2 j (by have := List.mem_range.1 hj; omega)] at hb
    cases hb
theorem pa_eq (a b : Pa) : decide (a = b) = (decide (a.1 = b.1) && (decide (a.2.1 = b.2.1) && (decide (a.2.2.1 = b.2.2.1) && (decide (a.2.2.2.1 = b.2.2.2.1) && (decide (a.2.2.2.2.1 = b.2.2.2.2.1) && (decide (a.2.2.2.2.2 = b.2.2.2.2.2) && true)))))) := by
  rw [Bool.eq_iff_iff]; simp [Prod.ext_iff]
def eqPa (l m : List Pa) : Bool := decide (l = m)
def E30 : Env := ⟨tab, [], fun n => match n with | 4 => some ([0, 1, 5], [], []) | _ => none⟩
def K30 : Fn1 := ⟨.fld (.sl paT) (.one (.sl paT)), .one .bool, fun (a : List Pa × List Pa) => [a.1.length ≤ 100000], fun (a : List Pa × List Pa) => eqPa a.1 a.2⟩
def S30 (l m : List Pa) (i : Int) : SL := ⟨[.sl paT l, .sl paT m, .undef, .undef, .undef, .int .i64 i] ++ List.replicate 20 .undef, [], 0⟩
theorem k30 : FnOk Go.Proofs.Try.prog 30 K30 := by
  refine fn_ok (E := E30) (TOk.of tab_told) (fun f k h => by cases h) mix Go.Proofs.Try.func30 rfl rfl (by kernel_rfl) K30 ?_
  rintro ⟨(l : List Pa), (m : List Pa)⟩ hp
  have hl : l.length ≤ 100000 := hp _ (List.mem_cons_self ..)
  clear hp
  conv => whnf
  refine cond_intro (fun h => ?_) (fun h => ?_)
  · have h : (!decide ((l.length : Int) = (m.length : Int))) = true := h
    have h : ¬ (l.length : Int) = (m.length : Int) := by simpa using h
    conv => whnf
    show false = eqPa l m
    symm
    simp only [eqPa, decide_eq_false_iff_not]
    intro e; subst e; exact h rfl
  have h : (!decide ((l.length : Int) = (m.length : Int))) = false := h
  have h : (l.length : Int) = (m.length : Int) := by simpa using h
  have h : l.length = m.length := by omega
  conv => whnf
  refine loop_rule (S30 l m) (fun i => ((l.length : Int) - i).toNat) (fun i => 0 ≤ i ∧ i ≤ l.length ∧ l.take i.toNat = m.take i.toNat) ?_ 0 (by kernel_rfl) ?_ ⟨by omega, by omega, by simp⟩
  case refine_2 => rfl
  rintro i ⟨h0, h1, h2⟩
  conv => whnf
  refine cond_intro (fun hlt => ?_) (fun hge => ?_)
  · have hlt : i < l.length := @of_decide_eq_true _ _ hlt
    have hlm : i < m.length := by omega
    have e : gP l i.toNat = l[i.toNat]'(by omega) := gP_eq (by omega)
    have e' : gP m i.toNat = m[i.toNat]'(by omega) := gP_eq (by omega)
    have ht : l.take (i.toNat + 1) = l.take i.toNat ++ [gP l i.toNat] := by rw [List.take_succ_eq_append_getElem (by omega), e]
    have ht' : m.take (i.toNat + 1) = m.take i.toNat ++ [gP m i.toNat] := by rw [List.take_succ_eq_append_getElem (by omega), e']
    conv => whnf
    refine ⟨h0, ?_⟩
    conv => whnf
    refine ⟨hlt, ?_⟩
    conv => whnf
    refine ⟨h0, ?_⟩
    conv => whnf
    refine ⟨hlm, ?_⟩
    conv => whnf
    refine cond_intro (fun hd => ?_) (fun hd => ?_)
    · have hd : (!decide (gP l i.toNat = gP m i.toNat)) = true := by rw [pa_eq]; exact hd
      have hd : ¬ gP l i.toNat = gP m i.toNat := by simpa using hd
      conv => whnf
      show false = eqPa l m
      symm
      simp only [eqPa, decide_eq_false_iff_not]
      intro e; subst e; exact hd rfl
    · have hd : (!decide (gP l i.toNat = gP m i.toNat)) = false := by rw [pa_eq]; exact hd
      have hd : gP l i.toNat = gP m i.toNat := by simpa using hd
      conv => whnf
      have hw : IntKind.i64.wrap (i + 1) = i + 1 := wrap_eq (by omega) (by omega)
      refine ⟨i + 1, ?_, ⟨by omega, by omega, ?_⟩, by omega⟩
      · exact Eq.trans (b := S30 l m (IntKind.i64.wrap (i + 1))) rfl (by rw [hw])
      · rw [show (i + 1).toNat = i.toNat + 1 by omega, ht, ht', h2, hd]
  · have hge : ¬ i < l.length := @of_decide_eq_false _ _ hge
    conv => whnf
    show true = eqPa l m
    symm
    simp only [eqPa, decide_eq_true_eq]
    rw [List.take_of_length_le (by omega), List.take_of_length_le (by omega)] at h2
    exact h2
end
end Go.Proofs.Ytmphplpfgjcpiaa.Eng
set_option linter.unusedVariables false
set_option linter.unusedSimpArgs false
namespace Go.Proofs
open Go.Shelf Go.RowKit Go.Lib Go.Sort
shelf_lay_g SlLaysF0.n6 Slsf 6 at Try 75 as Try.sortPa
end Go.Proofs
namespace Go.Proofs.Ytmphplpfgjcpiaa.Eng
open Go Go.RowKit
set_option maxRecDepth 100000
noncomputable section
def ltP (a b : Pa) : Bool := decide (compareR a b < 0)
theorem ltP_iff (a b : Pa) : ltP a b = true ↔ a.1 < b.1 ∨ (a.1 = b.1 ∧ (a.2.1 < b.2.1 ∨ (a.2.1 = b.2.1 ∧ (a.2.2.1 < b.2.2.1 ∨ (a.2.2.1 = b.2.2.1 ∧ a.2.2.2.1 < b.2.2.2.1))))) := by
  unfold ltP
  rw [decide_eq_true_eq, compareR, find4]
  by_cases h1 : a.1 = b.1 <;> by_cases h2 : a.2.1 = b.2.1 <;> by_cases h3 : a.2.2.1 = b.2.2.1 <;> simp [cmpR_lt, cmpR_eq, h1, h2, h3]
theorem ltP_no (a b : Pa) : ltP a b = false ↔ ¬ (a.1 < b.1 ∨ (a.1 = b.1 ∧ (a.2.1 < b.2.1 ∨ (a.2.1 = b.2.1 ∧ (a.2.2.1 < b.2.2.1 ∨ (a.2.2.1 = b.2.2.1 ∧ a.2.2.2.1 < b.2.2.2.1)))))) := by
  rw [← ltP_iff, Bool.not_eq_true]
theorem swoP0 : Go.Sort.SWO ltP := by
  refine ⟨fun x => ?_, fun x y z h g => ?_, fun x y z h g => ?_⟩
  · rw [ltP_no]; omega
  · rw [ltP_iff] at *; omega
  · rw [ltP_no] at *; omega
theorem swoP : Go.Sort.SWO (ltOf (α := paT.D) compareR) := swoP0
def K55 : Fn1 := ⟨.one (.sl paT), .one (.sl paT), fun (l : List Pa) => [l.length ≤ 1000000], fun (l : List Pa) => l⟩
theorem k55 : FnOk Go.Proofs.Try.prog 55 K55 := by
  refine fn_okN (E := E0) (TOk.of tab_told) noK mix Go.Proofs.Try.func55 rfl rfl (by kernel_rfl) paT (.one (.sl paT)) (fun (l : List Pa) => [l.length ≤ 1000000]) (fun (l : List Pa) => l) (fun hp => ?_) (fun (l : List Pa) hp => ?_)
  · clear hp
    conv => whnf
    rfl
  · have hl : l.length ≤ 1000000 := hp _ (List.mem_cons_self ..)
    clear hp
    conv => whnf
    refine ⟨show (0 + l.length) * 48 ≤ 70368744177664 by omega, ?_⟩
    conv => whnf
    refine ⟨show 0 + l.length ≤ 70368744177664 by omega, ?_⟩
    conv => whnf
    rfl
def X75 : List AV → Nat → Rd Res := sortX paT 48 compareR
theorem k75 : FxOk Go.Proofs.Try.prog 75 X75 := sort_ok (t := paT) (ks := [5, 5, 5, 5, 5, 5]) Go.Proofs.Try.sortPa rfl rfl Go.Proofs.Try.isAgg44 Go.Proofs.Try.sizeOf44 k48 ⟨_, _, Go.Proofs.Try.func75, rfl, rfl⟩
def sortP (l : List Pa) : List Pa := sortD paT compareR l
def E66 : Env := ⟨tab, [(55, K55), (75, .eff X75)], ann0⟩
def K66 : Fn1 := ⟨.one (.sl paT), .one (.sl paT), fun (l : List Pa) => [l.length ≤ 1000000], fun (l : List Pa) => sortP l⟩
theorem k66 : FnOkF Go.Proofs.Try.prog 66 48 K66 := by
  refine fn_okF (E := E66) (TOk.of tab_told) (AllOk.cons k55 (.consX k75 .nil)).at_ mix Go.Proofs.Try.func66 rfl rfl (by kernel_rfl) 48 K66 ?_
  rintro (l : List Pa) hp
  have hl : l.length ≤ 1000000 := hp _ (List.mem_cons_self ..)
  clear hp
  conv => whnf
  refine ⟨hl, ?_⟩
  conv => whnf
  refine ⟨swoP, ?_⟩
  conv => whnf
  refine ⟨show l.length < 4611686018427387904 by omega, ?_⟩
  conv => whnf
  rfl
end
end Go.Proofs.Ytmphplpfgjcpiaa.Eng
set_option linter.unusedVariables false
set_option linter.unusedSimpArgs false
namespace Go.Proofs.Ytmphplpfgjcpiaa.Eng
open Go Go.RowKit
set_option maxRecDepth 100000
noncomputable section
theorem wrap_add (a b : Int) : IntKind.i64.wrap (IntKind.i64.wrap a + b) = IntKind.i64.wrap (a + b) := by
  simp only [IntKind.wrap_i64]; omega
/-- Two parcels that are alike, as one. -/
def addP (x p : Pa) : Pa := (x.1, x.2.1, x.2.2.1, x.2.2.2.1, IntKind.i64.wrap (x.2.2.2.2.1 + p.2.2.2.2.1), IntKind.i64.wrap (x.2.2.2.2.2 + p.2.2.2.2.2))
def sameP (x p : Pa) : Prop := x.1 = p.1 ∧ x.2.1 = p.2.1 ∧ x.2.2.1 = p.2.2.1 ∧ x.2.2.2.1 = p.2.2.2.1
instance (x p : Pa) : Decidable (sameP x p) := by unfold sameP; infer_instance
theorem add_lt1 (x p q : Pa) : ltP (addP x p) q = ltP x q := rfl
theorem add_lt2 (x p q : Pa) : ltP q (addP x p) = ltP q x := rfl
theorem same_of {x p : Pa} (h : ltP x p = false) (g : ltP p x = false) : sameP x p := by
  rw [ltP_no] at h g; unfold sameP; omega
theorem same_lt {x p : Pa} (h : sameP x p) : ltP x p = false ∧ ltP p x = false := by
  rw [ltP_no, ltP_no]; unfold sameP at h; omega
theorem same_l {x p : Pa} (h : sameP x p) (q : Pa) : ltP x q = ltP p q ∧ ltP q x = ltP q p := by
  obtain ⟨a, b, c, d⟩ := h
  constructor <;> rw [Bool.eq_iff_iff, ltP_iff, ltP_iff, a, b, c, d]
theorem lt_anti {x p : Pa} (h : ltP x p = true) : ltP p x = false := by
  rw [ltP_iff] at h; rw [ltP_no]; omega
theorem lt_trans' {x y z : Pa} (h : ltP x y = true) (g : ltP y z = true) : ltP x z = true := swoP0.trans x y z h g
theorem tri (x p : Pa) : (ltP x p = true ∧ ltP p x = false) ∨ (ltP x p = false ∧ ltP p x = true) ∨ (ltP x p = false ∧ ltP p x = false ∧ sameP x p) := by
  cases h : ltP x p with
  | true => exact Or.inl ⟨rfl, lt_anti h⟩
  | false => cases g : ltP p x with
    | true => exact Or.inr (Or.inl ⟨rfl, rfl⟩)
    | false => exact Or.inr (Or.inr ⟨rfl, rfl, same_of h g⟩)
def putW : List Pa → Pa → List Pa
  | [], p => [p]
  | x :: l, p => if ltP x p = true then x :: putW l p else if ltP p x = true then p :: x :: l else addP x p :: l
theorem addP_comm {p q : Pa} (h : sameP p q) : addP p q = addP q p := by
  obtain ⟨a, b, c, d⟩ := h
  unfold addP
  rw [a, b, c, d, Int.add_comm, Int.add_comm p.2.2.2.2.2]
theorem addP_right (x p q : Pa) : addP (addP x p) q = addP (addP x q) p := by
  unfold addP
  simp only [wrap_add]
  rw [Int.add_right_comm, Int.add_right_comm x.2.2.2.2.2]
theorem addP_assoc (x p q : Pa) : addP x (addP p q) = addP (addP x p) q := by
  unfold addP
  have e : ∀ a b c : Int, IntKind.i64.wrap (a + IntKind.i64.wrap (b + c)) = IntKind.i64.wrap (IntKind.i64.wrap (a + b) + c) := by
    intro a b c
    rw [wrap_add, Int.add_comm a, wrap_add, Int.add_comm (b + c), Int.add_assoc]
  simp only [e]
theorem put_comm : ∀ (m : List Pa) (p q : Pa), putW (putW m p) q = putW (putW m q) p
  | [], p, q => by
    rcases tri p q with ⟨h, g⟩ | ⟨h, g⟩ | ⟨h, g, e⟩ <;> simp [putW, h, g]
    exact addP_comm e
  | x :: l, p, q => by
    rcases tri x p with ⟨h1, g1⟩ | ⟨h1, g1⟩ | ⟨h1, g1, e1⟩ <;> rcases tri x q with ⟨h2, g2⟩ | ⟨h2, g2⟩ | ⟨h2, g2, e2⟩
    · simp [putW, h1, g1, h2, g2, put_comm l p q]
    · have h3 := lt_trans' g2 h1
      simp [putW, h1, g1, h2, g2, h3, lt_anti h3]
    · simp [putW, h1, g1, h2, g2, add_lt1, add_lt2]
    · have h3 := lt_trans' g1 h2
      simp [putW, h1, g1, h2, g2, h3, lt_anti h3]
    · rcases tri p q with ⟨h, g⟩ | ⟨h, g⟩ | ⟨h, g, e⟩ <;> simp [putW, h, g, h1, g1, h2, g2]
      exact addP_comm e
    · have h3 := (same_l e2 p)
      simp [putW, h1, g1, h2, g2, add_lt1, add_lt2, ← h3.1, ← h3.2]
    · simp [putW, h1, g1, h2, g2, add_lt1, add_lt2]
    · have h3 := (same_l e1 q)
      simp [putW, h1, g1, h2, g2, add_lt1, add_lt2, ← h3.1, ← h3.2]
    · simp [putW, h1, g1, h2, g2, add_lt1, add_lt2, addP_right x p q]
theorem put_merge : ∀ (m : List Pa) (x p : Pa), sameP x p → putW m (addP x p) = putW (putW m x) p
  | [], x, p, e => by
    obtain ⟨h, g⟩ := same_lt e
    simp [putW, h, g]
  | y :: m, x, p, e => by
    obtain ⟨h, g⟩ := same_lt e
    have h3 := same_l e y
    rcases tri y x with ⟨h1, g1⟩ | ⟨h1, g1⟩ | ⟨h1, g1, e1⟩
    · simp [putW, h1, add_lt2, ← h3.2, put_merge m x p e]
    · simp [putW, h1, g1, add_lt2, add_lt1, h, g]
    · simp [putW, h1, g1, add_lt2, add_lt1, ← h3.2, ← h3.1, addP_assoc]
/-- Parcels, put together one by one. -/
def fold (m l : List Pa) : List Pa := l.foldl putW m
def N (l : List Pa) : List Pa := fold [] l
theorem fold_nil (m : List Pa) : fold m [] = m := rfl
theorem fold_cons (m l : List Pa) (p : Pa) : fold m (p :: l) = fold (putW m p) l := rfl
theorem fold_app (m l k : List Pa) : fold m (l ++ k) = fold (fold m l) k := List.foldl_append
theorem fold_put_l : ∀ (l m : List Pa) (p : Pa), fold (putW m p) l = putW (fold m l) p
  | [], m, p => rfl
  | x :: l, m, p => by rw [fold_cons, put_comm, fold_put_l l, fold_cons]
theorem fold_perm {l k : List Pa} (h : l.Perm k) : ∀ m, fold m l = fold m k := by
  induction h with
  | nil => intro m; rfl
  | cons x _ ih => intro m; rw [fold_cons, fold_cons, ih]
  | swap x y l => intro m; rw [fold_cons, fold_cons, fold_cons, fold_cons, put_comm]
  | trans _ _ ih1 ih2 => intro m; rw [ih1, ih2]
/-- What is put together apart from age, changed by something that keeps with it. -/
structure Hom (g : Pa → Pa) : Prop where
  add : ∀ x p, sameP x p → g (addP x p) = addP (g x) (g p)
  same : ∀ x p, sameP x p → sameP (g x) (g p)
theorem homId : Hom id := ⟨fun _ _ _ => rfl, fun _ _ h => h⟩
theorem fold_map_put {g : Pa → Pa} (hg : Hom g) : ∀ (t m : List Pa) (p : Pa), fold m ((putW t p).map g) = putW (fold m (t.map g)) (g p)
  | [], m, p => rfl
  | x :: t, m, p => by
    rcases tri x p with ⟨h, k⟩ | ⟨h, k⟩ | ⟨h, k, e⟩
    · simp only [putW, h, if_true, List.map_cons, fold_cons]
      exact fold_map_put hg t _ p
    · simp only [putW, h, k, if_true, List.map_cons, fold_cons, Bool.false_eq_true, if_false]
      rw [put_comm, fold_put_l]
    · simp only [putW, h, k, List.map_cons, fold_cons, Bool.false_eq_true, if_false]
      rw [hg.add x p e, put_merge _ _ _ (hg.same x p e), fold_put_l]
theorem fold_map_fold {g : Pa → Pa} (hg : Hom g) : ∀ (a t m : List Pa), fold m ((fold t a).map g) = fold (fold m (t.map g)) (a.map g)
  | [], t, m => rfl
  | p :: a, t, m => by rw [fold_cons, fold_map_fold hg a, fold_map_put hg, List.map_cons, fold_cons]
theorem N_map {g : Pa → Pa} (hg : Hom g) (l : List Pa) : N ((N l).map g) = N (l.map g) := fold_map_fold hg l [] []
theorem fold_N (m l : List Pa) : fold m (N l) = fold m l := by
  have := fold_map_fold homId l [] m
  simp only [List.map_id, fold_nil] at this
  exact this
theorem N_append (a b : List Pa) : N (a ++ b) = fold (N a) b := fold_app _ _ _
theorem N_app_l (a b : List Pa) : N (N a ++ b) = N (a ++ b) := by
  rw [N_append, N_append]
  congr 1
  exact fold_N [] a
theorem N_app_r (a b : List Pa) : N (a ++ N b) = N (a ++ b) := by rw [N_append, N_append, fold_N]
theorem N_perm {a b : List Pa} (h : a.Perm b) : N a = N b := fold_perm h []
/-- Parcels in order. -/
def Srt (l : List Pa) : Prop := l.Pairwise fun a b => ltP a b = true
theorem put_end : ∀ (m : List Pa) (p : Pa), (∀ x ∈ m, ltP x p = true) → putW m p = m ++ [p]
  | [], p, h => rfl
  | x :: m, p, h => by
    simp only [putW, h x List.mem_cons_self, if_true]
    rw [put_end m p fun y hy => h y (List.mem_cons_of_mem _ hy)]; rfl
theorem fold_srt : ∀ (s m : List Pa), Srt (m ++ s) → fold m s = m ++ s
  | [], m, h => by rw [fold_nil, List.append_nil]
  | x :: s, m, h => by
    have h1 := (List.pairwise_append.1 h).2.2
    rw [fold_cons, put_end m x (fun y hy => h1 y hy x List.mem_cons_self), fold_srt s (m ++ [x]) (by rw [List.append_assoc]; exact h), List.append_assoc]; rfl
theorem N_srt {s : List Pa} (h : Srt s) : N s = s := fold_srt s [] h
/-- No two parcels are alike. -/
def Dist (l : List Pa) : Prop := l.Pairwise fun a b => ¬ sameP a b
theorem same_symm {a b : Pa} (h : sameP a b) : sameP b a := by unfold sameP at *; omega
theorem sortP_perm (l : List Pa) : (sortP l).Perm l := (sortD_perm swoP l).1
theorem sortP_srt {l : List Pa} (h : Dist l) : Srt (sortP l) := by
  have hd : Dist (sortP l) := (sortP_perm l).symm.pairwise h (fun hxy hyx => hxy (same_symm hyx))
  unfold Srt
  rw [List.pairwise_iff_getElem]
  intro i j hi hj hij
  have h1 : ltP (sortP l)[j] (sortP l)[i] = false := (sortD_perm swoP l).2 i j _ _ hij (List.getElem?_eq_getElem hi) (List.getElem?_eq_getElem hj)
  have h2 := List.pairwise_iff_getElem.1 hd i j hi hj hij
  rcases tri (sortP l)[i] (sortP l)[j] with ⟨h, _⟩ | ⟨_, h⟩ | ⟨_, _, h⟩
  · exact h
  · rw [h1] at h; cases h
  · exact absurd h h2
theorem N_sort {l : List Pa} (h : Dist l) : N l = sortP l := by
  rw [← N_perm (sortP_perm l), N_srt (sortP_srt h)]
end
end Go.Proofs.Ytmphplpfgjcpiaa.Eng
set_option linter.unusedVariables false
set_option linter.unusedSimpArgs false
namespace Go.Proofs.Ytmphplpfgjcpiaa.Eng
open Go Go.RowKit
set_option maxRecDepth 100000
noncomputable section
def okP (p : Pa) : Prop := soundR p = true
theorem okP_iff (p : Pa) : okP p ↔ (1 ≤ p.2.2.2.2.1 ∧ p.2.2.2.2.1 ≤ 1000000) ∧ (0 ≤ p.2.2.2.1 ∧ p.2.2.2.1 ≤ 255) ∧ (0 ≤ p.2.2.2.2.2 ∧ p.2.2.2.2.2 ≤ 1000000000000) ∧ (0 ≤ p.1 ∧ p.1 ≤ 1000000) ∧ (0 ≤ p.2.1 ∧ p.2.1 ≤ 1000000) ∧ (0 ≤ p.2.2.1 ∧ p.2.2.1 ≤ 1000000) := by
  simp [okP, soundR, in0, and_assoc]
theorem bad_no (l : List Pa) (i : Nat) : badP l i = false ↔ okP (gP l i) ∧ (0 < i → ltP (gP l (i - 1)) (gP l i) = true) := by
  unfold badP okP ltP
  cases h : soundR (gP l i) <;> simp [Int.not_le]
theorem cargo_zero (l : List Pa) : cargoR l = 0 ↔ l.length ≤ 200 ∧ Srt l ∧ ∀ p ∈ l, okP p := by
  unfold cargoR
  by_cases hl : 200 < l.length
  · rw [if_pos hl]
    constructor
    · intro h; cases h
    · rintro ⟨h, _⟩; omega
  rw [if_neg hl]
  by_cases hb : (List.range l.length).any (badP l) = true
  · rw [if_pos hb]
    constructor
    · intro h; cases h
    · rintro ⟨_, hs, ho⟩
      obtain ⟨i, hi, hbad⟩ := List.any_eq_true.1 hb
      have hi := List.mem_range.1 hi
      have : badP l i = false := by
        rw [bad_no]
        refine ⟨by rw [gP_eq hi]; exact ho _ (List.getElem_mem _), fun hp => ?_⟩
        rw [gP_eq hi, gP_eq (show i - 1 < l.length by omega)]
        exact List.pairwise_iff_getElem.1 hs _ _ _ _ (by omega)
      rw [this] at hbad; cases hbad
  · rw [if_neg hb]
    refine ⟨fun _ => ?_, fun _ => rfl⟩
    have hno : ∀ i (hi : i < l.length), badP l i = false := by
      intro i hi
      cases e : badP l i with
      | false => rfl
      | true => exact absurd (List.any_eq_true.2 ⟨i, List.mem_range.2 hi, e⟩) hb
    refine ⟨by omega, ?_, ?_⟩
    · unfold Srt
      rw [List.pairwise_iff_getElem]
      intro i j hi hj hij
      obtain ⟨d, rfl⟩ : ∃ d, j = i + d + 1 := ⟨j - i - 1, by omega⟩
      induction d with
      | zero =>
        have := ((bad_no l (i + 0 + 1)).1 (hno _ hj)).2 (by omega)
        rw [gP_eq hj, gP_eq (show i + 0 + 1 - 1 < l.length by omega)] at this
        simpa using this
      | succ d ih =>
        have h1 := ih (by omega) (by omega)
        have := ((bad_no l (i + (d + 1) + 1)).1 (hno _ hj)).2 (by omega)
        rw [gP_eq hj, gP_eq (show i + (d + 1) + 1 - 1 < l.length by omega)] at this
        simp only [Nat.add_sub_cancel] at this
        exact lt_trans' h1 this
    · intro p hp
      obtain ⟨i, hi, rfl⟩ := List.getElem_of_mem hp
      have := ((bad_no l i).1 (hno _ hi)).1
      rwa [gP_eq hi] at this
/-- Too much of one kind. -/
def Big (p : Pa) : Prop := 1000000 < p.2.2.2.2.1 ∨ 1000000000000 < p.2.2.2.2.2
def Bnd (b : Int) (p : Pa) : Prop := (0 ≤ p.2.2.2.2.1 ∧ p.2.2.2.2.1 ≤ b * 1000000) ∧ (0 ≤ p.2.2.2.2.2 ∧ p.2.2.2.2.2 ≤ b * 1000000000000)
theorem bnd_ok {p : Pa} (h : okP p) : Bnd 1 p := by rw [okP_iff] at h; unfold Bnd; omega
theorem bnd_mono {p : Pa} {a b : Int} (h : Bnd a p) (hab : a ≤ b) : Bnd b p := by unfold Bnd at *; omega
theorem bnd_add {x p : Pa} {a b : Int} (h : Bnd a x) (g : Bnd b p) (hl : a + b ≤ 1000000) : Bnd (a + b) (addP x p) ∧ (addP x p).2.2.2.2.1 = x.2.2.2.2.1 + p.2.2.2.2.1 ∧ (addP x p).2.2.2.2.2 = x.2.2.2.2.2 + p.2.2.2.2.2 := by
  unfold Bnd at *
  have e1 : (addP x p).2.2.2.2.1 = x.2.2.2.2.1 + p.2.2.2.2.1 := wrap_eq (by omega) (by omega)
  have e2 : (addP x p).2.2.2.2.2 = x.2.2.2.2.2 + p.2.2.2.2.2 := wrap_eq (by omega) (by omega)
  rw [e1, e2]
  exact ⟨by omega, rfl, rfl⟩
theorem put_bnd : ∀ {m : List Pa} {p : Pa} {a b : Int}, 0 ≤ a → 0 ≤ b → a + b ≤ 1000000 → (∀ x ∈ m, Bnd a x) → Bnd b p → ∀ x ∈ putW m p, Bnd (a + b) x
  | [], p, a, b, ha, hb, hl, hm, hp, x, hx => by
    cases List.mem_singleton.1 hx
    exact bnd_mono hp (by omega)
  | y :: m, p, a, b, ha, hb, hl, hm, hp, x, hx => by
    have hy := hm y List.mem_cons_self
    have hm' : ∀ x ∈ m, Bnd a x := fun x hx => hm x (List.mem_cons_of_mem _ hx)
    have hall : ∀ x ∈ m, Bnd (a + b) x := fun x hx => bnd_mono (hm' x hx) (by omega)
    unfold putW at hx
    split at hx
    · rcases List.mem_cons.1 hx with rfl | hx
      · exact bnd_mono hy (by omega)
      · exact put_bnd ha hb hl hm' hp x hx
    split at hx
    · rcases List.mem_cons.1 hx with rfl | hx
      · exact bnd_mono hp (by omega)
      rcases List.mem_cons.1 hx with rfl | hx
      · exact bnd_mono hy (by omega)
      · exact hall x hx
    · rcases List.mem_cons.1 hx with rfl | hx
      · exact (bnd_add hy hp hl).1
      · exact hall x hx
theorem fold_bnd : ∀ {l m : List Pa} {a : Int}, 0 ≤ a → a + l.length ≤ 1000000 → (∀ x ∈ m, Bnd a x) → (∀ x ∈ l, okP x) → ∀ x ∈ fold m l, Bnd (a + l.length) x
  | [], m, a, ha, hl, hm, ho, x, hx => bnd_mono (hm x hx) (by simp)
  | p :: l, m, a, ha, hl, hm, ho, x, hx => by
    simp only [List.length_cons] at hl ⊢
    have h1 := put_bnd ha (b := 1) (by omega) (by omega) hm (bnd_ok (ho p List.mem_cons_self))
    have h2 := fold_bnd (a := a + 1) (by omega) (by omega) h1 (fun y hy => ho y (List.mem_cons_of_mem _ hy)) x hx
    exact bnd_mono h2 (by omega)
theorem big_keep : ∀ {m : List Pa} {p : Pa} {a b : Int}, a + b ≤ 1000000 → 0 ≤ a → 0 ≤ b → (∀ x ∈ m, Bnd a x) → Bnd b p → (∃ x ∈ p :: m, Big x) → ∃ x ∈ putW m p, Big x
  | [], p, a, b, hl, ha, hb, hm, hp, h => by simpa [putW] using h
  | y :: m, p, a, b, hl, ha, hb, hm, hp, h => by
    obtain ⟨x, hx, hbig⟩ := h
    have hy := hm y List.mem_cons_self
    have hm' : ∀ x ∈ m, Bnd a x := fun x hx => hm x (List.mem_cons_of_mem _ hx)
    obtain ⟨_, e1, e2⟩ := bnd_add hy hp hl
    unfold putW
    split
    · rcases List.mem_cons.1 hx with rfl | hx
      · obtain ⟨z, hz, hz2⟩ := big_keep hl ha hb hm' hp ⟨x, List.mem_cons_self, hbig⟩
        exact ⟨z, List.mem_cons_of_mem _ hz, hz2⟩
      rcases List.mem_cons.1 hx with rfl | hx
      · exact ⟨x, List.mem_cons_self, hbig⟩
      · obtain ⟨z, hz, hz2⟩ := big_keep hl ha hb hm' hp ⟨x, List.mem_cons_of_mem _ hx, hbig⟩
        exact ⟨z, List.mem_cons_of_mem _ hz, hz2⟩
    split
    · exact ⟨x, hx, hbig⟩
    · rcases List.mem_cons.1 hx with rfl | hx
      · refine ⟨_, List.mem_cons_self, ?_⟩
        unfold Bnd at *; unfold Big at *; rw [e1, e2]; omega
      rcases List.mem_cons.1 hx with rfl | hx
      · refine ⟨_, List.mem_cons_self, ?_⟩
        unfold Bnd at *; unfold Big at *; rw [e1, e2]; omega
      · exact ⟨x, List.mem_cons_of_mem _ hx, hbig⟩
theorem big_fold : ∀ {l m : List Pa} {a : Int}, 0 ≤ a → a + l.length ≤ 1000000 → (∀ x ∈ m, Bnd a x) → (∀ x ∈ l, okP x) → (∃ x ∈ m, Big x) → ∃ x ∈ fold m l, Big x
  | [], m, a, ha, hl, hm, ho, h => h
  | p :: l, m, a, ha, hl, hm, ho, ⟨x, hx, hb⟩ => by
    simp only [List.length_cons] at hl
    have h1 := put_bnd ha (b := 1) (by omega) (by omega) hm (bnd_ok (ho p List.mem_cons_self))
    show ∃ x ∈ fold (putW m p) l, Big x
    exact big_fold (l := l) (a := a + 1) (by omega) (by omega) h1 (fun y hy => ho y (List.mem_cons_of_mem _ hy)) (big_keep (by omega) ha (by omega) hm (bnd_ok (ho p List.mem_cons_self)) ⟨x, List.mem_cons_of_mem _ hx, hb⟩)
theorem big_bad {l : List Pa} (h : ∃ x ∈ l, Big x) : cargoR l ≠ 0 := by
  intro h0
  obtain ⟨x, hx, hb⟩ := h
  have := ((cargo_zero l).1 h0).2.2 x hx
  rw [okP_iff] at this
  unfold Big at hb
  omega
/-- What gather makes of parcels. -/
def gatherR (l : List Pa) : List Pa × Int := if cargoR (N l) = 0 then (N l, 0) else ([], 4)
theorem same_add (x p q : Pa) : sameP (addP x p) q ↔ sameP x q := Iff.rfl
theorem N_set {o : List Pa} {k : Nat} (hk : k < o.length) {p : Pa} (h : sameP o[k] p) : N (o.set k (addP o[k] p)) = putW (N o) p := by
  have e : o = o.take k ++ o[k] :: o.drop (k + 1) := by rw [← List.drop_eq_getElem_cons hk, List.take_append_drop]
  have e2 : o.set k (addP o[k] p) = o.take k ++ addP o[k] p :: o.drop (k + 1) := List.set_eq_take_append_cons_drop.trans (by rw [if_pos hk])
  rw [e2]
  conv => rhs; rw [e]
  unfold N
  rw [fold_app, fold_app, fold_cons, fold_cons, put_merge _ _ _ h, fold_put_l]
theorem N_add (o : List Pa) (p : Pa) : N (o ++ [p]) = putW (N o) p := by rw [N_append]; rfl
theorem N_take {l : List Pa} {i : Nat} (hi : i < l.length) : N (l.take (i + 1)) = putW (N (l.take i)) l[i] := by
  rw [List.take_succ_eq_append_getElem hi, N_add]
theorem N_drop (l : List Pa) (i : Nat) : N l = fold (N (l.take i)) (l.drop i) := by
  rw [← N_append, List.take_append_drop]
theorem dist_set {o : List Pa} {k : Nat} (hk : k < o.length) {p : Pa} (h : Dist o) : Dist (o.set k (addP o[k] p)) := by
  unfold Dist at *
  rw [List.pairwise_iff_getElem] at *
  intro i j hi hj hij
  simp only [List.length_set] at hi hj
  have := h i j hi hj hij
  simp only [List.getElem_set]
  split <;> split <;> (try subst_vars) <;> (first | omega | exact this | skip)
theorem dist_add {o : List Pa} {p : Pa} (h : Dist o) (hp : ∀ x ∈ o, ¬ sameP x p) : Dist (o ++ [p]) := by
  unfold Dist at *
  rw [List.pairwise_append]
  refine ⟨h, by simp, fun a ha b hb => ?_⟩
  cases List.mem_singleton.1 hb
  exact hp a ha
theorem gather_fail {l o : List Pa} {j : Nat} (hj : j ≤ l.length) (hl : l.length ≤ 1000) (ho : ∀ p ∈ l, okP p) (hd : Dist o) (hN : N o = N (l.take j)) (hb : ∃ x ∈ o, Big x) : gatherR l = ([], 4) := by
  have hb' : ∃ x ∈ N o, Big x := by
    obtain ⟨x, hx, hx2⟩ := hb
    exact ⟨x, by rw [N_sort hd]; exact (sortP_perm o).mem_iff.2 hx, hx2⟩
  have hbd : ∀ x ∈ N o, Bnd 1000 x := by
    intro x hx
    rw [hN] at hx
    have := fold_bnd (l := l.take j) (m := []) (a := 0) (by omega) (by rw [List.length_take]; omega) (by simp) (fun p hp => ho p (List.mem_of_mem_take hp)) x hx
    exact bnd_mono this (by rw [List.length_take]; omega)
  have h2 : ∃ x ∈ N l, Big x := by
    rw [N_drop l j, ← hN]
    exact big_fold (a := 1000) (by omega) (by rw [List.length_drop]; omega) hbd (fun p hp => ho p (List.mem_of_mem_drop hp)) hb'
  rw [gatherR, if_neg (big_bad h2)]
theorem gather_large {l o : List Pa} (hd : Dist o) (hN : N o = N l) (hb : 200 < o.length) : gatherR l = ([], 4) := by
  rw [gatherR, if_neg]
  intro h0
  have := ((cargo_zero _).1 h0).1
  rw [← hN, N_sort hd, (sortP_perm o).length_eq] at this
  omega
theorem gather_ok {l o : List Pa} (hd : Dist o) (hN : N o = N l) (ho : ∀ p ∈ o, okP p) (hb : ¬ 200 < o.length) : gatherR l = (sortP o, 0) := by
  have e : N l = sortP o := by rw [← hN, N_sort hd]
  rw [gatherR, e, if_pos]
  rw [cargo_zero]
  exact ⟨by rw [(sortP_perm o).length_eq]; omega, sortP_srt hd, fun p hp => ho p ((sortP_perm o).mem_iff.1 hp)⟩
end
end Go.Proofs.Ytmphplpfgjcpiaa.Eng
set_option linter.unusedVariables false
set_option linter.unusedSimpArgs false
namespace Go.Proofs.Ytmphplpfgjcpiaa.Eng
open Go Go.RowKit
set_option maxRecDepth 100000
noncomputable section
abbrev kyT : Ty := .fld I (.fld I (.fld I (.one I)))
abbrev Ky := Int × Int × Int × Int
def keyP (p : Pa) : Ky := (p.1, p.2.1, p.2.2.1, p.2.2.2.1)
def idxP : List Pa → Pa → Option Int
  | [], _ => none
  | x :: o, p => if sameP x p then some 0 else (idxP o p).map (· + 1)
theorem idxP_none : ∀ {o : List Pa} {p : Pa}, idxP o p = none → ∀ x ∈ o, ¬ sameP x p
  | [], p, h, x, hx => by cases hx
  | y :: o, p, h, x, hx => by
    unfold idxP at h
    split at h
    · cases h
    · rename_i hy
      rcases List.mem_cons.1 hx with rfl | hx
      · exact hy
      · exact idxP_none (by simpa using h) x hx
theorem idxP_some : ∀ {o : List Pa} {p : Pa} {n : Int}, idxP o p = some n → ∃ (k : Nat) (hk : k < o.length), n = k ∧ sameP o[k] p
  | [], p, n, h => by cases h
  | y :: o, p, n, h => by
    unfold idxP at h
    split at h
    · rename_i hy
      cases h
      exact ⟨0, by simp, rfl, hy⟩
    · cases e : idxP o p with
      | none => rw [e] at h; cases h
      | some m =>
        rw [e] at h
        cases h
        obtain ⟨k, hk, rfl, hs⟩ := idxP_some e
        exact ⟨k + 1, by simpa using hk, by simp, by simpa using hs⟩
theorem idxP_add : ∀ (o : List Pa) (p q : Pa), idxP (o ++ [p]) q = match idxP o q with | some n => some n | none => if sameP p q then some (o.length : Int) else none
  | [], p, q => by simp [idxP]
  | y :: o, p, q => by
    rw [List.cons_append]
    unfold idxP
    by_cases h : sameP y q
    · rw [if_pos h, if_pos h]
    · rw [if_neg h, if_neg h, idxP_add o p q]
      cases e : idxP o q with
      | some n => rfl
      | none =>
        by_cases g : sameP p q
        · rw [if_pos g]; simp [g]
        · rw [if_neg g]; simp [g]
theorem idxP_set : ∀ (o : List Pa) (k : Nat) (hk : k < o.length) (p q : Pa), idxP (o.set k (addP o[k] p)) q = idxP o q
  | y :: o, 0, hk, p, q => rfl
  | y :: o, k + 1, hk, p, q => by
    simp only [List.set_cons_succ, List.getElem_cons_succ]
    unfold idxP
    rw [idxP_set o k (by simpa using hk)]
theorem key_same (p q : Pa) : kyT.eqD (keyP q) (keyP p) = true ↔ sameP p q := by
  have e : kyT.eqD (keyP q) (keyP p) = (decide (q.1 = p.1) && (decide (q.2.1 = p.2.1) && (decide (q.2.2.1 = p.2.2.1) && decide (q.2.2.2.1 = p.2.2.2.1)))) := rfl
  rw [e]
  simp only [Bool.and_eq_true, decide_eq_true_eq]
  unfold sameP
  omega
theorem mget_add : ∀ (es : List (Ky × Int)) (p q : Pa) (n : Int), mget kyT I (es ++ [(keyP p, n)]) (keyP q) = match mget kyT I es (keyP q) with | some m => some m | none => if sameP p q then some n else none
  | [], p, q, n => by
    show (match kyT.eqD (keyP q) (keyP p) with | true => some n | false => none) = if sameP p q then some n else none
    cases e : kyT.eqD (keyP q) (keyP p) with
    | true => rw [if_pos ((key_same p q).1 e)]
    | false => rw [if_neg (fun h => by rw [(key_same p q).2 h] at e; cases e)]
  | x :: es, p, q, n => by
    show (match kyT.eqD (keyP q) x.1 with | true => some x.2 | false => mget kyT I (es ++ [(keyP p, n)]) (keyP q)) = match (match kyT.eqD (keyP q) x.1 with | true => some x.2 | false => mget kyT I es (keyP q)) with | some m => some m | none => if sameP p q then some n else none
    cases kyT.eqD (keyP q) x.1 with
    | true => rfl
    | false => exact mget_add es p q n
theorem gP_set {o : List Pa} {k : Nat} (hk : k < o.length) (x : Pa) : gP (o.set k x) k = x := by
  rw [gP_eq (by simpa using hk)]; simp
def atM (es : List (Ky × Int)) (p : Pa) : Int := optOr (α := Int) (mget kyT I es (keyP p)) (0 : Int)
theorem lt_set {o : List Pa} {k : Nat} {x : Pa} {j : Int} (h : j < (o.length : Int)) : j < ((o.set k x).length : Int) := by rw [List.length_set]; exact h
def set1 (o : List Pa) (k : Int) (p : Pa) : List Pa := o.set k.toNat ((gP o k.toNat).1, (gP o k.toNat).2.1, (gP o k.toNat).2.2.1, (gP o k.toNat).2.2.2.1, IntKind.i64.wrap ((gP o k.toNat).2.2.2.2.1 + p.2.2.2.2.1), (gP o k.toNat).2.2.2.2.2)
def set2 (o : List Pa) (k : Int) (p : Pa) : List Pa := o.set k.toNat ((gP o k.toNat).1, (gP o k.toNat).2.1, (gP o k.toNat).2.2.1, (gP o k.toNat).2.2.2.1, (gP o k.toNat).2.2.2.2.1, IntKind.i64.wrap ((gP o k.toNat).2.2.2.2.2 + p.2.2.2.2.2))
theorem set12 {o : List Pa} {k : Nat} (hk : k < o.length) (p : Pa) : set2 (set1 o k p) k p = o.set k (addP o[k] p) := by
  unfold set2 set1
  simp only [Int.toNat_natCast]
  rw [gP_set hk, gP_eq hk, List.set_set]
  rfl
def E62 : Env := ⟨tab, [(66, .fixd 48 K66)], fun n => match n with | 4 => some ([4, 5, 12, 13, 14], [(5, paT)], []) | _ => none⟩
def K62 : Fn1 := ⟨.one (.sl paT), .fld (.sl paT) (.one I), fun (l : List Pa) => [l.length ≤ 1000, ∀ p ∈ l, okP p], fun (l : List Pa) => gatherR l⟩
def S62 (l : List Pa) (x : List (Ky × Int) × List Pa × Int) : SL := ⟨List.replicate 4 .undef ++ [.mp 0, .own 1] ++ List.replicate 6 .undef ++ [.sl paT l, .int .i64 l.length, .int .i64 x.2.2] ++ List.replicate 68 .undef, [(0, .mp kyT I x.1), (1, .arr paT x.2.1)], 2⟩
structure I62 (l : List Pa) (x : List (Ky × Int) × List Pa × Int) : Prop where
  i0 : 0 ≤ x.2.2
  i1 : x.2.2 ≤ l.length
  d : Dist x.2.1
  n : N x.2.1 = N (l.take x.2.2.toNat)
  ok : ∀ p ∈ x.2.1, okP p
  len : (x.2.1.length : Int) ≤ x.2.2
  m : ∀ p : Pa, mget kyT I x.1 (keyP p) = idxP x.2.1 p
theorem k62 : FnOk Go.Proofs.Try.prog 62 K62 := by
  refine fn_ok (E := E62) (TOk.of tab_told) (AllOk.consF k66 .nil).at_ mix Go.Proofs.Try.func62 rfl rfl (by kernel_rfl) K62 ?_
  rintro (l : List Pa) hp
  have hl : l.length ≤ 1000 := hp _ (List.mem_cons_self ..)
  have hok : ∀ p ∈ l, okP p := hp _ (List.mem_cons_of_mem _ (List.mem_cons_self ..))
  clear hp
  conv => whnf
  refine loop_rule (fun x => S62 l x) (fun x => ((l.length : Int) - x.2.2).toNat) (I62 l) ?_ ([], [], 0) (by kernel_rfl) ?_ ⟨by simp, by simp, List.Pairwise.nil, rfl, by simp, by simp, fun p => rfl⟩
  case refine_2 => rfl
  rintro ⟨es, o, i⟩ hI
  obtain ⟨h0, h1, hd, hN, ho, hln, hm⟩ := hI
  simp only at h0 h1 hd hN ho hln hm
  conv => whnf
  refine cond_intro (fun hlt => ?_) (fun hge => ?_)
  · have hlt : i < l.length := @of_decide_eq_true _ _ hlt
    conv => whnf
    refine ⟨h0, ?_⟩
    conv => whnf
    refine ⟨hlt, ?_⟩
    conv => whnf
    have hw : IntKind.i64.wrap (i + 1) = i + 1 := wrap_eq (by omega) (by omega)
    have ei : (i + 1).toNat = i.toNat + 1 := by omega
    have hg : gP l i.toNat = l[i.toNat]'(by omega) := gP_eq _
    have hpk : okP (gP l i.toNat) := by rw [hg]; exact hok _ (List.getElem_mem _)
    have hmp := hm (gP l i.toNat)
    have hNt : N (l.take (i.toNat + 1)) = putW (N o) (gP l i.toNat) := by rw [N_take (show i.toNat < l.length by omega), hN, hg]
    refine cond_intro (fun ha => ?_) (fun ha => ?_)
    · have ha : (!isOk (mget kyT I es (keyP (gP l i.toNat)))) = true := ha
      have hn : idxP o (gP l i.toNat) = none := by
        rw [hmp] at ha
        cases e : idxP o (gP l i.toNat) with
        | none => rfl
        | some n => rw [e] at ha; cases ha
      have hno := idxP_none hn
      conv => whnf
      refine ⟨show isOk (mget kyT I es (keyP (gP l i.toNat))) = false by rw [hmp, hn]; rfl, ?_⟩
      conv => whnf
      refine ⟨show (o.length + 1) * 48 ≤ 70368744177664 by omega, ?_⟩
      conv => whnf
      refine ⟨show o.length + 1 ≤ 70368744177664 by omega, ?_⟩
      conv => whnf
      refine ⟨(es ++ [(keyP (gP l i.toNat), (o.length : Int))], o ++ [gP l i.toNat], i + 1), ?_, ⟨by simp only; omega, by simp only; omega, dist_add hd hno, ?_, ?_, ?_, ?_⟩, by simp only; omega⟩
      · exact Eq.trans (b := S62 l (es ++ [(keyP (gP l i.toNat), (o.length : Int))], o ++ [gP l i.toNat], IntKind.i64.wrap (i + 1))) rfl (by rw [hw])
      · show N (o ++ [gP l i.toNat]) = N (l.take (i + 1).toNat)
        rw [ei, N_add, hNt]
      · intro q hq
        rcases List.mem_append.1 hq with hq | hq
        · exact ho q hq
        · cases List.mem_singleton.1 hq; exact hpk
      · show ((o ++ [gP l i.toNat]).length : Int) ≤ i + 1
        rw [List.length_append]; simp; omega
      · intro q
        show mget kyT I (es ++ [(keyP (gP l i.toNat), (o.length : Int))]) (keyP q) = idxP (o ++ [gP l i.toNat]) q
        rw [mget_add, idxP_add, hm q]
        rfl
    · have ha : (!isOk (mget kyT I es (keyP (gP l i.toNat)))) = false := ha
      have hs : ∃ n, idxP o (gP l i.toNat) = some n := by
        rw [hmp] at ha
        cases e : idxP o (gP l i.toNat) with
        | none => rw [e] at ha; cases ha
        | some n => exact ⟨n, rfl⟩
      obtain ⟨n, hn⟩ := hs
      obtain ⟨k, hk, rfl, hsame⟩ := idxP_some hn
      have hx : atM es (gP l i.toNat) = (k : Int) := by unfold atM; rw [hmp, hn]; rfl
      have hk1 : (0 : Int) ≤ atM es (gP l i.toNat) := by rw [hx]; omega
      have hk2 : atM es (gP l i.toNat) < (o.length : Int) := by rw [hx]; omega
      conv => whnf
      iterate 2
        refine ⟨hk1, ?_⟩
        conv => whnf
        refine ⟨hk2, ?_⟩
        conv => whnf
      iterate 2
        refine ⟨hk1, ?_⟩
        conv => whnf
        refine ⟨lt_set hk2, ?_⟩
        conv => whnf
      refine ⟨hk1, ?_⟩
      conv => whnf
      refine ⟨lt_set (lt_set hk2), ?_⟩
      conv => whnf
      have h12 : set2 (set1 o (atM es (gP l i.toNat)) (gP l i.toNat)) (atM es (gP l i.toNat)) (gP l i.toNat) = o.set k (addP o[k] (gP l i.toNat)) := by rw [hx, set12 hk]
      have hge' : gP (o.set k (addP o[k] (gP l i.toNat))) k = addP o[k] (gP l i.toNat) := gP_set hk _
      have hN' : N (o.set k (addP o[k] (gP l i.toNat))) = N (l.take (i.toNat + 1)) := by rw [N_set hk hsame, hNt]
      have hd' : Dist (o.set k (addP o[k] (gP l i.toNat))) := dist_set hk hd
      have hmem : addP o[k] (gP l i.toNat) ∈ o.set k (addP o[k] (gP l i.toNat)) := List.mem_set hk _
      have hfail : Big (addP o[k] (gP l i.toNat)) → gatherR l = ([], 4) := fun hb => gather_fail (j := i.toNat + 1) (by omega) hl hok hd' hN' ⟨_, hmem, hb⟩
      refine cond_intro (fun hc => ?_) (fun hc => ?_)
      · have hc : decide (1000000 < (gP (set2 (set1 o (atM es (gP l i.toNat)) (gP l i.toNat)) (atM es (gP l i.toNat)) (gP l i.toNat)) (atM es (gP l i.toNat)).toNat).2.2.2.2.1) = true := hc
        rw [h12, hx, Int.toNat_natCast, hge'] at hc
        have hc : 1000000 < (addP o[k] (gP l i.toNat)).2.2.2.2.1 := @of_decide_eq_true _ _ hc
        conv => whnf
        show ([], 4) = gatherR l
        rw [hfail (Or.inl hc)]
      have hc : decide (1000000 < (gP (set2 (set1 o (atM es (gP l i.toNat)) (gP l i.toNat)) (atM es (gP l i.toNat)) (gP l i.toNat)) (atM es (gP l i.toNat)).toNat).2.2.2.2.1) = false := hc
      rw [h12, hx, Int.toNat_natCast, hge'] at hc
      have hc : ¬ 1000000 < (addP o[k] (gP l i.toNat)).2.2.2.2.1 := @of_decide_eq_false _ _ hc
      conv => whnf
      refine ⟨hk1, ?_⟩
      conv => whnf
      refine ⟨lt_set (lt_set hk2), ?_⟩
      conv => whnf
      refine cond_intro (fun hs => ?_) (fun hs => ?_)
      · have hs : decide (1000000000000 < (gP (set2 (set1 o (atM es (gP l i.toNat)) (gP l i.toNat)) (atM es (gP l i.toNat)) (gP l i.toNat)) (atM es (gP l i.toNat)).toNat).2.2.2.2.2) = true := hs
        rw [h12, hx, Int.toNat_natCast, hge'] at hs
        have hs : 1000000000000 < (addP o[k] (gP l i.toNat)).2.2.2.2.2 := @of_decide_eq_true _ _ hs
        conv => whnf
        show ([], 4) = gatherR l
        rw [hfail (Or.inr hs)]
      have hs : decide (1000000000000 < (gP (set2 (set1 o (atM es (gP l i.toNat)) (gP l i.toNat)) (atM es (gP l i.toNat)) (gP l i.toNat)) (atM es (gP l i.toNat)).toNat).2.2.2.2.2) = false := hs
      rw [h12, hx, Int.toNat_natCast, hge'] at hs
      have hs : ¬ 1000000000000 < (addP o[k] (gP l i.toNat)).2.2.2.2.2 := @of_decide_eq_false _ _ hs
      conv => whnf
      refine ⟨(es, o.set k (addP o[k] (gP l i.toNat)), i + 1), ?_, ⟨by simp only; omega, by simp only; omega, hd', ?_, ?_, ?_, ?_⟩, by simp only; omega⟩
      · exact Eq.trans (b := S62 l (es, set2 (set1 o (atM es (gP l i.toNat)) (gP l i.toNat)) (atM es (gP l i.toNat)) (gP l i.toNat), IntKind.i64.wrap (i + 1))) rfl (by rw [hw, h12])
      · show N (o.set k (addP o[k] (gP l i.toNat))) = N (l.take (i + 1).toNat)
        rw [ei, hN']
      · intro q hq
        rcases List.mem_or_eq_of_mem_set hq with hq | rfl
        · exact ho q hq
        · have h1 := ho _ (List.getElem_mem hk)
          have h2 := hpk
          obtain ⟨_, e1, e2⟩ := bnd_add (bnd_ok h1) (bnd_ok h2) (by omega)
          rw [e1] at hc
          rw [e2] at hs
          rw [okP_iff] at h1 h2 ⊢
          rw [e1, e2]
          refine ⟨⟨?_, ?_⟩, h1.2.1, ⟨?_, ?_⟩, h1.2.2.2⟩ <;> omega
      · show ((o.set k (addP o[k] (gP l i.toNat))).length : Int) ≤ i + 1
        rw [List.length_set]; omega
      · intro q
        show mget kyT I es (keyP q) = idxP (o.set k (addP o[k] (gP l i.toNat))) q
        rw [idxP_set o k hk, hm q]
  · have hge : ¬ i < l.length := @of_decide_eq_false _ _ hge
    have ei : l.take i.toNat = l := List.take_of_length_le (by omega)
    rw [ei] at hN
    conv => whnf
    refine cond_intro (fun h => ?_) (fun h => ?_)
    · have h : 200 < (o.length : Int) := @of_decide_eq_true _ _ h
      conv => whnf
      show ([], 4) = gatherR l
      rw [gather_large hd hN (by omega)]
    · have h : ¬ 200 < (o.length : Int) := @of_decide_eq_false _ _ h
      conv => whnf
      refine ⟨show o.length ≤ 1000000 by omega, ?_⟩
      conv => whnf
      show (sortP o, 0) = gatherR l
      rw [gather_ok hd hN ho (by omega)]
end
end Go.Proofs.Ytmphplpfgjcpiaa.Eng
set_option linter.unusedVariables false
set_option linter.unusedSimpArgs false
namespace Go.Proofs.Ytmphplpfgjcpiaa.Eng
open Go
set_option maxRecDepth 100000
noncomputable section
open Go.RowKit
theorem put_app : ∀ (a b : List Pa) (p : Pa), (∀ x ∈ a, ltP x p = true) → putW (a ++ b) p = a ++ putW b p
  | [], b, p, h => rfl
  | x :: a, b, p, h => by
    show putW (x :: (a ++ b)) p = x :: (a ++ putW b p)
    rw [putW, if_pos (h x List.mem_cons_self), put_app a b p fun y hy => h y (List.mem_cons_of_mem _ hy)]
theorem take_all {l : List Pa} {p : Pa} {i : Nat} (h : ∀ j, j < i → j < l.length → ltP (gP l j) p = true) : ∀ x ∈ l.take i, ltP x p = true := by
  intro x hx
  obtain ⟨j, hj, rfl⟩ := List.getElem_of_mem hx
  rw [List.length_take] at hj
  have := h j (by omega) (by omega)
  rw [gP_eq (by omega)] at this
  rw [List.getElem_take]
  exact this
theorem put_set {l : List Pa} {p : Pa} {i : Nat} (hi : i < l.length) (h : ∀ j, j < i → j < l.length → ltP (gP l j) p = true) (h1 : ltP (gP l i) p = false) (h2 : ltP p (gP l i) = false) : putW l p = l.set i (addP l[i] p) := by
  have e : l = l.take i ++ l[i] :: l.drop (i + 1) := by rw [← List.drop_eq_getElem_cons hi, List.take_append_drop]
  conv => lhs; rw [e]
  rw [put_app _ _ _ (take_all h), putW]
  rw [gP_eq hi] at h1 h2
  rw [if_neg (by simp [h1]), if_neg (by simp [h2]), List.set_eq_take_append_cons_drop, if_pos hi]
theorem put_in {l : List Pa} {p : Pa} {i : Nat} (hi : i ≤ l.length) (h : ∀ j, j < i → j < l.length → ltP (gP l j) p = true) (h1 : i < l.length → ltP p (gP l i) = true) : putW l p = l.take i ++ [p] ++ l.drop i := by
  conv => lhs; rw [← List.take_append_drop i l]
  rw [put_app _ _ _ (take_all h), List.append_assoc]
  congr 1
  by_cases e : i < l.length
  · rw [List.drop_eq_getElem_cons e, putW]
    have h1 := h1 e
    rw [gP_eq e] at h1
    rw [if_neg (by simp [lt_anti h1]), if_pos h1]; rfl
  · rw [List.drop_of_length_le (by omega)]; rfl
theorem set12' {o : List Pa} {k : Nat} (hk : k < o.length) (p : Pa) (i : Int) (hi : i.toNat = k) : set2 (set1 o i p) i p = o.set k (addP o[k] p) := by
  unfold set2 set1
  rw [hi, gP_set hk, gP_eq hk, List.set_set]
  rfl
def S61 (k f t g c s : Int) (l : List Pa) (i : Int) : SL := ⟨[.sl paT l, .undef, .undef, .ptr 0 0 0, .undef, .int .i64 i] ++ List.replicate 67 .undef, [(0, .box [.int .i64 k, .int .i64 f, .int .i64 t, .int .i64 g, .int .i64 c, .int .i64 s])], 1⟩
def E61 : Env := ⟨tab, [(46, K46)], fun n => match n with | 2 => some ([0, 3, 5], [], []) | _ => none⟩
def K61 : Fn1 := ⟨.fld (.sl paT) (.one paT), .one (.sl paT), fun (a : List Pa × Pa) => [a.1.length ≤ 1000000], fun (a : List Pa × Pa) => putW a.1 a.2⟩
theorem k61 : FnOk Go.Proofs.Try.prog 61 K61 := by
  refine fn_ok (E := E61) (TOk.of tab_told) (AllOk.cons k46 .nil).at_ mix Go.Proofs.Try.func61 rfl rfl (by kernel_rfl) K61 ?_
  rintro ⟨(l : List Pa), ⟨(k : Int), (f : Int), (t : Int), (g : Int), (c : Int), (s : Int)⟩⟩ hp
  have hl : l.length ≤ 1000000 := hp _ (List.mem_cons_self ..)
  clear hp
  conv => whnf
  refine loop_rule (fun i => S61 k f t g c s l i) (fun i => ((l.length : Int) - i).toNat) (fun i => 0 ≤ i ∧ i ≤ l.length ∧ ∀ j, j < i.toNat → j < l.length → ltP (gP l j) (k, f, t, g, c, s) = true) ?_ 0 (by kernel_rfl) ?_ ⟨by omega, by omega, fun j hj => by simp at hj⟩
  case refine_2 => rfl
  rintro i ⟨h0, h1, h2⟩
  conv => whnf
  refine cond_intro (fun hlt => ?_) (fun hlt => ?_)
  · have hlt : i < (l.length : Int) := @of_decide_eq_true _ _ hlt
    have hw : IntKind.i64.wrap (i + 1) = i + 1 := wrap_eq (by omega) (by omega)
    conv => whnf
    refine ⟨show 0 ≤ i by omega, ?_⟩
    conv => whnf
    refine ⟨show i < (l.length : Int) by omega, ?_⟩
    conv => whnf
    refine cond_intro (fun hlp => ?_) (fun hlp => ?_)
    · have hlp : (ltP (gP l i.toNat) (k, f, t, g, c, s)) = true := hlp
      conv => whnf
      refine ⟨i + 1, ?_, ⟨by omega, by omega, ?_⟩, by omega⟩
      · exact Eq.trans (b := S61 k f t g c s l (IntKind.i64.wrap (i + 1))) rfl (by rw [hw])
      · intro j hj hjl
        by_cases e : j = i.toNat
        · subst e; exact hlp
        · exact h2 j (by omega) hjl
    have hlp : (ltP (gP l i.toNat) (k, f, t, g, c, s)) = false := hlp
    conv => whnf
    refine cond_intro (fun h4 => ?_) (fun h4 => ?_)
    · have h4 : i < (l.length : Int) := @of_decide_eq_true _ _ h4
      conv => whnf
      refine ⟨show 0 ≤ i by omega, ?_⟩
      conv => whnf
      refine ⟨show i < (l.length : Int) by omega, ?_⟩
      conv => whnf
      refine cond_intro (fun hpl => ?_) (fun hpl => ?_)
      · have hpl : (!(ltP (k, f, t, g, c, s) (gP l i.toNat))) = true := hpl
        have hpl : (ltP (k, f, t, g, c, s) (gP l i.toNat)) = false := by simpa using hpl
        conv => whnf
        refine ⟨show (0 + l.length) * 48 ≤ 70368744177664 by omega, ?_⟩
        conv => whnf
        refine ⟨show 0 + l.length ≤ 70368744177664 by omega, ?_⟩
        conv => whnf
        refine ⟨show 0 ≤ i by omega, ?_⟩
        conv => whnf
        refine ⟨show i < (l.length : Int) by omega, ?_⟩
        conv => whnf
        refine ⟨show 0 ≤ i by omega, ?_⟩
        conv => whnf
        refine ⟨show i < (l.length : Int) by omega, ?_⟩
        conv => whnf
        refine ⟨show 0 ≤ i by omega, ?_⟩
        conv => whnf
        refine ⟨lt_set (show i < ((([] : List Pa) ++ l).length : Int) by simpa using hlt), ?_⟩
        conv => whnf
        refine ⟨show 0 ≤ i by omega, ?_⟩
        conv => whnf
        refine ⟨lt_set (show i < ((([] : List Pa) ++ l).length : Int) by simpa using hlt), ?_⟩
        conv => whnf
        show set2 (set1 (([] : List Pa) ++ l) i (k, f, t, g, c, s)) i (k, f, t, g, c, s) = putW l (k, f, t, g, c, s)
        rw [List.nil_append, set12' (show i.toNat < l.length by omega) _ _ rfl, put_set (show i.toNat < l.length by omega) h2 hlp hpl]
      have hpl : (!(ltP (k, f, t, g, c, s) (gP l i.toNat))) = false := hpl
      have hpl : (ltP (k, f, t, g, c, s) (gP l i.toNat)) = true := by simpa using hpl
      conv => whnf
      refine ⟨show 0 ≤ i by omega, ?_⟩
      conv => whnf
      refine ⟨show i ≤ (l.length : Int) by omega, ?_⟩
      conv => whnf
      refine ⟨show (0 + (l.take i.toNat).length) * 48 ≤ 70368744177664 by simp only [List.length_take]; omega, ?_⟩
      conv => whnf
      refine ⟨show 0 + (l.take i.toNat).length ≤ 70368744177664 by simp only [List.length_take]; omega, ?_⟩
      conv => whnf
      refine ⟨show ((([] : List Pa) ++ l.take i.toNat).length + 1) * 48 ≤ 70368744177664 by simp only [List.length_append, List.length_take, List.length_nil]; omega, ?_⟩
      conv => whnf
      refine ⟨show (([] : List Pa) ++ l.take i.toNat).length + 1 ≤ 70368744177664 by simp only [List.length_append, List.length_take, List.length_nil]; omega, ?_⟩
      conv => whnf
      refine ⟨show 0 ≤ i by omega, ?_⟩
      conv => whnf
      refine ⟨show i ≤ (l.length : Int) by omega, ?_⟩
      conv => whnf
      refine ⟨show ((([] : List Pa) ++ l.take i.toNat ++ [(k, f, t, g, c, s)]).length + (l.drop i.toNat).length) * 48 ≤ 70368744177664 by simp only [List.length_append, List.length_take, List.length_drop, List.length_nil, List.length_cons]; omega, ?_⟩
      conv => whnf
      refine ⟨show (([] : List Pa) ++ l.take i.toNat ++ [(k, f, t, g, c, s)]).length + (l.drop i.toNat).length ≤ 70368744177664 by simp only [List.length_append, List.length_take, List.length_drop, List.length_nil, List.length_cons]; omega, ?_⟩
      conv => whnf
      show ([] : List Pa) ++ l.take i.toNat ++ [(k, f, t, g, c, s)] ++ l.drop i.toNat = putW l (k, f, t, g, c, s)
      rw [put_in (i := i.toNat) (by omega) h2 (fun _ => hpl), List.nil_append]
    have h4 : ¬ (i < (l.length : Int)) := @of_decide_eq_false _ _ h4
    omega
  have hlt : ¬ (i < (l.length : Int)) := @of_decide_eq_false _ _ hlt
  conv => whnf
  refine cond_intro (fun h4 => ?_) (fun h4 => ?_)
  · have h4 : i < (l.length : Int) := @of_decide_eq_true _ _ h4
    omega
  have h4 : ¬ (i < (l.length : Int)) := @of_decide_eq_false _ _ h4
  conv => whnf
  refine ⟨show 0 ≤ i by omega, ?_⟩
  conv => whnf
  refine ⟨show i ≤ (l.length : Int) by omega, ?_⟩
  conv => whnf
  refine ⟨show (0 + (l.take i.toNat).length) * 48 ≤ 70368744177664 by simp only [List.length_take]; omega, ?_⟩
  conv => whnf
  refine ⟨show 0 + (l.take i.toNat).length ≤ 70368744177664 by simp only [List.length_take]; omega, ?_⟩
  conv => whnf
  refine ⟨show ((([] : List Pa) ++ l.take i.toNat).length + 1) * 48 ≤ 70368744177664 by simp only [List.length_append, List.length_take, List.length_nil]; omega, ?_⟩
  conv => whnf
  refine ⟨show (([] : List Pa) ++ l.take i.toNat).length + 1 ≤ 70368744177664 by simp only [List.length_append, List.length_take, List.length_nil]; omega, ?_⟩
  conv => whnf
  refine ⟨show 0 ≤ i by omega, ?_⟩
  conv => whnf
  refine ⟨show i ≤ (l.length : Int) by omega, ?_⟩
  conv => whnf
  refine ⟨show ((([] : List Pa) ++ l.take i.toNat ++ [(k, f, t, g, c, s)]).length + (l.drop i.toNat).length) * 48 ≤ 70368744177664 by simp only [List.length_append, List.length_take, List.length_drop, List.length_nil, List.length_cons]; omega, ?_⟩
  conv => whnf
  refine ⟨show (([] : List Pa) ++ l.take i.toNat ++ [(k, f, t, g, c, s)]).length + (l.drop i.toNat).length ≤ 70368744177664 by simp only [List.length_append, List.length_take, List.length_drop, List.length_nil, List.length_cons]; omega, ?_⟩
  conv => whnf
  show ([] : List Pa) ++ l.take i.toNat ++ [(k, f, t, g, c, s)] ++ l.drop i.toNat = putW l (k, f, t, g, c, s)
  rw [put_in (i := i.toNat) (by omega) h2 (fun h => by omega), List.nil_append]
end
end Go.Proofs.Ytmphplpfgjcpiaa.Eng
set_option linter.unusedVariables false
set_option linter.unusedSimpArgs false
namespace Go.Proofs.Ytmphplpfgjcpiaa.Eng
open Go
set_option maxRecDepth 100000
noncomputable section
open Go.RowKit
/-- A parcel that is some days older. -/
def ageP (d : Int) (p : Pa) : Pa := (p.1, p.2.1, p.2.2.1, if 255 - p.2.2.2.1 < d then 255 else p.2.2.2.1 + d, p.2.2.2.2.1, p.2.2.2.2.2)
theorem age_ok {d : Int} (hd : 0 ≤ d) {p : Pa} (h : okP p) : okP (ageP d p) := by
  rw [okP_iff] at *
  refine ⟨h.1, ?_, h.2.2⟩
  show 0 ≤ (if 255 - p.2.2.2.1 < d then 255 else p.2.2.2.1 + d) ∧ (if 255 - p.2.2.2.1 < d then 255 else p.2.2.2.1 + d) ≤ 255
  split <;> omega
def olderR (l : List Pa) (d : Int) : List Pa × Int := if cargoR l ≠ 0 then ([], cargoR l) else if d < 0 then ([], 1) else gatherR (l.map (ageP d))
theorem put_len : ∀ (m : List Pa) (p : Pa), (putW m p).length ≤ m.length + 1
  | [], p => by simp [putW]
  | x :: m, p => by
    unfold putW
    split
    · have := put_len m p; simp; omega
    split <;> simp
theorem fold_len : ∀ (l m : List Pa), (fold m l).length ≤ m.length + l.length
  | [], m => by simp [fold_nil]
  | p :: l, m => by
    have h1 := fold_len l (putW m p)
    have h2 := put_len m p
    rw [fold_cons, List.length_cons]; omega
theorem N_len (l : List Pa) : (N l).length ≤ l.length := by have := fold_len l []; simp at this; exact this
theorem N_map_take (g : Pa → Pa) {l : List Pa} {i : Nat} (hi : i < l.length) : N ((l.take (i + 1)).map g) = putW (N ((l.take i).map g)) (g (gP l i)) := by
  rw [List.take_succ_eq_append_getElem hi, List.map_append, gP_eq hi]
  exact N_add _ _
def S35 (l : List Pa) (d i : Int) : SL := ⟨[.sl paT l, .int .i64 d] ++ List.replicate 5 .undef ++ [.own 0, .int .i64 i] ++ List.replicate 36 .undef, [(0, .arr paT (N ((l.take i.toNat).map (ageP d))))], 1⟩
/-- The first ones are older. -/
def mixR (l : List Pa) (d : Int) (i : Nat) : List Pa := (l.take i).map (ageP d) ++ l.drop i
theorem mix_len (l : List Pa) (d : Int) (i : Nat) : (mixR l d i).length = l.length := by
  unfold mixR; rw [List.length_append, List.length_map, ← List.length_append, List.take_append_drop]
theorem mix_at {l : List Pa} {d : Int} {i : Nat} (hi : i < l.length) : gP (mixR l d i) i = gP l i := by
  rw [gP_eq hi, gP_eq (by rw [mix_len]; exact hi)]
  unfold mixR
  rw [List.getElem_append_right (by simp; omega)]
  simp only [List.getElem_drop, List.length_map, List.length_take]
  congr 1; omega
theorem mix_set {l : List Pa} {d : Int} {i : Nat} (hi : i < l.length) : (mixR l d i).set i (ageP d (gP l i)) = mixR l d (i + 1) := by
  have e : l.drop i = gP l i :: l.drop (i + 1) := by rw [List.drop_eq_getElem_cons hi, gP_eq hi]
  unfold mixR
  have h0 : i - ((l.take i).map (ageP d)).length = 0 := by simp; omega
  rw [List.set_append_right _ _ (by simp; omega), h0, e, List.set_cons_zero, List.take_succ_eq_append_getElem hi, List.map_append, gP_eq hi, List.append_assoc]
  rfl
theorem mix_age {l : List Pa} {d : Int} (hd : 0 ≤ d) {i : Nat} (hi : i < l.length) (ho : okP (gP l i)) {m : Pa} (hm : m = gP l i) : ((m.1, m.2.1, m.2.2.1, min2 (IntKind.i64.wrap (m.2.2.2.1 + min2 d 255)) 255, m.2.2.2.2.1, m.2.2.2.2.2) : Pa) = ageP d (gP l i) := by
  subst hm
  rw [okP_iff] at ho
  have e : (min2 (IntKind.i64.wrap ((gP l i).2.2.2.1 + min2 d 255)) 255) = if 255 - (gP l i).2.2.2.1 < d then 255 else (gP l i).2.2.2.1 + d := by
    unfold min2
    have : IntKind.i64.wrap ((gP l i).2.2.2.1 + (if 255 < d then 255 else d)) = (gP l i).2.2.2.1 + (if 255 < d then 255 else d) := wrap_eq (by split <;> omega) (by split <;> omega)
    rw [this]
    split <;> split <;> split <;> (try rfl) <;> omega
  rw [e]; rfl
def S36 (l : List Pa) (d i : Int) : SL := ⟨[.undef, .int .i64 d] ++ List.replicate 5 .undef ++ [.own 0] ++ List.replicate 11 .undef ++ [.int .i64 l.length, .int .i64 i] ++ List.replicate 20 .undef, [(0, .arr paT (mixR l d i.toNat))], 1⟩
theorem gather_age {l : List Pa} {d : Int} : gatherR (l.map (ageP d)) = if cargoR (N (l.map (ageP d))) = 0 then (N (l.map (ageP d)), 0) else ([], 4) := rfl

def E35 : Env := ⟨tab, [(20, K20), (61, K61)], fun n => match n with | 8 => some ([0, 1, 7, 8], [(7, paT)], []) | _ => none⟩
def K35 : Fn1 := ⟨.fld (.sl paT) (.one I), .fld (.sl paT) (.one I), fun (a : List Pa × Int) => [a.1.length ≤ 100000], fun (a : List Pa × Int) => olderR a.1 a.2⟩
theorem k35 : FnOk Go.Proofs.Try.prog 35 K35 := by
  refine fn_ok (E := E35) (TOk.of tab_told) (AllOk.cons k20 (.cons k61 .nil)).at_ mix Go.Proofs.Try.func35 rfl rfl (by kernel_rfl) K35 ?_
  rintro ⟨(l : List Pa), (d : Int)⟩ hp
  have hl : l.length ≤ 100000 := hp _ (List.mem_cons_self ..)
  clear hp
  conv => whnf
  refine ⟨hl, ?_⟩
  conv => whnf
  refine cond_intro (fun h1 => ?_) (fun h1 => ?_)
  · have h1 : (!decide (cargoR l = 0)) = true := h1
    have h1 : ¬ (cargoR l = 0) := by simpa using h1
    conv => whnf
    show (([], cargoR l) : List Pa × Int) = olderR l d
    rw [olderR, if_pos h1]
  have h1 : (!decide (cargoR l = 0)) = false := h1
  have h1 : cargoR l = 0 := by simpa using h1
  have hv := (cargo_zero l).1 h1
  have hl2 := hv.1
  have hok := hv.2.2
  conv => whnf
  refine cond_intro (fun h2 => ?_) (fun h2 => ?_)
  · have h2 : d < 0 := @of_decide_eq_true _ _ h2
    conv => whnf
    show (([], 1) : List Pa × Int) = olderR l d
    rw [olderR, if_neg (by simp [h1]), if_pos h2]
  have h2 : ¬ (d < 0) := @of_decide_eq_false _ _ h2
  have hfin : olderR l d = gatherR (l.map (ageP d)) := by rw [olderR, if_neg (by simp [h1]), if_neg h2]
  conv => whnf
  refine loop_rule (fun i => S35 l d i) (fun i => ((l.length : Int) - i).toNat) (fun i => 0 ≤ i ∧ i ≤ l.length) ?_ 0 (by kernel_rfl) ?_ ⟨by omega, by omega⟩
  case refine_2 => rfl
  rintro i ⟨h0, h3⟩
  conv => whnf
  refine cond_intro (fun hlt => ?_) (fun hlt => ?_)
  · have hlt : i < (l.length : Int) := @of_decide_eq_true _ _ hlt
    have hw : IntKind.i64.wrap (i + 1) = i + 1 := wrap_eq (by omega) (by omega)
    have ei : (i + 1).toNat = i.toNat + 1 := by omega
    have hg : okP (gP l i.toNat) := by rw [gP_eq (show i.toNat < l.length by omega)]; exact hok _ (List.getElem_mem _)
    rw [okP_iff] at hg
    have hwg : IntKind.i64.wrap (255 - (gP l i.toNat).2.2.2.1) = 255 - (gP l i.toNat).2.2.2.1 := wrap_eq (by omega) (by omega)
    conv => whnf
    refine ⟨h0, ?_⟩
    conv => whnf
    refine ⟨hlt, ?_⟩
    conv => whnf
    refine cond_intro (fun ha => ?_) (fun ha => ?_)
    · have ha : IntKind.i64.wrap (255 - (gP l i.toNat).2.2.2.1) < d := @of_decide_eq_true _ _ ha
      rw [hwg] at ha
      have hN := N_len ((l.take i.toNat).map (ageP d))
      rw [List.length_map, List.length_take] at hN
      conv => whnf
      refine ⟨show (N ((l.take i.toNat).map (ageP d))).length ≤ 1000000 by omega, ?_⟩
      conv => whnf
      have hx : (((gP l i.toNat).1, (gP l i.toNat).2.1, (gP l i.toNat).2.2.1, 255, (gP l i.toNat).2.2.2.2.1, (gP l i.toNat).2.2.2.2.2) : Pa) = ageP d (gP l i.toNat) := by unfold ageP; rw [if_pos ha]
      refine ⟨i + 1, ?_, ⟨by omega, by omega⟩, by omega⟩
      have hs : N ((l.take (i + 1).toNat).map (ageP d)) = putW (N ((l.take i.toNat).map (ageP d))) (((gP l i.toNat).1, (gP l i.toNat).2.1, (gP l i.toNat).2.2.1, 255, (gP l i.toNat).2.2.2.2.1, (gP l i.toNat).2.2.2.2.2) : Pa) := by rw [ei, N_map_take _ (by omega), hx]
      exact Eq.trans (b := ⟨[.sl paT l, .int .i64 d] ++ List.replicate 5 .undef ++ [.own 0, .int .i64 (IntKind.i64.wrap (i + 1))] ++ List.replicate 36 .undef, [(0, .arr paT (putW (N ((l.take i.toNat).map (ageP d))) (((gP l i.toNat).1, (gP l i.toNat).2.1, (gP l i.toNat).2.2.1, 255, (gP l i.toNat).2.2.2.2.1, (gP l i.toNat).2.2.2.2.2) : Pa)))], 1⟩) rfl (by unfold S35; rw [hw, hs])
    have ha : ¬ (IntKind.i64.wrap (255 - (gP l i.toNat).2.2.2.1) < d) := @of_decide_eq_false _ _ ha
    rw [hwg] at ha
    have hwd : IntKind.i64.wrap ((gP l i.toNat).2.2.2.1 + d) = (gP l i.toNat).2.2.2.1 + d := wrap_eq (by omega) (by omega)
    have hN := N_len ((l.take i.toNat).map (ageP d))
    rw [List.length_map, List.length_take] at hN
    conv => whnf
    refine ⟨show (N ((l.take i.toNat).map (ageP d))).length ≤ 1000000 by omega, ?_⟩
    conv => whnf
    have hx : (((gP l i.toNat).1, (gP l i.toNat).2.1, (gP l i.toNat).2.2.1, IntKind.i64.wrap ((gP l i.toNat).2.2.2.1 + d), (gP l i.toNat).2.2.2.2.1, (gP l i.toNat).2.2.2.2.2) : Pa) = ageP d (gP l i.toNat) := by unfold ageP; rw [if_neg ha, hwd]
    refine ⟨i + 1, ?_, ⟨by omega, by omega⟩, by omega⟩
    have hs : N ((l.take (i + 1).toNat).map (ageP d)) = putW (N ((l.take i.toNat).map (ageP d))) (((gP l i.toNat).1, (gP l i.toNat).2.1, (gP l i.toNat).2.2.1, IntKind.i64.wrap ((gP l i.toNat).2.2.2.1 + d), (gP l i.toNat).2.2.2.2.1, (gP l i.toNat).2.2.2.2.2) : Pa) := by rw [ei, N_map_take _ (by omega), hx]
    exact Eq.trans (b := ⟨[.sl paT l, .int .i64 d] ++ List.replicate 5 .undef ++ [.own 0, .int .i64 (IntKind.i64.wrap (i + 1))] ++ List.replicate 36 .undef, [(0, .arr paT (putW (N ((l.take i.toNat).map (ageP d))) (((gP l i.toNat).1, (gP l i.toNat).2.1, (gP l i.toNat).2.2.1, IntKind.i64.wrap ((gP l i.toNat).2.2.2.1 + d), (gP l i.toNat).2.2.2.2.1, (gP l i.toNat).2.2.2.2.2) : Pa)))], 1⟩) rfl (by unfold S35; rw [hw, hs])
  have hlt : ¬ (i < (l.length : Int)) := @of_decide_eq_false _ _ hlt
  have ei : l.take i.toNat = l := List.take_of_length_le (by omega)
  have hN := N_len (l.map (ageP d))
  rw [List.length_map] at hN
  rw [ei]
  conv => whnf
  refine ⟨show (N (l.map (ageP d))).length ≤ 100000 by omega, ?_⟩
  conv => whnf
  refine cond_intro (fun h4 => ?_) (fun h4 => ?_)
  · have h4 : (!decide (cargoR (N (l.map (ageP d))) = 0)) = true := h4
    have h4 : ¬ (cargoR (N (l.map (ageP d))) = 0) := by simpa using h4
    conv => whnf
    show (([], 4) : List Pa × Int) = olderR l d
    rw [hfin, gather_age, if_neg h4]
  have h4 : (!decide (cargoR (N (l.map (ageP d))) = 0)) = false := h4
  have h4 : cargoR (N (l.map (ageP d))) = 0 := by simpa using h4
  conv => whnf
  show ((N (l.map (ageP d)), 0) : List Pa × Int) = olderR l d
  rw [hfin, gather_age, if_pos h4]
def E36 : Env := ⟨tab, [(21, K21), (55, K55), (62, K62)], fun n => match n with | 8 => some ([1, 7, 19, 20], [], []) | _ => none⟩
def K36 : Fn1 := ⟨.fld (.sl paT) (.one I), .fld (.sl paT) (.one I), fun (a : List Pa × Int) => [a.1.length ≤ 100000], fun (a : List Pa × Int) => olderR a.1 a.2⟩
theorem k36 : FnOk Go.Proofs.Try.prog 36 K36 := by
  refine fn_ok (E := E36) (TOk.of tab_told) (AllOk.cons k21 (.cons k55 (.cons k62 .nil))).at_ mix Go.Proofs.Try.func36 rfl rfl (by kernel_rfl) K36 ?_
  rintro ⟨(l : List Pa), (d : Int)⟩ hp
  have hl : l.length ≤ 100000 := hp _ (List.mem_cons_self ..)
  clear hp
  conv => whnf
  refine ⟨hl, ?_⟩
  conv => whnf
  refine cond_intro (fun h1 => ?_) (fun h1 => ?_)
  · have h1 : (!decide (cargoR l = 0)) = true := h1
    have h1 : ¬ (cargoR l = 0) := by simpa using h1
    conv => whnf
    show (([], cargoR l) : List Pa × Int) = olderR l d
    rw [olderR, if_pos h1]
  have h1 : (!decide (cargoR l = 0)) = false := h1
  have h1 : cargoR l = 0 := by simpa using h1
  have hv := (cargo_zero l).1 h1
  have hl2 := hv.1
  have hok := hv.2.2
  conv => whnf
  refine cond_intro (fun h2 => ?_) (fun h2 => ?_)
  · have h2 : d < 0 := @of_decide_eq_true _ _ h2
    conv => whnf
    show (([], 1) : List Pa × Int) = olderR l d
    rw [olderR, if_neg (by simp [h1]), if_pos h2]
  have h2 : ¬ (d < 0) := @of_decide_eq_false _ _ h2
  have hfin : olderR l d = gatherR (l.map (ageP d)) := by rw [olderR, if_neg (by simp [h1]), if_neg h2]
  conv => whnf
  refine ⟨show l.length ≤ 1000000 by omega, ?_⟩
  conv => whnf
  refine loop_rule (fun i => S36 l d i) (fun i => ((l.length : Int) - i).toNat) (fun i => 0 ≤ i ∧ i ≤ l.length) ?_ 0 (by kernel_rfl) ?_ ⟨by omega, by omega⟩
  case refine_2 => rfl
  rintro i ⟨h0, h3⟩
  conv => whnf
  refine cond_intro (fun hlt => ?_) (fun hlt => ?_)
  · have hlt : i < (l.length : Int) := @of_decide_eq_true _ _ hlt
    have hw : IntKind.i64.wrap (i + 1) = i + 1 := wrap_eq (by omega) (by omega)
    have ei : (i + 1).toNat = i.toNat + 1 := by omega
    have hg : okP (gP l i.toNat) := by rw [gP_eq (show i.toNat < l.length by omega)]; exact hok _ (List.getElem_mem _)
    rw [okP_iff] at hg
    have hlm : i < ((mixR l d i.toNat).length : Int) := by rw [mix_len]; exact hlt
    have hma := mix_at (d := d) (show i.toNat < l.length by omega)
    have hms := mix_set (d := d) (show i.toNat < l.length by omega)
    have hage : (((gP (mixR l d i.toNat) i.toNat).1, (gP (mixR l d i.toNat) i.toNat).2.1, (gP (mixR l d i.toNat) i.toNat).2.2.1, (min2 (IntKind.i64.wrap ((gP (mixR l d i.toNat) i.toNat).2.2.2.1 + min2 d 255)) 255), (gP (mixR l d i.toNat) i.toNat).2.2.2.2.1, (gP (mixR l d i.toNat) i.toNat).2.2.2.2.2) : Pa) = ageP d (gP l i.toNat) := mix_age (show 0 ≤ d by omega) (show i.toNat < l.length by omega) (by rw [okP_iff]; exact hg) hma
    conv => whnf
    refine ⟨h0, ?_⟩
    conv => whnf
    refine ⟨hlm, ?_⟩
    conv => whnf
    refine ⟨h0, ?_⟩
    conv => whnf
    refine ⟨hlm, ?_⟩
    conv => whnf
    refine ⟨i + 1, ?_, ⟨by omega, by omega⟩, by omega⟩
    exact Eq.trans (b := ⟨[.undef, .int .i64 d] ++ List.replicate 5 .undef ++ [.own 0] ++ List.replicate 11 .undef ++ [.int .i64 l.length, .int .i64 (IntKind.i64.wrap (i + 1))] ++ List.replicate 20 .undef, [(0, .arr paT ((mixR l d i.toNat).set i.toNat (((gP (mixR l d i.toNat) i.toNat).1, (gP (mixR l d i.toNat) i.toNat).2.1, (gP (mixR l d i.toNat) i.toNat).2.2.1, (min2 (IntKind.i64.wrap ((gP (mixR l d i.toNat) i.toNat).2.2.2.1 + min2 d 255)) 255), (gP (mixR l d i.toNat) i.toNat).2.2.2.2.1, (gP (mixR l d i.toNat) i.toNat).2.2.2.2.2) : Pa)))], 1⟩) rfl (by unfold S36; rw [hw, hage, hms, ei])
  have hlt : ¬ (i < (l.length : Int)) := @of_decide_eq_false _ _ hlt
  have ei : (mixR l d i.toNat) = l.map (ageP d) := by unfold mixR; rw [List.take_of_length_le (by omega), List.drop_of_length_le (by omega), List.append_nil]
  rw [ei]
  conv => whnf
  refine ⟨show (l.map (ageP d)).length ≤ 1000 by rw [List.length_map]; omega, ?_⟩
  conv => whnf
  refine ⟨show ∀ p ∈ l.map (ageP d), okP p from fun p hp => by obtain ⟨q, hq, rfl⟩ := List.mem_map.1 hp; exact age_ok (by omega) (hok q hq), ?_⟩
  conv => whnf
  show gatherR (l.map (ageP d)) = olderR l d
  rw [hfin]
end
end Go.Proofs.Ytmphplpfgjcpiaa.Eng
set_option linter.unusedVariables false
set_option linter.unusedSimpArgs false
namespace Go.Proofs.Ytmphplpfgjcpiaa.Eng
open Go
set_option maxRecDepth 100000
noncomputable section
open Go.RowKit
def cntP (l : List Pa) : Int := (l.map fun p => p.2.2.2.2.1).sum
theorem cntP_take {l : List Pa} {i : Nat} (hi : i < l.length) : cntP (l.take (i + 1)) = cntP (l.take i) + (gP l i).2.2.2.2.1 := by
  unfold cntP
  rw [List.take_succ_eq_append_getElem hi, List.map_append, List.sum_append, gP_eq hi]
  simp
theorem cntP_bnd : ∀ {l : List Pa}, (∀ p ∈ l, okP p) → 0 ≤ cntP l ∧ cntP l ≤ l.length * 1000000
  | [], h => by simp [cntP]
  | p :: l, h => by
    have h1 := cntP_bnd (l := l) fun q hq => h q (List.mem_cons_of_mem _ hq)
    have h2 := h p List.mem_cons_self
    rw [okP_iff] at h2
    have e : cntP (p :: l) = p.2.2.2.2.1 + cntP l := by simp [cntP]
    rw [e, List.length_cons]
    omega
def S32 (l : List Pa) (i : Int) : SL := ⟨[.sl paT l, .undef, .undef, .int .i64 (cntP (l.take i.toNat)), .int .i64 i] ++ List.replicate 14 .undef, [], 0⟩
def E32 : Env := ⟨tab, [], fun n => match n with | 3 => some ([0, 3, 4], [], []) | _ => none⟩
def K32 : Fn1 := ⟨.one (.sl paT), .one I, fun (l : List Pa) => [l.length ≤ 1000, ∀ p ∈ l, okP p], fun (l : List Pa) => cntP l⟩
theorem k32 : FnOk Go.Proofs.Try.prog 32 K32 := by
  refine fn_ok (E := E32) (TOk.of tab_told) (fun f k h => by cases h) mix Go.Proofs.Try.func32 rfl rfl (by kernel_rfl) K32 ?_
  rintro (l : List Pa) hp
  have hl : l.length ≤ 1000 := hp _ (List.mem_cons_self ..)
  have hok : ∀ p ∈ l, okP p := hp _ (List.mem_cons_of_mem _ (List.mem_cons_self ..))
  clear hp
  conv => whnf
  refine loop_rule (S32 l) (fun i => ((l.length : Int) - i).toNat) (fun i => 0 ≤ i ∧ i ≤ l.length) ?_ 0 (by kernel_rfl) ?_ ⟨by omega, by omega⟩
  case refine_2 => rfl
  rintro i ⟨h0, h1⟩
  conv => whnf
  refine cond_intro (fun hlt => ?_) (fun hlt => ?_)
  · have hlt : i < (l.length : Int) := @of_decide_eq_true _ _ hlt
    have hw : IntKind.i64.wrap (i + 1) = i + 1 := wrap_eq (by omega) (by omega)
    have ei : (i + 1).toNat = i.toNat + 1 := by omega
    have hb := cntP_bnd (l := l.take i.toNat) fun p hp => hok p (List.mem_of_mem_take hp)
    rw [List.length_take] at hb
    have hg : okP (gP l i.toNat) := by rw [gP_eq (show i.toNat < l.length by omega)]; exact hok _ (List.getElem_mem _)
    rw [okP_iff] at hg
    have hs : IntKind.i64.wrap (cntP (l.take i.toNat) + (gP l i.toNat).2.2.2.2.1) = cntP (l.take (i + 1).toNat) := by rw [ei, cntP_take (by omega)]; exact wrap_eq (by omega) (by omega)
    conv => whnf
    refine ⟨h0, ?_⟩
    conv => whnf
    refine ⟨hlt, ?_⟩
    conv => whnf
    refine ⟨i + 1, ?_, ⟨by omega, by omega⟩, by omega⟩
    exact Eq.trans (b := ⟨[.sl paT l, .undef, .undef, .int .i64 (IntKind.i64.wrap (cntP (l.take i.toNat) + (gP l i.toNat).2.2.2.2.1)), .int .i64 (IntKind.i64.wrap (i + 1))] ++ List.replicate 14 .undef, [], 0⟩) rfl (by unfold S32; rw [hw, hs])
  have hlt : ¬ (i < (l.length : Int)) := @of_decide_eq_false _ _ hlt
  rw [List.take_of_length_le (by omega)]
  conv => whnf
  show cntP l = cntP l
  rfl
def shrP (l : List Pa) : Int := (l.map fun p => p.2.2.2.2.2).sum
theorem shrP_take {l : List Pa} {i : Nat} (hi : i < l.length) : shrP (l.take (i + 1)) = shrP (l.take i) + (gP l i).2.2.2.2.2 := by
  unfold shrP
  rw [List.take_succ_eq_append_getElem hi, List.map_append, List.sum_append, gP_eq hi]
  simp
theorem shrP_bnd : ∀ {l : List Pa}, (∀ p ∈ l, okP p) → 0 ≤ shrP l ∧ shrP l ≤ l.length * 1000000000000
  | [], h => by simp [shrP]
  | p :: l, h => by
    have h1 := shrP_bnd (l := l) fun q hq => h q (List.mem_cons_of_mem _ hq)
    have h2 := h p List.mem_cons_self
    rw [okP_iff] at h2
    have e : shrP (p :: l) = p.2.2.2.2.2 + shrP l := by simp [shrP]
    rw [e, List.length_cons]
    omega
def S31 (l : List Pa) (i : Int) : SL := ⟨[.sl paT l, .undef, .undef, .int .i64 (shrP (l.take i.toNat)), .int .i64 i] ++ List.replicate 14 .undef, [], 0⟩
def E31 : Env := ⟨tab, [], fun n => match n with | 3 => some ([0, 3, 4], [], []) | _ => none⟩
def K31 : Fn1 := ⟨.one (.sl paT), .one I, fun (l : List Pa) => [l.length ≤ 1000, ∀ p ∈ l, okP p], fun (l : List Pa) => shrP l⟩
theorem k31 : FnOk Go.Proofs.Try.prog 31 K31 := by
  refine fn_ok (E := E31) (TOk.of tab_told) (fun f k h => by cases h) mix Go.Proofs.Try.func31 rfl rfl (by kernel_rfl) K31 ?_
  rintro (l : List Pa) hp
  have hl : l.length ≤ 1000 := hp _ (List.mem_cons_self ..)
  have hok : ∀ p ∈ l, okP p := hp _ (List.mem_cons_of_mem _ (List.mem_cons_self ..))
  clear hp
  conv => whnf
  refine loop_rule (S31 l) (fun i => ((l.length : Int) - i).toNat) (fun i => 0 ≤ i ∧ i ≤ l.length) ?_ 0 (by kernel_rfl) ?_ ⟨by omega, by omega⟩
  case refine_2 => rfl
  rintro i ⟨h0, h1⟩
  conv => whnf
  refine cond_intro (fun hlt => ?_) (fun hlt => ?_)
  · have hlt : i < (l.length : Int) := @of_decide_eq_true _ _ hlt
    have hw : IntKind.i64.wrap (i + 1) = i + 1 := wrap_eq (by omega) (by omega)
    have ei : (i + 1).toNat = i.toNat + 1 := by omega
    have hb := shrP_bnd (l := l.take i.toNat) fun p hp => hok p (List.mem_of_mem_take hp)
    rw [List.length_take] at hb
    have hg : okP (gP l i.toNat) := by rw [gP_eq (show i.toNat < l.length by omega)]; exact hok _ (List.getElem_mem _)
    rw [okP_iff] at hg
    have hs : IntKind.i64.wrap (shrP (l.take i.toNat) + (gP l i.toNat).2.2.2.2.2) = shrP (l.take (i + 1).toNat) := by rw [ei, shrP_take (by omega)]; exact wrap_eq (by omega) (by omega)
    conv => whnf
    refine ⟨h0, ?_⟩
    conv => whnf
    refine ⟨hlt, ?_⟩
    conv => whnf
    refine ⟨i + 1, ?_, ⟨by omega, by omega⟩, by omega⟩
    exact Eq.trans (b := ⟨[.sl paT l, .undef, .undef, .int .i64 (IntKind.i64.wrap (shrP (l.take i.toNat) + (gP l i.toNat).2.2.2.2.2)), .int .i64 (IntKind.i64.wrap (i + 1))] ++ List.replicate 14 .undef, [], 0⟩) rfl (by unfold S31; rw [hw, hs])
  have hlt : ¬ (i < (l.length : Int)) := @of_decide_eq_false _ _ hlt
  rw [List.take_of_length_le (by omega)]
  conv => whnf
  show shrP l = shrP l
  rfl
theorem N_fold_take (m : List Pa) {l : List Pa} {i : Nat} (hi : i < l.length) : fold m (l.take (i + 1)) = putW (fold m (l.take i)) (gP l i) := by
  rw [List.take_succ_eq_append_getElem hi, fold_app, gP_eq hi]; rfl
def S63a (a b : List Pa) (i : Int) : SL := ⟨[.sl paT a, .sl paT b] ++ List.replicate 4 .undef ++ [.own 0, .int .i64 i] ++ List.replicate 29 .undef, [(0, .arr paT (N (a.take i.toNat)))], 1⟩
def S63b (a b : List Pa) (i : Int) : SL := ⟨[.undef, .sl paT b] ++ List.replicate 4 .undef ++ [.own 0, .undef, .int .i64 i] ++ List.replicate 28 .undef, [(0, .arr paT (fold (N a) (b.take i.toNat)))], 1⟩
def E63 : Env := ⟨tab, [(61, K61), (20, K20)], fun n => match n with | 3 => some ([0, 1, 6, 7], [(6, paT)], []) | 7 => some ([1, 6, 8], [(6, paT)], []) | _ => none⟩
def K63 : Fn1 := ⟨.fld (.sl paT) (.one (.sl paT)), .fld (.sl paT) (.one I), fun (a : List Pa × List Pa) => [a.1.length ≤ 1000, a.2.length ≤ 1000], fun (a : List Pa × List Pa) => gatherR (a.1 ++ a.2)⟩
theorem k63 : FnOk Go.Proofs.Try.prog 63 K63 := by
  refine fn_ok (E := E63) (TOk.of tab_told) (AllOk.cons k61 (.cons k20 .nil)).at_ mix Go.Proofs.Try.func63 rfl rfl (by kernel_rfl) K63 ?_
  rintro ⟨(a : List Pa), (b : List Pa)⟩ hp
  have ha : a.length ≤ 1000 := hp _ (List.mem_cons_self ..)
  have hb : b.length ≤ 1000 := hp _ (List.mem_cons_of_mem _ (List.mem_cons_self ..))
  clear hp
  conv => whnf
  refine loop_rule (S63a a b) (fun i => ((a.length : Int) - i).toNat) (fun i => 0 ≤ i ∧ i ≤ a.length) ?_ 0 (by kernel_rfl) ?_ ⟨by omega, by omega⟩
  case refine_2 => rfl
  rintro i ⟨h0, h1⟩
  conv => whnf
  refine cond_intro (fun hlt => ?_) (fun hlt => ?_)
  · have hlt : i < (a.length : Int) := @of_decide_eq_true _ _ hlt
    have hw : IntKind.i64.wrap (i + 1) = i + 1 := wrap_eq (by omega) (by omega)
    have ei : (i + 1).toNat = i.toNat + 1 := by omega
    have hn := fold_len (a.take i.toNat) []
    have hn2 := N_len a
    simp only [List.length_take, List.length_nil] at hn
    conv => whnf
    refine ⟨h0, ?_⟩
    conv => whnf
    refine ⟨hlt, ?_⟩
    conv => whnf
    refine ⟨show (N (a.take i.toNat)).length ≤ 1000000 by unfold N; omega, ?_⟩
    conv => whnf
    refine ⟨i + 1, ?_, ⟨by omega, by omega⟩, by omega⟩
    exact Eq.trans (b := ⟨[.sl paT a, .sl paT b] ++ List.replicate 4 .undef ++ [.own 0, .int .i64 (IntKind.i64.wrap (i + 1))] ++ List.replicate 29 .undef, [(0, .arr paT (putW (N (a.take i.toNat)) (gP a i.toNat)))], 1⟩) rfl (by unfold S63a; rw [hw, ei, show N (a.take (i.toNat + 1)) = putW (N (a.take i.toNat)) (gP a i.toNat) from N_fold_take [] (by omega)])
  have hlt : ¬ (i < (a.length : Int)) := @of_decide_eq_false _ _ hlt
  rw [List.take_of_length_le (by omega)]
  conv => whnf
  refine loop_rule (S63b a b) (fun i => ((b.length : Int) - i).toNat) (fun i => 0 ≤ i ∧ i ≤ b.length) ?_ 0 (by kernel_rfl) ?_ ⟨by omega, by omega⟩
  case refine_2 => rfl
  rintro i ⟨h0, h1⟩
  conv => whnf
  refine cond_intro (fun hlt => ?_) (fun hlt => ?_)
  · have hlt : i < (b.length : Int) := @of_decide_eq_true _ _ hlt
    have hw : IntKind.i64.wrap (i + 1) = i + 1 := wrap_eq (by omega) (by omega)
    have ei : (i + 1).toNat = i.toNat + 1 := by omega
    have hn := fold_len (b.take i.toNat) (N a)
    have hn2 := N_len a
    simp only [List.length_take, List.length_nil] at hn
    conv => whnf
    refine ⟨h0, ?_⟩
    conv => whnf
    refine ⟨hlt, ?_⟩
    conv => whnf
    refine ⟨show (fold (N a) (b.take i.toNat)).length ≤ 1000000 by  omega, ?_⟩
    conv => whnf
    refine ⟨i + 1, ?_, ⟨by omega, by omega⟩, by omega⟩
    exact Eq.trans (b := ⟨[.undef, .sl paT b] ++ List.replicate 4 .undef ++ [.own 0, .undef, .int .i64 (IntKind.i64.wrap (i + 1))] ++ List.replicate 28 .undef, [(0, .arr paT (putW (fold (N a) (b.take i.toNat)) (gP b i.toNat)))], 1⟩) rfl (by unfold S63b; rw [hw, ei, N_fold_take (N a) (by omega)])
  have hlt : ¬ (i < (b.length : Int)) := @of_decide_eq_false _ _ hlt
  rw [List.take_of_length_le (by omega)]
  have hn := fold_len b (N a)
  have hn2 := N_len a
  conv => whnf
  refine ⟨show (fold (N a) b).length ≤ 100000 by omega, ?_⟩
  conv => whnf
  refine cond_intro (fun hc => ?_) (fun hc => ?_)
  · have hc : (!decide (cargoR (fold (N a) b) = 0)) = true := hc
    have hc : ¬ (cargoR (fold (N a) b) = 0) := by simpa using hc
    conv => whnf
    show (([], 4) : List Pa × Int) = gatherR (a ++ b)
    rw [gatherR, N_append, if_neg hc]
  have hc : (!decide (cargoR (fold (N a) b) = 0)) = false := hc
  have hc : cargoR (fold (N a) b) = 0 := by simpa using hc
  conv => whnf
  show ((fold (N a) b, 0) : List Pa × Int) = gatherR (a ++ b)
  rw [gatherR, N_append, if_pos hc]
/-- The load of two loads. -/
def joinR (a b : List Pa) : List Pa × Int := if cargoR a ≠ 0 then ([], cargoR a) else if cargoR b ≠ 0 then ([], cargoR b) else gatherR (a ++ b)
def K37 : Fn1 := ⟨.fld (.sl paT) (.one (.sl paT)), .fld (.sl paT) (.one I), fun (a : List Pa × List Pa) => [a.1.length ≤ 100000, a.2.length ≤ 100000], fun (a : List Pa × List Pa) => joinR a.1 a.2⟩
theorem k37 : FnOk Go.Proofs.Try.prog 37 K37 := by
  refine fn_ok (E := (⟨tab, [(20, K20), (63, K63)], ann0⟩ : Env)) (TOk.of tab_told) (AllOk.cons k20 (.cons k63 .nil)).at_ mix Go.Proofs.Try.func37 rfl rfl (by kernel_rfl) K37 ?_
  rintro ⟨(a : List Pa), (b : List Pa)⟩ hp
  have ha : a.length ≤ 100000 := hp _ (List.mem_cons_self ..)
  have hb : b.length ≤ 100000 := hp _ (List.mem_cons_of_mem _ (List.mem_cons_self ..))
  clear hp
  conv => whnf
  refine ⟨ha, ?_⟩
  conv => whnf
  refine cond_intro (fun h1 => ?_) (fun h1 => ?_)
  · have h1 : (!decide (cargoR a = 0)) = true := h1
    have h1 : ¬ (cargoR a = 0) := by simpa using h1
    conv => whnf
    show (([], cargoR a) : List Pa × Int) = joinR a b
    rw [joinR, if_pos h1]
  have h1 : (!decide (cargoR a = 0)) = false := h1
  have h1 : cargoR a = 0 := by simpa using h1
  have ha2 := ((cargo_zero a).1 h1).1
  conv => whnf
  refine ⟨hb, ?_⟩
  conv => whnf
  refine cond_intro (fun h2 => ?_) (fun h2 => ?_)
  · have h2 : (!decide (cargoR b = 0)) = true := h2
    have h2 : ¬ (cargoR b = 0) := by simpa using h2
    conv => whnf
    show (([], cargoR b) : List Pa × Int) = joinR a b
    rw [joinR, if_neg (by simp [h1]), if_pos h2]
  have h2 : (!decide (cargoR b = 0)) = false := h2
  have h2 : cargoR b = 0 := by simpa using h2
  have hb2 := ((cargo_zero b).1 h2).1
  conv => whnf
  refine ⟨show a.length ≤ 1000 by omega, ?_⟩
  conv => whnf
  refine ⟨show b.length ≤ 1000 by omega, ?_⟩
  conv => whnf
  show gatherR (a ++ b) = joinR a b
  rw [joinR, if_neg (by simp [h1]), if_neg (by simp [h2])]
end
end Go.Proofs.Ytmphplpfgjcpiaa.Eng
set_option linter.unusedVariables false
set_option linter.unusedSimpArgs false
namespace Go.Proofs.Ytmphplpfgjcpiaa.Eng
open Go
set_option maxRecDepth 100000
noncomputable section
open Go.RowKit
abbrev U : Ty := .int .u64
abbrev caT : Ty := .fld .str (.fld I (.fld I (.one I)))
def sA : ByteArray := { data := #[97] }
abbrev Ca := ByteArray × Int × Int × Int
def cA : Ca := (sA, 16, 10, 5)
def K68 : Fn1 := ⟨.fld U (.one U), .fld U (.one U), fun (a : Int × Int) => [a = (4048, 80)], fun _ => ((0, 323840) : Int × Int)⟩
theorem k68 : FnOk Go.Proofs.Try.prog 68 K68 := by
  refine fn_ok (E := E0) (TOk.of tab_told) noK mix Go.Proofs.Try.func68 rfl rfl (by kernel_rfl) K68 ?_
  rintro a hp
  obtain rfl : a = ((4048, 80) : Int × Int) := hp _ (List.mem_cons_self ..)
  clear hp
  conv => whnf
  repeat (refine ⟨by first | decide +kernel | rfl | kernel_rfl, ?_⟩; conv => whnf)
  kernel_rfl
def K69 : Fn1 := ⟨.fld U (.fld U (.one U)), .fld U (.one U), fun (a : Int × Int × Int) => [a = (0, 323840, 4096)], fun _ => ((79, 256) : Int × Int)⟩
theorem k69 : FnOk Go.Proofs.Try.prog 69 K69 := by
  refine fn_ok (E := E0) (TOk.of tab_told) noK mix Go.Proofs.Try.func69 rfl rfl (by kernel_rfl) K69 ?_
  rintro a hp
  obtain rfl : a = ((0, 323840, 4096) : Int × Int × Int) := hp _ (List.mem_cons_self ..)
  clear hp
  conv => whnf
  repeat (refine ⟨by first | decide +kernel | rfl | kernel_rfl, ?_⟩; conv => whnf)
  kernel_rfl
def K45 : Fn1 := ⟨.fld caT (.fld I (.fld I (.one I))), .one I, fun (a : Ca × Int × Int × Int) => [a = (cA, 10, 8, 12)], fun _ => (79 : Int)⟩
theorem k45 : FnOk Go.Proofs.Try.prog 45 K45 := by
  refine fn_ok (E := (⟨tab, [(68, K68), (69, K69)], ann0⟩ : Env)) (TOk.of tab_told) (AllOk.cons k68 (.cons k69 .nil)).at_ mix Go.Proofs.Try.func45 rfl rfl (by kernel_rfl) K45 ?_
  rintro a hp
  obtain rfl : a = ((cA, 10, 8, 12) : Ca × Int × Int × Int) := hp _ (List.mem_cons_self ..)
  clear hp
  conv => whnf
  repeat (refine ⟨by first | decide +kernel | rfl | kernel_rfl, ?_⟩; conv => whnf)
  kernel_rfl
def S50 (i : Int) : SL := ⟨[.str sA] ++ List.replicate 4 .undef ++ [.int .i64 1, .int .i64 i] ++ List.replicate 21 .undef, [], 0⟩
def E50 : Env := ⟨tab, [], fun n => match n with | 2 => some ([0, 5, 6], [], []) | _ => none⟩
def K50 : Fn1 := ⟨.one .str, .one .bool, fun (a : ByteArray) => [a = sA], fun _ => (true : Bool)⟩
theorem k50 : FnOk Go.Proofs.Try.prog 50 K50 := by
  refine fn_ok (E := E50) (TOk.of tab_told) (fun f k h => by cases h) mix Go.Proofs.Try.func50 rfl rfl (by kernel_rfl) K50 ?_
  rintro a hp
  obtain rfl : a = (sA : ByteArray) := hp _ (List.mem_cons_self ..)
  clear hp
  conv => whnf
  refine loop_rule (S50) (fun i => (1 - i).toNat) (fun i => i = 0 ∨ i = 1) ?_ 0 (by kernel_rfl) ?_ (Or.inl rfl)
  case refine_2 => rfl
  rintro i (rfl | rfl)
  · conv => whnf
    repeat (refine ⟨by first | decide +kernel | rfl | kernel_rfl, ?_⟩; conv => whnf)
    exact ⟨1, by kernel_rfl, Or.inr rfl, by decide⟩
  · conv => whnf
    repeat (refine ⟨by first | decide +kernel | rfl | kernel_rfl, ?_⟩; conv => whnf)
    kernel_rfl
def S23a (i : Int) : SL := ⟨[.sl caT [cA]] ++ List.replicate 11 .undef ++ [.sl caT [cA], .int .i64 1, .int .i64 i] ++ List.replicate 48 .undef, [], 0⟩
def S23b (i : Int) : SL := ⟨[.sl caT [cA]] ++ List.replicate 40 .undef ++ [.sl caT [cA], .int .i64 1, .int .i64 i] ++ List.replicate 19 .undef, [], 0⟩
def S23c (i : Int) : SL := ⟨[.sl caT [cA]] ++ List.replicate 5 .undef ++ [.ptr 0 0 0] ++ List.replicate 34 .undef ++ [.sl caT [cA], .int .i64 1, .int .i64 0] ++ List.replicate 6 .undef ++ [.sl caT [], .int .i64 0, .int .i64 0] ++ List.replicate 10 .undef, [(0, .box [.str sA, .int .i64 16, .int .i64 10, .int .i64 5])], 1⟩
def E23 : Env := ⟨tab, [(50, K50), (44, K44)], fun n => match n with | 4 => some ([0, 12, 13, 14], [], []) | 10 => some ([0, 41, 42, 43], [], []) | 13 => some ([0, 6, 41, 42, 43, 50, 51, 52], [], []) | _ => none⟩
def K23 : Fn1 := ⟨.one (.sl caT), .one I, fun (a : List Ca) => [a = [cA]], fun _ => (0 : Int)⟩
theorem k23 : FnOk Go.Proofs.Try.prog 23 K23 := by
  refine fn_ok (E := E23) (TOk.of tab_told) (AllOk.cons k50 (.cons k44 .nil)).at_ mix Go.Proofs.Try.func23 rfl rfl (by kernel_rfl) K23 ?_
  rintro a hp
  obtain rfl : a = ([cA] : List Ca) := hp _ (List.mem_cons_self ..)
  clear hp
  conv => whnf
  refine loop_rule (S23a) (fun i => (1 - i).toNat) (fun i => i = 0 ∨ i = 1) ?_ 0 (by kernel_rfl) ?_ (Or.inl rfl)
  case refine_2 => rfl
  rintro i (rfl | rfl)
  · conv => whnf
    repeat (refine ⟨by first | decide +kernel | rfl | kernel_rfl, ?_⟩; conv => whnf)
    exact ⟨1, by kernel_rfl, Or.inr rfl, by decide⟩
  conv => whnf
  refine loop_rule (S23b) (fun i => (1 - i).toNat) (fun i => i = 0 ∨ i = 1) ?_ 0 (by kernel_rfl) ?_ (Or.inl rfl)
  case refine_2 => rfl
  rintro i (rfl | rfl)
  · conv => whnf
    repeat (refine ⟨by first | decide +kernel | rfl | kernel_rfl, ?_⟩; conv => whnf)
    refine loop_rule S23c (fun i => 0) (fun i => True) ?_ 0 (by kernel_rfl) ?_ trivial
    case refine_2 => kernel_rfl
    rintro i _
    conv => whnf
    repeat (refine ⟨by first | decide +kernel | rfl | kernel_rfl, ?_⟩; conv => whnf)
    exact ⟨1, by kernel_rfl, Or.inr rfl, by decide⟩
  conv => whnf
  repeat (refine ⟨by first | decide +kernel | rfl | kernel_rfl, ?_⟩; conv => whnf)
  kernel_rfl
def K18 : Fn1 := ⟨.fld caT (.fld I (.fld I (.one I))), .fld I (.one I), fun (a : Ca × Int × Int × Int) => [a = (cA, 10, 8, 12)], fun _ => ((79, 0) : Int × Int)⟩
theorem k18 : FnOk Go.Proofs.Try.prog 18 K18 := by
  refine fn_ok (E := (⟨tab, [(23, K23), (44, K44), (45, K45)], ann0⟩ : Env)) (TOk.of tab_told) (AllOk.cons k23 (.cons k44 (.cons k45 .nil))).at_ mix Go.Proofs.Try.func18 rfl rfl (by kernel_rfl) K18 ?_
  rintro a hp
  obtain rfl : a = ((cA, 10, 8, 12) : Ca × Int × Int × Int) := hp _ (List.mem_cons_self ..)
  clear hp
  conv => whnf
  repeat (refine ⟨by first | decide +kernel | rfl | kernel_rfl, ?_⟩; conv => whnf)
  kernel_rfl
def K19 : Fn1 := ⟨.bool, .one .bool, fun _ => [], fun _ => true⟩
theorem k19 : FnOk Go.Proofs.Try.prog 19 K19 := by
  refine fn_ok (E := (⟨tab, [(18, K18)], ann0⟩ : Env)) (TOk.of tab_told) (AllOk.cons k18 .nil).at_ mix Go.Proofs.Try.func19 rfl rfl (by kernel_rfl) K19 ?_
  rintro a hp
  clear hp
  conv => whnf
  repeat (refine ⟨by first | decide +kernel | rfl | kernel_rfl, ?_⟩; conv => whnf)
  kernel_rfl
end
end Go.Proofs.Ytmphplpfgjcpiaa.Eng
set_option linter.unusedVariables false
set_option linter.unusedSimpArgs false
namespace Go.Proofs.Ytmphplpfgjcpiaa.Eng
open Go
set_option maxRecDepth 100000
noncomputable section
open Go.RowKit
theorem older_zero {l : List Pa} {d : Int} (h : (olderR l d).2 = 0) : cargoR l = 0 ∧ 0 ≤ d ∧ cargoR (N (l.map (ageP d))) = 0 ∧ olderR l d = (N (l.map (ageP d)), 0) := by
  unfold olderR at h ⊢
  by_cases h1 : cargoR l = 0
  · rw [if_neg (by simp [h1])] at h ⊢
    by_cases h2 : d < 0
    · rw [if_pos h2] at h; cases h
    · rw [if_neg h2] at h ⊢
      rw [gather_age] at h ⊢
      by_cases h3 : cargoR (N (l.map (ageP d))) = 0
      · rw [if_pos h3]; exact ⟨h1, by omega, h3, rfl⟩
      · rw [if_neg h3] at h; cases h
  · rw [if_pos h1] at h; exact absurd h h1
theorem older_len (l : List Pa) (d : Int) : (olderR l d).1.length ≤ 200 := by
  unfold olderR
  split
  · simp
  split
  · simp
  unfold gatherR
  split
  · rename_i h; exact ((cargo_zero _).1 h).1
  · simp
theorem sum_put : ∀ {m : List Pa} {p : Pa} {a b : Int}, a + b ≤ 1000000 → (∀ x ∈ m, Bnd a x) → Bnd b p → cntP (putW m p) = cntP m + p.2.2.2.2.1 ∧ shrP (putW m p) = shrP m + p.2.2.2.2.2
  | [], p, a, b, hl, hm, hp => by simp [putW, cntP, shrP]
  | y :: m, p, a, b, hl, hm, hp => by
    obtain ⟨_, e1, e2⟩ := bnd_add (hm y List.mem_cons_self) hp hl
    have ih := sum_put hl (fun x hx => hm x (List.mem_cons_of_mem _ hx)) hp
    unfold putW
    split
    · simp only [cntP, shrP, List.map_cons, List.sum_cons] at ih ⊢
      omega
    split
    · simp only [cntP, shrP, List.map_cons, List.sum_cons]
      omega
    · simp only [cntP, shrP, List.map_cons, List.sum_cons, e1, e2]
      omega
theorem sum_fold : ∀ {l m : List Pa} {a : Int}, 0 ≤ a → a + l.length ≤ 1000000 → (∀ x ∈ m, Bnd a x) → (∀ x ∈ l, okP x) → cntP (fold m l) = cntP m + cntP l ∧ shrP (fold m l) = shrP m + shrP l
  | [], m, a, ha, hl, hm, ho => by simp [fold_nil, cntP, shrP]
  | p :: l, m, a, ha, hl, hm, ho => by
    simp only [List.length_cons] at hl
    have h0 := bnd_ok (ho p List.mem_cons_self)
    have h1 := put_bnd ha (b := 1) (by omega) (by omega) hm h0
    have h2 := sum_fold (l := l) (a := a + 1) (by omega) (by omega) h1 (fun y hy => ho y (List.mem_cons_of_mem _ hy))
    have h3 := sum_put (by omega) hm h0
    rw [fold_cons, h2.1, h2.2, h3.1, h3.2]
    simp only [cntP, shrP, List.map_cons, List.sum_cons]
    omega
theorem sum_N {l : List Pa} (hl : l.length ≤ 1000000) (ho : ∀ x ∈ l, okP x) : cntP (N l) = cntP l ∧ shrP (N l) = shrP l := by
  have := sum_fold (l := l) (m := []) (a := 0) (by omega) (by omega) (by simp) ho
  simp only [cntP, shrP, List.map_nil, List.sum_nil, Int.zero_add] at this ⊢
  exact this
theorem sum_age (l : List Pa) (d : Int) : cntP (l.map (ageP d)) = cntP l ∧ shrP (l.map (ageP d)) = shrP l := by
  unfold cntP shrP
  rw [List.map_map, List.map_map]
  exact ⟨rfl, rfl⟩
theorem older_sum {l : List Pa} {d : Int} (h : (olderR l d).2 = 0) : cntP (olderR l d).1 = cntP l ∧ shrP (olderR l d).1 = shrP l := by
  obtain ⟨h1, h2, h3, h4⟩ := older_zero h
  have hv := (cargo_zero l).1 h1
  have := sum_N (l := l.map (ageP d)) (by rw [List.length_map]; omega) (fun p hp => by obtain ⟨q, hq, rfl⟩ := List.mem_map.1 hp; exact age_ok h2 (hv.2.2 q hq))
  rw [h4]
  show cntP (N (l.map (ageP d))) = _ ∧ shrP (N (l.map (ageP d))) = _
  rw [this.1, this.2]
  exact sum_age l d
theorem older_ok {l : List Pa} {d : Int} (h : (olderR l d).2 = 0) : (∀ p ∈ l, okP p) ∧ ∀ p ∈ (olderR l d).1, okP p := by
  obtain ⟨h1, h2, h3, h4⟩ := older_zero h
  refine ⟨((cargo_zero l).1 h1).2.2, ?_⟩
  rw [h4]
  exact ((cargo_zero _).1 h3).2.2
theorem age_hom (d : Int) : Hom (ageP d) := by
  refine ⟨fun x p h => rfl, fun x p h => ?_⟩
  obtain ⟨a, b, c, e⟩ := h
  refine ⟨a, b, c, ?_⟩
  show (if 255 - x.2.2.2.1 < d then 255 else x.2.2.2.1 + d) = (if 255 - p.2.2.2.1 < d then 255 else p.2.2.2.1 + d)
  rw [e]
theorem age_age {a b : Int} (ha : 0 ≤ a) (hb : 0 ≤ b) {p : Pa} (hp : okP p) : ageP b (ageP a p) = ageP (a + b) p := by
  rw [okP_iff] at hp
  have e : (if 255 - (if 255 - p.2.2.2.1 < a then 255 else p.2.2.2.1 + a) < b then 255 else (if 255 - p.2.2.2.1 < a then 255 else p.2.2.2.1 + a) + b) = if 255 - p.2.2.2.1 < a + b then 255 else p.2.2.2.1 + (a + b) := by
    split <;> split <;> split <;> omega
  exact congrArg (fun z => ((p.1, p.2.1, p.2.2.1, z, p.2.2.2.2.1, p.2.2.2.2.2) : Pa)) e
theorem older_add {l : List Pa} {a b : Int} (hb : 0 ≤ b) (h : (olderR l a).2 = 0) : olderR (olderR l a).1 b = olderR l (a + b) := by
  obtain ⟨h1, h2, h3, h4⟩ := older_zero h
  rw [h4]
  show olderR (N (l.map (ageP a))) b = _
  rw [olderR, if_neg (by simp [h3]), if_neg (by omega), olderR, if_neg (by simp [h1]), if_neg (by omega), gather_age, gather_age]
  have e : N ((N (l.map (ageP a))).map (ageP b)) = N (l.map (ageP (a + b))) := by
    rw [N_map (age_hom b), List.map_map]
    congr 1
    exact List.map_congr_left fun p hp => age_age h2 hb (((cargo_zero l).1 h1).2.2 p hp)
  rw [e]
def K11 : Fn1 := ⟨.fld (.sl paT) (.one I), .one .bool, fun _ => [], fun _ => true⟩
theorem k11 : FnOk Go.Proofs.Try.prog 11 K11 := by
  refine fn_ok (E := (⟨tab, [(19, K19), (35, K35), (36, K36), (30, K30), (32, K32), (31, K31)], ann0⟩ : Env)) (TOk.of tab_told) (AllOk.cons k19 (.cons k35 (.cons k36 (.cons k30 (.cons k32 (.cons k31 .nil)))))).at_ mix Go.Proofs.Try.func11 rfl rfl (by kernel_rfl) K11 ?_
  rintro ⟨(l : List Pa), (d : Int)⟩ hp
  clear hp
  conv => whnf
  refine cond_intro (fun h1 => ?_) (fun h1 => ?_)
  · have h1 : 1000 < (l.length : Int) := @of_decide_eq_true _ _ h1
    conv => whnf
    show true = true
    rfl
  have h1 : ¬ (1000 < (l.length : Int)) := @of_decide_eq_false _ _ h1
  have hl : l.length ≤ 100000 := by omega
  have hol := older_len l d
  conv => whnf
  refine ⟨hl, ?_⟩
  conv => whnf
  refine ⟨hl, ?_⟩
  conv => whnf
  refine cond_intro (fun h2 => ?_) (fun h2 => ?_)
  · have h2 : (olderR l d).2 = (olderR l d).2 := @of_decide_eq_true _ _ h2
    conv => whnf
    refine ⟨show (olderR l d).1.length ≤ 100000 by omega, ?_⟩
    conv => whnf
    refine cond_intro (fun h3 => ?_) (fun h3 => ?_)
    · have h3 : (eqPa (olderR l d).1 (olderR l d).1) = true := h3
      conv => whnf
      refine cond_intro (fun h4 => ?_) (fun h4 => ?_)
      · have h4 : (!decide ((olderR l d).2 = 0)) = true := h4
        have h4 : ¬ ((olderR l d).2 = 0) := by simpa using h4
        conv => whnf
        show true = true
        rfl
      have h4 : (!decide ((olderR l d).2 = 0)) = false := h4
      have h4 : (olderR l d).2 = 0 := by simpa using h4
      have hk := older_ok h4
      have hs := older_sum h4
      conv => whnf
      refine ⟨show (olderR l d).1.length ≤ 1000 by omega, ?_⟩
      conv => whnf
      refine ⟨hk.2, ?_⟩
      conv => whnf
      refine ⟨show l.length ≤ 1000 by omega, ?_⟩
      conv => whnf
      refine ⟨hk.1, ?_⟩
      conv => whnf
      refine cond_intro (fun h5 => ?_) (fun h5 => ?_)
      · have h5 : cntP (olderR l d).1 = cntP l := @of_decide_eq_true _ _ h5
        conv => whnf
        refine ⟨show (olderR l d).1.length ≤ 1000 by omega, ?_⟩
        conv => whnf
        refine ⟨hk.2, ?_⟩
        conv => whnf
        refine ⟨show l.length ≤ 1000 by omega, ?_⟩
        conv => whnf
        refine ⟨hk.1, ?_⟩
        conv => whnf
        refine cond_intro (fun h6 => ?_) (fun h6 => ?_)
        · have h6 : shrP (olderR l d).1 = shrP l := @of_decide_eq_true _ _ h6
          conv => whnf
          show true = true
          rfl
        have h6 : ¬ (shrP (olderR l d).1 = shrP l) := @of_decide_eq_false _ _ h6
        exact absurd hs.2 h6
      have h5 : ¬ (cntP (olderR l d).1 = cntP l) := @of_decide_eq_false _ _ h5
      exact absurd hs.1 h5
    have h3 : (eqPa (olderR l d).1 (olderR l d).1) = false := h3
    simp [eqPa] at h3
  have h2 : ¬ ((olderR l d).2 = (olderR l d).2) := @of_decide_eq_false _ _ h2
  exact absurd rfl h2
def K12 : Fn1 := ⟨.fld (.sl paT) (.fld (.int .u8) (.one (.int .u8))), .one .bool, fun (a : List Pa × Int × Int) => [0 ≤ a.2.1 ∧ a.2.1 ≤ 255, 0 ≤ a.2.2 ∧ a.2.2 ≤ 255], fun _ => true⟩
theorem k12 : FnOk Go.Proofs.Try.prog 12 K12 := by
  refine fn_ok (E := (⟨tab, [(19, K19), (36, K36), (30, K30)], ann0⟩ : Env)) (TOk.of tab_told) (AllOk.cons k19 (.cons k36 (.cons k30 .nil))).at_ mix Go.Proofs.Try.func12 rfl rfl (by kernel_rfl) K12 ?_
  rintro ⟨(l : List Pa), (a : Int), (b : Int)⟩ hp
  have ha : 0 ≤ a ∧ a ≤ 255 := hp _ (List.mem_cons_self ..)
  have hb : 0 ≤ b ∧ b ≤ 255 := hp _ (List.mem_cons_of_mem _ (List.mem_cons_self ..))
  clear hp
  have ea : IntKind.i64.wrap a = a := wrap_eq (by omega) (by omega)
  have eb : IntKind.i64.wrap b = b := wrap_eq (by omega) (by omega)
  have es : (IntKind.i64.wrap (IntKind.i64.wrap a + IntKind.i64.wrap b)) = a + b := by rw [ea, eb]; exact wrap_eq (by omega) (by omega)
  conv => whnf
  refine cond_intro (fun h1 => ?_) (fun h1 => ?_)
  · have h1 : 1000 < (l.length : Int) := @of_decide_eq_true _ _ h1
    conv => whnf
    show true = true
    rfl
  have h1 : ¬ (1000 < (l.length : Int)) := @of_decide_eq_false _ _ h1
  have hl : l.length ≤ 100000 := by omega
  have hol := older_len l (IntKind.i64.wrap a)
  conv => whnf
  refine ⟨hl, ?_⟩
  conv => whnf
  refine cond_intro (fun h2 => ?_) (fun h2 => ?_)
  · have h2 : (!decide ((olderR l (IntKind.i64.wrap a)).2 = 0)) = true := h2
    have h2 : ¬ ((olderR l (IntKind.i64.wrap a)).2 = 0) := by simpa using h2
    conv => whnf
    show true = true
    rfl
  have h2 : (!decide ((olderR l (IntKind.i64.wrap a)).2 = 0)) = false := h2
  have h2 : (olderR l (IntKind.i64.wrap a)).2 = 0 := by simpa using h2
  have hadd : (olderR (olderR l (IntKind.i64.wrap a)).1 (IntKind.i64.wrap b)) = (olderR l (IntKind.i64.wrap (IntKind.i64.wrap a + IntKind.i64.wrap b))) := by rw [es, eb]; rw [ea] at h2 ⊢; exact older_add hb.1 h2
  have hoy := older_len (olderR l (IntKind.i64.wrap a)).1 (IntKind.i64.wrap b)
  conv => whnf
  refine ⟨show (olderR l (IntKind.i64.wrap a)).1.length ≤ 100000 by omega, ?_⟩
  conv => whnf
  refine ⟨hl, ?_⟩
  conv => whnf
  refine cond_intro (fun h3 => ?_) (fun h3 => ?_)
  · have h3 : (olderR (olderR l (IntKind.i64.wrap a)).1 (IntKind.i64.wrap b)).2 = (olderR l (IntKind.i64.wrap (IntKind.i64.wrap a + IntKind.i64.wrap b))).2 := @of_decide_eq_true _ _ h3
    conv => whnf
    refine ⟨show (olderR (olderR l (IntKind.i64.wrap a)).1 (IntKind.i64.wrap b)).1.length ≤ 100000 by omega, ?_⟩
    conv => whnf
    refine cond_intro (fun h4 => ?_) (fun h4 => ?_)
    · have h4 : (eqPa (olderR (olderR l (IntKind.i64.wrap a)).1 (IntKind.i64.wrap b)).1 (olderR l (IntKind.i64.wrap (IntKind.i64.wrap a + IntKind.i64.wrap b))).1) = true := h4
      conv => whnf
      show true = true
      rfl
    have h4 : (eqPa (olderR (olderR l (IntKind.i64.wrap a)).1 (IntKind.i64.wrap b)).1 (olderR l (IntKind.i64.wrap (IntKind.i64.wrap a + IntKind.i64.wrap b))).1) = false := h4
    rw [hadd] at h4
    simp [eqPa] at h4
  have h3 : ¬ ((olderR (olderR l (IntKind.i64.wrap a)).1 (IntKind.i64.wrap b)).2 = (olderR l (IntKind.i64.wrap (IntKind.i64.wrap a + IntKind.i64.wrap b))).2) := @of_decide_eq_false _ _ h3
  exact absurd (congrArg Prod.snd hadd) h3
end
end Go.Proofs.Ytmphplpfgjcpiaa.Eng
set_option linter.unusedVariables false
set_option linter.unusedSimpArgs false
namespace Go.Proofs
open Go.Shelf Go.RowKit Go.Lib Go.Sort
shelf_lay_g Lays8.n4 Nm8 4 at Try 74 as Try.growPa
end Go.Proofs
namespace Go.Proofs.Ytmphplpfgjcpiaa.Eng
open Go Go.RowKit
set_option maxRecDepth 100000
noncomputable section
def X74 : List AV → Nat → Rd Res := growX paT
theorem k74 : FxOk Go.Proofs.Try.prog 74 X74 := by
  have q1 : (E0.ti 44).kind = 3 := by kernel_rfl
  have q2 : (E0.ti 44).zero = [.int .i64 0, .int .i64 0, .int .i64 0, .int .i64 0, .int .i64 0, .int .i64 0] := by kernel_rfl
  obtain ⟨f, zv, g1, g2, g3, g4, g5⟩ := (TOk.of tab_told : TOk Go.Proofs.Try.prog E0).zero (t := 44) (by rw [q1]; decide) (by rw [q2]; simp)
  have e1 : (E0.ti 44).size = 6 := by kernel_rfl
  have e2 : (E0.ti 44).bytes = 48 := by kernel_rfl
  rw [q2] at g5
  have e3 := congrArg List.length g5
  simp only [List.length_map, Array.length_toList, List.length_cons, List.length_nil] at e3
  exact grow_ok Go.Proofs.Try.growPa paT g1 g4 (by rw [g2, e1]; rfl) (by rw [← e3]; rfl) (by rw [g3, e2]; decide) ⟨_, _, Go.Proofs.Try.func74, rfl, rfl⟩

def E64 : Env := ⟨tab, [], fun n => match n with | 3 => some ([3, 6, 7, 8], [], []) | _ => none⟩
def K64 : Fn1 := ⟨.one (.sl I), .one I, fun (l : List Int) => [l.length ≤ 100000], fun (l : List Int) => (l.find? (fun n => decide (n ≠ 0))).getD 0⟩
def S64 (l : List Int) (i : Int) : SL := ⟨[.undef, .undef, .undef, .int .i64 0, .undef, .undef, .sl I l, .int .i64 l.length, .int .i64 i] ++ List.replicate 9 .undef, [], 0⟩
theorem k64 : FnOk Go.Proofs.Try.prog 64 K64 := by
  refine fn_ok (E := E64) (TOk.of tab_told) noK mix Go.Proofs.Try.func64 rfl rfl (by kernel_rfl) K64 ?_
  rintro (l : List Int) hp
  have hl : l.length ≤ 100000 := hp _ (List.mem_cons_self ..)
  clear hp
  conv => whnf
  refine loop_rule (S64 l) (fun i => ((l.length : Int) - i).toNat) (fun i => 0 ≤ i ∧ i ≤ l.length ∧ ∀ n ∈ l.take i.toNat, n = 0) ?_ 0 (by kernel_rfl) ?_ ⟨by omega, by omega, by simp⟩
  case refine_2 => rfl
  rintro i ⟨h0, h1, h2⟩
  conv => whnf
  have hsp : l = l.take i.toNat ++ l.drop i.toNat := (List.take_append_drop _ _).symm
  have hnone : (l.take i.toNat).find? (fun n => decide (n ≠ 0)) = none := by simpa using h2
  refine cond_intro (fun hlt => ?_) (fun hge => ?_)
  · have hlt : i < l.length := @of_decide_eq_true _ _ hlt
    have e : gI l i.toNat = l[i.toNat]'(by omega) := gI_eq _
    have hd : l.drop i.toNat = gI l i.toNat :: l.drop (i.toNat + 1) := by rw [List.drop_eq_getElem_cons (by omega), e]
    have ht : l.take (i.toNat + 1) = l.take i.toNat ++ [gI l i.toNat] := by rw [List.take_succ_eq_append_getElem (by omega), e]
    conv => whnf
    refine ⟨h0, ?_⟩
    conv => whnf
    refine ⟨hlt, ?_⟩
    conv => whnf
    refine cond_intro (fun hz => ?_) (fun hz => ?_)
    · have hz : gI l i.toNat ≠ 0 := by
        have hz : (!decide (gI l i.toNat = 0)) = true := hz
        simpa using hz
      conv => whnf
      show gI l i.toNat = (l.find? (fun n => decide (n ≠ 0))).getD 0
      rw [hsp, List.find?_append, hnone, ← hsp, hd]
      simp [hz]
    · have hz : gI l i.toNat = 0 := by
        have hz : (!decide (gI l i.toNat = 0)) = false := hz
        simpa using hz
      conv => whnf
      have hw : IntKind.i64.wrap (i + 1) = i + 1 := wrap_eq (by omega) (by omega)
      refine ⟨i + 1, ?_, ⟨by omega, by omega, ?_⟩, by omega⟩
      · exact Eq.trans (b := S64 l (IntKind.i64.wrap (i + 1))) rfl (by rw [hw])
      · rw [show (i + 1).toNat = i.toNat + 1 by omega, ht]
        intro n hn
        rcases List.mem_append.1 hn with hn | hn
        · exact h2 n hn
        · cases List.mem_singleton.1 hn
          exact hz
  · have hge : ¬ i < l.length := @of_decide_eq_false _ _ hge
    conv => whnf
    show 0 = (l.find? (fun n => decide (n ≠ 0))).getD 0
    rw [show l.take i.toNat = l from List.take_of_length_le (by omega)] at hnone
    rw [hnone]; rfl

def lenS (ll : List (List Pa)) : Int := (ll.map fun l => (l.length : Int)).sum
def S65a (ll : List (List Pa)) (i : Int) : SL := ⟨[.sl (.sl paT) ll, .undef, .undef, .int .i64 (lenS (ll.take i.toNat))] ++ List.replicate 5 .undef ++ [.sl (.sl paT) ll, .int .i64 ll.length, .int .i64 i] ++ List.replicate 24 .undef, [], 0⟩
def S65b (ll : List (List Pa)) (i : Int) : SL := ⟨List.replicate 6 .undef ++ [.own 0] ++ List.replicate 18 .undef ++ [.sl (.sl paT) ll, .int .i64 ll.length, .int .i64 i] ++ List.replicate 8 .undef, [(0, .arr paT (ll.take i.toNat).flatten)], 1⟩
def gL (ll : List (List Pa)) (n : Nat) : List Pa := ll.getD n []
theorem gL_eq {ll : List (List Pa)} {n : Nat} (h : n < ll.length) : gL ll n = ll[n] := by simp [gL, h]
theorem lenS_take {ll : List (List Pa)} {i : Nat} (hi : i < ll.length) : lenS (ll.take (i + 1)) = lenS (ll.take i) + (gL ll i).length := by
  unfold lenS
  rw [List.take_succ_eq_append_getElem hi, List.map_append, List.sum_append, gL_eq hi]
  simp
theorem lenS_bnd : ∀ {ll : List (List Pa)}, (∀ l ∈ ll, l.length ≤ 100000) → 0 ≤ lenS ll ∧ lenS ll ≤ ll.length * 100000
  | [], h => by simp [lenS]
  | l :: ll, h => by
    have h1 := lenS_bnd (ll := ll) fun q hq => h q (List.mem_cons_of_mem _ hq)
    have h2 := h l List.mem_cons_self
    have e : lenS (l :: ll) = (l.length : Int) + lenS ll := by simp [lenS]
    rw [e, List.length_cons]
    omega
theorem lenS_flat (ll : List (List Pa)) : (ll.flatten.length : Int) = lenS ll := by
  induction ll with
  | nil => rfl
  | cons l ll ih =>
    have e : lenS (l :: ll) = (l.length : Int) + lenS ll := by simp [lenS]
    rw [e, List.flatten_cons, List.length_append, ← ih]; simp
theorem flat_take {ll : List (List Pa)} {i : Nat} (hi : i < ll.length) : (ll.take (i + 1)).flatten = (ll.take i).flatten ++ gL ll i := by
  rw [List.take_succ_eq_append_getElem hi, List.flatten_append, gL_eq hi]
  simp
def E65 : Env := ⟨tab, [(74, .eff X74)], fun n => match n with | 3 => some ([0, 3, 9, 10, 11], [], []) | 11 => some ([6, 25, 26, 27], [], []) | _ => none⟩
def K65 : Fn1 := ⟨.one (.sl (.sl paT)), .one (.sl paT), fun (ll : List (List Pa)) => [ll.length ≤ 100, ∀ l ∈ ll, l.length ≤ 100000], fun (ll : List (List Pa)) => ll.flatten⟩
theorem k65 : FnOk Go.Proofs.Try.prog 65 K65 := by
  refine fn_ok (E := E65) (TOk.of tab_told) (AllOk.consX k74 .nil).at_ mix Go.Proofs.Try.func65 rfl rfl (by kernel_rfl) K65 ?_
  rintro (ll : List (List Pa)) hp
  have hl : ll.length ≤ 100 := hp _ (List.mem_cons_self ..)
  have hb : ∀ l ∈ ll, l.length ≤ 100000 := hp _ (List.mem_cons_of_mem _ (List.mem_cons_self ..))
  clear hp
  conv => whnf
  refine loop_rule (S65a ll) (fun i => ((ll.length : Int) - i).toNat) (fun i => 0 ≤ i ∧ i ≤ ll.length) ?_ 0 (by kernel_rfl) ?_ ⟨by omega, by omega⟩
  case refine_2 => rfl
  rintro i ⟨h0, h1⟩
  conv => whnf
  refine cond_intro (fun hlt => ?_) (fun hlt => ?_)
  · have hlt : i < (ll.length : Int) := @of_decide_eq_true _ _ hlt
    have hw : IntKind.i64.wrap (i + 1) = i + 1 := wrap_eq (by omega) (by omega)
    have ei : (i + 1).toNat = i.toNat + 1 := by omega
    have hgl : (gL ll i.toNat).length ≤ 100000 := by rw [gL_eq (show i.toNat < ll.length by omega)]; exact hb _ (List.getElem_mem _)
    have hbt := lenS_bnd (ll := ll.take i.toNat) fun p hp => hb p (List.mem_of_mem_take hp)
    rw [List.length_take] at hbt
    have hs : (IntKind.i64.wrap (lenS (ll.take i.toNat) + (gL ll i.toNat).length)) = lenS (ll.take (i + 1).toNat) := by rw [ei, lenS_take (by omega)]; exact wrap_eq (by omega) (by omega)
    have hs0 : lenS (ll.take (i + 1).toNat) = lenS (ll.take i.toNat) + (gL ll i.toNat).length := by rw [ei, lenS_take (by omega)]
    conv => whnf
    refine ⟨h0, ?_⟩
    conv => whnf
    refine ⟨hlt, ?_⟩
    conv => whnf
    refine cond_intro (fun hneg => ?_) (fun hneg => ?_)
    · have hneg : (IntKind.i64.wrap (lenS (ll.take i.toNat) + (gL ll i.toNat).length)) < 0 := @of_decide_eq_true _ _ hneg
      omega
    have hneg : ¬ ((IntKind.i64.wrap (lenS (ll.take i.toNat) + (gL ll i.toNat).length)) < 0) := @of_decide_eq_false _ _ hneg
    conv => whnf
    refine ⟨i + 1, ?_, ⟨by omega, by omega⟩, by omega⟩
    exact Eq.trans (b := ⟨[.sl (.sl paT) ll, .undef, .undef, .int .i64 (IntKind.i64.wrap (lenS (ll.take i.toNat) + (gL ll i.toNat).length))] ++ List.replicate 5 .undef ++ [.sl (.sl paT) ll, .int .i64 ll.length, .int .i64 (IntKind.i64.wrap (i + 1))] ++ List.replicate 24 .undef, [], 0⟩) rfl (by unfold S65a; rw [hw, hs])
  have hlt : ¬ (i < (ll.length : Int)) := @of_decide_eq_false _ _ hlt
  rw [List.take_of_length_le (by omega)]
  have hbl := lenS_bnd hb
  conv => whnf
  refine ⟨show 0 ≤ lenS ll by omega, ?_⟩
  conv => whnf
  refine ⟨show lenS ll ≤ 70368744 by omega, ?_⟩
  conv => whnf
  refine loop_rule (S65b ll) (fun i => ((ll.length : Int) - i).toNat) (fun i => 0 ≤ i ∧ i ≤ ll.length) ?_ 0 (by kernel_rfl) ?_ ⟨by omega, by omega⟩
  case refine_2 => rfl
  rintro i ⟨h0, h1⟩
  conv => whnf
  refine cond_intro (fun hlt => ?_) (fun hlt => ?_)
  · have hlt : i < (ll.length : Int) := @of_decide_eq_true _ _ hlt
    have hw : IntKind.i64.wrap (i + 1) = i + 1 := wrap_eq (by omega) (by omega)
    have ei : (i + 1).toNat = i.toNat + 1 := by omega
    have hgl : (gL ll i.toNat).length ≤ 100000 := by rw [gL_eq (show i.toNat < ll.length by omega)]; exact hb _ (List.getElem_mem _)
    have hbt := lenS_bnd (ll := ll.take i.toNat) fun p hp => hb p (List.mem_of_mem_take hp)
    rw [List.length_take] at hbt
    have hf := lenS_flat (ll.take i.toNat)
    conv => whnf
    refine ⟨h0, ?_⟩
    conv => whnf
    refine ⟨hlt, ?_⟩
    conv => whnf
    refine ⟨show ((ll.take i.toNat).flatten.length + (gL ll i.toNat).length) * 48 ≤ 70368744177664 by omega, ?_⟩
    conv => whnf
    refine ⟨show (ll.take i.toNat).flatten.length + (gL ll i.toNat).length ≤ 70368744177664 by omega, ?_⟩
    conv => whnf
    refine ⟨i + 1, ?_, ⟨by omega, by omega⟩, by omega⟩
    exact Eq.trans (b := ⟨List.replicate 6 .undef ++ [.own 0] ++ List.replicate 18 .undef ++ [.sl (.sl paT) ll, .int .i64 ll.length, .int .i64 (IntKind.i64.wrap (i + 1))] ++ List.replicate 8 .undef, [(0, .arr paT ((ll.take i.toNat).flatten ++ gL ll i.toNat))], 1⟩) rfl (by unfold S65b; rw [hw, ei, flat_take (by omega)])
  have hlt : ¬ (i < (ll.length : Int)) := @of_decide_eq_false _ _ hlt
  rw [List.take_of_length_le (by omega)]
  conv => whnf
  show ll.flatten = ll.flatten
  rfl
def K38 : Fn1 := ⟨.fld (.sl paT) (.one (.sl paT)), .fld (.sl paT) (.one I), fun (a : List Pa × List Pa) => [a.1.length ≤ 100000, a.2.length ≤ 100000], fun (a : List Pa × List Pa) => joinR a.1 a.2⟩
theorem k38 : FnOk Go.Proofs.Try.prog 38 K38 := by
  refine fn_ok (E := (⟨tab, [(21, K21), (64, K64), (65, K65), (62, K62)], ann0⟩ : Env)) (TOk.of tab_told) (AllOk.cons k21 (.cons k64 (.cons k65 (.cons k62 .nil)))).at_ mix Go.Proofs.Try.func38 rfl rfl (by kernel_rfl) K38 ?_
  rintro ⟨(a : List Pa), (b : List Pa)⟩ hp
  have ha : a.length ≤ 100000 := hp _ (List.mem_cons_self ..)
  have hb : b.length ≤ 100000 := hp _ (List.mem_cons_of_mem _ (List.mem_cons_self ..))
  clear hp
  have hor : (([cargoR a, cargoR b].find? (fun n => decide (n ≠ 0))).getD 0) = if cargoR a ≠ 0 then cargoR a else cargoR b := by
    by_cases h1 : cargoR a = 0 <;> by_cases h2 : cargoR b = 0 <;> simp [h1, h2]
  conv => whnf
  refine ⟨ha, ?_⟩
  conv => whnf
  refine ⟨hb, ?_⟩
  conv => whnf
  refine ⟨show 2 ≤ 100000 by omega, ?_⟩
  conv => whnf
  refine cond_intro (fun h1 => ?_) (fun h1 => ?_)
  · have h1 : (!decide ((([cargoR a, cargoR b].find? (fun n => decide (n ≠ 0))).getD 0) = 0)) = true := h1
    have h1 : ¬ ((([cargoR a, cargoR b].find? (fun n => decide (n ≠ 0))).getD 0) = 0) := by simpa using h1
    rw [hor] at h1
    conv => whnf
    show (([], (([cargoR a, cargoR b].find? (fun n => decide (n ≠ 0))).getD 0)) : List Pa × Int) = joinR a b
    rw [hor]
    unfold joinR
    by_cases g1 : cargoR a = 0
    · rw [if_neg (by simp [g1])] at h1 ⊢
      rw [if_neg (by simp [g1]), if_pos h1]
    · rw [if_pos g1, if_pos g1]
  have h1 : (!decide ((([cargoR a, cargoR b].find? (fun n => decide (n ≠ 0))).getD 0) = 0)) = false := h1
  have h1 : (([cargoR a, cargoR b].find? (fun n => decide (n ≠ 0))).getD 0) = 0 := by simpa using h1
  rw [hor] at h1
  have g1 : cargoR a = 0 := by
    by_cases g1 : cargoR a = 0
    · exact g1
    · rw [if_pos g1] at h1; exact h1
  have g2 : cargoR b = 0 := by
    rw [if_neg (by simp [g1])] at h1; exact h1
  have v1 := (cargo_zero a).1 g1
  have v2 := (cargo_zero b).1 g2
  have p1 : ∀ l ∈ [a, b], l.length ≤ 100000 := by
    intro l hl
    rcases List.mem_cons.1 hl with rfl | hl
    · exact ha
    · cases List.mem_singleton.1 hl; exact hb
  have ef : [a, b].flatten = a ++ b := by simp
  have p2 : [a, b].flatten.length ≤ 1000 := by rw [ef, List.length_append]; omega
  have p3 : ∀ p ∈ [a, b].flatten, okP p := by
    rw [ef]
    intro p hp
    rcases List.mem_append.1 hp with hp | hp
    · exact v1.2.2 p hp
    · exact v2.2.2 p hp
  conv => whnf
  refine ⟨show 2 ≤ 100 by omega, ?_⟩
  conv => whnf
  refine ⟨p1, ?_⟩
  conv => whnf
  refine ⟨p2, ?_⟩
  conv => whnf
  refine ⟨p3, ?_⟩
  conv => whnf
  show gatherR [a, b].flatten = joinR a b
  rw [joinR, if_neg (by simp [g1]), if_neg (by simp [g2]), ef]
end
end Go.Proofs.Ytmphplpfgjcpiaa.Eng
set_option linter.unusedVariables false
set_option linter.unusedSimpArgs false
namespace Go.Proofs.Ytmphplpfgjcpiaa.Eng
open Go
set_option maxRecDepth 100000
noncomputable section
open Go.RowKit
theorem join_of {a b : List Pa} (h : cargoR a = 0) (g : cargoR b = 0) : joinR a b = gatherR (a ++ b) := by rw [joinR, if_neg (by simp [h]), if_neg (by simp [g])]
theorem gather_zero {l : List Pa} (h : (gatherR l).2 = 0) : cargoR (N l) = 0 ∧ gatherR l = (N l, 0) := by
  unfold gatherR at h ⊢
  by_cases h1 : cargoR (N l) = 0
  · rw [if_pos h1]; exact ⟨h1, rfl⟩
  · rw [if_neg h1] at h; cases h
theorem join_zero {a b : List Pa} (h : (joinR a b).2 = 0) : cargoR a = 0 ∧ cargoR b = 0 ∧ cargoR (N (a ++ b)) = 0 ∧ joinR a b = (N (a ++ b), 0) := by
  by_cases h1 : cargoR a = 0
  · by_cases h2 : cargoR b = 0
    · rw [join_of h1 h2] at h ⊢
      obtain ⟨h3, h4⟩ := gather_zero h
      exact ⟨h1, h2, h3, h4⟩
    · rw [joinR, if_neg (by simp [h1]), if_pos h2] at h; exact absurd h h2
  · rw [joinR, if_pos h1] at h; exact absurd h h1
theorem join_len (a b : List Pa) : (joinR a b).1.length ≤ 200 := by
  unfold joinR
  split
  · simp
  split
  · simp
  unfold gatherR
  split
  · rename_i h; exact ((cargo_zero _).1 h).1
  · simp
theorem gather_perm {a b : List Pa} (h : a.Perm b) : gatherR a = gatherR b := by unfold gatherR; rw [N_perm h]
theorem join_sym {a b : List Pa} (h : (joinR a b).2 = 0) : joinR b a = joinR a b := by
  obtain ⟨h1, h2, _, _⟩ := join_zero h
  rw [join_of h1 h2, join_of h2 h1, gather_perm List.perm_append_comm]
theorem join_sym0 (a b : List Pa) : decide ((joinR a b).2 = 0) = decide ((joinR b a).2 = 0) := by
  rw [decide_eq_decide]
  constructor
  · intro h; rw [join_sym h]; exact h
  · intro h; rw [join_sym h]; exact h
/-- All but too much of a kind. -/
def Low (p : Pa) : Prop := 1 ≤ p.2.2.2.2.1 ∧ (0 ≤ p.2.2.2.1 ∧ p.2.2.2.1 ≤ 255) ∧ 0 ≤ p.2.2.2.2.2 ∧ (0 ≤ p.1 ∧ p.1 ≤ 1000000) ∧ (0 ≤ p.2.1 ∧ p.2.1 ≤ 1000000) ∧ (0 ≤ p.2.2.1 ∧ p.2.2.1 ≤ 1000000)
theorem low_ok {p : Pa} (h : okP p) : Low p := by rw [okP_iff] at h; unfold Low; omega
theorem ok_low {p : Pa} (h : Low p) (g : ¬ Big p) : okP p := by rw [okP_iff]; unfold Low at h; unfold Big at g; omega
theorem put_low : ∀ {m : List Pa} {p : Pa} {a b : Int}, a + b ≤ 1000000 → (∀ x ∈ m, Bnd a x ∧ Low x) → Bnd b p → Low p → ∀ x ∈ putW m p, Low x
  | [], p, a, b, hl, hm, hp, hq, x, hx => by cases List.mem_singleton.1 hx; exact hq
  | y :: m, p, a, b, hl, hm, hp, hq, x, hx => by
    have hy := hm y List.mem_cons_self
    have hm' : ∀ x ∈ m, Bnd a x ∧ Low x := fun x hx => hm x (List.mem_cons_of_mem _ hx)
    unfold putW at hx
    split at hx
    · rcases List.mem_cons.1 hx with rfl | hx
      · exact hy.2
      · exact put_low hl hm' hp hq x hx
    split at hx
    · rcases List.mem_cons.1 hx with rfl | hx
      · exact hq
      rcases List.mem_cons.1 hx with rfl | hx
      · exact hy.2
      · exact (hm' x hx).2
    · rcases List.mem_cons.1 hx with rfl | hx
      · obtain ⟨_, e1, e2⟩ := bnd_add hy.1 hp hl
        have h1 := hy.2
        unfold Low at h1 hq ⊢
        rw [e1, e2]
        refine ⟨by omega, h1.2.1, by omega, h1.2.2.2⟩
      · exact (hm' x hx).2
theorem put_srt : ∀ {m : List Pa} {p : Pa}, Srt m → Srt (putW m p) ∧ ∀ y, ltP y p = true → (∀ x ∈ m, ltP y x = true) → ∀ x ∈ putW m p, ltP y x = true
  | [], p, h => ⟨List.pairwise_singleton _ _, fun y hy _ x hx => by cases List.mem_singleton.1 hx; exact hy⟩
  | z :: m, p, h => by
    have hz := (List.pairwise_cons.1 h).1
    have ih := put_srt (p := p) (List.pairwise_cons.1 h).2
    rcases tri z p with ⟨h1, g1⟩ | ⟨h1, g1⟩ | ⟨h1, g1, e1⟩
    · simp only [putW, h1, if_true]
      refine ⟨List.pairwise_cons.2 ⟨ih.2 z h1 hz, ih.1⟩, fun y hy hm x hx => ?_⟩
      rcases List.mem_cons.1 hx with rfl | hx
      · exact hm _ List.mem_cons_self
      · exact ih.2 y hy (fun x hx => hm x (List.mem_cons_of_mem _ hx)) x hx
    · simp only [putW, h1, g1, if_true, Bool.false_eq_true, if_false]
      refine ⟨List.pairwise_cons.2 ⟨fun x hx => ?_, h⟩, fun y hy hm x hx => ?_⟩
      · rcases List.mem_cons.1 hx with rfl | hx
        · exact g1
        · exact lt_trans' g1 (hz x hx)
      · rcases List.mem_cons.1 hx with rfl | hx
        · exact hy
        · exact hm x hx
    · simp only [putW, h1, g1, Bool.false_eq_true, if_false]
      refine ⟨List.pairwise_cons.2 ⟨fun x hx => hz x hx, (List.pairwise_cons.1 h).2⟩, fun y hy hm x hx => ?_⟩
      rcases List.mem_cons.1 hx with rfl | hx
      · exact hm z List.mem_cons_self
      · exact hm x (List.mem_cons_of_mem _ hx)
theorem put_ge : ∀ (m : List Pa) (p : Pa), m.length ≤ (putW m p).length
  | [], p => by simp
  | x :: m, p => by
    unfold putW
    split
    · have := put_ge m p; simp; omega
    split <;> simp
theorem fold_ge : ∀ (l m : List Pa), m.length ≤ (fold m l).length
  | [], m => Nat.le_refl _
  | p :: l, m => Nat.le_trans (put_ge m p) (fold_ge l (putW m p))
theorem fold_srt2 : ∀ (l : List Pa) {m : List Pa}, Srt m → Srt (fold m l)
  | [], m, h => h
  | p :: l, m, h => fold_srt2 l (put_srt h).1
theorem N_is_srt (l : List Pa) : Srt (N l) := fold_srt2 l List.Pairwise.nil
theorem fold_low : ∀ {l m : List Pa} {a : Int}, 0 ≤ a → a + l.length ≤ 1000000 → (∀ x ∈ m, Bnd a x ∧ Low x) → (∀ x ∈ l, okP x) → ∀ x ∈ fold m l, Low x
  | [], m, a, ha, hl, hm, ho, x, hx => (hm x hx).2
  | p :: l, m, a, ha, hl, hm, ho, x, hx => by
    simp only [List.length_cons] at hl
    have h0 := ho p List.mem_cons_self
    have h1 := put_bnd ha (b := 1) (by omega) (by omega) (fun x hx => (hm x hx).1) (bnd_ok h0)
    have h2 := put_low (by omega) hm (bnd_ok h0) (low_ok h0)
    exact fold_low (a := a + 1) (l := l) (by omega) (by omega) (fun x hx => ⟨h1 x hx, h2 x hx⟩) (fun y hy => ho y (List.mem_cons_of_mem _ hy)) x hx
/-- A part of a load that is right is right. -/
theorem N_sub {k l : List Pa} (hk : k.length ≤ 1000) (hl : l.length ≤ 1000) (ok : ∀ x ∈ k, okP x) (ol : ∀ x ∈ l, okP x) (h : cargoR (N (k ++ l)) = 0) : cargoR (N k) = 0 := by
  have hb : ∀ x ∈ N k, Bnd 1000 x := fun x hx => by
    have := fold_bnd (l := k) (m := []) (a := 0) (by omega) (by omega) (by simp) ok x hx
    exact bnd_mono this (by omega)
  have hw : ∀ x ∈ N k, Low x := fold_low (l := k) (m := []) (a := 0) (by omega) (by omega) (by simp) ok
  rw [N_append] at h
  have h0 := (cargo_zero _).1 h
  rw [cargo_zero]
  refine ⟨Nat.le_trans (fold_ge l (N k)) h0.1, N_is_srt k, fun p hp => ok_low (hw p hp) fun hbig => ?_⟩
  have := big_fold (l := l) (m := N k) (a := 1000) (by omega) (by omega) hb ol ⟨p, hp, hbig⟩
  exact big_bad this h
theorem join_three {a b c : List Pa} (hab : (joinR a b).2 = 0) (hx : (joinR (joinR a b).1 c).2 = 0) : (joinR b c).2 = 0 ∧ (joinR a (joinR b c).1).2 = 0 ∧ joinR (joinR a b).1 c = joinR a (joinR b c).1
    ∧ cntP (joinR (joinR a b).1 c).1 = cntP a + cntP b + cntP c := by
  obtain ⟨a1, a2, a3, a4⟩ := join_zero hab
  rw [a4] at hx ⊢
  have hx : (joinR (N (a ++ b)) c).2 = 0 := hx
  obtain ⟨x1, x2, x3, x4⟩ := join_zero hx
  have va := (cargo_zero a).1 a1
  have vb := (cargo_zero b).1 a2
  have vc := (cargo_zero c).1 x2
  rw [N_app_l] at x3 x4
  have h1 : cargoR (N ((b ++ c) ++ a)) = 0 := by
    rw [N_perm (show ((b ++ c) ++ a).Perm (a ++ b ++ c) from by rw [List.append_assoc a]; exact List.perm_append_comm)]
    exact x3
  have hbc : cargoR (N (b ++ c)) = 0 := N_sub (by rw [List.length_append]; omega) (by omega) (fun x hx => by
    rcases List.mem_append.1 hx with hx | hx
    · exact vb.2.2 x hx
    · exact vc.2.2 x hx) va.2.2 h1
  have j1 : joinR b c = (N (b ++ c), 0) := by rw [join_of a2 x2, gatherR, if_pos hbc]
  have j2 : joinR a (N (b ++ c)) = (N (a ++ b ++ c), 0) := by rw [join_of a1 hbc, gatherR, N_app_r, ← List.append_assoc, if_pos x3]
  rw [j1]
  show (0 : Int) = 0 ∧ (joinR a (N (b ++ c))).2 = 0 ∧ joinR (N (a ++ b)) c = joinR a (N (b ++ c)) ∧ cntP (joinR (N (a ++ b)) c).1 = _
  rw [j2, x4]
  refine ⟨rfl, rfl, rfl, ?_⟩
  show cntP (N (a ++ b ++ c)) = _
  rw [(sum_N (by simp only [List.length_append]; omega) (fun x hx => by
    rcases List.mem_append.1 hx with hx | hx
    · rcases List.mem_append.1 hx with hx | hx
      · exact va.2.2 x hx
      · exact vb.2.2 x hx
    · exact vc.2.2 x hx)).1]
  simp [cntP, Int.add_assoc]
theorem join_sum {a b : List Pa} (h : (joinR a b).2 = 0) : cntP (joinR a b).1 = cntP a + cntP b ∧ shrP (joinR a b).1 = shrP a + shrP b := by
  obtain ⟨a1, a2, a3, a4⟩ := join_zero h
  have va := (cargo_zero a).1 a1
  have vb := (cargo_zero b).1 a2
  rw [a4]
  have := sum_N (l := a ++ b) (by simp only [List.length_append]; omega) (fun x hx => by
    rcases List.mem_append.1 hx with hx | hx
    · exact va.2.2 x hx
    · exact vb.2.2 x hx)
  show cntP (N (a ++ b)) = _ ∧ shrP (N (a ++ b)) = _
  rw [this.1, this.2]
  simp [cntP, shrP]
theorem join_ok {a b : List Pa} (h : (joinR a b).2 = 0) : (∀ p ∈ a, okP p) ∧ (∀ p ∈ b, okP p) ∧ (∀ p ∈ (joinR a b).1, okP p) ∧ a.length ≤ 200 ∧ b.length ≤ 200 := by
  obtain ⟨a1, a2, a3, a4⟩ := join_zero h
  have va := (cargo_zero a).1 a1
  have vb := (cargo_zero b).1 a2
  rw [a4]
  exact ⟨va.2.2, vb.2.2, ((cargo_zero _).1 a3).2.2, va.1, vb.1⟩
def K13 : Fn1 := ⟨.fld (.sl paT) (.one (.sl paT)), .one .bool, fun _ => [], fun _ => true⟩
theorem k13 : FnOk Go.Proofs.Try.prog 13 K13 := by
  refine fn_ok (E := (⟨tab, [(19, K19), (37, K37), (38, K38), (30, K30)], ann0⟩ : Env)) (TOk.of tab_told) (AllOk.cons k19 (.cons k37 (.cons k38 (.cons k30 .nil)))).at_ mix Go.Proofs.Try.func13 rfl rfl (by kernel_rfl) K13 ?_
  rintro ⟨(a : List Pa), (b : List Pa)⟩ hp
  clear hp
  conv => whnf
  refine cond_intro (fun h1 => ?_) (fun h1 => ?_)
  · have h1 : 1000 < (a.length : Int) := @of_decide_eq_true _ _ h1
    conv => whnf
    show true = true
    rfl
  have h1 : ¬ (1000 < (a.length : Int)) := @of_decide_eq_false _ _ h1
  conv => whnf
  refine cond_intro (fun h2 => ?_) (fun h2 => ?_)
  · have h2 : 1000 < (b.length : Int) := @of_decide_eq_true _ _ h2
    conv => whnf
    show true = true
    rfl
  have h2 : ¬ (1000 < (b.length : Int)) := @of_decide_eq_false _ _ h2
  have ha : a.length ≤ 100000 := by omega
  have hb : b.length ≤ 100000 := by omega
  have hj := join_len a b
  conv => whnf
  refine ⟨ha, ?_⟩
  conv => whnf
  refine ⟨hb, ?_⟩
  conv => whnf
  refine ⟨ha, ?_⟩
  conv => whnf
  refine ⟨hb, ?_⟩
  conv => whnf
  refine cond_intro (fun h3 => ?_) (fun h3 => ?_)
  · have h3 : (joinR a b).2 = (joinR a b).2 := @of_decide_eq_true _ _ h3
    conv => whnf
    refine ⟨show (joinR a b).1.length ≤ 100000 by omega, ?_⟩
    conv => whnf
    refine cond_intro (fun h4 => ?_) (fun h4 => ?_)
    · have h4 : (eqPa (joinR a b).1 (joinR a b).1) = true := h4
      conv => whnf
      show true = true
      rfl
    have h4 : (eqPa (joinR a b).1 (joinR a b).1) = false := h4
    simp [eqPa] at h4
  have h3 : ¬ ((joinR a b).2 = (joinR a b).2) := @of_decide_eq_false _ _ h3
  exact absurd rfl h3
def K14 : Fn1 := ⟨.fld (.sl paT) (.fld (.sl paT) (.one (.sl paT))), .one .bool, fun _ => [], fun _ => true⟩
theorem k14 : FnOk Go.Proofs.Try.prog 14 K14 := by
  refine fn_ok (E := (⟨tab, [(19, K19), (38, K38), (30, K30), (32, K32), (31, K31)], ann0⟩ : Env)) (TOk.of tab_told) (AllOk.cons k19 (.cons k38 (.cons k30 (.cons k32 (.cons k31 .nil))))).at_ mix Go.Proofs.Try.func14 rfl rfl (by kernel_rfl) K14 ?_
  rintro ⟨(a : List Pa), (b : List Pa), (c : List Pa)⟩ hp
  clear hp
  conv => whnf
  refine cond_intro (fun h1 => ?_) (fun h1 => ?_)
  · have h1 : 1000 < (a.length : Int) := @of_decide_eq_true _ _ h1
    conv => whnf
    show true = true
    rfl
  have h1 : ¬ (1000 < (a.length : Int)) := @of_decide_eq_false _ _ h1
  conv => whnf
  refine cond_intro (fun h2 => ?_) (fun h2 => ?_)
  · have h2 : 1000 < (b.length : Int) := @of_decide_eq_true _ _ h2
    conv => whnf
    show true = true
    rfl
  have h2 : ¬ (1000 < (b.length : Int)) := @of_decide_eq_false _ _ h2
  conv => whnf
  refine cond_intro (fun h3 => ?_) (fun h3 => ?_)
  · have h3 : 1000 < (c.length : Int) := @of_decide_eq_true _ _ h3
    conv => whnf
    show true = true
    rfl
  have h3 : ¬ (1000 < (c.length : Int)) := @of_decide_eq_false _ _ h3
  have ha : a.length ≤ 100000 := by omega
  have hb : b.length ≤ 100000 := by omega
  have hc : c.length ≤ 100000 := by omega
  have hj := join_len a b
  have hj2 := join_len b a
  have hj3 := join_len b c
  have hsy := join_sym0 a b
  conv => whnf
  refine ⟨ha, ?_⟩
  conv => whnf
  refine ⟨hb, ?_⟩
  conv => whnf
  refine ⟨hb, ?_⟩
  conv => whnf
  refine ⟨ha, ?_⟩
  conv => whnf
  refine cond_intro (fun he => ?_) (fun he => ?_)
  · have he : (!decide ((joinR a b).2 = 0)) = true := he
    have he : ¬ ((joinR a b).2 = 0) := by simpa using he
    conv => whnf
    refine cond_intro (fun hq => ?_) (fun hq => ?_)
    · have hq : (decide ((joinR a b).2 = 0) == decide ((joinR b a).2 = 0)) = true := hq
      conv => whnf
      show true = true
      rfl
    have hq : (decide ((joinR a b).2 = 0) == decide ((joinR b a).2 = 0)) = false := hq
    rw [hsy] at hq
    simp at hq
  have he : (!decide ((joinR a b).2 = 0)) = false := he
  have he : (joinR a b).2 = 0 := by simpa using he
  conv => whnf
  refine cond_intro (fun hf => ?_) (fun hf => ?_)
  · have hf : (!decide ((joinR b a).2 = 0)) = true := hf
    have hf : ¬ ((joinR b a).2 = 0) := by simpa using hf
    exact absurd (by rw [join_sym he]; exact he) hf
  have hf : (!decide ((joinR b a).2 = 0)) = false := hf
  have hf : (joinR b a).2 = 0 := by simpa using hf
  have ko := join_ok he
  have ks := join_sum he
  have b1 := cntP_bnd ko.1
  have b2 := cntP_bnd ko.2.1
  have b3 := shrP_bnd ko.1
  have b4 := shrP_bnd ko.2.1
  have eu : (IntKind.i64.wrap (cntP a + cntP b)) = cntP a + cntP b := wrap_eq (by omega) (by omega)
  have es : (IntKind.i64.wrap (shrP a + shrP b)) = shrP a + shrP b := wrap_eq (by omega) (by omega)
  conv => whnf
  refine ⟨show (joinR a b).1.length ≤ 100000 by omega, ?_⟩
  conv => whnf
  refine ⟨hc, ?_⟩
  conv => whnf
  refine ⟨hb, ?_⟩
  conv => whnf
  refine ⟨hc, ?_⟩
  conv => whnf
  refine ⟨ha, ?_⟩
  conv => whnf
  refine ⟨show (joinR b c).1.length ≤ 100000 by omega, ?_⟩
  conv => whnf
  refine cond_intro (fun hg => ?_) (fun hg => ?_)
  · have hg : (joinR (joinR a b).1 c).2 = 0 := @of_decide_eq_true _ _ hg
    have k3 := join_three he hg
    have kc := (join_ok hg)
    have hxl := join_len (joinR a b).1 c
    have bc := cntP_bnd kc.2.1
    have eu3 : (IntKind.i64.wrap ((IntKind.i64.wrap (cntP a + cntP b)) + cntP c)) = cntP a + cntP b + cntP c := by rw [eu]; exact wrap_eq (by omega) (by omega)
    conv => whnf
    refine cond_intro (fun hh => ?_) (fun hh => ?_)
    · have hh : (!decide ((joinR b c).2 = 0)) = true := hh
      have hh : ¬ ((joinR b c).2 = 0) := by simpa using hh
      exact absurd k3.1 hh
    have hh : (!decide ((joinR b c).2 = 0)) = false := hh
    have hh : (joinR b c).2 = 0 := by simpa using hh
    conv => whnf
    refine cond_intro (fun hi => ?_) (fun hi => ?_)
    · have hi : (!decide ((joinR a (joinR b c).1).2 = 0)) = true := hi
      have hi : ¬ ((joinR a (joinR b c).1).2 = 0) := by simpa using hi
      exact absurd k3.2.1 hi
    have hi : (!decide ((joinR a (joinR b c).1).2 = 0)) = false := hi
    have hi : (joinR a (joinR b c).1).2 = 0 := by simpa using hi
    conv => whnf
    refine ⟨show (joinR (joinR a b).1 c).1.length ≤ 100000 by omega, ?_⟩
    conv => whnf
    refine cond_intro (fun hs => ?_) (fun hs => ?_)
    · have hs : (!(eqPa (joinR (joinR a b).1 c).1 (joinR a (joinR b c).1).1)) = true := hs
      have hs : (eqPa (joinR (joinR a b).1 c).1 (joinR a (joinR b c).1).1) = false := by simpa using hs
      rw [k3.2.2.1] at hs
      simp [eqPa] at hs
    have hs : (!(eqPa (joinR (joinR a b).1 c).1 (joinR a (joinR b c).1).1)) = false := hs
    have hs : (eqPa (joinR (joinR a b).1 c).1 (joinR a (joinR b c).1).1) = true := by simpa using hs
    conv => whnf
    refine ⟨show (joinR (joinR a b).1 c).1.length ≤ 1000 by omega, ?_⟩
    conv => whnf
    refine ⟨kc.2.2.1, ?_⟩
    conv => whnf
    refine ⟨show a.length ≤ 1000 by omega, ?_⟩
    conv => whnf
    refine ⟨ko.1, ?_⟩
    conv => whnf
    refine ⟨show b.length ≤ 1000 by omega, ?_⟩
    conv => whnf
    refine ⟨ko.2.1, ?_⟩
    conv => whnf
    refine ⟨show c.length ≤ 1000 by omega, ?_⟩
    conv => whnf
    refine ⟨kc.2.1, ?_⟩
    conv => whnf
    refine cond_intro (fun hu => ?_) (fun hu => ?_)
    · have hu : (!decide (cntP (joinR (joinR a b).1 c).1 = (IntKind.i64.wrap ((IntKind.i64.wrap (cntP a + cntP b)) + cntP c)))) = true := hu
      have hu : ¬ (cntP (joinR (joinR a b).1 c).1 = (IntKind.i64.wrap ((IntKind.i64.wrap (cntP a + cntP b)) + cntP c))) := by simpa using hu
      exact absurd (by rw [eu3]; exact k3.2.2.2) hu
    have hu : (!decide (cntP (joinR (joinR a b).1 c).1 = (IntKind.i64.wrap ((IntKind.i64.wrap (cntP a + cntP b)) + cntP c)))) = false := hu
    have hu : cntP (joinR (joinR a b).1 c).1 = (IntKind.i64.wrap ((IntKind.i64.wrap (cntP a + cntP b)) + cntP c)) := by simpa using hu
    conv => whnf
    refine ⟨show (joinR a b).1.length ≤ 100000 by omega, ?_⟩
    conv => whnf
    refine cond_intro (fun t1 => ?_) (fun t1 => ?_)
    · have t1 : (eqPa (joinR a b).1 (joinR b a).1) = true := t1
      conv => whnf
      refine ⟨show (joinR a b).1.length ≤ 1000 by omega, ?_⟩
      conv => whnf
      refine ⟨ko.2.2.1, ?_⟩
      conv => whnf
      refine ⟨show a.length ≤ 1000 by omega, ?_⟩
      conv => whnf
      refine ⟨ko.1, ?_⟩
      conv => whnf
      refine ⟨show b.length ≤ 1000 by omega, ?_⟩
      conv => whnf
      refine ⟨ko.2.1, ?_⟩
      conv => whnf
      refine cond_intro (fun t2 => ?_) (fun t2 => ?_)
      · have t2 : cntP (joinR a b).1 = (IntKind.i64.wrap (cntP a + cntP b)) := @of_decide_eq_true _ _ t2
        conv => whnf
        refine ⟨show (joinR a b).1.length ≤ 1000 by omega, ?_⟩
        conv => whnf
        refine ⟨ko.2.2.1, ?_⟩
        conv => whnf
        refine ⟨show a.length ≤ 1000 by omega, ?_⟩
        conv => whnf
        refine ⟨ko.1, ?_⟩
        conv => whnf
        refine ⟨show b.length ≤ 1000 by omega, ?_⟩
        conv => whnf
        refine ⟨ko.2.1, ?_⟩
        conv => whnf
        refine cond_intro (fun t3 => ?_) (fun t3 => ?_)
        · have t3 : shrP (joinR a b).1 = (IntKind.i64.wrap (shrP a + shrP b)) := @of_decide_eq_true _ _ t3
          conv => whnf
          show true = true
          rfl
        have t3 : ¬ (shrP (joinR a b).1 = (IntKind.i64.wrap (shrP a + shrP b))) := @of_decide_eq_false _ _ t3
        exact absurd (by rw [es]; exact ks.2) t3
      have t2 : ¬ (cntP (joinR a b).1 = (IntKind.i64.wrap (cntP a + cntP b))) := @of_decide_eq_false _ _ t2
      exact absurd (by rw [eu]; exact ks.1) t2
    have t1 : (eqPa (joinR a b).1 (joinR b a).1) = false := t1
    rw [join_sym he] at t1
    simp [eqPa] at t1
  have hg : ¬ ((joinR (joinR a b).1 c).2 = 0) := @of_decide_eq_false _ _ hg
  conv => whnf
  refine ⟨show (joinR a b).1.length ≤ 100000 by omega, ?_⟩
  conv => whnf
  refine cond_intro (fun t1 => ?_) (fun t1 => ?_)
  · have t1 : (eqPa (joinR a b).1 (joinR b a).1) = true := t1
    conv => whnf
    refine ⟨show (joinR a b).1.length ≤ 1000 by omega, ?_⟩
    conv => whnf
    refine ⟨ko.2.2.1, ?_⟩
    conv => whnf
    refine ⟨show a.length ≤ 1000 by omega, ?_⟩
    conv => whnf
    refine ⟨ko.1, ?_⟩
    conv => whnf
    refine ⟨show b.length ≤ 1000 by omega, ?_⟩
    conv => whnf
    refine ⟨ko.2.1, ?_⟩
    conv => whnf
    refine cond_intro (fun t2 => ?_) (fun t2 => ?_)
    · have t2 : cntP (joinR a b).1 = (IntKind.i64.wrap (cntP a + cntP b)) := @of_decide_eq_true _ _ t2
      conv => whnf
      refine ⟨show (joinR a b).1.length ≤ 1000 by omega, ?_⟩
      conv => whnf
      refine ⟨ko.2.2.1, ?_⟩
      conv => whnf
      refine ⟨show a.length ≤ 1000 by omega, ?_⟩
      conv => whnf
      refine ⟨ko.1, ?_⟩
      conv => whnf
      refine ⟨show b.length ≤ 1000 by omega, ?_⟩
      conv => whnf
      refine ⟨ko.2.1, ?_⟩
      conv => whnf
      refine cond_intro (fun t3 => ?_) (fun t3 => ?_)
      · have t3 : shrP (joinR a b).1 = (IntKind.i64.wrap (shrP a + shrP b)) := @of_decide_eq_true _ _ t3
        conv => whnf
        show true = true
        rfl
      have t3 : ¬ (shrP (joinR a b).1 = (IntKind.i64.wrap (shrP a + shrP b))) := @of_decide_eq_false _ _ t3
      exact absurd (by rw [es]; exact ks.2) t3
    have t2 : ¬ (cntP (joinR a b).1 = (IntKind.i64.wrap (cntP a + cntP b))) := @of_decide_eq_false _ _ t2
    exact absurd (by rw [eu]; exact ks.1) t2
  have t1 : (eqPa (joinR a b).1 (joinR b a).1) = false := t1
  rw [join_sym he] at t1
  simp [eqPa] at t1
end
end Go.Proofs.Ytmphplpfgjcpiaa.Eng
set_option linter.unusedVariables false
set_option linter.unusedSimpArgs false
namespace Go.Proofs.Ytmphplpfgjcpiaa.Eng
open Go Go.RowKit
set_option maxRecDepth 100000
noncomputable section
/-- The age of a parcel by its place. -/
def ky (y : List Pa) (i : Int) : Int := (gP y i.toNat).2.2.2.1
/-- One place is served before another: its parcel is older, or as old and it stands ahead. -/
def bef (y : List Pa) (i j : Int) : Bool := decide (ky y j < ky y i) || (decide (ky y i = ky y j) && decide (i < j))
theorem bef_iff {y : List Pa} {i j : Int} : bef y i j = true ↔ ky y j < ky y i ∨ (ky y i = ky y j ∧ i < j) := by simp [bef]
theorem bef_no {y : List Pa} {i j : Int} : bef y i j = false ↔ ¬ (ky y j < ky y i ∨ (ky y i = ky y j ∧ i < j)) := by rw [← bef_iff, Bool.not_eq_true]
theorem bef_trans {y : List Pa} {i j k : Int} (h : bef y i j = true) (g : bef y j k = true) : bef y i k = true := by rw [bef_iff] at *; omega
theorem bef_asymm {y : List Pa} {i j : Int} (h : bef y i j = true) : bef y j i = false := by rw [bef_no]; rw [bef_iff] at h; omega
theorem bef_total {y : List Pa} {i j : Int} (h : i ≠ j) (g : bef y i j = false) : bef y j i = true := by rw [bef_iff]; rw [bef_no] at g; omega
def leB (y : List Pa) (i j : Int) : Bool := !bef y j i
def SB (y : List Pa) (l : List Int) : List Int := l.mergeSort (leB y)
def Pw (y : List Pa) (l : List Int) : Prop := l.Pairwise fun i j => bef y i j = true
theorem SB_perm (y : List Pa) (l : List Int) : (SB y l).Perm l := List.mergeSort_perm l _
theorem SB_len (y : List Pa) (l : List Int) : (SB y l).length = l.length := (SB_perm y l).length_eq
theorem pw_nodup {y : List Pa} {l : List Int} (h : Pw y l) : l.Nodup := h.imp fun {a b} hab e => by
  subst e
  have := bef_asymm hab
  rw [hab] at this; cases this
theorem SB_pw {y : List Pa} {l : List Int} (h : l.Nodup) : Pw y (SB y l) := by
  have h1 : (SB y l).Pairwise fun a b => leB y a b = true := List.pairwise_mergeSort (le := leB y) (fun a b c h g => by
    unfold leB at *
    simp only [Bool.not_eq_true', bef_no] at *
    omega) (fun a b => by
    unfold leB
    cases h : bef y b a with
    | false => rfl
    | true => rw [bef_asymm h]; rfl) l
  have h2 : (SB y l).Nodup := (SB_perm y l).nodup_iff.2 h
  unfold Pw
  refine (List.Pairwise.and h1 h2).imp fun {a b} hab => ?_
  obtain ⟨h3, h4⟩ := hab
  refine bef_total (Ne.symm h4) ?_
  unfold leB at h3
  simpa using h3
theorem pw_eq {y : List Pa} : ∀ {l k : List Int}, l.Perm k → Pw y l → Pw y k → l = k
  | [], k, h, _, _ => (List.nil_perm.1 h).symm
  | a :: l, [], h, _, _ => by simpa using h.length_eq
  | a :: l, b :: k, h, h1, h2 => by
    have e : a = b := by
      have ha : a ∈ b :: k := h.mem_iff.1 List.mem_cons_self
      have hb : b ∈ a :: l := h.mem_iff.2 List.mem_cons_self
      rcases List.mem_cons.1 ha with e | ha
      · exact e
      rcases List.mem_cons.1 hb with e | hb
      · exact e.symm
      have g1 := (List.pairwise_cons.1 h1).1 b hb
      have g2 := (List.pairwise_cons.1 h2).1 a ha
      rw [bef_asymm g1] at g2; cases g2
    subst e
    rw [pw_eq (List.perm_cons a |>.1 h) (List.pairwise_cons.1 h1).2 (List.pairwise_cons.1 h2).2]
theorem SB_eq {y : List Pa} {l k : List Int} (h : Pw y l) (hp : l.Perm k) : SB y k = l :=
  pw_eq ((SB_perm y k).trans hp.symm) (SB_pw (hp.nodup_iff.1 (pw_nodup h))) h
theorem SB_self {y : List Pa} {l : List Int} (h : Pw y l) : SB y l = l := SB_eq h (List.Perm.refl _)
theorem SB_nil (y : List Pa) : SB y [] = [] := SB_self List.Pairwise.nil
theorem SB_congr {y : List Pa} {l k : List Int} (h : l.Perm k) (hl : l.Nodup) : SB y l = SB y k := (SB_eq (SB_pw hl) ((SB_perm y l).trans h)).symm
theorem pw_app {y : List Pa} {l k : List Int} : Pw y (l ++ k) ↔ Pw y l ∧ Pw y k ∧ ∀ a ∈ l, ∀ b ∈ k, bef y a b = true := List.pairwise_append
/-- Two parts, all of one before all of the other. -/
theorem SB_app {y : List Pa} {l k : List Int} (hl : l.Nodup) (hk : k.Nodup) (h : ∀ a ∈ l, ∀ b ∈ k, bef y a b = true) : SB y (l ++ k) = SB y l ++ SB y k :=
  SB_eq (pw_app.2 ⟨SB_pw hl, SB_pw hk, fun a ha b hb => h a ((SB_perm y l).mem_iff.1 ha) b ((SB_perm y k).mem_iff.1 hb)⟩) ((SB_perm y l).append (SB_perm y k))
/-- Two elements changed about. -/
def sw (l : List Int) (i j : Nat) : List Int := (l.set i (gI l j)).set j (gI l i)
theorem sw_len (l : List Int) (i j : Nat) : (sw l i j).length = l.length := by simp [sw]
theorem sw_mid (A M C : List Int) (u v : Int) : sw (A ++ u :: (M ++ v :: C)) A.length (A.length + 1 + M.length) = A ++ v :: (M ++ u :: C) := by
  have h1 : gI (A ++ u :: (M ++ v :: C)) A.length = u := by unfold gI; simp
  have h2 : gI (A ++ u :: (M ++ v :: C)) (A.length + 1 + M.length) = v := by
    unfold gI
    rw [List.getD_eq_getElem?_getD, List.getElem?_append_right (by omega), show A.length + 1 + M.length - A.length = M.length + 1 by omega, List.getElem?_cons_succ, List.getElem?_append_right (by omega)]
    simp
  unfold sw
  rw [h1, h2, List.set_append_right _ _ (Nat.le_refl _), Nat.sub_self, List.set_cons_zero, List.set_append_right _ _ (by omega), show A.length + 1 + M.length - A.length = M.length + 1 by omega, List.set_cons_succ, List.set_append_right _ _ (Nat.le_refl _), Nat.sub_self, List.set_cons_zero]
theorem sw_comm {l : List Int} {i j : Nat} (h : i ≠ j) : sw l i j = sw l j i := by
  unfold sw
  rw [List.set_comm _ _ h]
theorem sw_mid' (A M C : List Int) (u v : Int) : sw (A ++ u :: (M ++ v :: C)) (A.length + 1 + M.length) A.length = A ++ v :: (M ++ u :: C) := by
  rw [sw_comm (by omega), sw_mid]
/-- The elements from a place up to another one. -/
def sl (l : List Int) (a b : Nat) : List Int := (l.take b).drop a
theorem sl_len (l : List Int) (a b : Nat) (h : b ≤ l.length) : (sl l a b).length = b - a := by unfold sl; rw [List.length_drop, List.length_take]; omega
theorem sl_split (l : List Int) (a m b : Nat) (h1 : a ≤ m) (h2 : m ≤ b) (h3 : b ≤ l.length) : sl l a b = sl l a m ++ sl l m b := by
  unfold sl
  rw [show l.take m = (l.take b).take m by rw [List.take_take]; congr 1; omega]
  generalize l.take b = k
  have := List.take_append_drop (m - a) (k.drop a)
  rw [List.drop_drop, show a + (m - a) = m by omega] at this
  rw [← this, List.drop_take]
theorem sl_three (l : List Int) (a b : Nat) (h1 : a ≤ b) : l = l.take a ++ sl l a b ++ l.drop b := by
  unfold sl
  have e : l.take a = (l.take b).take a := by rw [List.take_take]; congr 1; omega
  rw [e, List.take_append_drop, List.take_append_drop]
/-- A part put in order. -/
def upS (y : List Pa) (l : List Int) (a b : Nat) : List Int := l.take a ++ SB y (sl l a b) ++ l.drop b
theorem gI_app_r (A B : List Int) (n : Nat) : gI (A ++ B) (A.length + n) = gI B n := by
  unfold gI
  rw [List.getD_eq_getElem?_getD, List.getElem?_append_right (by omega), Nat.add_sub_cancel_left, List.getD_eq_getElem?_getD]
theorem gI_app_l {A B : List Int} {n : Nat} (h : n < A.length) : gI (A ++ B) n = gI A n := by
  unfold gI
  rw [List.getD_eq_getElem?_getD, List.getElem?_append_left h, List.getD_eq_getElem?_getD]
end
end Go.Proofs.Ytmphplpfgjcpiaa.Eng
set_option linter.unusedVariables false
set_option linter.unusedSimpArgs false
namespace Go.Proofs.Ytmphplpfgjcpiaa.Eng
open Go
set_option maxRecDepth 100000
noncomputable section
open Go.RowKit
abbrev plT : Ty := .sl paT
theorem l1_of {l : List Int} (h : l.length = 1) : ∃ a, l = [a] := by
  match l, h with | [a], _ => exact ⟨a, rfl⟩
theorem l2_of {l : List Int} (h : l.length = 2) : ∃ a b, l = [a, b] := by
  match l, h with | [a, b], _ => exact ⟨a, b, rfl⟩
theorem l3_of {l : List Int} (h : l.length = 3) : ∃ a b c, l = [a, b, c] := by
  match l, h with | [a, b, c], _ => exact ⟨a, b, c, rfl⟩
def X58 : List AV → Nat → Rd Res := rdX 58 plT 2 (fun is y => match is with | [i, j] => [0 ≤ j, j < y.length, 0 ≤ i, i < y.length] | _ => [False]) (fun is y => match is with | [i, j] => cmpR (ky y j) (ky y i) | _ => 0)
theorem k58 : FxOk Go.Proofs.Try.prog 58 X58 := by
  refine fx_rd (E := ⟨tab, [(59, K59)], ann0⟩) (TOk.of tab_told) (AllOk.cons k59 .nil).at_ mix Go.Proofs.Try.func58 rfl rfl (d := 5) rfl (by kernel_rfl) 58 plT 2 _ _ ?_
  intro is y hl hp
  obtain ⟨i, j, rfl⟩ := l2_of hl
  have h1 : 0 ≤ j := hp _ (List.mem_cons_self ..)
  have h2 : j < (y : List Pa).length := hp _ (List.mem_cons_of_mem _ (List.mem_cons_self ..))
  have h3 : 0 ≤ i := hp _ (List.mem_cons_of_mem _ (List.mem_cons_of_mem _ (List.mem_cons_self ..)))
  have h4 : i < (y : List Pa).length := hp _ (List.mem_cons_of_mem _ (List.mem_cons_of_mem _ (List.mem_cons_of_mem _ (List.mem_cons_self ..))))
  clear hp hl
  conv => whnf
  refine ⟨h1, ?_⟩
  conv => whnf
  refine ⟨h2, ?_⟩
  conv => whnf
  refine ⟨h3, ?_⟩
  conv => whnf
  refine ⟨h4, ?_⟩
  conv => whnf
  rfl
/-- Two parts of a row changed about. -/
def swp (l : List Int) (a b n : Nat) : List Int := l.take a ++ sl l b (b + n) ++ sl l (a + n) b ++ sl l a (a + n) ++ l.drop (b + n)
def swpI (l : List Int) (a b n i : Nat) : List Int := (l.take a ++ (sl l b (b + n)).take i) ++ ((sl l a (a + n)).drop i ++ sl l (a + n) b ++ (sl l a (a + n)).take i) ++ ((sl l b (b + n)).drop i ++ l.drop (b + n))
theorem swpI_zero {l : List Int} {a b n : Nat} (h1 : a + n ≤ b) (h2 : b + n ≤ l.length) : swpI l a b n 0 = l := by
  have e1 := sl_three l a (b + n) (by omega)
  rw [sl_split l a (a + n) (b + n) (by omega) (by omega) h2, sl_split l (a + n) b (b + n) h1 (by omega) h2] at e1
  conv => rhs; rw [e1]
  unfold swpI
  simp
theorem swpI_end {l : List Int} {a b n : Nat} (h1 : a + n ≤ b) (h2 : b + n ≤ l.length) : swpI l a b n n = swp l a b n := by
  unfold swpI swp
  have l1 := sl_len l a (a + n) (by omega)
  have l2 := sl_len l b (b + n) (by omega)
  rw [List.take_of_length_le (l := sl l b (b + n)) (by omega), List.drop_of_length_le (l := sl l b (b + n)) (by omega), List.take_of_length_le (l := sl l a (a + n)) (by omega), List.drop_of_length_le (l := sl l a (a + n)) (by omega)]
  simp only [List.append_assoc, List.nil_append]
theorem swpI_step {l : List Int} {a b n i : Nat} (h1 : a + n ≤ b) (h2 : b + n ≤ l.length) (hi : i < n) : sw (swpI l a b n i) (a + i) (b + i) = swpI l a b n (i + 1) := by
  have l1 := sl_len l a (a + n) (by omega)
  have l2 := sl_len l b (b + n) (by omega)
  have l3 := sl_len l (a + n) b (by omega)
  have e1 : (sl l a (a + n)).drop i = (sl l a (a + n))[i]'(by omega) :: (sl l a (a + n)).drop (i + 1) := List.drop_eq_getElem_cons (by omega)
  have e2 : (sl l b (b + n)).drop i = (sl l b (b + n))[i]'(by omega) :: (sl l b (b + n)).drop (i + 1) := List.drop_eq_getElem_cons (by omega)
  have t1 : (sl l a (a + n)).take (i + 1) = (sl l a (a + n)).take i ++ [(sl l a (a + n))[i]'(by omega)] := List.take_succ_eq_append_getElem (by omega)
  have t2 : (sl l b (b + n)).take (i + 1) = (sl l b (b + n)).take i ++ [(sl l b (b + n))[i]'(by omega)] := List.take_succ_eq_append_getElem (by omega)
  have hA : (l.take a ++ (sl l b (b + n)).take i).length = a + i := by rw [List.length_append, List.length_take, List.length_take]; omega
  have hM : ((sl l a (a + n)).drop (i + 1) ++ sl l (a + n) b ++ (sl l a (a + n)).take i).length = b - a - 1 := by simp only [List.length_append, List.length_take, List.length_drop]; omega
  have key := sw_mid (l.take a ++ (sl l b (b + n)).take i) ((sl l a (a + n)).drop (i + 1) ++ sl l (a + n) b ++ (sl l a (a + n)).take i) ((sl l b (b + n)).drop (i + 1) ++ l.drop (b + n)) ((sl l a (a + n))[i]'(by omega)) ((sl l b (b + n))[i]'(by omega))
  rw [hA, hM, show a + i + 1 + (b - a - 1) = b + i by omega] at key
  have f1 : swpI l a b n i = (l.take a ++ (sl l b (b + n)).take i) ++ (sl l a (a + n))[i]'(by omega) :: (((sl l a (a + n)).drop (i + 1) ++ sl l (a + n) b ++ (sl l a (a + n)).take i) ++ (sl l b (b + n))[i]'(by omega) :: ((sl l b (b + n)).drop (i + 1) ++ l.drop (b + n))) := by
    unfold swpI
    rw [e1, e2]
    simp only [List.append_assoc, List.cons_append]
  have f2 : swpI l a b n (i + 1) = (l.take a ++ (sl l b (b + n)).take i) ++ (sl l b (b + n))[i]'(by omega) :: (((sl l a (a + n)).drop (i + 1) ++ sl l (a + n) b ++ (sl l a (a + n)).take i) ++ (sl l a (a + n))[i]'(by omega) :: ((sl l b (b + n)).drop (i + 1) ++ l.drop (b + n))) := by
    unfold swpI
    rw [t1, t2]
    simp only [List.append_assoc, List.cons_append, List.nil_append]
  rw [f1, key, f2]
theorem swpI_len {l : List Int} {a b n i : Nat} (h1 : a + n ≤ b) (h2 : b + n ≤ l.length) (hi : i ≤ n) : (swpI l a b n i).length = l.length := by
  have l1 := sl_len l a (a + n) (by omega)
  have l2 := sl_len l b (b + n) (by omega)
  have l3 := sl_len l (a + n) b (by omega)
  unfold swpI
  simp only [List.length_append, List.length_take, List.length_drop]
  omega
def P92 : List Int → List Pa → List Int → List Prop := fun is y xs => match is with | [a, b, n] => [0 ≤ a, 0 ≤ n, a + n ≤ b, b + n ≤ xs.length, xs.length ≤ 1000000] | _ => [False]
def R92 : List Int → List Pa → List Int → List Int := fun is y xs => match is with | [a, b, n] => swp xs a.toNat b.toNat n.toNat | _ => xs
def X92 : List AV → Nat → Rd Res := slX I 58 plT 3 P92 R92
def E92 : Env := ⟨tab, [], fun n => match n with | 1 => some ([0, 1, 2, 3, 10], [], []) | _ => none⟩
def S92 (a b n : Int) (l : List Int) (i : Int) : SL := ⟨[.own 0, .int .i64 a, .int .i64 b, .int .i64 n] ++ List.replicate 6 .undef ++ [.int .i64 i] ++ List.replicate 27 .undef, [(0, .arr I l)], 1⟩
theorem k92 : FxOk Go.Proofs.Try.prog 92 X92 := by
  refine fx_sl (E := E92) (TOk.of tab_told) (fun f k h => by cases h) mix Go.Proofs.Try.func92 rfl rfl rfl (by kernel_rfl) (by kernel_rfl) I rfl 58 plT 3 P92 R92 ?_
  rintro is (y : List Pa) (xs : List Int) hl hp
  obtain ⟨a, b, n, rfl⟩ := l3_of hl
  have h1 : 0 ≤ a := hp _ (List.mem_cons_self ..)
  have h2 : 0 ≤ n := hp _ (List.mem_cons_of_mem _ (List.mem_cons_self ..))
  have h3 : a + n ≤ b := hp _ (List.mem_cons_of_mem _ (List.mem_cons_of_mem _ (List.mem_cons_self ..)))
  have h4 : b + n ≤ (xs : List Int).length := hp _ (List.mem_cons_of_mem _ (List.mem_cons_of_mem _ (List.mem_cons_of_mem _ (List.mem_cons_self ..))))
  have h5 : (xs : List Int).length ≤ 1000000 := hp _ (List.mem_cons_of_mem _ (List.mem_cons_of_mem _ (List.mem_cons_of_mem _ (List.mem_cons_of_mem _ (List.mem_cons_self ..)))))
  clear hp hl
  conv => whnf
  refine loop_rule (fun i : Int => S92 a b n (swpI xs a.toNat b.toNat n.toNat i.toNat) i) (fun i => (n - i).toNat) (fun i => 0 ≤ i ∧ i ≤ n) ?_ 0 (by kernel_rfl) ?_ ⟨by omega, by omega⟩
  case refine_2 => exact Eq.trans (b := S92 a b n xs 0) rfl (by rw [show swpI xs a.toNat b.toNat n.toNat (0 : Int).toNat = xs from swpI_zero (by omega) (by omega)])
  rintro i ⟨i0, i1⟩
  conv => whnf
  refine cond_intro (fun hlt => ?_) (fun hlt => ?_)
  · have hlt : i < n := @of_decide_eq_true _ _ hlt
    have hlen : (swpI xs a.toNat b.toNat n.toNat i.toNat).length = (xs : List Int).length := swpI_len (by omega) (by omega) (by omega)
    have ha : IntKind.i64.wrap (a + i) = a + i := wrap_eq (by omega) (by omega)
    have hb : IntKind.i64.wrap (b + i) = b + i := wrap_eq (by omega) (by omega)
    have hw : IntKind.i64.wrap (i + 1) = i + 1 := wrap_eq (by omega) (by omega)
    have a0 : 0 ≤ IntKind.i64.wrap (a + i) := by omega
    have b0 : 0 ≤ IntKind.i64.wrap (b + i) := by omega
    have a1 : IntKind.i64.wrap (a + i) < ((swpI xs a.toNat b.toNat n.toNat i.toNat).length : Int) := by omega
    have b1 : IntKind.i64.wrap (b + i) < ((swpI xs a.toNat b.toNat n.toNat i.toNat).length : Int) := by omega
    conv => whnf
    refine ⟨b0, ?_⟩
    conv => whnf
    refine ⟨b1, ?_⟩
    conv => whnf
    refine ⟨a0, ?_⟩
    conv => whnf
    refine ⟨a1, ?_⟩
    conv => whnf
    refine ⟨a0, ?_⟩
    conv => whnf
    refine ⟨a1, ?_⟩
    conv => whnf
    refine ⟨b0, ?_⟩
    conv => whnf
    refine ⟨(show IntKind.i64.wrap (b + i) < (((swpI xs a.toNat b.toNat n.toNat i.toNat).set (IntKind.i64.wrap (a + i)).toNat (gI (swpI xs a.toNat b.toNat n.toNat i.toNat) (IntKind.i64.wrap (b + i)).toNat)).length : Int) by rw [List.length_set]; exact b1), ?_⟩
    conv => whnf
    refine ⟨i + 1, ?_, ⟨by omega, by omega⟩, by omega⟩
    have hs : sw (swpI xs a.toNat b.toNat n.toNat i.toNat) (IntKind.i64.wrap (a + i)).toNat (IntKind.i64.wrap (b + i)).toNat = swpI xs a.toNat b.toNat n.toNat (i + 1).toNat := by rw [ha, hb, show (a + i).toNat = a.toNat + i.toNat by omega, show (b + i).toNat = b.toNat + i.toNat by omega, show (i + 1).toNat = i.toNat + 1 by omega]; exact swpI_step (by omega) (by omega) (by omega)
    exact Eq.trans (b := S92 a b n (sw (swpI xs a.toNat b.toNat n.toNat i.toNat) (IntKind.i64.wrap (a + i)).toNat (IntKind.i64.wrap (b + i)).toNat) (IntKind.i64.wrap (i + 1))) rfl (by rw [hs, hw])
  have hlt : ¬ (i < n) := @of_decide_eq_false _ _ hlt
  conv => whnf
  show some (Ob.arr I (swpI xs a.toNat b.toNat n.toNat i.toNat)) = some (Ob.arr I (swp xs a.toNat b.toNat n.toNat))
  rw [show i.toNat = n.toNat by omega, swpI_end (by omega) (by omega)]
end
end Go.Proofs.Ytmphplpfgjcpiaa.Eng
