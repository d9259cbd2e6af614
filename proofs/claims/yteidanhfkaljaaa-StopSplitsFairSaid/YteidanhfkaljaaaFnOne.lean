/- What the functions that the law reaches answer, each for every input. -/
import Derived.Test.YteidanhfkaljaaaEngTwo
import Derived.Test.YteidanhfkaljaaaChecked
set_option linter.unusedVariables false
set_option linter.unusedSimpArgs false
set_option linter.unusedVariables false
namespace Go.Proofs.Yteidanhfkaljaaa.Eng
open Go
set_option maxRecDepth 100000
noncomputable section
abbrev I : Ty := .int .i64
theorem mix : Go.Proofs.Try.prog.follows .mixedOrders = true := by kernel_rfl
def withinR (a : Int × List Int) : Bool := a.2.all fun n => decide (0 ≤ n) && decide (n ≤ a.1)
def gI (l : List Int) (n : Nat) : Int := l.getD n 0
theorem gI_eq {l : List Int} {n : Nat} (h : n < l.length) : gI l n = l[n] := by simp [gI, h]
theorem wrap_eq {i : Int} (h : -9223372036854775808 ≤ i) (g : i ≤ 9223372036854775807) : IntKind.i64.wrap i = i := by rw [IntKind.wrap_i64]; omega
def K35 : Fn1 := ⟨.fld I (.one (.sl I)), .one .bool, fun (a : Int × List Int) => [a.2.length ≤ 140737488351232], fun (a : Int × List Int) => withinR a⟩
def E35 : Env := ⟨tab, [], fun n => match n with | 2 => some ([0, 4, 7, 8, 9], [], []) | _ => none⟩
def S35 (most : Int) (l : List Int) (i : Int) : SL := ⟨[.int .i64 most, .undef, .undef, .undef, .bool false, .undef, .undef, .sl I l, .int .i64 l.length, .int .i64 i] ++ List.replicate 11 .undef, [], 0⟩
theorem k35 : FnOk Go.Proofs.Try.prog 35 K35 := by
  refine fn_ok (E := E35) (TOk.of tab_told) (fun f k h => by cases h) mix Go.Proofs.Try.func35 rfl rfl (by kernel_rfl) K35 ?_
  rintro ⟨(most : Int), (l : List Int)⟩ hp
  have hl : l.length ≤ 140737488351232 := hp _ (List.mem_cons_self ..)
  clear hp
  conv => whnf
  refine loop_rule (S35 most l) (fun i => ((l.length : Int) - i).toNat) (fun i => 0 ≤ i ∧ i ≤ l.length ∧ ∀ n ∈ l.take i.toNat, 0 ≤ n ∧ n ≤ most) ?_ 0 (by kernel_rfl) ?_ ⟨by omega, by omega, by simp⟩
  case refine_2 => rfl
  rintro i ⟨h0, h1, h2⟩
  conv => whnf
  have hr : ∀ h : i < l.length, gI l i.toNat = l[i.toNat]'(by omega) := fun h => gI_eq _
  refine cond_intro (fun hlt => ?_) (fun hge => ?_)
  · have hlt := of_decide_eq_true hlt
    have e := hr hlt
    have ht : l.take (i.toNat + 1) = l.take i.toNat ++ [gI l i.toNat] := by rw [List.take_succ_eq_append_getElem (by omega), e]
    have hm : gI l i.toNat ∈ l := by rw [e]; exact List.getElem_mem _
    conv => whnf
    refine ⟨h0, ?_⟩
    conv => whnf
    refine ⟨hlt, ?_⟩
    conv => whnf
    refine cond_intro (fun hneg => ?_) (fun hpos => ?_)
    · have hneg : gI l i.toNat < 0 := @of_decide_eq_true _ _ hneg
      conv => whnf
      refine (List.all_eq_false.2 ⟨_, hm, ?_⟩).symm
      simp; omega
    · have hpos : ¬ gI l i.toNat < 0 := @of_decide_eq_false _ _ hpos
      conv => whnf
      refine cond_intro (fun hbig => ?_) (fun hok => ?_)
      · have hbig : most < gI l i.toNat := @of_decide_eq_true _ _ hbig
        conv => whnf
        refine (List.all_eq_false.2 ⟨_, hm, ?_⟩).symm
        simp; omega
      · have hok : ¬ most < gI l i.toNat := @of_decide_eq_false _ _ hok
        conv => whnf
        have hw : IntKind.i64.wrap (i + 1) = i + 1 := wrap_eq (by omega) (by omega)
        refine ⟨i + 1, ?_, ⟨by omega, by omega, ?_⟩, by omega⟩
        · exact Eq.trans (b := S35 most l (IntKind.i64.wrap (i + 1))) rfl (by rw [hw])
        · rw [show (i + 1).toNat = i.toNat + 1 by omega, ht]
          intro n hn
          rcases List.mem_append.1 hn with hn | hn
          · exact h2 n hn
          · cases List.mem_singleton.1 hn
            exact ⟨by omega, by omega⟩
  · have hge := of_decide_eq_false hge
    conv => whnf
    refine (List.all_eq_true.2 fun n hn => ?_).symm
    have := h2 n (by rw [show i.toNat = l.length by omega, List.take_length]; exact hn)
    simp; omega
end
end Go.Proofs.Yteidanhfkaljaaa.Eng
set_option linter.unusedVariables false
namespace Go.Proofs.Yteidanhfkaljaaa.Eng
open Go
set_option maxRecDepth 100000
noncomputable section
abbrev plT : Ty := .fld I (.one I)
abbrev paT : Ty := .fld I (.fld I (.fld I (.fld I (.fld I (.one I)))))
abbrev raT : Ty := .fld I (.fld I (.fld I (.fld I (.one I))))
abbrev stT : Ty := .fld I (.fld (.sl plT) (.fld (.sl paT) (.one (.sl raT))))
abbrev St := Int × List (Int × Int) × List (Int × Int × Int × Int × Int × Int) × List (Int × Int × Int × Int × Int)
def ann0 : Nat → Option Ann := fun _ => none
def E0 : Env := ⟨tab, [], ann0⟩
theorem noK : ∀ f k, findK (E0).K f = some k → FnOk Go.Proofs.Try.prog f k := fun f k h => by cases h
def K36 : Fn1 := ⟨.fld I (.fld I (.one I)), .one .bool, fun _ => [], fun (a : Int × Int × Int) => decide (a.2.1 ≤ a.1) && decide (a.1 ≤ a.2.2)⟩
theorem k36 : FnOk Go.Proofs.Try.prog 36 K36 := by
  refine fn_ok (E := E0) (TOk.of tab_told) noK mix Go.Proofs.Try.func36 rfl rfl (by kernel_rfl) K36 ?_
  rintro ⟨(n : Int), (l : Int), (m : Int)⟩ hp
  clear hp
  iterate 3 (all_goals (conv => whnf); all_goals (try (refine cond_intro (fun h => ?_) (fun h => ?_))))
  all_goals (simp only [decide_eq_true_eq, decide_eq_false_iff_not] at *)
  · have : l ≤ n := by assumption
    exact Eq.symm (by show (decide (l ≤ n) && decide (n ≤ m)) = decide (n ≤ m); simp [this])
  · have : ¬ l ≤ n := by assumption
    exact Eq.symm (by show (decide (l ≤ n) && decide (n ≤ m)) = false; simp [this])
def sizedR (w h t : Int) : Int := if w < 4 ∨ 32 < w ∨ h < 4 ∨ 32 < h then 1 else if t < 0 ∨ IntKind.i64.wrap (w * h) ≤ t then 2 else 0
def K37 : Fn1 := ⟨.fld I (.fld I (.one I)), .one I, fun _ => [], fun (a : Int × Int × Int) => sizedR a.1 a.2.1 a.2.2⟩
theorem k37 : FnOk Go.Proofs.Try.prog 37 K37 := by
  refine fn_ok (E := E0) (TOk.of tab_told) noK mix Go.Proofs.Try.func37 rfl rfl (by kernel_rfl) K37 ?_
  rintro ⟨(w : Int), (v : Int), (t : Int)⟩ hp
  clear hp
  iterate 9 (all_goals (conv => whnf); all_goals (try (refine cond_intro (fun h => ?_) (fun h => ?_))))
  all_goals (simp only [decide_eq_true_eq, decide_eq_false_iff_not, cond_false] at *)
  all_goals (show _ = sizedR w v t; unfold sizedR)
  all_goals (split <;> (try split) <;> (first | rfl | omega))
def sub64 (a b : Int) : Int := IntKind.i64.wrap (a - b)
def quo64 (a b : Int) : Int := IntKind.i64.wrap (Int.tdiv a b)
def apartR (w a b : Int) : Int := max2 (max2 (max2 (sub64 (Int.tmod a w) (Int.tmod b w)) (sub64 0 (sub64 (Int.tmod a w) (Int.tmod b w)))) (sub64 (quo64 a w) (quo64 b w))) (sub64 0 (sub64 (quo64 a w) (quo64 b w)))
def K48 : Fn1 := ⟨.fld I (.fld I (.one I)), .one I, fun (a : Int × Int × Int) => [a.1 ≠ 0], fun (a : Int × Int × Int) => apartR a.1 a.2.1 a.2.2⟩
theorem k48 : FnOk Go.Proofs.Try.prog 48 K48 := by
  refine fn_ok (E := E0) (TOk.of tab_told) noK mix Go.Proofs.Try.func48 rfl rfl (by kernel_rfl) K48 ?_
  rintro ⟨(w : Int), (a : Int), (b : Int)⟩ hp
  have hw : w ≠ 0 := hp _ (List.mem_cons_self ..)
  clear hp
  iterate 8 (all_goals (conv => whnf); all_goals (try (refine ⟨hw, ?_⟩)); all_goals (try (refine cond_intro (fun h => ?_) (fun h => ?_))))
  rfl
def reachR (k : Int) : Int := [3, 2, 4, 5].getD k.toNat 0
def K61 : Fn1 := ⟨.one I, .one I, fun (a : Int) => [(0 : Int) ≤ a, (a : Int) ≤ 3], fun (a : Int) => reachR a⟩
theorem k61 : FnOk Go.Proofs.Try.prog 61 K61 := by
  refine fn_ok (E := E0) (TOk.of tab_told) noK mix Go.Proofs.Try.func61 rfl rfl (by kernel_rfl) K61 ?_
  rintro (k : Int) hp
  have h0 : 0 ≤ k := hp _ (List.mem_cons_self ..)
  have h1 : k ≤ 3 := hp _ (List.mem_cons_of_mem _ (List.mem_cons_self ..))
  clear hp
  conv => whnf
  refine ⟨h0, ?_⟩
  conv => whnf
  refine ⟨show k < 4 by omega, ?_⟩
  conv => whnf
  rfl
def K44 : Fn1 := ⟨.one (.sl plT), .one (.sl plT), fun (a : List (Int × Int)) => [a.length ≤ 100000], fun a => a⟩
theorem k44 : FnOk Go.Proofs.Try.prog 44 K44 := by
  refine fn_ok (E := E0) (TOk.of tab_told) noK mix Go.Proofs.Try.func44 rfl rfl (by kernel_rfl) K44 ?_
  rintro (l : List (Int × Int)) hp
  have hl : l.length ≤ 100000 := hp _ (List.mem_cons_self ..)
  clear hp
  conv => whnf
  refine ⟨show (0 : Int) ≤ (l.length : Int) by omega, ?_⟩
  conv => whnf
  refine ⟨show (l.length : Int) ≤ (l.length : Int) by omega, ?_⟩
  conv => whnf
  refine ⟨show (l.length : Int) * (16 : Int) ≤ 70368744177664 by omega, ?_⟩
  conv => whnf
  refine ⟨show (l.length : Int) ≤ 70368744177664 by omega, ?_⟩
  conv => whnf
  show l.take (List.replicate (l.length : Int).toNat ((0, 0) : (Int × Int))).length ++ (List.replicate (l.length : Int).toNat ((0, 0) : (Int × Int))).drop l.length = l
  simp
def K51 : Fn1 := ⟨.one (.sl raT), .one (.sl raT), fun (a : List (Int × Int × Int × Int × Int)) => [a.length ≤ 100000], fun a => a⟩
theorem k51 : FnOk Go.Proofs.Try.prog 51 K51 := by
  refine fn_ok (E := E0) (TOk.of tab_told) noK mix Go.Proofs.Try.func51 rfl rfl (by kernel_rfl) K51 ?_
  rintro (l : List (Int × Int × Int × Int × Int)) hp
  have hl : l.length ≤ 100000 := hp _ (List.mem_cons_self ..)
  clear hp
  conv => whnf
  refine ⟨show (0 : Int) ≤ (l.length : Int) by omega, ?_⟩
  conv => whnf
  refine ⟨show (l.length : Int) ≤ (l.length : Int) by omega, ?_⟩
  conv => whnf
  refine ⟨show (l.length : Int) * (40 : Int) ≤ 70368744177664 by omega, ?_⟩
  conv => whnf
  refine ⟨show (l.length : Int) ≤ 70368744177664 by omega, ?_⟩
  conv => whnf
  show l.take (List.replicate (l.length : Int).toNat ((0, 0, 0, 0, 0) : (Int × Int × Int × Int × Int))).length ++ (List.replicate (l.length : Int).toNat ((0, 0, 0, 0, 0) : (Int × Int × Int × Int × Int))).drop l.length = l
  simp
def K65 : Fn1 := ⟨.one (.sl paT), .one (.sl paT), fun (a : List (Int × Int × Int × Int × Int × Int)) => [a.length ≤ 100000], fun a => a⟩
theorem k65 : FnOk Go.Proofs.Try.prog 65 K65 := by
  refine fn_ok (E := E0) (TOk.of tab_told) noK mix Go.Proofs.Try.func65 rfl rfl (by kernel_rfl) K65 ?_
  rintro (l : List (Int × Int × Int × Int × Int × Int)) hp
  have hl : l.length ≤ 100000 := hp _ (List.mem_cons_self ..)
  clear hp
  conv => whnf
  refine ⟨show (0 : Int) ≤ (l.length : Int) by omega, ?_⟩
  conv => whnf
  refine ⟨show (l.length : Int) ≤ (l.length : Int) by omega, ?_⟩
  conv => whnf
  refine ⟨show (l.length : Int) * (48 : Int) ≤ 70368744177664 by omega, ?_⟩
  conv => whnf
  refine ⟨show (l.length : Int) ≤ 70368744177664 by omega, ?_⟩
  conv => whnf
  show l.take (List.replicate (l.length : Int).toNat ((0, 0, 0, 0, 0, 0) : (Int × Int × Int × Int × Int × Int))).length ++ (List.replicate (l.length : Int).toNat ((0, 0, 0, 0, 0, 0) : (Int × Int × Int × Int × Int × Int))).drop l.length = l
  simp
def E43 : Env := ⟨tab, [(44, K44), (51, K51), (65, K65)], ann0⟩
theorem all43 : AllOk Go.Proofs.Try.prog E43.K := .cons k44 (.cons k51 (.cons k65 .nil))
def small (s : St) : List Prop := [s.2.1.length ≤ 100000, s.2.2.1.length ≤ 100000, s.2.2.2.length ≤ 100000]
def K43 : Fn1 := ⟨.one stT, .one stT, fun (a : St) => small a, fun a => a⟩
theorem k43 : FnOk Go.Proofs.Try.prog 43 K43 := by
  refine fn_ok (E := E43) (TOk.of tab_told) all43.at_ mix Go.Proofs.Try.func43 rfl rfl (by kernel_rfl) K43 ?_
  rintro ⟨(ow : Int), (ps : List (Int × Int)), (ws : List (Int × Int × Int × Int × Int × Int)), (rs : List (Int × Int × Int × Int × Int))⟩ hp
  have h1 : ps.length ≤ 100000 := hp _ (List.mem_cons_self ..)
  have h2 : ws.length ≤ 100000 := hp _ (List.mem_cons_of_mem _ (List.mem_cons_self ..))
  have h3 : rs.length ≤ 100000 := hp _ (List.mem_cons_of_mem _ (List.mem_cons_of_mem _ (List.mem_cons_self ..)))
  clear hp
  conv => whnf
  refine ⟨h1, ?_⟩
  conv => whnf
  refine ⟨h2, ?_⟩
  conv => whnf
  refine ⟨h3, ?_⟩
  conv => whnf
  rfl
end
end Go.Proofs.Yteidanhfkaljaaa.Eng
set_option linter.unusedVariables false
namespace Go.Proofs.Yteidanhfkaljaaa.Eng
open Go
set_option maxRecDepth 100000
noncomputable section
abbrev Pa := Int × Int × Int × Int × Int × Int
abbrev Ra := Int × Int × Int × Int × Int
def in0 (n b : Int) : Bool := decide (0 ≤ n) && decide (n ≤ b)
def K83 : Fn1 := ⟨.fld I (.one I), .one .bool, fun _ => [], fun (a : Int × Int) => in0 a.1 a.2⟩
theorem k83 : FnOk Go.Proofs.Try.prog 83 K83 := by
  refine fn_ok (E := E0) (TOk.of tab_told) noK mix Go.Proofs.Try.func83 rfl rfl (by kernel_rfl) K83 ?_
  rintro ⟨(n : Int), (m : Int)⟩ hp
  clear hp
  iterate 3 (all_goals (conv => whnf); all_goals (try (refine cond_intro (fun h => ?_) (fun h => ?_))))
  all_goals (simp only [decide_eq_true_eq, decide_eq_false_iff_not] at *)
  all_goals (show _ = in0 n m; unfold in0)
  · have : 0 ≤ n := by assumption
    simp [this]
  · have : ¬ 0 ≤ n := by assumption
    simp [this]
def E66 : Env := ⟨tab, [(83, K83)], ann0⟩
def soundR (p : Pa) : Bool := decide (1 ≤ p.2.2.2.2.1) && decide (p.2.2.2.2.1 ≤ 1000000) && in0 p.2.2.2.1 255 && in0 p.2.2.2.2.2 1000000000000 && in0 p.1 1000000 && in0 p.2.1 1000000 && in0 p.2.2.1 1000000
def K66 : Fn1 := ⟨.one paT, .one .bool, fun _ => [], fun (p : Pa) => soundR p⟩
theorem k66 : FnOk Go.Proofs.Try.prog 66 K66 := by
  refine fn_ok (E := E66) (TOk.of tab_told) (AllOk.cons k83 .nil).at_ mix Go.Proofs.Try.func66 rfl rfl (by kernel_rfl) K66 ?_
  rintro ⟨(k : Int), (f : Int), (t : Int), (g : Int), (c : Int), (s : Int)⟩ hp
  clear hp
  iterate 9 (all_goals (conv => whnf); all_goals (try (refine cond_intro (fun h => ?_) (fun h => ?_))))
  all_goals (simp only [cond_true, K83] at *)
  all_goals (show _ = soundR (k, f, t, g, c, s); simp [soundR, *])
def K86 : Fn1 := ⟨.one I, .one .bool, fun _ => [], fun _ => false⟩
theorem k86 : FnOk Go.Proofs.Try.prog 86 K86 := by
  refine fn_ok (E := E0) (TOk.of tab_told) noK mix Go.Proofs.Try.func86 rfl rfl (by kernel_rfl) K86 ?_
  rintro (n : Int) hp
  clear hp
  conv => whnf
  show (!decide (n = n)) = false
  simp
def E70 : Env := ⟨tab, [(86, K86)], ann0⟩
def cmpR (a b : Int) : Int := if a < b then -1 else if b < a then 1 else 0
def K70 : Fn1 := ⟨.fld I (.one I), .one I, fun _ => [], fun (a : Int × Int) => cmpR a.1 a.2⟩
theorem k70 : FnOk Go.Proofs.Try.prog 70 K70 := by
  refine fn_ok (E := E70) (TOk.of tab_told) (AllOk.cons k86 .nil).at_ mix Go.Proofs.Try.func70 rfl rfl (by kernel_rfl) K70 ?_
  rintro ⟨(a : Int), (b : Int)⟩ hp
  clear hp
  iterate 9 (all_goals (conv => whnf); all_goals (try (refine cond_intro (fun h => ?_) (fun h => ?_))))
  all_goals (simp only [decide_eq_true_eq, decide_eq_false_iff_not] at *)
  all_goals (show _ = cmpR a b; simp [cmpR, *])
def E84 : Env := ⟨tab, [], fun n => match n with | 3 => some ([3, 6, 7, 8], [], []) | _ => none⟩
def K84 : Fn1 := ⟨.one (.sl I), .one I, fun (l : List Int) => [l.length ≤ 100000], fun (l : List Int) => (l.find? (fun n => decide (n ≠ 0))).getD 0⟩
def S84 (l : List Int) (i : Int) : SL := ⟨[.undef, .undef, .undef, .int .i64 0, .undef, .undef, .sl I l, .int .i64 l.length, .int .i64 i] ++ List.replicate 9 .undef, [], 0⟩
theorem k84 : FnOk Go.Proofs.Try.prog 84 K84 := by
  refine fn_ok (E := E84) (TOk.of tab_told) noK mix Go.Proofs.Try.func84 rfl rfl (by kernel_rfl) K84 ?_
  rintro (l : List Int) hp
  have hl : l.length ≤ 100000 := hp _ (List.mem_cons_self ..)
  clear hp
  conv => whnf
  refine loop_rule (S84 l) (fun i => ((l.length : Int) - i).toNat) (fun i => 0 ≤ i ∧ i ≤ l.length ∧ ∀ n ∈ l.take i.toNat, n = 0) ?_ 0 (by kernel_rfl) ?_ ⟨by omega, by omega, by simp⟩
  case refine_2 => rfl
  rintro i ⟨h0, h1, h2⟩
  conv => whnf
  have hsp : l = l.take i.toNat ++ l.drop i.toNat := (List.take_append_drop _ _).symm
  have hnone : (l.take i.toNat).find? (fun n => decide (n ≠ 0)) = none := by simpa using h2
  refine cond_intro (fun hlt => ?_) (fun hge => ?_)
  · have hlt : i < l.length := @of_decide_eq_true _ _ hlt
    have e : gI l i.toNat = l[i.toNat]'(by omega) := gI_eq _
    have hd : l.drop i.toNat = gI l i.toNat :: l.drop (i.toNat + 1) := by rw [List.drop_eq_getElem_cons (by omega), e]
    have ht : l.take (i.toNat + 1) = l.take i.toNat ++ [gI l i.toNat] := by rw [List.take_succ_eq_append_getElem (by omega), e]
    conv => whnf
    refine ⟨h0, ?_⟩
    conv => whnf
    refine ⟨hlt, ?_⟩
    conv => whnf
    refine cond_intro (fun hz => ?_) (fun hz => ?_)
    · have hz : gI l i.toNat ≠ 0 := by
        have hz : (!decide (gI l i.toNat = 0)) = true := hz
        simpa using hz
      conv => whnf
      show gI l i.toNat = (l.find? (fun n => decide (n ≠ 0))).getD 0
      rw [hsp, List.find?_append, hnone, ← hsp, hd]
      simp [hz]
    · have hz : gI l i.toNat = 0 := by
        have hz : (!decide (gI l i.toNat = 0)) = false := hz
        simpa using hz
      conv => whnf
      have hw : IntKind.i64.wrap (i + 1) = i + 1 := wrap_eq (by omega) (by omega)
      refine ⟨i + 1, ?_, ⟨by omega, by omega, ?_⟩, by omega⟩
      · exact Eq.trans (b := S84 l (IntKind.i64.wrap (i + 1))) rfl (by rw [hw])
      · rw [show (i + 1).toNat = i.toNat + 1 by omega, ht]
        intro n hn
        rcases List.mem_append.1 hn with hn | hn
        · exact h2 n hn
        · cases List.mem_singleton.1 hn
          exact hz
  · have hge : ¬ i < l.length := @of_decide_eq_false _ _ hge
    conv => whnf
    show 0 = (l.find? (fun n => decide (n ≠ 0))).getD 0
    rw [show l.take i.toNat = l from List.take_of_length_le (by omega)] at hnone
    rw [hnone]; rfl
def E67 : Env := ⟨tab, [(70, K70), (84, K84)], ann0⟩
def compareR (a b : Pa) : Int := ([cmpR a.1 b.1, cmpR a.2.1 b.2.1, cmpR a.2.2.1 b.2.2.1, cmpR a.2.2.2.1 b.2.2.2.1].find? (fun n => decide (n ≠ 0))).getD 0
def K67 : Fn1 := ⟨.fld paT (.one paT), .one I, fun _ => [], fun (a : Pa × Pa) => compareR a.1 a.2⟩
theorem k67 : FnOk Go.Proofs.Try.prog 67 K67 := by
  refine fn_ok (E := E67) (TOk.of tab_told) (AllOk.cons k70 (.cons k84 .nil)).at_ mix Go.Proofs.Try.func67 rfl rfl (by kernel_rfl) K67 ?_
  rintro ⟨⟨(k : Int), (f : Int), (t : Int), (g : Int), (c : Int), (s : Int)⟩, ⟨(k' : Int), (f' : Int), (t' : Int), (g' : Int), (c' : Int), (s' : Int)⟩⟩ hp
  clear hp
  conv => whnf
  refine ⟨show 4 ≤ 100000 by omega, ?_⟩
  conv => whnf
  rfl
end
end Go.Proofs.Yteidanhfkaljaaa.Eng
set_option linter.unusedVariables false
namespace Go.Proofs.Yteidanhfkaljaaa.Eng
open Go
set_option maxRecDepth 100000
noncomputable section
def gP (l : List Pa) (n : Nat) : Pa := l.getD n (0, 0, 0, 0, 0, 0)
theorem gP_eq {l : List Pa} {n : Nat} (h : n < l.length) : gP l n = l[n] := by simp [gP, h]
/-- What is wrong at a place of a load. -/
def badP (l : List Pa) (i : Nat) : Bool := !soundR (gP l i) || (decide (0 < i) && decide (0 ≤ compareR (gP l (i - 1)) (gP l i)))
def cargoR (l : List Pa) : Int := if 200 < l.length then 4 else if (List.range l.length).any (badP l) then 1 else 0
def E47 : Env := ⟨tab, [(66, K66), (67, K67)], fun n => match n with | 4 => some ([0, 8, 9, 10], [], []) | _ => none⟩
def K47 : Fn1 := ⟨.one (.sl paT), .one I, fun (l : List Pa) => [l.length ≤ 100000], fun (l : List Pa) => cargoR l⟩
def S47 (l : List Pa) (i : Int) : SL := ⟨[.sl paT l, .undef, .undef, .undef, .undef, .undef, .undef, .undef, .sl paT l, .int .i64 l.length, .int .i64 i] ++ List.replicate 22 .undef, [], 0⟩
theorem k47 : FnOk Go.Proofs.Try.prog 47 K47 := by
  refine fn_ok (E := E47) (TOk.of tab_told) (AllOk.cons k66 (.cons k67 .nil)).at_ mix Go.Proofs.Try.func47 rfl rfl (by kernel_rfl) K47 ?_
  rintro (l : List Pa) hp
  have hl : l.length ≤ 100000 := hp _ (List.mem_cons_self ..)
  clear hp
  conv => whnf
  refine cond_intro (fun hlarge => ?_) (fun hsmall => ?_)
  · have hlarge : 200 < (l.length : Int) := @of_decide_eq_true _ _ hlarge
    conv => whnf
    show 4 = cargoR l
    rw [cargoR, if_pos (by omega)]
  have hsmall : ¬ 200 < (l.length : Int) := @of_decide_eq_false _ _ hsmall
  conv => whnf
  refine loop_rule (S47 l) (fun i => ((l.length : Int) - i).toNat) (fun i => 0 ≤ i ∧ i ≤ l.length ∧ ∀ j : Nat, (j : Int) < i → badP l j = false) ?_ 0 (by kernel_rfl) ?_ ⟨by omega, by omega, fun j hj => by omega⟩
  case refine_2 => rfl
  rintro i ⟨h0, h1, h2⟩
  have hbad : i < l.length → badP l i.toNat = true → 1 = cargoR l := by
    intro hlt hb
    rw [cargoR, if_neg (by omega), if_pos]
    exact List.any_eq_true.2 ⟨i.toNat, List.mem_range.2 (by omega), hb⟩
  have hw : i < l.length → IntKind.i64.wrap (i + 1) = i + 1 := fun _ => wrap_eq (by omega) (by omega)
  have hw' : IntKind.i64.wrap (i - 1) = i - 1 := wrap_eq (by omega) (by omega)
  conv => whnf
  refine cond_intro (fun hlt => ?_) (fun hge => ?_)
  · have hlt : i < l.length := @of_decide_eq_true _ _ hlt
    have hnext : badP l i.toNat = false → ∀ j : Nat, (j : Int) < i + 1 → badP l j = false := by
      intro hb j hj
      by_cases hji : (j : Int) < i
      · exact h2 j hji
      · rw [show j = i.toNat by omega]; exact hb
    conv => whnf
    refine ⟨h0, ?_⟩
    conv => whnf
    refine ⟨hlt, ?_⟩
    conv => whnf
    refine cond_intro (fun hs => ?_) (fun hs => ?_)
    · have hs : soundR (gP l i.toNat) = false := by
        have hs : (!soundR (gP l i.toNat)) = true := hs
        simpa using hs
      conv => whnf
      exact hbad hlt (by simp [badP, hs])
    · have hs : soundR (gP l i.toNat) = true := by
        have hs : (!soundR (gP l i.toNat)) = false := hs
        simpa using hs
      conv => whnf
      refine cond_intro (fun hpos => ?_) (fun hz => ?_)
      · have hpos : 0 < i := @of_decide_eq_true _ _ hpos
        conv => whnf
        refine ⟨show 0 ≤ IntKind.i64.wrap (i - 1) by rw [hw']; omega, ?_⟩
        conv => whnf
        refine ⟨show IntKind.i64.wrap (i - 1) < (l.length : Int) by rw [hw']; omega, ?_⟩
        conv => whnf
        have ei : (i - 1).toNat = i.toNat - 1 := by omega
        refine cond_intro (fun hc => ?_) (fun hc => ?_)
        · have hc : 0 ≤ compareR (gP l (IntKind.i64.wrap (i - 1)).toNat) (gP l i.toNat) := @of_decide_eq_true _ _ hc
          rw [hw', ei] at hc
          conv => whnf
          exact hbad hlt (by simp [badP, hs, hc]; omega)
        · have hc : ¬ 0 ≤ compareR (gP l (IntKind.i64.wrap (i - 1)).toNat) (gP l i.toNat) := @of_decide_eq_false _ _ hc
          rw [hw', ei] at hc
          conv => whnf
          refine ⟨i + 1, ?_, ⟨by omega, by omega, hnext ?_⟩, by omega⟩
          · exact Eq.trans (b := S47 l (IntKind.i64.wrap (i + 1))) rfl (by rw [hw hlt])
          · simp [badP, hs, hc]
      · have hz : ¬ 0 < i := @of_decide_eq_false _ _ hz
        conv => whnf
        refine ⟨i + 1, ?_, ⟨by omega, by omega, hnext ?_⟩, by omega⟩
        · exact Eq.trans (b := S47 l (IntKind.i64.wrap (i + 1))) rfl (by rw [hw hlt])
        · have : ¬ 0 < i.toNat := by omega
          simp [badP, hs, this]
  · have hge : ¬ i < l.length := @of_decide_eq_false _ _ hge
    conv => whnf
    show 0 = cargoR l
    rw [cargoR, if_neg (by omega), if_neg]
    intro hx
    obtain ⟨j, hj, hb⟩ := List.any_eq_true.1 hx
    rw [h2 j (by have := List.mem_range.1 hj; omega)] at hb
    cases hb
end
end Go.Proofs.Yteidanhfkaljaaa.Eng
set_option linter.unusedVariables false
namespace Go.Proofs.Yteidanhfkaljaaa.Eng
open Go
set_option maxRecDepth 100000
noncomputable section
def E41 : Env := ⟨tab, [(35, K35)], ann0⟩
def ratedR (r : Ra) : Bool := withinR (15, [r.1]) && withinR (255, [r.2.1, r.2.2.1, r.2.2.2.1, r.2.2.2.2])
def K41 : Fn1 := ⟨.one raT, .one .bool, fun _ => [], fun (r : Ra) => ratedR r⟩
theorem k41 : FnOk Go.Proofs.Try.prog 41 K41 := by
  refine fn_ok (E := E41) (TOk.of tab_told) (AllOk.cons k35 .nil).at_ mix Go.Proofs.Try.func41 rfl rfl (by kernel_rfl) K41 ?_
  rintro ⟨(c : Int), (s : Int), (d : Int), (v : Int), (y : Int)⟩ hp
  clear hp
  conv => whnf
  refine ⟨show 1 ≤ 140737488351232 by omega, ?_⟩
  conv => whnf
  refine cond_intro (fun h => ?_) (fun h => ?_)
  · have h : withinR (15, [c]) = true := h
    conv => whnf
    refine ⟨show 4 ≤ 140737488351232 by omega, ?_⟩
    conv => whnf
    show (bif true then withinR (255, [s, d, v, y]) else false) = (withinR (15, [c]) && withinR (255, [s, d, v, y]))
    simp [h]
  · have h : withinR (15, [c]) = false := h
    conv => whnf
    show false = (withinR (15, [c]) && withinR (255, [s, d, v, y]))
    simp [h]
def gS (l : List (Int × Int)) (n : Nat) : Int × Int := l.getD n (0, 0)
def gR (l : List Ra) (n : Nat) : Ra := l.getD n (0, 0, 0, 0, 0)
def badS (l : List (Int × Int)) (i : Nat) : Bool := !withinR (3, [(gS l i).1]) || !withinR (1000000, [(gS l i).2]) || (decide (0 < i) && decide ((gS l i).2 ≤ (gS l (i - 1)).2))
def badR (l : List Ra) (i : Nat) : Bool := !ratedR (gR l i) || (decide (0 < i) && decide ((gR l i).1 ≤ (gR l (i - 1)).1))
def validR (s : St) : Int :=
  if 20 < s.2.1.length then 4 else if s.1 < -1 ∨ 12 ≤ s.1 ∨ cargoR s.2.2.1 ≠ 0 then 1
  else if (List.range s.2.1.length).any (badS s.2.1) then 1 else if (List.range s.2.2.2.length).any (badR s.2.2.2) then 1 else 0
def E23 : Env := ⟨tab, [(35, K35), (41, K41), (47, K47)], fun n => match n with | 6 => some ([1, 26, 27, 28], [], []) | 12 => some ([1, 63, 64, 65], [], []) | _ => none⟩
def K23 : Fn1 := ⟨.one stT, .one I, fun (s : St) => small s, fun (s : St) => validR s⟩
def B23 (ow : Int) (ps : List (Int × Int)) (ws : List Pa) (rs : List Ra) : List (Nat × Ob) := [(0, .box [.int .i64 ow, .sl plT ps, .sl paT ws, .sl raT rs])]
def S23a (ow : Int) (ps : List (Int × Int)) (ws : List Pa) (rs : List Ra) (i : Int) : SL := ⟨[.undef, .ptr 0 0 0] ++ List.replicate 24 .undef ++ [.sl plT ps, .int .i64 ps.length, .int .i64 i] ++ List.replicate 61 .undef, B23 ow ps ws rs, 1⟩
def S23b (ow : Int) (ps : List (Int × Int)) (ws : List Pa) (rs : List Ra) (i : Int) : SL := ⟨[.undef, .ptr 0 0 0] ++ List.replicate 61 .undef ++ [.sl raT rs, .int .i64 rs.length, .int .i64 i] ++ List.replicate 24 .undef, B23 ow ps ws rs, 1⟩
theorem k23 : FnOk Go.Proofs.Try.prog 23 K23 := by
  refine fn_ok (E := E23) (TOk.of tab_told) (AllOk.cons k35 (.cons k41 (.cons k47 .nil))).at_ mix Go.Proofs.Try.func23 rfl rfl (by kernel_rfl) K23 ?_
  rintro ⟨(ow : Int), (ps : List (Int × Int)), (ws : List Pa), (rs : List Ra)⟩ hp
  have g1 : ps.length ≤ 100000 := hp _ (List.mem_cons_self ..)
  have g2 : ws.length ≤ 100000 := hp _ (List.mem_cons_of_mem _ (List.mem_cons_self ..))
  have g3 : rs.length ≤ 100000 := hp _ (List.mem_cons_of_mem _ (List.mem_cons_of_mem _ (List.mem_cons_self ..)))
  clear hp
  conv => whnf
  refine cond_intro (fun hlarge => ?_) (fun hsmall => ?_)
  · have hlarge : 20 < (ps.length : Int) := @of_decide_eq_true _ _ hlarge
    conv => whnf
    show 4 = validR (ow, ps, ws, rs)
    rw [validR, if_pos (by show 20 < ps.length; omega)]
  have hsmall : ¬ 20 < (ps.length : Int) := @of_decide_eq_false _ _ hsmall
  have v1 : (ow < -1 ∨ 12 ≤ ow ∨ cargoR ws ≠ 0) → 1 = validR (ow, ps, ws, rs) := fun h => by
    rw [validR, if_neg (by show ¬ 20 < ps.length; omega), if_pos h]
  conv => whnf
  refine cond_intro (fun h => ?_) (fun ha => ?_)
  · have h : ow < -1 := @of_decide_eq_true _ _ h
    conv => whnf
    exact v1 (.inl h)
  have ha : ¬ ow < -1 := @of_decide_eq_false _ _ ha
  conv => whnf
  refine cond_intro (fun h => ?_) (fun hb => ?_)
  · have h : 12 ≤ ow := @of_decide_eq_true _ _ h
    conv => whnf
    exact v1 (.inr (.inl h))
  have hb : ¬ 12 ≤ ow := @of_decide_eq_false _ _ hb
  conv => whnf
  refine ⟨g2, ?_⟩
  conv => whnf
  refine cond_intro (fun h => ?_) (fun hc => ?_)
  · have h : (!decide (cargoR ws = 0)) = true := h
    conv => whnf
    exact v1 (.inr (.inr (by simpa using h)))
  have hc : (!decide (cargoR ws = 0)) = false := hc
  have hc : cargoR ws = 0 := by simpa using hc
  have v2 : validR (ow, ps, ws, rs) = if (List.range ps.length).any (badS ps) then 1 else if (List.range rs.length).any (badR rs) then 1 else 0 := by
    rw [validR, if_neg (by show ¬ 20 < ps.length; omega), if_neg (by show ¬ (ow < -1 ∨ 12 ≤ ow ∨ cargoR ws ≠ 0); omega)]
  conv => whnf
  refine loop_rule (S23a ow ps ws rs) (fun i => ((ps.length : Int) - i).toNat) (fun i => 0 ≤ i ∧ i ≤ ps.length ∧ ∀ j : Nat, (j : Int) < i → badS ps j = false) ?_ 0 (by kernel_rfl) ?_ ⟨by omega, by omega, fun j hj => by omega⟩
  case refine_2 => rfl
  rintro i ⟨h0, h1, h2⟩
  have hbad : i < ps.length → badS ps i.toNat = true → 1 = validR (ow, ps, ws, rs) := by
    intro hlt hb
    rw [v2, if_pos]
    exact List.any_eq_true.2 ⟨i.toNat, List.mem_range.2 (by omega), hb⟩
  have hw : i < ps.length → IntKind.i64.wrap (i + 1) = i + 1 := fun _ => wrap_eq (by omega) (by omega)
  have hw' : IntKind.i64.wrap (i - 1) = i - 1 := wrap_eq (by omega) (by omega)
  conv => whnf
  refine cond_intro (fun hlt => ?_) (fun hge => ?_)
  · have hlt : i < ps.length := @of_decide_eq_true _ _ hlt
    have hnext : badS ps i.toNat = false → ∀ j : Nat, (j : Int) < i + 1 → badS ps j = false := by
      intro hb j hj
      by_cases hji : (j : Int) < i
      · exact h2 j hji
      · rw [show j = i.toNat by omega]; exact hb
    conv => whnf
    refine ⟨h0, ?_⟩
    conv => whnf
    refine ⟨hlt, ?_⟩
    conv => whnf
    refine ⟨show 1 ≤ 140737488351232 by omega, ?_⟩
    conv => whnf
    refine cond_intro (fun hs => ?_) (fun hs => ?_)
    · have hs : (!withinR (3, [(gS ps i.toNat).1])) = true := hs
      conv => whnf
      exact hbad hlt (by simp only [badS, hs, Bool.true_or])
    have hs : (!withinR (3, [(gS ps i.toNat).1])) = false := hs
    conv => whnf
    refine ⟨show 1 ≤ 140737488351232 by omega, ?_⟩
    conv => whnf
    refine cond_intro (fun ht => ?_) (fun ht => ?_)
    · have ht : (!withinR (1000000, [(gS ps i.toNat).2])) = true := ht
      conv => whnf
      exact hbad hlt (by simp only [badS, ht, Bool.true_or, Bool.or_true])
    have ht : (!withinR (1000000, [(gS ps i.toNat).2])) = false := ht
    conv => whnf
    refine cond_intro (fun hpos => ?_) (fun hz => ?_)
    · have hpos : 0 < i := @of_decide_eq_true _ _ hpos
      conv => whnf
      refine ⟨show 0 ≤ IntKind.i64.wrap (i - 1) by rw [hw']; omega, ?_⟩
      conv => whnf
      refine ⟨show IntKind.i64.wrap (i - 1) < (ps.length : Int) by rw [hw']; omega, ?_⟩
      conv => whnf
      have ei : (i - 1).toNat = i.toNat - 1 := by omega
      have hp0 : decide (0 < i.toNat) = true := by simp; omega
      refine cond_intro (fun hc => ?_) (fun hc => ?_)
      · have hc : decide ((gS ps i.toNat).2 ≤ (gS ps (IntKind.i64.wrap (i - 1)).toNat).2) = true := hc
        rw [hw', ei] at hc
        conv => whnf
        exact hbad hlt (by simp only [badS, hs, ht, hc, hp0]; rfl)
      · have hc : decide ((gS ps i.toNat).2 ≤ (gS ps (IntKind.i64.wrap (i - 1)).toNat).2) = false := hc
        rw [hw', ei] at hc
        conv => whnf
        refine ⟨i + 1, ?_, ⟨by omega, by omega, hnext ?_⟩, by omega⟩
        · exact Eq.trans (b := S23a ow ps ws rs (IntKind.i64.wrap (i + 1))) rfl (by rw [hw hlt])
        · simp only [badS, hs, ht, hc, hp0]; rfl
    · have hz : ¬ 0 < i := @of_decide_eq_false _ _ hz
      have hp0 : decide (0 < i.toNat) = false := by simp; omega
      conv => whnf
      refine ⟨i + 1, ?_, ⟨by omega, by omega, hnext ?_⟩, by omega⟩
      · exact Eq.trans (b := S23a ow ps ws rs (IntKind.i64.wrap (i + 1))) rfl (by rw [hw hlt])
      · simp only [badS, hs, ht, hp0]; rfl
  have hge : ¬ i < ps.length := @of_decide_eq_false _ _ hge
  have v3 : validR (ow, ps, ws, rs) = if (List.range rs.length).any (badR rs) then 1 else 0 := by
    rw [v2, if_neg]
    intro hx
    obtain ⟨j, hj, hb⟩ := List.any_eq_true.1 hx
    rw [h2 j (by have := List.mem_range.1 hj; omega)] at hb
    cases hb
  clear hbad hw hw' h2 h1 h0
  conv => whnf
  refine loop_rule (S23b ow ps ws rs) (fun i => ((rs.length : Int) - i).toNat) (fun i => 0 ≤ i ∧ i ≤ rs.length ∧ ∀ j : Nat, (j : Int) < i → badR rs j = false) ?_ 0 (by kernel_rfl) ?_ ⟨by omega, by omega, fun j hj => by omega⟩
  case refine_2 => rfl
  rintro i ⟨h0, h1, h2⟩
  have hbad : i < rs.length → badR rs i.toNat = true → 1 = validR (ow, ps, ws, rs) := by
    intro hlt hb
    rw [v3, if_pos]
    exact List.any_eq_true.2 ⟨i.toNat, List.mem_range.2 (by omega), hb⟩
  have hw : i < rs.length → IntKind.i64.wrap (i + 1) = i + 1 := fun _ => wrap_eq (by omega) (by omega)
  have hw' : IntKind.i64.wrap (i - 1) = i - 1 := wrap_eq (by omega) (by omega)
  conv => whnf
  refine cond_intro (fun hlt => ?_) (fun hge => ?_)
  · have hlt : i < rs.length := @of_decide_eq_true _ _ hlt
    have hnext : badR rs i.toNat = false → ∀ j : Nat, (j : Int) < i + 1 → badR rs j = false := by
      intro hb j hj
      by_cases hji : (j : Int) < i
      · exact h2 j hji
      · rw [show j = i.toNat by omega]; exact hb
    conv => whnf
    refine ⟨h0, ?_⟩
    conv => whnf
    refine ⟨hlt, ?_⟩
    conv => whnf
    refine cond_intro (fun hs => ?_) (fun hs => ?_)
    · have hs : (!ratedR (gR rs i.toNat)) = true := hs
      conv => whnf
      exact hbad hlt (by simp only [badR, hs, Bool.true_or])
    have hs : (!ratedR (gR rs i.toNat)) = false := hs
    conv => whnf
    refine cond_intro (fun hpos => ?_) (fun hz => ?_)
    · have hpos : 0 < i := @of_decide_eq_true _ _ hpos
      conv => whnf
      refine ⟨show 0 ≤ IntKind.i64.wrap (i - 1) by rw [hw']; omega, ?_⟩
      conv => whnf
      refine ⟨show IntKind.i64.wrap (i - 1) < (rs.length : Int) by rw [hw']; omega, ?_⟩
      conv => whnf
      have ei : (i - 1).toNat = i.toNat - 1 := by omega
      have hp0 : decide (0 < i.toNat) = true := by simp; omega
      refine cond_intro (fun hc => ?_) (fun hc => ?_)
      · have hc : decide ((gR rs i.toNat).1 ≤ (gR rs (IntKind.i64.wrap (i - 1)).toNat).1) = true := hc
        rw [hw', ei] at hc
        conv => whnf
        exact hbad hlt (by simp only [badR, hs, hc, hp0]; rfl)
      · have hc : decide ((gR rs i.toNat).1 ≤ (gR rs (IntKind.i64.wrap (i - 1)).toNat).1) = false := hc
        rw [hw', ei] at hc
        conv => whnf
        refine ⟨i + 1, ?_, ⟨by omega, by omega, hnext ?_⟩, by omega⟩
        · exact Eq.trans (b := S23b ow ps ws rs (IntKind.i64.wrap (i + 1))) rfl (by rw [hw hlt])
        · simp only [badR, hs, hc, hp0]; rfl
    · have hz : ¬ 0 < i := @of_decide_eq_false _ _ hz
      have hp0 : decide (0 < i.toNat) = false := by simp; omega
      conv => whnf
      refine ⟨i + 1, ?_, ⟨by omega, by omega, hnext ?_⟩, by omega⟩
      · exact Eq.trans (b := S23b ow ps ws rs (IntKind.i64.wrap (i + 1))) rfl (by rw [hw hlt])
      · simp only [badR, hs, hp0]; rfl
  have hge : ¬ i < rs.length := @of_decide_eq_false _ _ hge
  conv => whnf
  show 0 = validR (ow, ps, ws, rs)
  rw [v3, if_neg]
  intro hx
  obtain ⟨j, hj, hb⟩ := List.any_eq_true.1 hx
  rw [h2 j (by have := List.mem_range.1 hj; omega)] at hb
  cases hb
end
end Go.Proofs.Yteidanhfkaljaaa.Eng
set_option linter.unusedVariables false
namespace Go.Proofs.Yteidanhfkaljaaa.Eng
open Go
set_option maxRecDepth 100000
noncomputable section
abbrev Pl := Int × Int
abbrev zSt : St := (0, [], [], [])
def E24 : Env := ⟨tab, [(23, K23), (35, K35), (37, K37), (48, K48), (43, K43), (44, K44)], fun n => match n with | 11 => some ([1, 2, 4, 7, 8, 12, 13, 43, 44, 45], [], []) | _ => none⟩
def atR (ps : List Pl) (pt : Int) (n : Nat) : Int := ((ps.take n).countP (fun q => decide (q.2 < pt)) : Nat)
def nextTo (w h pt : Int) (q : Pl) : Bool := decide (q.2 < IntKind.i64.wrap (w * h)) && decide (apartR w q.2 pt = 1)
def beR (w h : Int) (ps : List Pl) (pt : Int) (n : Nat) : Bool := decide ((ps.length : Int) = 0) || (ps.take n).any (nextTo w h pt)
def joinR (s : St) (w h : Int) (p : Pl) : St × Int :=
  if validR s ≠ 0 then (zSt, validR s) else if sizedR w h p.2 ≠ 0 then (zSt, sizedR w h p.2) else if withinR (3, [p.1]) = false then (zSt, 1)
  else if s.2.1.any (fun q => decide (q.2 = p.2)) then (zSt, 3) else if 20 ≤ s.2.1.length then (zSt, 4) else if beR w h s.2.1 p.2 s.2.1.length = false then (zSt, 8)
  else ((s.1, (s.2.1.take (atR s.2.1 p.2 s.2.1.length).toNat ++ [p]) ++ s.2.1.drop (atR s.2.1 p.2 s.2.1.length).toNat, s.2.2.1, s.2.2.2), 0)
def S24 (ow : Int) (ps : List Pl) (ws : List Pa) (rs : List Ra) (w h pk pt : Int) (i : Int) (n : Int) (be : Bool) : SL :=
  ⟨[.undef, .int .i64 w, .int .i64 h, .undef, .ptr 0 0 0, .undef, .undef, .ptr 1 0 0, .ptr 2 0 0, .undef, .undef, .undef, .int .i64 n, .bool be] ++ List.replicate 29 .undef ++ [.sl plT ps, .int .i64 ps.length, .int .i64 i] ++ List.replicate 60 .undef,
   [(0, .box [.int .i64 ow, .sl plT ps, .sl paT ws, .sl raT rs]), (1, .box [.int .i64 pk, .int .i64 pt]), (2, .box [.int .i64 0, .nilsl, .nilsl, .nilsl])], 3⟩
abbrev joinIn : Ty := .fld stT (.fld I (.fld I (.one plT)))
def K24 : Fn1 := ⟨joinIn, .fld stT (.one I), fun (a : St × Int × Int × Pl) => small a.1, fun (a : St × Int × Int × Pl) => joinR a.1 a.2.1 a.2.2.1 a.2.2.2⟩
theorem k24 : FnOk Go.Proofs.Try.prog 24 K24 := by
  refine fn_ok (E := E24) (TOk.of tab_told) (AllOk.cons k23 (.cons k35 (.cons k37 (.cons k48 (.cons k43 (.cons k44 .nil)))))).at_ mix Go.Proofs.Try.func24 rfl rfl (by kernel_rfl) K24 ?_
  rintro ⟨⟨(ow : Int), (ps : List Pl), (ws : List Pa), (rs : List Ra)⟩, (w : Int), (h : Int), ⟨(pk : Int), (pt : Int)⟩⟩ hp
  have g1 : ps.length ≤ 100000 := hp _ (List.mem_cons_self ..)
  have g2 : ws.length ≤ 100000 := hp _ (List.mem_cons_of_mem _ (List.mem_cons_self ..))
  have g3 : rs.length ≤ 100000 := hp _ (List.mem_cons_of_mem _ (List.mem_cons_of_mem _ (List.mem_cons_self ..)))
  clear hp
  conv => whnf
  refine ⟨g1, ?_⟩
  conv => whnf
  refine ⟨g2, ?_⟩
  conv => whnf
  refine ⟨g3, ?_⟩
  conv => whnf
  have hpos0 : 0 ≤ (0 : Int) := by omega
  refine cond_intro (fun hv => ?_) (fun hv => ?_)
  · have hv : (!decide (validR (ow, ps, ws, rs) = 0)) = true := hv
    have hv : validR (ow, ps, ws, rs) ≠ 0 := by simpa using hv
    conv => whnf
    show (zSt, validR (ow, ps, ws, rs)) = joinR (ow, ps, ws, rs) w h (pk, pt)
    rw [joinR, if_pos hv]
  have hv : (!decide (validR (ow, ps, ws, rs) = 0)) = false := hv
  have hv : validR (ow, ps, ws, rs) = 0 := by simpa using hv
  conv => whnf
  refine cond_intro (fun hs => ?_) (fun hs => ?_)
  · have hs : (!decide (sizedR w h pt = 0)) = true := hs
    have hs : sizedR w h pt ≠ 0 := by simpa using hs
    conv => whnf
    show (zSt, sizedR w h pt) = joinR (ow, ps, ws, rs) w h (pk, pt)
    rw [joinR, if_neg (by simp [hv]), if_pos hs]
  have hs : (!decide (sizedR w h pt = 0)) = false := hs
  have hs : sizedR w h pt = 0 := by simpa using hs
  have hw0 : w ≠ 0 := by
    intro h0
    subst h0
    simp [sizedR] at hs
  conv => whnf
  refine ⟨show 1 ≤ 140737488351232 by omega, ?_⟩
  conv => whnf
  refine cond_intro (fun hk => ?_) (fun hk => ?_)
  · have hk : (!withinR (3, [pk])) = true := hk
    have hk : withinR (3, [pk]) = false := by simpa using hk
    conv => whnf
    show (zSt, 1) = joinR (ow, ps, ws, rs) w h (pk, pt)
    rw [joinR, if_neg (by simp [hv]), if_neg (by simp [hs]), if_pos hk]
  have hk : (!withinR (3, [pk])) = false := hk
  have hk : withinR (3, [pk]) = true := by simpa using hk
  have v1 : joinR (ow, ps, ws, rs) w h (pk, pt) = if ps.any (fun q => decide (q.2 = pt)) then (zSt, 3) else if 20 ≤ ps.length then (zSt, 4) else if beR w h ps pt ps.length = false then (zSt, 8)
      else ((ow, (ps.take (atR ps pt ps.length).toNat ++ [(pk, pt)]) ++ ps.drop (atR ps pt ps.length).toNat, ws, rs), 0) := by
    rw [joinR, if_neg (by simp [hv]), if_neg (by simp [hs]), if_neg (by simp [hk])]
  conv => whnf
  refine loop_rule (fun i => S24 ow ps ws rs w h pk pt i (atR ps pt i.toNat) (beR w h ps pt i.toNat)) (fun i => ((ps.length : Int) - i).toNat) (fun i => 0 ≤ i ∧ i ≤ ps.length ∧ ∀ q ∈ ps.take i.toNat, q.2 ≠ pt) ?_ 0 (by kernel_rfl) ?_ ⟨by omega, by omega, fun j hj => by simp at hj⟩
  case refine_2 =>
    have e1 : beR w h ps pt (0 : Int).toNat = decide ((ps.length : Int) = 0) := by simp [beR]
    have e2 : atR ps pt (0 : Int).toNat = 0 := by simp [atR]
    show _ = S24 ow ps ws rs w h pk pt 0 (atR ps pt (0 : Int).toNat) (beR w h ps pt (0 : Int).toNat)
    rw [e1, e2]
    rfl
  rintro i ⟨h0, h1, h2⟩
  have hw : i < ps.length → IntKind.i64.wrap (i + 1) = i + 1 := fun _ => wrap_eq (by omega) (by omega)
  conv => whnf
  refine cond_intro (fun hlt => ?_) (fun hge => ?_)
  · have hlt : i < ps.length := @of_decide_eq_true _ _ hlt
    conv => whnf
    refine ⟨h0, ?_⟩
    conv => whnf
    refine ⟨hlt, ?_⟩
    conv => whnf
    have e : gS ps i.toNat = ps[i.toNat]'(by omega) := by simp [gS, show i.toNat < ps.length by omega]
    have ht : ps.take (i.toNat + 1) = ps.take i.toNat ++ [gS ps i.toNat] := by rw [List.take_succ_eq_append_getElem (by omega), e]
    have en : (i + 1).toNat = i.toNat + 1 := by omega
    have hm : gS ps i.toNat ∈ ps := by rw [e]; exact List.getElem_mem _
    refine cond_intro (fun he => ?_) (fun he => ?_)
    · have he : (gS ps i.toNat).2 = pt := @of_decide_eq_true _ _ he
      conv => whnf
      show (zSt, 3) = joinR (ow, ps, ws, rs) w h (pk, pt)
      rw [v1, if_pos]
      exact List.any_eq_true.2 ⟨_, hm, by simp [he]⟩
    have he : ¬ (gS ps i.toNat).2 = pt := @of_decide_eq_false _ _ he
    have hn : ∀ q ∈ ps.take (i + 1).toNat, q.2 ≠ pt := by
      rw [en, ht]
      intro q hq
      rcases List.mem_append.1 hq with hq | hq
      · exact h2 q hq
      · cases List.mem_singleton.1 hq
        exact he
    have hbe : beR w h ps pt (i + 1).toNat = (beR w h ps pt i.toNat || nextTo w h pt (gS ps i.toNat)) := by
      rw [en, beR, ht, beR, List.any_append]
      simp [Bool.or_assoc]
    have hat : atR ps pt (i + 1).toNat = atR ps pt i.toNat + (if decide ((gS ps i.toNat).2 < pt) = true then 1 else 0) := by
      rw [en, atR, ht, atR, List.countP_append, List.countP_singleton]
      split <;> simp
    have hatle : atR ps pt i.toNat ≤ 100000 ∧ 0 ≤ atR ps pt i.toNat := by
      have h1 : (ps.take i.toNat).countP (fun q => decide (q.2 < pt)) ≤ (ps.take i.toNat).length := List.countP_le_length
      have h2 : (ps.take i.toNat).length ≤ ps.length := by rw [List.length_take]; omega
      unfold atR
      omega
    have hwa : IntKind.i64.wrap (atR ps pt i.toNat + 1) = atR ps pt i.toNat + 1 := wrap_eq (by omega) (by omega)
    conv => whnf
    refine cond_intro (fun hl => ?_) (fun hl => ?_)
    · have hl : decide ((gS ps i.toNat).2 < pt) = true := hl
      have hat' : atR ps pt (i + 1).toNat = IntKind.i64.wrap (atR ps pt i.toNat + 1) := by rw [hat, hl, hwa]; rfl
      conv => whnf
      refine cond_intro (fun hb => ?_) (fun hb => ?_)
      · have hb : beR w h ps pt i.toNat = true := hb
        conv => whnf
        refine ⟨i + 1, ?_, ⟨by omega, by omega, hn⟩, by omega⟩
        exact Eq.trans (b := S24 ow ps ws rs w h pk pt (IntKind.i64.wrap (i + 1)) (IntKind.i64.wrap (atR ps pt i.toNat + 1)) true) rfl (by rw [hw hlt, hat', hbe, hb]; rfl)
      · have hb : beR w h ps pt i.toNat = false := hb
        conv => whnf
        refine cond_intro (fun hm => ?_) (fun hm => ?_)
        · have hm : decide ((gS ps i.toNat).2 < IntKind.i64.wrap (w * h)) = true := hm
          conv => whnf
          refine ⟨hw0, ?_⟩
          conv => whnf
          refine ⟨i + 1, ?_, ⟨by omega, by omega, hn⟩, by omega⟩
          exact Eq.trans (b := S24 ow ps ws rs w h pk pt (IntKind.i64.wrap (i + 1)) (IntKind.i64.wrap (atR ps pt i.toNat + 1)) (decide (apartR w (gS ps i.toNat).2 pt = 1))) rfl (by rw [hw hlt, hat', hbe, hb, nextTo, hm]; rfl)
        · have hm : decide ((gS ps i.toNat).2 < IntKind.i64.wrap (w * h)) = false := hm
          conv => whnf
          refine ⟨i + 1, ?_, ⟨by omega, by omega, hn⟩, by omega⟩
          exact Eq.trans (b := S24 ow ps ws rs w h pk pt (IntKind.i64.wrap (i + 1)) (IntKind.i64.wrap (atR ps pt i.toNat + 1)) false) rfl (by rw [hw hlt, hat', hbe, hb, nextTo, hm]; rfl)
    · have hl : decide ((gS ps i.toNat).2 < pt) = false := hl
      have hat' : atR ps pt (i + 1).toNat = atR ps pt i.toNat := by rw [hat, hl]; simp
      conv => whnf
      refine cond_intro (fun hb => ?_) (fun hb => ?_)
      · have hb : beR w h ps pt i.toNat = true := hb
        conv => whnf
        refine ⟨i + 1, ?_, ⟨by omega, by omega, hn⟩, by omega⟩
        exact Eq.trans (b := S24 ow ps ws rs w h pk pt (IntKind.i64.wrap (i + 1)) (atR ps pt i.toNat) true) rfl (by rw [hw hlt, hat', hbe, hb]; rfl)
      · have hb : beR w h ps pt i.toNat = false := hb
        conv => whnf
        refine cond_intro (fun hm => ?_) (fun hm => ?_)
        · have hm : decide ((gS ps i.toNat).2 < IntKind.i64.wrap (w * h)) = true := hm
          conv => whnf
          refine ⟨hw0, ?_⟩
          conv => whnf
          refine ⟨i + 1, ?_, ⟨by omega, by omega, hn⟩, by omega⟩
          exact Eq.trans (b := S24 ow ps ws rs w h pk pt (IntKind.i64.wrap (i + 1)) (atR ps pt i.toNat) (decide (apartR w (gS ps i.toNat).2 pt = 1))) rfl (by rw [hw hlt, hat', hbe, hb, nextTo, hm]; rfl)
        · have hm : decide ((gS ps i.toNat).2 < IntKind.i64.wrap (w * h)) = false := hm
          conv => whnf
          refine ⟨i + 1, ?_, ⟨by omega, by omega, hn⟩, by omega⟩
          exact Eq.trans (b := S24 ow ps ws rs w h pk pt (IntKind.i64.wrap (i + 1)) (atR ps pt i.toNat) false) rfl (by rw [hw hlt, hat', hbe, hb, nextTo, hm]; rfl)
  have hge : ¬ i < ps.length := @of_decide_eq_false _ _ hge
  have hin : i.toNat = ps.length := by omega
  have v2 : joinR (ow, ps, ws, rs) w h (pk, pt) = if 20 ≤ ps.length then (zSt, 4) else if beR w h ps pt ps.length = false then (zSt, 8)
      else ((ow, (ps.take (atR ps pt ps.length).toNat ++ [(pk, pt)]) ++ ps.drop (atR ps pt ps.length).toNat, ws, rs), 0) := by
    rw [v1, if_neg]
    intro hx
    obtain ⟨q, hq, hb⟩ := List.any_eq_true.1 hx
    exact h2 q (by rw [hin, List.take_length]; exact hq) (by simpa using hb)
  rw [hin]
  conv => whnf
  refine cond_intro (fun hf => ?_) (fun hf => ?_)
  · have hf : 20 ≤ (ps.length : Int) := @of_decide_eq_true _ _ hf
    conv => whnf
    show (zSt, 4) = joinR (ow, ps, ws, rs) w h (pk, pt)
    rw [v2, if_pos (by omega)]
  have hf : ¬ 20 ≤ (ps.length : Int) := @of_decide_eq_false _ _ hf
  conv => whnf
  refine cond_intro (fun hb => ?_) (fun hb => ?_)
  · have hb : (!beR w h ps pt ps.length) = true := hb
    conv => whnf
    show (zSt, 8) = joinR (ow, ps, ws, rs) w h (pk, pt)
    rw [v2, if_neg (by omega), if_pos (by simpa using hb)]
  have hb : (!beR w h ps pt ps.length) = false := hb
  conv => whnf
  refine ⟨g1, ?_⟩
  conv => whnf
  refine ⟨g2, ?_⟩
  conv => whnf
  refine ⟨g3, ?_⟩
  have hat0 : 0 ≤ atR ps pt ps.length := by unfold atR; omega
  have hat1 : atR ps pt ps.length ≤ ps.length := by
    have h1 : (ps.take ps.length).countP (fun q => decide (q.2 < pt)) ≤ (ps.take ps.length).length := List.countP_le_length
    rw [List.length_take] at h1
    unfold atR
    omega
  have ht1 : (ps.take (atR ps pt ps.length).toNat).length ≤ 21 := by rw [List.length_take]; omega
  have ht2 : (ps.drop (atR ps pt ps.length).toNat).length ≤ 21 := by rw [List.length_drop]; omega
  conv => whnf
  refine ⟨hat0, ?_⟩
  conv => whnf
  refine ⟨hat1, ?_⟩
  conv => whnf
  refine ⟨show (ps.take (atR ps pt ps.length).toNat).length ≤ 100000 by omega, ?_⟩
  conv => whnf
  refine ⟨show ((ps.take (atR ps pt ps.length).toNat).length + 1) * 16 ≤ 70368744177664 by omega, ?_⟩
  conv => whnf
  refine ⟨show ((ps.take (atR ps pt ps.length).toNat).length + 1) ≤ 70368744177664 by omega, ?_⟩
  conv => whnf
  refine ⟨hat0, ?_⟩
  conv => whnf
  refine ⟨hat1, ?_⟩
  conv => whnf
  have ht3 : (ps.take (atR ps pt ps.length).toNat ++ [(pk, pt)]).length ≤ 22 := by rw [List.length_append]; simp only [List.length_singleton]; omega
  refine ⟨show ((ps.take (atR ps pt ps.length).toNat ++ [(pk, pt)]).length + (ps.drop (atR ps pt ps.length).toNat).length) * 16 ≤ 70368744177664 by omega, ?_⟩
  conv => whnf
  refine ⟨show ((ps.take (atR ps pt ps.length).toNat ++ [(pk, pt)]).length + (ps.drop (atR ps pt ps.length).toNat).length) ≤ 70368744177664 by omega, ?_⟩
  conv => whnf
  show ((ow, (ps.take (atR ps pt ps.length).toNat ++ [(pk, pt)]) ++ ps.drop (atR ps pt ps.length).toNat, ws, rs), (0 : Int)) = joinR (ow, ps, ws, rs) w h (pk, pt)
  rw [v2, if_neg (by omega), if_neg (by simpa using hb)]
end
end Go.Proofs.Yteidanhfkaljaaa.Eng
set_option linter.unusedVariables false
namespace Go.Proofs.Yteidanhfkaljaaa.Eng
open Go
set_option maxRecDepth 100000
noncomputable section
def K89 : Fn1 := ⟨.fld I (.one I), .one .bool, fun _ => [], fun (a : Int × Int) => decide (a.1 < 0) || decide (a.2 < a.1)⟩
theorem k89 : FnOk Go.Proofs.Try.prog 89 K89 := by
  refine fn_ok (E := E0) (TOk.of tab_told) noK mix Go.Proofs.Try.func89 rfl rfl (by kernel_rfl) K89 ?_
  rintro ⟨(n : Int), (m : Int)⟩ hp
  clear hp
  conv => whnf
  refine cond_intro (fun h => ?_) (fun h => ?_)
  · have h : decide (n < 0) = true := h
    conv => whnf
    show true = (decide (n < 0) || decide (m < n))
    rw [h]; rfl
  · have h : decide (n < 0) = false := h
    conv => whnf
    show _ = (decide (n < 0) || decide (m < n))
    rw [h]; rfl
def K82 : Fn1 := ⟨.fld I (.one I), .one I, fun _ => [], fun (a : Int × Int) => if a.1 < a.2 then IntKind.i64.wrap (a.2 - a.1) else IntKind.i64.wrap (a.1 - a.2)⟩
theorem k82 : FnOk Go.Proofs.Try.prog 82 K82 := by
  refine fn_ok (E := E0) (TOk.of tab_told) noK mix Go.Proofs.Try.func82 rfl rfl (by kernel_rfl) K82 ?_
  rintro ⟨(n : Int), (m : Int)⟩ hp
  clear hp
  conv => whnf
  refine cond_intro (fun h => ?_) (fun h => ?_)
  · have h : n < m := @of_decide_eq_true _ _ h
    conv => whnf
    show _ = if n < m then IntKind.i64.wrap (m - n) else IntKind.i64.wrap (n - m)
    rw [if_pos h]
  · have h : ¬ n < m := @of_decide_eq_false _ _ h
    conv => whnf
    show _ = if n < m then IntKind.i64.wrap (m - n) else IntKind.i64.wrap (n - m)
    rw [if_neg h]
def K81 : Fn1 := ⟨.one I, .one .bool, fun _ => [], fun (n : Int) => decide (4 ≤ n) && decide (n ≤ 32)⟩
theorem k81 : FnOk Go.Proofs.Try.prog 81 K81 := by
  refine fn_ok (E := E0) (TOk.of tab_told) noK mix Go.Proofs.Try.func81 rfl rfl (by kernel_rfl) K81 ?_
  rintro (n : Int) hp
  clear hp
  conv => whnf
  refine cond_intro (fun h => ?_) (fun h => ?_)
  · have h : decide (4 ≤ n) = true := h
    conv => whnf
    show _ = (decide (4 ≤ n) && decide (n ≤ 32))
    rw [h]; rfl
  · have h : decide (4 ≤ n) = false := h
    conv => whnf
    show _ = (decide (4 ≤ n) && decide (n ≤ 32))
    rw [h]; rfl
def eqI (l m : List Int) : Bool := decide (l = m)
def E15 : Env := ⟨tab, [], fun n => match n with | 4 => some ([0, 1, 5], [], []) | _ => none⟩
def K15 : Fn1 := ⟨.fld (.sl I) (.one (.sl I)), .one .bool, fun (a : List Int × List Int) => [a.1.length ≤ 100000], fun (a : List Int × List Int) => eqI a.1 a.2⟩
def S15 (l m : List Int) (i : Int) : SL := ⟨[.sl I l, .sl I m, .undef, .undef, .undef, .int .i64 i] ++ List.replicate 20 .undef, [], 0⟩
theorem k15 : FnOk Go.Proofs.Try.prog 15 K15 := by
  refine fn_ok (E := E15) (TOk.of tab_told) (fun f k h => by cases h) mix Go.Proofs.Try.func15 rfl rfl (by kernel_rfl) K15 ?_
  rintro ⟨(l : List Int), (m : List Int)⟩ hp
  have hl : l.length ≤ 100000 := hp _ (List.mem_cons_self ..)
  clear hp
  conv => whnf
  refine cond_intro (fun h => ?_) (fun h => ?_)
  · have h : (!decide ((l.length : Int) = (m.length : Int))) = true := h
    have h : ¬ (l.length : Int) = (m.length : Int) := by simpa using h
    conv => whnf
    show false = eqI l m
    symm
    simp only [eqI, decide_eq_false_iff_not]
    intro e; subst e; exact h rfl
  have h : (!decide ((l.length : Int) = (m.length : Int))) = false := h
  have h : (l.length : Int) = (m.length : Int) := by simpa using h
  have h : l.length = m.length := by omega
  conv => whnf
  refine loop_rule (S15 l m) (fun i => ((l.length : Int) - i).toNat) (fun i => 0 ≤ i ∧ i ≤ l.length ∧ l.take i.toNat = m.take i.toNat) ?_ 0 (by kernel_rfl) ?_ ⟨by omega, by omega, by simp⟩
  case refine_2 => rfl
  rintro i ⟨h0, h1, h2⟩
  conv => whnf
  refine cond_intro (fun hlt => ?_) (fun hge => ?_)
  · have hlt : i < l.length := @of_decide_eq_true _ _ hlt
    have hlm : i < m.length := by omega
    have e : gI l i.toNat = l[i.toNat]'(by omega) := gI_eq _
    have e' : gI m i.toNat = m[i.toNat]'(by omega) := gI_eq _
    have ht : l.take (i.toNat + 1) = l.take i.toNat ++ [gI l i.toNat] := by rw [List.take_succ_eq_append_getElem (by omega), e]
    have ht' : m.take (i.toNat + 1) = m.take i.toNat ++ [gI m i.toNat] := by rw [List.take_succ_eq_append_getElem (by omega), e']
    conv => whnf
    refine ⟨h0, ?_⟩
    conv => whnf
    refine ⟨hlt, ?_⟩
    conv => whnf
    refine ⟨h0, ?_⟩
    conv => whnf
    refine ⟨hlm, ?_⟩
    conv => whnf
    refine cond_intro (fun hd => ?_) (fun hd => ?_)
    · have hd : (!decide (gI l i.toNat = gI m i.toNat)) = true := hd
      have hd : ¬ gI l i.toNat = gI m i.toNat := by simpa using hd
      conv => whnf
      show false = eqI l m
      symm
      simp only [eqI, decide_eq_false_iff_not]
      intro e; subst e; exact hd rfl
    · have hd : (!decide (gI l i.toNat = gI m i.toNat)) = false := hd
      have hd : gI l i.toNat = gI m i.toNat := by simpa using hd
      conv => whnf
      have hw : IntKind.i64.wrap (i + 1) = i + 1 := wrap_eq (by omega) (by omega)
      refine ⟨i + 1, ?_, ⟨by omega, by omega, ?_⟩, by omega⟩
      · exact Eq.trans (b := S15 l m (IntKind.i64.wrap (i + 1))) rfl (by rw [hw])
      · rw [show (i + 1).toNat = i.toNat + 1 by omega, ht, ht', h2, hd]
  · have hge : ¬ i < l.length := @of_decide_eq_false _ _ hge
    conv => whnf
    show true = eqI l m
    symm
    simp only [eqI, decide_eq_true_eq]
    rw [List.take_of_length_le (by omega), List.take_of_length_le (by omega)] at h2
    exact h2
end
end Go.Proofs.Yteidanhfkaljaaa.Eng
set_option linter.unusedVariables false
namespace Go.Proofs.Yteidanhfkaljaaa.Eng
open Go
set_option maxRecDepth 100000
noncomputable section
def E62 : Env := ⟨tab, [(81, K81)], ann0⟩
def K62 : Fn1 := ⟨.fld I (.fld I (.one I)), .one I, fun _ => [], fun (a : Int × Int × Int) => sizedR a.1 a.2.1 a.2.2⟩
theorem k62 : FnOk Go.Proofs.Try.prog 62 K62 := by
  refine fn_ok (E := E62) (TOk.of tab_told) (AllOk.cons k81 .nil).at_ mix Go.Proofs.Try.func62 rfl rfl (by kernel_rfl) K62 ?_
  rintro ⟨(w : Int), (v : Int), (t : Int)⟩ hp
  clear hp
  iterate 6 (all_goals (conv => whnf); all_goals (try (refine cond_intro (fun h => ?_) (fun h => ?_))))
  all_goals (simp only [K81, Bool.not_eq_true', Bool.not_eq_false', cond_false, decide_eq_true_eq, decide_eq_false_iff_not, Bool.and_eq_true, Bool.and_eq_false_iff] at *)
  all_goals (show _ = sizedR w v t; unfold sizedR)
  all_goals (split <;> (try split) <;> (first | rfl | omega))
def reachK (k : Int) : Int := if k = 0 then 3 else if k = 1 then 2 else if k = 2 then 4 else 5
def K64 : Fn1 := ⟨.one I, .one I, fun _ => [], fun (k : Int) => reachK k⟩
theorem k64 : FnOk Go.Proofs.Try.prog 64 K64 := by
  refine fn_ok (E := E0) (TOk.of tab_told) noK mix Go.Proofs.Try.func64 rfl rfl (by kernel_rfl) K64 ?_
  rintro (k : Int) hp
  clear hp
  iterate 6 (all_goals (conv => whnf); all_goals (try (refine cond_intro (fun h => ?_) (fun h => ?_))))
  all_goals (simp only [decide_eq_true_eq, decide_eq_false_iff_not] at *)
  all_goals (show _ = reachK k; unfold reachK)
  all_goals (split <;> (try split) <;> (try split) <;> (first | rfl | omega))
theorem find4 (a b c d : Int) : ([a, b, c, d].find? (fun n => decide (n ≠ 0))).getD 0 = if a ≠ 0 then a else if b ≠ 0 then b else if c ≠ 0 then c else d := by
  by_cases h1 : a = 0 <;> by_cases h2 : b = 0 <;> by_cases h3 : c = 0 <;> by_cases h4 : d = 0 <;> simp [h1, h2, h3, h4]
theorem cmpR_lt (a b : Int) : cmpR a b < 0 ↔ a < b := by unfold cmpR; split <;> (try split) <;> omega
theorem cmpR_eq (a b : Int) : cmpR a b = 0 ↔ a = b := by unfold cmpR; split <;> (try split) <;> omega
def K88 : Fn1 := ⟨.fld paT (.one paT), .one .bool, fun _ => [], fun (a : Pa × Pa) => decide (compareR a.1 a.2 < 0)⟩
theorem k88 : FnOk Go.Proofs.Try.prog 88 K88 := by
  refine fn_ok (E := E0) (TOk.of tab_told) noK mix Go.Proofs.Try.func88 rfl rfl (by kernel_rfl) K88 ?_
  rintro ⟨⟨(k : Int), (f : Int), (t : Int), (g : Int), (c : Int), (s : Int)⟩, ⟨(k' : Int), (f' : Int), (t' : Int), (g' : Int), (c' : Int), (s' : Int)⟩⟩ hp
  clear hp
  iterate 6 (all_goals (conv => whnf); all_goals (try (refine cond_intro (fun h => ?_) (fun h => ?_))))
  all_goals (simp only [Bool.not_eq_true', Bool.not_eq_false', decide_eq_true_eq, decide_eq_false_iff_not] at *)
  all_goals (show _ = decide (compareR (k, f, t, g, c, s) (k', f', t', g', c', s') < 0); rw [decide_eq_decide, compareR, find4])
  all_goals (simp [cmpR_lt, cmpR_eq, *])
end
end Go.Proofs.Yteidanhfkaljaaa.Eng
set_option linter.unusedVariables false
namespace Go.Proofs.Yteidanhfkaljaaa.Eng
open Go
set_option maxRecDepth 100000
noncomputable section
def E73 : Env := ⟨tab, [(88, K88), (89, K89)], fun n => match n with | 4 => some ([0, 3], [], []) | _ => none⟩
def K73 : Fn1 := ⟨.one (.sl paT), .one I, fun (l : List Pa) => [l.length ≤ 100000], fun (l : List Pa) => cargoR l⟩
def S73 (l : List Pa) (i : Int) : SL := ⟨[.sl paT l, .undef, .undef, .int .i64 i] ++ List.replicate 61 .undef, [], 0⟩
theorem badP_iff (l : List Pa) (i : Nat) : badP l i = true ↔ ((gP l i).2.2.2.2.1 < 1 ∨ 1000000 < (gP l i).2.2.2.2.1 ∨ (gP l i).2.2.2.1 < 0 ∨ 255 < (gP l i).2.2.2.1 ∨ (gP l i).2.2.2.2.2 < 0 ∨ 1000000000000 < (gP l i).2.2.2.2.2
    ∨ (gP l i).1 < 0 ∨ 1000000 < (gP l i).1 ∨ (gP l i).2.1 < 0 ∨ 1000000 < (gP l i).2.1 ∨ (gP l i).2.2.1 < 0 ∨ 1000000 < (gP l i).2.2.1) ∨ (0 < i ∧ 0 ≤ compareR (gP l (i - 1)) (gP l i)) := by
  simp only [badP, soundR, in0, Bool.or_eq_true, Bool.not_eq_true', Bool.and_eq_false_iff, Bool.and_eq_true, decide_eq_true_eq, decide_eq_false_iff_not]
  omega
theorem k73 : FnOk Go.Proofs.Try.prog 73 K73 := by
  refine fn_ok (E := E73) (TOk.of tab_told) (AllOk.cons k88 (.cons k89 .nil)).at_ mix Go.Proofs.Try.func73 rfl rfl (by kernel_rfl) K73 ?_
  rintro (l : List Pa) hp
  have hl : l.length ≤ 100000 := hp _ (List.mem_cons_self ..)
  clear hp
  conv => whnf
  refine cond_intro (fun hlarge => ?_) (fun hsmall => ?_)
  · have hlarge : 200 < (l.length : Int) := @of_decide_eq_true _ _ hlarge
    conv => whnf
    show 4 = cargoR l
    rw [cargoR, if_pos (by omega)]
  have hsmall : ¬ 200 < (l.length : Int) := @of_decide_eq_false _ _ hsmall
  conv => whnf
  refine loop_rule (S73 l) (fun i => ((l.length : Int) - i).toNat) (fun i => 0 ≤ i ∧ i ≤ l.length ∧ ∀ j : Nat, (j : Int) < i → badP l j = false) ?_ 0 (by kernel_rfl) ?_ ⟨by omega, by omega, fun j hj => by omega⟩
  case refine_2 => rfl
  rintro i ⟨h0, h1, h2⟩
  conv => whnf
  refine cond_intro (fun hlt => ?_) (fun hge => ?_)
  · have hlt : i < l.length := @of_decide_eq_true _ _ hlt
    have hbad : badP l i.toNat = true → 1 = cargoR l := by
      intro hb
      rw [cargoR, if_neg (by omega), if_pos]
      exact List.any_eq_true.2 ⟨i.toNat, List.mem_range.2 (by omega), hb⟩
    have hw : IntKind.i64.wrap (i + 1) = i + 1 := wrap_eq (by omega) (by omega)
    have hw' : IntKind.i64.wrap (i - 1) = i - 1 := wrap_eq (by omega) (by omega)
    have hnext : badP l i.toNat = false → ∀ j : Nat, (j : Int) < i + 1 → badP l j = false := by
      intro hb j hj
      by_cases hji : (j : Int) < i
      · exact h2 j hji
      · rw [show j = i.toNat by omega]; exact hb
    conv => whnf
    refine ⟨h0, ?_⟩
    conv => whnf
    refine ⟨hlt, ?_⟩
    conv => whnf
    refine cond_intro (fun hpos => ?_) (fun hz => ?_)
    · have hpos : 0 < i := @of_decide_eq_true _ _ hpos
      conv => whnf
      refine ⟨show 0 ≤ IntKind.i64.wrap (i - 1) by rw [hw']; omega, ?_⟩
      conv => whnf
      refine ⟨show IntKind.i64.wrap (i - 1) < (l.length : Int) by rw [hw']; omega, ?_⟩
      have ei : (i - 1).toNat = i.toNat - 1 := by omega
      conv => whnf
      refine cond_intro (fun q0 => ?_) (fun q0 => ?_)
      · have q0 : (!decide (compareR (gP l (IntKind.i64.wrap (i - 1)).toNat) (gP l i.toNat) < 0)) = true := q0
        rw [hw', ei] at q0
        conv => whnf
        exact hbad (by rw [badP_iff]; simp only [Bool.not_eq_true', decide_eq_false_iff_not] at q0; omega)
      have q0 : (!decide (compareR (gP l (IntKind.i64.wrap (i - 1)).toNat) (gP l i.toNat) < 0)) = false := q0
      rw [hw', ei] at q0
      conv => whnf
      refine cond_intro (fun q1 => ?_) (fun q1 => ?_)
      · have q1 : decide ((gP l i.toNat).2.2.2.2.1 < 1) = true := q1
        conv => whnf
        exact hbad (by rw [badP_iff]; simp only [Bool.or_eq_true, decide_eq_true_eq, Bool.not_eq_true', decide_eq_false_iff_not] at q1; omega)
      have q1 : decide ((gP l i.toNat).2.2.2.2.1 < 1) = false := q1
      conv => whnf
      refine cond_intro (fun q2 => ?_) (fun q2 => ?_)
      · have q2 : decide (1000000 < (gP l i.toNat).2.2.2.2.1) = true := q2
        conv => whnf
        exact hbad (by rw [badP_iff]; simp only [Bool.or_eq_true, decide_eq_true_eq, Bool.not_eq_true', decide_eq_false_iff_not] at q2; omega)
      have q2 : decide (1000000 < (gP l i.toNat).2.2.2.2.1) = false := q2
      conv => whnf
      refine cond_intro (fun q3 => ?_) (fun q3 => ?_)
      · have q3 : (decide ((gP l i.toNat).2.2.2.1 < 0) || decide (255 < (gP l i.toNat).2.2.2.1)) = true := q3
        conv => whnf
        exact hbad (by rw [badP_iff]; simp only [Bool.or_eq_true, decide_eq_true_eq, Bool.not_eq_true', decide_eq_false_iff_not] at q3; omega)
      have q3 : (decide ((gP l i.toNat).2.2.2.1 < 0) || decide (255 < (gP l i.toNat).2.2.2.1)) = false := q3
      conv => whnf
      refine cond_intro (fun q4 => ?_) (fun q4 => ?_)
      · have q4 : (decide ((gP l i.toNat).2.2.2.2.2 < 0) || decide (1000000000000 < (gP l i.toNat).2.2.2.2.2)) = true := q4
        conv => whnf
        exact hbad (by rw [badP_iff]; simp only [Bool.or_eq_true, decide_eq_true_eq, Bool.not_eq_true', decide_eq_false_iff_not] at q4; omega)
      have q4 : (decide ((gP l i.toNat).2.2.2.2.2 < 0) || decide (1000000000000 < (gP l i.toNat).2.2.2.2.2)) = false := q4
      conv => whnf
      refine cond_intro (fun q5 => ?_) (fun q5 => ?_)
      · have q5 : (decide ((gP l i.toNat).1 < 0) || decide (1000000 < (gP l i.toNat).1)) = true := q5
        conv => whnf
        exact hbad (by rw [badP_iff]; simp only [Bool.or_eq_true, decide_eq_true_eq, Bool.not_eq_true', decide_eq_false_iff_not] at q5; omega)
      have q5 : (decide ((gP l i.toNat).1 < 0) || decide (1000000 < (gP l i.toNat).1)) = false := q5
      conv => whnf
      refine cond_intro (fun q6 => ?_) (fun q6 => ?_)
      · have q6 : (decide ((gP l i.toNat).2.1 < 0) || decide (1000000 < (gP l i.toNat).2.1)) = true := q6
        conv => whnf
        exact hbad (by rw [badP_iff]; simp only [Bool.or_eq_true, decide_eq_true_eq, Bool.not_eq_true', decide_eq_false_iff_not] at q6; omega)
      have q6 : (decide ((gP l i.toNat).2.1 < 0) || decide (1000000 < (gP l i.toNat).2.1)) = false := q6
      conv => whnf
      refine cond_intro (fun q7 => ?_) (fun q7 => ?_)
      · have q7 : (decide ((gP l i.toNat).2.2.1 < 0) || decide (1000000 < (gP l i.toNat).2.2.1)) = true := q7
        conv => whnf
        exact hbad (by rw [badP_iff]; simp only [Bool.or_eq_true, decide_eq_true_eq, Bool.not_eq_true', decide_eq_false_iff_not] at q7; omega)
      have q7 : (decide ((gP l i.toNat).2.2.1 < 0) || decide (1000000 < (gP l i.toNat).2.2.1)) = false := q7
      conv => whnf
      refine ⟨i + 1, ?_, ⟨by omega, by omega, hnext ?_⟩, by omega⟩
      · exact Eq.trans (b := S73 l (IntKind.i64.wrap (i + 1))) rfl (by rw [hw])
      · rw [← Bool.not_eq_true, badP_iff]
        simp only [Bool.or_eq_false_iff, decide_eq_false_iff_not, Bool.not_eq_false', decide_eq_true_eq] at *
        omega
    · have hz : ¬ 0 < i := @of_decide_eq_false _ _ hz
      conv => whnf
      refine cond_intro (fun q1 => ?_) (fun q1 => ?_)
      · have q1 : decide ((gP l i.toNat).2.2.2.2.1 < 1) = true := q1
        conv => whnf
        exact hbad (by rw [badP_iff]; simp only [Bool.or_eq_true, decide_eq_true_eq, Bool.not_eq_true', decide_eq_false_iff_not] at q1; omega)
      have q1 : decide ((gP l i.toNat).2.2.2.2.1 < 1) = false := q1
      conv => whnf
      refine cond_intro (fun q2 => ?_) (fun q2 => ?_)
      · have q2 : decide (1000000 < (gP l i.toNat).2.2.2.2.1) = true := q2
        conv => whnf
        exact hbad (by rw [badP_iff]; simp only [Bool.or_eq_true, decide_eq_true_eq, Bool.not_eq_true', decide_eq_false_iff_not] at q2; omega)
      have q2 : decide (1000000 < (gP l i.toNat).2.2.2.2.1) = false := q2
      conv => whnf
      refine cond_intro (fun q3 => ?_) (fun q3 => ?_)
      · have q3 : (decide ((gP l i.toNat).2.2.2.1 < 0) || decide (255 < (gP l i.toNat).2.2.2.1)) = true := q3
        conv => whnf
        exact hbad (by rw [badP_iff]; simp only [Bool.or_eq_true, decide_eq_true_eq, Bool.not_eq_true', decide_eq_false_iff_not] at q3; omega)
      have q3 : (decide ((gP l i.toNat).2.2.2.1 < 0) || decide (255 < (gP l i.toNat).2.2.2.1)) = false := q3
      conv => whnf
      refine cond_intro (fun q4 => ?_) (fun q4 => ?_)
      · have q4 : (decide ((gP l i.toNat).2.2.2.2.2 < 0) || decide (1000000000000 < (gP l i.toNat).2.2.2.2.2)) = true := q4
        conv => whnf
        exact hbad (by rw [badP_iff]; simp only [Bool.or_eq_true, decide_eq_true_eq, Bool.not_eq_true', decide_eq_false_iff_not] at q4; omega)
      have q4 : (decide ((gP l i.toNat).2.2.2.2.2 < 0) || decide (1000000000000 < (gP l i.toNat).2.2.2.2.2)) = false := q4
      conv => whnf
      refine cond_intro (fun q5 => ?_) (fun q5 => ?_)
      · have q5 : (decide ((gP l i.toNat).1 < 0) || decide (1000000 < (gP l i.toNat).1)) = true := q5
        conv => whnf
        exact hbad (by rw [badP_iff]; simp only [Bool.or_eq_true, decide_eq_true_eq, Bool.not_eq_true', decide_eq_false_iff_not] at q5; omega)
      have q5 : (decide ((gP l i.toNat).1 < 0) || decide (1000000 < (gP l i.toNat).1)) = false := q5
      conv => whnf
      refine cond_intro (fun q6 => ?_) (fun q6 => ?_)
      · have q6 : (decide ((gP l i.toNat).2.1 < 0) || decide (1000000 < (gP l i.toNat).2.1)) = true := q6
        conv => whnf
        exact hbad (by rw [badP_iff]; simp only [Bool.or_eq_true, decide_eq_true_eq, Bool.not_eq_true', decide_eq_false_iff_not] at q6; omega)
      have q6 : (decide ((gP l i.toNat).2.1 < 0) || decide (1000000 < (gP l i.toNat).2.1)) = false := q6
      conv => whnf
      refine cond_intro (fun q7 => ?_) (fun q7 => ?_)
      · have q7 : (decide ((gP l i.toNat).2.2.1 < 0) || decide (1000000 < (gP l i.toNat).2.2.1)) = true := q7
        conv => whnf
        exact hbad (by rw [badP_iff]; simp only [Bool.or_eq_true, decide_eq_true_eq, Bool.not_eq_true', decide_eq_false_iff_not] at q7; omega)
      have q7 : (decide ((gP l i.toNat).2.2.1 < 0) || decide (1000000 < (gP l i.toNat).2.2.1)) = false := q7
      conv => whnf
      refine ⟨i + 1, ?_, ⟨by omega, by omega, hnext ?_⟩, by omega⟩
      · exact Eq.trans (b := S73 l (IntKind.i64.wrap (i + 1))) rfl (by rw [hw])
      · rw [← Bool.not_eq_true, badP_iff]
        simp only [Bool.or_eq_false_iff, decide_eq_false_iff_not, Bool.not_eq_false', decide_eq_true_eq] at *
        omega
  · have hge : ¬ i < l.length := @of_decide_eq_false _ _ hge
    conv => whnf
    show 0 = cargoR l
    rw [cargoR, if_neg (by omega), if_neg]
    intro hx
    obtain ⟨j, hj, hb⟩ := List.any_eq_true.1 hx
    rw [h2 j (by have := List.mem_range.1 hj; omega)] at hb
    cases hb
end
end Go.Proofs.Yteidanhfkaljaaa.Eng
set_option linter.unusedVariables false
namespace Go.Proofs.Yteidanhfkaljaaa.Eng
open Go
set_option maxRecDepth 100000
noncomputable section
def E72 : Env := ⟨tab, [(36, K36)], ann0⟩
def K72 : Fn1 := ⟨.one raT, .one .bool, fun _ => [], fun (r : Ra) => ratedR r⟩
theorem ratedR_eq (c s d v y : Int) : ratedR (c, s, d, v, y) = ((decide (0 ≤ c) && decide (c ≤ 15)) && (decide (0 ≤ s) && decide (s ≤ 255)) && (decide (0 ≤ d) && decide (d ≤ 255)) && (decide (0 ≤ v) && decide (v ≤ 255)) && (decide (0 ≤ y) && decide (y ≤ 255))) := by
  simp [ratedR, withinR, Bool.and_assoc]
theorem k72 : FnOk Go.Proofs.Try.prog 72 K72 := by
  refine fn_ok (E := E72) (TOk.of tab_told) (AllOk.cons k36 .nil).at_ mix Go.Proofs.Try.func72 rfl rfl (by kernel_rfl) K72 ?_
  rintro ⟨(c : Int), (s : Int), (d : Int), (v : Int), (y : Int)⟩ hp
  clear hp
  iterate 6 (all_goals (conv => whnf); all_goals (try (refine cond_intro (fun h => ?_) (fun h => ?_))))
  all_goals (simp only [K36, cond_true] at *)
  all_goals (show _ = ratedR (c, s, d, v, y); rw [ratedR_eq])
  all_goals (simp [*])
def unitsR (l : List Pa) : Int := l.foldl (fun (n : Int) p => IntKind.i64.wrap (n + p.2.2.2.2.1)) 0
def K45 : Fn1 := ⟨.one (.sl paT), .one I, fun (l : List Pa) => [l.length ≤ 100000], fun (l : List Pa) => unitsR l⟩
def E45 : Env := ⟨tab, [], fun n => match n with | 3 => some ([3, 6, 7, 8], [], []) | _ => none⟩
def S45 (l : List Pa) (n i : Int) : SL := ⟨[.undef, .undef, .undef, .int .i64 n, .undef, .undef, .sl paT l, .int .i64 l.length, .int .i64 i] ++ List.replicate 9 .undef, [], 0⟩
theorem k45 : FnOk Go.Proofs.Try.prog 45 K45 := by
  refine fn_ok (E := E45) (TOk.of tab_told) (fun f k h => by cases h) mix Go.Proofs.Try.func45 rfl rfl (by kernel_rfl) K45 ?_
  rintro (l : List Pa) hp
  have hl : l.length ≤ 100000 := hp _ (List.mem_cons_self ..)
  clear hp
  conv => whnf
  refine loop_rule (fun i => S45 l (unitsR (l.take i.toNat)) i) (fun i => ((l.length : Int) - i).toNat) (fun i => 0 ≤ i ∧ i ≤ l.length) ?_ 0 (by kernel_rfl) ?_ ⟨by omega, by omega⟩
  case refine_2 => rfl
  rintro i ⟨h0, h1⟩
  conv => whnf
  refine cond_intro (fun hlt => ?_) (fun hge => ?_)
  · have hlt : i < l.length := @of_decide_eq_true _ _ hlt
    have e : gP l i.toNat = l[i.toNat]'(by omega) := gP_eq _
    have ht : l.take (i.toNat + 1) = l.take i.toNat ++ [gP l i.toNat] := by rw [List.take_succ_eq_append_getElem (by omega), e]
    have hw : IntKind.i64.wrap (i + 1) = i + 1 := wrap_eq (by omega) (by omega)
    have en : (i + 1).toNat = i.toNat + 1 := by omega
    conv => whnf
    refine ⟨h0, ?_⟩
    conv => whnf
    refine ⟨hlt, ?_⟩
    conv => whnf
    refine ⟨i + 1, ?_, ⟨by omega, by omega⟩, by omega⟩
    exact Eq.trans (b := S45 l (IntKind.i64.wrap (unitsR (l.take i.toNat) + (gP l i.toNat).2.2.2.2.1)) (IntKind.i64.wrap (i + 1))) rfl (by rw [hw, en, ht]; unfold unitsR; rw [List.foldl_append]; rfl)
  · have hge : ¬ i < l.length := @of_decide_eq_false _ _ hge
    conv => whnf
    show unitsR (l.take i.toNat) = unitsR l
    rw [List.take_of_length_le (by omega)]
def K25 : Fn1 := ⟨.one (.sl paT), .one I, fun (l : List Pa) => [l.length ≤ 100000], fun (l : List Pa) => unitsR l⟩
def E25 : Env := ⟨tab, [], fun n => match n with | 3 => some ([3, 6, 7, 8], [], []) | _ => none⟩
theorem k25 : FnOk Go.Proofs.Try.prog 25 K25 := by
  refine fn_ok (E := E25) (TOk.of tab_told) (fun f k h => by cases h) mix Go.Proofs.Try.func25 rfl rfl (by kernel_rfl) K25 ?_
  rintro (l : List Pa) hp
  have hl : l.length ≤ 100000 := hp _ (List.mem_cons_self ..)
  clear hp
  conv => whnf
  refine loop_rule (fun i => S45 l (unitsR (l.take i.toNat)) i) (fun i => ((l.length : Int) - i).toNat) (fun i => 0 ≤ i ∧ i ≤ l.length) ?_ 0 (by kernel_rfl) ?_ ⟨by omega, by omega⟩
  case refine_2 => rfl
  rintro i ⟨h0, h1⟩
  conv => whnf
  refine cond_intro (fun hlt => ?_) (fun hge => ?_)
  · have hlt : i < l.length := @of_decide_eq_true _ _ hlt
    have e : gP l i.toNat = l[i.toNat]'(by omega) := gP_eq _
    have ht : l.take (i.toNat + 1) = l.take i.toNat ++ [gP l i.toNat] := by rw [List.take_succ_eq_append_getElem (by omega), e]
    have hw : IntKind.i64.wrap (i + 1) = i + 1 := wrap_eq (by omega) (by omega)
    have en : (i + 1).toNat = i.toNat + 1 := by omega
    conv => whnf
    refine ⟨h0, ?_⟩
    conv => whnf
    refine ⟨hlt, ?_⟩
    conv => whnf
    refine ⟨i + 1, ?_, ⟨by omega, by omega⟩, by omega⟩
    exact Eq.trans (b := S45 l (IntKind.i64.wrap (unitsR (l.take i.toNat) + (gP l i.toNat).2.2.2.2.1)) (IntKind.i64.wrap (i + 1))) rfl (by rw [hw, en, ht]; unfold unitsR; rw [List.foldl_append]; rfl)
  · have hge : ¬ i < l.length := @of_decide_eq_false _ _ hge
    conv => whnf
    show unitsR (l.take i.toNat) = unitsR l
    rw [List.take_of_length_le (by omega)]
end
end Go.Proofs.Yteidanhfkaljaaa.Eng
set_option linter.unusedVariables false
namespace Go.Proofs.Yteidanhfkaljaaa.Eng
open Go
set_option maxRecDepth 100000
noncomputable section
def E63 : Env := ⟨tab, [(82, K82)], ann0⟩
def gap (a b : Int) : Int := if a < b then IntKind.i64.wrap (b - a) else IntKind.i64.wrap (a - b)
def farR (w a b : Int) : Int := max2 (gap (Int.tmod a w) (Int.tmod b w)) (gap (quo64 a w) (quo64 b w))
def K63 : Fn1 := ⟨.fld I (.fld I (.one I)), .one I, fun (a : Int × Int × Int) => [a.1 ≠ 0], fun (a : Int × Int × Int) => farR a.1 a.2.1 a.2.2⟩
theorem k63 : FnOk Go.Proofs.Try.prog 63 K63 := by
  refine fn_ok (E := E63) (TOk.of tab_told) (AllOk.cons k82 .nil).at_ mix Go.Proofs.Try.func63 rfl rfl (by kernel_rfl) K63 ?_
  rintro ⟨(w : Int), (a : Int), (b : Int)⟩ hp
  have hw : w ≠ 0 := hp _ (List.mem_cons_self ..)
  clear hp
  iterate 8 (all_goals (conv => whnf); all_goals (try (refine ⟨hw, ?_⟩)))
  rfl
end
end Go.Proofs.Yteidanhfkaljaaa.Eng
set_option linter.unusedVariables false
namespace Go.Proofs.Yteidanhfkaljaaa.Eng
open Go
set_option maxRecDepth 100000
noncomputable section
def E38 : Env := ⟨tab, [(48, K48), (61, K61)], fun n => match n with | 2 => some ([1, 2, 3, 12, 13, 14], [], []) | _ => none⟩
def nearP (w h t : Int) (p : Pl) : Bool := decide (p.2 < IntKind.i64.wrap (w * h)) && decide (apartR w p.2 t ≤ reachR p.1)
abbrev covIn : Ty := .fld stT (.fld I (.fld I (.one I)))
def K38 : Fn1 := ⟨covIn, .one .bool, fun (a : St × Int × Int × Int) => [a.1.2.1.length ≤ 100000, a.2.1 ≠ 0, ∀ p ∈ a.1.2.1, 0 ≤ p.1 ∧ p.1 ≤ 3], fun (a : St × Int × Int × Int) => a.1.2.1.any (nearP a.2.1 a.2.2.1 a.2.2.2)⟩
def S38 (ps : List Pl) (w h t i : Int) : SL := ⟨[.undef, .int .i64 w, .int .i64 h, .int .i64 t] ++ List.replicate 8 .undef ++ [.sl plT ps, .int .i64 ps.length, .int .i64 i] ++ List.replicate 21 .undef, [], 0⟩
theorem k38 : FnOk Go.Proofs.Try.prog 38 K38 := by
  refine fn_ok (E := E38) (TOk.of tab_told) (AllOk.cons k48 (.cons k61 .nil)).at_ mix Go.Proofs.Try.func38 rfl rfl (by kernel_rfl) K38 ?_
  rintro ⟨⟨(ow : Int), (ps : List Pl), (ws : List Pa), (rs : List Ra)⟩, (w : Int), (h : Int), (t : Int)⟩ hp
  have hl : ps.length ≤ 100000 := hp _ (List.mem_cons_self ..)
  have hw0 : w ≠ 0 := hp _ (List.mem_cons_of_mem _ (List.mem_cons_self ..))
  have hk : ∀ p ∈ ps, 0 ≤ p.1 ∧ p.1 ≤ 3 := hp _ (List.mem_cons_of_mem _ (List.mem_cons_of_mem _ (List.mem_cons_self ..)))
  clear hp
  conv => whnf
  refine loop_rule (S38 ps w h t) (fun i => ((ps.length : Int) - i).toNat) (fun i => 0 ≤ i ∧ i ≤ ps.length ∧ (ps.take i.toNat).any (nearP w h t) = false) ?_ 0 (by kernel_rfl) ?_ ⟨by omega, by omega, by simp⟩
  case refine_2 => rfl
  rintro i ⟨h0, h1, h2⟩
  conv => whnf
  refine cond_intro (fun hlt => ?_) (fun hge => ?_)
  · have hlt : i < ps.length := @of_decide_eq_true _ _ hlt
    have e : gS ps i.toNat = ps[i.toNat]'(by omega) := by simp [gS, show i.toNat < ps.length by omega]
    have hm : gS ps i.toNat ∈ ps := by rw [e]; exact List.getElem_mem _
    have ht : ps.take (i.toNat + 1) = ps.take i.toNat ++ [gS ps i.toNat] := by rw [List.take_succ_eq_append_getElem (by omega), e]
    have hw : IntKind.i64.wrap (i + 1) = i + 1 := wrap_eq (by omega) (by omega)
    have en : (i + 1).toNat = i.toNat + 1 := by omega
    conv => whnf
    refine ⟨h0, ?_⟩
    conv => whnf
    refine ⟨hlt, ?_⟩
    conv => whnf
    refine cond_intro (fun hq => ?_) (fun hq => ?_)
    · have hq : decide ((gS ps i.toNat).2 < IntKind.i64.wrap (w * h)) = true := hq
      conv => whnf
      refine ⟨hw0, ?_⟩
      conv => whnf
      refine ⟨(hk _ hm).1, ?_⟩
      conv => whnf
      refine ⟨(hk _ hm).2, ?_⟩
      conv => whnf
      refine cond_intro (fun hr => ?_) (fun hr => ?_)
      · have hr : decide (apartR w (gS ps i.toNat).2 t ≤ reachR (gS ps i.toNat).1) = true := hr
        conv => whnf
        exact (List.any_eq_true.2 ⟨_, hm, by rw [nearP, hq, hr]; rfl⟩).symm
      · have hr : decide (apartR w (gS ps i.toNat).2 t ≤ reachR (gS ps i.toNat).1) = false := hr
        conv => whnf
        refine ⟨i + 1, ?_, ⟨by omega, by omega, ?_⟩, by omega⟩
        · exact Eq.trans (b := S38 ps w h t (IntKind.i64.wrap (i + 1))) rfl (by rw [hw])
        · rw [en, ht, List.any_append, h2, List.any_cons, nearP, hq, hr]; rfl
    · have hq : decide ((gS ps i.toNat).2 < IntKind.i64.wrap (w * h)) = false := hq
      conv => whnf
      refine ⟨i + 1, ?_, ⟨by omega, by omega, ?_⟩, by omega⟩
      · exact Eq.trans (b := S38 ps w h t (IntKind.i64.wrap (i + 1))) rfl (by rw [hw])
      · rw [en, ht, List.any_append, h2, List.any_cons, nearP, hq]; rfl
  · have hge : ¬ i < ps.length := @of_decide_eq_false _ _ hge
    conv => whnf
    rw [List.take_of_length_le (by omega)] at h2
    exact h2.symm
end
end Go.Proofs.Yteidanhfkaljaaa.Eng
set_option linter.unusedVariables false
namespace Go.Proofs.Yteidanhfkaljaaa.Eng
open Go
set_option maxRecDepth 100000
noncomputable section
def E40 : Env := ⟨tab, [(63, K63), (64, K64)], fun n => match n with | 2 => some ([1, 2, 3, 12, 13, 14], [], []) | _ => none⟩
def overP (w h t : Int) (p : Pl) : Bool := decide (p.2 < IntKind.i64.wrap (w * h)) && decide (farR w p.2 t ≤ reachK p.1)
def K40 : Fn1 := ⟨covIn, .one .bool, fun (a : St × Int × Int × Int) => [a.1.2.1.length ≤ 100000, a.2.1 ≠ 0], fun (a : St × Int × Int × Int) => a.1.2.1.any (overP a.2.1 a.2.2.1 a.2.2.2)⟩
theorem k40 : FnOk Go.Proofs.Try.prog 40 K40 := by
  refine fn_ok (E := E40) (TOk.of tab_told) (AllOk.cons k63 (.cons k64 .nil)).at_ mix Go.Proofs.Try.func40 rfl rfl (by kernel_rfl) K40 ?_
  rintro ⟨⟨(ow : Int), (ps : List Pl), (ws : List Pa), (rs : List Ra)⟩, (w : Int), (h : Int), (t : Int)⟩ hp
  have hl : ps.length ≤ 100000 := hp _ (List.mem_cons_self ..)
  have hw0 : w ≠ 0 := hp _ (List.mem_cons_of_mem _ (List.mem_cons_self ..))
  clear hp
  conv => whnf
  refine loop_rule (S38 ps w h t) (fun i => ((ps.length : Int) - i).toNat) (fun i => 0 ≤ i ∧ i ≤ ps.length ∧ (ps.take i.toNat).any (overP w h t) = false) ?_ 0 (by kernel_rfl) ?_ ⟨by omega, by omega, by simp⟩
  case refine_2 => rfl
  rintro i ⟨h0, h1, h2⟩
  conv => whnf
  refine cond_intro (fun hlt => ?_) (fun hge => ?_)
  · have hlt : i < ps.length := @of_decide_eq_true _ _ hlt
    have e : gS ps i.toNat = ps[i.toNat]'(by omega) := by simp [gS, show i.toNat < ps.length by omega]
    have hm : gS ps i.toNat ∈ ps := by rw [e]; exact List.getElem_mem _
    have ht : ps.take (i.toNat + 1) = ps.take i.toNat ++ [gS ps i.toNat] := by rw [List.take_succ_eq_append_getElem (by omega), e]
    have hw : IntKind.i64.wrap (i + 1) = i + 1 := wrap_eq (by omega) (by omega)
    have en : (i + 1).toNat = i.toNat + 1 := by omega
    conv => whnf
    refine ⟨h0, ?_⟩
    conv => whnf
    refine ⟨hlt, ?_⟩
    conv => whnf
    refine cond_intro (fun hq => ?_) (fun hq => ?_)
    · have hq : decide ((gS ps i.toNat).2 < IntKind.i64.wrap (w * h)) = true := hq
      conv => whnf
      refine ⟨hw0, ?_⟩
      conv => whnf
      refine cond_intro (fun hr => ?_) (fun hr => ?_)
      · have hr : decide (farR w (gS ps i.toNat).2 t ≤ reachK (gS ps i.toNat).1) = true := hr
        conv => whnf
        exact (List.any_eq_true.2 ⟨_, hm, by rw [overP, hq, hr]; rfl⟩).symm
      · have hr : decide (farR w (gS ps i.toNat).2 t ≤ reachK (gS ps i.toNat).1) = false := hr
        conv => whnf
        refine ⟨i + 1, ?_, ⟨by omega, by omega, ?_⟩, by omega⟩
        · exact Eq.trans (b := S38 ps w h t (IntKind.i64.wrap (i + 1))) rfl (by rw [hw])
        · rw [en, ht, List.any_append, h2, List.any_cons, overP, hq, hr]; rfl
    · have hq : decide ((gS ps i.toNat).2 < IntKind.i64.wrap (w * h)) = false := hq
      conv => whnf
      refine ⟨i + 1, ?_, ⟨by omega, by omega, ?_⟩, by omega⟩
      · exact Eq.trans (b := S38 ps w h t (IntKind.i64.wrap (i + 1))) rfl (by rw [hw])
      · rw [en, ht, List.any_append, h2, List.any_cons, overP, hq]; rfl
  · have hge : ¬ i < ps.length := @of_decide_eq_false _ _ hge
    conv => whnf
    rw [List.take_of_length_le (by omega)] at h2
    exact h2.symm
end
end Go.Proofs.Yteidanhfkaljaaa.Eng
set_option linter.unusedVariables false
namespace Go.Proofs.Yteidanhfkaljaaa.Eng
open Go
set_option maxRecDepth 100000
noncomputable section
theorem valid_kinds {s : St} (h : validR s = 0) : ∀ p ∈ s.2.1, 0 ≤ p.1 ∧ p.1 ≤ 3 := by
  have hb : (List.range s.2.1.length).any (badS s.2.1) = false := by
    cases hb : (List.range s.2.1.length).any (badS s.2.1) with
    | false => rfl
    | true =>
      simp only [validR, hb, if_true] at h
      split at h
      · omega
      · split at h <;> omega
  intro p hp
  obtain ⟨i, hi, e⟩ := List.mem_iff_getElem.1 hp
  have h1 := List.any_eq_false.1 hb i (List.mem_range.2 hi)
  have e2 : gS s.2.1 i = p := by simp [gS, hi, e]
  simp only [badS, e2, withinR, List.all_cons, List.all_nil] at h1
  simp at h1
  omega
def coversR (s : St) (w h t : Int) : Bool × Int :=
  if validR s ≠ 0 then (false, validR s) else if sizedR w h t ≠ 0 then (false, sizedR w h t) else (s.2.1.any (nearP w h t), 0)
def E17 : Env := ⟨tab, [(23, K23), (37, K37), (38, K38)], ann0⟩
def K17 : Fn1 := ⟨covIn, .fld .bool (.one I), fun (a : St × Int × Int × Int) => small a.1, fun (a : St × Int × Int × Int) => coversR a.1 a.2.1 a.2.2.1 a.2.2.2⟩
theorem k17 : FnOk Go.Proofs.Try.prog 17 K17 := by
  refine fn_ok (E := E17) (TOk.of tab_told) (AllOk.cons k23 (.cons k37 (.cons k38 .nil))).at_ mix Go.Proofs.Try.func17 rfl rfl (by kernel_rfl) K17 ?_
  rintro ⟨⟨(ow : Int), (ps : List Pl), (ws : List Pa), (rs : List Ra)⟩, (w : Int), (h : Int), (t : Int)⟩ hp
  have g1 : ps.length ≤ 100000 := hp _ (List.mem_cons_self ..)
  have g2 : ws.length ≤ 100000 := hp _ (List.mem_cons_of_mem _ (List.mem_cons_self ..))
  have g3 : rs.length ≤ 100000 := hp _ (List.mem_cons_of_mem _ (List.mem_cons_of_mem _ (List.mem_cons_self ..)))
  clear hp
  conv => whnf
  refine ⟨g1, ?_⟩
  conv => whnf
  refine ⟨g2, ?_⟩
  conv => whnf
  refine ⟨g3, ?_⟩
  conv => whnf
  refine cond_intro (fun hv => ?_) (fun hv => ?_)
  · have hv : (!decide (validR (ow, ps, ws, rs) = 0)) = true := hv
    have hv : validR (ow, ps, ws, rs) ≠ 0 := by simpa using hv
    conv => whnf
    show (false, validR (ow, ps, ws, rs)) = coversR (ow, ps, ws, rs) w h t
    rw [coversR, if_pos hv]
  have hv : (!decide (validR (ow, ps, ws, rs) = 0)) = false := hv
  have hv : validR (ow, ps, ws, rs) = 0 := by simpa using hv
  conv => whnf
  refine cond_intro (fun hs => ?_) (fun hs => ?_)
  · have hs : (!decide (sizedR w h t = 0)) = true := hs
    have hs : sizedR w h t ≠ 0 := by simpa using hs
    conv => whnf
    show (false, sizedR w h t) = coversR (ow, ps, ws, rs) w h t
    rw [coversR, if_neg (by simp [hv]), if_pos hs]
  have hs : (!decide (sizedR w h t = 0)) = false := hs
  have hs : sizedR w h t = 0 := by simpa using hs
  have hw0 : w ≠ 0 := by
    intro h0
    subst h0
    simp [sizedR] at hs
  conv => whnf
  refine ⟨g1, ?_⟩
  conv => whnf
  refine ⟨hw0, ?_⟩
  conv => whnf
  refine ⟨valid_kinds hv, ?_⟩
  conv => whnf
  show (ps.any (nearP w h t), 0) = coversR (ow, ps, ws, rs) w h t
  rw [coversR, if_neg (by simp [hv]), if_neg (by simp [hs])]
end
end Go.Proofs.Yteidanhfkaljaaa.Eng
set_option linter.unusedVariables false
namespace Go.Proofs.Yteidanhfkaljaaa.Eng
open Go
set_option maxRecDepth 100000
noncomputable section
theorem withinR1 (m n : Int) : withinR (m, [n]) = (decide (0 ≤ n) && decide (n ≤ m)) := by simp [withinR]
def E52 : Env := ⟨tab, [(36, K36), (72, K72), (73, K73)], fun n => match n with | 6 => some ([1, 16, 17, 18], [], []) | 12 => some ([1, 51, 52, 53], [], []) | _ => none⟩
def K52 : Fn1 := ⟨.one stT, .one I, fun (s : St) => small s, fun (s : St) => validR s⟩
def S52a (ow : Int) (ps : List (Int × Int)) (ws : List Pa) (rs : List Ra) (i : Int) : SL := ⟨[.undef, .ptr 0 0 0] ++ List.replicate 14 .undef ++ [.sl plT ps, .int .i64 ps.length, .int .i64 i] ++ List.replicate 63 .undef, B23 ow ps ws rs, 1⟩
def S52b (ow : Int) (ps : List (Int × Int)) (ws : List Pa) (rs : List Ra) (i : Int) : SL := ⟨[.undef, .ptr 0 0 0] ++ List.replicate 49 .undef ++ [.sl raT rs, .int .i64 rs.length, .int .i64 i] ++ List.replicate 28 .undef, B23 ow ps ws rs, 1⟩
theorem k52 : FnOk Go.Proofs.Try.prog 52 K52 := by
  refine fn_ok (E := E52) (TOk.of tab_told) (AllOk.cons k36 (.cons k72 (.cons k73 .nil))).at_ mix Go.Proofs.Try.func52 rfl rfl (by kernel_rfl) K52 ?_
  rintro ⟨(ow : Int), (ps : List (Int × Int)), (ws : List Pa), (rs : List Ra)⟩ hp
  have g1 : ps.length ≤ 100000 := hp _ (List.mem_cons_self ..)
  have g2 : ws.length ≤ 100000 := hp _ (List.mem_cons_of_mem _ (List.mem_cons_self ..))
  have g3 : rs.length ≤ 100000 := hp _ (List.mem_cons_of_mem _ (List.mem_cons_of_mem _ (List.mem_cons_self ..)))
  clear hp
  conv => whnf
  refine cond_intro (fun hlarge => ?_) (fun hsmall => ?_)
  · have hlarge : 20 < (ps.length : Int) := @of_decide_eq_true _ _ hlarge
    conv => whnf
    show 4 = validR (ow, ps, ws, rs)
    rw [validR, if_pos (by show 20 < ps.length; omega)]
  have hsmall : ¬ 20 < (ps.length : Int) := @of_decide_eq_false _ _ hsmall
  conv => whnf
  refine cond_intro (fun h => ?_) (fun ha => ?_)
  · have h : (!(decide (-1 ≤ ow) && decide (ow ≤ 11))) = true := h
    have h : ow < -1 ∨ 12 ≤ ow := by
      simp only [Bool.not_eq_true', Bool.and_eq_false_iff, decide_eq_false_iff_not] at h
      omega
    conv => whnf
    show 1 = validR (ow, ps, ws, rs)
    rw [validR, if_neg (by show ¬ 20 < ps.length; omega), if_pos (by show ow < -1 ∨ 12 ≤ ow ∨ cargoR ws ≠ 0; omega)]
  have ha : (!(decide (-1 ≤ ow) && decide (ow ≤ 11))) = false := ha
  have ha : ¬ (ow < -1 ∨ 12 ≤ ow) := by
    simp only [Bool.not_eq_false', Bool.and_eq_true, decide_eq_true_eq] at ha
    omega
  have v2 : validR (ow, ps, ws, rs) = if (List.range ps.length).any (badS ps) then 1 else if (List.range rs.length).any (badR rs) then 1 else if cargoR ws ≠ 0 then 1 else 0 := by
    rw [validR, if_neg (by show ¬ 20 < ps.length; omega)]
    by_cases hc : cargoR ws = 0
    · rw [if_neg (by show ¬ (ow < -1 ∨ 12 ≤ ow ∨ cargoR ws ≠ 0); omega)]
      have e0 : (if cargoR ws ≠ 0 then (1 : Int) else 0) = 0 := if_neg (by simp [hc])
      rw [e0]
    · rw [if_pos (by show ow < -1 ∨ 12 ≤ ow ∨ cargoR ws ≠ 0; omega), if_pos hc]
      split <;> (try split) <;> rfl
  conv => whnf
  refine loop_rule (S52a ow ps ws rs) (fun i => ((ps.length : Int) - i).toNat) (fun i => 0 ≤ i ∧ i ≤ ps.length ∧ ∀ j : Nat, (j : Int) < i → badS ps j = false) ?_ 0 (by kernel_rfl) ?_ ⟨by omega, by omega, fun j hj => by omega⟩
  case refine_2 => rfl
  rintro i ⟨h0, h1, h2⟩
  have hbad : i < ps.length → badS ps i.toNat = true → 1 = validR (ow, ps, ws, rs) := by
    intro hlt hb
    rw [v2, if_pos]
    exact List.any_eq_true.2 ⟨i.toNat, List.mem_range.2 (by omega), hb⟩
  have hw : i < ps.length → IntKind.i64.wrap (i + 1) = i + 1 := fun _ => wrap_eq (by omega) (by omega)
  have hw' : IntKind.i64.wrap (i - 1) = i - 1 := wrap_eq (by omega) (by omega)
  conv => whnf
  refine cond_intro (fun hlt => ?_) (fun hge => ?_)
  · have hlt : i < ps.length := @of_decide_eq_true _ _ hlt
    have hnext : badS ps i.toNat = false → ∀ j : Nat, (j : Int) < i + 1 → badS ps j = false := by
      intro hb j hj
      by_cases hji : (j : Int) < i
      · exact h2 j hji
      · rw [show j = i.toNat by omega]; exact hb
    conv => whnf
    refine ⟨h0, ?_⟩
    conv => whnf
    refine ⟨hlt, ?_⟩
    conv => whnf
    refine cond_intro (fun hs => ?_) (fun hs => ?_)
    · have hs : (!withinR (3, [(gS ps i.toNat).1])) = true := by rw [withinR1]; exact hs
      conv => whnf
      exact hbad hlt (by simp only [badS, hs, Bool.true_or])
    have hs : (!withinR (3, [(gS ps i.toNat).1])) = false := by rw [withinR1]; exact hs
    conv => whnf
    refine cond_intro (fun ht => ?_) (fun ht => ?_)
    · have ht : (!withinR (1000000, [(gS ps i.toNat).2])) = true := by rw [withinR1]; exact ht
      conv => whnf
      exact hbad hlt (by simp only [badS, ht, Bool.true_or, Bool.or_true])
    have ht : (!withinR (1000000, [(gS ps i.toNat).2])) = false := by rw [withinR1]; exact ht
    conv => whnf
    refine cond_intro (fun hpos => ?_) (fun hz => ?_)
    · have hpos : 0 < i := @of_decide_eq_true _ _ hpos
      conv => whnf
      refine ⟨show 0 ≤ IntKind.i64.wrap (i - 1) by rw [hw']; omega, ?_⟩
      conv => whnf
      refine ⟨show IntKind.i64.wrap (i - 1) < (ps.length : Int) by rw [hw']; omega, ?_⟩
      conv => whnf
      have ei : (i - 1).toNat = i.toNat - 1 := by omega
      have hp0 : decide (0 < i.toNat) = true := by simp; omega
      refine cond_intro (fun hc => ?_) (fun hc => ?_)
      · have hc : decide ((gS ps i.toNat).2 ≤ (gS ps (IntKind.i64.wrap (i - 1)).toNat).2) = true := hc
        rw [hw', ei] at hc
        conv => whnf
        exact hbad hlt (by simp only [badS, hs, ht, hc, hp0]; rfl)
      · have hc : decide ((gS ps i.toNat).2 ≤ (gS ps (IntKind.i64.wrap (i - 1)).toNat).2) = false := hc
        rw [hw', ei] at hc
        conv => whnf
        refine ⟨i + 1, ?_, ⟨by omega, by omega, hnext ?_⟩, by omega⟩
        · exact Eq.trans (b := S52a ow ps ws rs (IntKind.i64.wrap (i + 1))) rfl (by rw [hw hlt])
        · simp only [badS, hs, ht, hc, hp0]; rfl
    · have hz : ¬ 0 < i := @of_decide_eq_false _ _ hz
      have hp0 : decide (0 < i.toNat) = false := by simp; omega
      conv => whnf
      refine ⟨i + 1, ?_, ⟨by omega, by omega, hnext ?_⟩, by omega⟩
      · exact Eq.trans (b := S52a ow ps ws rs (IntKind.i64.wrap (i + 1))) rfl (by rw [hw hlt])
      · simp only [badS, hs, ht, hp0]; rfl
  have hge : ¬ i < ps.length := @of_decide_eq_false _ _ hge
  have v3 : validR (ow, ps, ws, rs) = if (List.range rs.length).any (badR rs) then 1 else if cargoR ws ≠ 0 then 1 else 0 := by
    rw [v2, if_neg]
    intro hx
    obtain ⟨j, hj, hb⟩ := List.any_eq_true.1 hx
    rw [h2 j (by have := List.mem_range.1 hj; omega)] at hb
    cases hb
  clear hbad hw hw' h2 h1 h0
  conv => whnf
  refine loop_rule (S52b ow ps ws rs) (fun i => ((rs.length : Int) - i).toNat) (fun i => 0 ≤ i ∧ i ≤ rs.length ∧ ∀ j : Nat, (j : Int) < i → badR rs j = false) ?_ 0 (by kernel_rfl) ?_ ⟨by omega, by omega, fun j hj => by omega⟩
  case refine_2 => rfl
  rintro i ⟨h0, h1, h2⟩
  have hbad : i < rs.length → badR rs i.toNat = true → 1 = validR (ow, ps, ws, rs) := by
    intro hlt hb
    rw [v3, if_pos]
    exact List.any_eq_true.2 ⟨i.toNat, List.mem_range.2 (by omega), hb⟩
  have hw : i < rs.length → IntKind.i64.wrap (i + 1) = i + 1 := fun _ => wrap_eq (by omega) (by omega)
  have hw' : IntKind.i64.wrap (i - 1) = i - 1 := wrap_eq (by omega) (by omega)
  conv => whnf
  refine cond_intro (fun hlt => ?_) (fun hge => ?_)
  · have hlt : i < rs.length := @of_decide_eq_true _ _ hlt
    have hnext : badR rs i.toNat = false → ∀ j : Nat, (j : Int) < i + 1 → badR rs j = false := by
      intro hb j hj
      by_cases hji : (j : Int) < i
      · exact h2 j hji
      · rw [show j = i.toNat by omega]; exact hb
    conv => whnf
    refine ⟨h0, ?_⟩
    conv => whnf
    refine ⟨hlt, ?_⟩
    conv => whnf
    refine cond_intro (fun hs => ?_) (fun hs => ?_)
    · have hs : (!ratedR (gR rs i.toNat)) = true := hs
      conv => whnf
      exact hbad hlt (by simp only [badR, hs, Bool.true_or])
    have hs : (!ratedR (gR rs i.toNat)) = false := hs
    conv => whnf
    refine cond_intro (fun hpos => ?_) (fun hz => ?_)
    · have hpos : 0 < i := @of_decide_eq_true _ _ hpos
      conv => whnf
      refine ⟨show 0 ≤ IntKind.i64.wrap (i - 1) by rw [hw']; omega, ?_⟩
      conv => whnf
      refine ⟨show IntKind.i64.wrap (i - 1) < (rs.length : Int) by rw [hw']; omega, ?_⟩
      conv => whnf
      have ei : (i - 1).toNat = i.toNat - 1 := by omega
      have hp0 : decide (0 < i.toNat) = true := by simp; omega
      refine cond_intro (fun hc => ?_) (fun hc => ?_)
      · have hc : decide ((gR rs i.toNat).1 ≤ (gR rs (IntKind.i64.wrap (i - 1)).toNat).1) = true := hc
        rw [hw', ei] at hc
        conv => whnf
        exact hbad hlt (by simp only [badR, hs, hc, hp0]; rfl)
      · have hc : decide ((gR rs i.toNat).1 ≤ (gR rs (IntKind.i64.wrap (i - 1)).toNat).1) = false := hc
        rw [hw', ei] at hc
        conv => whnf
        refine ⟨i + 1, ?_, ⟨by omega, by omega, hnext ?_⟩, by omega⟩
        · exact Eq.trans (b := S52b ow ps ws rs (IntKind.i64.wrap (i + 1))) rfl (by rw [hw hlt])
        · simp only [badR, hs, hc, hp0]; rfl
    · have hz : ¬ 0 < i := @of_decide_eq_false _ _ hz
      have hp0 : decide (0 < i.toNat) = false := by simp; omega
      conv => whnf
      refine ⟨i + 1, ?_, ⟨by omega, by omega, hnext ?_⟩, by omega⟩
      · exact Eq.trans (b := S52b ow ps ws rs (IntKind.i64.wrap (i + 1))) rfl (by rw [hw hlt])
      · simp only [badR, hs, hp0]; rfl
  have hge : ¬ i < rs.length := @of_decide_eq_false _ _ hge
  have v4 : validR (ow, ps, ws, rs) = if cargoR ws ≠ 0 then 1 else 0 := by
    rw [v3, if_neg]
    intro hx
    obtain ⟨j, hj, hb⟩ := List.any_eq_true.1 hx
    rw [h2 j (by have := List.mem_range.1 hj; omega)] at hb
    cases hb
  conv => whnf
  refine ⟨g2, ?_⟩
  conv => whnf
  refine cond_intro (fun hc => ?_) (fun hc => ?_)
  · have hc : (!decide (cargoR ws = 0)) = true := hc
    have hc : cargoR ws ≠ 0 := by simpa using hc
    conv => whnf
    show 1 = validR (ow, ps, ws, rs)
    rw [v4, if_pos hc]
  · have hc : (!decide (cargoR ws = 0)) = false := hc
    have hc : cargoR ws = 0 := by simpa using hc
    conv => whnf
    show 0 = validR (ow, ps, ws, rs)
    rw [v4, if_neg (by simp [hc])]
end
end Go.Proofs.Yteidanhfkaljaaa.Eng
set_option linter.unusedVariables false
namespace Go.Proofs.Yteidanhfkaljaaa.Eng
open Go
set_option maxRecDepth 100000
noncomputable section
def askedR (s : St) (w h t : Int) : Int := if validR s ≠ 0 then validR s else sizedR w h t
def E39 : Env := ⟨tab, [(52, K52), (62, K62)], ann0⟩
def K39 : Fn1 := ⟨covIn, .one I, fun (a : St × Int × Int × Int) => small a.1, fun (a : St × Int × Int × Int) => askedR a.1 a.2.1 a.2.2.1 a.2.2.2⟩
theorem k39 : FnOk Go.Proofs.Try.prog 39 K39 := by
  refine fn_ok (E := E39) (TOk.of tab_told) (AllOk.cons k52 (.cons k62 .nil)).at_ mix Go.Proofs.Try.func39 rfl rfl (by kernel_rfl) K39 ?_
  rintro ⟨⟨(ow : Int), (ps : List Pl), (ws : List Pa), (rs : List Ra)⟩, (w : Int), (h : Int), (t : Int)⟩ hp
  have g1 : ps.length ≤ 100000 := hp _ (List.mem_cons_self ..)
  have g2 : ws.length ≤ 100000 := hp _ (List.mem_cons_of_mem _ (List.mem_cons_self ..))
  have g3 : rs.length ≤ 100000 := hp _ (List.mem_cons_of_mem _ (List.mem_cons_of_mem _ (List.mem_cons_self ..)))
  clear hp
  conv => whnf
  refine ⟨g1, ?_⟩
  conv => whnf
  refine ⟨g2, ?_⟩
  conv => whnf
  refine ⟨g3, ?_⟩
  conv => whnf
  refine cond_intro (fun hv => ?_) (fun hv => ?_)
  · have hv : (!decide (validR (ow, ps, ws, rs) = 0)) = true := hv
    have hv : validR (ow, ps, ws, rs) ≠ 0 := by simpa using hv
    conv => whnf
    show validR (ow, ps, ws, rs) = askedR (ow, ps, ws, rs) w h t
    rw [askedR, if_pos hv]
  have hv : (!decide (validR (ow, ps, ws, rs) = 0)) = false := hv
  have hv : validR (ow, ps, ws, rs) = 0 := by simpa using hv
  conv => whnf
  show sizedR w h t = askedR (ow, ps, ws, rs) w h t
  rw [askedR, if_neg (by simp [hv])]
def coversRefR (s : St) (w h t : Int) : Bool × Int := if askedR s w h t ≠ 0 then (false, askedR s w h t) else (s.2.1.any (overP w h t), 0)
def E18 : Env := ⟨tab, [(39, K39), (40, K40)], ann0⟩
def K18 : Fn1 := ⟨covIn, .fld .bool (.one I), fun (a : St × Int × Int × Int) => small a.1, fun (a : St × Int × Int × Int) => coversRefR a.1 a.2.1 a.2.2.1 a.2.2.2⟩
theorem k18 : FnOk Go.Proofs.Try.prog 18 K18 := by
  refine fn_ok (E := E18) (TOk.of tab_told) (AllOk.cons k39 (.cons k40 .nil)).at_ mix Go.Proofs.Try.func18 rfl rfl (by kernel_rfl) K18 ?_
  rintro ⟨⟨(ow : Int), (ps : List Pl), (ws : List Pa), (rs : List Ra)⟩, (w : Int), (h : Int), (t : Int)⟩ hp
  have g1 : ps.length ≤ 100000 := hp _ (List.mem_cons_self ..)
  have g2 : ws.length ≤ 100000 := hp _ (List.mem_cons_of_mem _ (List.mem_cons_self ..))
  have g3 : rs.length ≤ 100000 := hp _ (List.mem_cons_of_mem _ (List.mem_cons_of_mem _ (List.mem_cons_self ..)))
  clear hp
  conv => whnf
  refine ⟨g1, ?_⟩
  conv => whnf
  refine ⟨g2, ?_⟩
  conv => whnf
  refine ⟨g3, ?_⟩
  conv => whnf
  refine cond_intro (fun hv => ?_) (fun hv => ?_)
  · have hv : (!decide (askedR (ow, ps, ws, rs) w h t = 0)) = true := hv
    have hv : askedR (ow, ps, ws, rs) w h t ≠ 0 := by simpa using hv
    conv => whnf
    show (false, askedR (ow, ps, ws, rs) w h t) = coversRefR (ow, ps, ws, rs) w h t
    rw [coversRefR, if_pos hv]
  have hv : (!decide (askedR (ow, ps, ws, rs) w h t = 0)) = false := hv
  have hv : askedR (ow, ps, ws, rs) w h t = 0 := by simpa using hv
  have hw0 : w ≠ 0 := by
    intro h0
    subst h0
    unfold askedR at hv
    split at hv
    · contradiction
    · simp [sizedR] at hv
  conv => whnf
  refine ⟨g1, ?_⟩
  conv => whnf
  refine ⟨hw0, ?_⟩
  conv => whnf
  show (ps.any (overP w h t), 0) = coversRefR (ow, ps, ws, rs) w h t
  rw [coversRefR, if_neg (by simp [hv])]
end
end Go.Proofs.Yteidanhfkaljaaa.Eng
set_option linter.unusedVariables false
namespace Go.Proofs.Yteidanhfkaljaaa.Eng
open Go
set_option maxRecDepth 100000
noncomputable section
def largeR (s : St) : Bool := decide (2000 < s.2.1.length) || decide (2000 < s.2.2.1.length) || decide (2000 < s.2.2.2.length)
def K16 : Fn1 := ⟨.one stT, .one .bool, fun _ => [], fun (s : St) => largeR s⟩
theorem k16 : FnOk Go.Proofs.Try.prog 16 K16 := by
  refine fn_ok (E := E0) (TOk.of tab_told) noK mix Go.Proofs.Try.func16 rfl rfl (by kernel_rfl) K16 ?_
  rintro ⟨(ow : Int), (ps : List (Int × Int)), (ws : List Pa), (rs : List Ra)⟩ hp
  clear hp
  have e : largeR (ow, ps, ws, rs) = (decide (2000 < (ps.length : Int)) || decide (2000 < (ws.length : Int)) || decide (2000 < (rs.length : Int))) := by
    have c : ∀ n : Nat, (2000 < n) = (2000 < (n : Int)) := fun n => propext (by omega)
    simp only [largeR, c]
  conv => whnf
  refine cond_intro (fun h1 => ?_) (fun h1 => ?_)
  · have h1 : decide (2000 < (ps.length : Int)) = true := h1
    conv => whnf
    show true = largeR (ow, ps, ws, rs)
    rw [e, h1]; rfl
  have h1 : decide (2000 < (ps.length : Int)) = false := h1
  conv => whnf
  refine cond_intro (fun h2 => ?_) (fun h2 => ?_)
  · have h2 : decide (2000 < (ws.length : Int)) = true := h2
    conv => whnf
    show true = largeR (ow, ps, ws, rs)
    rw [e, h1, h2]; rfl
  have h2 : decide (2000 < (ws.length : Int)) = false := h2
  conv => whnf
  show decide (2000 < (rs.length : Int)) = largeR (ow, ps, ws, rs)
  rw [e, h1, h2]; rfl
end
end Go.Proofs.Yteidanhfkaljaaa.Eng
set_option linter.unusedVariables false
namespace Go.Proofs.Yteidanhfkaljaaa.Eng
open Go
set_option maxRecDepth 100000
noncomputable section
theorem sub64_eq {a b : Int} (h : -9223372036854775808 ≤ a - b) (g : a - b ≤ 9223372036854775807) : sub64 a b = a - b := wrap_eq h g
theorem max2_eq (a b : Int) : max2 a b = if b > a then b else a := rfl
theorem gap_max (p q : Int) (hp : 0 ≤ p ∧ p ≤ 1000000) (hq : 0 ≤ q ∧ q ≤ 1000000) (z : Int) : max2 (max2 z (sub64 p q)) (sub64 0 (sub64 p q)) = max2 z (gap p q) := by
  rw [sub64_eq (by omega) (by omega), sub64_eq (by omega) (by omega)]
  unfold gap
  rw [wrap_eq (i := q - p) (by omega) (by omega), wrap_eq (i := p - q) (by omega) (by omega)]
  simp only [max2_eq]
  repeat' split
  all_goals omega
theorem gap_max' (p q : Int) (hp : 0 ≤ p ∧ p ≤ 1000000) (hq : 0 ≤ q ∧ q ≤ 1000000) : max2 (sub64 p q) (sub64 0 (sub64 p q)) = gap p q := by
  rw [sub64_eq (by omega) (by omega), sub64_eq (by omega) (by omega)]
  unfold gap
  rw [wrap_eq (i := q - p) (by omega) (by omega), wrap_eq (i := p - q) (by omega) (by omega)]
  simp only [max2_eq]
  repeat' split
  all_goals omega
theorem apart_far {w a b : Int} (hw : 1 ≤ w ∧ w ≤ 1000000) (ha : 0 ≤ a ∧ a ≤ 1000000) (hb : 0 ≤ b ∧ b ≤ 1000000) : apartR w a b = farR w a b := by
  have t : ∀ x : Int, 0 ≤ x ∧ x ≤ 1000000 → (0 ≤ Int.tmod x w ∧ Int.tmod x w ≤ 1000000) ∧ (0 ≤ quo64 x w ∧ quo64 x w ≤ 1000000) := by
    intro x hx
    have e1 : Int.tmod x w = x % w := Int.tmod_eq_emod_of_nonneg hx.1
    have e2 : Int.tdiv x w = x / w := Int.tdiv_eq_ediv_of_nonneg hx.1
    have h1 := Int.emod_nonneg x (show w ≠ 0 by omega)
    have h2 := Int.emod_lt_of_pos x (show 0 < w by omega)
    have h3 : 0 ≤ x / w := Int.ediv_nonneg hx.1 (by omega)
    have h4 : x / w ≤ x := Int.ediv_le_self _ hx.1
    have e3 : quo64 x w = x / w := by unfold quo64; rw [e2]; exact wrap_eq (by omega) (by omega)
    rw [e1, e3]
    exact ⟨⟨h1, by omega⟩, h3, by omega⟩
  obtain ⟨a1, a2⟩ := t a ha
  obtain ⟨b1, b2⟩ := t b hb
  unfold apartR farR
  rw [gap_max' _ _ a1 b1, gap_max _ _ a2 b2]
theorem reach_eq {k : Int} (h0 : 0 ≤ k) (h1 : k ≤ 3) : reachR k = reachK k := by
  have : k = 0 ∨ k = 1 ∨ k = 2 ∨ k = 3 := by omega
  rcases this with rfl | rfl | rfl | rfl <;> rfl
theorem valid_tiles {s : St} (h : validR s = 0) : ∀ p ∈ s.2.1, 0 ≤ p.2 ∧ p.2 ≤ 1000000 := by
  have hb : (List.range s.2.1.length).any (badS s.2.1) = false := by
    cases hb : (List.range s.2.1.length).any (badS s.2.1) with
    | false => rfl
    | true =>
      simp only [validR, hb, if_true] at h
      split at h
      · omega
      · split at h <;> omega
  intro p hp
  obtain ⟨i, hi, e⟩ := List.mem_iff_getElem.1 hp
  have h1 := List.any_eq_false.1 hb i (List.mem_range.2 hi)
  have e2 : gS s.2.1 i = p := by simp [gS, hi, e]
  simp only [badS, e2, withinR, List.all_cons, List.all_nil] at h1
  simp at h1
  omega
theorem sized_zero {w h t : Int} (hs : sizedR w h t = 0) : (4 ≤ w ∧ w ≤ 32) ∧ (4 ≤ h ∧ h ≤ 32) ∧ 0 ≤ t ∧ t < w * h ∧ IntKind.i64.wrap (w * h) = w * h ∧ w * h ≤ 1024 := by
  unfold sizedR at hs
  split at hs
  · omega
  · rename_i h1
    split at hs
    · omega
    · rename_i h2
      have hw : 4 ≤ w ∧ w ≤ 32 := by omega
      have hh : 4 ≤ h ∧ h ≤ 32 := by omega
      have m1 : w * h ≤ 32 * 32 := Int.mul_le_mul hw.2 hh.2 (by omega) (by omega)
      have m0 : 0 ≤ w * h := Int.mul_nonneg (by omega) (by omega)
      have e : IntKind.i64.wrap (w * h) = w * h := wrap_eq (by omega) (by omega)
      rw [e] at h2
      exact ⟨hw, hh, by omega, by omega, e, by omega⟩
theorem covers_same (s : St) (w h t : Int) : coversR s w h t = coversRefR s w h t := by
  unfold coversR coversRefR
  by_cases hv : validR s = 0
  · have ea : askedR s w h t = sizedR w h t := by rw [askedR, if_neg (by simp [hv])]
    rw [ea, if_neg (by simp [hv])]
    by_cases hs : sizedR w h t = 0
    · rw [if_neg (by simp [hs]), if_neg (by simp [hs])]
      obtain ⟨hw, hh, t0, t1, e, m1⟩ := sized_zero hs
      have : s.2.1.any (nearP w h t) = s.2.1.any (overP w h t) := by
        rw [Bool.eq_iff_iff, List.any_eq_true, List.any_eq_true]
        have q : ∀ p ∈ s.2.1, nearP w h t p = overP w h t p := by
          intro p hp
          have hk := valid_kinds hv p hp
          have ht := valid_tiles hv p hp
          unfold nearP overP
          rw [apart_far (by omega) ht (by omega), reach_eq hk.1 hk.2]
        exact ⟨fun ⟨p, hp, x⟩ => ⟨p, hp, by rw [← q p hp]; exact x⟩, fun ⟨p, hp, x⟩ => ⟨p, hp, by rw [q p hp]; exact x⟩⟩
      rw [this]
    · rw [if_pos hs, if_pos hs]
  · have ea : askedR s w h t = validR s := by rw [askedR, if_pos hv]
    rw [ea, if_pos hv, if_pos hv]
end
end Go.Proofs.Yteidanhfkaljaaa.Eng
set_option linter.unusedVariables false
namespace Go.Proofs.Yteidanhfkaljaaa.Eng
open Go
set_option maxRecDepth 100000
noncomputable section
theorem gS_eq {l : List Pl} {n : Nat} (h : n < l.length) : gS l n = l[n] := by simp [gS, h]
theorem pl_eq (a b : Pl) : decide (a = b) = (decide (a.1 = b.1) && (decide (a.2 = b.2) && true)) := by
  rw [Bool.eq_iff_iff]; simp [Prod.ext_iff]
def eqPl (l m : List Pl) : Bool := decide (l = m)
def E32 : Env := ⟨tab, [], fun n => match n with | 4 => some ([0, 1, 5], [], []) | _ => none⟩
def K32 : Fn1 := ⟨.fld (.sl plT) (.one (.sl plT)), .one .bool, fun (a : List Pl × List Pl) => [a.1.length ≤ 100000], fun (a : List Pl × List Pl) => eqPl a.1 a.2⟩
def S32 (l m : List Pl) (i : Int) : SL := ⟨[.sl plT l, .sl plT m, .undef, .undef, .undef, .int .i64 i] ++ List.replicate 20 .undef, [], 0⟩
theorem k32 : FnOk Go.Proofs.Try.prog 32 K32 := by
  refine fn_ok (E := E32) (TOk.of tab_told) (fun f k h => by cases h) mix Go.Proofs.Try.func32 rfl rfl (by kernel_rfl) K32 ?_
  rintro ⟨(l : List Pl), (m : List Pl)⟩ hp
  have hl : l.length ≤ 100000 := hp _ (List.mem_cons_self ..)
  clear hp
  conv => whnf
  refine cond_intro (fun h => ?_) (fun h => ?_)
  · have h : (!decide ((l.length : Int) = (m.length : Int))) = true := h
    have h : ¬ (l.length : Int) = (m.length : Int) := by simpa using h
    conv => whnf
    show false = eqPl l m
    symm
    simp only [eqPl, decide_eq_false_iff_not]
    intro e; subst e; exact h rfl
  have h : (!decide ((l.length : Int) = (m.length : Int))) = false := h
  have h : (l.length : Int) = (m.length : Int) := by simpa using h
  have h : l.length = m.length := by omega
  conv => whnf
  refine loop_rule (S32 l m) (fun i => ((l.length : Int) - i).toNat) (fun i => 0 ≤ i ∧ i ≤ l.length ∧ l.take i.toNat = m.take i.toNat) ?_ 0 (by kernel_rfl) ?_ ⟨by omega, by omega, by simp⟩
  case refine_2 => rfl
  rintro i ⟨h0, h1, h2⟩
  conv => whnf
  refine cond_intro (fun hlt => ?_) (fun hge => ?_)
  · have hlt : i < l.length := @of_decide_eq_true _ _ hlt
    have hlm : i < m.length := by omega
    have e : gS l i.toNat = l[i.toNat]'(by omega) := gS_eq (by omega)
    have e' : gS m i.toNat = m[i.toNat]'(by omega) := gS_eq (by omega)
    have ht : l.take (i.toNat + 1) = l.take i.toNat ++ [gS l i.toNat] := by rw [List.take_succ_eq_append_getElem (by omega), e]
    have ht' : m.take (i.toNat + 1) = m.take i.toNat ++ [gS m i.toNat] := by rw [List.take_succ_eq_append_getElem (by omega), e']
    conv => whnf
    refine ⟨h0, ?_⟩
    conv => whnf
    refine ⟨hlt, ?_⟩
    conv => whnf
    refine ⟨h0, ?_⟩
    conv => whnf
    refine ⟨hlm, ?_⟩
    conv => whnf
    refine cond_intro (fun hd => ?_) (fun hd => ?_)
    · have hd : (!decide (gS l i.toNat = gS m i.toNat)) = true := by rw [pl_eq]; exact hd
      have hd : ¬ gS l i.toNat = gS m i.toNat := by simpa using hd
      conv => whnf
      show false = eqPl l m
      symm
      simp only [eqPl, decide_eq_false_iff_not]
      intro e; subst e; exact hd rfl
    · have hd : (!decide (gS l i.toNat = gS m i.toNat)) = false := by rw [pl_eq]; exact hd
      have hd : gS l i.toNat = gS m i.toNat := by simpa using hd
      conv => whnf
      have hw : IntKind.i64.wrap (i + 1) = i + 1 := wrap_eq (by omega) (by omega)
      refine ⟨i + 1, ?_, ⟨by omega, by omega, ?_⟩, by omega⟩
      · exact Eq.trans (b := S32 l m (IntKind.i64.wrap (i + 1))) rfl (by rw [hw])
      · rw [show (i + 1).toNat = i.toNat + 1 by omega, ht, ht', h2, hd]
  · have hge : ¬ i < l.length := @of_decide_eq_false _ _ hge
    conv => whnf
    show true = eqPl l m
    symm
    simp only [eqPl, decide_eq_true_eq]
    rw [List.take_of_length_le (by omega), List.take_of_length_le (by omega)] at h2
    exact h2
theorem pa_eq (a b : Pa) : decide (a = b) = (decide (a.1 = b.1) && (decide (a.2.1 = b.2.1) && (decide (a.2.2.1 = b.2.2.1) && (decide (a.2.2.2.1 = b.2.2.2.1) && (decide (a.2.2.2.2.1 = b.2.2.2.2.1) && (decide (a.2.2.2.2.2 = b.2.2.2.2.2) && true)))))) := by
  rw [Bool.eq_iff_iff]; simp [Prod.ext_iff]
def eqPa (l m : List Pa) : Bool := decide (l = m)
def E28 : Env := ⟨tab, [], fun n => match n with | 4 => some ([0, 1, 5], [], []) | _ => none⟩
def K28 : Fn1 := ⟨.fld (.sl paT) (.one (.sl paT)), .one .bool, fun (a : List Pa × List Pa) => [a.1.length ≤ 100000], fun (a : List Pa × List Pa) => eqPa a.1 a.2⟩
def S28 (l m : List Pa) (i : Int) : SL := ⟨[.sl paT l, .sl paT m, .undef, .undef, .undef, .int .i64 i] ++ List.replicate 20 .undef, [], 0⟩
theorem k28 : FnOk Go.Proofs.Try.prog 28 K28 := by
  refine fn_ok (E := E28) (TOk.of tab_told) (fun f k h => by cases h) mix Go.Proofs.Try.func28 rfl rfl (by kernel_rfl) K28 ?_
  rintro ⟨(l : List Pa), (m : List Pa)⟩ hp
  have hl : l.length ≤ 100000 := hp _ (List.mem_cons_self ..)
  clear hp
  conv => whnf
  refine cond_intro (fun h => ?_) (fun h => ?_)
  · have h : (!decide ((l.length : Int) = (m.length : Int))) = true := h
    have h : ¬ (l.length : Int) = (m.length : Int) := by simpa using h
    conv => whnf
    show false = eqPa l m
    symm
    simp only [eqPa, decide_eq_false_iff_not]
    intro e; subst e; exact h rfl
  have h : (!decide ((l.length : Int) = (m.length : Int))) = false := h
  have h : (l.length : Int) = (m.length : Int) := by simpa using h
  have h : l.length = m.length := by omega
  conv => whnf
  refine loop_rule (S28 l m) (fun i => ((l.length : Int) - i).toNat) (fun i => 0 ≤ i ∧ i ≤ l.length ∧ l.take i.toNat = m.take i.toNat) ?_ 0 (by kernel_rfl) ?_ ⟨by omega, by omega, by simp⟩
  case refine_2 => rfl
  rintro i ⟨h0, h1, h2⟩
  conv => whnf
  refine cond_intro (fun hlt => ?_) (fun hge => ?_)
  · have hlt : i < l.length := @of_decide_eq_true _ _ hlt
    have hlm : i < m.length := by omega
    have e : gP l i.toNat = l[i.toNat]'(by omega) := gP_eq (by omega)
    have e' : gP m i.toNat = m[i.toNat]'(by omega) := gP_eq (by omega)
    have ht : l.take (i.toNat + 1) = l.take i.toNat ++ [gP l i.toNat] := by rw [List.take_succ_eq_append_getElem (by omega), e]
    have ht' : m.take (i.toNat + 1) = m.take i.toNat ++ [gP m i.toNat] := by rw [List.take_succ_eq_append_getElem (by omega), e']
    conv => whnf
    refine ⟨h0, ?_⟩
    conv => whnf
    refine ⟨hlt, ?_⟩
    conv => whnf
    refine ⟨h0, ?_⟩
    conv => whnf
    refine ⟨hlm, ?_⟩
    conv => whnf
    refine cond_intro (fun hd => ?_) (fun hd => ?_)
    · have hd : (!decide (gP l i.toNat = gP m i.toNat)) = true := by rw [pa_eq]; exact hd
      have hd : ¬ gP l i.toNat = gP m i.toNat := by simpa using hd
      conv => whnf
      show false = eqPa l m
      symm
      simp only [eqPa, decide_eq_false_iff_not]
      intro e; subst e; exact hd rfl
    · have hd : (!decide (gP l i.toNat = gP m i.toNat)) = false := by rw [pa_eq]; exact hd
      have hd : gP l i.toNat = gP m i.toNat := by simpa using hd
      conv => whnf
      have hw : IntKind.i64.wrap (i + 1) = i + 1 := wrap_eq (by omega) (by omega)
      refine ⟨i + 1, ?_, ⟨by omega, by omega, ?_⟩, by omega⟩
      · exact Eq.trans (b := S28 l m (IntKind.i64.wrap (i + 1))) rfl (by rw [hw])
      · rw [show (i + 1).toNat = i.toNat + 1 by omega, ht, ht', h2, hd]
  · have hge : ¬ i < l.length := @of_decide_eq_false _ _ hge
    conv => whnf
    show true = eqPa l m
    symm
    simp only [eqPa, decide_eq_true_eq]
    rw [List.take_of_length_le (by omega), List.take_of_length_le (by omega)] at h2
    exact h2
theorem gR_eq {l : List Ra} {n : Nat} (h : n < l.length) : gR l n = l[n] := by simp [gR, h]
theorem ra_eq (a b : Ra) : decide (a = b) = (decide (a.1 = b.1) && (decide (a.2.1 = b.2.1) && (decide (a.2.2.1 = b.2.2.1) && (decide (a.2.2.2.1 = b.2.2.2.1) && (decide (a.2.2.2.2 = b.2.2.2.2) && true))))) := by
  rw [Bool.eq_iff_iff]; simp [Prod.ext_iff]
def eqRa (l m : List Ra) : Bool := decide (l = m)
def E33 : Env := ⟨tab, [], fun n => match n with | 4 => some ([0, 1, 5], [], []) | _ => none⟩
def K33 : Fn1 := ⟨.fld (.sl raT) (.one (.sl raT)), .one .bool, fun (a : List Ra × List Ra) => [a.1.length ≤ 100000], fun (a : List Ra × List Ra) => eqRa a.1 a.2⟩
def S33 (l m : List Ra) (i : Int) : SL := ⟨[.sl raT l, .sl raT m, .undef, .undef, .undef, .int .i64 i] ++ List.replicate 20 .undef, [], 0⟩
theorem k33 : FnOk Go.Proofs.Try.prog 33 K33 := by
  refine fn_ok (E := E33) (TOk.of tab_told) (fun f k h => by cases h) mix Go.Proofs.Try.func33 rfl rfl (by kernel_rfl) K33 ?_
  rintro ⟨(l : List Ra), (m : List Ra)⟩ hp
  have hl : l.length ≤ 100000 := hp _ (List.mem_cons_self ..)
  clear hp
  conv => whnf
  refine cond_intro (fun h => ?_) (fun h => ?_)
  · have h : (!decide ((l.length : Int) = (m.length : Int))) = true := h
    have h : ¬ (l.length : Int) = (m.length : Int) := by simpa using h
    conv => whnf
    show false = eqRa l m
    symm
    simp only [eqRa, decide_eq_false_iff_not]
    intro e; subst e; exact h rfl
  have h : (!decide ((l.length : Int) = (m.length : Int))) = false := h
  have h : (l.length : Int) = (m.length : Int) := by simpa using h
  have h : l.length = m.length := by omega
  conv => whnf
  refine loop_rule (S33 l m) (fun i => ((l.length : Int) - i).toNat) (fun i => 0 ≤ i ∧ i ≤ l.length ∧ l.take i.toNat = m.take i.toNat) ?_ 0 (by kernel_rfl) ?_ ⟨by omega, by omega, by simp⟩
  case refine_2 => rfl
  rintro i ⟨h0, h1, h2⟩
  conv => whnf
  refine cond_intro (fun hlt => ?_) (fun hge => ?_)
  · have hlt : i < l.length := @of_decide_eq_true _ _ hlt
    have hlm : i < m.length := by omega
    have e : gR l i.toNat = l[i.toNat]'(by omega) := gR_eq (by omega)
    have e' : gR m i.toNat = m[i.toNat]'(by omega) := gR_eq (by omega)
    have ht : l.take (i.toNat + 1) = l.take i.toNat ++ [gR l i.toNat] := by rw [List.take_succ_eq_append_getElem (by omega), e]
    have ht' : m.take (i.toNat + 1) = m.take i.toNat ++ [gR m i.toNat] := by rw [List.take_succ_eq_append_getElem (by omega), e']
    conv => whnf
    refine ⟨h0, ?_⟩
    conv => whnf
    refine ⟨hlt, ?_⟩
    conv => whnf
    refine ⟨h0, ?_⟩
    conv => whnf
    refine ⟨hlm, ?_⟩
    conv => whnf
    refine cond_intro (fun hd => ?_) (fun hd => ?_)
    · have hd : (!decide (gR l i.toNat = gR m i.toNat)) = true := by rw [ra_eq]; exact hd
      have hd : ¬ gR l i.toNat = gR m i.toNat := by simpa using hd
      conv => whnf
      show false = eqRa l m
      symm
      simp only [eqRa, decide_eq_false_iff_not]
      intro e; subst e; exact hd rfl
    · have hd : (!decide (gR l i.toNat = gR m i.toNat)) = false := by rw [ra_eq]; exact hd
      have hd : gR l i.toNat = gR m i.toNat := by simpa using hd
      conv => whnf
      have hw : IntKind.i64.wrap (i + 1) = i + 1 := wrap_eq (by omega) (by omega)
      refine ⟨i + 1, ?_, ⟨by omega, by omega, ?_⟩, by omega⟩
      · exact Eq.trans (b := S33 l m (IntKind.i64.wrap (i + 1))) rfl (by rw [hw])
      · rw [show (i + 1).toNat = i.toNat + 1 by omega, ht, ht', h2, hd]
  · have hge : ¬ i < l.length := @of_decide_eq_false _ _ hge
    conv => whnf
    show true = eqRa l m
    symm
    simp only [eqRa, decide_eq_true_eq]
    rw [List.take_of_length_le (by omega), List.take_of_length_le (by omega)] at h2
    exact h2
end
end Go.Proofs.Yteidanhfkaljaaa.Eng
set_option linter.unusedVariables false
namespace Go.Proofs.Yteidanhfkaljaaa.Eng
open Go
set_option maxRecDepth 100000
noncomputable section
def E22 : Env := ⟨tab, [(32, K32), (28, K28), (33, K33)], ann0⟩
def sameSt (a b : St) : Bool := decide (a.1 = b.1) && eqPl a.2.1 b.2.1 && eqPa a.2.2.1 b.2.2.1 && eqRa a.2.2.2 b.2.2.2
def K22 : Fn1 := ⟨.fld stT (.one stT), .one .bool, fun (a : St × St) => small a.1, fun (a : St × St) => sameSt a.1 a.2⟩
theorem k22 : FnOk Go.Proofs.Try.prog 22 K22 := by
  refine fn_ok (E := E22) (TOk.of tab_told) (AllOk.cons k32 (.cons k28 (.cons k33 .nil))).at_ mix Go.Proofs.Try.func22 rfl rfl (by kernel_rfl) K22 ?_
  rintro ⟨⟨(ow : Int), (ps : List Pl), (ws : List Pa), (rs : List Ra)⟩, ⟨(ow' : Int), (ps' : List Pl), (ws' : List Pa), (rs' : List Ra)⟩⟩ hp
  have g1 : ps.length ≤ 100000 := hp _ (List.mem_cons_self ..)
  have g2 : ws.length ≤ 100000 := hp _ (List.mem_cons_of_mem _ (List.mem_cons_self ..))
  have g3 : rs.length ≤ 100000 := hp _ (List.mem_cons_of_mem _ (List.mem_cons_of_mem _ (List.mem_cons_self ..)))
  clear hp
  iterate 9 (all_goals (conv => whnf); all_goals (first | refine ⟨g1, ?_⟩ | refine ⟨g2, ?_⟩ | refine ⟨g3, ?_⟩ | refine cond_intro (fun h => ?_) (fun h => ?_) | skip))
  all_goals (simp only [K32, K28, K33, cond_true] at *)
  all_goals (show _ = sameSt (ow, ps, ws, rs) (ow', ps', ws', rs'); simp [sameSt, *])
end
end Go.Proofs.Yteidanhfkaljaaa.Eng
/- How units are shared by scores: what stop.Split tells, in plain words. -/
set_option linter.unusedVariables false
set_option linter.unusedSimpArgs false
namespace Go.Proofs.Yteidanhfkaljaaa.Eng
open Go
def mx (a b : Int) : Int := if b > a then b else a
def allIn (m : Int) (l : List Int) : Bool := l.all fun n => decide (0 ≤ n) && decide (n ≤ m)
theorem allIn_nil (m : Int) : allIn m [] = true := rfl
theorem allIn_cons (m x : Int) (r : List Int) : allIn m (x :: r) = (decide (0 ≤ x ∧ x ≤ m) && allIn m r) := by simp [allIn]
def bestL : Int → List Int → Int
  | b, [] => b
  | b, x :: r => bestL (mx b x) r
def sumL : List Int → Int
  | [] => 0
  | x :: r => x + sumL r
def In255 (l : List Int) : Prop := ∀ x ∈ l, 0 ≤ x ∧ x ≤ 255
theorem allIn_iff (m : Int) : ∀ (l : List Int), allIn m l = true ↔ ∀ x ∈ l, 0 ≤ x ∧ x ≤ m
  | [] => by simp [allIn]
  | x :: r => by rw [allIn_cons]; simp [allIn_iff m r]
theorem best_bd : ∀ (l : List Int) (b : Int), In255 l → 0 ≤ b → b ≤ 255 → 0 ≤ bestL b l ∧ bestL b l ≤ 255
  | [], b, _, h0, h1 => ⟨h0, h1⟩
  | x :: r, b, h, h0, h1 => by
    have hx := h x (by simp)
    exact best_bd r (mx b x) (fun y hy => h y (by simp [hy])) (by unfold mx; split <;> omega) (by unfold mx; split <;> omega)
theorem best_ge : ∀ (l : List Int) (b : Int), b ≤ bestL b l ∧ ∀ x ∈ l, x ≤ bestL b l
  | [], b => ⟨by simp [bestL], by simp⟩
  | y :: r, b => by
    have ih := best_ge r (mx b y)
    have h1 : b ≤ mx b y ∧ y ≤ mx b y := by unfold mx; split <;> omega
    refine ⟨by rw [bestL]; omega, fun x hx => ?_⟩
    rw [bestL]
    rcases List.mem_cons.1 hx with rfl | hx
    · omega
    · exact ih.2 x hx
theorem sum_bd : ∀ (l : List Int), In255 l → 0 ≤ sumL l ∧ sumL l ≤ 255 * l.length
  | [], _ => by simp [sumL]
  | x :: r, h => by
    have hx := h x (by simp)
    have ih := sum_bd r (fun y hy => h y (by simp [hy]))
    rw [sumL]; simp only [List.length_cons, Int.natCast_add]; omega
def cut (m s x : Int) : Int := m * x / s
theorem cut_bd {m s x : Int} (m0 : 0 ≤ m) (m1 : m ≤ 1000000) (s0 : 0 < s) (x0 : 0 ≤ x) (x1 : x ≤ 255) : 0 ≤ m * x ∧ m * x ≤ 255000000 ∧ 0 ≤ cut m s x ∧ cut m s x ≤ 255000000 := by
  have h0 : 0 ≤ m * x := Int.mul_nonneg m0 x0
  have h1 : m * x ≤ 1000000 * 255 := Int.mul_le_mul m1 x1 x0 (by omega)
  refine ⟨h0, by omega, Int.ediv_nonneg h0 (by omega), ?_⟩
  have : m * x / s ≤ m * x := Int.ediv_le_self _ h0
  show m * x / s ≤ _
  omega
def passL (sc : Int) : List Int → Int → Int
  | [], left => left
  | x :: xs, left => if x = sc ∧ left > 0 then passL sc xs (left - 1) else passL sc xs left
def passO (sc : Int) : List Int → List Int → Int → List Int
  | x :: xs, o :: os, left => if x = sc ∧ left > 0 then (o + 1) :: passO sc xs os (left - 1) else o :: passO sc xs os left
  | _, _, _ => []
def cnt (d : Int) : List Int → Int
  | [] => 0
  | x :: r => (if 1 ≤ x ∧ x ≤ d then 1 else 0) + cnt d r
theorem cnt_nn (d : Int) : ∀ (l : List Int), 0 ≤ cnt d l
  | [] => by simp [cnt]
  | x :: r => by have := cnt_nn d r; rw [cnt]; split <;> omega
theorem cnt_zero : ∀ (l : List Int), cnt 0 l = 0
  | [] => rfl
  | x :: r => by rw [cnt, cnt_zero r, if_neg (by omega)]; rfl
theorem passL_le (d : Int) (hd : 0 ≤ d) : ∀ (l : List Int) (left c : Int), 0 ≤ c → left ≤ c + cnt (d + 1) l → passL (d + 1) l left ≤ c + cnt d l
  | [], left, c, hc, h => by simpa [passL, cnt] using h
  | x :: r, left, c, hc, h => by
    rw [cnt] at h ⊢
    rw [passL]
    have n1 := cnt_nn (d + 1) r
    by_cases e : x = d + 1
    · rw [if_pos (show 1 ≤ x ∧ x ≤ d + 1 by omega)] at h
      rw [if_neg (show ¬ (1 ≤ x ∧ x ≤ d) by omega)]
      by_cases g : left > 0
      · rw [if_pos ⟨e, g⟩]
        have := passL_le d hd r (left - 1) c hc (by omega)
        omega
      · rw [if_neg (fun h => g h.2)]
        have := passL_le d hd r left c hc (by omega)
        omega
    · rw [if_neg (fun h => e h.1)]
      by_cases g : 1 ≤ x ∧ x ≤ d
      · rw [if_pos (show 1 ≤ x ∧ x ≤ d + 1 by omega)] at h
        rw [if_pos g]
        have := passL_le d hd r left (c + 1) (by omega) (by omega)
        omega
      · rw [if_neg (show ¬ (1 ≤ x ∧ x ≤ d + 1) by omega)] at h
        rw [if_neg g]
        have := passL_le d hd r left c hc (by omega)
        omega
theorem passL_ge (sc : Int) : ∀ (l : List Int) (left : Int), passL sc l left ≤ left ∧ (left - l.length ≤ passL sc l left)
  | [], left => by simp [passL]
  | x :: r, left => by
    rw [passL]
    simp only [List.length_cons, Int.natCast_add]
    split
    · have := passL_ge sc r (left - 1); omega
    · have := passL_ge sc r left; omega
theorem passO_len (sc : Int) : ∀ (l os : List Int) (left : Int), os.length = l.length → (passO sc l os left).length = l.length
  | [], [], _, _ => rfl
  | x :: r, o :: os, left, h => by
    rw [passO]
    split <;> simp [passO_len sc r os _ (by simpa using h)]
theorem passO_bd (sc b : Int) : ∀ (l os : List Int) (left : Int), (∀ o ∈ os, 0 ≤ o ∧ o ≤ b) → ∀ o ∈ passO sc l os left, 0 ≤ o ∧ o ≤ b + 1
  | x :: r, o :: os, left, h => by
    have h1 := h o (by simp)
    have h2 : ∀ o ∈ os, 0 ≤ o ∧ o ≤ b := fun y hy => h y (by simp [hy])
    rw [passO]
    split
    · intro y hy
      rcases List.mem_cons.1 hy with rfl | hy
      · omega
      · exact passO_bd sc b r os _ h2 y hy
    · intro y hy
      rcases List.mem_cons.1 hy with rfl | hy
      · omega
      · exact passO_bd sc b r os _ h2 y hy
  | [], _, _, _ => by simp [passO]
  | x :: r, [], _, _ => by simp [passO]
def spin (L : List Int) : Nat → Int → List Int → List Int
  | 0, _, out => out
  | d + 1, left, out => if left > 0 then spin L d (passL ((d : Int) + 1) L left) (passO ((d : Int) + 1) L out left) else out
theorem rem_le {m s d : Int} (s0 : 0 < s) : ∀ (l : List Int), (∀ x ∈ l, 0 ≤ x ∧ x ≤ d) → m * sumL l - s * sumL (l.map (cut m s)) ≤ s * cnt d l
  | [], _ => by simp [sumL, cnt]
  | x :: r, h => by
    have hx := h x (by simp)
    have ih := rem_le (m := m) (d := d) s0 r (fun y hy => h y (by simp [hy]))
    rw [List.map_cons, sumL, sumL, cnt, Int.mul_add, Int.mul_add, Int.mul_add]
    have e := Int.mul_ediv_add_emod (m * x) s
    have l1 := Int.emod_lt_of_pos (m * x) s0
    have l0 := Int.emod_nonneg (m * x) (show s ≠ 0 by omega)
    have key : m * x - s * cut m s x ≤ s * (if 1 ≤ x ∧ x ≤ d then 1 else 0) := by
      unfold cut
      by_cases c : 1 ≤ x ∧ x ≤ d
      · rw [if_pos c]; omega
      · obtain rfl : x = 0 := by omega
        rw [if_neg c]; simp
    omega
theorem left_le {m s d : Int} (s0 : 0 < s) {l : List Int} (hs : sumL l = s) (h : ∀ x ∈ l, 0 ≤ x ∧ x ≤ d) : m - sumL (l.map (cut m s)) ≤ cnt d l := by
  have := rem_le (m := m) (d := d) s0 l h
  rw [hs] at this
  refine Int.le_of_mul_le_mul_left (a := s) ?_ s0
  rw [Int.mul_sub, Int.mul_comm s m]
  exact this
def share (n : Int) (L : List Int) : Int := n * bestL 0 L / 255
def splitOf (n : Int) (L : List Int) : List Int × Int :=
  if ¬ (0 ≤ n ∧ n ≤ 1000000) then ([], 1) else if allIn 255 L = false then ([], 1) else if (L.length : Int) > 1000 then ([], 4) else
  if sumL L = 0 then (List.replicate L.length 0, 0) else
  (spin L (bestL 0 L).toNat (share n L - sumL (L.map (cut (share n L) (sumL L)))) (L.map (cut (share n L) (sumL L))), 0)
theorem in255 {L : List Int} (h : allIn 255 L = true) : In255 L := (allIn_iff 255 L).1 h
theorem spin_len (L : List Int) : ∀ (d : Nat) (left : Int) (out : List Int), out.length = L.length → (spin L d left out).length = L.length
  | 0, _, out, h => h
  | d + 1, left, out, h => by
    rw [spin]
    split
    · exact spin_len L d _ _ (passO_len _ L out left h)
    · exact h
theorem splitOf_len (n : Int) (L : List Int) : (splitOf n L).1.length ≤ 1000 := by
  unfold splitOf
  (repeat' split) <;> simp
  · omega
  · rw [spin_len L _ _ _ (by simp)]; omega
end Go.Proofs.Yteidanhfkaljaaa.Eng
set_option linter.unusedVariables false
namespace Go.Proofs.Yteidanhfkaljaaa.Eng
open Go
set_option maxRecDepth 100000
noncomputable section
def E13 : Env := ⟨tab, [(35, K35)], fun n => match n with | 8 => some ([0, 1, 6, 7, 8, 33, 34, 35], [], []) | 17 => some ([1, 6, 7, 8, 11, 12, 54, 55, 56], [], []) | 23 => some ([1, 6, 12, 15], [], []) | 26 => some ([1, 6, 12, 15, 81, 82, 83], [], []) | _ => none⟩
def K13 : Fn1 := ⟨.fld I (.one (.sl I)), .fld (.sl I) (.one I), fun (a : Int × List Int) => [a.2.length ≤ 140737488351232], fun (a : Int × List Int) => splitOf a.1 a.2⟩
theorem bestL_snoc (x : Int) : ∀ (l : List Int) (b : Int), bestL b (l ++ [x]) = mx (bestL b l) x
  | [], b => rfl
  | y :: r, b => by rw [List.cons_append, bestL, bestL_snoc x r, bestL]
theorem sumL_snoc (x : Int) : ∀ (l : List Int), sumL (l ++ [x]) = sumL l + x
  | [] => by simp [sumL]
  | y :: r => by rw [List.cons_append, sumL, sumL_snoc x r, sumL]; omega
theorem passL_snoc (sc x : Int) : ∀ (l : List Int) (left : Int), passL sc (l ++ [x]) left = if x = sc ∧ passL sc l left > 0 then passL sc l left - 1 else passL sc l left
  | [], left => by simp [passL]
  | y :: r, left => by
    rw [List.cons_append, passL, passL]
    split <;> exact passL_snoc sc x r _
theorem passO_snoc (sc x o : Int) : ∀ (l os : List Int) (left : Int), os.length = l.length → passO sc (l ++ [x]) (os ++ [o]) left = passO sc l os left ++ [if x = sc ∧ passL sc l left > 0 then o + 1 else o]
  | [], [], left, _ => by
    rw [List.nil_append, List.nil_append, passO, passL]
    split <;> simp [passO]
  | y :: r, p :: os, left, h => by
    have ih := passO_snoc sc x o r os
    rw [List.cons_append, List.cons_append, passO, passO, passL]
    split <;> rw [ih _ (by simpa using h), List.cons_append]
def midL (sc : Int) (l : List Int) (left : Int) (i : Nat) : Int := passL sc (l.take i) left
def midO (sc : Int) (l out : List Int) (left : Int) (i : Nat) : List Int := passO sc (l.take i) (out.take i) left ++ out.drop i
theorem take_succ_gI {l : List Int} {i : Nat} (h : i < l.length) : l.take (i + 1) = l.take i ++ [gI l i] := by
  rw [List.take_succ_eq_append_getElem h, gI_eq h]
theorem midL_step {sc left : Int} {l : List Int} {i : Nat} (h : i < l.length) : midL sc l left (i + 1) = if gI l i = sc ∧ midL sc l left i > 0 then midL sc l left i - 1 else midL sc l left i := by
  unfold midL
  rw [take_succ_gI h, passL_snoc]
theorem midO_len {sc left : Int} {l out : List Int} {i : Nat} (ho : out.length = l.length) (hi : i ≤ l.length) : (midO sc l out left i).length = l.length := by
  unfold midO
  rw [List.length_append, passO_len _ _ _ _ (by simp [ho])]
  simp; omega
theorem midO_get {sc left : Int} {l out : List Int} {i : Nat} (ho : out.length = l.length) (hi : i < l.length) : gI (midO sc l out left i) i = gI out i := by
  have e : (passO sc (l.take i) (out.take i) left).length = i := by
    rw [passO_len _ _ _ _ (by simp [ho])]; simp; omega
  unfold midO gI
  rw [List.getD_eq_getElem?_getD, List.getD_eq_getElem?_getD, List.getElem?_append_right (by omega), e, List.getElem?_drop]
  simp
theorem midO_step {sc left : Int} {l out : List Int} {i : Nat} (ho : out.length = l.length) (h : i < l.length) : midO sc l out left (i + 1) = if gI l i = sc ∧ midL sc l left i > 0 then (midO sc l out left i).set i (gI (midO sc l out left i) i + 1) else midO sc l out left i := by
  have e : (passO sc (l.take i) (out.take i) left).length = i := by
    rw [passO_len _ _ _ _ (by simp [ho])]; simp; omega
  have hd : out.drop i = gI out i :: out.drop (i + 1) := by rw [gI_eq (by omega)]; exact List.drop_eq_getElem_cons (by omega)
  rw [midO_get ho h]
  unfold midO midL
  rw [take_succ_gI h, take_succ_gI (show i < out.length by omega), passO_snoc _ _ _ _ _ _ (by simp [ho]), hd]
  split
  · rw [List.set_append_right _ _ (by omega), e]; simp
  · simp
theorem midL_end {sc left : Int} {l : List Int} {i : Nat} (h : l.length ≤ i) : midL sc l left i = passL sc l left := by unfold midL; rw [List.take_of_length_le h]
theorem midO_end {sc left : Int} {l out : List Int} {i : Nat} (ho : out.length = l.length) (h : l.length ≤ i) : midO sc l out left i = passO sc l out left := by unfold midO; rw [List.take_of_length_le h, List.take_of_length_le (by omega), List.drop_of_length_le (by omega), List.append_nil]
theorem midL_zero {sc left : Int} {l : List Int} : midL sc l left 0 = left := by unfold midL; rw [List.take_zero, passL]
theorem midO_zero {sc left : Int} {l out : List Int} : midO sc l out left 0 = out := by unfold midO; rw [List.take_zero, passO]; rfl; simp
theorem midL_bd {sc left : Int} {l : List Int} {i : Nat} (h : i ≤ l.length) : midL sc l left i ≤ left ∧ left - i ≤ midL sc l left i := by
  have := passL_ge sc (l.take i) left
  rw [List.length_take] at this
  unfold midL
  omega
def cutO (m s : Int) (l : List Int) (i : Nat) : List Int := (l.take i).map (cut m s) ++ List.replicate (l.length - i) 0
theorem cutO_len {m s : Int} {l : List Int} {i : Nat} (h : i ≤ l.length) : (cutO m s l i).length = l.length := by
  unfold cutO; simp; omega
theorem cutO_step {m s : Int} {l : List Int} {i : Nat} (h : i < l.length) : cutO m s l (i + 1) = (cutO m s l i).set i (cut m s (gI l i)) := by
  unfold cutO
  rw [take_succ_gI h, List.set_append_right _ _ (by simp; omega), show l.length - i = (l.length - (i + 1)) + 1 by omega, List.replicate_succ]
  simp [show min i l.length = i by omega]
theorem cutO_zero {m s : Int} {l : List Int} : cutO m s l 0 = List.replicate l.length 0 := by simp [cutO]
theorem cutO_end {m s : Int} {l : List Int} {i : Nat} (h : l.length ≤ i) : cutO m s l i = l.map (cut m s) := by unfold cutO; rw [List.take_of_length_le h]; simp; omega
theorem gI_set {l : List Int} {i : Nat} {x : Int} (h : i < l.length) : gI (l.set i x) i = x := by
  unfold gI; simp [h]
def cutS (m s : Int) (l : List Int) (i : Nat) : Int := m - sumL ((l.take i).map (cut m s))
theorem cutS_step {m s : Int} {l : List Int} {i : Nat} (h : i < l.length) : cutS m s l (i + 1) = cutS m s l i - cut m s (gI l i) := by
  unfold cutS
  rw [take_succ_gI h, List.map_append, List.map_singleton, sumL_snoc]; omega
theorem cutS_zero {m s : Int} {l : List Int} : cutS m s l 0 = m := by simp [cutS, sumL]
theorem cutS_end {m s : Int} {l : List Int} {i : Nat} (h : l.length ≤ i) : cutS m s l i = m - sumL (l.map (cut m s)) := by unfold cutS; rw [List.take_of_length_le h]
theorem sum_bd2 (b : Int) : ∀ (l : List Int), (∀ x ∈ l, 0 ≤ x ∧ x ≤ b) → 0 ≤ sumL l ∧ sumL l ≤ b * l.length
  | [], _ => by simp [sumL]
  | x :: r, h => by
    have hx := h x (by simp)
    have ih := sum_bd2 b r (fun y hy => h y (by simp [hy]))
    rw [sumL]; simp only [List.length_cons, Int.natCast_add, Int.mul_add]; omega
theorem cuts_bd {m s : Int} {l : List Int} (m0 : 0 ≤ m) (m1 : m ≤ 1000000) (s0 : 0 < s) (h : In255 l) (k : Nat) : ∀ x ∈ (l.take k).map (cut m s), 0 ≤ x ∧ x ≤ 255000000 := by
  intro x hx
  rcases List.mem_map.1 hx with ⟨y, hy, rfl⟩
  have hb := h y (List.mem_of_mem_take hy)
  have := cut_bd m0 m1 s0 hb.1 hb.2
  omega
theorem cutS_bd {m s : Int} {l : List Int} (m0 : 0 ≤ m) (m1 : m ≤ 1000000) (s0 : 0 < s) (h : In255 l) (k : Nat) (hk : l.length ≤ 1000) : cutS m s l k ≤ m ∧ -255000000000 ≤ cutS m s l k := by
  have := sum_bd2 255000000 _ (cuts_bd m0 m1 s0 h k)
  have e : ((l.take k).map (cut m s)).length ≤ 1000 := by simp; omega
  unfold cutS
  omega
def S13a (n : Int) (l out : List Int) (b s i : Int) : SL := ⟨[.int .i64 n, .sl I l] ++ List.replicate 4 .undef ++ [.own 0, .int .i64 b, .int .i64 s] ++ List.replicate 24 .undef ++ [.sl I l, .int .i64 l.length, .int .i64 i] ++ List.replicate 69 .undef, [(0, .arr I out)], 1⟩
def S13b (l out : List Int) (b s m left i : Int) : SL := ⟨[.undef, .sl I l] ++ List.replicate 4 .undef ++ [.own 0, .int .i64 b, .int .i64 s, .undef, .undef, .int .i64 m, .int .i64 left] ++ List.replicate 41 .undef ++ [.sl I l, .int .i64 l.length, .int .i64 i] ++ List.replicate 48 .undef, [(0, .arr I out)], 1⟩
def S13c (l out : List Int) (left d : Int) : SL := ⟨[.undef, .sl I l] ++ List.replicate 4 .undef ++ [.own 0] ++ List.replicate 5 .undef ++ [.int .i64 left, .undef, .undef, .int .i64 d] ++ List.replicate 89 .undef, [(0, .arr I out)], 1⟩
def S13d (l out : List Int) (left d i : Int) : SL := ⟨[.undef, .sl I l] ++ List.replicate 4 .undef ++ [.own 0] ++ List.replicate 5 .undef ++ [.int .i64 left, .undef, .undef, .int .i64 d] ++ List.replicate 65 .undef ++ [.sl I l, .int .i64 l.length, .int .i64 i] ++ List.replicate 21 .undef, [(0, .arr I out)], 1⟩
theorem k13 : FnOk Go.Proofs.Try.prog 13 K13 := by
  refine fn_ok (E := E13) (TOk.of tab_told) (AllOk.cons k35 .nil).at_ mix Go.Proofs.Try.func13 rfl rfl (by kernel_rfl) K13 ?_
  rintro ⟨(n : Int), (l : List Int)⟩ hp
  have hl : l.length ≤ 140737488351232 := hp _ (List.mem_cons_self ..)
  clear hp
  conv => whnf
  refine ⟨show 1 ≤ 140737488351232 by omega, ?_⟩
  conv => whnf
  refine cond_intro (fun hn => ?_) (fun hn => ?_)
  · have hn : (!withinR (1000000, [n])) = true := hn
    have hn : ¬ (0 ≤ n ∧ n ≤ 1000000) := by
      intro c
      simp [withinR, c.1, c.2] at hn
    conv => whnf
    show ([], 1) = splitOf n l
    rw [splitOf, if_pos hn]
  have hn : (!withinR (1000000, [n])) = false := hn
  have hn : 0 ≤ n ∧ n ≤ 1000000 := by simpa [withinR] using hn
  conv => whnf
  refine ⟨show l.length ≤ 140737488351232 by omega, ?_⟩
  conv => whnf
  refine cond_intro (fun ha => ?_) (fun ha => ?_)
  · have ha : (!allIn 255 l) = true := ha
    have ha : allIn 255 l = false := by simpa using ha
    conv => whnf
    show ([], 1) = splitOf n l
    rw [splitOf, if_neg (fun h => h hn), if_pos ha]
  have ha : (!allIn 255 l) = false := ha
  have ha : allIn 255 l = true := by simpa using ha
  have hi := in255 ha
  conv => whnf
  refine cond_intro (fun hg => ?_) (fun hg => ?_)
  · have hg : 1000 < (l.length : Int) := @of_decide_eq_true _ _ hg
    conv => whnf
    show ([], 4) = splitOf n l
    rw [splitOf, if_neg (fun h => h hn), if_neg (by simp [ha]), if_pos hg]
  have hg : ¬ 1000 < (l.length : Int) := @of_decide_eq_false _ _ hg
  have v1 : splitOf n l = if sumL l = 0 then (List.replicate l.length 0, 0) else
      (spin l (bestL 0 l).toNat (share n l - sumL (l.map (cut (share n l) (sumL l)))) (l.map (cut (share n l) (sumL l))), 0) := by
    rw [splitOf, if_neg (fun h => h hn), if_neg (by simp [ha]), if_neg (by omega)]
  conv => whnf
  refine ⟨show (0 : Int) ≤ l.length by omega, ?_⟩
  conv => whnf
  refine ⟨show (l.length : Int) ≤ l.length by omega, ?_⟩
  conv => whnf
  refine ⟨show (l.length : Int) * 8 ≤ 70368744177664 by omega, ?_⟩
  conv => whnf
  refine ⟨show (l.length : Int) ≤ 70368744177664 by omega, ?_⟩
  conv => whnf
  refine loop_rule (fun i => S13a n l (List.replicate l.length 0) (bestL 0 (l.take i.toNat)) (sumL (l.take i.toNat)) i) (fun i => ((l.length : Int) - i).toNat) (fun i => 0 ≤ i ∧ i ≤ l.length) ?_ 0 (by kernel_rfl) ?_ ⟨by omega, by omega⟩
  case refine_2 => rfl
  rintro i ⟨h0, h1⟩
  conv => whnf
  refine cond_intro (fun hlt => ?_) (fun hge => ?_)
  · have hlt : i < l.length := @of_decide_eq_true _ _ hlt
    have e : gI l i.toNat = l[i.toNat]'(by omega) := gI_eq _
    have ht : l.take (i.toNat + 1) = l.take i.toNat ++ [gI l i.toNat] := by rw [List.take_succ_eq_append_getElem (by omega), e]
    have hw : IntKind.i64.wrap (i + 1) = i + 1 := wrap_eq (by omega) (by omega)
    have en : (i + 1).toNat = i.toNat + 1 := by omega
    have hx : 0 ≤ gI l i.toNat ∧ gI l i.toNat ≤ 255 := hi _ (by rw [e]; exact List.getElem_mem _)
    have hsb := sum_bd (l.take i.toNat) (fun x hx => hi x (List.mem_of_mem_take hx))
    have hlen : (l.take i.toNat).length ≤ 1000 := by rw [List.length_take]; omega
    have hws : IntKind.i64.wrap (sumL (l.take i.toNat) + gI l i.toNat) = sumL (l.take i.toNat) + gI l i.toNat := wrap_eq (by omega) (by omega)
    conv => whnf
    refine ⟨h0, ?_⟩
    conv => whnf
    refine ⟨hlt, ?_⟩
    conv => whnf
    refine ⟨i + 1, ?_, ⟨by omega, by omega⟩, by omega⟩
    exact Eq.trans (b := S13a n l (List.replicate l.length 0) (mx (bestL 0 (l.take i.toNat)) (gI l i.toNat)) (IntKind.i64.wrap (sumL (l.take i.toNat) + gI l i.toNat)) (IntKind.i64.wrap (i + 1))) rfl (by rw [hw, hws, en, ht, bestL_snoc, sumL_snoc])
  have hge : ¬ i < l.length := @of_decide_eq_false _ _ hge
  have el : l.take i.toNat = l := List.take_of_length_le (by omega)
  rw [el]
  conv => whnf
  have hsum := sum_bd l hi
  have hbest := best_bd l 0 hi (by omega) (by omega)
  refine cond_intro (fun hz => ?_) (fun hz => ?_)
  · have hz : sumL l = 0 := @of_decide_eq_true _ _ hz
    conv => whnf
    show (List.replicate l.length 0, 0) = splitOf n l
    rw [v1, if_pos hz]
  have hz : ¬ sumL l = 0 := @of_decide_eq_false _ _ hz
  have v2 : splitOf n l = (spin l (bestL 0 l).toNat (share n l - sumL (l.map (cut (share n l) (sumL l)))) (l.map (cut (share n l) (sumL l))), 0) := by
    rw [v1, if_neg hz]
  have hnb : 0 ≤ n * bestL 0 l ∧ n * bestL 0 l ≤ 255000000 := ⟨Int.mul_nonneg hn.1 hbest.1, by
    have := Int.mul_le_mul hn.2 hbest.2 hbest.1 (show (0 : Int) ≤ 1000000 by omega)
    omega⟩
  have hm : IntKind.i64.wrap (Int.tdiv (IntKind.i64.wrap (n * bestL 0 l)) 255) = share n l := by
    rw [wrap_eq (i := n * bestL 0 l) (by omega) (by omega), Int.tdiv_eq_ediv_of_nonneg hnb.1]
    unfold share
    exact wrap_eq (by omega) (by omega)
  have hmb : 0 ≤ share n l ∧ share n l ≤ 1000000 := by unfold share; omega
  conv => whnf
  refine ⟨show (255 : Int) ≠ 0 by omega, ?_⟩
  conv => whnf
  refine loop_rule (fun i => S13b l (cutO (share n l) (sumL l) l i.toNat) (bestL 0 l) (sumL l) (share n l) (cutS (share n l) (sumL l) l i.toNat) i) (fun i => ((l.length : Int) - i).toNat) (fun i => 0 ≤ i ∧ i ≤ l.length) ?_ 0 (by kernel_rfl) ?_ ⟨by omega, by omega⟩
  case refine_2 =>
    exact Eq.trans (b := S13b l (List.replicate l.length 0) (bestL 0 l) (sumL l) (IntKind.i64.wrap (Int.tdiv (IntKind.i64.wrap (n * bestL 0 l)) 255)) (IntKind.i64.wrap (Int.tdiv (IntKind.i64.wrap (n * bestL 0 l)) 255)) 0) rfl (by rw [hm, show (0 : Int).toNat = 0 from rfl, cutO_zero, cutS_zero])
  rintro i ⟨h0, h1⟩
  conv => whnf
  refine cond_intro (fun hlt => ?_) (fun hge => ?_)
  · have hlt : i < l.length := @of_decide_eq_true _ _ hlt
    have hN : i.toNat < l.length := by omega
    have e : gI l i.toNat = l[i.toNat]'(by omega) := gI_eq _
    have hx : 0 ≤ gI l i.toNat ∧ gI l i.toNat ≤ 255 := hi _ (by rw [e]; exact List.getElem_mem _)
    have hw : IntKind.i64.wrap (i + 1) = i + 1 := wrap_eq (by omega) (by omega)
    have en : (i + 1).toNat = i.toNat + 1 := by omega
    have hc := cut_bd hmb.1 hmb.2 (show 0 < sumL l by omega) hx.1 hx.2
    have hcut : IntKind.i64.wrap (Int.tdiv (IntKind.i64.wrap (share n l * gI l i.toNat)) (sumL l)) = cut (share n l) (sumL l) (gI l i.toNat) := by
      rw [wrap_eq (i := share n l * gI l i.toNat) (by omega) (by omega), Int.tdiv_eq_ediv_of_nonneg hc.1]
      exact wrap_eq (by unfold cut at hc; omega) (by unfold cut at hc; omega)
    have hol := cutO_len (m := share n l) (s := sumL l) (show i.toNat ≤ l.length by omega)
    have hsl := cutS_bd hmb.1 hmb.2 (show 0 < sumL l by omega) hi i.toNat (by omega)
    have hws : IntKind.i64.wrap (cutS (share n l) (sumL l) l i.toNat - cut (share n l) (sumL l) (gI l i.toNat)) = cutS (share n l) (sumL l) l i.toNat - cut (share n l) (sumL l) (gI l i.toNat) := wrap_eq (by omega) (by omega)
    conv => whnf
    refine ⟨h0, ?_⟩
    conv => whnf
    refine ⟨hlt, ?_⟩
    conv => whnf
    refine ⟨hz, ?_⟩
    conv => whnf
    refine ⟨h0, ?_⟩
    conv => whnf
    refine ⟨show i < ((cutO (share n l) (sumL l) l i.toNat).length : Int) by omega, ?_⟩
    conv => whnf
    refine ⟨h0, ?_⟩
    conv => whnf
    refine ⟨show i < (((cutO (share n l) (sumL l) l i.toNat).set i.toNat (IntKind.i64.wrap (Int.tdiv (IntKind.i64.wrap (share n l * gI l i.toNat)) (sumL l)))).length : Int) by rw [List.length_set]; omega, ?_⟩
    conv => whnf
    refine ⟨i + 1, ?_, ⟨by omega, by omega⟩, by omega⟩
    exact Eq.trans (b := S13b l ((cutO (share n l) (sumL l) l i.toNat).set i.toNat (IntKind.i64.wrap (Int.tdiv (IntKind.i64.wrap (share n l * gI l i.toNat)) (sumL l)))) (bestL 0 l) (sumL l) (share n l) (IntKind.i64.wrap (cutS (share n l) (sumL l) l i.toNat - gI ((cutO (share n l) (sumL l) l i.toNat).set i.toNat (IntKind.i64.wrap (Int.tdiv (IntKind.i64.wrap (share n l * gI l i.toNat)) (sumL l)))) i.toNat)) (IntKind.i64.wrap (i + 1))) rfl (by rw [hcut, gI_set (by omega), hws, hw, en, cutO_step hN, cutS_step hN])
  have hge : ¬ i < l.length := @of_decide_eq_false _ _ hge
  have hsl := cutS_bd hmb.1 hmb.2 (show 0 < sumL l by omega) hi i.toNat (by omega)
  have hob : ∀ o ∈ l.map (cut (share n l) (sumL l)), 0 ≤ o ∧ o ≤ 255000000 := by
    have := cuts_bd hmb.1 hmb.2 (show 0 < sumL l by omega) hi l.length
    rwa [List.take_length] at this
  have hlc : cutS (share n l) (sumL l) l i.toNat ≤ cnt ((bestL 0 l).toNat : Int) l := by
    rw [cutS_end (by omega)]
    refine left_le (by omega) rfl (fun x hx => ⟨(hi x hx).1, ?_⟩)
    have := (best_ge l 0).2 x hx
    omega
  rw [cutS_end (by omega)] at hsl hlc
  rw [cutO_end (by omega), cutS_end (by omega)]
  conv => whnf
  refine loop_rule (fun (x : Nat × Int × List Int) => S13c l x.2.2 x.2.1 (x.1 : Int)) (fun x => x.1) (fun x => spin l x.1 x.2.1 x.2.2 = spin l (bestL 0 l).toNat (share n l - sumL (l.map (cut (share n l) (sumL l)))) (l.map (cut (share n l) (sumL l))) ∧ x.1 ≤ 255 ∧ x.2.1 ≤ cnt (x.1 : Int) l ∧ x.2.1 ≤ 1000000 ∧ -299000000000 - 1000 * (255 - (x.1 : Int)) ≤ x.2.1 - 1000 ∧ x.2.2.length = l.length ∧ (∀ o ∈ x.2.2, 0 ≤ o ∧ o ≤ 1000000000 - (x.1 : Int))) ?_ ((bestL 0 l).toNat, share n l - sumL (l.map (cut (share n l) (sumL l))), l.map (cut (share n l) (sumL l))) (by kernel_rfl) ?_ ⟨rfl, by show (bestL 0 l).toNat ≤ 255; omega, hlc, by show share n l - _ ≤ 1000000; omega, by show _ ≤ share n l - _ - 1000; omega, by simp, fun o ho => by have := hob o ho; show 0 ≤ o ∧ o ≤ 1000000000 - ((bestL 0 l).toNat : Int); omega⟩
  case refine_2 =>
    exact Eq.trans (b := S13c l (l.map (cut (share n l) (sumL l))) (share n l - sumL (l.map (cut (share n l) (sumL l)))) (bestL 0 l)) rfl (by
      show _ = S13c l (l.map (cut (share n l) (sumL l))) (share n l - sumL (l.map (cut (share n l) (sumL l)))) ((bestL 0 l).toNat : Int)
      rw [Int.toNat_of_nonneg hbest.1])
  rintro ⟨d, left, out⟩ ⟨q1, q2, q3, q4, q5, q6, q7⟩
  simp only at q1 q2 q3 q4 q5 q6 q7
  conv => whnf
  refine cond_intro (fun hlt => ?_) (fun hge => ?_)
  · have hgt : left > 0 := @of_decide_eq_true _ _ hlt
    cases d with
    | zero => have := cnt_zero l; simp at q3; omega
    | succ d =>
    conv => whnf
    have q7' : ∀ o ∈ out, 0 ≤ o ∧ o ≤ 1000000000 := fun o ho => by have := q7 o ho; omega
    have hbd : ∀ i : Nat, i ≤ l.length → midL ((d : Int) + 1) l left i ≤ left ∧ left - i ≤ midL ((d : Int) + 1) l left i := fun i h => midL_bd h
    have ed : ((d + 1 : Nat) : Int) = (d : Int) + 1 := by omega
    refine loop_rule (fun i => S13d l (midO ((d : Int) + 1) l out left i.toNat) (midL ((d : Int) + 1) l left i.toNat) ((d : Int) + 1) i) (fun i => ((l.length : Int) - i).toNat) (fun i => 0 ≤ i ∧ i ≤ l.length) ?_ 0 (by kernel_rfl) ?_ ⟨by omega, by omega⟩
    case refine_2 =>
      exact Eq.trans (b := S13d l out left (d + 1 : Nat) 0) rfl (by rw [show (0 : Int).toNat = 0 from rfl, midO_zero, midL_zero, ed])
    rintro i ⟨h0, h1⟩
    conv => whnf
    refine cond_intro (fun hlt => ?_) (fun hge => ?_)
    · have hlt : i < l.length := @of_decide_eq_true _ _ hlt
      have hN : i.toNat < l.length := by omega
      have hw : IntKind.i64.wrap (i + 1) = i + 1 := wrap_eq (by omega) (by omega)
      have en : (i + 1).toNat = i.toNat + 1 := by omega
      have hol := midO_len (sc := (d : Int) + 1) (left := left) q6 (show i.toNat ≤ l.length by omega)
      have hgo := midO_get (sc := (d : Int) + 1) (left := left) q6 hN
      have hob2 := q7' (gI out i.toNat) (by rw [gI_eq (by omega)]; exact List.getElem_mem _)
      have hb := hbd i.toNat (by omega)
      have hs1 := midL_step (sc := (d : Int) + 1) (left := left) hN
      have hs2 := midO_step (sc := (d : Int) + 1) (left := left) q6 hN
      conv => whnf
      refine ⟨h0, ?_⟩
      conv => whnf
      refine ⟨hlt, ?_⟩
      conv => whnf
      refine cond_intro (fun hq => ?_) (fun hq => ?_)
      · have hq : gI l i.toNat = (d : Int) + 1 := @of_decide_eq_true _ _ hq
        conv => whnf
        refine cond_intro (fun hr => ?_) (fun hr => ?_)
        · have hr : midL ((d : Int) + 1) l left i.toNat > 0 := @of_decide_eq_true _ _ hr
          conv => whnf
          refine ⟨h0, ?_⟩
          conv => whnf
          refine ⟨show i < ((midO ((d : Int) + 1) l out left i.toNat).length : Int) by omega, ?_⟩
          conv => whnf
          refine ⟨h0, ?_⟩
          conv => whnf
          refine ⟨show i < ((midO ((d : Int) + 1) l out left i.toNat).length : Int) by omega, ?_⟩
          conv => whnf
          rw [if_pos ⟨hq, hr⟩] at hs1 hs2
          have hwo : IntKind.i64.wrap (gI out i.toNat + 1) = gI out i.toNat + 1 := wrap_eq (by omega) (by omega)
          have hwl : IntKind.i64.wrap (midL ((d : Int) + 1) l left i.toNat - 1) = midL ((d : Int) + 1) l left i.toNat - 1 := wrap_eq (by omega) (by omega)
          refine ⟨i + 1, ?_, ⟨by omega, by omega⟩, by omega⟩
          exact Eq.trans (b := S13d l ((midO ((d : Int) + 1) l out left i.toNat).set i.toNat (IntKind.i64.wrap (gI (midO ((d : Int) + 1) l out left i.toNat) i.toNat + 1))) (IntKind.i64.wrap (midL ((d : Int) + 1) l left i.toNat - 1)) ((d : Int) + 1) (IntKind.i64.wrap (i + 1))) rfl (by rw [hw, en, hs1, hs2, hwl, hgo, hwo])
        · have hr : ¬ midL ((d : Int) + 1) l left i.toNat > 0 := @of_decide_eq_false _ _ hr
          conv => whnf
          rw [if_neg (fun h => hr h.2)] at hs1 hs2
          refine ⟨i + 1, ?_, ⟨by omega, by omega⟩, by omega⟩
          exact Eq.trans (b := S13d l (midO ((d : Int) + 1) l out left i.toNat) (midL ((d : Int) + 1) l left i.toNat) ((d : Int) + 1) (IntKind.i64.wrap (i + 1))) rfl (by rw [hw, en, hs1, hs2])
      · have hq : ¬ gI l i.toNat = (d : Int) + 1 := @of_decide_eq_false _ _ hq
        conv => whnf
        rw [if_neg (fun h => hq h.1)] at hs1 hs2
        refine ⟨i + 1, ?_, ⟨by omega, by omega⟩, by omega⟩
        exact Eq.trans (b := S13d l (midO ((d : Int) + 1) l out left i.toNat) (midL ((d : Int) + 1) l left i.toNat) ((d : Int) + 1) (IntKind.i64.wrap (i + 1))) rfl (by rw [hw, en, hs1, hs2])
    have hge : ¬ i < l.length := @of_decide_eq_false _ _ hge
    rw [midO_end q6 (by omega), midL_end (by omega)]
    have pl := passL_ge ((d : Int) + 1) l left
    rw [ed] at q3
    have pc := passL_le (d : Int) (by omega) l left 0 (by omega) (by omega)
    have hwd : IntKind.i64.wrap ((d : Int) + 1 - 1) = d := by rw [show (d : Int) + 1 - 1 = d by omega]; exact wrap_eq (by omega) (by omega)
    conv => whnf
    refine ⟨(d, passL ((d : Int) + 1) l left, passO ((d : Int) + 1) l out left), ?_, ⟨?_, ?_, ?_, ?_, ?_, ?_, ?_⟩, ?_⟩
    · exact Eq.trans (b := S13c l (passO ((d : Int) + 1) l out left) (passL ((d : Int) + 1) l left) (IntKind.i64.wrap ((d : Int) + 1 - 1))) rfl (by rw [hwd])
    · show spin l d _ _ = _
      show spin l d (passL ((d : Int) + 1) l left) (passO ((d : Int) + 1) l out left) = _
      rw [← q1, spin, if_pos hgt]
    · show d ≤ 255
      omega
    · show passL _ l left ≤ cnt (d : Int) l
      omega
    · show passL _ l left ≤ 1000000
      omega
    · show _ ≤ passL _ l left - 1000
      simp only
      omega
    · exact passO_len _ l out left q6
    · intro o ho
      have := passO_bd _ (1000000000 - ((d : Int) + 1)) l out left (fun y hy => by have := q7 y hy; omega) o ho
      show 0 ≤ o ∧ o ≤ 1000000000 - (d : Int)
      omega
    · show d < d + 1
      omega
  have hle : ¬ left > 0 := @of_decide_eq_false _ _ hge
  conv => whnf
  show (out, 0) = splitOf n l
  rw [v2, ← q1]
  cases d with
  | zero => rfl
  | succ d => rw [spin, if_neg hle]
end
end Go.Proofs.Yteidanhfkaljaaa.Eng
set_option linter.unusedVariables false
namespace Go.Proofs.Yteidanhfkaljaaa.Eng
open Go
set_option maxRecDepth 100000
noncomputable section
def E14 : Env := ⟨tab, [(36, K36)], fun n => match n with | 5 => some ([0, 1, 6, 7, 23, 24, 25], [], []) | 13 => some ([0, 1, 6, 7, 36, 37, 38], [], []) | 24 => some ([1, 6, 7, 12, 13, 14, 60, 61, 62], [], []) | 30 => some ([1, 12, 14, 17], [], []) | 33 => some ([1, 12, 14, 17, 87, 88, 89], [], []) | _ => none⟩
theorem allIn_take {m : Int} {l : List Int} {i : Nat} (h : i < l.length) (ha : allIn m (l.take i) = true) (hx : 0 ≤ gI l i ∧ gI l i ≤ m) : allIn m (l.take (i + 1)) = true := by
  rw [take_succ_gI h]
  rw [allIn_iff] at ha ⊢
  intro x hm
  rcases List.mem_append.1 hm with h1 | h1
  · exact ha x h1
  · rw [List.mem_singleton.1 h1]; exact hx
theorem allIn_bad {m : Int} {l : List Int} {i : Nat} (h : i < l.length) (hx : ¬ (0 ≤ gI l i ∧ gI l i ≤ m)) : allIn m l = false := by
  cases e : allIn m l with
  | false => rfl
  | true => exact absurd ((allIn_iff m l).1 e _ (by rw [gI_eq h]; exact List.getElem_mem _)) hx
def R14a (n : Int) (l : List Int) (i : Int) : SL := ⟨[.int .i64 n, .sl I l] ++ List.replicate 4 .undef ++ [.int .i64 0, .int .i64 0] ++ List.replicate 15 .undef ++ [.sl I l, .int .i64 l.length, .int .i64 i] ++ List.replicate 85 .undef, [], 0⟩
def R14b (n : Int) (l : List Int) (b s i : Int) : SL := ⟨[.int .i64 n, .sl I l] ++ List.replicate 4 .undef ++ [.int .i64 b, .int .i64 s] ++ List.replicate 28 .undef ++ [.sl I l, .int .i64 l.length, .int .i64 i] ++ List.replicate 72 .undef, [], 0⟩
def R14c (l out : List Int) (b s m left i : Int) : SL := ⟨[.undef, .sl I l] ++ List.replicate 4 .undef ++ [.int .i64 b, .int .i64 s] ++ List.replicate 4 .undef ++ [.own 0, .int .i64 m, .int .i64 left] ++ List.replicate 45 .undef ++ [.sl I l, .int .i64 l.length, .int .i64 i] ++ List.replicate 48 .undef, [(0, .arr I out)], 1⟩
def R14d (l out : List Int) (left d : Int) : SL := ⟨[.undef, .sl I l] ++ List.replicate 10 .undef ++ [.own 0, .undef, .int .i64 left, .undef, .undef, .int .i64 d] ++ List.replicate 93 .undef, [(0, .arr I out)], 1⟩
def R14e (l out : List Int) (left d i : Int) : SL := ⟨[.undef, .sl I l] ++ List.replicate 10 .undef ++ [.own 0, .undef, .int .i64 left, .undef, .undef, .int .i64 d] ++ List.replicate 69 .undef ++ [.sl I l, .int .i64 l.length, .int .i64 i] ++ List.replicate 21 .undef, [(0, .arr I out)], 1⟩
def K14 : Fn1 := K13
theorem k14 : FnOk Go.Proofs.Try.prog 14 K14 := by
  refine fn_ok (E := E14) (TOk.of tab_told) (AllOk.cons k36 .nil).at_ mix Go.Proofs.Try.func14 rfl rfl (by kernel_rfl) K14 ?_
  rintro ⟨(n : Int), (l : List Int)⟩ hp
  have hl : l.length ≤ 140737488351232 := hp _ (List.mem_cons_self ..)
  clear hp
  conv => whnf
  refine cond_intro (fun hn => ?_) (fun hn => ?_)
  · have hn : (!(decide (0 ≤ n) && decide (n ≤ 1000000))) = true := hn
    have hn : ¬ (0 ≤ n ∧ n ≤ 1000000) := fun c => by simp [c.1, c.2] at hn
    conv => whnf
    show ([], 1) = splitOf n l
    rw [splitOf, if_pos hn]
  have hn : (!(decide (0 ≤ n) && decide (n ≤ 1000000))) = false := hn
  have hn : 0 ≤ n ∧ n ≤ 1000000 := by simpa using hn
  conv => whnf
  refine loop_rule (fun i => R14a n l i) (fun i => ((l.length : Int) - i).toNat) (fun i => 0 ≤ i ∧ i ≤ l.length ∧ allIn 255 (l.take i.toNat) = true) ?_ 0 (by kernel_rfl) ?_ ⟨by omega, by omega, rfl⟩
  case refine_2 => rfl
  rintro i ⟨h0, h1, hal⟩
  conv => whnf
  refine cond_intro (fun hlt => ?_) (fun hge => ?_)
  · have hlt : i < l.length := @of_decide_eq_true _ _ hlt
    have hw : IntKind.i64.wrap (i + 1) = i + 1 := wrap_eq (by omega) (by omega)
    have en : (i + 1).toNat = i.toNat + 1 := by omega
    conv => whnf
    refine ⟨h0, ?_⟩
    conv => whnf
    refine ⟨hlt, ?_⟩
    conv => whnf
    refine cond_intro (fun hx => ?_) (fun hx => ?_)
    · have hx : (!(decide (0 ≤ gI l i.toNat) && decide (gI l i.toNat ≤ 255))) = true := hx
      have hx : ¬ (0 ≤ gI l i.toNat ∧ gI l i.toNat ≤ 255) := fun c => by simp [c.1, c.2] at hx
      conv => whnf
      show ([], 1) = splitOf n l
      rw [splitOf, if_neg (fun h => h hn), if_pos (allIn_bad (by omega) hx)]
    · have hx : (!(decide (0 ≤ gI l i.toNat) && decide (gI l i.toNat ≤ 255))) = false := hx
      have hx : 0 ≤ gI l i.toNat ∧ gI l i.toNat ≤ 255 := by simpa using hx
      conv => whnf
      refine ⟨i + 1, ?_, ⟨by omega, by omega, by rw [en]; exact allIn_take (by omega) hal hx⟩, by omega⟩
      exact Eq.trans (b := R14a n l (IntKind.i64.wrap (i + 1))) rfl (by rw [hw])
  have hge : ¬ i < l.length := @of_decide_eq_false _ _ hge
  rw [List.take_of_length_le (by omega)] at hal
  have ha : allIn 255 l = true := hal
  have hi := in255 ha
  clear hal
  conv => whnf
  refine cond_intro (fun hg => ?_) (fun hg => ?_)
  · have hg : 1000 < (l.length : Int) := @of_decide_eq_true _ _ hg
    conv => whnf
    show ([], 4) = splitOf n l
    rw [splitOf, if_neg (fun h => h hn), if_neg (by simp [ha]), if_pos hg]
  have hg : ¬ 1000 < (l.length : Int) := @of_decide_eq_false _ _ hg
  have v1 : splitOf n l = if sumL l = 0 then (List.replicate l.length 0, 0) else
      (spin l (bestL 0 l).toNat (share n l - sumL (l.map (cut (share n l) (sumL l)))) (l.map (cut (share n l) (sumL l))), 0) := by
    rw [splitOf, if_neg (fun h => h hn), if_neg (by simp [ha]), if_neg (by omega)]
  conv => whnf
  refine loop_rule (fun i => R14b n l (bestL 0 (l.take i.toNat)) (sumL (l.take i.toNat)) i) (fun i => ((l.length : Int) - i).toNat) (fun i => 0 ≤ i ∧ i ≤ l.length) ?_ 0 (by kernel_rfl) ?_ ⟨by omega, by omega⟩
  case refine_2 => rfl
  rintro i ⟨h0, h1⟩
  conv => whnf
  refine cond_intro (fun hlt => ?_) (fun hge => ?_)
  · have hlt : i < l.length := @of_decide_eq_true _ _ hlt
    have e : gI l i.toNat = l[i.toNat]'(by omega) := gI_eq _
    have ht : l.take (i.toNat + 1) = l.take i.toNat ++ [gI l i.toNat] := by rw [List.take_succ_eq_append_getElem (by omega), e]
    have hw : IntKind.i64.wrap (i + 1) = i + 1 := wrap_eq (by omega) (by omega)
    have en : (i + 1).toNat = i.toNat + 1 := by omega
    have hx : 0 ≤ gI l i.toNat ∧ gI l i.toNat ≤ 255 := hi _ (by rw [e]; exact List.getElem_mem _)
    have hsb := sum_bd (l.take i.toNat) (fun x hx => hi x (List.mem_of_mem_take hx))
    have hlen : (l.take i.toNat).length ≤ 1000 := by rw [List.length_take]; omega
    have hws : IntKind.i64.wrap (sumL (l.take i.toNat) + gI l i.toNat) = sumL (l.take i.toNat) + gI l i.toNat := wrap_eq (by omega) (by omega)
    conv => whnf
    refine ⟨h0, ?_⟩
    conv => whnf
    refine ⟨hlt, ?_⟩
    conv => whnf
    refine ⟨i + 1, ?_, ⟨by omega, by omega⟩, by omega⟩
    exact Eq.trans (b := R14b n l (mx (bestL 0 (l.take i.toNat)) (gI l i.toNat)) (IntKind.i64.wrap (sumL (l.take i.toNat) + gI l i.toNat)) (IntKind.i64.wrap (i + 1))) rfl (by rw [hw, hws, en, ht, bestL_snoc, sumL_snoc])
  have hge : ¬ i < l.length := @of_decide_eq_false _ _ hge
  have el : l.take i.toNat = l := List.take_of_length_le (by omega)
  rw [el]
  conv => whnf
  refine ⟨show (0 : Int) ≤ l.length by omega, ?_⟩
  conv => whnf
  refine ⟨show (l.length : Int) ≤ l.length by omega, ?_⟩
  conv => whnf
  refine ⟨show (l.length : Int) * 8 ≤ 70368744177664 by omega, ?_⟩
  conv => whnf
  refine ⟨show (l.length : Int) ≤ 70368744177664 by omega, ?_⟩
  conv => whnf
  have hsum := sum_bd l hi
  have hbest := best_bd l 0 hi (by omega) (by omega)
  refine cond_intro (fun hz => ?_) (fun hz => ?_)
  · have hz : sumL l = 0 := @of_decide_eq_true _ _ hz
    conv => whnf
    show (List.replicate l.length 0, 0) = splitOf n l
    rw [v1, if_pos hz]
  have hz : ¬ sumL l = 0 := @of_decide_eq_false _ _ hz
  have v2 : splitOf n l = (spin l (bestL 0 l).toNat (share n l - sumL (l.map (cut (share n l) (sumL l)))) (l.map (cut (share n l) (sumL l))), 0) := by
    rw [v1, if_neg hz]
  have hnb : 0 ≤ n * bestL 0 l ∧ n * bestL 0 l ≤ 255000000 := ⟨Int.mul_nonneg hn.1 hbest.1, by
    have := Int.mul_le_mul hn.2 hbest.2 hbest.1 (show (0 : Int) ≤ 1000000 by omega)
    omega⟩
  have hm : IntKind.i64.wrap (Int.tdiv (IntKind.i64.wrap (n * bestL 0 l)) 255) = share n l := by
    rw [wrap_eq (i := n * bestL 0 l) (by omega) (by omega), Int.tdiv_eq_ediv_of_nonneg hnb.1]
    unfold share
    exact wrap_eq (by omega) (by omega)
  have hmb : 0 ≤ share n l ∧ share n l ≤ 1000000 := by unfold share; omega
  conv => whnf
  refine ⟨show (255 : Int) ≠ 0 by omega, ?_⟩
  conv => whnf
  refine loop_rule (fun i => R14c l (cutO (share n l) (sumL l) l i.toNat) (bestL 0 l) (sumL l) (share n l) (cutS (share n l) (sumL l) l i.toNat) i) (fun i => ((l.length : Int) - i).toNat) (fun i => 0 ≤ i ∧ i ≤ l.length) ?_ 0 (by kernel_rfl) ?_ ⟨by omega, by omega⟩
  case refine_2 =>
    exact Eq.trans (b := R14c l (List.replicate l.length 0) (bestL 0 l) (sumL l) (IntKind.i64.wrap (Int.tdiv (IntKind.i64.wrap (n * bestL 0 l)) 255)) (IntKind.i64.wrap (Int.tdiv (IntKind.i64.wrap (n * bestL 0 l)) 255)) 0) rfl (by rw [hm, show (0 : Int).toNat = 0 from rfl, cutO_zero, cutS_zero])
  rintro i ⟨h0, h1⟩
  conv => whnf
  refine cond_intro (fun hlt => ?_) (fun hge => ?_)
  · have hlt : i < l.length := @of_decide_eq_true _ _ hlt
    have hN : i.toNat < l.length := by omega
    have e : gI l i.toNat = l[i.toNat]'(by omega) := gI_eq _
    have hx : 0 ≤ gI l i.toNat ∧ gI l i.toNat ≤ 255 := hi _ (by rw [e]; exact List.getElem_mem _)
    have hw : IntKind.i64.wrap (i + 1) = i + 1 := wrap_eq (by omega) (by omega)
    have en : (i + 1).toNat = i.toNat + 1 := by omega
    have hc := cut_bd hmb.1 hmb.2 (show 0 < sumL l by omega) hx.1 hx.2
    have hcut : IntKind.i64.wrap (Int.tdiv (IntKind.i64.wrap (share n l * gI l i.toNat)) (sumL l)) = cut (share n l) (sumL l) (gI l i.toNat) := by
      rw [wrap_eq (i := share n l * gI l i.toNat) (by omega) (by omega), Int.tdiv_eq_ediv_of_nonneg hc.1]
      exact wrap_eq (by unfold cut at hc; omega) (by unfold cut at hc; omega)
    have hol := cutO_len (m := share n l) (s := sumL l) (show i.toNat ≤ l.length by omega)
    have hsl := cutS_bd hmb.1 hmb.2 (show 0 < sumL l by omega) hi i.toNat (by omega)
    have hws : IntKind.i64.wrap (cutS (share n l) (sumL l) l i.toNat - cut (share n l) (sumL l) (gI l i.toNat)) = cutS (share n l) (sumL l) l i.toNat - cut (share n l) (sumL l) (gI l i.toNat) := wrap_eq (by omega) (by omega)
    conv => whnf
    refine ⟨h0, ?_⟩
    conv => whnf
    refine ⟨hlt, ?_⟩
    conv => whnf
    refine ⟨hz, ?_⟩
    conv => whnf
    refine ⟨h0, ?_⟩
    conv => whnf
    refine ⟨show i < ((cutO (share n l) (sumL l) l i.toNat).length : Int) by omega, ?_⟩
    conv => whnf
    refine ⟨h0, ?_⟩
    conv => whnf
    refine ⟨show i < (((cutO (share n l) (sumL l) l i.toNat).set i.toNat (IntKind.i64.wrap (Int.tdiv (IntKind.i64.wrap (share n l * gI l i.toNat)) (sumL l)))).length : Int) by rw [List.length_set]; omega, ?_⟩
    conv => whnf
    refine ⟨i + 1, ?_, ⟨by omega, by omega⟩, by omega⟩
    exact Eq.trans (b := R14c l ((cutO (share n l) (sumL l) l i.toNat).set i.toNat (IntKind.i64.wrap (Int.tdiv (IntKind.i64.wrap (share n l * gI l i.toNat)) (sumL l)))) (bestL 0 l) (sumL l) (share n l) (IntKind.i64.wrap (cutS (share n l) (sumL l) l i.toNat - gI ((cutO (share n l) (sumL l) l i.toNat).set i.toNat (IntKind.i64.wrap (Int.tdiv (IntKind.i64.wrap (share n l * gI l i.toNat)) (sumL l)))) i.toNat)) (IntKind.i64.wrap (i + 1))) rfl (by rw [hcut, gI_set (by omega), hws, hw, en, cutO_step hN, cutS_step hN])
  have hge : ¬ i < l.length := @of_decide_eq_false _ _ hge
  have hsl := cutS_bd hmb.1 hmb.2 (show 0 < sumL l by omega) hi i.toNat (by omega)
  have hob : ∀ o ∈ l.map (cut (share n l) (sumL l)), 0 ≤ o ∧ o ≤ 255000000 := by
    have := cuts_bd hmb.1 hmb.2 (show 0 < sumL l by omega) hi l.length
    rwa [List.take_length] at this
  have hlc : cutS (share n l) (sumL l) l i.toNat ≤ cnt ((bestL 0 l).toNat : Int) l := by
    rw [cutS_end (by omega)]
    refine left_le (by omega) rfl (fun x hx => ⟨(hi x hx).1, ?_⟩)
    have := (best_ge l 0).2 x hx
    omega
  rw [cutS_end (by omega)] at hsl hlc
  rw [cutO_end (by omega), cutS_end (by omega)]
  conv => whnf
  refine loop_rule (fun (x : Nat × Int × List Int) => R14d l x.2.2 x.2.1 (x.1 : Int)) (fun x => x.1) (fun x => spin l x.1 x.2.1 x.2.2 = spin l (bestL 0 l).toNat (share n l - sumL (l.map (cut (share n l) (sumL l)))) (l.map (cut (share n l) (sumL l))) ∧ x.1 ≤ 255 ∧ x.2.1 ≤ cnt (x.1 : Int) l ∧ x.2.1 ≤ 1000000 ∧ -299000000000 - 1000 * (255 - (x.1 : Int)) ≤ x.2.1 - 1000 ∧ x.2.2.length = l.length ∧ (∀ o ∈ x.2.2, 0 ≤ o ∧ o ≤ 1000000000 - (x.1 : Int))) ?_ ((bestL 0 l).toNat, share n l - sumL (l.map (cut (share n l) (sumL l))), l.map (cut (share n l) (sumL l))) (by kernel_rfl) ?_ ⟨rfl, by show (bestL 0 l).toNat ≤ 255; omega, hlc, by show share n l - _ ≤ 1000000; omega, by show _ ≤ share n l - _ - 1000; omega, by simp, fun o ho => by have := hob o ho; show 0 ≤ o ∧ o ≤ 1000000000 - ((bestL 0 l).toNat : Int); omega⟩
  case refine_2 =>
    exact Eq.trans (b := R14d l (l.map (cut (share n l) (sumL l))) (share n l - sumL (l.map (cut (share n l) (sumL l)))) (bestL 0 l)) rfl (by
      show _ = R14d l (l.map (cut (share n l) (sumL l))) (share n l - sumL (l.map (cut (share n l) (sumL l)))) ((bestL 0 l).toNat : Int)
      rw [Int.toNat_of_nonneg hbest.1])
  rintro ⟨d, left, out⟩ ⟨q1, q2, q3, q4, q5, q6, q7⟩
  simp only at q1 q2 q3 q4 q5 q6 q7
  conv => whnf
  refine cond_intro (fun hlt => ?_) (fun hge => ?_)
  · have hgt : left > 0 := @of_decide_eq_true _ _ hlt
    cases d with
    | zero => have := cnt_zero l; simp at q3; omega
    | succ d =>
    conv => whnf
    have q7' : ∀ o ∈ out, 0 ≤ o ∧ o ≤ 1000000000 := fun o ho => by have := q7 o ho; omega
    have hbd : ∀ i : Nat, i ≤ l.length → midL ((d : Int) + 1) l left i ≤ left ∧ left - i ≤ midL ((d : Int) + 1) l left i := fun i h => midL_bd h
    have ed : ((d + 1 : Nat) : Int) = (d : Int) + 1 := by omega
    refine loop_rule (fun i => R14e l (midO ((d : Int) + 1) l out left i.toNat) (midL ((d : Int) + 1) l left i.toNat) ((d : Int) + 1) i) (fun i => ((l.length : Int) - i).toNat) (fun i => 0 ≤ i ∧ i ≤ l.length) ?_ 0 (by kernel_rfl) ?_ ⟨by omega, by omega⟩
    case refine_2 =>
      exact Eq.trans (b := R14e l out left (d + 1 : Nat) 0) rfl (by rw [show (0 : Int).toNat = 0 from rfl, midO_zero, midL_zero, ed])
    rintro i ⟨h0, h1⟩
    conv => whnf
    refine cond_intro (fun hlt => ?_) (fun hge => ?_)
    · have hlt : i < l.length := @of_decide_eq_true _ _ hlt
      have hN : i.toNat < l.length := by omega
      have hw : IntKind.i64.wrap (i + 1) = i + 1 := wrap_eq (by omega) (by omega)
      have en : (i + 1).toNat = i.toNat + 1 := by omega
      have hol := midO_len (sc := (d : Int) + 1) (left := left) q6 (show i.toNat ≤ l.length by omega)
      have hgo := midO_get (sc := (d : Int) + 1) (left := left) q6 hN
      have hob2 := q7' (gI out i.toNat) (by rw [gI_eq (by omega)]; exact List.getElem_mem _)
      have hb := hbd i.toNat (by omega)
      have hs1 := midL_step (sc := (d : Int) + 1) (left := left) hN
      have hs2 := midO_step (sc := (d : Int) + 1) (left := left) q6 hN
      conv => whnf
      refine ⟨h0, ?_⟩
      conv => whnf
      refine ⟨hlt, ?_⟩
      conv => whnf
      refine cond_intro (fun hq => ?_) (fun hq => ?_)
      · have hq : gI l i.toNat = (d : Int) + 1 := @of_decide_eq_true _ _ hq
        conv => whnf
        refine cond_intro (fun hr => ?_) (fun hr => ?_)
        · have hr : midL ((d : Int) + 1) l left i.toNat > 0 := @of_decide_eq_true _ _ hr
          conv => whnf
          refine ⟨h0, ?_⟩
          conv => whnf
          refine ⟨show i < ((midO ((d : Int) + 1) l out left i.toNat).length : Int) by omega, ?_⟩
          conv => whnf
          refine ⟨h0, ?_⟩
          conv => whnf
          refine ⟨show i < ((midO ((d : Int) + 1) l out left i.toNat).length : Int) by omega, ?_⟩
          conv => whnf
          rw [if_pos ⟨hq, hr⟩] at hs1 hs2
          have hwo : IntKind.i64.wrap (gI out i.toNat + 1) = gI out i.toNat + 1 := wrap_eq (by omega) (by omega)
          have hwl : IntKind.i64.wrap (midL ((d : Int) + 1) l left i.toNat - 1) = midL ((d : Int) + 1) l left i.toNat - 1 := wrap_eq (by omega) (by omega)
          refine ⟨i + 1, ?_, ⟨by omega, by omega⟩, by omega⟩
          exact Eq.trans (b := R14e l ((midO ((d : Int) + 1) l out left i.toNat).set i.toNat (IntKind.i64.wrap (gI (midO ((d : Int) + 1) l out left i.toNat) i.toNat + 1))) (IntKind.i64.wrap (midL ((d : Int) + 1) l left i.toNat - 1)) ((d : Int) + 1) (IntKind.i64.wrap (i + 1))) rfl (by rw [hw, en, hs1, hs2, hwl, hgo, hwo])
        · have hr : ¬ midL ((d : Int) + 1) l left i.toNat > 0 := @of_decide_eq_false _ _ hr
          conv => whnf
          rw [if_neg (fun h => hr h.2)] at hs1 hs2
          refine ⟨i + 1, ?_, ⟨by omega, by omega⟩, by omega⟩
          exact Eq.trans (b := R14e l (midO ((d : Int) + 1) l out left i.toNat) (midL ((d : Int) + 1) l left i.toNat) ((d : Int) + 1) (IntKind.i64.wrap (i + 1))) rfl (by rw [hw, en, hs1, hs2])
      · have hq : ¬ gI l i.toNat = (d : Int) + 1 := @of_decide_eq_false _ _ hq
        conv => whnf
        rw [if_neg (fun h => hq h.1)] at hs1 hs2
        refine ⟨i + 1, ?_, ⟨by omega, by omega⟩, by omega⟩
        exact Eq.trans (b := R14e l (midO ((d : Int) + 1) l out left i.toNat) (midL ((d : Int) + 1) l left i.toNat) ((d : Int) + 1) (IntKind.i64.wrap (i + 1))) rfl (by rw [hw, en, hs1, hs2])
    have hge : ¬ i < l.length := @of_decide_eq_false _ _ hge
    rw [midO_end q6 (by omega), midL_end (by omega)]
    have pl := passL_ge ((d : Int) + 1) l left
    rw [ed] at q3
    have pc := passL_le (d : Int) (by omega) l left 0 (by omega) (by omega)
    have hwd : IntKind.i64.wrap ((d : Int) + 1 - 1) = d := by rw [show (d : Int) + 1 - 1 = d by omega]; exact wrap_eq (by omega) (by omega)
    conv => whnf
    refine ⟨(d, passL ((d : Int) + 1) l left, passO ((d : Int) + 1) l out left), ?_, ⟨?_, ?_, ?_, ?_, ?_, ?_, ?_⟩, ?_⟩
    · exact Eq.trans (b := R14d l (passO ((d : Int) + 1) l out left) (passL ((d : Int) + 1) l left) (IntKind.i64.wrap ((d : Int) + 1 - 1))) rfl (by rw [hwd])
    · show spin l d _ _ = _
      show spin l d (passL ((d : Int) + 1) l left) (passO ((d : Int) + 1) l out left) = _
      rw [← q1, spin, if_pos hgt]
    · show d ≤ 255
      omega
    · show passL _ l left ≤ cnt (d : Int) l
      omega
    · show passL _ l left ≤ 1000000
      omega
    · show _ ≤ passL _ l left - 1000
      simp only
      omega
    · exact passO_len _ l out left q6
    · intro o ho
      have := passO_bd _ (1000000000 - ((d : Int) + 1)) l out left (fun y hy => by have := q7 y hy; omega) o ho
      show 0 ≤ o ∧ o ≤ 1000000000 - (d : Int)
      omega
    · show d < d + 1
      omega
  have hle : ¬ left > 0 := @of_decide_eq_false _ _ hge
  conv => whnf
  show (out, 0) = splitOf n l
  rw [v2, ← q1]
  cases d with
  | zero => rfl
  | succ d => rw [spin, if_neg hle]
end
end Go.Proofs.Yteidanhfkaljaaa.Eng
