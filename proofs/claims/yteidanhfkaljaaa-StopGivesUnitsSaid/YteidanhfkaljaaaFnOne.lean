/- What the functions that the law reaches answer, each for every input. -/
import Derived.Test.YteidanhfkaljaaaEngTwo
import Derived.Test.YteidanhfkaljaaaChecked
import Derived.Shelf.Lay
import Derived.Shelf.SlGeneric
import Derived.Ground.SlsfProg
set_option linter.unusedVariables false
set_option linter.unusedSimpArgs false
set_option linter.unusedVariables false
namespace Go.Proofs.Yteidanhfkaljaaa.Eng
open Go
set_option maxRecDepth 100000
noncomputable section
abbrev I : Ty := .int .i64
theorem mix : Go.Proofs.Try.prog.follows .mixedOrders = true := by kernel_rfl
def withinR (a : Int × List Int) : Bool := a.2.all fun n => decide (0 ≤ n) && decide (n ≤ a.1)
def gI (l : List Int) (n : Nat) : Int := l.getD n 0
theorem gI_eq {l : List Int} {n : Nat} (h : n < l.length) : gI l n = l[n] := by simp [gI, h]
theorem wrap_eq {i : Int} (h : -9223372036854775808 ≤ i) (g : i ≤ 9223372036854775807) : IntKind.i64.wrap i = i := by rw [IntKind.wrap_i64]; omega
def K35 : Fn1 := ⟨.fld I (.one (.sl I)), .one .bool, fun (a : Int × List Int) => [a.2.length ≤ 140737488351232], fun (a : Int × List Int) => withinR a⟩
def E35 : Env := ⟨tab, [], fun n => match n with | 2 => some ([0, 4, 7, 8, 9], [], []) | _ => none⟩
def S35 (most : Int) (l : List Int) (i : Int) : SL := ⟨[.int .i64 most, .undef, .undef, .undef, .bool false, .undef, .undef, .sl I l, .int .i64 l.length, .int .i64 i] ++ List.replicate 11 .undef, [], 0⟩
theorem k35 : FnOk Go.Proofs.Try.prog 35 K35 := by
  refine fn_ok (E := E35) (TOk.of tab_told) (fun f k h => by cases h) mix Go.Proofs.Try.func35 rfl rfl (by kernel_rfl) K35 ?_
  rintro ⟨(most : Int), (l : List Int)⟩ hp
  have hl : l.length ≤ 140737488351232 := hp _ (List.mem_cons_self ..)
  clear hp
  conv => whnf
  refine loop_rule (S35 most l) (fun i => ((l.length : Int) - i).toNat) (fun i => 0 ≤ i ∧ i ≤ l.length ∧ ∀ n ∈ l.take i.toNat, 0 ≤ n ∧ n ≤ most) ?_ 0 (by kernel_rfl) ?_ ⟨by omega, by omega, by simp⟩
  case refine_2 => rfl
  rintro i ⟨h0, h1, h2⟩
  conv => whnf
  have hr : ∀ h : i < l.length, gI l i.toNat = l[i.toNat]'(by omega) := fun h => gI_eq _
  refine cond_intro (fun hlt => ?_) (fun hge => ?_)
  · have hlt := of_decide_eq_true hlt
    have e := hr hlt
    have ht : l.take (i.toNat + 1) = l.take i.toNat ++ [gI l i.toNat] := by rw [List.take_succ_eq_append_getElem (by omega), e]
    have hm : gI l i.toNat ∈ l := by rw [e]; exact List.getElem_mem _
    conv => whnf
    refine ⟨h0, ?_⟩
    conv => whnf
    refine ⟨hlt, ?_⟩
    conv => whnf
    refine cond_intro (fun hneg => ?_) (fun hpos => ?_)
    · have hneg : gI l i.toNat < 0 := @of_decide_eq_true _ _ hneg
      conv => whnf
      refine (List.all_eq_false.2 ⟨_, hm, ?_⟩).symm
      simp; omega
    · have hpos : ¬ gI l i.toNat < 0 := @of_decide_eq_false _ _ hpos
      conv => whnf
      refine cond_intro (fun hbig => ?_) (fun hok => ?_)
      · have hbig : most < gI l i.toNat := @of_decide_eq_true _ _ hbig
        conv => whnf
        refine (List.all_eq_false.2 ⟨_, hm, ?_⟩).symm
        simp; omega
      · have hok : ¬ most < gI l i.toNat := @of_decide_eq_false _ _ hok
        conv => whnf
        have hw : IntKind.i64.wrap (i + 1) = i + 1 := wrap_eq (by omega) (by omega)
        refine ⟨i + 1, ?_, ⟨by omega, by omega, ?_⟩, by omega⟩
        · exact Eq.trans (b := S35 most l (IntKind.i64.wrap (i + 1))) rfl (by rw [hw])
        · rw [show (i + 1).toNat = i.toNat + 1 by omega, ht]
          intro n hn
          rcases List.mem_append.1 hn with hn | hn
          · exact h2 n hn
          · cases List.mem_singleton.1 hn
            exact ⟨by omega, by omega⟩
  · have hge := of_decide_eq_false hge
    conv => whnf
    refine (List.all_eq_true.2 fun n hn => ?_).symm
    have := h2 n (by rw [show i.toNat = l.length by omega, List.take_length]; exact hn)
    simp; omega
end
end Go.Proofs.Yteidanhfkaljaaa.Eng
set_option linter.unusedVariables false
namespace Go.Proofs.Yteidanhfkaljaaa.Eng
open Go
set_option maxRecDepth 100000
noncomputable section
abbrev plT : Ty := .fld I (.one I)
abbrev paT : Ty := .fld I (.fld I (.fld I (.fld I (.fld I (.one I)))))
abbrev raT : Ty := .fld I (.fld I (.fld I (.fld I (.one I))))
abbrev stT : Ty := .fld I (.fld (.sl plT) (.fld (.sl paT) (.one (.sl raT))))
abbrev St := Int × List (Int × Int) × List (Int × Int × Int × Int × Int × Int) × List (Int × Int × Int × Int × Int)
def ann0 : Nat → Option Ann := fun _ => none
def E0 : Env := ⟨tab, [], ann0⟩
theorem noK : ∀ f k, findK (E0).K f = some k → CtrOk Go.Proofs.Try.prog f k := fun f k h => by cases h
def K36 : Fn1 := ⟨.fld I (.fld I (.one I)), .one .bool, fun _ => [], fun (a : Int × Int × Int) => decide (a.2.1 ≤ a.1) && decide (a.1 ≤ a.2.2)⟩
theorem k36 : FnOk Go.Proofs.Try.prog 36 K36 := by
  refine fn_ok (E := E0) (TOk.of tab_told) noK mix Go.Proofs.Try.func36 rfl rfl (by kernel_rfl) K36 ?_
  rintro ⟨(n : Int), (l : Int), (m : Int)⟩ hp
  clear hp
  iterate 3 (all_goals (conv => whnf); all_goals (try (refine cond_intro (fun h => ?_) (fun h => ?_))))
  all_goals (simp only [decide_eq_true_eq, decide_eq_false_iff_not] at *)
  · have : l ≤ n := by assumption
    exact Eq.symm (by show (decide (l ≤ n) && decide (n ≤ m)) = decide (n ≤ m); simp [this])
  · have : ¬ l ≤ n := by assumption
    exact Eq.symm (by show (decide (l ≤ n) && decide (n ≤ m)) = false; simp [this])
def sizedR (w h t : Int) : Int := if w < 4 ∨ 32 < w ∨ h < 4 ∨ 32 < h then 1 else if t < 0 ∨ IntKind.i64.wrap (w * h) ≤ t then 2 else 0
def K37 : Fn1 := ⟨.fld I (.fld I (.one I)), .one I, fun _ => [], fun (a : Int × Int × Int) => sizedR a.1 a.2.1 a.2.2⟩
theorem k37 : FnOk Go.Proofs.Try.prog 37 K37 := by
  refine fn_ok (E := E0) (TOk.of tab_told) noK mix Go.Proofs.Try.func37 rfl rfl (by kernel_rfl) K37 ?_
  rintro ⟨(w : Int), (v : Int), (t : Int)⟩ hp
  clear hp
  iterate 9 (all_goals (conv => whnf); all_goals (try (refine cond_intro (fun h => ?_) (fun h => ?_))))
  all_goals (simp only [decide_eq_true_eq, decide_eq_false_iff_not, cond_false] at *)
  all_goals (show _ = sizedR w v t; unfold sizedR)
  all_goals (split <;> (try split) <;> (first | rfl | omega))
def sub64 (a b : Int) : Int := IntKind.i64.wrap (a - b)
def quo64 (a b : Int) : Int := IntKind.i64.wrap (Int.tdiv a b)
def apartR (w a b : Int) : Int := max2 (max2 (max2 (sub64 (Int.tmod a w) (Int.tmod b w)) (sub64 0 (sub64 (Int.tmod a w) (Int.tmod b w)))) (sub64 (quo64 a w) (quo64 b w))) (sub64 0 (sub64 (quo64 a w) (quo64 b w)))
def K48 : Fn1 := ⟨.fld I (.fld I (.one I)), .one I, fun (a : Int × Int × Int) => [a.1 ≠ 0], fun (a : Int × Int × Int) => apartR a.1 a.2.1 a.2.2⟩
theorem k48 : FnOk Go.Proofs.Try.prog 48 K48 := by
  refine fn_ok (E := E0) (TOk.of tab_told) noK mix Go.Proofs.Try.func48 rfl rfl (by kernel_rfl) K48 ?_
  rintro ⟨(w : Int), (a : Int), (b : Int)⟩ hp
  have hw : w ≠ 0 := hp _ (List.mem_cons_self ..)
  clear hp
  iterate 8 (all_goals (conv => whnf); all_goals (try (refine ⟨hw, ?_⟩)); all_goals (try (refine cond_intro (fun h => ?_) (fun h => ?_))))
  rfl
def reachR (k : Int) : Int := [3, 2, 4, 5].getD k.toNat 0
def K61 : Fn1 := ⟨.one I, .one I, fun (a : Int) => [(0 : Int) ≤ a, (a : Int) ≤ 3], fun (a : Int) => reachR a⟩
theorem k61 : FnOk Go.Proofs.Try.prog 61 K61 := by
  refine fn_ok (E := E0) (TOk.of tab_told) noK mix Go.Proofs.Try.func61 rfl rfl (by kernel_rfl) K61 ?_
  rintro (k : Int) hp
  have h0 : 0 ≤ k := hp _ (List.mem_cons_self ..)
  have h1 : k ≤ 3 := hp _ (List.mem_cons_of_mem _ (List.mem_cons_self ..))
  clear hp
  conv => whnf
  refine ⟨h0, ?_⟩
  conv => whnf
  refine ⟨show k < 4 by omega, ?_⟩
  conv => whnf
  rfl
def K44 : Fn1 := ⟨.one (.sl plT), .one (.sl plT), fun (a : List (Int × Int)) => [a.length ≤ 100000], fun a => a⟩
theorem k44 : FnOk Go.Proofs.Try.prog 44 K44 := by
  refine fn_ok (E := E0) (TOk.of tab_told) noK mix Go.Proofs.Try.func44 rfl rfl (by kernel_rfl) K44 ?_
  rintro (l : List (Int × Int)) hp
  have hl : l.length ≤ 100000 := hp _ (List.mem_cons_self ..)
  clear hp
  conv => whnf
  refine ⟨show (0 : Int) ≤ (l.length : Int) by omega, ?_⟩
  conv => whnf
  refine ⟨show (l.length : Int) ≤ (l.length : Int) by omega, ?_⟩
  conv => whnf
  refine ⟨show (l.length : Int) * (16 : Int) ≤ 70368744177664 by omega, ?_⟩
  conv => whnf
  refine ⟨show (l.length : Int) ≤ 70368744177664 by omega, ?_⟩
  conv => whnf
  show l.take (List.replicate (l.length : Int).toNat ((0, 0) : (Int × Int))).length ++ (List.replicate (l.length : Int).toNat ((0, 0) : (Int × Int))).drop l.length = l
  simp
def K51 : Fn1 := ⟨.one (.sl raT), .one (.sl raT), fun (a : List (Int × Int × Int × Int × Int)) => [a.length ≤ 100000], fun a => a⟩
theorem k51 : FnOk Go.Proofs.Try.prog 51 K51 := by
  refine fn_ok (E := E0) (TOk.of tab_told) noK mix Go.Proofs.Try.func51 rfl rfl (by kernel_rfl) K51 ?_
  rintro (l : List (Int × Int × Int × Int × Int)) hp
  have hl : l.length ≤ 100000 := hp _ (List.mem_cons_self ..)
  clear hp
  conv => whnf
  refine ⟨show (0 : Int) ≤ (l.length : Int) by omega, ?_⟩
  conv => whnf
  refine ⟨show (l.length : Int) ≤ (l.length : Int) by omega, ?_⟩
  conv => whnf
  refine ⟨show (l.length : Int) * (40 : Int) ≤ 70368744177664 by omega, ?_⟩
  conv => whnf
  refine ⟨show (l.length : Int) ≤ 70368744177664 by omega, ?_⟩
  conv => whnf
  show l.take (List.replicate (l.length : Int).toNat ((0, 0, 0, 0, 0) : (Int × Int × Int × Int × Int))).length ++ (List.replicate (l.length : Int).toNat ((0, 0, 0, 0, 0) : (Int × Int × Int × Int × Int))).drop l.length = l
  simp
def K65 : Fn1 := ⟨.one (.sl paT), .one (.sl paT), fun (a : List (Int × Int × Int × Int × Int × Int)) => [a.length ≤ 100000], fun a => a⟩
theorem k65 : FnOk Go.Proofs.Try.prog 65 K65 := by
  refine fn_ok (E := E0) (TOk.of tab_told) noK mix Go.Proofs.Try.func65 rfl rfl (by kernel_rfl) K65 ?_
  rintro (l : List (Int × Int × Int × Int × Int × Int)) hp
  have hl : l.length ≤ 100000 := hp _ (List.mem_cons_self ..)
  clear hp
  conv => whnf
  refine ⟨show (0 : Int) ≤ (l.length : Int) by omega, ?_⟩
  conv => whnf
  refine ⟨show (l.length : Int) ≤ (l.length : Int) by omega, ?_⟩
  conv => whnf
  refine ⟨show (l.length : Int) * (48 : Int) ≤ 70368744177664 by omega, ?_⟩
  conv => whnf
  refine ⟨show (l.length : Int) ≤ 70368744177664 by omega, ?_⟩
  conv => whnf
  show l.take (List.replicate (l.length : Int).toNat ((0, 0, 0, 0, 0, 0) : (Int × Int × Int × Int × Int × Int))).length ++ (List.replicate (l.length : Int).toNat ((0, 0, 0, 0, 0, 0) : (Int × Int × Int × Int × Int × Int))).drop l.length = l
  simp
def E43 : Env := ⟨tab, [(44, K44), (51, K51), (65, K65)], ann0⟩
theorem all43 : AllOk Go.Proofs.Try.prog E43.K := .cons k44 (.cons k51 (.cons k65 .nil))
def small (s : St) : List Prop := [s.2.1.length ≤ 100000, s.2.2.1.length ≤ 100000, s.2.2.2.length ≤ 100000]
def K43 : Fn1 := ⟨.one stT, .one stT, fun (a : St) => small a, fun a => a⟩
theorem k43 : FnOk Go.Proofs.Try.prog 43 K43 := by
  refine fn_ok (E := E43) (TOk.of tab_told) all43.at_ mix Go.Proofs.Try.func43 rfl rfl (by kernel_rfl) K43 ?_
  rintro ⟨(ow : Int), (ps : List (Int × Int)), (ws : List (Int × Int × Int × Int × Int × Int)), (rs : List (Int × Int × Int × Int × Int))⟩ hp
  have h1 : ps.length ≤ 100000 := hp _ (List.mem_cons_self ..)
  have h2 : ws.length ≤ 100000 := hp _ (List.mem_cons_of_mem _ (List.mem_cons_self ..))
  have h3 : rs.length ≤ 100000 := hp _ (List.mem_cons_of_mem _ (List.mem_cons_of_mem _ (List.mem_cons_self ..)))
  clear hp
  conv => whnf
  refine ⟨h1, ?_⟩
  conv => whnf
  refine ⟨h2, ?_⟩
  conv => whnf
  refine ⟨h3, ?_⟩
  conv => whnf
  rfl
end
end Go.Proofs.Yteidanhfkaljaaa.Eng
set_option linter.unusedVariables false
namespace Go.Proofs.Yteidanhfkaljaaa.Eng
open Go
set_option maxRecDepth 100000
noncomputable section
abbrev Pa := Int × Int × Int × Int × Int × Int
abbrev Ra := Int × Int × Int × Int × Int
def in0 (n b : Int) : Bool := decide (0 ≤ n) && decide (n ≤ b)
def K83 : Fn1 := ⟨.fld I (.one I), .one .bool, fun _ => [], fun (a : Int × Int) => in0 a.1 a.2⟩
theorem k83 : FnOk Go.Proofs.Try.prog 83 K83 := by
  refine fn_ok (E := E0) (TOk.of tab_told) noK mix Go.Proofs.Try.func83 rfl rfl (by kernel_rfl) K83 ?_
  rintro ⟨(n : Int), (m : Int)⟩ hp
  clear hp
  iterate 3 (all_goals (conv => whnf); all_goals (try (refine cond_intro (fun h => ?_) (fun h => ?_))))
  all_goals (simp only [decide_eq_true_eq, decide_eq_false_iff_not] at *)
  all_goals (show _ = in0 n m; unfold in0)
  · have : 0 ≤ n := by assumption
    simp [this]
  · have : ¬ 0 ≤ n := by assumption
    simp [this]
def E66 : Env := ⟨tab, [(83, K83)], ann0⟩
def soundR (p : Pa) : Bool := decide (1 ≤ p.2.2.2.2.1) && decide (p.2.2.2.2.1 ≤ 1000000) && in0 p.2.2.2.1 255 && in0 p.2.2.2.2.2 1000000000000 && in0 p.1 1000000 && in0 p.2.1 1000000 && in0 p.2.2.1 1000000
def K66 : Fn1 := ⟨.one paT, .one .bool, fun _ => [], fun (p : Pa) => soundR p⟩
theorem k66 : FnOk Go.Proofs.Try.prog 66 K66 := by
  refine fn_ok (E := E66) (TOk.of tab_told) (AllOk.cons k83 .nil).at_ mix Go.Proofs.Try.func66 rfl rfl (by kernel_rfl) K66 ?_
  rintro ⟨(k : Int), (f : Int), (t : Int), (g : Int), (c : Int), (s : Int)⟩ hp
  clear hp
  iterate 9 (all_goals (conv => whnf); all_goals (try (refine cond_intro (fun h => ?_) (fun h => ?_))))
  all_goals (simp only [cond_true, K83] at *)
  all_goals (show _ = soundR (k, f, t, g, c, s); simp [soundR, *])
def K86 : Fn1 := ⟨.one I, .one .bool, fun _ => [], fun _ => false⟩
theorem k86 : FnOk Go.Proofs.Try.prog 86 K86 := by
  refine fn_ok (E := E0) (TOk.of tab_told) noK mix Go.Proofs.Try.func86 rfl rfl (by kernel_rfl) K86 ?_
  rintro (n : Int) hp
  clear hp
  conv => whnf
  show (!decide (n = n)) = false
  simp
def E70 : Env := ⟨tab, [(86, K86)], ann0⟩
def cmpR (a b : Int) : Int := if a < b then -1 else if b < a then 1 else 0
def K70 : Fn1 := ⟨.fld I (.one I), .one I, fun _ => [], fun (a : Int × Int) => cmpR a.1 a.2⟩
theorem k70 : FnOk Go.Proofs.Try.prog 70 K70 := by
  refine fn_ok (E := E70) (TOk.of tab_told) (AllOk.cons k86 .nil).at_ mix Go.Proofs.Try.func70 rfl rfl (by kernel_rfl) K70 ?_
  rintro ⟨(a : Int), (b : Int)⟩ hp
  clear hp
  iterate 9 (all_goals (conv => whnf); all_goals (try (refine cond_intro (fun h => ?_) (fun h => ?_))))
  all_goals (simp only [decide_eq_true_eq, decide_eq_false_iff_not] at *)
  all_goals (show _ = cmpR a b; simp [cmpR, *])
def E84 : Env := ⟨tab, [], fun n => match n with | 3 => some ([3, 6, 7, 8], [], []) | _ => none⟩
def K84 : Fn1 := ⟨.one (.sl I), .one I, fun (l : List Int) => [l.length ≤ 100000], fun (l : List Int) => (l.find? (fun n => decide (n ≠ 0))).getD 0⟩
def S84 (l : List Int) (i : Int) : SL := ⟨[.undef, .undef, .undef, .int .i64 0, .undef, .undef, .sl I l, .int .i64 l.length, .int .i64 i] ++ List.replicate 9 .undef, [], 0⟩
theorem k84 : FnOk Go.Proofs.Try.prog 84 K84 := by
  refine fn_ok (E := E84) (TOk.of tab_told) noK mix Go.Proofs.Try.func84 rfl rfl (by kernel_rfl) K84 ?_
  rintro (l : List Int) hp
  have hl : l.length ≤ 100000 := hp _ (List.mem_cons_self ..)
  clear hp
  conv => whnf
  refine loop_rule (S84 l) (fun i => ((l.length : Int) - i).toNat) (fun i => 0 ≤ i ∧ i ≤ l.length ∧ ∀ n ∈ l.take i.toNat, n = 0) ?_ 0 (by kernel_rfl) ?_ ⟨by omega, by omega, by simp⟩
  case refine_2 => rfl
  rintro i ⟨h0, h1, h2⟩
  conv => whnf
  have hsp : l = l.take i.toNat ++ l.drop i.toNat := (List.take_append_drop _ _).symm
  have hnone : (l.take i.toNat).find? (fun n => decide (n ≠ 0)) = none := by simpa using h2
  refine cond_intro (fun hlt => ?_) (fun hge => ?_)
  · have hlt : i < l.length := @of_decide_eq_true _ _ hlt
    have e : gI l i.toNat = l[i.toNat]'(by omega) := gI_eq _
    have hd : l.drop i.toNat = gI l i.toNat :: l.drop (i.toNat + 1) := by rw [List.drop_eq_getElem_cons (by omega), e]
    have ht : l.take (i.toNat + 1) = l.take i.toNat ++ [gI l i.toNat] := by rw [List.take_succ_eq_append_getElem (by omega), e]
    conv => whnf
    refine ⟨h0, ?_⟩
    conv => whnf
    refine ⟨hlt, ?_⟩
    conv => whnf
    refine cond_intro (fun hz => ?_) (fun hz => ?_)
    · have hz : gI l i.toNat ≠ 0 := by
        have hz : (!decide (gI l i.toNat = 0)) = true := hz
        simpa using hz
      conv => whnf
      show gI l i.toNat = (l.find? (fun n => decide (n ≠ 0))).getD 0
      rw [hsp, List.find?_append, hnone, ← hsp, hd]
      simp [hz]
    · have hz : gI l i.toNat = 0 := by
        have hz : (!decide (gI l i.toNat = 0)) = false := hz
        simpa using hz
      conv => whnf
      have hw : IntKind.i64.wrap (i + 1) = i + 1 := wrap_eq (by omega) (by omega)
      refine ⟨i + 1, ?_, ⟨by omega, by omega, ?_⟩, by omega⟩
      · exact Eq.trans (b := S84 l (IntKind.i64.wrap (i + 1))) rfl (by rw [hw])
      · rw [show (i + 1).toNat = i.toNat + 1 by omega, ht]
        intro n hn
        rcases List.mem_append.1 hn with hn | hn
        · exact h2 n hn
        · cases List.mem_singleton.1 hn
          exact hz
  · have hge : ¬ i < l.length := @of_decide_eq_false _ _ hge
    conv => whnf
    show 0 = (l.find? (fun n => decide (n ≠ 0))).getD 0
    rw [show l.take i.toNat = l from List.take_of_length_le (by omega)] at hnone
    rw [hnone]; rfl
def E67 : Env := ⟨tab, [(70, K70), (84, K84)], ann0⟩
def compareR (a b : Pa) : Int := ([cmpR a.1 b.1, cmpR a.2.1 b.2.1, cmpR a.2.2.1 b.2.2.1, cmpR a.2.2.2.1 b.2.2.2.1].find? (fun n => decide (n ≠ 0))).getD 0
def K67 : Fn1 := ⟨.fld paT (.one paT), .one I, fun _ => [], fun (a : Pa × Pa) => compareR a.1 a.2⟩
theorem k67 : FnOk Go.Proofs.Try.prog 67 K67 := by
  refine fn_ok (E := E67) (TOk.of tab_told) (AllOk.cons k70 (.cons k84 .nil)).at_ mix Go.Proofs.Try.func67 rfl rfl (by kernel_rfl) K67 ?_
  rintro ⟨⟨(k : Int), (f : Int), (t : Int), (g : Int), (c : Int), (s : Int)⟩, ⟨(k' : Int), (f' : Int), (t' : Int), (g' : Int), (c' : Int), (s' : Int)⟩⟩ hp
  clear hp
  conv => whnf
  refine ⟨show 4 ≤ 100000 by omega, ?_⟩
  conv => whnf
  rfl
end
end Go.Proofs.Yteidanhfkaljaaa.Eng
set_option linter.unusedVariables false
namespace Go.Proofs.Yteidanhfkaljaaa.Eng
open Go
set_option maxRecDepth 100000
noncomputable section
def gP (l : List Pa) (n : Nat) : Pa := l.getD n (0, 0, 0, 0, 0, 0)
theorem gP_eq {l : List Pa} {n : Nat} (h : n < l.length) : gP l n = l[n] := by simp [gP, h]
/-- What is wrong at a place of a load. -/
def badP (l : List Pa) (i : Nat) : Bool := !soundR (gP l i) || (decide (0 < i) && decide (0 ≤ compareR (gP l (i - 1)) (gP l i)))
def cargoR (l : List Pa) : Int := if 200 < l.length then 4 else if (List.range l.length).any (badP l) then 1 else 0
def E47 : Env := ⟨tab, [(66, K66), (67, K67)], fun n => match n with | 4 => some ([0, 8, 9, 10], [], []) | _ => none⟩
def K47 : Fn1 := ⟨.one (.sl paT), .one I, fun (l : List Pa) => [l.length ≤ 100000], fun (l : List Pa) => cargoR l⟩
def S47 (l : List Pa) (i : Int) : SL := ⟨[.sl paT l, .undef, .undef, .undef, .undef, .undef, .undef, .undef, .sl paT l, .int .i64 l.length, .int .i64 i] ++ List.replicate 22 .undef, [], 0⟩
theorem k47 : FnOk Go.Proofs.Try.prog 47 K47 := by
  refine fn_ok (E := E47) (TOk.of tab_told) (AllOk.cons k66 (.cons k67 .nil)).at_ mix Go.Proofs.Try.func47 rfl rfl (by kernel_rfl) K47 ?_
  rintro (l : List Pa) hp
  have hl : l.length ≤ 100000 := hp _ (List.mem_cons_self ..)
  clear hp
  conv => whnf
  refine cond_intro (fun hlarge => ?_) (fun hsmall => ?_)
  · have hlarge : 200 < (l.length : Int) := @of_decide_eq_true _ _ hlarge
    conv => whnf
    show 4 = cargoR l
    rw [cargoR, if_pos (by omega)]
  have hsmall : ¬ 200 < (l.length : Int) := @of_decide_eq_false _ _ hsmall
  conv => whnf
  refine loop_rule (S47 l) (fun i => ((l.length : Int) - i).toNat) (fun i => 0 ≤ i ∧ i ≤ l.length ∧ ∀ j : Nat, (j : Int) < i → badP l j = false) ?_ 0 (by kernel_rfl) ?_ ⟨by omega, by omega, fun j hj => by omega⟩
  case refine_2 => rfl
  rintro i ⟨h0, h1, h2⟩
  have hbad : i < l.length → badP l i.toNat = true → 1 = cargoR l := by
    intro hlt hb
    rw [cargoR, if_neg (by omega), if_pos]
    exact List.any_eq_true.2 ⟨i.toNat, List.mem_range.2 (by omega), hb⟩
  have hw : i < l.length → IntKind.i64.wrap (i + 1) = i + 1 := fun _ => wrap_eq (by omega) (by omega)
  have hw' : IntKind.i64.wrap (i - 1) = i - 1 := wrap_eq (by omega) (by omega)
  conv => whnf
  refine cond_intro (fun hlt => ?_) (fun hge => ?_)
  · have hlt : i < l.length := @of_decide_eq_true _ _ hlt
    have hnext : badP l i.toNat = false → ∀ j : Nat, (j : Int) < i + 1 → badP l j = false := by
      intro hb j hj
      by_cases hji : (j : Int) < i
      · exact h2 j hji
      · rw [show j = i.toNat by omega]; exact hb
    conv => whnf
    refine ⟨h0, ?_⟩
    conv => whnf
    refine ⟨hlt, ?_⟩
    conv => whnf
    refine cond_intro (fun hs => ?_) (fun hs => ?_)
    · have hs : soundR (gP l i.toNat) = false := by
        have hs : (!soundR (gP l i.toNat)) = true := hs
        simpa using hs
      conv => whnf
      exact hbad hlt (by simp [badP, hs])
    · have hs : soundR (gP l i.toNat) = true := by
        have hs : (!soundR (gP l i.toNat)) = false := hs
        simpa using hs
      conv => whnf
      refine cond_intro (fun hpos => ?_) (fun hz => ?_)
      · have hpos : 0 < i := @of_decide_eq_true _ _ hpos
        conv => whnf
        refine ⟨show 0 ≤ IntKind.i64.wrap (i - 1) by rw [hw']; omega, ?_⟩
        conv => whnf
        refine ⟨show IntKind.i64.wrap (i - 1) < (l.length : Int) by rw [hw']; omega, ?_⟩
        conv => whnf
        have ei : (i - 1).toNat = i.toNat - 1 := by omega
        refine cond_intro (fun hc => ?_) (fun hc => ?_)
        · have hc : 0 ≤ compareR (gP l (IntKind.i64.wrap (i - 1)).toNat) (gP l i.toNat) := @of_decide_eq_true _ _ hc
          rw [hw', ei] at hc
          conv => whnf
          exact hbad hlt (by simp [badP, hs, hc]; omega)
        · have hc : ¬ 0 ≤ compareR (gP l (IntKind.i64.wrap (i - 1)).toNat) (gP l i.toNat) := @of_decide_eq_false _ _ hc
          rw [hw', ei] at hc
          conv => whnf
          refine ⟨i + 1, ?_, ⟨by omega, by omega, hnext ?_⟩, by omega⟩
          · exact Eq.trans (b := S47 l (IntKind.i64.wrap (i + 1))) rfl (by rw [hw hlt])
          · simp [badP, hs, hc]
      · have hz : ¬ 0 < i := @of_decide_eq_false _ _ hz
        conv => whnf
        refine ⟨i + 1, ?_, ⟨by omega, by omega, hnext ?_⟩, by omega⟩
        · exact Eq.trans (b := S47 l (IntKind.i64.wrap (i + 1))) rfl (by rw [hw hlt])
        · have : ¬ 0 < i.toNat := by omega
          simp [badP, hs, this]
  · have hge : ¬ i < l.length := @of_decide_eq_false _ _ hge
    conv => whnf
    show 0 = cargoR l
    rw [cargoR, if_neg (by omega), if_neg]
    intro hx
    obtain ⟨j, hj, hb⟩ := List.any_eq_true.1 hx
    rw [h2 j (by have := List.mem_range.1 hj; omega)] at hb
    cases hb
end
end Go.Proofs.Yteidanhfkaljaaa.Eng
set_option linter.unusedVariables false
namespace Go.Proofs.Yteidanhfkaljaaa.Eng
open Go
set_option maxRecDepth 100000
noncomputable section
def E41 : Env := ⟨tab, [(35, K35)], ann0⟩
def ratedR (r : Ra) : Bool := withinR (15, [r.1]) && withinR (255, [r.2.1, r.2.2.1, r.2.2.2.1, r.2.2.2.2])
def K41 : Fn1 := ⟨.one raT, .one .bool, fun _ => [], fun (r : Ra) => ratedR r⟩
theorem k41 : FnOk Go.Proofs.Try.prog 41 K41 := by
  refine fn_ok (E := E41) (TOk.of tab_told) (AllOk.cons k35 .nil).at_ mix Go.Proofs.Try.func41 rfl rfl (by kernel_rfl) K41 ?_
  rintro ⟨(c : Int), (s : Int), (d : Int), (v : Int), (y : Int)⟩ hp
  clear hp
  conv => whnf
  refine ⟨show 1 ≤ 140737488351232 by omega, ?_⟩
  conv => whnf
  refine cond_intro (fun h => ?_) (fun h => ?_)
  · have h : withinR (15, [c]) = true := h
    conv => whnf
    refine ⟨show 4 ≤ 140737488351232 by omega, ?_⟩
    conv => whnf
    show (bif true then withinR (255, [s, d, v, y]) else false) = (withinR (15, [c]) && withinR (255, [s, d, v, y]))
    simp [h]
  · have h : withinR (15, [c]) = false := h
    conv => whnf
    show false = (withinR (15, [c]) && withinR (255, [s, d, v, y]))
    simp [h]
def gS (l : List (Int × Int)) (n : Nat) : Int × Int := l.getD n (0, 0)
def gR (l : List Ra) (n : Nat) : Ra := l.getD n (0, 0, 0, 0, 0)
def badS (l : List (Int × Int)) (i : Nat) : Bool := !withinR (3, [(gS l i).1]) || !withinR (1000000, [(gS l i).2]) || (decide (0 < i) && decide ((gS l i).2 ≤ (gS l (i - 1)).2))
def badR (l : List Ra) (i : Nat) : Bool := !ratedR (gR l i) || (decide (0 < i) && decide ((gR l i).1 ≤ (gR l (i - 1)).1))
def validR (s : St) : Int :=
  if 20 < s.2.1.length then 4 else if s.1 < -1 ∨ 12 ≤ s.1 ∨ cargoR s.2.2.1 ≠ 0 then 1
  else if (List.range s.2.1.length).any (badS s.2.1) then 1 else if (List.range s.2.2.2.length).any (badR s.2.2.2) then 1 else 0
def E23 : Env := ⟨tab, [(35, K35), (41, K41), (47, K47)], fun n => match n with | 6 => some ([1, 26, 27, 28], [], []) | 12 => some ([1, 63, 64, 65], [], []) | _ => none⟩
def K23 : Fn1 := ⟨.one stT, .one I, fun (s : St) => small s, fun (s : St) => validR s⟩
def B23 (ow : Int) (ps : List (Int × Int)) (ws : List Pa) (rs : List Ra) : List (Nat × Ob) := [(0, .box [.int .i64 ow, .sl plT ps, .sl paT ws, .sl raT rs])]
def S23a (ow : Int) (ps : List (Int × Int)) (ws : List Pa) (rs : List Ra) (i : Int) : SL := ⟨[.undef, .ptr 0 0 0] ++ List.replicate 24 .undef ++ [.sl plT ps, .int .i64 ps.length, .int .i64 i] ++ List.replicate 61 .undef, B23 ow ps ws rs, 1⟩
def S23b (ow : Int) (ps : List (Int × Int)) (ws : List Pa) (rs : List Ra) (i : Int) : SL := ⟨[.undef, .ptr 0 0 0] ++ List.replicate 61 .undef ++ [.sl raT rs, .int .i64 rs.length, .int .i64 i] ++ List.replicate 24 .undef, B23 ow ps ws rs, 1⟩
theorem k23 : FnOk Go.Proofs.Try.prog 23 K23 := by
  refine fn_ok (E := E23) (TOk.of tab_told) (AllOk.cons k35 (.cons k41 (.cons k47 .nil))).at_ mix Go.Proofs.Try.func23 rfl rfl (by kernel_rfl) K23 ?_
  rintro ⟨(ow : Int), (ps : List (Int × Int)), (ws : List Pa), (rs : List Ra)⟩ hp
  have g1 : ps.length ≤ 100000 := hp _ (List.mem_cons_self ..)
  have g2 : ws.length ≤ 100000 := hp _ (List.mem_cons_of_mem _ (List.mem_cons_self ..))
  have g3 : rs.length ≤ 100000 := hp _ (List.mem_cons_of_mem _ (List.mem_cons_of_mem _ (List.mem_cons_self ..)))
  clear hp
  conv => whnf
  refine cond_intro (fun hlarge => ?_) (fun hsmall => ?_)
  · have hlarge : 20 < (ps.length : Int) := @of_decide_eq_true _ _ hlarge
    conv => whnf
    show 4 = validR (ow, ps, ws, rs)
    rw [validR, if_pos (by show 20 < ps.length; omega)]
  have hsmall : ¬ 20 < (ps.length : Int) := @of_decide_eq_false _ _ hsmall
  have v1 : (ow < -1 ∨ 12 ≤ ow ∨ cargoR ws ≠ 0) → 1 = validR (ow, ps, ws, rs) := fun h => by
    rw [validR, if_neg (by show ¬ 20 < ps.length; omega), if_pos h]
  conv => whnf
  refine cond_intro (fun h => ?_) (fun ha => ?_)
  · have h : ow < -1 := @of_decide_eq_true _ _ h
    conv => whnf
    exact v1 (.inl h)
  have ha : ¬ ow < -1 := @of_decide_eq_false _ _ ha
  conv => whnf
  refine cond_intro (fun h => ?_) (fun hb => ?_)
  · have h : 12 ≤ ow := @of_decide_eq_true _ _ h
    conv => whnf
    exact v1 (.inr (.inl h))
  have hb : ¬ 12 ≤ ow := @of_decide_eq_false _ _ hb
  conv => whnf
  refine ⟨g2, ?_⟩
  conv => whnf
  refine cond_intro (fun h => ?_) (fun hc => ?_)
  · have h : (!decide (cargoR ws = 0)) = true := h
    conv => whnf
    exact v1 (.inr (.inr (by simpa using h)))
  have hc : (!decide (cargoR ws = 0)) = false := hc
  have hc : cargoR ws = 0 := by simpa using hc
  have v2 : validR (ow, ps, ws, rs) = if (List.range ps.length).any (badS ps) then 1 else if (List.range rs.length).any (badR rs) then 1 else 0 := by
    rw [validR, if_neg (by show ¬ 20 < ps.length; omega), if_neg (by show ¬ (ow < -1 ∨ 12 ≤ ow ∨ cargoR ws ≠ 0); omega)]
  conv => whnf
  refine loop_rule (S23a ow ps ws rs) (fun i => ((ps.length : Int) - i).toNat) (fun i => 0 ≤ i ∧ i ≤ ps.length ∧ ∀ j : Nat, (j : Int) < i → badS ps j = false) ?_ 0 (by kernel_rfl) ?_ ⟨by omega, by omega, fun j hj => by omega⟩
  case refine_2 => rfl
  rintro i ⟨h0, h1, h2⟩
  have hbad : i < ps.length → badS ps i.toNat = true → 1 = validR (ow, ps, ws, rs) := by
    intro hlt hb
    rw [v2, if_pos]
    exact List.any_eq_true.2 ⟨i.toNat, List.mem_range.2 (by omega), hb⟩
  have hw : i < ps.length → IntKind.i64.wrap (i + 1) = i + 1 := fun _ => wrap_eq (by omega) (by omega)
  have hw' : IntKind.i64.wrap (i - 1) = i - 1 := wrap_eq (by omega) (by omega)
  conv => whnf
  refine cond_intro (fun hlt => ?_) (fun hge => ?_)
  · have hlt : i < ps.length := @of_decide_eq_true _ _ hlt
    have hnext : badS ps i.toNat = false → ∀ j : Nat, (j : Int) < i + 1 → badS ps j = false := by
      intro hb j hj
      by_cases hji : (j : Int) < i
      · exact h2 j hji
      · rw [show j = i.toNat by omega]; exact hb
    conv => whnf
    refine ⟨h0, ?_⟩
    conv => whnf
    refine ⟨hlt, ?_⟩
    conv => whnf
    refine ⟨show 1 ≤ 140737488351232 by omega, ?_⟩
    conv => whnf
    refine cond_intro (fun hs => ?_) (fun hs => ?_)
    · have hs : (!withinR (3, [(gS ps i.toNat).1])) = true := hs
      conv => whnf
      exact hbad hlt (by simp only [badS, hs, Bool.true_or])
    have hs : (!withinR (3, [(gS ps i.toNat).1])) = false := hs
    conv => whnf
    refine ⟨show 1 ≤ 140737488351232 by omega, ?_⟩
    conv => whnf
    refine cond_intro (fun ht => ?_) (fun ht => ?_)
    · have ht : (!withinR (1000000, [(gS ps i.toNat).2])) = true := ht
      conv => whnf
      exact hbad hlt (by simp only [badS, ht, Bool.true_or, Bool.or_true])
    have ht : (!withinR (1000000, [(gS ps i.toNat).2])) = false := ht
    conv => whnf
    refine cond_intro (fun hpos => ?_) (fun hz => ?_)
    · have hpos : 0 < i := @of_decide_eq_true _ _ hpos
      conv => whnf
      refine ⟨show 0 ≤ IntKind.i64.wrap (i - 1) by rw [hw']; omega, ?_⟩
      conv => whnf
      refine ⟨show IntKind.i64.wrap (i - 1) < (ps.length : Int) by rw [hw']; omega, ?_⟩
      conv => whnf
      have ei : (i - 1).toNat = i.toNat - 1 := by omega
      have hp0 : decide (0 < i.toNat) = true := by simp; omega
      refine cond_intro (fun hc => ?_) (fun hc => ?_)
      · have hc : decide ((gS ps i.toNat).2 ≤ (gS ps (IntKind.i64.wrap (i - 1)).toNat).2) = true := hc
        rw [hw', ei] at hc
        conv => whnf
        exact hbad hlt (by simp only [badS, hs, ht, hc, hp0]; rfl)
      · have hc : decide ((gS ps i.toNat).2 ≤ (gS ps (IntKind.i64.wrap (i - 1)).toNat).2) = false := hc
        rw [hw', ei] at hc
        conv => whnf
        refine ⟨i + 1, ?_, ⟨by omega, by omega, hnext ?_⟩, by omega⟩
        · exact Eq.trans (b := S23a ow ps ws rs (IntKind.i64.wrap (i + 1))) rfl (by rw [hw hlt])
        · simp only [badS, hs, ht, hc, hp0]; rfl
    · have hz : ¬ 0 < i := @of_decide_eq_false _ _ hz
      have hp0 : decide (0 < i.toNat) = false := by simp; omega
      conv => whnf
      refine ⟨i + 1, ?_, ⟨by omega, by omega, hnext ?_⟩, by omega⟩
      · exact Eq.trans (b := S23a ow ps ws rs (IntKind.i64.wrap (i + 1))) rfl (by rw [hw hlt])
      · simp only [badS, hs, ht, hp0]; rfl
  have hge : ¬ i < ps.length := @of_decide_eq_false _ _ hge
  have v3 : validR (ow, ps, ws, rs) = if (List.range rs.length).any (badR rs) then 1 else 0 := by
    rw [v2, if_neg]
    intro hx
    obtain ⟨j, hj, hb⟩ := List.any_eq_true.1 hx
    rw [h2 j (by have := List.mem_range.1 hj; omega)] at hb
    cases hb
  clear hbad hw hw' h2 h1 h0
  conv => whnf
  refine loop_rule (S23b ow ps ws rs) (fun i => ((rs.length : Int) - i).toNat) (fun i => 0 ≤ i ∧ i ≤ rs.length ∧ ∀ j : Nat, (j : Int) < i → badR rs j = false) ?_ 0 (by kernel_rfl) ?_ ⟨by omega, by omega, fun j hj => by omega⟩
  case refine_2 => rfl
  rintro i ⟨h0, h1, h2⟩
  have hbad : i < rs.length → badR rs i.toNat = true → 1 = validR (ow, ps, ws, rs) := by
    intro hlt hb
    rw [v3, if_pos]
    exact List.any_eq_true.2 ⟨i.toNat, List.mem_range.2 (by omega), hb⟩
  have hw : i < rs.length → IntKind.i64.wrap (i + 1) = i + 1 := fun _ => wrap_eq (by omega) (by omega)
  have hw' : IntKind.i64.wrap (i - 1) = i - 1 := wrap_eq (by omega) (by omega)
  conv => whnf
  refine cond_intro (fun hlt => ?_) (fun hge => ?_)
  · have hlt : i < rs.length := @of_decide_eq_true _ _ hlt
    have hnext : badR rs i.toNat = false → ∀ j : Nat, (j : Int) < i + 1 → badR rs j = false := by
      intro hb j hj
      by_cases hji : (j : Int) < i
      · exact h2 j hji
      · rw [show j = i.toNat by omega]; exact hb
    conv => whnf
    refine ⟨h0, ?_⟩
    conv => whnf
    refine ⟨hlt, ?_⟩
    conv => whnf
    refine cond_intro (fun hs => ?_) (fun hs => ?_)
    · have hs : (!ratedR (gR rs i.toNat)) = true := hs
      conv => whnf
      exact hbad hlt (by simp only [badR, hs, Bool.true_or])
    have hs : (!ratedR (gR rs i.toNat)) = false := hs
    conv => whnf
    refine cond_intro (fun hpos => ?_) (fun hz => ?_)
    · have hpos : 0 < i := @of_decide_eq_true _ _ hpos
      conv => whnf
      refine ⟨show 0 ≤ IntKind.i64.wrap (i - 1) by rw [hw']; omega, ?_⟩
      conv => whnf
      refine ⟨show IntKind.i64.wrap (i - 1) < (rs.length : Int) by rw [hw']; omega, ?_⟩
      conv => whnf
      have ei : (i - 1).toNat = i.toNat - 1 := by omega
      have hp0 : decide (0 < i.toNat) = true := by simp; omega
      refine cond_intro (fun hc => ?_) (fun hc => ?_)
      · have hc : decide ((gR rs i.toNat).1 ≤ (gR rs (IntKind.i64.wrap (i - 1)).toNat).1) = true := hc
        rw [hw', ei] at hc
        conv => whnf
        exact hbad hlt (by simp only [badR, hs, hc, hp0]; rfl)
      · have hc : decide ((gR rs i.toNat).1 ≤ (gR rs (IntKind.i64.wrap (i - 1)).toNat).1) = false := hc
        rw [hw', ei] at hc
        conv => whnf
        refine ⟨i + 1, ?_, ⟨by omega, by omega, hnext ?_⟩, by omega⟩
        · exact Eq.trans (b := S23b ow ps ws rs (IntKind.i64.wrap (i + 1))) rfl (by rw [hw hlt])
        · simp only [badR, hs, hc, hp0]; rfl
    · have hz : ¬ 0 < i := @of_decide_eq_false _ _ hz
      have hp0 : decide (0 < i.toNat) = false := by simp; omega
      conv => whnf
      refine ⟨i + 1, ?_, ⟨by omega, by omega, hnext ?_⟩, by omega⟩
      · exact Eq.trans (b := S23b ow ps ws rs (IntKind.i64.wrap (i + 1))) rfl (by rw [hw hlt])
      · simp only [badR, hs, hp0]; rfl
  have hge : ¬ i < rs.length := @of_decide_eq_false _ _ hge
  conv => whnf
  show 0 = validR (ow, ps, ws, rs)
  rw [v3, if_neg]
  intro hx
  obtain ⟨j, hj, hb⟩ := List.any_eq_true.1 hx
  rw [h2 j (by have := List.mem_range.1 hj; omega)] at hb
  cases hb
end
end Go.Proofs.Yteidanhfkaljaaa.Eng
set_option linter.unusedVariables false
namespace Go.Proofs.Yteidanhfkaljaaa.Eng
open Go
set_option maxRecDepth 100000
noncomputable section
abbrev Pl := Int × Int
abbrev zSt : St := (0, [], [], [])
def E24 : Env := ⟨tab, [(23, K23), (35, K35), (37, K37), (48, K48), (43, K43), (44, K44)], fun n => match n with | 11 => some ([1, 2, 4, 7, 8, 12, 13, 43, 44, 45], [], []) | _ => none⟩
def atR (ps : List Pl) (pt : Int) (n : Nat) : Int := ((ps.take n).countP (fun q => decide (q.2 < pt)) : Nat)
def nextTo (w h pt : Int) (q : Pl) : Bool := decide (q.2 < IntKind.i64.wrap (w * h)) && decide (apartR w q.2 pt = 1)
def beR (w h : Int) (ps : List Pl) (pt : Int) (n : Nat) : Bool := decide ((ps.length : Int) = 0) || (ps.take n).any (nextTo w h pt)
def joinR (s : St) (w h : Int) (p : Pl) : St × Int :=
  if validR s ≠ 0 then (zSt, validR s) else if sizedR w h p.2 ≠ 0 then (zSt, sizedR w h p.2) else if withinR (3, [p.1]) = false then (zSt, 1)
  else if s.2.1.any (fun q => decide (q.2 = p.2)) then (zSt, 3) else if 20 ≤ s.2.1.length then (zSt, 4) else if beR w h s.2.1 p.2 s.2.1.length = false then (zSt, 8)
  else ((s.1, (s.2.1.take (atR s.2.1 p.2 s.2.1.length).toNat ++ [p]) ++ s.2.1.drop (atR s.2.1 p.2 s.2.1.length).toNat, s.2.2.1, s.2.2.2), 0)
def S24 (ow : Int) (ps : List Pl) (ws : List Pa) (rs : List Ra) (w h pk pt : Int) (i : Int) (n : Int) (be : Bool) : SL :=
  ⟨[.undef, .int .i64 w, .int .i64 h, .undef, .ptr 0 0 0, .undef, .undef, .ptr 1 0 0, .ptr 2 0 0, .undef, .undef, .undef, .int .i64 n, .bool be] ++ List.replicate 29 .undef ++ [.sl plT ps, .int .i64 ps.length, .int .i64 i] ++ List.replicate 60 .undef,
   [(0, .box [.int .i64 ow, .sl plT ps, .sl paT ws, .sl raT rs]), (1, .box [.int .i64 pk, .int .i64 pt]), (2, .box [.int .i64 0, .nilsl, .nilsl, .nilsl])], 3⟩
abbrev joinIn : Ty := .fld stT (.fld I (.fld I (.one plT)))
def K24 : Fn1 := ⟨joinIn, .fld stT (.one I), fun (a : St × Int × Int × Pl) => small a.1, fun (a : St × Int × Int × Pl) => joinR a.1 a.2.1 a.2.2.1 a.2.2.2⟩
theorem k24 : FnOk Go.Proofs.Try.prog 24 K24 := by
  refine fn_ok (E := E24) (TOk.of tab_told) (AllOk.cons k23 (.cons k35 (.cons k37 (.cons k48 (.cons k43 (.cons k44 .nil)))))).at_ mix Go.Proofs.Try.func24 rfl rfl (by kernel_rfl) K24 ?_
  rintro ⟨⟨(ow : Int), (ps : List Pl), (ws : List Pa), (rs : List Ra)⟩, (w : Int), (h : Int), ⟨(pk : Int), (pt : Int)⟩⟩ hp
  have g1 : ps.length ≤ 100000 := hp _ (List.mem_cons_self ..)
  have g2 : ws.length ≤ 100000 := hp _ (List.mem_cons_of_mem _ (List.mem_cons_self ..))
  have g3 : rs.length ≤ 100000 := hp _ (List.mem_cons_of_mem _ (List.mem_cons_of_mem _ (List.mem_cons_self ..)))
  clear hp
  conv => whnf
  refine ⟨g1, ?_⟩
  conv => whnf
  refine ⟨g2, ?_⟩
  conv => whnf
  refine ⟨g3, ?_⟩
  conv => whnf
  have hpos0 : 0 ≤ (0 : Int) := by omega
  refine cond_intro (fun hv => ?_) (fun hv => ?_)
  · have hv : (!decide (validR (ow, ps, ws, rs) = 0)) = true := hv
    have hv : validR (ow, ps, ws, rs) ≠ 0 := by simpa using hv
    conv => whnf
    show (zSt, validR (ow, ps, ws, rs)) = joinR (ow, ps, ws, rs) w h (pk, pt)
    rw [joinR, if_pos hv]
  have hv : (!decide (validR (ow, ps, ws, rs) = 0)) = false := hv
  have hv : validR (ow, ps, ws, rs) = 0 := by simpa using hv
  conv => whnf
  refine cond_intro (fun hs => ?_) (fun hs => ?_)
  · have hs : (!decide (sizedR w h pt = 0)) = true := hs
    have hs : sizedR w h pt ≠ 0 := by simpa using hs
    conv => whnf
    show (zSt, sizedR w h pt) = joinR (ow, ps, ws, rs) w h (pk, pt)
    rw [joinR, if_neg (by simp [hv]), if_pos hs]
  have hs : (!decide (sizedR w h pt = 0)) = false := hs
  have hs : sizedR w h pt = 0 := by simpa using hs
  have hw0 : w ≠ 0 := by
    intro h0
    subst h0
    simp [sizedR] at hs
  conv => whnf
  refine ⟨show 1 ≤ 140737488351232 by omega, ?_⟩
  conv => whnf
  refine cond_intro (fun hk => ?_) (fun hk => ?_)
  · have hk : (!withinR (3, [pk])) = true := hk
    have hk : withinR (3, [pk]) = false := by simpa using hk
    conv => whnf
    show (zSt, 1) = joinR (ow, ps, ws, rs) w h (pk, pt)
    rw [joinR, if_neg (by simp [hv]), if_neg (by simp [hs]), if_pos hk]
  have hk : (!withinR (3, [pk])) = false := hk
  have hk : withinR (3, [pk]) = true := by simpa using hk
  have v1 : joinR (ow, ps, ws, rs) w h (pk, pt) = if ps.any (fun q => decide (q.2 = pt)) then (zSt, 3) else if 20 ≤ ps.length then (zSt, 4) else if beR w h ps pt ps.length = false then (zSt, 8)
      else ((ow, (ps.take (atR ps pt ps.length).toNat ++ [(pk, pt)]) ++ ps.drop (atR ps pt ps.length).toNat, ws, rs), 0) := by
    rw [joinR, if_neg (by simp [hv]), if_neg (by simp [hs]), if_neg (by simp [hk])]
  conv => whnf
  refine loop_rule (fun i => S24 ow ps ws rs w h pk pt i (atR ps pt i.toNat) (beR w h ps pt i.toNat)) (fun i => ((ps.length : Int) - i).toNat) (fun i => 0 ≤ i ∧ i ≤ ps.length ∧ ∀ q ∈ ps.take i.toNat, q.2 ≠ pt) ?_ 0 (by kernel_rfl) ?_ ⟨by omega, by omega, fun j hj => by simp at hj⟩
  case refine_2 =>
    have e1 : beR w h ps pt (0 : Int).toNat = decide ((ps.length : Int) = 0) := by simp [beR]
    have e2 : atR ps pt (0 : Int).toNat = 0 := by simp [atR]
    show _ = S24 ow ps ws rs w h pk pt 0 (atR ps pt (0 : Int).toNat) (beR w h ps pt (0 : Int).toNat)
    rw [e1, e2]
    rfl
  rintro i ⟨h0, h1, h2⟩
  have hw : i < ps.length → IntKind.i64.wrap (i + 1) = i + 1 := fun _ => wrap_eq (by omega) (by omega)
  conv => whnf
  refine cond_intro (fun hlt => ?_) (fun hge => ?_)
  · have hlt : i < ps.length := @of_decide_eq_true _ _ hlt
    conv => whnf
    refine ⟨h0, ?_⟩
    conv => whnf
    refine ⟨hlt, ?_⟩
    conv => whnf
    have e : gS ps i.toNat = ps[i.toNat]'(by omega) := by simp [gS, show i.toNat < ps.length by omega]
    have ht : ps.take (i.toNat + 1) = ps.take i.toNat ++ [gS ps i.toNat] := by rw [List.take_succ_eq_append_getElem (by omega), e]
    have en : (i + 1).toNat = i.toNat + 1 := by omega
    have hm : gS ps i.toNat ∈ ps := by rw [e]; exact List.getElem_mem _
    refine cond_intro (fun he => ?_) (fun he => ?_)
    · have he : (gS ps i.toNat).2 = pt := @of_decide_eq_true _ _ he
      conv => whnf
      show (zSt, 3) = joinR (ow, ps, ws, rs) w h (pk, pt)
      rw [v1, if_pos]
      exact List.any_eq_true.2 ⟨_, hm, by simp [he]⟩
    have he : ¬ (gS ps i.toNat).2 = pt := @of_decide_eq_false _ _ he
    have hn : ∀ q ∈ ps.take (i + 1).toNat, q.2 ≠ pt := by
      rw [en, ht]
      intro q hq
      rcases List.mem_append.1 hq with hq | hq
      · exact h2 q hq
      · cases List.mem_singleton.1 hq
        exact he
    have hbe : beR w h ps pt (i + 1).toNat = (beR w h ps pt i.toNat || nextTo w h pt (gS ps i.toNat)) := by
      rw [en, beR, ht, beR, List.any_append]
      simp [Bool.or_assoc]
    have hat : atR ps pt (i + 1).toNat = atR ps pt i.toNat + (if decide ((gS ps i.toNat).2 < pt) = true then 1 else 0) := by
      rw [en, atR, ht, atR, List.countP_append, List.countP_singleton]
      split <;> simp
    have hatle : atR ps pt i.toNat ≤ 100000 ∧ 0 ≤ atR ps pt i.toNat := by
      have h1 : (ps.take i.toNat).countP (fun q => decide (q.2 < pt)) ≤ (ps.take i.toNat).length := List.countP_le_length
      have h2 : (ps.take i.toNat).length ≤ ps.length := by rw [List.length_take]; omega
      unfold atR
      omega
    have hwa : IntKind.i64.wrap (atR ps pt i.toNat + 1) = atR ps pt i.toNat + 1 := wrap_eq (by omega) (by omega)
    conv => whnf
    refine cond_intro (fun hl => ?_) (fun hl => ?_)
    · have hl : decide ((gS ps i.toNat).2 < pt) = true := hl
      have hat' : atR ps pt (i + 1).toNat = IntKind.i64.wrap (atR ps pt i.toNat + 1) := by rw [hat, hl, hwa]; rfl
      conv => whnf
      refine cond_intro (fun hb => ?_) (fun hb => ?_)
      · have hb : beR w h ps pt i.toNat = true := hb
        conv => whnf
        refine ⟨i + 1, ?_, ⟨by omega, by omega, hn⟩, by omega⟩
        exact Eq.trans (b := S24 ow ps ws rs w h pk pt (IntKind.i64.wrap (i + 1)) (IntKind.i64.wrap (atR ps pt i.toNat + 1)) true) rfl (by rw [hw hlt, hat', hbe, hb]; rfl)
      · have hb : beR w h ps pt i.toNat = false := hb
        conv => whnf
        refine cond_intro (fun hm => ?_) (fun hm => ?_)
        · have hm : decide ((gS ps i.toNat).2 < IntKind.i64.wrap (w * h)) = true := hm
          conv => whnf
          refine ⟨hw0, ?_⟩
          conv => whnf
          refine ⟨i + 1, ?_, ⟨by omega, by omega, hn⟩, by omega⟩
          exact Eq.trans (b := S24 ow ps ws rs w h pk pt (IntKind.i64.wrap (i + 1)) (IntKind.i64.wrap (atR ps pt i.toNat + 1)) (decide (apartR w (gS ps i.toNat).2 pt = 1))) rfl (by rw [hw hlt, hat', hbe, hb, nextTo, hm]; rfl)
        · have hm : decide ((gS ps i.toNat).2 < IntKind.i64.wrap (w * h)) = false := hm
          conv => whnf
          refine ⟨i + 1, ?_, ⟨by omega, by omega, hn⟩, by omega⟩
          exact Eq.trans (b := S24 ow ps ws rs w h pk pt (IntKind.i64.wrap (i + 1)) (IntKind.i64.wrap (atR ps pt i.toNat + 1)) false) rfl (by rw [hw hlt, hat', hbe, hb, nextTo, hm]; rfl)
    · have hl : decide ((gS ps i.toNat).2 < pt) = false := hl
      have hat' : atR ps pt (i + 1).toNat = atR ps pt i.toNat := by rw [hat, hl]; simp
      conv => whnf
      refine cond_intro (fun hb => ?_) (fun hb => ?_)
      · have hb : beR w h ps pt i.toNat = true := hb
        conv => whnf
        refine ⟨i + 1, ?_, ⟨by omega, by omega, hn⟩, by omega⟩
        exact Eq.trans (b := S24 ow ps ws rs w h pk pt (IntKind.i64.wrap (i + 1)) (atR ps pt i.toNat) true) rfl (by rw [hw hlt, hat', hbe, hb]; rfl)
      · have hb : beR w h ps pt i.toNat = false := hb
        conv => whnf
        refine cond_intro (fun hm => ?_) (fun hm => ?_)
        · have hm : decide ((gS ps i.toNat).2 < IntKind.i64.wrap (w * h)) = true := hm
          conv => whnf
          refine ⟨hw0, ?_⟩
          conv => whnf
          refine ⟨i + 1, ?_, ⟨by omega, by omega, hn⟩, by omega⟩
          exact Eq.trans (b := S24 ow ps ws rs w h pk pt (IntKind.i64.wrap (i + 1)) (atR ps pt i.toNat) (decide (apartR w (gS ps i.toNat).2 pt = 1))) rfl (by rw [hw hlt, hat', hbe, hb, nextTo, hm]; rfl)
        · have hm : decide ((gS ps i.toNat).2 < IntKind.i64.wrap (w * h)) = false := hm
          conv => whnf
          refine ⟨i + 1, ?_, ⟨by omega, by omega, hn⟩, by omega⟩
          exact Eq.trans (b := S24 ow ps ws rs w h pk pt (IntKind.i64.wrap (i + 1)) (atR ps pt i.toNat) false) rfl (by rw [hw hlt, hat', hbe, hb, nextTo, hm]; rfl)
  have hge : ¬ i < ps.length := @of_decide_eq_false _ _ hge
  have hin : i.toNat = ps.length := by omega
  have v2 : joinR (ow, ps, ws, rs) w h (pk, pt) = if 20 ≤ ps.length then (zSt, 4) else if beR w h ps pt ps.length = false then (zSt, 8)
      else ((ow, (ps.take (atR ps pt ps.length).toNat ++ [(pk, pt)]) ++ ps.drop (atR ps pt ps.length).toNat, ws, rs), 0) := by
    rw [v1, if_neg]
    intro hx
    obtain ⟨q, hq, hb⟩ := List.any_eq_true.1 hx
    exact h2 q (by rw [hin, List.take_length]; exact hq) (by simpa using hb)
  rw [hin]
  conv => whnf
  refine cond_intro (fun hf => ?_) (fun hf => ?_)
  · have hf : 20 ≤ (ps.length : Int) := @of_decide_eq_true _ _ hf
    conv => whnf
    show (zSt, 4) = joinR (ow, ps, ws, rs) w h (pk, pt)
    rw [v2, if_pos (by omega)]
  have hf : ¬ 20 ≤ (ps.length : Int) := @of_decide_eq_false _ _ hf
  conv => whnf
  refine cond_intro (fun hb => ?_) (fun hb => ?_)
  · have hb : (!beR w h ps pt ps.length) = true := hb
    conv => whnf
    show (zSt, 8) = joinR (ow, ps, ws, rs) w h (pk, pt)
    rw [v2, if_neg (by omega), if_pos (by simpa using hb)]
  have hb : (!beR w h ps pt ps.length) = false := hb
  conv => whnf
  refine ⟨g1, ?_⟩
  conv => whnf
  refine ⟨g2, ?_⟩
  conv => whnf
  refine ⟨g3, ?_⟩
  have hat0 : 0 ≤ atR ps pt ps.length := by unfold atR; omega
  have hat1 : atR ps pt ps.length ≤ ps.length := by
    have h1 : (ps.take ps.length).countP (fun q => decide (q.2 < pt)) ≤ (ps.take ps.length).length := List.countP_le_length
    rw [List.length_take] at h1
    unfold atR
    omega
  have ht1 : (ps.take (atR ps pt ps.length).toNat).length ≤ 21 := by rw [List.length_take]; omega
  have ht2 : (ps.drop (atR ps pt ps.length).toNat).length ≤ 21 := by rw [List.length_drop]; omega
  conv => whnf
  refine ⟨hat0, ?_⟩
  conv => whnf
  refine ⟨hat1, ?_⟩
  conv => whnf
  refine ⟨show (ps.take (atR ps pt ps.length).toNat).length ≤ 100000 by omega, ?_⟩
  conv => whnf
  refine ⟨show ((ps.take (atR ps pt ps.length).toNat).length + 1) * 16 ≤ 70368744177664 by omega, ?_⟩
  conv => whnf
  refine ⟨show ((ps.take (atR ps pt ps.length).toNat).length + 1) ≤ 70368744177664 by omega, ?_⟩
  conv => whnf
  refine ⟨hat0, ?_⟩
  conv => whnf
  refine ⟨hat1, ?_⟩
  conv => whnf
  have ht3 : (ps.take (atR ps pt ps.length).toNat ++ [(pk, pt)]).length ≤ 22 := by rw [List.length_append]; simp only [List.length_singleton]; omega
  refine ⟨show ((ps.take (atR ps pt ps.length).toNat ++ [(pk, pt)]).length + (ps.drop (atR ps pt ps.length).toNat).length) * 16 ≤ 70368744177664 by omega, ?_⟩
  conv => whnf
  refine ⟨show ((ps.take (atR ps pt ps.length).toNat ++ [(pk, pt)]).length + (ps.drop (atR ps pt ps.length).toNat).length) ≤ 70368744177664 by omega, ?_⟩
  conv => whnf
  show ((ow, (ps.take (atR ps pt ps.length).toNat ++ [(pk, pt)]) ++ ps.drop (atR ps pt ps.length).toNat, ws, rs), (0 : Int)) = joinR (ow, ps, ws, rs) w h (pk, pt)
  rw [v2, if_neg (by omega), if_neg (by simpa using hb)]
end
end Go.Proofs.Yteidanhfkaljaaa.Eng
set_option linter.unusedVariables false
namespace Go.Proofs.Yteidanhfkaljaaa.Eng
open Go
set_option maxRecDepth 100000
noncomputable section
def K89 : Fn1 := ⟨.fld I (.one I), .one .bool, fun _ => [], fun (a : Int × Int) => decide (a.1 < 0) || decide (a.2 < a.1)⟩
theorem k89 : FnOk Go.Proofs.Try.prog 89 K89 := by
  refine fn_ok (E := E0) (TOk.of tab_told) noK mix Go.Proofs.Try.func89 rfl rfl (by kernel_rfl) K89 ?_
  rintro ⟨(n : Int), (m : Int)⟩ hp
  clear hp
  conv => whnf
  refine cond_intro (fun h => ?_) (fun h => ?_)
  · have h : decide (n < 0) = true := h
    conv => whnf
    show true = (decide (n < 0) || decide (m < n))
    rw [h]; rfl
  · have h : decide (n < 0) = false := h
    conv => whnf
    show _ = (decide (n < 0) || decide (m < n))
    rw [h]; rfl
def K82 : Fn1 := ⟨.fld I (.one I), .one I, fun _ => [], fun (a : Int × Int) => if a.1 < a.2 then IntKind.i64.wrap (a.2 - a.1) else IntKind.i64.wrap (a.1 - a.2)⟩
theorem k82 : FnOk Go.Proofs.Try.prog 82 K82 := by
  refine fn_ok (E := E0) (TOk.of tab_told) noK mix Go.Proofs.Try.func82 rfl rfl (by kernel_rfl) K82 ?_
  rintro ⟨(n : Int), (m : Int)⟩ hp
  clear hp
  conv => whnf
  refine cond_intro (fun h => ?_) (fun h => ?_)
  · have h : n < m := @of_decide_eq_true _ _ h
    conv => whnf
    show _ = if n < m then IntKind.i64.wrap (m - n) else IntKind.i64.wrap (n - m)
    rw [if_pos h]
  · have h : ¬ n < m := @of_decide_eq_false _ _ h
    conv => whnf
    show _ = if n < m then IntKind.i64.wrap (m - n) else IntKind.i64.wrap (n - m)
    rw [if_neg h]
def K81 : Fn1 := ⟨.one I, .one .bool, fun _ => [], fun (n : Int) => decide (4 ≤ n) && decide (n ≤ 32)⟩
theorem k81 : FnOk Go.Proofs.Try.prog 81 K81 := by
  refine fn_ok (E := E0) (TOk.of tab_told) noK mix Go.Proofs.Try.func81 rfl rfl (by kernel_rfl) K81 ?_
  rintro (n : Int) hp
  clear hp
  conv => whnf
  refine cond_intro (fun h => ?_) (fun h => ?_)
  · have h : decide (4 ≤ n) = true := h
    conv => whnf
    show _ = (decide (4 ≤ n) && decide (n ≤ 32))
    rw [h]; rfl
  · have h : decide (4 ≤ n) = false := h
    conv => whnf
    show _ = (decide (4 ≤ n) && decide (n ≤ 32))
    rw [h]; rfl
def eqI (l m : List Int) : Bool := decide (l = m)
def E15 : Env := ⟨tab, [], fun n => match n with | 4 => some ([0, 1, 5], [], []) | _ => none⟩
def K15 : Fn1 := ⟨.fld (.sl I) (.one (.sl I)), .one .bool, fun (a : List Int × List Int) => [a.1.length ≤ 100000], fun (a : List Int × List Int) => eqI a.1 a.2⟩
def S15 (l m : List Int) (i : Int) : SL := ⟨[.sl I l, .sl I m, .undef, .undef, .undef, .int .i64 i] ++ List.replicate 20 .undef, [], 0⟩
theorem k15 : FnOk Go.Proofs.Try.prog 15 K15 := by
  refine fn_ok (E := E15) (TOk.of tab_told) (fun f k h => by cases h) mix Go.Proofs.Try.func15 rfl rfl (by kernel_rfl) K15 ?_
  rintro ⟨(l : List Int), (m : List Int)⟩ hp
  have hl : l.length ≤ 100000 := hp _ (List.mem_cons_self ..)
  clear hp
  conv => whnf
  refine cond_intro (fun h => ?_) (fun h => ?_)
  · have h : (!decide ((l.length : Int) = (m.length : Int))) = true := h
    have h : ¬ (l.length : Int) = (m.length : Int) := by simpa using h
    conv => whnf
    show false = eqI l m
    symm
    simp only [eqI, decide_eq_false_iff_not]
    intro e; subst e; exact h rfl
  have h : (!decide ((l.length : Int) = (m.length : Int))) = false := h
  have h : (l.length : Int) = (m.length : Int) := by simpa using h
  have h : l.length = m.length := by omega
  conv => whnf
  refine loop_rule (S15 l m) (fun i => ((l.length : Int) - i).toNat) (fun i => 0 ≤ i ∧ i ≤ l.length ∧ l.take i.toNat = m.take i.toNat) ?_ 0 (by kernel_rfl) ?_ ⟨by omega, by omega, by simp⟩
  case refine_2 => rfl
  rintro i ⟨h0, h1, h2⟩
  conv => whnf
  refine cond_intro (fun hlt => ?_) (fun hge => ?_)
  · have hlt : i < l.length := @of_decide_eq_true _ _ hlt
    have hlm : i < m.length := by omega
    have e : gI l i.toNat = l[i.toNat]'(by omega) := gI_eq _
    have e' : gI m i.toNat = m[i.toNat]'(by omega) := gI_eq _
    have ht : l.take (i.toNat + 1) = l.take i.toNat ++ [gI l i.toNat] := by rw [List.take_succ_eq_append_getElem (by omega), e]
    have ht' : m.take (i.toNat + 1) = m.take i.toNat ++ [gI m i.toNat] := by rw [List.take_succ_eq_append_getElem (by omega), e']
    conv => whnf
    refine ⟨h0, ?_⟩
    conv => whnf
    refine ⟨hlt, ?_⟩
    conv => whnf
    refine ⟨h0, ?_⟩
    conv => whnf
    refine ⟨hlm, ?_⟩
    conv => whnf
    refine cond_intro (fun hd => ?_) (fun hd => ?_)
    · have hd : (!decide (gI l i.toNat = gI m i.toNat)) = true := hd
      have hd : ¬ gI l i.toNat = gI m i.toNat := by simpa using hd
      conv => whnf
      show false = eqI l m
      symm
      simp only [eqI, decide_eq_false_iff_not]
      intro e; subst e; exact hd rfl
    · have hd : (!decide (gI l i.toNat = gI m i.toNat)) = false := hd
      have hd : gI l i.toNat = gI m i.toNat := by simpa using hd
      conv => whnf
      have hw : IntKind.i64.wrap (i + 1) = i + 1 := wrap_eq (by omega) (by omega)
      refine ⟨i + 1, ?_, ⟨by omega, by omega, ?_⟩, by omega⟩
      · exact Eq.trans (b := S15 l m (IntKind.i64.wrap (i + 1))) rfl (by rw [hw])
      · rw [show (i + 1).toNat = i.toNat + 1 by omega, ht, ht', h2, hd]
  · have hge : ¬ i < l.length := @of_decide_eq_false _ _ hge
    conv => whnf
    show true = eqI l m
    symm
    simp only [eqI, decide_eq_true_eq]
    rw [List.take_of_length_le (by omega), List.take_of_length_le (by omega)] at h2
    exact h2
end
end Go.Proofs.Yteidanhfkaljaaa.Eng
set_option linter.unusedVariables false
namespace Go.Proofs.Yteidanhfkaljaaa.Eng
open Go
set_option maxRecDepth 100000
noncomputable section
def E62 : Env := ⟨tab, [(81, K81)], ann0⟩
def K62 : Fn1 := ⟨.fld I (.fld I (.one I)), .one I, fun _ => [], fun (a : Int × Int × Int) => sizedR a.1 a.2.1 a.2.2⟩
theorem k62 : FnOk Go.Proofs.Try.prog 62 K62 := by
  refine fn_ok (E := E62) (TOk.of tab_told) (AllOk.cons k81 .nil).at_ mix Go.Proofs.Try.func62 rfl rfl (by kernel_rfl) K62 ?_
  rintro ⟨(w : Int), (v : Int), (t : Int)⟩ hp
  clear hp
  iterate 6 (all_goals (conv => whnf); all_goals (try (refine cond_intro (fun h => ?_) (fun h => ?_))))
  all_goals (simp only [K81, Bool.not_eq_true', Bool.not_eq_false', cond_false, decide_eq_true_eq, decide_eq_false_iff_not, Bool.and_eq_true, Bool.and_eq_false_iff] at *)
  all_goals (show _ = sizedR w v t; unfold sizedR)
  all_goals (split <;> (try split) <;> (first | rfl | omega))
def reachK (k : Int) : Int := if k = 0 then 3 else if k = 1 then 2 else if k = 2 then 4 else 5
def K64 : Fn1 := ⟨.one I, .one I, fun _ => [], fun (k : Int) => reachK k⟩
theorem k64 : FnOk Go.Proofs.Try.prog 64 K64 := by
  refine fn_ok (E := E0) (TOk.of tab_told) noK mix Go.Proofs.Try.func64 rfl rfl (by kernel_rfl) K64 ?_
  rintro (k : Int) hp
  clear hp
  iterate 6 (all_goals (conv => whnf); all_goals (try (refine cond_intro (fun h => ?_) (fun h => ?_))))
  all_goals (simp only [decide_eq_true_eq, decide_eq_false_iff_not] at *)
  all_goals (show _ = reachK k; unfold reachK)
  all_goals (split <;> (try split) <;> (try split) <;> (first | rfl | omega))
theorem find4 (a b c d : Int) : ([a, b, c, d].find? (fun n => decide (n ≠ 0))).getD 0 = if a ≠ 0 then a else if b ≠ 0 then b else if c ≠ 0 then c else d := by
  by_cases h1 : a = 0 <;> by_cases h2 : b = 0 <;> by_cases h3 : c = 0 <;> by_cases h4 : d = 0 <;> simp [h1, h2, h3, h4]
theorem cmpR_lt (a b : Int) : cmpR a b < 0 ↔ a < b := by unfold cmpR; split <;> (try split) <;> omega
theorem cmpR_eq (a b : Int) : cmpR a b = 0 ↔ a = b := by unfold cmpR; split <;> (try split) <;> omega
def K88 : Fn1 := ⟨.fld paT (.one paT), .one .bool, fun _ => [], fun (a : Pa × Pa) => decide (compareR a.1 a.2 < 0)⟩
theorem k88 : FnOk Go.Proofs.Try.prog 88 K88 := by
  refine fn_ok (E := E0) (TOk.of tab_told) noK mix Go.Proofs.Try.func88 rfl rfl (by kernel_rfl) K88 ?_
  rintro ⟨⟨(k : Int), (f : Int), (t : Int), (g : Int), (c : Int), (s : Int)⟩, ⟨(k' : Int), (f' : Int), (t' : Int), (g' : Int), (c' : Int), (s' : Int)⟩⟩ hp
  clear hp
  iterate 6 (all_goals (conv => whnf); all_goals (try (refine cond_intro (fun h => ?_) (fun h => ?_))))
  all_goals (simp only [Bool.not_eq_true', Bool.not_eq_false', decide_eq_true_eq, decide_eq_false_iff_not] at *)
  all_goals (show _ = decide (compareR (k, f, t, g, c, s) (k', f', t', g', c', s') < 0); rw [decide_eq_decide, compareR, find4])
  all_goals (simp [cmpR_lt, cmpR_eq, *])
end
end Go.Proofs.Yteidanhfkaljaaa.Eng
set_option linter.unusedVariables false
namespace Go.Proofs.Yteidanhfkaljaaa.Eng
open Go
set_option maxRecDepth 100000
noncomputable section
def E73 : Env := ⟨tab, [(88, K88), (89, K89)], fun n => match n with | 4 => some ([0, 3], [], []) | _ => none⟩
def K73 : Fn1 := ⟨.one (.sl paT), .one I, fun (l : List Pa) => [l.length ≤ 100000], fun (l : List Pa) => cargoR l⟩
def S73 (l : List Pa) (i : Int) : SL := ⟨[.sl paT l, .undef, .undef, .int .i64 i] ++ List.replicate 61 .undef, [], 0⟩
theorem badP_iff (l : List Pa) (i : Nat) : badP l i = true ↔ ((gP l i).2.2.2.2.1 < 1 ∨ 1000000 < (gP l i).2.2.2.2.1 ∨ (gP l i).2.2.2.1 < 0 ∨ 255 < (gP l i).2.2.2.1 ∨ (gP l i).2.2.2.2.2 < 0 ∨ 1000000000000 < (gP l i).2.2.2.2.2
    ∨ (gP l i).1 < 0 ∨ 1000000 < (gP l i).1 ∨ (gP l i).2.1 < 0 ∨ 1000000 < (gP l i).2.1 ∨ (gP l i).2.2.1 < 0 ∨ 1000000 < (gP l i).2.2.1) ∨ (0 < i ∧ 0 ≤ compareR (gP l (i - 1)) (gP l i)) := by
  simp only [badP, soundR, in0, Bool.or_eq_true, Bool.not_eq_true', Bool.and_eq_false_iff, Bool.and_eq_true, decide_eq_true_eq, decide_eq_false_iff_not]
  omega
theorem k73 : FnOk Go.Proofs.Try.prog 73 K73 := by
  refine fn_ok (E := E73) (TOk.of tab_told) (AllOk.cons k88 (.cons k89 .nil)).at_ mix Go.Proofs.Try.func73 rfl rfl (by kernel_rfl) K73 ?_
  rintro (l : List Pa) hp
  have hl : l.length ≤ 100000 := hp _ (List.mem_cons_self ..)
  clear hp
  conv => whnf
  refine cond_intro (fun hlarge => ?_) (fun hsmall => ?_)
  · have hlarge : 200 < (l.length : Int) := @of_decide_eq_true _ _ hlarge
    conv => whnf
    show 4 = cargoR l
    rw [cargoR, if_pos (by omega)]
  have hsmall : ¬ 200 < (l.length : Int) := @of_decide_eq_false _ _ hsmall
  conv => whnf
  refine loop_rule (S73 l) (fun i => ((l.length : Int) - i).toNat) (fun i => 0 ≤ i ∧ i ≤ l.length ∧ ∀ j : Nat, (j : Int) < i → badP l j = false) ?_ 0 (by kernel_rfl) ?_ ⟨by omega, by omega, fun j hj => by omega⟩
  case refine_2 => rfl
  rintro i ⟨h0, h1, h2⟩
  conv => whnf
  refine cond_intro (fun hlt => ?_) (fun hge => ?_)
  · have hlt : i < l.length := @of_decide_eq_true _ _ hlt
    have hbad : badP l i.toNat = true → 1 = cargoR l := by
      intro hb
      rw [cargoR, if_neg (by omega), if_pos]
      exact List.any_eq_true.2 ⟨i.toNat, List.mem_range.2 (by omega), hb⟩
    have hw : IntKind.i64.wrap (i + 1) = i + 1 := wrap_eq (by omega) (by omega)
    have hw' : IntKind.i64.wrap (i - 1) = i - 1 := wrap_eq (by omega) (by omega)
    have hnext : badP l i.toNat = false → ∀ j : Nat, (j : Int) < i + 1 → badP l j = false := by
      intro hb j hj
      by_cases hji : (j : Int) < i
      · exact h2 j hji
      · rw [show j = i.toNat by omega]; exact hb
    conv => whnf
    refine ⟨h0, ?_⟩
    conv => whnf
    refine ⟨hlt, ?_⟩
    conv => whnf
    refine cond_intro (fun hpos => ?_) (fun hz => ?_)
    · have hpos : 0 < i := @of_decide_eq_true _ _ hpos
      conv => whnf
      refine ⟨show 0 ≤ IntKind.i64.wrap (i - 1) by rw [hw']; omega, ?_⟩
      conv => whnf
      refine ⟨show IntKind.i64.wrap (i - 1) < (l.length : Int) by rw [hw']; omega, ?_⟩
      have ei : (i - 1).toNat = i.toNat - 1 := by omega
      conv => whnf
      refine cond_intro (fun q0 => ?_) (fun q0 => ?_)
      · have q0 : (!decide (compareR (gP l (IntKind.i64.wrap (i - 1)).toNat) (gP l i.toNat) < 0)) = true := q0
        rw [hw', ei] at q0
        conv => whnf
        exact hbad (by rw [badP_iff]; simp only [Bool.not_eq_true', decide_eq_false_iff_not] at q0; omega)
      have q0 : (!decide (compareR (gP l (IntKind.i64.wrap (i - 1)).toNat) (gP l i.toNat) < 0)) = false := q0
      rw [hw', ei] at q0
      conv => whnf
      refine cond_intro (fun q1 => ?_) (fun q1 => ?_)
      · have q1 : decide ((gP l i.toNat).2.2.2.2.1 < 1) = true := q1
        conv => whnf
        exact hbad (by rw [badP_iff]; simp only [Bool.or_eq_true, decide_eq_true_eq, Bool.not_eq_true', decide_eq_false_iff_not] at q1; omega)
      have q1 : decide ((gP l i.toNat).2.2.2.2.1 < 1) = false := q1
      conv => whnf
      refine cond_intro (fun q2 => ?_) (fun q2 => ?_)
      · have q2 : decide (1000000 < (gP l i.toNat).2.2.2.2.1) = true := q2
        conv => whnf
        exact hbad (by rw [badP_iff]; simp only [Bool.or_eq_true, decide_eq_true_eq, Bool.not_eq_true', decide_eq_false_iff_not] at q2; omega)
      have q2 : decide (1000000 < (gP l i.toNat).2.2.2.2.1) = false := q2
      conv => whnf
      refine cond_intro (fun q3 => ?_) (fun q3 => ?_)
      · have q3 : (decide ((gP l i.toNat).2.2.2.1 < 0) || decide (255 < (gP l i.toNat).2.2.2.1)) = true := q3
        conv => whnf
        exact hbad (by rw [badP_iff]; simp only [Bool.or_eq_true, decide_eq_true_eq, Bool.not_eq_true', decide_eq_false_iff_not] at q3; omega)
      have q3 : (decide ((gP l i.toNat).2.2.2.1 < 0) || decide (255 < (gP l i.toNat).2.2.2.1)) = false := q3
      conv => whnf
      refine cond_intro (fun q4 => ?_) (fun q4 => ?_)
      · have q4 : (decide ((gP l i.toNat).2.2.2.2.2 < 0) || decide (1000000000000 < (gP l i.toNat).2.2.2.2.2)) = true := q4
        conv => whnf
        exact hbad (by rw [badP_iff]; simp only [Bool.or_eq_true, decide_eq_true_eq, Bool.not_eq_true', decide_eq_false_iff_not] at q4; omega)
      have q4 : (decide ((gP l i.toNat).2.2.2.2.2 < 0) || decide (1000000000000 < (gP l i.toNat).2.2.2.2.2)) = false := q4
      conv => whnf
      refine cond_intro (fun q5 => ?_) (fun q5 => ?_)
      · have q5 : (decide ((gP l i.toNat).1 < 0) || decide (1000000 < (gP l i.toNat).1)) = true := q5
        conv => whnf
        exact hbad (by rw [badP_iff]; simp only [Bool.or_eq_true, decide_eq_true_eq, Bool.not_eq_true', decide_eq_false_iff_not] at q5; omega)
      have q5 : (decide ((gP l i.toNat).1 < 0) || decide (1000000 < (gP l i.toNat).1)) = false := q5
      conv => whnf
      refine cond_intro (fun q6 => ?_) (fun q6 => ?_)
      · have q6 : (decide ((gP l i.toNat).2.1 < 0) || decide (1000000 < (gP l i.toNat).2.1)) = true := q6
        conv => whnf
        exact hbad (by rw [badP_iff]; simp only [Bool.or_eq_true, decide_eq_true_eq, Bool.not_eq_true', decide_eq_false_iff_not] at q6; omega)
      have q6 : (decide ((gP l i.toNat).2.1 < 0) || decide (1000000 < (gP l i.toNat).2.1)) = false := q6
      conv => whnf
      refine cond_intro (fun q7 => ?_) (fun q7 => ?_)
      · have q7 : (decide ((gP l i.toNat).2.2.1 < 0) || decide (1000000 < (gP l i.toNat).2.2.1)) = true := q7
        conv => whnf
        exact hbad (by rw [badP_iff]; simp only [Bool.or_eq_true, decide_eq_true_eq, Bool.not_eq_true', decide_eq_false_iff_not] at q7; omega)
      have q7 : (decide ((gP l i.toNat).2.2.1 < 0) || decide (1000000 < (gP l i.toNat).2.2.1)) = false := q7
      conv => whnf
      refine ⟨i + 1, ?_, ⟨by omega, by omega, hnext ?_⟩, by omega⟩
      · exact Eq.trans (b := S73 l (IntKind.i64.wrap (i + 1))) rfl (by rw [hw])
      · rw [← Bool.not_eq_true, badP_iff]
        simp only [Bool.or_eq_false_iff, decide_eq_false_iff_not, Bool.not_eq_false', decide_eq_true_eq] at *
        omega
    · have hz : ¬ 0 < i := @of_decide_eq_false _ _ hz
      conv => whnf
      refine cond_intro (fun q1 => ?_) (fun q1 => ?_)
      · have q1 : decide ((gP l i.toNat).2.2.2.2.1 < 1) = true := q1
        conv => whnf
        exact hbad (by rw [badP_iff]; simp only [Bool.or_eq_true, decide_eq_true_eq, Bool.not_eq_true', decide_eq_false_iff_not] at q1; omega)
      have q1 : decide ((gP l i.toNat).2.2.2.2.1 < 1) = false := q1
      conv => whnf
      refine cond_intro (fun q2 => ?_) (fun q2 => ?_)
      · have q2 : decide (1000000 < (gP l i.toNat).2.2.2.2.1) = true := q2
        conv => whnf
        exact hbad (by rw [badP_iff]; simp only [Bool.or_eq_true, decide_eq_true_eq, Bool.not_eq_true', decide_eq_false_iff_not] at q2; omega)
      have q2 : decide (1000000 < (gP l i.toNat).2.2.2.2.1) = false := q2
      conv => whnf
      refine cond_intro (fun q3 => ?_) (fun q3 => ?_)
      · have q3 : (decide ((gP l i.toNat).2.2.2.1 < 0) || decide (255 < (gP l i.toNat).2.2.2.1)) = true := q3
        conv => whnf
        exact hbad (by rw [badP_iff]; simp only [Bool.or_eq_true, decide_eq_true_eq, Bool.not_eq_true', decide_eq_false_iff_not] at q3; omega)
      have q3 : (decide ((gP l i.toNat).2.2.2.1 < 0) || decide (255 < (gP l i.toNat).2.2.2.1)) = false := q3
      conv => whnf
      refine cond_intro (fun q4 => ?_) (fun q4 => ?_)
      · have q4 : (decide ((gP l i.toNat).2.2.2.2.2 < 0) || decide (1000000000000 < (gP l i.toNat).2.2.2.2.2)) = true := q4
        conv => whnf
        exact hbad (by rw [badP_iff]; simp only [Bool.or_eq_true, decide_eq_true_eq, Bool.not_eq_true', decide_eq_false_iff_not] at q4; omega)
      have q4 : (decide ((gP l i.toNat).2.2.2.2.2 < 0) || decide (1000000000000 < (gP l i.toNat).2.2.2.2.2)) = false := q4
      conv => whnf
      refine cond_intro (fun q5 => ?_) (fun q5 => ?_)
      · have q5 : (decide ((gP l i.toNat).1 < 0) || decide (1000000 < (gP l i.toNat).1)) = true := q5
        conv => whnf
        exact hbad (by rw [badP_iff]; simp only [Bool.or_eq_true, decide_eq_true_eq, Bool.not_eq_true', decide_eq_false_iff_not] at q5; omega)
      have q5 : (decide ((gP l i.toNat).1 < 0) || decide (1000000 < (gP l i.toNat).1)) = false := q5
      conv => whnf
      refine cond_intro (fun q6 => ?_) (fun q6 => ?_)
      · have q6 : (decide ((gP l i.toNat).2.1 < 0) || decide (1000000 < (gP l i.toNat).2.1)) = true := q6
        conv => whnf
        exact hbad (by rw [badP_iff]; simp only [Bool.or_eq_true, decide_eq_true_eq, Bool.not_eq_true', decide_eq_false_iff_not] at q6; omega)
      have q6 : (decide ((gP l i.toNat).2.1 < 0) || decide (1000000 < (gP l i.toNat).2.1)) = false := q6
      conv => whnf
      refine cond_intro (fun q7 => ?_) (fun q7 => ?_)
      · have q7 : (decide ((gP l i.toNat).2.2.1 < 0) || decide (1000000 < (gP l i.toNat).2.2.1)) = true := q7
        conv => whnf
        exact hbad (by rw [badP_iff]; simp only [Bool.or_eq_true, decide_eq_true_eq, Bool.not_eq_true', decide_eq_false_iff_not] at q7; omega)
      have q7 : (decide ((gP l i.toNat).2.2.1 < 0) || decide (1000000 < (gP l i.toNat).2.2.1)) = false := q7
      conv => whnf
      refine ⟨i + 1, ?_, ⟨by omega, by omega, hnext ?_⟩, by omega⟩
      · exact Eq.trans (b := S73 l (IntKind.i64.wrap (i + 1))) rfl (by rw [hw])
      · rw [← Bool.not_eq_true, badP_iff]
        simp only [Bool.or_eq_false_iff, decide_eq_false_iff_not, Bool.not_eq_false', decide_eq_true_eq] at *
        omega
  · have hge : ¬ i < l.length := @of_decide_eq_false _ _ hge
    conv => whnf
    show 0 = cargoR l
    rw [cargoR, if_neg (by omega), if_neg]
    intro hx
    obtain ⟨j, hj, hb⟩ := List.any_eq_true.1 hx
    rw [h2 j (by have := List.mem_range.1 hj; omega)] at hb
    cases hb
end
end Go.Proofs.Yteidanhfkaljaaa.Eng
set_option linter.unusedVariables false
namespace Go.Proofs.Yteidanhfkaljaaa.Eng
open Go
set_option maxRecDepth 100000
noncomputable section
def E72 : Env := ⟨tab, [(36, K36)], ann0⟩
def K72 : Fn1 := ⟨.one raT, .one .bool, fun _ => [], fun (r : Ra) => ratedR r⟩
theorem ratedR_eq (c s d v y : Int) : ratedR (c, s, d, v, y) = ((decide (0 ≤ c) && decide (c ≤ 15)) && (decide (0 ≤ s) && decide (s ≤ 255)) && (decide (0 ≤ d) && decide (d ≤ 255)) && (decide (0 ≤ v) && decide (v ≤ 255)) && (decide (0 ≤ y) && decide (y ≤ 255))) := by
  simp [ratedR, withinR, Bool.and_assoc]
theorem k72 : FnOk Go.Proofs.Try.prog 72 K72 := by
  refine fn_ok (E := E72) (TOk.of tab_told) (AllOk.cons k36 .nil).at_ mix Go.Proofs.Try.func72 rfl rfl (by kernel_rfl) K72 ?_
  rintro ⟨(c : Int), (s : Int), (d : Int), (v : Int), (y : Int)⟩ hp
  clear hp
  iterate 6 (all_goals (conv => whnf); all_goals (try (refine cond_intro (fun h => ?_) (fun h => ?_))))
  all_goals (simp only [K36, cond_true] at *)
  all_goals (show _ = ratedR (c, s, d, v, y); rw [ratedR_eq])
  all_goals (simp [*])
def unitsR (l : List Pa) : Int := l.foldl (fun (n : Int) p => IntKind.i64.wrap (n + p.2.2.2.2.1)) 0
def K45 : Fn1 := ⟨.one (.sl paT), .one I, fun (l : List Pa) => [l.length ≤ 100000], fun (l : List Pa) => unitsR l⟩
def E45 : Env := ⟨tab, [], fun n => match n with | 3 => some ([3, 6, 7, 8], [], []) | _ => none⟩
def S45 (l : List Pa) (n i : Int) : SL := ⟨[.undef, .undef, .undef, .int .i64 n, .undef, .undef, .sl paT l, .int .i64 l.length, .int .i64 i] ++ List.replicate 9 .undef, [], 0⟩
theorem k45 : FnOk Go.Proofs.Try.prog 45 K45 := by
  refine fn_ok (E := E45) (TOk.of tab_told) (fun f k h => by cases h) mix Go.Proofs.Try.func45 rfl rfl (by kernel_rfl) K45 ?_
  rintro (l : List Pa) hp
  have hl : l.length ≤ 100000 := hp _ (List.mem_cons_self ..)
  clear hp
  conv => whnf
  refine loop_rule (fun i => S45 l (unitsR (l.take i.toNat)) i) (fun i => ((l.length : Int) - i).toNat) (fun i => 0 ≤ i ∧ i ≤ l.length) ?_ 0 (by kernel_rfl) ?_ ⟨by omega, by omega⟩
  case refine_2 => rfl
  rintro i ⟨h0, h1⟩
  conv => whnf
  refine cond_intro (fun hlt => ?_) (fun hge => ?_)
  · have hlt : i < l.length := @of_decide_eq_true _ _ hlt
    have e : gP l i.toNat = l[i.toNat]'(by omega) := gP_eq _
    have ht : l.take (i.toNat + 1) = l.take i.toNat ++ [gP l i.toNat] := by rw [List.take_succ_eq_append_getElem (by omega), e]
    have hw : IntKind.i64.wrap (i + 1) = i + 1 := wrap_eq (by omega) (by omega)
    have en : (i + 1).toNat = i.toNat + 1 := by omega
    conv => whnf
    refine ⟨h0, ?_⟩
    conv => whnf
    refine ⟨hlt, ?_⟩
    conv => whnf
    refine ⟨i + 1, ?_, ⟨by omega, by omega⟩, by omega⟩
    exact Eq.trans (b := S45 l (IntKind.i64.wrap (unitsR (l.take i.toNat) + (gP l i.toNat).2.2.2.2.1)) (IntKind.i64.wrap (i + 1))) rfl (by rw [hw, en, ht]; unfold unitsR; rw [List.foldl_append]; rfl)
  · have hge : ¬ i < l.length := @of_decide_eq_false _ _ hge
    conv => whnf
    show unitsR (l.take i.toNat) = unitsR l
    rw [List.take_of_length_le (by omega)]
def K25 : Fn1 := ⟨.one (.sl paT), .one I, fun (l : List Pa) => [l.length ≤ 100000], fun (l : List Pa) => unitsR l⟩
def E25 : Env := ⟨tab, [], fun n => match n with | 3 => some ([3, 6, 7, 8], [], []) | _ => none⟩
theorem k25 : FnOk Go.Proofs.Try.prog 25 K25 := by
  refine fn_ok (E := E25) (TOk.of tab_told) (fun f k h => by cases h) mix Go.Proofs.Try.func25 rfl rfl (by kernel_rfl) K25 ?_
  rintro (l : List Pa) hp
  have hl : l.length ≤ 100000 := hp _ (List.mem_cons_self ..)
  clear hp
  conv => whnf
  refine loop_rule (fun i => S45 l (unitsR (l.take i.toNat)) i) (fun i => ((l.length : Int) - i).toNat) (fun i => 0 ≤ i ∧ i ≤ l.length) ?_ 0 (by kernel_rfl) ?_ ⟨by omega, by omega⟩
  case refine_2 => rfl
  rintro i ⟨h0, h1⟩
  conv => whnf
  refine cond_intro (fun hlt => ?_) (fun hge => ?_)
  · have hlt : i < l.length := @of_decide_eq_true _ _ hlt
    have e : gP l i.toNat = l[i.toNat]'(by omega) := gP_eq _
    have ht : l.take (i.toNat + 1) = l.take i.toNat ++ [gP l i.toNat] := by rw [List.take_succ_eq_append_getElem (by omega), e]
    have hw : IntKind.i64.wrap (i + 1) = i + 1 := wrap_eq (by omega) (by omega)
    have en : (i + 1).toNat = i.toNat + 1 := by omega
    conv => whnf
    refine ⟨h0, ?_⟩
    conv => whnf
    refine ⟨hlt, ?_⟩
    conv => whnf
    refine ⟨i + 1, ?_, ⟨by omega, by omega⟩, by omega⟩
    exact Eq.trans (b := S45 l (IntKind.i64.wrap (unitsR (l.take i.toNat) + (gP l i.toNat).2.2.2.2.1)) (IntKind.i64.wrap (i + 1))) rfl (by rw [hw, en, ht]; unfold unitsR; rw [List.foldl_append]; rfl)
  · have hge : ¬ i < l.length := @of_decide_eq_false _ _ hge
    conv => whnf
    show unitsR (l.take i.toNat) = unitsR l
    rw [List.take_of_length_le (by omega)]
end
end Go.Proofs.Yteidanhfkaljaaa.Eng
set_option linter.unusedVariables false
namespace Go.Proofs.Yteidanhfkaljaaa.Eng
open Go
set_option maxRecDepth 100000
noncomputable section
def E63 : Env := ⟨tab, [(82, K82)], ann0⟩
def gap (a b : Int) : Int := if a < b then IntKind.i64.wrap (b - a) else IntKind.i64.wrap (a - b)
def farR (w a b : Int) : Int := max2 (gap (Int.tmod a w) (Int.tmod b w)) (gap (quo64 a w) (quo64 b w))
def K63 : Fn1 := ⟨.fld I (.fld I (.one I)), .one I, fun (a : Int × Int × Int) => [a.1 ≠ 0], fun (a : Int × Int × Int) => farR a.1 a.2.1 a.2.2⟩
theorem k63 : FnOk Go.Proofs.Try.prog 63 K63 := by
  refine fn_ok (E := E63) (TOk.of tab_told) (AllOk.cons k82 .nil).at_ mix Go.Proofs.Try.func63 rfl rfl (by kernel_rfl) K63 ?_
  rintro ⟨(w : Int), (a : Int), (b : Int)⟩ hp
  have hw : w ≠ 0 := hp _ (List.mem_cons_self ..)
  clear hp
  iterate 8 (all_goals (conv => whnf); all_goals (try (refine ⟨hw, ?_⟩)))
  rfl
end
end Go.Proofs.Yteidanhfkaljaaa.Eng
set_option linter.unusedVariables false
namespace Go.Proofs.Yteidanhfkaljaaa.Eng
open Go
set_option maxRecDepth 100000
noncomputable section
def E38 : Env := ⟨tab, [(48, K48), (61, K61)], fun n => match n with | 2 => some ([1, 2, 3, 12, 13, 14], [], []) | _ => none⟩
def nearP (w h t : Int) (p : Pl) : Bool := decide (p.2 < IntKind.i64.wrap (w * h)) && decide (apartR w p.2 t ≤ reachR p.1)
abbrev covIn : Ty := .fld stT (.fld I (.fld I (.one I)))
def K38 : Fn1 := ⟨covIn, .one .bool, fun (a : St × Int × Int × Int) => [a.1.2.1.length ≤ 100000, a.2.1 ≠ 0, ∀ p ∈ a.1.2.1, 0 ≤ p.1 ∧ p.1 ≤ 3], fun (a : St × Int × Int × Int) => a.1.2.1.any (nearP a.2.1 a.2.2.1 a.2.2.2)⟩
def S38 (ps : List Pl) (w h t i : Int) : SL := ⟨[.undef, .int .i64 w, .int .i64 h, .int .i64 t] ++ List.replicate 8 .undef ++ [.sl plT ps, .int .i64 ps.length, .int .i64 i] ++ List.replicate 21 .undef, [], 0⟩
theorem k38 : FnOk Go.Proofs.Try.prog 38 K38 := by
  refine fn_ok (E := E38) (TOk.of tab_told) (AllOk.cons k48 (.cons k61 .nil)).at_ mix Go.Proofs.Try.func38 rfl rfl (by kernel_rfl) K38 ?_
  rintro ⟨⟨(ow : Int), (ps : List Pl), (ws : List Pa), (rs : List Ra)⟩, (w : Int), (h : Int), (t : Int)⟩ hp
  have hl : ps.length ≤ 100000 := hp _ (List.mem_cons_self ..)
  have hw0 : w ≠ 0 := hp _ (List.mem_cons_of_mem _ (List.mem_cons_self ..))
  have hk : ∀ p ∈ ps, 0 ≤ p.1 ∧ p.1 ≤ 3 := hp _ (List.mem_cons_of_mem _ (List.mem_cons_of_mem _ (List.mem_cons_self ..)))
  clear hp
  conv => whnf
  refine loop_rule (S38 ps w h t) (fun i => ((ps.length : Int) - i).toNat) (fun i => 0 ≤ i ∧ i ≤ ps.length ∧ (ps.take i.toNat).any (nearP w h t) = false) ?_ 0 (by kernel_rfl) ?_ ⟨by omega, by omega, by simp⟩
  case refine_2 => rfl
  rintro i ⟨h0, h1, h2⟩
  conv => whnf
  refine cond_intro (fun hlt => ?_) (fun hge => ?_)
  · have hlt : i < ps.length := @of_decide_eq_true _ _ hlt
    have e : gS ps i.toNat = ps[i.toNat]'(by omega) := by simp [gS, show i.toNat < ps.length by omega]
    have hm : gS ps i.toNat ∈ ps := by rw [e]; exact List.getElem_mem _
    have ht : ps.take (i.toNat + 1) = ps.take i.toNat ++ [gS ps i.toNat] := by rw [List.take_succ_eq_append_getElem (by omega), e]
    have hw : IntKind.i64.wrap (i + 1) = i + 1 := wrap_eq (by omega) (by omega)
    have en : (i + 1).toNat = i.toNat + 1 := by omega
    conv => whnf
    refine ⟨h0, ?_⟩
    conv => whnf
    refine ⟨hlt, ?_⟩
    conv => whnf
    refine cond_intro (fun hq => ?_) (fun hq => ?_)
    · have hq : decide ((gS ps i.toNat).2 < IntKind.i64.wrap (w * h)) = true := hq
      conv => whnf
      refine ⟨hw0, ?_⟩
      conv => whnf
      refine ⟨(hk _ hm).1, ?_⟩
      conv => whnf
      refine ⟨(hk _ hm).2, ?_⟩
      conv => whnf
      refine cond_intro (fun hr => ?_) (fun hr => ?_)
      · have hr : decide (apartR w (gS ps i.toNat).2 t ≤ reachR (gS ps i.toNat).1) = true := hr
        conv => whnf
        exact (List.any_eq_true.2 ⟨_, hm, by rw [nearP, hq, hr]; rfl⟩).symm
      · have hr : decide (apartR w (gS ps i.toNat).2 t ≤ reachR (gS ps i.toNat).1) = false := hr
        conv => whnf
        refine ⟨i + 1, ?_, ⟨by omega, by omega, ?_⟩, by omega⟩
        · exact Eq.trans (b := S38 ps w h t (IntKind.i64.wrap (i + 1))) rfl (by rw [hw])
        · rw [en, ht, List.any_append, h2, List.any_cons, nearP, hq, hr]; rfl
    · have hq : decide ((gS ps i.toNat).2 < IntKind.i64.wrap (w * h)) = false := hq
      conv => whnf
      refine ⟨i + 1, ?_, ⟨by omega, by omega, ?_⟩, by omega⟩
      · exact Eq.trans (b := S38 ps w h t (IntKind.i64.wrap (i + 1))) rfl (by rw [hw])
      · rw [en, ht, List.any_append, h2, List.any_cons, nearP, hq]; rfl
  · have hge : ¬ i < ps.length := @of_decide_eq_false _ _ hge
    conv => whnf
    rw [List.take_of_length_le (by omega)] at h2
    exact h2.symm
end
end Go.Proofs.Yteidanhfkaljaaa.Eng
set_option linter.unusedVariables false
set_option linter.unusedSimpArgs false
namespace Go.Proofs.Yteidanhfkaljaaa.Eng.Cg
open Go Go.Proofs.Yteidanhfkaljaaa.Eng
set_option maxRecDepth 100000
noncomputable section
abbrev I : Ty := .int .i64
theorem mix : Go.Proofs.Try.prog.follows .mixedOrders = true := by kernel_rfl
def gI (l : List Int) (n : Nat) : Int := l.getD n 0
theorem gI_eq {l : List Int} {n : Nat} (h : n < l.length) : gI l n = l[n] := by simp [gI, h]
theorem wrap_eq {i : Int} (h : -9223372036854775808 ≤ i) (g : i ≤ 9223372036854775807) : IntKind.i64.wrap i = i := by rw [IntKind.wrap_i64]; omega
abbrev paT : Ty := .fld I (.fld I (.fld I (.fld I (.fld I (.one I)))))
def ann0 : Nat → Option (List Nat × List (Nat × Ty) × List (Nat × Nat × Ty)) := fun _ => none
def E0 : Env := ⟨tab, [], ann0⟩
theorem noK : ∀ f k, findK (E0).K f = some k → CtrOk Go.Proofs.Try.prog f k := fun f k h => by cases h
abbrev Pa := Int × Int × Int × Int × Int × Int
abbrev Ra := Int × Int × Int × Int × Int
def in0 (n b : Int) : Bool := decide (0 ≤ n) && decide (n ≤ b)
def K83 : Fn1 := ⟨.fld I (.one I), .one .bool, fun _ => [], fun (a : Int × Int) => in0 a.1 a.2⟩
theorem k83 : FnOk Go.Proofs.Try.prog 83 K83 := by
  refine fn_ok (E := E0) (TOk.of tab_told) noK mix Go.Proofs.Try.func83 rfl rfl (by kernel_rfl) K83 ?_
  rintro ⟨(n : Int), (m : Int)⟩ hp
  clear hp
  iterate 3 (all_goals (conv => whnf); all_goals (try (refine cond_intro (fun h => ?_) (fun h => ?_))))
  all_goals (simp only [decide_eq_true_eq, decide_eq_false_iff_not] at *)
  all_goals (show _ = in0 n m; unfold in0)
  · have : 0 ≤ n := by assumption
    simp [this]
  · have : ¬ 0 ≤ n := by assumption
    simp [this]
def E66 : Env := ⟨tab, [(83, K83)], ann0⟩
def soundR (p : Pa) : Bool := decide (1 ≤ p.2.2.2.2.1) && decide (p.2.2.2.2.1 ≤ 1000000) && in0 p.2.2.2.1 255 && in0 p.2.2.2.2.2 1000000000000 && in0 p.1 1000000 && in0 p.2.1 1000000 && in0 p.2.2.1 1000000
def K66 : Fn1 := ⟨.one paT, .one .bool, fun _ => [], fun (p : Pa) => soundR p⟩
theorem k66 : FnOk Go.Proofs.Try.prog 66 K66 := by
  refine fn_ok (E := E66) (TOk.of tab_told) (AllOk.cons k83 .nil).at_ mix Go.Proofs.Try.func66 rfl rfl (by kernel_rfl) K66 ?_
  rintro ⟨(k : Int), (f : Int), (t : Int), (g : Int), (c : Int), (s : Int)⟩ hp
  clear hp
  iterate 9 (all_goals (conv => whnf); all_goals (try (refine cond_intro (fun h => ?_) (fun h => ?_))))
  all_goals (simp only [cond_true, K83] at *)
  all_goals (show _ = soundR (k, f, t, g, c, s); simp [soundR, *])
def K86 : Fn1 := ⟨.one I, .one .bool, fun _ => [], fun _ => false⟩
theorem k86 : FnOk Go.Proofs.Try.prog 86 K86 := by
  refine fn_ok (E := E0) (TOk.of tab_told) noK mix Go.Proofs.Try.func86 rfl rfl (by kernel_rfl) K86 ?_
  rintro (n : Int) hp
  clear hp
  conv => whnf
  show (!decide (n = n)) = false
  simp
def E70 : Env := ⟨tab, [(86, K86)], ann0⟩
def cmpR (a b : Int) : Int := if a < b then -1 else if b < a then 1 else 0
def K70 : Fn1 := ⟨.fld I (.one I), .one I, fun _ => [], fun (a : Int × Int) => cmpR a.1 a.2⟩
theorem k70 : FnOk Go.Proofs.Try.prog 70 K70 := by
  refine fn_ok (E := E70) (TOk.of tab_told) (AllOk.cons k86 .nil).at_ mix Go.Proofs.Try.func70 rfl rfl (by kernel_rfl) K70 ?_
  rintro ⟨(a : Int), (b : Int)⟩ hp
  clear hp
  iterate 9 (all_goals (conv => whnf); all_goals (try (refine cond_intro (fun h => ?_) (fun h => ?_))))
  all_goals (simp only [decide_eq_true_eq, decide_eq_false_iff_not] at *)
  all_goals (show _ = cmpR a b; simp [cmpR, *])
def E84 : Env := ⟨tab, [], fun n => match n with | 3 => some ([3, 6, 7, 8], [], []) | _ => none⟩
def K84 : Fn1 := ⟨.one (.sl I), .one I, fun (l : List Int) => [l.length ≤ 100000], fun (l : List Int) => (l.find? (fun n => decide (n ≠ 0))).getD 0⟩
def S84 (l : List Int) (i : Int) : SL := ⟨[.undef, .undef, .undef, .int .i64 0, .undef, .undef, .sl I l, .int .i64 l.length, .int .i64 i] ++ List.replicate 9 .undef, [], 0⟩
theorem k84 : FnOk Go.Proofs.Try.prog 84 K84 := by
  refine fn_ok (E := E84) (TOk.of tab_told) noK mix Go.Proofs.Try.func84 rfl rfl (by kernel_rfl) K84 ?_
  rintro (l : List Int) hp
  have hl : l.length ≤ 100000 := hp _ (List.mem_cons_self ..)
  clear hp
  conv => whnf
  refine loop_rule (S84 l) (fun i => ((l.length : Int) - i).toNat) (fun i => 0 ≤ i ∧ i ≤ l.length ∧ ∀ n ∈ l.take i.toNat, n = 0) ?_ 0 (by kernel_rfl) ?_ ⟨by omega, by omega, by simp⟩
  case refine_2 => rfl
  rintro i ⟨h0, h1, h2⟩
  conv => whnf
  have hsp : l = l.take i.toNat ++ l.drop i.toNat := (List.take_append_drop _ _).symm
  have hnone : (l.take i.toNat).find? (fun n => decide (n ≠ 0)) = none := by simpa using h2
  refine cond_intro (fun hlt => ?_) (fun hge => ?_)
  · have hlt : i < l.length := @of_decide_eq_true _ _ hlt
    have e : gI l i.toNat = l[i.toNat]'(by omega) := gI_eq _
    have hd : l.drop i.toNat = gI l i.toNat :: l.drop (i.toNat + 1) := by rw [List.drop_eq_getElem_cons (by omega), e]
    have ht : l.take (i.toNat + 1) = l.take i.toNat ++ [gI l i.toNat] := by rw [List.take_succ_eq_append_getElem (by omega), e]
    conv => whnf
    refine ⟨h0, ?_⟩
    conv => whnf
    refine ⟨hlt, ?_⟩
    conv => whnf
    refine cond_intro (fun hz => ?_) (fun hz => ?_)
    · have hz : gI l i.toNat ≠ 0 := by
        have hz : (!decide (gI l i.toNat = 0)) = true := hz
        simpa using hz
      conv => whnf
      show gI l i.toNat = (l.find? (fun n => decide (n ≠ 0))).getD 0
      rw [hsp, List.find?_append, hnone, ← hsp, hd]
      simp [hz]
    · have hz : gI l i.toNat = 0 := by
        have hz : (!decide (gI l i.toNat = 0)) = false := hz
        simpa using hz
      conv => whnf
      have hw : IntKind.i64.wrap (i + 1) = i + 1 := wrap_eq (by omega) (by omega)
      refine ⟨i + 1, ?_, ⟨by omega, by omega, ?_⟩, by omega⟩
      · exact Eq.trans (b := S84 l (IntKind.i64.wrap (i + 1))) rfl (by rw [hw])
      · rw [show (i + 1).toNat = i.toNat + 1 by omega, ht]
        intro n hn
        rcases List.mem_append.1 hn with hn | hn
        · exact h2 n hn
        · cases List.mem_singleton.1 hn
          exact hz
  · have hge : ¬ i < l.length := @of_decide_eq_false _ _ hge
    conv => whnf
    show 0 = (l.find? (fun n => decide (n ≠ 0))).getD 0
    rw [show l.take i.toNat = l from List.take_of_length_le (by omega)] at hnone
    rw [hnone]; rfl
def E67 : Env := ⟨tab, [(70, K70), (84, K84)], ann0⟩
def compareR (a b : Pa) : Int := ([cmpR a.1 b.1, cmpR a.2.1 b.2.1, cmpR a.2.2.1 b.2.2.1, cmpR a.2.2.2.1 b.2.2.2.1].find? (fun n => decide (n ≠ 0))).getD 0
def K67 : Fn1 := ⟨.fld paT (.one paT), .one I, fun _ => [], fun (a : Pa × Pa) => compareR a.1 a.2⟩
theorem k67 : FnOk Go.Proofs.Try.prog 67 K67 := by
  refine fn_ok (E := E67) (TOk.of tab_told) (AllOk.cons k70 (.cons k84 .nil)).at_ mix Go.Proofs.Try.func67 rfl rfl (by kernel_rfl) K67 ?_
  rintro ⟨⟨(k : Int), (f : Int), (t : Int), (g : Int), (c : Int), (s : Int)⟩, ⟨(k' : Int), (f' : Int), (t' : Int), (g' : Int), (c' : Int), (s' : Int)⟩⟩ hp
  clear hp
  conv => whnf
  refine ⟨show 4 ≤ 100000 by omega, ?_⟩
  conv => whnf
  rfl
def gP (l : List Pa) (n : Nat) : Pa := l.getD n (0, 0, 0, 0, 0, 0)
theorem gP_eq {l : List Pa} {n : Nat} (h : n < l.length) : gP l n = l[n] := by simp [gP, h]
/-- What is wrong at a place of a load. -/
def badP (l : List Pa) (i : Nat) : Bool := !soundR (gP l i) || (decide (0 < i) && decide (0 ≤ compareR (gP l (i - 1)) (gP l i)))
def cargoR (l : List Pa) : Int := if 200 < l.length then 4 else if (List.range l.length).any (badP l) then 1 else 0
def E47 : Env := ⟨tab, [(66, K66), (67, K67)], fun n => match n with | 4 => some ([0, 8, 9, 10], [], []) | _ => none⟩
def K47 : Fn1 := ⟨.one (.sl paT), .one I, fun (l : List Pa) => [l.length ≤ 100000], fun (l : List Pa) => cargoR l⟩
def S47 (l : List Pa) (i : Int) : SL := ⟨[.sl paT l, .undef, .undef, .undef, .undef, .undef, .undef, .undef, .sl paT l, .int .i64 l.length, .int .i64 i] ++ List.replicate 22 .undef, [], 0⟩
theorem k47 : FnOk Go.Proofs.Try.prog 47 K47 := by
  refine fn_ok (E := E47) (TOk.of tab_told) (AllOk.cons k66 (.cons k67 .nil)).at_ mix Go.Proofs.Try.func47 rfl rfl (by kernel_rfl) K47 ?_
  rintro (l : List Pa) hp
  have hl : l.length ≤ 100000 := hp _ (List.mem_cons_self ..)
  clear hp
  conv => whnf
  refine cond_intro (fun hlarge => ?_) (fun hsmall => ?_)
  · have hlarge : 200 < (l.length : Int) := @of_decide_eq_true _ _ hlarge
    conv => whnf
    show 4 = cargoR l
    rw [cargoR, if_pos (by omega)]
  have hsmall : ¬ 200 < (l.length : Int) := @of_decide_eq_false _ _ hsmall
  conv => whnf
  refine loop_rule (S47 l) (fun i => ((l.length : Int) - i).toNat) (fun i => 0 ≤ i ∧ i ≤ l.length ∧ ∀ j : Nat, (j : Int) < i → badP l j = false) ?_ 0 (by kernel_rfl) ?_ ⟨by omega, by omega, fun j hj => by omega⟩
  case refine_2 => rfl
  rintro i ⟨h0, h1, h2⟩
  have hbad : i < l.length → badP l i.toNat = true → 1 = cargoR l := by
    intro hlt hb
    rw [cargoR, if_neg (by omega), if_pos]
    exact List.any_eq_true.2 ⟨i.toNat, List.mem_range.2 (by omega), hb⟩
  have hw : i < l.length → IntKind.i64.wrap (i + 1) = i + 1 := fun _ => wrap_eq (by omega) (by omega)
  have hw' : IntKind.i64.wrap (i - 1) = i - 1 := wrap_eq (by omega) (by omega)
  conv => whnf
  refine cond_intro (fun hlt => ?_) (fun hge => ?_)
  · have hlt : i < l.length := @of_decide_eq_true _ _ hlt
    have hnext : badP l i.toNat = false → ∀ j : Nat, (j : Int) < i + 1 → badP l j = false := by
      intro hb j hj
      by_cases hji : (j : Int) < i
      · exact h2 j hji
      · rw [show j = i.toNat by omega]; exact hb
    conv => whnf
    refine ⟨h0, ?_⟩
    conv => whnf
    refine ⟨hlt, ?_⟩
    conv => whnf
    refine cond_intro (fun hs => ?_) (fun hs => ?_)
    · have hs : soundR (gP l i.toNat) = false := by
        have hs : (!soundR (gP l i.toNat)) = true := hs
        simpa using hs
      conv => whnf
      exact hbad hlt (by simp [badP, hs])
    · have hs : soundR (gP l i.toNat) = true := by
        have hs : (!soundR (gP l i.toNat)) = false := hs
        simpa using hs
      conv => whnf
      refine cond_intro (fun hpos => ?_) (fun hz => ?_)
      · have hpos : 0 < i := @of_decide_eq_true _ _ hpos
        conv => whnf
        refine ⟨show 0 ≤ IntKind.i64.wrap (i - 1) by rw [hw']; omega, ?_⟩
        conv => whnf
        refine ⟨show IntKind.i64.wrap (i - 1) < (l.length : Int) by rw [hw']; omega, ?_⟩
        conv => whnf
        have ei : (i - 1).toNat = i.toNat - 1 := by omega
        refine cond_intro (fun hc => ?_) (fun hc => ?_)
        · have hc : 0 ≤ compareR (gP l (IntKind.i64.wrap (i - 1)).toNat) (gP l i.toNat) := @of_decide_eq_true _ _ hc
          rw [hw', ei] at hc
          conv => whnf
          exact hbad hlt (by simp [badP, hs, hc]; omega)
        · have hc : ¬ 0 ≤ compareR (gP l (IntKind.i64.wrap (i - 1)).toNat) (gP l i.toNat) := @of_decide_eq_false _ _ hc
          rw [hw', ei] at hc
          conv => whnf
          refine ⟨i + 1, ?_, ⟨by omega, by omega, hnext ?_⟩, by omega⟩
          · exact Eq.trans (b := S47 l (IntKind.i64.wrap (i + 1))) rfl (by rw [hw hlt])
          · simp [badP, hs, hc]
      · have hz : ¬ 0 < i := @of_decide_eq_false _ _ hz
        conv => whnf
        refine ⟨i + 1, ?_, ⟨by omega, by omega, hnext ?_⟩, by omega⟩
        · exact Eq.trans (b := S47 l (IntKind.i64.wrap (i + 1))) rfl (by rw [hw hlt])
        · have : ¬ 0 < i.toNat := by omega
          simp [badP, hs, this]
  · have hge : ¬ i < l.length := @of_decide_eq_false _ _ hge
    conv => whnf
    show 0 = cargoR l
    rw [cargoR, if_neg (by omega), if_neg]
    intro hx
    obtain ⟨j, hj, hb⟩ := List.any_eq_true.1 hx
    rw [h2 j (by have := List.mem_range.1 hj; omega)] at hb
    cases hb
def K89 : Fn1 := ⟨.fld I (.one I), .one .bool, fun _ => [], fun (a : Int × Int) => decide (a.1 < 0) || decide (a.2 < a.1)⟩
theorem k89 : FnOk Go.Proofs.Try.prog 89 K89 := by
  refine fn_ok (E := E0) (TOk.of tab_told) noK mix Go.Proofs.Try.func89 rfl rfl (by kernel_rfl) K89 ?_
  rintro ⟨(n : Int), (m : Int)⟩ hp
  clear hp
  conv => whnf
  refine cond_intro (fun h => ?_) (fun h => ?_)
  · have h : decide (n < 0) = true := h
    conv => whnf
    show true = (decide (n < 0) || decide (m < n))
    rw [h]; rfl
  · have h : decide (n < 0) = false := h
    conv => whnf
    show _ = (decide (n < 0) || decide (m < n))
    rw [h]; rfl
theorem find4 (a b c d : Int) : ([a, b, c, d].find? (fun n => decide (n ≠ 0))).getD 0 = if a ≠ 0 then a else if b ≠ 0 then b else if c ≠ 0 then c else d := by
  by_cases h1 : a = 0 <;> by_cases h2 : b = 0 <;> by_cases h3 : c = 0 <;> by_cases h4 : d = 0 <;> simp [h1, h2, h3, h4]
theorem cmpR_lt (a b : Int) : cmpR a b < 0 ↔ a < b := by unfold cmpR; split <;> (try split) <;> omega
theorem cmpR_eq (a b : Int) : cmpR a b = 0 ↔ a = b := by unfold cmpR; split <;> (try split) <;> omega
def K88 : Fn1 := ⟨.fld paT (.one paT), .one .bool, fun _ => [], fun (a : Pa × Pa) => decide (compareR a.1 a.2 < 0)⟩
theorem k88 : FnOk Go.Proofs.Try.prog 88 K88 := by
  refine fn_ok (E := E0) (TOk.of tab_told) noK mix Go.Proofs.Try.func88 rfl rfl (by kernel_rfl) K88 ?_
  rintro ⟨⟨(k : Int), (f : Int), (t : Int), (g : Int), (c : Int), (s : Int)⟩, ⟨(k' : Int), (f' : Int), (t' : Int), (g' : Int), (c' : Int), (s' : Int)⟩⟩ hp
  clear hp
  iterate 6 (all_goals (conv => whnf); all_goals (try (refine cond_intro (fun h => ?_) (fun h => ?_))))
  all_goals (simp only [Bool.not_eq_true', Bool.not_eq_false', decide_eq_true_eq, decide_eq_false_iff_not] at *)
  all_goals (show _ = decide (compareR (k, f, t, g, c, s) (k', f', t', g', c', s') < 0); rw [decide_eq_decide, compareR, find4])
  all_goals (simp [cmpR_lt, cmpR_eq, *])
def E73 : Env := ⟨tab, [(88, K88), (89, K89)], fun n => match n with | 4 => some ([0, 3], [], []) | _ => none⟩
def K73 : Fn1 := ⟨.one (.sl paT), .one I, fun (l : List Pa) => [l.length ≤ 100000], fun (l : List Pa) => cargoR l⟩
def S73 (l : List Pa) (i : Int) : SL := ⟨[.sl paT l, .undef, .undef, .int .i64 i] ++ List.replicate 61 .undef, [], 0⟩
theorem badP_iff (l : List Pa) (i : Nat) : badP l i = true ↔ ((gP l i).2.2.2.2.1 < 1 ∨ 1000000 < (gP l i).2.2.2.2.1 ∨ (gP l i).2.2.2.1 < 0 ∨ 255 < (gP l i).2.2.2.1 ∨ (gP l i).2.2.2.2.2 < 0 ∨ 1000000000000 < (gP l i).2.2.2.2.2
    ∨ (gP l i).1 < 0 ∨ 1000000 < (gP l i).1 ∨ (gP l i).2.1 < 0 ∨ 1000000 < (gP l i).2.1 ∨ (gP l i).2.2.1 < 0 ∨ 1000000 < (gP l i).2.2.1) ∨ (0 < i ∧ 0 ≤ compareR (gP l (i - 1)) (gP l i)) := by
  simp only [badP, soundR, in0, Bool.or_eq_true, Bool.not_eq_true', Bool.and_eq_false_iff, Bool.and_eq_true, decide_eq_true_eq, decide_eq_false_iff_not]
  omega
theorem k73 : FnOk Go.Proofs.Try.prog 73 K73 := by
  refine fn_ok (E := E73) (TOk.of tab_told) (AllOk.cons k88 (.cons k89 .nil)).at_ mix Go.Proofs.Try.func73 rfl rfl (by kernel_rfl) K73 ?_
  rintro (l : List Pa) hp
  have hl : l.length ≤ 100000 := hp _ (List.mem_cons_self ..)
  clear hp
  conv => whnf
  refine cond_intro (fun hlarge => ?_) (fun hsmall => ?_)
  · have hlarge : 200 < (l.length : Int) := @of_decide_eq_true _ _ hlarge
    conv => whnf
    show 4 = cargoR l
    rw [cargoR, if_pos (by omega)]
  have hsmall : ¬ 200 < (l.length : Int) := @of_decide_eq_false _ _ hsmall
  conv => whnf
  refine loop_rule (S73 l) (fun i => ((l.length : Int) - i).toNat) (fun i => 0 ≤ i ∧ i ≤ l.length ∧ ∀ j : Nat, (j : Int) < i → badP l j = false) ?_ 0 (by kernel_rfl) ?_ ⟨by omega, by omega, fun j hj => by omega⟩
  case refine_2 => rfl
  rintro i ⟨h0, h1, h2⟩
  conv => whnf
  refine cond_intro (fun hlt => ?_) (fun hge => ?_)
  · have hlt : i < l.length := @of_decide_eq_true _ _ hlt
    have hbad : badP l i.toNat = true → 1 = cargoR l := by
      intro hb
      rw [cargoR, if_neg (by omega), if_pos]
      exact List.any_eq_true.2 ⟨i.toNat, List.mem_range.2 (by omega), hb⟩
    have hw : IntKind.i64.wrap (i + 1) = i + 1 := wrap_eq (by omega) (by omega)
    have hw' : IntKind.i64.wrap (i - 1) = i - 1 := wrap_eq (by omega) (by omega)
    have hnext : badP l i.toNat = false → ∀ j : Nat, (j : Int) < i + 1 → badP l j = false := by
      intro hb j hj
      by_cases hji : (j : Int) < i
      · exact h2 j hji
      · rw [show j = i.toNat by omega]; exact hb
    conv => whnf
    refine ⟨h0, ?_⟩
    conv => whnf
    refine ⟨hlt, ?_⟩
    conv => whnf
    refine cond_intro (fun hpos => ?_) (fun hz => ?_)
    · have hpos : 0 < i := @of_decide_eq_true _ _ hpos
      conv => whnf
      refine ⟨show 0 ≤ IntKind.i64.wrap (i - 1) by rw [hw']; omega, ?_⟩
      conv => whnf
      refine ⟨show IntKind.i64.wrap (i - 1) < (l.length : Int) by rw [hw']; omega, ?_⟩
      have ei : (i - 1).toNat = i.toNat - 1 := by omega
      conv => whnf
      refine cond_intro (fun q0 => ?_) (fun q0 => ?_)
      · have q0 : (!decide (compareR (gP l (IntKind.i64.wrap (i - 1)).toNat) (gP l i.toNat) < 0)) = true := q0
        rw [hw', ei] at q0
        conv => whnf
        exact hbad (by rw [badP_iff]; simp only [Bool.not_eq_true', decide_eq_false_iff_not] at q0; omega)
      have q0 : (!decide (compareR (gP l (IntKind.i64.wrap (i - 1)).toNat) (gP l i.toNat) < 0)) = false := q0
      rw [hw', ei] at q0
      conv => whnf
      refine cond_intro (fun q1 => ?_) (fun q1 => ?_)
      · have q1 : decide ((gP l i.toNat).2.2.2.2.1 < 1) = true := q1
        conv => whnf
        exact hbad (by rw [badP_iff]; simp only [Bool.or_eq_true, decide_eq_true_eq, Bool.not_eq_true', decide_eq_false_iff_not] at q1; omega)
      have q1 : decide ((gP l i.toNat).2.2.2.2.1 < 1) = false := q1
      conv => whnf
      refine cond_intro (fun q2 => ?_) (fun q2 => ?_)
      · have q2 : decide (1000000 < (gP l i.toNat).2.2.2.2.1) = true := q2
        conv => whnf
        exact hbad (by rw [badP_iff]; simp only [Bool.or_eq_true, decide_eq_true_eq, Bool.not_eq_true', decide_eq_false_iff_not] at q2; omega)
      have q2 : decide (1000000 < (gP l i.toNat).2.2.2.2.1) = false := q2
      conv => whnf
      refine cond_intro (fun q3 => ?_) (fun q3 => ?_)
      · have q3 : (decide ((gP l i.toNat).2.2.2.1 < 0) || decide (255 < (gP l i.toNat).2.2.2.1)) = true := q3
        conv => whnf
        exact hbad (by rw [badP_iff]; simp only [Bool.or_eq_true, decide_eq_true_eq, Bool.not_eq_true', decide_eq_false_iff_not] at q3; omega)
      have q3 : (decide ((gP l i.toNat).2.2.2.1 < 0) || decide (255 < (gP l i.toNat).2.2.2.1)) = false := q3
      conv => whnf
      refine cond_intro (fun q4 => ?_) (fun q4 => ?_)
      · have q4 : (decide ((gP l i.toNat).2.2.2.2.2 < 0) || decide (1000000000000 < (gP l i.toNat).2.2.2.2.2)) = true := q4
        conv => whnf
        exact hbad (by rw [badP_iff]; simp only [Bool.or_eq_true, decide_eq_true_eq, Bool.not_eq_true', decide_eq_false_iff_not] at q4; omega)
      have q4 : (decide ((gP l i.toNat).2.2.2.2.2 < 0) || decide (1000000000000 < (gP l i.toNat).2.2.2.2.2)) = false := q4
      conv => whnf
      refine cond_intro (fun q5 => ?_) (fun q5 => ?_)
      · have q5 : (decide ((gP l i.toNat).1 < 0) || decide (1000000 < (gP l i.toNat).1)) = true := q5
        conv => whnf
        exact hbad (by rw [badP_iff]; simp only [Bool.or_eq_true, decide_eq_true_eq, Bool.not_eq_true', decide_eq_false_iff_not] at q5; omega)
      have q5 : (decide ((gP l i.toNat).1 < 0) || decide (1000000 < (gP l i.toNat).1)) = false := q5
      conv => whnf
      refine cond_intro (fun q6 => ?_) (fun q6 => ?_)
      · have q6 : (decide ((gP l i.toNat).2.1 < 0) || decide (1000000 < (gP l i.toNat).2.1)) = true := q6
        conv => whnf
        exact hbad (by rw [badP_iff]; simp only [Bool.or_eq_true, decide_eq_true_eq, Bool.not_eq_true', decide_eq_false_iff_not] at q6; omega)
      have q6 : (decide ((gP l i.toNat).2.1 < 0) || decide (1000000 < (gP l i.toNat).2.1)) = false := q6
      conv => whnf
      refine cond_intro (fun q7 => ?_) (fun q7 => ?_)
      · have q7 : (decide ((gP l i.toNat).2.2.1 < 0) || decide (1000000 < (gP l i.toNat).2.2.1)) = true := q7
        conv => whnf
        exact hbad (by rw [badP_iff]; simp only [Bool.or_eq_true, decide_eq_true_eq, Bool.not_eq_true', decide_eq_false_iff_not] at q7; omega)
      have q7 : (decide ((gP l i.toNat).2.2.1 < 0) || decide (1000000 < (gP l i.toNat).2.2.1)) = false := q7
      conv => whnf
      refine ⟨i + 1, ?_, ⟨by omega, by omega, hnext ?_⟩, by omega⟩
      · exact Eq.trans (b := S73 l (IntKind.i64.wrap (i + 1))) rfl (by rw [hw])
      · rw [← Bool.not_eq_true, badP_iff]
        simp only [Bool.or_eq_false_iff, decide_eq_false_iff_not, Bool.not_eq_false', decide_eq_true_eq] at *
        omega
    · have hz : ¬ 0 < i := @of_decide_eq_false _ _ hz
      conv => whnf
      refine cond_intro (fun q1 => ?_) (fun q1 => ?_)
      · have q1 : decide ((gP l i.toNat).2.2.2.2.1 < 1) = true := q1
        conv => whnf
        exact hbad (by rw [badP_iff]; simp only [Bool.or_eq_true, decide_eq_true_eq, Bool.not_eq_true', decide_eq_false_iff_not] at q1; omega)
      have q1 : decide ((gP l i.toNat).2.2.2.2.1 < 1) = false := q1
      conv => whnf
      refine cond_intro (fun q2 => ?_) (fun q2 => ?_)
      · have q2 : decide (1000000 < (gP l i.toNat).2.2.2.2.1) = true := q2
        conv => whnf
        exact hbad (by rw [badP_iff]; simp only [Bool.or_eq_true, decide_eq_true_eq, Bool.not_eq_true', decide_eq_false_iff_not] at q2; omega)
      have q2 : decide (1000000 < (gP l i.toNat).2.2.2.2.1) = false := q2
      conv => whnf
      refine cond_intro (fun q3 => ?_) (fun q3 => ?_)
      · have q3 : (decide ((gP l i.toNat).2.2.2.1 < 0) || decide (255 < (gP l i.toNat).2.2.2.1)) = true := q3
        conv => whnf
        exact hbad (by rw [badP_iff]; simp only [Bool.or_eq_true, decide_eq_true_eq, Bool.not_eq_true', decide_eq_false_iff_not] at q3; omega)
      have q3 : (decide ((gP l i.toNat).2.2.2.1 < 0) || decide (255 < (gP l i.toNat).2.2.2.1)) = false := q3
      conv => whnf
      refine cond_intro (fun q4 => ?_) (fun q4 => ?_)
      · have q4 : (decide ((gP l i.toNat).2.2.2.2.2 < 0) || decide (1000000000000 < (gP l i.toNat).2.2.2.2.2)) = true := q4
        conv => whnf
        exact hbad (by rw [badP_iff]; simp only [Bool.or_eq_true, decide_eq_true_eq, Bool.not_eq_true', decide_eq_false_iff_not] at q4; omega)
      have q4 : (decide ((gP l i.toNat).2.2.2.2.2 < 0) || decide (1000000000000 < (gP l i.toNat).2.2.2.2.2)) = false := q4
      conv => whnf
      refine cond_intro (fun q5 => ?_) (fun q5 => ?_)
      · have q5 : (decide ((gP l i.toNat).1 < 0) || decide (1000000 < (gP l i.toNat).1)) = true := q5
        conv => whnf
        exact hbad (by rw [badP_iff]; simp only [Bool.or_eq_true, decide_eq_true_eq, Bool.not_eq_true', decide_eq_false_iff_not] at q5; omega)
      have q5 : (decide ((gP l i.toNat).1 < 0) || decide (1000000 < (gP l i.toNat).1)) = false := q5
      conv => whnf
      refine cond_intro (fun q6 => ?_) (fun q6 => ?_)
      · have q6 : (decide ((gP l i.toNat).2.1 < 0) || decide (1000000 < (gP l i.toNat).2.1)) = true := q6
        conv => whnf
        exact hbad (by rw [badP_iff]; simp only [Bool.or_eq_true, decide_eq_true_eq, Bool.not_eq_true', decide_eq_false_iff_not] at q6; omega)
      have q6 : (decide ((gP l i.toNat).2.1 < 0) || decide (1000000 < (gP l i.toNat).2.1)) = false := q6
      conv => whnf
      refine cond_intro (fun q7 => ?_) (fun q7 => ?_)
      · have q7 : (decide ((gP l i.toNat).2.2.1 < 0) || decide (1000000 < (gP l i.toNat).2.2.1)) = true := q7
        conv => whnf
        exact hbad (by rw [badP_iff]; simp only [Bool.or_eq_true, decide_eq_true_eq, Bool.not_eq_true', decide_eq_false_iff_not] at q7; omega)
      have q7 : (decide ((gP l i.toNat).2.2.1 < 0) || decide (1000000 < (gP l i.toNat).2.2.1)) = false := q7
      conv => whnf
      refine ⟨i + 1, ?_, ⟨by omega, by omega, hnext ?_⟩, by omega⟩
      · exact Eq.trans (b := S73 l (IntKind.i64.wrap (i + 1))) rfl (by rw [hw])
      · rw [← Bool.not_eq_true, badP_iff]
        simp only [Bool.or_eq_false_iff, decide_eq_false_iff_not, Bool.not_eq_false', decide_eq_true_eq] at *
        omega
  · have hge : ¬ i < l.length := @of_decide_eq_false _ _ hge
    conv => whnf
    show 0 = cargoR l
    rw [cargoR, if_neg (by omega), if_neg]
    intro hx
    obtain ⟨j, hj, hb⟩ := List.any_eq_true.1 hx
    rw [h2 j (by have := List.mem_range.1 hj; omega)] at hb
    cases hb
theorem pa_eq (a b : Pa) : decide (a = b) = (decide (a.1 = b.1) && (decide (a.2.1 = b.2.1) && (decide (a.2.2.1 = b.2.2.1) && (decide (a.2.2.2.1 = b.2.2.2.1) && (decide (a.2.2.2.2.1 = b.2.2.2.2.1) && (decide (a.2.2.2.2.2 = b.2.2.2.2.2) && true)))))) := by
  rw [Bool.eq_iff_iff]; simp [Prod.ext_iff]
def eqPa (l m : List Pa) : Bool := decide (l = m)
def E28 : Env := ⟨tab, [], fun n => match n with | 4 => some ([0, 1, 5], [], []) | _ => none⟩
def K28 : Fn1 := ⟨.fld (.sl paT) (.one (.sl paT)), .one .bool, fun (a : List Pa × List Pa) => [a.1.length ≤ 100000], fun (a : List Pa × List Pa) => eqPa a.1 a.2⟩
def S28 (l m : List Pa) (i : Int) : SL := ⟨[.sl paT l, .sl paT m, .undef, .undef, .undef, .int .i64 i] ++ List.replicate 20 .undef, [], 0⟩
theorem k28 : FnOk Go.Proofs.Try.prog 28 K28 := by
  refine fn_ok (E := E28) (TOk.of tab_told) (fun f k h => by cases h) mix Go.Proofs.Try.func28 rfl rfl (by kernel_rfl) K28 ?_
  rintro ⟨(l : List Pa), (m : List Pa)⟩ hp
  have hl : l.length ≤ 100000 := hp _ (List.mem_cons_self ..)
  clear hp
  conv => whnf
  refine cond_intro (fun h => ?_) (fun h => ?_)
  · have h : (!decide ((l.length : Int) = (m.length : Int))) = true := h
    have h : ¬ (l.length : Int) = (m.length : Int) := by simpa using h
    conv => whnf
    show false = eqPa l m
    symm
    simp only [eqPa, decide_eq_false_iff_not]
    intro e; subst e; exact h rfl
  have h : (!decide ((l.length : Int) = (m.length : Int))) = false := h
  have h : (l.length : Int) = (m.length : Int) := by simpa using h
  have h : l.length = m.length := by omega
  conv => whnf
  refine loop_rule (S28 l m) (fun i => ((l.length : Int) - i).toNat) (fun i => 0 ≤ i ∧ i ≤ l.length ∧ l.take i.toNat = m.take i.toNat) ?_ 0 (by kernel_rfl) ?_ ⟨by omega, by omega, by simp⟩
  case refine_2 => rfl
  rintro i ⟨h0, h1, h2⟩
  conv => whnf
  refine cond_intro (fun hlt => ?_) (fun hge => ?_)
  · have hlt : i < l.length := @of_decide_eq_true _ _ hlt
    have hlm : i < m.length := by omega
    have e : gP l i.toNat = l[i.toNat]'(by omega) := gP_eq (by omega)
    have e' : gP m i.toNat = m[i.toNat]'(by omega) := gP_eq (by omega)
    have ht : l.take (i.toNat + 1) = l.take i.toNat ++ [gP l i.toNat] := by rw [List.take_succ_eq_append_getElem (by omega), e]
    have ht' : m.take (i.toNat + 1) = m.take i.toNat ++ [gP m i.toNat] := by rw [List.take_succ_eq_append_getElem (by omega), e']
    conv => whnf
    refine ⟨h0, ?_⟩
    conv => whnf
    refine ⟨hlt, ?_⟩
    conv => whnf
    refine ⟨h0, ?_⟩
    conv => whnf
    refine ⟨hlm, ?_⟩
    conv => whnf
    refine cond_intro (fun hd => ?_) (fun hd => ?_)
    · have hd : (!decide (gP l i.toNat = gP m i.toNat)) = true := by rw [pa_eq]; exact hd
      have hd : ¬ gP l i.toNat = gP m i.toNat := by simpa using hd
      conv => whnf
      show false = eqPa l m
      symm
      simp only [eqPa, decide_eq_false_iff_not]
      intro e; subst e; exact hd rfl
    · have hd : (!decide (gP l i.toNat = gP m i.toNat)) = false := by rw [pa_eq]; exact hd
      have hd : gP l i.toNat = gP m i.toNat := by simpa using hd
      conv => whnf
      have hw : IntKind.i64.wrap (i + 1) = i + 1 := wrap_eq (by omega) (by omega)
      refine ⟨i + 1, ?_, ⟨by omega, by omega, ?_⟩, by omega⟩
      · exact Eq.trans (b := S28 l m (IntKind.i64.wrap (i + 1))) rfl (by rw [hw])
      · rw [show (i + 1).toNat = i.toNat + 1 by omega, ht, ht', h2, hd]
  · have hge : ¬ i < l.length := @of_decide_eq_false _ _ hge
    conv => whnf
    show true = eqPa l m
    symm
    simp only [eqPa, decide_eq_true_eq]
    rw [List.take_of_length_le (by omega), List.take_of_length_le (by omega)] at h2
    exact h2
end
end Go.Proofs.Yteidanhfkaljaaa.Eng.Cg
set_option linter.unusedVariables false
set_option linter.unusedSimpArgs false
namespace Go.Proofs
open Go.Shelf Go.RowKit Go.Lib Go.Sort
shelf_lay_g SlLaysF0.n6 Slsf 6 at Try 93 as Try.sortPa
end Go.Proofs
namespace Go.Proofs.Yteidanhfkaljaaa.Eng.Cg
open Go Go.RowKit Go.Proofs.Yteidanhfkaljaaa.Eng
set_option maxRecDepth 100000
noncomputable section
def ltP (a b : Pa) : Bool := decide (compareR a b < 0)
theorem ltP_iff (a b : Pa) : ltP a b = true ↔ a.1 < b.1 ∨ (a.1 = b.1 ∧ (a.2.1 < b.2.1 ∨ (a.2.1 = b.2.1 ∧ (a.2.2.1 < b.2.2.1 ∨ (a.2.2.1 = b.2.2.1 ∧ a.2.2.2.1 < b.2.2.2.1))))) := by
  unfold ltP
  rw [decide_eq_true_eq, compareR, find4]
  by_cases h1 : a.1 = b.1 <;> by_cases h2 : a.2.1 = b.2.1 <;> by_cases h3 : a.2.2.1 = b.2.2.1 <;> simp [cmpR_lt, cmpR_eq, h1, h2, h3]
theorem ltP_no (a b : Pa) : ltP a b = false ↔ ¬ (a.1 < b.1 ∨ (a.1 = b.1 ∧ (a.2.1 < b.2.1 ∨ (a.2.1 = b.2.1 ∧ (a.2.2.1 < b.2.2.1 ∨ (a.2.2.1 = b.2.2.1 ∧ a.2.2.2.1 < b.2.2.2.1)))))) := by
  rw [← ltP_iff, Bool.not_eq_true]
theorem swoP0 : Go.Sort.SWO ltP := by
  refine ⟨fun x => ?_, fun x y z h g => ?_, fun x y z h g => ?_⟩
  · rw [ltP_no]; omega
  · rw [ltP_iff] at *; omega
  · rw [ltP_no] at *; omega
theorem swoP : Go.Sort.SWO (ltOf (α := paT.D) compareR) := swoP0
def K79 : Fn1 := ⟨.one (.sl paT), .one (.sl paT), fun (l : List Pa) => [l.length ≤ 1000000], fun (l : List Pa) => l⟩
theorem k79 : FnOk Go.Proofs.Try.prog 79 K79 := by
  refine fn_okN (E := E0) (TOk.of tab_told) noK mix Go.Proofs.Try.func79 rfl rfl (by kernel_rfl) paT (.one (.sl paT)) (fun (l : List Pa) => [l.length ≤ 1000000]) (fun (l : List Pa) => l) (fun hp => ?_) (fun (l : List Pa) hp => ?_)
  · clear hp
    conv => whnf
    rfl
  · have hl : l.length ≤ 1000000 := hp _ (List.mem_cons_self ..)
    clear hp
    conv => whnf
    refine ⟨show (0 + l.length) * 48 ≤ 70368744177664 by omega, ?_⟩
    conv => whnf
    refine ⟨show 0 + l.length ≤ 70368744177664 by omega, ?_⟩
    conv => whnf
    rfl
def X93 : List AV → Nat → Rd Res := sortX paT 67 compareR
theorem k93 : FxOk Go.Proofs.Try.prog 93 X93 := sort_ok (t := paT) (ks := [5, 5, 5, 5, 5, 5]) Go.Proofs.Try.sortPa rfl rfl Go.Proofs.Try.isAgg57 Go.Proofs.Try.sizeOf57 k67 ⟨_, _, Go.Proofs.Try.func93, rfl, rfl⟩
def sortP (l : List Pa) : List Pa := sortD paT compareR l
def E80 : Env := ⟨tab, [(79, K79), (93, .eff X93)], ann0⟩
def K80 : Fn1 := ⟨.one (.sl paT), .one (.sl paT), fun (l : List Pa) => [l.length ≤ 1000000], fun (l : List Pa) => sortP l⟩
theorem k80 : FnOkF Go.Proofs.Try.prog 80 67 K80 := by
  refine fn_okF (E := E80) (TOk.of tab_told) (AllOk.cons k79 (.consX k93 .nil)).at_ mix Go.Proofs.Try.func80 rfl rfl (by kernel_rfl) 67 K80 ?_
  rintro (l : List Pa) hp
  have hl : l.length ≤ 1000000 := hp _ (List.mem_cons_self ..)
  clear hp
  conv => whnf
  refine ⟨hl, ?_⟩
  conv => whnf
  refine ⟨swoP, ?_⟩
  conv => whnf
  refine ⟨show l.length < 4611686018427387904 by omega, ?_⟩
  conv => whnf
  rfl
end
end Go.Proofs.Yteidanhfkaljaaa.Eng.Cg
set_option linter.unusedVariables false
set_option linter.unusedSimpArgs false
namespace Go.Proofs.Yteidanhfkaljaaa.Eng.Cg
open Go Go.RowKit Go.Proofs.Yteidanhfkaljaaa.Eng
set_option maxRecDepth 100000
noncomputable section
theorem wrap_add (a b : Int) : IntKind.i64.wrap (IntKind.i64.wrap a + b) = IntKind.i64.wrap (a + b) := by
  simp only [IntKind.wrap_i64]; omega
/-- Two parcels that are alike, as one. -/
def addP (x p : Pa) : Pa := (x.1, x.2.1, x.2.2.1, x.2.2.2.1, IntKind.i64.wrap (x.2.2.2.2.1 + p.2.2.2.2.1), IntKind.i64.wrap (x.2.2.2.2.2 + p.2.2.2.2.2))
def sameP (x p : Pa) : Prop := x.1 = p.1 ∧ x.2.1 = p.2.1 ∧ x.2.2.1 = p.2.2.1 ∧ x.2.2.2.1 = p.2.2.2.1
instance (x p : Pa) : Decidable (sameP x p) := by unfold sameP; infer_instance
theorem add_lt1 (x p q : Pa) : ltP (addP x p) q = ltP x q := rfl
theorem add_lt2 (x p q : Pa) : ltP q (addP x p) = ltP q x := rfl
theorem same_of {x p : Pa} (h : ltP x p = false) (g : ltP p x = false) : sameP x p := by
  rw [ltP_no] at h g; unfold sameP; omega
theorem same_lt {x p : Pa} (h : sameP x p) : ltP x p = false ∧ ltP p x = false := by
  rw [ltP_no, ltP_no]; unfold sameP at h; omega
theorem same_l {x p : Pa} (h : sameP x p) (q : Pa) : ltP x q = ltP p q ∧ ltP q x = ltP q p := by
  obtain ⟨a, b, c, d⟩ := h
  constructor <;> rw [Bool.eq_iff_iff, ltP_iff, ltP_iff, a, b, c, d]
theorem lt_anti {x p : Pa} (h : ltP x p = true) : ltP p x = false := by
  rw [ltP_iff] at h; rw [ltP_no]; omega
theorem lt_trans' {x y z : Pa} (h : ltP x y = true) (g : ltP y z = true) : ltP x z = true := swoP0.trans x y z h g
theorem tri (x p : Pa) : (ltP x p = true ∧ ltP p x = false) ∨ (ltP x p = false ∧ ltP p x = true) ∨ (ltP x p = false ∧ ltP p x = false ∧ sameP x p) := by
  cases h : ltP x p with
  | true => exact Or.inl ⟨rfl, lt_anti h⟩
  | false => cases g : ltP p x with
    | true => exact Or.inr (Or.inl ⟨rfl, rfl⟩)
    | false => exact Or.inr (Or.inr ⟨rfl, rfl, same_of h g⟩)
def putW : List Pa → Pa → List Pa
  | [], p => [p]
  | x :: l, p => if ltP x p = true then x :: putW l p else if ltP p x = true then p :: x :: l else addP x p :: l
theorem addP_comm {p q : Pa} (h : sameP p q) : addP p q = addP q p := by
  obtain ⟨a, b, c, d⟩ := h
  unfold addP
  rw [a, b, c, d, Int.add_comm, Int.add_comm p.2.2.2.2.2]
theorem addP_right (x p q : Pa) : addP (addP x p) q = addP (addP x q) p := by
  unfold addP
  simp only [wrap_add]
  rw [Int.add_right_comm, Int.add_right_comm x.2.2.2.2.2]
theorem addP_assoc (x p q : Pa) : addP x (addP p q) = addP (addP x p) q := by
  unfold addP
  have e : ∀ a b c : Int, IntKind.i64.wrap (a + IntKind.i64.wrap (b + c)) = IntKind.i64.wrap (IntKind.i64.wrap (a + b) + c) := by
    intro a b c
    rw [wrap_add, Int.add_comm a, wrap_add, Int.add_comm (b + c), Int.add_assoc]
  simp only [e]
theorem put_comm : ∀ (m : List Pa) (p q : Pa), putW (putW m p) q = putW (putW m q) p
  | [], p, q => by
    rcases tri p q with ⟨h, g⟩ | ⟨h, g⟩ | ⟨h, g, e⟩ <;> simp [putW, h, g]
    exact addP_comm e
  | x :: l, p, q => by
    rcases tri x p with ⟨h1, g1⟩ | ⟨h1, g1⟩ | ⟨h1, g1, e1⟩ <;> rcases tri x q with ⟨h2, g2⟩ | ⟨h2, g2⟩ | ⟨h2, g2, e2⟩
    · simp [putW, h1, g1, h2, g2, put_comm l p q]
    · have h3 := lt_trans' g2 h1
      simp [putW, h1, g1, h2, g2, h3, lt_anti h3]
    · simp [putW, h1, g1, h2, g2, add_lt1, add_lt2]
    · have h3 := lt_trans' g1 h2
      simp [putW, h1, g1, h2, g2, h3, lt_anti h3]
    · rcases tri p q with ⟨h, g⟩ | ⟨h, g⟩ | ⟨h, g, e⟩ <;> simp [putW, h, g, h1, g1, h2, g2]
      exact addP_comm e
    · have h3 := (same_l e2 p)
      simp [putW, h1, g1, h2, g2, add_lt1, add_lt2, ← h3.1, ← h3.2]
    · simp [putW, h1, g1, h2, g2, add_lt1, add_lt2]
    · have h3 := (same_l e1 q)
      simp [putW, h1, g1, h2, g2, add_lt1, add_lt2, ← h3.1, ← h3.2]
    · simp [putW, h1, g1, h2, g2, add_lt1, add_lt2, addP_right x p q]
theorem put_merge : ∀ (m : List Pa) (x p : Pa), sameP x p → putW m (addP x p) = putW (putW m x) p
  | [], x, p, e => by
    obtain ⟨h, g⟩ := same_lt e
    simp [putW, h, g]
  | y :: m, x, p, e => by
    obtain ⟨h, g⟩ := same_lt e
    have h3 := same_l e y
    rcases tri y x with ⟨h1, g1⟩ | ⟨h1, g1⟩ | ⟨h1, g1, e1⟩
    · simp [putW, h1, add_lt2, ← h3.2, put_merge m x p e]
    · simp [putW, h1, g1, add_lt2, add_lt1, h, g]
    · simp [putW, h1, g1, add_lt2, add_lt1, ← h3.2, ← h3.1, addP_assoc]
/-- Parcels, put together one by one. -/
def fold (m l : List Pa) : List Pa := l.foldl putW m
def N (l : List Pa) : List Pa := fold [] l
theorem fold_nil (m : List Pa) : fold m [] = m := rfl
theorem fold_cons (m l : List Pa) (p : Pa) : fold m (p :: l) = fold (putW m p) l := rfl
theorem fold_app (m l k : List Pa) : fold m (l ++ k) = fold (fold m l) k := List.foldl_append
theorem fold_put_l : ∀ (l m : List Pa) (p : Pa), fold (putW m p) l = putW (fold m l) p
  | [], m, p => rfl
  | x :: l, m, p => by rw [fold_cons, put_comm, fold_put_l l, fold_cons]
theorem fold_perm {l k : List Pa} (h : l.Perm k) : ∀ m, fold m l = fold m k := by
  induction h with
  | nil => intro m; rfl
  | cons x _ ih => intro m; rw [fold_cons, fold_cons, ih]
  | swap x y l => intro m; rw [fold_cons, fold_cons, fold_cons, fold_cons, put_comm]
  | trans _ _ ih1 ih2 => intro m; rw [ih1, ih2]
/-- What is put together apart from age, changed by something that keeps with it. -/
structure Hom (g : Pa → Pa) : Prop where
  add : ∀ x p, sameP x p → g (addP x p) = addP (g x) (g p)
  same : ∀ x p, sameP x p → sameP (g x) (g p)
theorem homId : Hom id := ⟨fun _ _ _ => rfl, fun _ _ h => h⟩
theorem fold_map_put {g : Pa → Pa} (hg : Hom g) : ∀ (t m : List Pa) (p : Pa), fold m ((putW t p).map g) = putW (fold m (t.map g)) (g p)
  | [], m, p => rfl
  | x :: t, m, p => by
    rcases tri x p with ⟨h, k⟩ | ⟨h, k⟩ | ⟨h, k, e⟩
    · simp only [putW, h, if_true, List.map_cons, fold_cons]
      exact fold_map_put hg t _ p
    · simp only [putW, h, k, if_true, List.map_cons, fold_cons, Bool.false_eq_true, if_false]
      rw [put_comm, fold_put_l]
    · simp only [putW, h, k, List.map_cons, fold_cons, Bool.false_eq_true, if_false]
      rw [hg.add x p e, put_merge _ _ _ (hg.same x p e), fold_put_l]
theorem fold_map_fold {g : Pa → Pa} (hg : Hom g) : ∀ (a t m : List Pa), fold m ((fold t a).map g) = fold (fold m (t.map g)) (a.map g)
  | [], t, m => rfl
  | p :: a, t, m => by rw [fold_cons, fold_map_fold hg a, fold_map_put hg, List.map_cons, fold_cons]
theorem N_map {g : Pa → Pa} (hg : Hom g) (l : List Pa) : N ((N l).map g) = N (l.map g) := fold_map_fold hg l [] []
theorem fold_N (m l : List Pa) : fold m (N l) = fold m l := by
  have := fold_map_fold homId l [] m
  simp only [List.map_id, fold_nil] at this
  exact this
theorem N_append (a b : List Pa) : N (a ++ b) = fold (N a) b := fold_app _ _ _
theorem N_app_l (a b : List Pa) : N (N a ++ b) = N (a ++ b) := by
  rw [N_append, N_append]
  congr 1
  exact fold_N [] a
theorem N_app_r (a b : List Pa) : N (a ++ N b) = N (a ++ b) := by rw [N_append, N_append, fold_N]
theorem N_perm {a b : List Pa} (h : a.Perm b) : N a = N b := fold_perm h []
/-- Parcels in order. -/
def Srt (l : List Pa) : Prop := l.Pairwise fun a b => ltP a b = true
theorem put_end : ∀ (m : List Pa) (p : Pa), (∀ x ∈ m, ltP x p = true) → putW m p = m ++ [p]
  | [], p, h => rfl
  | x :: m, p, h => by
    simp only [putW, h x List.mem_cons_self, if_true]
    rw [put_end m p fun y hy => h y (List.mem_cons_of_mem _ hy)]; rfl
theorem fold_srt : ∀ (s m : List Pa), Srt (m ++ s) → fold m s = m ++ s
  | [], m, h => by rw [fold_nil, List.append_nil]
  | x :: s, m, h => by
    have h1 := (List.pairwise_append.1 h).2.2
    rw [fold_cons, put_end m x (fun y hy => h1 y hy x List.mem_cons_self), fold_srt s (m ++ [x]) (by rw [List.append_assoc]; exact h), List.append_assoc]; rfl
theorem N_srt {s : List Pa} (h : Srt s) : N s = s := fold_srt s [] h
/-- No two parcels are alike. -/
def Dist (l : List Pa) : Prop := l.Pairwise fun a b => ¬ sameP a b
theorem same_symm {a b : Pa} (h : sameP a b) : sameP b a := by unfold sameP at *; omega
theorem sortP_perm (l : List Pa) : (sortP l).Perm l := (sortD_perm swoP l).1
theorem sortP_srt {l : List Pa} (h : Dist l) : Srt (sortP l) := by
  have hd : Dist (sortP l) := (sortP_perm l).symm.pairwise h (fun hxy hyx => hxy (same_symm hyx))
  unfold Srt
  rw [List.pairwise_iff_getElem]
  intro i j hi hj hij
  have h1 : ltP (sortP l)[j] (sortP l)[i] = false := (sortD_perm swoP l).2 i j _ _ hij (List.getElem?_eq_getElem hi) (List.getElem?_eq_getElem hj)
  have h2 := List.pairwise_iff_getElem.1 hd i j hi hj hij
  rcases tri (sortP l)[i] (sortP l)[j] with ⟨h, _⟩ | ⟨_, h⟩ | ⟨_, _, h⟩
  · exact h
  · rw [h1] at h; cases h
  · exact absurd h h2
theorem N_sort {l : List Pa} (h : Dist l) : N l = sortP l := by
  rw [← N_perm (sortP_perm l), N_srt (sortP_srt h)]
end
end Go.Proofs.Yteidanhfkaljaaa.Eng.Cg
set_option linter.unusedVariables false
set_option linter.unusedSimpArgs false
namespace Go.Proofs.Yteidanhfkaljaaa.Eng.Cg
open Go Go.RowKit Go.Proofs.Yteidanhfkaljaaa.Eng
set_option maxRecDepth 100000
noncomputable section
def okP (p : Pa) : Prop := soundR p = true
theorem okP_iff (p : Pa) : okP p ↔ (1 ≤ p.2.2.2.2.1 ∧ p.2.2.2.2.1 ≤ 1000000) ∧ (0 ≤ p.2.2.2.1 ∧ p.2.2.2.1 ≤ 255) ∧ (0 ≤ p.2.2.2.2.2 ∧ p.2.2.2.2.2 ≤ 1000000000000) ∧ (0 ≤ p.1 ∧ p.1 ≤ 1000000) ∧ (0 ≤ p.2.1 ∧ p.2.1 ≤ 1000000) ∧ (0 ≤ p.2.2.1 ∧ p.2.2.1 ≤ 1000000) := by
  simp [okP, soundR, in0, and_assoc]
theorem bad_no (l : List Pa) (i : Nat) : badP l i = false ↔ okP (gP l i) ∧ (0 < i → ltP (gP l (i - 1)) (gP l i) = true) := by
  unfold badP okP ltP
  cases h : soundR (gP l i) <;> simp [Int.not_le]
theorem cargo_zero (l : List Pa) : cargoR l = 0 ↔ l.length ≤ 200 ∧ Srt l ∧ ∀ p ∈ l, okP p := by
  unfold cargoR
  by_cases hl : 200 < l.length
  · rw [if_pos hl]
    constructor
    · intro h; cases h
    · rintro ⟨h, _⟩; omega
  rw [if_neg hl]
  by_cases hb : (List.range l.length).any (badP l) = true
  · rw [if_pos hb]
    constructor
    · intro h; cases h
    · rintro ⟨_, hs, ho⟩
      obtain ⟨i, hi, hbad⟩ := List.any_eq_true.1 hb
      have hi := List.mem_range.1 hi
      have : badP l i = false := by
        rw [bad_no]
        refine ⟨by rw [gP_eq hi]; exact ho _ (List.getElem_mem _), fun hp => ?_⟩
        rw [gP_eq hi, gP_eq (show i - 1 < l.length by omega)]
        exact List.pairwise_iff_getElem.1 hs _ _ _ _ (by omega)
      rw [this] at hbad; cases hbad
  · rw [if_neg hb]
    refine ⟨fun _ => ?_, fun _ => rfl⟩
    have hno : ∀ i (hi : i < l.length), badP l i = false := by
      intro i hi
      cases e : badP l i with
      | false => rfl
      | true => exact absurd (List.any_eq_true.2 ⟨i, List.mem_range.2 hi, e⟩) hb
    refine ⟨by omega, ?_, ?_⟩
    · unfold Srt
      rw [List.pairwise_iff_getElem]
      intro i j hi hj hij
      obtain ⟨d, rfl⟩ : ∃ d, j = i + d + 1 := ⟨j - i - 1, by omega⟩
      induction d with
      | zero =>
        have := ((bad_no l (i + 0 + 1)).1 (hno _ hj)).2 (by omega)
        rw [gP_eq hj, gP_eq (show i + 0 + 1 - 1 < l.length by omega)] at this
        simpa using this
      | succ d ih =>
        have h1 := ih (by omega) (by omega)
        have := ((bad_no l (i + (d + 1) + 1)).1 (hno _ hj)).2 (by omega)
        rw [gP_eq hj, gP_eq (show i + (d + 1) + 1 - 1 < l.length by omega)] at this
        simp only [Nat.add_sub_cancel] at this
        exact lt_trans' h1 this
    · intro p hp
      obtain ⟨i, hi, rfl⟩ := List.getElem_of_mem hp
      have := ((bad_no l i).1 (hno _ hi)).1
      rwa [gP_eq hi] at this
/-- Too much of one kind. -/
def Big (p : Pa) : Prop := 1000000 < p.2.2.2.2.1 ∨ 1000000000000 < p.2.2.2.2.2
def Bnd (b : Int) (p : Pa) : Prop := (0 ≤ p.2.2.2.2.1 ∧ p.2.2.2.2.1 ≤ b * 1000000) ∧ (0 ≤ p.2.2.2.2.2 ∧ p.2.2.2.2.2 ≤ b * 1000000000000)
theorem bnd_ok {p : Pa} (h : okP p) : Bnd 1 p := by rw [okP_iff] at h; unfold Bnd; omega
theorem bnd_mono {p : Pa} {a b : Int} (h : Bnd a p) (hab : a ≤ b) : Bnd b p := by unfold Bnd at *; omega
theorem bnd_add {x p : Pa} {a b : Int} (h : Bnd a x) (g : Bnd b p) (hl : a + b ≤ 1000000) : Bnd (a + b) (addP x p) ∧ (addP x p).2.2.2.2.1 = x.2.2.2.2.1 + p.2.2.2.2.1 ∧ (addP x p).2.2.2.2.2 = x.2.2.2.2.2 + p.2.2.2.2.2 := by
  unfold Bnd at *
  have e1 : (addP x p).2.2.2.2.1 = x.2.2.2.2.1 + p.2.2.2.2.1 := wrap_eq (by omega) (by omega)
  have e2 : (addP x p).2.2.2.2.2 = x.2.2.2.2.2 + p.2.2.2.2.2 := wrap_eq (by omega) (by omega)
  rw [e1, e2]
  exact ⟨by omega, rfl, rfl⟩
theorem put_bnd : ∀ {m : List Pa} {p : Pa} {a b : Int}, 0 ≤ a → 0 ≤ b → a + b ≤ 1000000 → (∀ x ∈ m, Bnd a x) → Bnd b p → ∀ x ∈ putW m p, Bnd (a + b) x
  | [], p, a, b, ha, hb, hl, hm, hp, x, hx => by
    cases List.mem_singleton.1 hx
    exact bnd_mono hp (by omega)
  | y :: m, p, a, b, ha, hb, hl, hm, hp, x, hx => by
    have hy := hm y List.mem_cons_self
    have hm' : ∀ x ∈ m, Bnd a x := fun x hx => hm x (List.mem_cons_of_mem _ hx)
    have hall : ∀ x ∈ m, Bnd (a + b) x := fun x hx => bnd_mono (hm' x hx) (by omega)
    unfold putW at hx
    split at hx
    · rcases List.mem_cons.1 hx with rfl | hx
      · exact bnd_mono hy (by omega)
      · exact put_bnd ha hb hl hm' hp x hx
    split at hx
    · rcases List.mem_cons.1 hx with rfl | hx
      · exact bnd_mono hp (by omega)
      rcases List.mem_cons.1 hx with rfl | hx
      · exact bnd_mono hy (by omega)
      · exact hall x hx
    · rcases List.mem_cons.1 hx with rfl | hx
      · exact (bnd_add hy hp hl).1
      · exact hall x hx
theorem fold_bnd : ∀ {l m : List Pa} {a : Int}, 0 ≤ a → a + l.length ≤ 1000000 → (∀ x ∈ m, Bnd a x) → (∀ x ∈ l, okP x) → ∀ x ∈ fold m l, Bnd (a + l.length) x
  | [], m, a, ha, hl, hm, ho, x, hx => bnd_mono (hm x hx) (by simp)
  | p :: l, m, a, ha, hl, hm, ho, x, hx => by
    simp only [List.length_cons] at hl ⊢
    have h1 := put_bnd ha (b := 1) (by omega) (by omega) hm (bnd_ok (ho p List.mem_cons_self))
    have h2 := fold_bnd (a := a + 1) (by omega) (by omega) h1 (fun y hy => ho y (List.mem_cons_of_mem _ hy)) x hx
    exact bnd_mono h2 (by omega)
theorem big_keep : ∀ {m : List Pa} {p : Pa} {a b : Int}, a + b ≤ 1000000 → 0 ≤ a → 0 ≤ b → (∀ x ∈ m, Bnd a x) → Bnd b p → (∃ x ∈ p :: m, Big x) → ∃ x ∈ putW m p, Big x
  | [], p, a, b, hl, ha, hb, hm, hp, h => by simpa [putW] using h
  | y :: m, p, a, b, hl, ha, hb, hm, hp, h => by
    obtain ⟨x, hx, hbig⟩ := h
    have hy := hm y List.mem_cons_self
    have hm' : ∀ x ∈ m, Bnd a x := fun x hx => hm x (List.mem_cons_of_mem _ hx)
    obtain ⟨_, e1, e2⟩ := bnd_add hy hp hl
    unfold putW
    split
    · rcases List.mem_cons.1 hx with rfl | hx
      · obtain ⟨z, hz, hz2⟩ := big_keep hl ha hb hm' hp ⟨x, List.mem_cons_self, hbig⟩
        exact ⟨z, List.mem_cons_of_mem _ hz, hz2⟩
      rcases List.mem_cons.1 hx with rfl | hx
      · exact ⟨x, List.mem_cons_self, hbig⟩
      · obtain ⟨z, hz, hz2⟩ := big_keep hl ha hb hm' hp ⟨x, List.mem_cons_of_mem _ hx, hbig⟩
        exact ⟨z, List.mem_cons_of_mem _ hz, hz2⟩
    split
    · exact ⟨x, hx, hbig⟩
    · rcases List.mem_cons.1 hx with rfl | hx
      · refine ⟨_, List.mem_cons_self, ?_⟩
        unfold Bnd at *; unfold Big at *; rw [e1, e2]; omega
      rcases List.mem_cons.1 hx with rfl | hx
      · refine ⟨_, List.mem_cons_self, ?_⟩
        unfold Bnd at *; unfold Big at *; rw [e1, e2]; omega
      · exact ⟨x, List.mem_cons_of_mem _ hx, hbig⟩
theorem big_fold : ∀ {l m : List Pa} {a : Int}, 0 ≤ a → a + l.length ≤ 1000000 → (∀ x ∈ m, Bnd a x) → (∀ x ∈ l, okP x) → (∃ x ∈ m, Big x) → ∃ x ∈ fold m l, Big x
  | [], m, a, ha, hl, hm, ho, h => h
  | p :: l, m, a, ha, hl, hm, ho, ⟨x, hx, hb⟩ => by
    simp only [List.length_cons] at hl
    have h1 := put_bnd ha (b := 1) (by omega) (by omega) hm (bnd_ok (ho p List.mem_cons_self))
    show ∃ x ∈ fold (putW m p) l, Big x
    exact big_fold (l := l) (a := a + 1) (by omega) (by omega) h1 (fun y hy => ho y (List.mem_cons_of_mem _ hy)) (big_keep (by omega) ha (by omega) hm (bnd_ok (ho p List.mem_cons_self)) ⟨x, List.mem_cons_of_mem _ hx, hb⟩)
theorem big_bad {l : List Pa} (h : ∃ x ∈ l, Big x) : cargoR l ≠ 0 := by
  intro h0
  obtain ⟨x, hx, hb⟩ := h
  have := ((cargo_zero l).1 h0).2.2 x hx
  rw [okP_iff] at this
  unfold Big at hb
  omega
/-- What gather makes of parcels. -/
def gatherR (l : List Pa) : List Pa × Int := if cargoR (N l) = 0 then (N l, 0) else ([], 4)
theorem same_add (x p q : Pa) : sameP (addP x p) q ↔ sameP x q := Iff.rfl
theorem N_set {o : List Pa} {k : Nat} (hk : k < o.length) {p : Pa} (h : sameP o[k] p) : N (o.set k (addP o[k] p)) = putW (N o) p := by
  have e : o = o.take k ++ o[k] :: o.drop (k + 1) := by rw [← List.drop_eq_getElem_cons hk, List.take_append_drop]
  have e2 : o.set k (addP o[k] p) = o.take k ++ addP o[k] p :: o.drop (k + 1) := List.set_eq_take_append_cons_drop.trans (by rw [if_pos hk])
  rw [e2]
  conv => rhs; rw [e]
  unfold N
  rw [fold_app, fold_app, fold_cons, fold_cons, put_merge _ _ _ h, fold_put_l]
theorem N_add (o : List Pa) (p : Pa) : N (o ++ [p]) = putW (N o) p := by rw [N_append]; rfl
theorem N_take {l : List Pa} {i : Nat} (hi : i < l.length) : N (l.take (i + 1)) = putW (N (l.take i)) l[i] := by
  rw [List.take_succ_eq_append_getElem hi, N_add]
theorem N_drop (l : List Pa) (i : Nat) : N l = fold (N (l.take i)) (l.drop i) := by
  rw [← N_append, List.take_append_drop]
theorem dist_set {o : List Pa} {k : Nat} (hk : k < o.length) {p : Pa} (h : Dist o) : Dist (o.set k (addP o[k] p)) := by
  unfold Dist at *
  rw [List.pairwise_iff_getElem] at *
  intro i j hi hj hij
  simp only [List.length_set] at hi hj
  have := h i j hi hj hij
  simp only [List.getElem_set]
  split <;> split <;> (try subst_vars) <;> (first | omega | exact this | skip)
theorem dist_add {o : List Pa} {p : Pa} (h : Dist o) (hp : ∀ x ∈ o, ¬ sameP x p) : Dist (o ++ [p]) := by
  unfold Dist at *
  rw [List.pairwise_append]
  refine ⟨h, by simp, fun a ha b hb => ?_⟩
  cases List.mem_singleton.1 hb
  exact hp a ha
theorem gather_fail {l o : List Pa} {j : Nat} (hj : j ≤ l.length) (hl : l.length ≤ 1000) (ho : ∀ p ∈ l, okP p) (hd : Dist o) (hN : N o = N (l.take j)) (hb : ∃ x ∈ o, Big x) : gatherR l = ([], 4) := by
  have hb' : ∃ x ∈ N o, Big x := by
    obtain ⟨x, hx, hx2⟩ := hb
    exact ⟨x, by rw [N_sort hd]; exact (sortP_perm o).mem_iff.2 hx, hx2⟩
  have hbd : ∀ x ∈ N o, Bnd 1000 x := by
    intro x hx
    rw [hN] at hx
    have := fold_bnd (l := l.take j) (m := []) (a := 0) (by omega) (by rw [List.length_take]; omega) (by simp) (fun p hp => ho p (List.mem_of_mem_take hp)) x hx
    exact bnd_mono this (by rw [List.length_take]; omega)
  have h2 : ∃ x ∈ N l, Big x := by
    rw [N_drop l j, ← hN]
    exact big_fold (a := 1000) (by omega) (by rw [List.length_drop]; omega) hbd (fun p hp => ho p (List.mem_of_mem_drop hp)) hb'
  rw [gatherR, if_neg (big_bad h2)]
theorem gather_large {l o : List Pa} (hd : Dist o) (hN : N o = N l) (hb : 200 < o.length) : gatherR l = ([], 4) := by
  rw [gatherR, if_neg]
  intro h0
  have := ((cargo_zero _).1 h0).1
  rw [← hN, N_sort hd, (sortP_perm o).length_eq] at this
  omega
theorem gather_ok {l o : List Pa} (hd : Dist o) (hN : N o = N l) (ho : ∀ p ∈ o, okP p) (hb : ¬ 200 < o.length) : gatherR l = (sortP o, 0) := by
  have e : N l = sortP o := by rw [← hN, N_sort hd]
  rw [gatherR, e, if_pos]
  rw [cargo_zero]
  exact ⟨by rw [(sortP_perm o).length_eq]; omega, sortP_srt hd, fun p hp => ho p ((sortP_perm o).mem_iff.1 hp)⟩
end
end Go.Proofs.Yteidanhfkaljaaa.Eng.Cg
set_option linter.unusedVariables false
set_option linter.unusedSimpArgs false
namespace Go.Proofs.Yteidanhfkaljaaa.Eng.Cg
open Go Go.RowKit Go.Proofs.Yteidanhfkaljaaa.Eng
set_option maxRecDepth 100000
noncomputable section
abbrev kyT : Ty := .fld I (.fld I (.fld I (.one I)))
abbrev Ky := Int × Int × Int × Int
def keyP (p : Pa) : Ky := (p.1, p.2.1, p.2.2.1, p.2.2.2.1)
def idxP : List Pa → Pa → Option Int
  | [], _ => none
  | x :: o, p => if sameP x p then some 0 else (idxP o p).map (· + 1)
theorem idxP_none : ∀ {o : List Pa} {p : Pa}, idxP o p = none → ∀ x ∈ o, ¬ sameP x p
  | [], p, h, x, hx => by cases hx
  | y :: o, p, h, x, hx => by
    unfold idxP at h
    split at h
    · cases h
    · rename_i hy
      rcases List.mem_cons.1 hx with rfl | hx
      · exact hy
      · exact idxP_none (by simpa using h) x hx
theorem idxP_some : ∀ {o : List Pa} {p : Pa} {n : Int}, idxP o p = some n → ∃ (k : Nat) (hk : k < o.length), n = k ∧ sameP o[k] p
  | [], p, n, h => by cases h
  | y :: o, p, n, h => by
    unfold idxP at h
    split at h
    · rename_i hy
      cases h
      exact ⟨0, by simp, rfl, hy⟩
    · cases e : idxP o p with
      | none => rw [e] at h; cases h
      | some m =>
        rw [e] at h
        cases h
        obtain ⟨k, hk, rfl, hs⟩ := idxP_some e
        exact ⟨k + 1, by simpa using hk, by simp, by simpa using hs⟩
theorem idxP_add : ∀ (o : List Pa) (p q : Pa), idxP (o ++ [p]) q = match idxP o q with | some n => some n | none => if sameP p q then some (o.length : Int) else none
  | [], p, q => by simp [idxP]
  | y :: o, p, q => by
    rw [List.cons_append]
    unfold idxP
    by_cases h : sameP y q
    · rw [if_pos h, if_pos h]
    · rw [if_neg h, if_neg h, idxP_add o p q]
      cases e : idxP o q with
      | some n => rfl
      | none =>
        by_cases g : sameP p q
        · rw [if_pos g]; simp [g]
        · rw [if_neg g]; simp [g]
theorem idxP_set : ∀ (o : List Pa) (k : Nat) (hk : k < o.length) (p q : Pa), idxP (o.set k (addP o[k] p)) q = idxP o q
  | y :: o, 0, hk, p, q => rfl
  | y :: o, k + 1, hk, p, q => by
    simp only [List.set_cons_succ, List.getElem_cons_succ]
    unfold idxP
    rw [idxP_set o k (by simpa using hk)]
theorem key_same (p q : Pa) : kyT.eqD (keyP q) (keyP p) = true ↔ sameP p q := by
  have e : kyT.eqD (keyP q) (keyP p) = (decide (q.1 = p.1) && (decide (q.2.1 = p.2.1) && (decide (q.2.2.1 = p.2.2.1) && decide (q.2.2.2.1 = p.2.2.2.1)))) := rfl
  rw [e]
  simp only [Bool.and_eq_true, decide_eq_true_eq]
  unfold sameP
  omega
theorem mget_add : ∀ (es : List (Ky × Int)) (p q : Pa) (n : Int), mget kyT I (es ++ [(keyP p, n)]) (keyP q) = match mget kyT I es (keyP q) with | some m => some m | none => if sameP p q then some n else none
  | [], p, q, n => by
    show (match kyT.eqD (keyP q) (keyP p) with | true => some n | false => none) = if sameP p q then some n else none
    cases e : kyT.eqD (keyP q) (keyP p) with
    | true => rw [if_pos ((key_same p q).1 e)]
    | false => rw [if_neg (fun h => by rw [(key_same p q).2 h] at e; cases e)]
  | x :: es, p, q, n => by
    show (match kyT.eqD (keyP q) x.1 with | true => some x.2 | false => mget kyT I (es ++ [(keyP p, n)]) (keyP q)) = match (match kyT.eqD (keyP q) x.1 with | true => some x.2 | false => mget kyT I es (keyP q)) with | some m => some m | none => if sameP p q then some n else none
    cases kyT.eqD (keyP q) x.1 with
    | true => rfl
    | false => exact mget_add es p q n
theorem gP_set {o : List Pa} {k : Nat} (hk : k < o.length) (x : Pa) : gP (o.set k x) k = x := by
  rw [gP_eq (by simpa using hk)]; simp
def atM (es : List (Ky × Int)) (p : Pa) : Int := optOr (α := Int) (mget kyT I es (keyP p)) (0 : Int)
theorem lt_set {o : List Pa} {k : Nat} {x : Pa} {j : Int} (h : j < (o.length : Int)) : j < ((o.set k x).length : Int) := by rw [List.length_set]; exact h
def set1 (o : List Pa) (k : Int) (p : Pa) : List Pa := o.set k.toNat ((gP o k.toNat).1, (gP o k.toNat).2.1, (gP o k.toNat).2.2.1, (gP o k.toNat).2.2.2.1, IntKind.i64.wrap ((gP o k.toNat).2.2.2.2.1 + p.2.2.2.2.1), (gP o k.toNat).2.2.2.2.2)
def set2 (o : List Pa) (k : Int) (p : Pa) : List Pa := o.set k.toNat ((gP o k.toNat).1, (gP o k.toNat).2.1, (gP o k.toNat).2.2.1, (gP o k.toNat).2.2.2.1, (gP o k.toNat).2.2.2.2.1, IntKind.i64.wrap ((gP o k.toNat).2.2.2.2.2 + p.2.2.2.2.2))
theorem set12 {o : List Pa} {k : Nat} (hk : k < o.length) (p : Pa) : set2 (set1 o k p) k p = o.set k (addP o[k] p) := by
  unfold set2 set1
  simp only [Int.toNat_natCast]
  rw [gP_set hk, gP_eq hk, List.set_set]
  rfl
def E77 : Env := ⟨tab, [(80, .fixd 67 K80)], fun n => match n with | 4 => some ([4, 5, 12, 13, 14], [(5, paT)], []) | _ => none⟩
def K77 : Fn1 := ⟨.one (.sl paT), .fld (.sl paT) (.one I), fun (l : List Pa) => [l.length ≤ 1000, ∀ p ∈ l, okP p], fun (l : List Pa) => gatherR l⟩
def S77 (l : List Pa) (x : List (Ky × Int) × List Pa × Int) : SL := ⟨List.replicate 4 .undef ++ [.mp 0, .own 1] ++ List.replicate 6 .undef ++ [.sl paT l, .int .i64 l.length, .int .i64 x.2.2] ++ List.replicate 68 .undef, [(0, .mp kyT I x.1), (1, .arr paT x.2.1)], 2⟩
structure I62 (l : List Pa) (x : List (Ky × Int) × List Pa × Int) : Prop where
  i0 : 0 ≤ x.2.2
  i1 : x.2.2 ≤ l.length
  d : Dist x.2.1
  n : N x.2.1 = N (l.take x.2.2.toNat)
  ok : ∀ p ∈ x.2.1, okP p
  len : (x.2.1.length : Int) ≤ x.2.2
  m : ∀ p : Pa, mget kyT I x.1 (keyP p) = idxP x.2.1 p
theorem k77 : FnOk Go.Proofs.Try.prog 77 K77 := by
  refine fn_ok (E := E77) (TOk.of tab_told) (AllOk.consF k80 .nil).at_ mix Go.Proofs.Try.func77 rfl rfl (by kernel_rfl) K77 ?_
  rintro (l : List Pa) hp
  have hl : l.length ≤ 1000 := hp _ (List.mem_cons_self ..)
  have hok : ∀ p ∈ l, okP p := hp _ (List.mem_cons_of_mem _ (List.mem_cons_self ..))
  clear hp
  conv => whnf
  refine loop_rule (fun x => S77 l x) (fun x => ((l.length : Int) - x.2.2).toNat) (I62 l) ?_ ([], [], 0) (by kernel_rfl) ?_ ⟨by simp, by simp, List.Pairwise.nil, rfl, by simp, by simp, fun p => rfl⟩
  case refine_2 => rfl
  rintro ⟨es, o, i⟩ hI
  obtain ⟨h0, h1, hd, hN, ho, hln, hm⟩ := hI
  simp only at h0 h1 hd hN ho hln hm
  conv => whnf
  refine cond_intro (fun hlt => ?_) (fun hge => ?_)
  · have hlt : i < l.length := @of_decide_eq_true _ _ hlt
    conv => whnf
    refine ⟨h0, ?_⟩
    conv => whnf
    refine ⟨hlt, ?_⟩
    conv => whnf
    have hw : IntKind.i64.wrap (i + 1) = i + 1 := wrap_eq (by omega) (by omega)
    have ei : (i + 1).toNat = i.toNat + 1 := by omega
    have hg : gP l i.toNat = l[i.toNat]'(by omega) := gP_eq _
    have hpk : okP (gP l i.toNat) := by rw [hg]; exact hok _ (List.getElem_mem _)
    have hmp := hm (gP l i.toNat)
    have hNt : N (l.take (i.toNat + 1)) = putW (N o) (gP l i.toNat) := by rw [N_take (show i.toNat < l.length by omega), hN, hg]
    refine cond_intro (fun ha => ?_) (fun ha => ?_)
    · have ha : (!isOk (mget kyT I es (keyP (gP l i.toNat)))) = true := ha
      have hn : idxP o (gP l i.toNat) = none := by
        rw [hmp] at ha
        cases e : idxP o (gP l i.toNat) with
        | none => rfl
        | some n => rw [e] at ha; cases ha
      have hno := idxP_none hn
      conv => whnf
      refine ⟨show isOk (mget kyT I es (keyP (gP l i.toNat))) = false by rw [hmp, hn]; rfl, ?_⟩
      conv => whnf
      refine ⟨show (o.length + 1) * 48 ≤ 70368744177664 by omega, ?_⟩
      conv => whnf
      refine ⟨show o.length + 1 ≤ 70368744177664 by omega, ?_⟩
      conv => whnf
      refine ⟨(es ++ [(keyP (gP l i.toNat), (o.length : Int))], o ++ [gP l i.toNat], i + 1), ?_, ⟨by simp only; omega, by simp only; omega, dist_add hd hno, ?_, ?_, ?_, ?_⟩, by simp only; omega⟩
      · exact Eq.trans (b := S77 l (es ++ [(keyP (gP l i.toNat), (o.length : Int))], o ++ [gP l i.toNat], IntKind.i64.wrap (i + 1))) rfl (by rw [hw])
      · show N (o ++ [gP l i.toNat]) = N (l.take (i + 1).toNat)
        rw [ei, N_add, hNt]
      · intro q hq
        rcases List.mem_append.1 hq with hq | hq
        · exact ho q hq
        · cases List.mem_singleton.1 hq; exact hpk
      · show ((o ++ [gP l i.toNat]).length : Int) ≤ i + 1
        rw [List.length_append]; simp; omega
      · intro q
        show mget kyT I (es ++ [(keyP (gP l i.toNat), (o.length : Int))]) (keyP q) = idxP (o ++ [gP l i.toNat]) q
        rw [mget_add, idxP_add, hm q]
        rfl
    · have ha : (!isOk (mget kyT I es (keyP (gP l i.toNat)))) = false := ha
      have hs : ∃ n, idxP o (gP l i.toNat) = some n := by
        rw [hmp] at ha
        cases e : idxP o (gP l i.toNat) with
        | none => rw [e] at ha; cases ha
        | some n => exact ⟨n, rfl⟩
      obtain ⟨n, hn⟩ := hs
      obtain ⟨k, hk, rfl, hsame⟩ := idxP_some hn
      have hx : atM es (gP l i.toNat) = (k : Int) := by unfold atM; rw [hmp, hn]; rfl
      have hk1 : (0 : Int) ≤ atM es (gP l i.toNat) := by rw [hx]; omega
      have hk2 : atM es (gP l i.toNat) < (o.length : Int) := by rw [hx]; omega
      conv => whnf
      iterate 2
        refine ⟨hk1, ?_⟩
        conv => whnf
        refine ⟨hk2, ?_⟩
        conv => whnf
      iterate 2
        refine ⟨hk1, ?_⟩
        conv => whnf
        refine ⟨lt_set hk2, ?_⟩
        conv => whnf
      refine ⟨hk1, ?_⟩
      conv => whnf
      refine ⟨lt_set (lt_set hk2), ?_⟩
      conv => whnf
      have h12 : set2 (set1 o (atM es (gP l i.toNat)) (gP l i.toNat)) (atM es (gP l i.toNat)) (gP l i.toNat) = o.set k (addP o[k] (gP l i.toNat)) := by rw [hx, set12 hk]
      have hge' : gP (o.set k (addP o[k] (gP l i.toNat))) k = addP o[k] (gP l i.toNat) := gP_set hk _
      have hN' : N (o.set k (addP o[k] (gP l i.toNat))) = N (l.take (i.toNat + 1)) := by rw [N_set hk hsame, hNt]
      have hd' : Dist (o.set k (addP o[k] (gP l i.toNat))) := dist_set hk hd
      have hmem : addP o[k] (gP l i.toNat) ∈ o.set k (addP o[k] (gP l i.toNat)) := List.mem_set hk _
      have hfail : Big (addP o[k] (gP l i.toNat)) → gatherR l = ([], 4) := fun hb => gather_fail (j := i.toNat + 1) (by omega) hl hok hd' hN' ⟨_, hmem, hb⟩
      refine cond_intro (fun hc => ?_) (fun hc => ?_)
      · have hc : decide (1000000 < (gP (set2 (set1 o (atM es (gP l i.toNat)) (gP l i.toNat)) (atM es (gP l i.toNat)) (gP l i.toNat)) (atM es (gP l i.toNat)).toNat).2.2.2.2.1) = true := hc
        rw [h12, hx, Int.toNat_natCast, hge'] at hc
        have hc : 1000000 < (addP o[k] (gP l i.toNat)).2.2.2.2.1 := @of_decide_eq_true _ _ hc
        conv => whnf
        show ([], 4) = gatherR l
        rw [hfail (Or.inl hc)]
      have hc : decide (1000000 < (gP (set2 (set1 o (atM es (gP l i.toNat)) (gP l i.toNat)) (atM es (gP l i.toNat)) (gP l i.toNat)) (atM es (gP l i.toNat)).toNat).2.2.2.2.1) = false := hc
      rw [h12, hx, Int.toNat_natCast, hge'] at hc
      have hc : ¬ 1000000 < (addP o[k] (gP l i.toNat)).2.2.2.2.1 := @of_decide_eq_false _ _ hc
      conv => whnf
      refine ⟨hk1, ?_⟩
      conv => whnf
      refine ⟨lt_set (lt_set hk2), ?_⟩
      conv => whnf
      refine cond_intro (fun hs => ?_) (fun hs => ?_)
      · have hs : decide (1000000000000 < (gP (set2 (set1 o (atM es (gP l i.toNat)) (gP l i.toNat)) (atM es (gP l i.toNat)) (gP l i.toNat)) (atM es (gP l i.toNat)).toNat).2.2.2.2.2) = true := hs
        rw [h12, hx, Int.toNat_natCast, hge'] at hs
        have hs : 1000000000000 < (addP o[k] (gP l i.toNat)).2.2.2.2.2 := @of_decide_eq_true _ _ hs
        conv => whnf
        show ([], 4) = gatherR l
        rw [hfail (Or.inr hs)]
      have hs : decide (1000000000000 < (gP (set2 (set1 o (atM es (gP l i.toNat)) (gP l i.toNat)) (atM es (gP l i.toNat)) (gP l i.toNat)) (atM es (gP l i.toNat)).toNat).2.2.2.2.2) = false := hs
      rw [h12, hx, Int.toNat_natCast, hge'] at hs
      have hs : ¬ 1000000000000 < (addP o[k] (gP l i.toNat)).2.2.2.2.2 := @of_decide_eq_false _ _ hs
      conv => whnf
      refine ⟨(es, o.set k (addP o[k] (gP l i.toNat)), i + 1), ?_, ⟨by simp only; omega, by simp only; omega, hd', ?_, ?_, ?_, ?_⟩, by simp only; omega⟩
      · exact Eq.trans (b := S77 l (es, set2 (set1 o (atM es (gP l i.toNat)) (gP l i.toNat)) (atM es (gP l i.toNat)) (gP l i.toNat), IntKind.i64.wrap (i + 1))) rfl (by rw [hw, h12])
      · show N (o.set k (addP o[k] (gP l i.toNat))) = N (l.take (i + 1).toNat)
        rw [ei, hN']
      · intro q hq
        rcases List.mem_or_eq_of_mem_set hq with hq | rfl
        · exact ho q hq
        · have h1 := ho _ (List.getElem_mem hk)
          have h2 := hpk
          obtain ⟨_, e1, e2⟩ := bnd_add (bnd_ok h1) (bnd_ok h2) (by omega)
          rw [e1] at hc
          rw [e2] at hs
          rw [okP_iff] at h1 h2 ⊢
          rw [e1, e2]
          refine ⟨⟨?_, ?_⟩, h1.2.1, ⟨?_, ?_⟩, h1.2.2.2⟩ <;> omega
      · show ((o.set k (addP o[k] (gP l i.toNat))).length : Int) ≤ i + 1
        rw [List.length_set]; omega
      · intro q
        show mget kyT I es (keyP q) = idxP (o.set k (addP o[k] (gP l i.toNat))) q
        rw [idxP_set o k hk, hm q]
  · have hge : ¬ i < l.length := @of_decide_eq_false _ _ hge
    have ei : l.take i.toNat = l := List.take_of_length_le (by omega)
    rw [ei] at hN
    conv => whnf
    refine cond_intro (fun h => ?_) (fun h => ?_)
    · have h : 200 < (o.length : Int) := @of_decide_eq_true _ _ h
      conv => whnf
      show ([], 4) = gatherR l
      rw [gather_large hd hN (by omega)]
    · have h : ¬ 200 < (o.length : Int) := @of_decide_eq_false _ _ h
      conv => whnf
      refine ⟨show o.length ≤ 1000000 by omega, ?_⟩
      conv => whnf
      show (sortP o, 0) = gatherR l
      rw [gather_ok hd hN ho (by omega)]
end
end Go.Proofs.Yteidanhfkaljaaa.Eng.Cg
set_option linter.unusedVariables false
set_option linter.unusedSimpArgs false
namespace Go.Proofs.Yteidanhfkaljaaa.Eng.Cg
open Go Go.Proofs.Yteidanhfkaljaaa.Eng
set_option maxRecDepth 100000
noncomputable section
open Go.RowKit
theorem put_app : ∀ (a b : List Pa) (p : Pa), (∀ x ∈ a, ltP x p = true) → putW (a ++ b) p = a ++ putW b p
  | [], b, p, h => rfl
  | x :: a, b, p, h => by
    show putW (x :: (a ++ b)) p = x :: (a ++ putW b p)
    rw [putW, if_pos (h x List.mem_cons_self), put_app a b p fun y hy => h y (List.mem_cons_of_mem _ hy)]
theorem take_all {l : List Pa} {p : Pa} {i : Nat} (h : ∀ j, j < i → j < l.length → ltP (gP l j) p = true) : ∀ x ∈ l.take i, ltP x p = true := by
  intro x hx
  obtain ⟨j, hj, rfl⟩ := List.getElem_of_mem hx
  rw [List.length_take] at hj
  have := h j (by omega) (by omega)
  rw [gP_eq (by omega)] at this
  rw [List.getElem_take]
  exact this
theorem put_set {l : List Pa} {p : Pa} {i : Nat} (hi : i < l.length) (h : ∀ j, j < i → j < l.length → ltP (gP l j) p = true) (h1 : ltP (gP l i) p = false) (h2 : ltP p (gP l i) = false) : putW l p = l.set i (addP l[i] p) := by
  have e : l = l.take i ++ l[i] :: l.drop (i + 1) := by rw [← List.drop_eq_getElem_cons hi, List.take_append_drop]
  conv => lhs; rw [e]
  rw [put_app _ _ _ (take_all h), putW]
  rw [gP_eq hi] at h1 h2
  rw [if_neg (by simp [h1]), if_neg (by simp [h2]), List.set_eq_take_append_cons_drop, if_pos hi]
theorem put_in {l : List Pa} {p : Pa} {i : Nat} (hi : i ≤ l.length) (h : ∀ j, j < i → j < l.length → ltP (gP l j) p = true) (h1 : i < l.length → ltP p (gP l i) = true) : putW l p = l.take i ++ [p] ++ l.drop i := by
  conv => lhs; rw [← List.take_append_drop i l]
  rw [put_app _ _ _ (take_all h), List.append_assoc]
  congr 1
  by_cases e : i < l.length
  · rw [List.drop_eq_getElem_cons e, putW]
    have h1 := h1 e
    rw [gP_eq e] at h1
    rw [if_neg (by simp [lt_anti h1]), if_pos h1]; rfl
  · rw [List.drop_of_length_le (by omega)]; rfl
theorem set12' {o : List Pa} {k : Nat} (hk : k < o.length) (p : Pa) (i : Int) (hi : i.toNat = k) : set2 (set1 o i p) i p = o.set k (addP o[k] p) := by
  unfold set2 set1
  rw [hi, gP_set hk, gP_eq hk, List.set_set]
  rfl
def S90 (k f t g c s : Int) (l : List Pa) (i : Int) : SL := ⟨[.sl paT l, .undef, .undef, .ptr 0 0 0, .undef, .int .i64 i] ++ List.replicate 67 .undef, [(0, .box [.int .i64 k, .int .i64 f, .int .i64 t, .int .i64 g, .int .i64 c, .int .i64 s])], 1⟩
def E90 : Env := ⟨tab, [(88, K88)], fun n => match n with | 2 => some ([0, 3, 5], [], []) | _ => none⟩
def K90 : Fn1 := ⟨.fld (.sl paT) (.one paT), .one (.sl paT), fun (a : List Pa × Pa) => [a.1.length ≤ 1000000], fun (a : List Pa × Pa) => putW a.1 a.2⟩
theorem k90 : FnOk Go.Proofs.Try.prog 90 K90 := by
  refine fn_ok (E := E90) (TOk.of tab_told) (AllOk.cons k88 .nil).at_ mix Go.Proofs.Try.func90 rfl rfl (by kernel_rfl) K90 ?_
  rintro ⟨(l : List Pa), ⟨(k : Int), (f : Int), (t : Int), (g : Int), (c : Int), (s : Int)⟩⟩ hp
  have hl : l.length ≤ 1000000 := hp _ (List.mem_cons_self ..)
  clear hp
  conv => whnf
  refine loop_rule (fun i => S90 k f t g c s l i) (fun i => ((l.length : Int) - i).toNat) (fun i => 0 ≤ i ∧ i ≤ l.length ∧ ∀ j, j < i.toNat → j < l.length → ltP (gP l j) (k, f, t, g, c, s) = true) ?_ 0 (by kernel_rfl) ?_ ⟨by omega, by omega, fun j hj => by simp at hj⟩
  case refine_2 => rfl
  rintro i ⟨h0, h1, h2⟩
  conv => whnf
  refine cond_intro (fun hlt => ?_) (fun hlt => ?_)
  · have hlt : i < (l.length : Int) := @of_decide_eq_true _ _ hlt
    have hw : IntKind.i64.wrap (i + 1) = i + 1 := wrap_eq (by omega) (by omega)
    conv => whnf
    refine ⟨show 0 ≤ i by omega, ?_⟩
    conv => whnf
    refine ⟨show i < (l.length : Int) by omega, ?_⟩
    conv => whnf
    refine cond_intro (fun hlp => ?_) (fun hlp => ?_)
    · have hlp : (ltP (gP l i.toNat) (k, f, t, g, c, s)) = true := hlp
      conv => whnf
      refine ⟨i + 1, ?_, ⟨by omega, by omega, ?_⟩, by omega⟩
      · exact Eq.trans (b := S90 k f t g c s l (IntKind.i64.wrap (i + 1))) rfl (by rw [hw])
      · intro j hj hjl
        by_cases e : j = i.toNat
        · subst e; exact hlp
        · exact h2 j (by omega) hjl
    have hlp : (ltP (gP l i.toNat) (k, f, t, g, c, s)) = false := hlp
    conv => whnf
    refine cond_intro (fun h4 => ?_) (fun h4 => ?_)
    · have h4 : i < (l.length : Int) := @of_decide_eq_true _ _ h4
      conv => whnf
      refine ⟨show 0 ≤ i by omega, ?_⟩
      conv => whnf
      refine ⟨show i < (l.length : Int) by omega, ?_⟩
      conv => whnf
      refine cond_intro (fun hpl => ?_) (fun hpl => ?_)
      · have hpl : (!(ltP (k, f, t, g, c, s) (gP l i.toNat))) = true := hpl
        have hpl : (ltP (k, f, t, g, c, s) (gP l i.toNat)) = false := by simpa using hpl
        conv => whnf
        refine ⟨show (0 + l.length) * 48 ≤ 70368744177664 by omega, ?_⟩
        conv => whnf
        refine ⟨show 0 + l.length ≤ 70368744177664 by omega, ?_⟩
        conv => whnf
        refine ⟨show 0 ≤ i by omega, ?_⟩
        conv => whnf
        refine ⟨show i < (l.length : Int) by omega, ?_⟩
        conv => whnf
        refine ⟨show 0 ≤ i by omega, ?_⟩
        conv => whnf
        refine ⟨show i < (l.length : Int) by omega, ?_⟩
        conv => whnf
        refine ⟨show 0 ≤ i by omega, ?_⟩
        conv => whnf
        refine ⟨lt_set (show i < ((([] : List Pa) ++ l).length : Int) by simpa using hlt), ?_⟩
        conv => whnf
        refine ⟨show 0 ≤ i by omega, ?_⟩
        conv => whnf
        refine ⟨lt_set (show i < ((([] : List Pa) ++ l).length : Int) by simpa using hlt), ?_⟩
        conv => whnf
        show set2 (set1 (([] : List Pa) ++ l) i (k, f, t, g, c, s)) i (k, f, t, g, c, s) = putW l (k, f, t, g, c, s)
        rw [List.nil_append, set12' (show i.toNat < l.length by omega) _ _ rfl, put_set (show i.toNat < l.length by omega) h2 hlp hpl]
      have hpl : (!(ltP (k, f, t, g, c, s) (gP l i.toNat))) = false := hpl
      have hpl : (ltP (k, f, t, g, c, s) (gP l i.toNat)) = true := by simpa using hpl
      conv => whnf
      refine ⟨show 0 ≤ i by omega, ?_⟩
      conv => whnf
      refine ⟨show i ≤ (l.length : Int) by omega, ?_⟩
      conv => whnf
      refine ⟨show (0 + (l.take i.toNat).length) * 48 ≤ 70368744177664 by simp only [List.length_take]; omega, ?_⟩
      conv => whnf
      refine ⟨show 0 + (l.take i.toNat).length ≤ 70368744177664 by simp only [List.length_take]; omega, ?_⟩
      conv => whnf
      refine ⟨show ((([] : List Pa) ++ l.take i.toNat).length + 1) * 48 ≤ 70368744177664 by simp only [List.length_append, List.length_take, List.length_nil]; omega, ?_⟩
      conv => whnf
      refine ⟨show (([] : List Pa) ++ l.take i.toNat).length + 1 ≤ 70368744177664 by simp only [List.length_append, List.length_take, List.length_nil]; omega, ?_⟩
      conv => whnf
      refine ⟨show 0 ≤ i by omega, ?_⟩
      conv => whnf
      refine ⟨show i ≤ (l.length : Int) by omega, ?_⟩
      conv => whnf
      refine ⟨show ((([] : List Pa) ++ l.take i.toNat ++ [(k, f, t, g, c, s)]).length + (l.drop i.toNat).length) * 48 ≤ 70368744177664 by simp only [List.length_append, List.length_take, List.length_drop, List.length_nil, List.length_cons]; omega, ?_⟩
      conv => whnf
      refine ⟨show (([] : List Pa) ++ l.take i.toNat ++ [(k, f, t, g, c, s)]).length + (l.drop i.toNat).length ≤ 70368744177664 by simp only [List.length_append, List.length_take, List.length_drop, List.length_nil, List.length_cons]; omega, ?_⟩
      conv => whnf
      show ([] : List Pa) ++ l.take i.toNat ++ [(k, f, t, g, c, s)] ++ l.drop i.toNat = putW l (k, f, t, g, c, s)
      rw [put_in (i := i.toNat) (by omega) h2 (fun _ => hpl), List.nil_append]
    have h4 : ¬ (i < (l.length : Int)) := @of_decide_eq_false _ _ h4
    omega
  have hlt : ¬ (i < (l.length : Int)) := @of_decide_eq_false _ _ hlt
  conv => whnf
  refine cond_intro (fun h4 => ?_) (fun h4 => ?_)
  · have h4 : i < (l.length : Int) := @of_decide_eq_true _ _ h4
    omega
  have h4 : ¬ (i < (l.length : Int)) := @of_decide_eq_false _ _ h4
  conv => whnf
  refine ⟨show 0 ≤ i by omega, ?_⟩
  conv => whnf
  refine ⟨show i ≤ (l.length : Int) by omega, ?_⟩
  conv => whnf
  refine ⟨show (0 + (l.take i.toNat).length) * 48 ≤ 70368744177664 by simp only [List.length_take]; omega, ?_⟩
  conv => whnf
  refine ⟨show 0 + (l.take i.toNat).length ≤ 70368744177664 by simp only [List.length_take]; omega, ?_⟩
  conv => whnf
  refine ⟨show ((([] : List Pa) ++ l.take i.toNat).length + 1) * 48 ≤ 70368744177664 by simp only [List.length_append, List.length_take, List.length_nil]; omega, ?_⟩
  conv => whnf
  refine ⟨show (([] : List Pa) ++ l.take i.toNat).length + 1 ≤ 70368744177664 by simp only [List.length_append, List.length_take, List.length_nil]; omega, ?_⟩
  conv => whnf
  refine ⟨show 0 ≤ i by omega, ?_⟩
  conv => whnf
  refine ⟨show i ≤ (l.length : Int) by omega, ?_⟩
  conv => whnf
  refine ⟨show ((([] : List Pa) ++ l.take i.toNat ++ [(k, f, t, g, c, s)]).length + (l.drop i.toNat).length) * 48 ≤ 70368744177664 by simp only [List.length_append, List.length_take, List.length_drop, List.length_nil, List.length_cons]; omega, ?_⟩
  conv => whnf
  refine ⟨show (([] : List Pa) ++ l.take i.toNat ++ [(k, f, t, g, c, s)]).length + (l.drop i.toNat).length ≤ 70368744177664 by simp only [List.length_append, List.length_take, List.length_drop, List.length_nil, List.length_cons]; omega, ?_⟩
  conv => whnf
  show ([] : List Pa) ++ l.take i.toNat ++ [(k, f, t, g, c, s)] ++ l.drop i.toNat = putW l (k, f, t, g, c, s)
  rw [put_in (i := i.toNat) (by omega) h2 (fun h => by omega), List.nil_append]
end
end Go.Proofs.Yteidanhfkaljaaa.Eng.Cg
set_option linter.unusedVariables false
set_option linter.unusedSimpArgs false
namespace Go.Proofs.Yteidanhfkaljaaa.Eng.Cg
open Go Go.Proofs.Yteidanhfkaljaaa.Eng
set_option maxRecDepth 100000
noncomputable section
open Go.RowKit
/-- A parcel that is some days older. -/
def ageP (d : Int) (p : Pa) : Pa := (p.1, p.2.1, p.2.2.1, if 255 - p.2.2.2.1 < d then 255 else p.2.2.2.1 + d, p.2.2.2.2.1, p.2.2.2.2.2)
theorem age_ok {d : Int} (hd : 0 ≤ d) {p : Pa} (h : okP p) : okP (ageP d p) := by
  rw [okP_iff] at *
  refine ⟨h.1, ?_, h.2.2⟩
  show 0 ≤ (if 255 - p.2.2.2.1 < d then 255 else p.2.2.2.1 + d) ∧ (if 255 - p.2.2.2.1 < d then 255 else p.2.2.2.1 + d) ≤ 255
  split <;> omega
def olderR (l : List Pa) (d : Int) : List Pa × Int := if cargoR l ≠ 0 then ([], cargoR l) else if d < 0 then ([], 1) else gatherR (l.map (ageP d))
theorem put_len : ∀ (m : List Pa) (p : Pa), (putW m p).length ≤ m.length + 1
  | [], p => by simp [putW]
  | x :: m, p => by
    unfold putW
    split
    · have := put_len m p; simp; omega
    split <;> simp
theorem fold_len : ∀ (l m : List Pa), (fold m l).length ≤ m.length + l.length
  | [], m => by simp [fold_nil]
  | p :: l, m => by
    have h1 := fold_len l (putW m p)
    have h2 := put_len m p
    rw [fold_cons, List.length_cons]; omega
theorem N_len (l : List Pa) : (N l).length ≤ l.length := by have := fold_len l []; simp at this; exact this
theorem N_map_take (g : Pa → Pa) {l : List Pa} {i : Nat} (hi : i < l.length) : N ((l.take (i + 1)).map g) = putW (N ((l.take i).map g)) (g (gP l i)) := by
  rw [List.take_succ_eq_append_getElem hi, List.map_append, gP_eq hi]
  exact N_add _ _
/-- The first ones are older. -/
def mixR (l : List Pa) (d : Int) (i : Nat) : List Pa := (l.take i).map (ageP d) ++ l.drop i
theorem mix_len (l : List Pa) (d : Int) (i : Nat) : (mixR l d i).length = l.length := by
  unfold mixR; rw [List.length_append, List.length_map, ← List.length_append, List.take_append_drop]
theorem mix_at {l : List Pa} {d : Int} {i : Nat} (hi : i < l.length) : gP (mixR l d i) i = gP l i := by
  rw [gP_eq hi, gP_eq (by rw [mix_len]; exact hi)]
  unfold mixR
  rw [List.getElem_append_right (by simp; omega)]
  simp only [List.getElem_drop, List.length_map, List.length_take]
  congr 1; omega
theorem mix_set {l : List Pa} {d : Int} {i : Nat} (hi : i < l.length) : (mixR l d i).set i (ageP d (gP l i)) = mixR l d (i + 1) := by
  have e : l.drop i = gP l i :: l.drop (i + 1) := by rw [List.drop_eq_getElem_cons hi, gP_eq hi]
  unfold mixR
  have h0 : i - ((l.take i).map (ageP d)).length = 0 := by simp; omega
  rw [List.set_append_right _ _ (by simp; omega), h0, e, List.set_cons_zero, List.take_succ_eq_append_getElem hi, List.map_append, gP_eq hi, List.append_assoc]
  rfl
theorem mix_age {l : List Pa} {d : Int} (hd : 0 ≤ d) {i : Nat} (hi : i < l.length) (ho : okP (gP l i)) {m : Pa} (hm : m = gP l i) : ((m.1, m.2.1, m.2.2.1, min2 (IntKind.i64.wrap (m.2.2.2.1 + min2 d 255)) 255, m.2.2.2.2.1, m.2.2.2.2.2) : Pa) = ageP d (gP l i) := by
  subst hm
  rw [okP_iff] at ho
  have e : (min2 (IntKind.i64.wrap ((gP l i).2.2.2.1 + min2 d 255)) 255) = if 255 - (gP l i).2.2.2.1 < d then 255 else (gP l i).2.2.2.1 + d := by
    unfold min2
    have : IntKind.i64.wrap ((gP l i).2.2.2.1 + (if 255 < d then 255 else d)) = (gP l i).2.2.2.1 + (if 255 < d then 255 else d) := wrap_eq (by split <;> omega) (by split <;> omega)
    rw [this]
    split <;> split <;> split <;> (try rfl) <;> omega
  rw [e]; rfl
def S58 (l : List Pa) (d i : Int) : SL := ⟨[.undef, .int .i64 d] ++ List.replicate 5 .undef ++ [.own 0] ++ List.replicate 11 .undef ++ [.int .i64 l.length, .int .i64 i] ++ List.replicate 20 .undef, [(0, .arr paT (mixR l d i.toNat))], 1⟩
theorem gather_age {l : List Pa} {d : Int} : gatherR (l.map (ageP d)) = if cargoR (N (l.map (ageP d))) = 0 then (N (l.map (ageP d)), 0) else ([], 4) := rfl

def E58 : Env := ⟨tab, [(47, K47), (79, K79), (77, K77)], fun n => match n with | 8 => some ([1, 7, 19, 20], [], []) | _ => none⟩
def K58 : Fn1 := ⟨.fld (.sl paT) (.one I), .fld (.sl paT) (.one I), fun (a : List Pa × Int) => [a.1.length ≤ 100000], fun (a : List Pa × Int) => olderR a.1 a.2⟩
theorem k58 : FnOk Go.Proofs.Try.prog 58 K58 := by
  refine fn_ok (E := E58) (TOk.of tab_told) (AllOk.cons k47 (.cons k79 (.cons k77 .nil))).at_ mix Go.Proofs.Try.func58 rfl rfl (by kernel_rfl) K58 ?_
  rintro ⟨(l : List Pa), (d : Int)⟩ hp
  have hl : l.length ≤ 100000 := hp _ (List.mem_cons_self ..)
  clear hp
  conv => whnf
  refine ⟨hl, ?_⟩
  conv => whnf
  refine cond_intro (fun h1 => ?_) (fun h1 => ?_)
  · have h1 : (!decide (cargoR l = 0)) = true := h1
    have h1 : ¬ (cargoR l = 0) := by simpa using h1
    conv => whnf
    show (([], cargoR l) : List Pa × Int) = olderR l d
    rw [olderR, if_pos h1]
  have h1 : (!decide (cargoR l = 0)) = false := h1
  have h1 : cargoR l = 0 := by simpa using h1
  have hv := (cargo_zero l).1 h1
  have hl2 := hv.1
  have hok := hv.2.2
  conv => whnf
  refine cond_intro (fun h2 => ?_) (fun h2 => ?_)
  · have h2 : d < 0 := @of_decide_eq_true _ _ h2
    conv => whnf
    show (([], 1) : List Pa × Int) = olderR l d
    rw [olderR, if_neg (by simp [h1]), if_pos h2]
  have h2 : ¬ (d < 0) := @of_decide_eq_false _ _ h2
  have hfin : olderR l d = gatherR (l.map (ageP d)) := by rw [olderR, if_neg (by simp [h1]), if_neg h2]
  conv => whnf
  refine ⟨show l.length ≤ 1000000 by omega, ?_⟩
  conv => whnf
  refine loop_rule (fun i => S58 l d i) (fun i => ((l.length : Int) - i).toNat) (fun i => 0 ≤ i ∧ i ≤ l.length) ?_ 0 (by kernel_rfl) ?_ ⟨by omega, by omega⟩
  case refine_2 => rfl
  rintro i ⟨h0, h3⟩
  conv => whnf
  refine cond_intro (fun hlt => ?_) (fun hlt => ?_)
  · have hlt : i < (l.length : Int) := @of_decide_eq_true _ _ hlt
    have hw : IntKind.i64.wrap (i + 1) = i + 1 := wrap_eq (by omega) (by omega)
    have ei : (i + 1).toNat = i.toNat + 1 := by omega
    have hg : okP (gP l i.toNat) := by rw [gP_eq (show i.toNat < l.length by omega)]; exact hok _ (List.getElem_mem _)
    rw [okP_iff] at hg
    have hlm : i < ((mixR l d i.toNat).length : Int) := by rw [mix_len]; exact hlt
    have hma := mix_at (d := d) (show i.toNat < l.length by omega)
    have hms := mix_set (d := d) (show i.toNat < l.length by omega)
    have hage : (((gP (mixR l d i.toNat) i.toNat).1, (gP (mixR l d i.toNat) i.toNat).2.1, (gP (mixR l d i.toNat) i.toNat).2.2.1, (min2 (IntKind.i64.wrap ((gP (mixR l d i.toNat) i.toNat).2.2.2.1 + min2 d 255)) 255), (gP (mixR l d i.toNat) i.toNat).2.2.2.2.1, (gP (mixR l d i.toNat) i.toNat).2.2.2.2.2) : Pa) = ageP d (gP l i.toNat) := mix_age (show 0 ≤ d by omega) (show i.toNat < l.length by omega) (by rw [okP_iff]; exact hg) hma
    conv => whnf
    refine ⟨h0, ?_⟩
    conv => whnf
    refine ⟨hlm, ?_⟩
    conv => whnf
    refine ⟨h0, ?_⟩
    conv => whnf
    refine ⟨hlm, ?_⟩
    conv => whnf
    refine ⟨i + 1, ?_, ⟨by omega, by omega⟩, by omega⟩
    exact Eq.trans (b := ⟨[.undef, .int .i64 d] ++ List.replicate 5 .undef ++ [.own 0] ++ List.replicate 11 .undef ++ [.int .i64 l.length, .int .i64 (IntKind.i64.wrap (i + 1))] ++ List.replicate 20 .undef, [(0, .arr paT ((mixR l d i.toNat).set i.toNat (((gP (mixR l d i.toNat) i.toNat).1, (gP (mixR l d i.toNat) i.toNat).2.1, (gP (mixR l d i.toNat) i.toNat).2.2.1, (min2 (IntKind.i64.wrap ((gP (mixR l d i.toNat) i.toNat).2.2.2.1 + min2 d 255)) 255), (gP (mixR l d i.toNat) i.toNat).2.2.2.2.1, (gP (mixR l d i.toNat) i.toNat).2.2.2.2.2) : Pa)))], 1⟩) rfl (by unfold S58; rw [hw, hage, hms, ei])
  have hlt : ¬ (i < (l.length : Int)) := @of_decide_eq_false _ _ hlt
  have ei : (mixR l d i.toNat) = l.map (ageP d) := by unfold mixR; rw [List.take_of_length_le (by omega), List.drop_of_length_le (by omega), List.append_nil]
  rw [ei]
  conv => whnf
  refine ⟨show (l.map (ageP d)).length ≤ 1000 by rw [List.length_map]; omega, ?_⟩
  conv => whnf
  refine ⟨show ∀ p ∈ l.map (ageP d), okP p from fun p hp => by obtain ⟨q, hq, rfl⟩ := List.mem_map.1 hp; exact age_ok (by omega) (hok q hq), ?_⟩
  conv => whnf
  show gatherR (l.map (ageP d)) = olderR l d
  rw [hfin]
end
end Go.Proofs.Yteidanhfkaljaaa.Eng.Cg
set_option linter.unusedVariables false
set_option linter.unusedSimpArgs false
namespace Go.Proofs.Yteidanhfkaljaaa.Eng.Cg
open Go Go.Proofs.Yteidanhfkaljaaa.Eng
set_option maxRecDepth 100000
noncomputable section
open Go.RowKit
def cntP (l : List Pa) : Int := (l.map fun p => p.2.2.2.2.1).sum
theorem cntP_take {l : List Pa} {i : Nat} (hi : i < l.length) : cntP (l.take (i + 1)) = cntP (l.take i) + (gP l i).2.2.2.2.1 := by
  unfold cntP
  rw [List.take_succ_eq_append_getElem hi, List.map_append, List.sum_append, gP_eq hi]
  simp
theorem cntP_bnd : ∀ {l : List Pa}, (∀ p ∈ l, okP p) → 0 ≤ cntP l ∧ cntP l ≤ l.length * 1000000
  | [], h => by simp [cntP]
  | p :: l, h => by
    have h1 := cntP_bnd (l := l) fun q hq => h q (List.mem_cons_of_mem _ hq)
    have h2 := h p List.mem_cons_self
    rw [okP_iff] at h2
    have e : cntP (p :: l) = p.2.2.2.2.1 + cntP l := by simp [cntP]
    rw [e, List.length_cons]
    omega
def shrP (l : List Pa) : Int := (l.map fun p => p.2.2.2.2.2).sum
theorem shrP_take {l : List Pa} {i : Nat} (hi : i < l.length) : shrP (l.take (i + 1)) = shrP (l.take i) + (gP l i).2.2.2.2.2 := by
  unfold shrP
  rw [List.take_succ_eq_append_getElem hi, List.map_append, List.sum_append, gP_eq hi]
  simp
theorem shrP_bnd : ∀ {l : List Pa}, (∀ p ∈ l, okP p) → 0 ≤ shrP l ∧ shrP l ≤ l.length * 1000000000000
  | [], h => by simp [shrP]
  | p :: l, h => by
    have h1 := shrP_bnd (l := l) fun q hq => h q (List.mem_cons_of_mem _ hq)
    have h2 := h p List.mem_cons_self
    rw [okP_iff] at h2
    have e : shrP (p :: l) = p.2.2.2.2.2 + shrP l := by simp [shrP]
    rw [e, List.length_cons]
    omega
theorem N_fold_take (m : List Pa) {l : List Pa} {i : Nat} (hi : i < l.length) : fold m (l.take (i + 1)) = putW (fold m (l.take i)) (gP l i) := by
  rw [List.take_succ_eq_append_getElem hi, fold_app, gP_eq hi]; rfl
/-- The load of two loads. -/
def joinR (a b : List Pa) : List Pa × Int := if cargoR a ≠ 0 then ([], cargoR a) else if cargoR b ≠ 0 then ([], cargoR b) else gatherR (a ++ b)
end
end Go.Proofs.Yteidanhfkaljaaa.Eng.Cg
set_option linter.unusedVariables false
set_option linter.unusedSimpArgs false
namespace Go.Proofs.Yteidanhfkaljaaa.Eng.Cg
open Go Go.Proofs.Yteidanhfkaljaaa.Eng
set_option maxRecDepth 100000
noncomputable section
open Go.RowKit
abbrev U : Ty := .int .u64
abbrev caT : Ty := .fld .str (.fld I (.fld I (.one I)))
def sA : ByteArray := { data := #[97] }
abbrev Ca := ByteArray × Int × Int × Int
def cA : Ca := (sA, 16, 10, 5)
def K96 : Fn1 := ⟨.fld U (.one U), .fld U (.one U), fun (a : Int × Int) => [a = (4048, 80)], fun _ => ((0, 323840) : Int × Int)⟩
theorem k96 : FnOk Go.Proofs.Try.prog 96 K96 := by
  refine fn_ok (E := E0) (TOk.of tab_told) noK mix Go.Proofs.Try.func96 rfl rfl (by kernel_rfl) K96 ?_
  rintro a hp
  obtain rfl : a = ((4048, 80) : Int × Int) := hp _ (List.mem_cons_self ..)
  clear hp
  conv => whnf
  repeat (refine ⟨by first | decide +kernel | rfl | kernel_rfl, ?_⟩; conv => whnf)
  kernel_rfl
def K97 : Fn1 := ⟨.fld U (.fld U (.one U)), .fld U (.one U), fun (a : Int × Int × Int) => [a = (0, 323840, 4096)], fun _ => ((79, 256) : Int × Int)⟩
theorem k97 : FnOk Go.Proofs.Try.prog 97 K97 := by
  refine fn_ok (E := E0) (TOk.of tab_told) noK mix Go.Proofs.Try.func97 rfl rfl (by kernel_rfl) K97 ?_
  rintro a hp
  obtain rfl : a = ((0, 323840, 4096) : Int × Int × Int) := hp _ (List.mem_cons_self ..)
  clear hp
  conv => whnf
  repeat (refine ⟨by first | decide +kernel | rfl | kernel_rfl, ?_⟩; conv => whnf)
  kernel_rfl
end
end Go.Proofs.Yteidanhfkaljaaa.Eng.Cg
set_option linter.unusedVariables false
set_option linter.unusedSimpArgs false
namespace Go.Proofs.Yteidanhfkaljaaa.Eng.Cg
open Go Go.Proofs.Yteidanhfkaljaaa.Eng
set_option maxRecDepth 100000
noncomputable section
open Go.RowKit
theorem older_zero {l : List Pa} {d : Int} (h : (olderR l d).2 = 0) : cargoR l = 0 ∧ 0 ≤ d ∧ cargoR (N (l.map (ageP d))) = 0 ∧ olderR l d = (N (l.map (ageP d)), 0) := by
  unfold olderR at h ⊢
  by_cases h1 : cargoR l = 0
  · rw [if_neg (by simp [h1])] at h ⊢
    by_cases h2 : d < 0
    · rw [if_pos h2] at h; cases h
    · rw [if_neg h2] at h ⊢
      rw [gather_age] at h ⊢
      by_cases h3 : cargoR (N (l.map (ageP d))) = 0
      · rw [if_pos h3]; exact ⟨h1, by omega, h3, rfl⟩
      · rw [if_neg h3] at h; cases h
  · rw [if_pos h1] at h; exact absurd h h1
theorem older_len (l : List Pa) (d : Int) : (olderR l d).1.length ≤ 200 := by
  unfold olderR
  split
  · simp
  split
  · simp
  unfold gatherR
  split
  · rename_i h; exact ((cargo_zero _).1 h).1
  · simp
theorem sum_put : ∀ {m : List Pa} {p : Pa} {a b : Int}, a + b ≤ 1000000 → (∀ x ∈ m, Bnd a x) → Bnd b p → cntP (putW m p) = cntP m + p.2.2.2.2.1 ∧ shrP (putW m p) = shrP m + p.2.2.2.2.2
  | [], p, a, b, hl, hm, hp => by simp [putW, cntP, shrP]
  | y :: m, p, a, b, hl, hm, hp => by
    obtain ⟨_, e1, e2⟩ := bnd_add (hm y List.mem_cons_self) hp hl
    have ih := sum_put hl (fun x hx => hm x (List.mem_cons_of_mem _ hx)) hp
    unfold putW
    split
    · simp only [cntP, shrP, List.map_cons, List.sum_cons] at ih ⊢
      omega
    split
    · simp only [cntP, shrP, List.map_cons, List.sum_cons]
      omega
    · simp only [cntP, shrP, List.map_cons, List.sum_cons, e1, e2]
      omega
theorem sum_fold : ∀ {l m : List Pa} {a : Int}, 0 ≤ a → a + l.length ≤ 1000000 → (∀ x ∈ m, Bnd a x) → (∀ x ∈ l, okP x) → cntP (fold m l) = cntP m + cntP l ∧ shrP (fold m l) = shrP m + shrP l
  | [], m, a, ha, hl, hm, ho => by simp [fold_nil, cntP, shrP]
  | p :: l, m, a, ha, hl, hm, ho => by
    simp only [List.length_cons] at hl
    have h0 := bnd_ok (ho p List.mem_cons_self)
    have h1 := put_bnd ha (b := 1) (by omega) (by omega) hm h0
    have h2 := sum_fold (l := l) (a := a + 1) (by omega) (by omega) h1 (fun y hy => ho y (List.mem_cons_of_mem _ hy))
    have h3 := sum_put (by omega) hm h0
    rw [fold_cons, h2.1, h2.2, h3.1, h3.2]
    simp only [cntP, shrP, List.map_cons, List.sum_cons]
    omega
theorem sum_N {l : List Pa} (hl : l.length ≤ 1000000) (ho : ∀ x ∈ l, okP x) : cntP (N l) = cntP l ∧ shrP (N l) = shrP l := by
  have := sum_fold (l := l) (m := []) (a := 0) (by omega) (by omega) (by simp) ho
  simp only [cntP, shrP, List.map_nil, List.sum_nil, Int.zero_add] at this ⊢
  exact this
theorem sum_age (l : List Pa) (d : Int) : cntP (l.map (ageP d)) = cntP l ∧ shrP (l.map (ageP d)) = shrP l := by
  unfold cntP shrP
  rw [List.map_map, List.map_map]
  exact ⟨rfl, rfl⟩
theorem older_sum {l : List Pa} {d : Int} (h : (olderR l d).2 = 0) : cntP (olderR l d).1 = cntP l ∧ shrP (olderR l d).1 = shrP l := by
  obtain ⟨h1, h2, h3, h4⟩ := older_zero h
  have hv := (cargo_zero l).1 h1
  have := sum_N (l := l.map (ageP d)) (by rw [List.length_map]; omega) (fun p hp => by obtain ⟨q, hq, rfl⟩ := List.mem_map.1 hp; exact age_ok h2 (hv.2.2 q hq))
  rw [h4]
  show cntP (N (l.map (ageP d))) = _ ∧ shrP (N (l.map (ageP d))) = _
  rw [this.1, this.2]
  exact sum_age l d
theorem older_ok {l : List Pa} {d : Int} (h : (olderR l d).2 = 0) : (∀ p ∈ l, okP p) ∧ ∀ p ∈ (olderR l d).1, okP p := by
  obtain ⟨h1, h2, h3, h4⟩ := older_zero h
  refine ⟨((cargo_zero l).1 h1).2.2, ?_⟩
  rw [h4]
  exact ((cargo_zero _).1 h3).2.2
theorem age_hom (d : Int) : Hom (ageP d) := by
  refine ⟨fun x p h => rfl, fun x p h => ?_⟩
  obtain ⟨a, b, c, e⟩ := h
  refine ⟨a, b, c, ?_⟩
  show (if 255 - x.2.2.2.1 < d then 255 else x.2.2.2.1 + d) = (if 255 - p.2.2.2.1 < d then 255 else p.2.2.2.1 + d)
  rw [e]
theorem age_age {a b : Int} (ha : 0 ≤ a) (hb : 0 ≤ b) {p : Pa} (hp : okP p) : ageP b (ageP a p) = ageP (a + b) p := by
  rw [okP_iff] at hp
  have e : (if 255 - (if 255 - p.2.2.2.1 < a then 255 else p.2.2.2.1 + a) < b then 255 else (if 255 - p.2.2.2.1 < a then 255 else p.2.2.2.1 + a) + b) = if 255 - p.2.2.2.1 < a + b then 255 else p.2.2.2.1 + (a + b) := by
    split <;> split <;> split <;> omega
  exact congrArg (fun z => ((p.1, p.2.1, p.2.2.1, z, p.2.2.2.2.1, p.2.2.2.2.2) : Pa)) e
theorem older_add {l : List Pa} {a b : Int} (hb : 0 ≤ b) (h : (olderR l a).2 = 0) : olderR (olderR l a).1 b = olderR l (a + b) := by
  obtain ⟨h1, h2, h3, h4⟩ := older_zero h
  rw [h4]
  show olderR (N (l.map (ageP a))) b = _
  rw [olderR, if_neg (by simp [h3]), if_neg (by omega), olderR, if_neg (by simp [h1]), if_neg (by omega), gather_age, gather_age]
  have e : N ((N (l.map (ageP a))).map (ageP b)) = N (l.map (ageP (a + b))) := by
    rw [N_map (age_hom b), List.map_map]
    congr 1
    exact List.map_congr_left fun p hp => age_age h2 hb (((cargo_zero l).1 h1).2.2 p hp)
  rw [e]
end
end Go.Proofs.Yteidanhfkaljaaa.Eng.Cg
set_option linter.unusedVariables false
set_option linter.unusedSimpArgs false
namespace Go.Proofs
open Go.Shelf Go.RowKit Go.Lib Go.Sort
shelf_lay_g Lays8.n4 Nm8 4 at Try 92 as Try.growPa
end Go.Proofs
namespace Go.Proofs.Yteidanhfkaljaaa.Eng.Cg
open Go Go.RowKit Go.Proofs.Yteidanhfkaljaaa.Eng
set_option maxRecDepth 100000
noncomputable section
def X92 : List AV → Nat → Rd Res := growX paT
theorem k92 : FxOk Go.Proofs.Try.prog 92 X92 := by
  have q1 : (E0.ti 57).kind = 3 := by kernel_rfl
  have q2 : (E0.ti 57).zero = [.int .i64 0, .int .i64 0, .int .i64 0, .int .i64 0, .int .i64 0, .int .i64 0] := by kernel_rfl
  obtain ⟨f, zv, g1, g2, g3, g4, g5⟩ := (TOk.of tab_told : TOk Go.Proofs.Try.prog E0).zero (t := 57) (by rw [q1]; decide) (by rw [q2]; simp)
  have e1 : (E0.ti 57).size = 6 := by kernel_rfl
  have e2 : (E0.ti 57).bytes = 48 := by kernel_rfl
  rw [q2] at g5
  have e3 := congrArg List.length g5
  simp only [List.length_map, Array.length_toList, List.length_cons, List.length_nil] at e3
  exact grow_ok Go.Proofs.Try.growPa paT g1 g4 (by rw [g2, e1]; rfl) (by rw [← e3]; rfl) (by rw [g3, e2]; decide) ⟨_, _, Go.Proofs.Try.func92, rfl, rfl⟩

def E76 : Env := ⟨tab, [], fun n => match n with | 3 => some ([3, 6, 7, 8], [], []) | _ => none⟩
def K76 : Fn1 := ⟨.one (.sl I), .one I, fun (l : List Int) => [l.length ≤ 100000], fun (l : List Int) => (l.find? (fun n => decide (n ≠ 0))).getD 0⟩
def S76 (l : List Int) (i : Int) : SL := ⟨[.undef, .undef, .undef, .int .i64 0, .undef, .undef, .sl I l, .int .i64 l.length, .int .i64 i] ++ List.replicate 9 .undef, [], 0⟩
theorem k76 : FnOk Go.Proofs.Try.prog 76 K76 := by
  refine fn_ok (E := E76) (TOk.of tab_told) noK mix Go.Proofs.Try.func76 rfl rfl (by kernel_rfl) K76 ?_
  rintro (l : List Int) hp
  have hl : l.length ≤ 100000 := hp _ (List.mem_cons_self ..)
  clear hp
  conv => whnf
  refine loop_rule (S76 l) (fun i => ((l.length : Int) - i).toNat) (fun i => 0 ≤ i ∧ i ≤ l.length ∧ ∀ n ∈ l.take i.toNat, n = 0) ?_ 0 (by kernel_rfl) ?_ ⟨by omega, by omega, by simp⟩
  case refine_2 => rfl
  rintro i ⟨h0, h1, h2⟩
  conv => whnf
  have hsp : l = l.take i.toNat ++ l.drop i.toNat := (List.take_append_drop _ _).symm
  have hnone : (l.take i.toNat).find? (fun n => decide (n ≠ 0)) = none := by simpa using h2
  refine cond_intro (fun hlt => ?_) (fun hge => ?_)
  · have hlt : i < l.length := @of_decide_eq_true _ _ hlt
    have e : gI l i.toNat = l[i.toNat]'(by omega) := gI_eq _
    have hd : l.drop i.toNat = gI l i.toNat :: l.drop (i.toNat + 1) := by rw [List.drop_eq_getElem_cons (by omega), e]
    have ht : l.take (i.toNat + 1) = l.take i.toNat ++ [gI l i.toNat] := by rw [List.take_succ_eq_append_getElem (by omega), e]
    conv => whnf
    refine ⟨h0, ?_⟩
    conv => whnf
    refine ⟨hlt, ?_⟩
    conv => whnf
    refine cond_intro (fun hz => ?_) (fun hz => ?_)
    · have hz : gI l i.toNat ≠ 0 := by
        have hz : (!decide (gI l i.toNat = 0)) = true := hz
        simpa using hz
      conv => whnf
      show gI l i.toNat = (l.find? (fun n => decide (n ≠ 0))).getD 0
      rw [hsp, List.find?_append, hnone, ← hsp, hd]
      simp [hz]
    · have hz : gI l i.toNat = 0 := by
        have hz : (!decide (gI l i.toNat = 0)) = false := hz
        simpa using hz
      conv => whnf
      have hw : IntKind.i64.wrap (i + 1) = i + 1 := wrap_eq (by omega) (by omega)
      refine ⟨i + 1, ?_, ⟨by omega, by omega, ?_⟩, by omega⟩
      · exact Eq.trans (b := S76 l (IntKind.i64.wrap (i + 1))) rfl (by rw [hw])
      · rw [show (i + 1).toNat = i.toNat + 1 by omega, ht]
        intro n hn
        rcases List.mem_append.1 hn with hn | hn
        · exact h2 n hn
        · cases List.mem_singleton.1 hn
          exact hz
  · have hge : ¬ i < l.length := @of_decide_eq_false _ _ hge
    conv => whnf
    show 0 = (l.find? (fun n => decide (n ≠ 0))).getD 0
    rw [show l.take i.toNat = l from List.take_of_length_le (by omega)] at hnone
    rw [hnone]; rfl

def lenS (ll : List (List Pa)) : Int := (ll.map fun l => (l.length : Int)).sum
def S78a (ll : List (List Pa)) (i : Int) : SL := ⟨[.sl (.sl paT) ll, .undef, .undef, .int .i64 (lenS (ll.take i.toNat))] ++ List.replicate 5 .undef ++ [.sl (.sl paT) ll, .int .i64 ll.length, .int .i64 i] ++ List.replicate 24 .undef, [], 0⟩
def S78b (ll : List (List Pa)) (i : Int) : SL := ⟨List.replicate 6 .undef ++ [.own 0] ++ List.replicate 18 .undef ++ [.sl (.sl paT) ll, .int .i64 ll.length, .int .i64 i] ++ List.replicate 8 .undef, [(0, .arr paT (ll.take i.toNat).flatten)], 1⟩
def gL (ll : List (List Pa)) (n : Nat) : List Pa := ll.getD n []
theorem gL_eq {ll : List (List Pa)} {n : Nat} (h : n < ll.length) : gL ll n = ll[n] := by simp [gL, h]
theorem lenS_take {ll : List (List Pa)} {i : Nat} (hi : i < ll.length) : lenS (ll.take (i + 1)) = lenS (ll.take i) + (gL ll i).length := by
  unfold lenS
  rw [List.take_succ_eq_append_getElem hi, List.map_append, List.sum_append, gL_eq hi]
  simp
theorem lenS_bnd : ∀ {ll : List (List Pa)}, (∀ l ∈ ll, l.length ≤ 100000) → 0 ≤ lenS ll ∧ lenS ll ≤ ll.length * 100000
  | [], h => by simp [lenS]
  | l :: ll, h => by
    have h1 := lenS_bnd (ll := ll) fun q hq => h q (List.mem_cons_of_mem _ hq)
    have h2 := h l List.mem_cons_self
    have e : lenS (l :: ll) = (l.length : Int) + lenS ll := by simp [lenS]
    rw [e, List.length_cons]
    omega
theorem lenS_flat (ll : List (List Pa)) : (ll.flatten.length : Int) = lenS ll := by
  induction ll with
  | nil => rfl
  | cons l ll ih =>
    have e : lenS (l :: ll) = (l.length : Int) + lenS ll := by simp [lenS]
    rw [e, List.flatten_cons, List.length_append, ← ih]; simp
theorem flat_take {ll : List (List Pa)} {i : Nat} (hi : i < ll.length) : (ll.take (i + 1)).flatten = (ll.take i).flatten ++ gL ll i := by
  rw [List.take_succ_eq_append_getElem hi, List.flatten_append, gL_eq hi]
  simp
def E78 : Env := ⟨tab, [(92, .eff X92)], fun n => match n with | 3 => some ([0, 3, 9, 10, 11], [], []) | 11 => some ([6, 25, 26, 27], [], []) | _ => none⟩
def K78 : Fn1 := ⟨.one (.sl (.sl paT)), .one (.sl paT), fun (ll : List (List Pa)) => [ll.length ≤ 100, ∀ l ∈ ll, l.length ≤ 100000], fun (ll : List (List Pa)) => ll.flatten⟩
theorem k78 : FnOk Go.Proofs.Try.prog 78 K78 := by
  refine fn_ok (E := E78) (TOk.of tab_told) (AllOk.consX k92 .nil).at_ mix Go.Proofs.Try.func78 rfl rfl (by kernel_rfl) K78 ?_
  rintro (ll : List (List Pa)) hp
  have hl : ll.length ≤ 100 := hp _ (List.mem_cons_self ..)
  have hb : ∀ l ∈ ll, l.length ≤ 100000 := hp _ (List.mem_cons_of_mem _ (List.mem_cons_self ..))
  clear hp
  conv => whnf
  refine loop_rule (S78a ll) (fun i => ((ll.length : Int) - i).toNat) (fun i => 0 ≤ i ∧ i ≤ ll.length) ?_ 0 (by kernel_rfl) ?_ ⟨by omega, by omega⟩
  case refine_2 => rfl
  rintro i ⟨h0, h1⟩
  conv => whnf
  refine cond_intro (fun hlt => ?_) (fun hlt => ?_)
  · have hlt : i < (ll.length : Int) := @of_decide_eq_true _ _ hlt
    have hw : IntKind.i64.wrap (i + 1) = i + 1 := wrap_eq (by omega) (by omega)
    have ei : (i + 1).toNat = i.toNat + 1 := by omega
    have hgl : (gL ll i.toNat).length ≤ 100000 := by rw [gL_eq (show i.toNat < ll.length by omega)]; exact hb _ (List.getElem_mem _)
    have hbt := lenS_bnd (ll := ll.take i.toNat) fun p hp => hb p (List.mem_of_mem_take hp)
    rw [List.length_take] at hbt
    have hs : (IntKind.i64.wrap (lenS (ll.take i.toNat) + (gL ll i.toNat).length)) = lenS (ll.take (i + 1).toNat) := by rw [ei, lenS_take (by omega)]; exact wrap_eq (by omega) (by omega)
    have hs0 : lenS (ll.take (i + 1).toNat) = lenS (ll.take i.toNat) + (gL ll i.toNat).length := by rw [ei, lenS_take (by omega)]
    conv => whnf
    refine ⟨h0, ?_⟩
    conv => whnf
    refine ⟨hlt, ?_⟩
    conv => whnf
    refine cond_intro (fun hneg => ?_) (fun hneg => ?_)
    · have hneg : (IntKind.i64.wrap (lenS (ll.take i.toNat) + (gL ll i.toNat).length)) < 0 := @of_decide_eq_true _ _ hneg
      omega
    have hneg : ¬ ((IntKind.i64.wrap (lenS (ll.take i.toNat) + (gL ll i.toNat).length)) < 0) := @of_decide_eq_false _ _ hneg
    conv => whnf
    refine ⟨i + 1, ?_, ⟨by omega, by omega⟩, by omega⟩
    exact Eq.trans (b := ⟨[.sl (.sl paT) ll, .undef, .undef, .int .i64 (IntKind.i64.wrap (lenS (ll.take i.toNat) + (gL ll i.toNat).length))] ++ List.replicate 5 .undef ++ [.sl (.sl paT) ll, .int .i64 ll.length, .int .i64 (IntKind.i64.wrap (i + 1))] ++ List.replicate 24 .undef, [], 0⟩) rfl (by unfold S78a; rw [hw, hs])
  have hlt : ¬ (i < (ll.length : Int)) := @of_decide_eq_false _ _ hlt
  rw [List.take_of_length_le (by omega)]
  have hbl := lenS_bnd hb
  conv => whnf
  refine ⟨show 0 ≤ lenS ll by omega, ?_⟩
  conv => whnf
  refine ⟨show lenS ll ≤ 70368744 by omega, ?_⟩
  conv => whnf
  refine loop_rule (S78b ll) (fun i => ((ll.length : Int) - i).toNat) (fun i => 0 ≤ i ∧ i ≤ ll.length) ?_ 0 (by kernel_rfl) ?_ ⟨by omega, by omega⟩
  case refine_2 => rfl
  rintro i ⟨h0, h1⟩
  conv => whnf
  refine cond_intro (fun hlt => ?_) (fun hlt => ?_)
  · have hlt : i < (ll.length : Int) := @of_decide_eq_true _ _ hlt
    have hw : IntKind.i64.wrap (i + 1) = i + 1 := wrap_eq (by omega) (by omega)
    have ei : (i + 1).toNat = i.toNat + 1 := by omega
    have hgl : (gL ll i.toNat).length ≤ 100000 := by rw [gL_eq (show i.toNat < ll.length by omega)]; exact hb _ (List.getElem_mem _)
    have hbt := lenS_bnd (ll := ll.take i.toNat) fun p hp => hb p (List.mem_of_mem_take hp)
    rw [List.length_take] at hbt
    have hf := lenS_flat (ll.take i.toNat)
    conv => whnf
    refine ⟨h0, ?_⟩
    conv => whnf
    refine ⟨hlt, ?_⟩
    conv => whnf
    refine ⟨show ((ll.take i.toNat).flatten.length + (gL ll i.toNat).length) * 48 ≤ 70368744177664 by omega, ?_⟩
    conv => whnf
    refine ⟨show (ll.take i.toNat).flatten.length + (gL ll i.toNat).length ≤ 70368744177664 by omega, ?_⟩
    conv => whnf
    refine ⟨i + 1, ?_, ⟨by omega, by omega⟩, by omega⟩
    exact Eq.trans (b := ⟨List.replicate 6 .undef ++ [.own 0] ++ List.replicate 18 .undef ++ [.sl (.sl paT) ll, .int .i64 ll.length, .int .i64 (IntKind.i64.wrap (i + 1))] ++ List.replicate 8 .undef, [(0, .arr paT ((ll.take i.toNat).flatten ++ gL ll i.toNat))], 1⟩) rfl (by unfold S78b; rw [hw, ei, flat_take (by omega)])
  have hlt : ¬ (i < (ll.length : Int)) := @of_decide_eq_false _ _ hlt
  rw [List.take_of_length_le (by omega)]
  conv => whnf
  show ll.flatten = ll.flatten
  rfl
def K57 : Fn1 := ⟨.fld (.sl paT) (.one (.sl paT)), .fld (.sl paT) (.one I), fun (a : List Pa × List Pa) => [a.1.length ≤ 100000, a.2.length ≤ 100000], fun (a : List Pa × List Pa) => joinR a.1 a.2⟩
theorem k57 : FnOk Go.Proofs.Try.prog 57 K57 := by
  refine fn_ok (E := (⟨tab, [(47, K47), (76, K76), (78, K78), (77, K77)], ann0⟩ : Env)) (TOk.of tab_told) (AllOk.cons k47 (.cons k76 (.cons k78 (.cons k77 .nil)))).at_ mix Go.Proofs.Try.func57 rfl rfl (by kernel_rfl) K57 ?_
  rintro ⟨(a : List Pa), (b : List Pa)⟩ hp
  have ha : a.length ≤ 100000 := hp _ (List.mem_cons_self ..)
  have hb : b.length ≤ 100000 := hp _ (List.mem_cons_of_mem _ (List.mem_cons_self ..))
  clear hp
  have hor : (([cargoR a, cargoR b].find? (fun n => decide (n ≠ 0))).getD 0) = if cargoR a ≠ 0 then cargoR a else cargoR b := by
    by_cases h1 : cargoR a = 0 <;> by_cases h2 : cargoR b = 0 <;> simp [h1, h2]
  conv => whnf
  refine ⟨ha, ?_⟩
  conv => whnf
  refine ⟨hb, ?_⟩
  conv => whnf
  refine ⟨show 2 ≤ 100000 by omega, ?_⟩
  conv => whnf
  refine cond_intro (fun h1 => ?_) (fun h1 => ?_)
  · have h1 : (!decide ((([cargoR a, cargoR b].find? (fun n => decide (n ≠ 0))).getD 0) = 0)) = true := h1
    have h1 : ¬ ((([cargoR a, cargoR b].find? (fun n => decide (n ≠ 0))).getD 0) = 0) := by simpa using h1
    rw [hor] at h1
    conv => whnf
    show (([], (([cargoR a, cargoR b].find? (fun n => decide (n ≠ 0))).getD 0)) : List Pa × Int) = joinR a b
    rw [hor]
    unfold joinR
    by_cases g1 : cargoR a = 0
    · rw [if_neg (by simp [g1])] at h1 ⊢
      rw [if_neg (by simp [g1]), if_pos h1]
    · rw [if_pos g1, if_pos g1]
  have h1 : (!decide ((([cargoR a, cargoR b].find? (fun n => decide (n ≠ 0))).getD 0) = 0)) = false := h1
  have h1 : (([cargoR a, cargoR b].find? (fun n => decide (n ≠ 0))).getD 0) = 0 := by simpa using h1
  rw [hor] at h1
  have g1 : cargoR a = 0 := by
    by_cases g1 : cargoR a = 0
    · exact g1
    · rw [if_pos g1] at h1; exact h1
  have g2 : cargoR b = 0 := by
    rw [if_neg (by simp [g1])] at h1; exact h1
  have v1 := (cargo_zero a).1 g1
  have v2 := (cargo_zero b).1 g2
  have p1 : ∀ l ∈ [a, b], l.length ≤ 100000 := by
    intro l hl
    rcases List.mem_cons.1 hl with rfl | hl
    · exact ha
    · cases List.mem_singleton.1 hl; exact hb
  have ef : [a, b].flatten = a ++ b := by simp
  have p2 : [a, b].flatten.length ≤ 1000 := by rw [ef, List.length_append]; omega
  have p3 : ∀ p ∈ [a, b].flatten, okP p := by
    rw [ef]
    intro p hp
    rcases List.mem_append.1 hp with hp | hp
    · exact v1.2.2 p hp
    · exact v2.2.2 p hp
  conv => whnf
  refine ⟨show 2 ≤ 100 by omega, ?_⟩
  conv => whnf
  refine ⟨p1, ?_⟩
  conv => whnf
  refine ⟨p2, ?_⟩
  conv => whnf
  refine ⟨p3, ?_⟩
  conv => whnf
  show gatherR [a, b].flatten = joinR a b
  rw [joinR, if_neg (by simp [g1]), if_neg (by simp [g2]), ef]
end
end Go.Proofs.Yteidanhfkaljaaa.Eng.Cg
set_option linter.unusedVariables false
set_option linter.unusedSimpArgs false
namespace Go.Proofs.Yteidanhfkaljaaa.Eng.Cg
open Go Go.Proofs.Yteidanhfkaljaaa.Eng
set_option maxRecDepth 100000
noncomputable section
open Go.RowKit
theorem join_of {a b : List Pa} (h : cargoR a = 0) (g : cargoR b = 0) : joinR a b = gatherR (a ++ b) := by rw [joinR, if_neg (by simp [h]), if_neg (by simp [g])]
theorem gather_zero {l : List Pa} (h : (gatherR l).2 = 0) : cargoR (N l) = 0 ∧ gatherR l = (N l, 0) := by
  unfold gatherR at h ⊢
  by_cases h1 : cargoR (N l) = 0
  · rw [if_pos h1]; exact ⟨h1, rfl⟩
  · rw [if_neg h1] at h; cases h
theorem join_zero {a b : List Pa} (h : (joinR a b).2 = 0) : cargoR a = 0 ∧ cargoR b = 0 ∧ cargoR (N (a ++ b)) = 0 ∧ joinR a b = (N (a ++ b), 0) := by
  by_cases h1 : cargoR a = 0
  · by_cases h2 : cargoR b = 0
    · rw [join_of h1 h2] at h ⊢
      obtain ⟨h3, h4⟩ := gather_zero h
      exact ⟨h1, h2, h3, h4⟩
    · rw [joinR, if_neg (by simp [h1]), if_pos h2] at h; exact absurd h h2
  · rw [joinR, if_pos h1] at h; exact absurd h h1
theorem join_len (a b : List Pa) : (joinR a b).1.length ≤ 200 := by
  unfold joinR
  split
  · simp
  split
  · simp
  unfold gatherR
  split
  · rename_i h; exact ((cargo_zero _).1 h).1
  · simp
theorem gather_perm {a b : List Pa} (h : a.Perm b) : gatherR a = gatherR b := by unfold gatherR; rw [N_perm h]
theorem join_sym {a b : List Pa} (h : (joinR a b).2 = 0) : joinR b a = joinR a b := by
  obtain ⟨h1, h2, _, _⟩ := join_zero h
  rw [join_of h1 h2, join_of h2 h1, gather_perm List.perm_append_comm]
theorem join_sym0 (a b : List Pa) : decide ((joinR a b).2 = 0) = decide ((joinR b a).2 = 0) := by
  rw [decide_eq_decide]
  constructor
  · intro h; rw [join_sym h]; exact h
  · intro h; rw [join_sym h]; exact h
/-- All but too much of a kind. -/
def Low (p : Pa) : Prop := 1 ≤ p.2.2.2.2.1 ∧ (0 ≤ p.2.2.2.1 ∧ p.2.2.2.1 ≤ 255) ∧ 0 ≤ p.2.2.2.2.2 ∧ (0 ≤ p.1 ∧ p.1 ≤ 1000000) ∧ (0 ≤ p.2.1 ∧ p.2.1 ≤ 1000000) ∧ (0 ≤ p.2.2.1 ∧ p.2.2.1 ≤ 1000000)
theorem low_ok {p : Pa} (h : okP p) : Low p := by rw [okP_iff] at h; unfold Low; omega
theorem ok_low {p : Pa} (h : Low p) (g : ¬ Big p) : okP p := by rw [okP_iff]; unfold Low at h; unfold Big at g; omega
theorem put_low : ∀ {m : List Pa} {p : Pa} {a b : Int}, a + b ≤ 1000000 → (∀ x ∈ m, Bnd a x ∧ Low x) → Bnd b p → Low p → ∀ x ∈ putW m p, Low x
  | [], p, a, b, hl, hm, hp, hq, x, hx => by cases List.mem_singleton.1 hx; exact hq
  | y :: m, p, a, b, hl, hm, hp, hq, x, hx => by
    have hy := hm y List.mem_cons_self
    have hm' : ∀ x ∈ m, Bnd a x ∧ Low x := fun x hx => hm x (List.mem_cons_of_mem _ hx)
    unfold putW at hx
    split at hx
    · rcases List.mem_cons.1 hx with rfl | hx
      · exact hy.2
      · exact put_low hl hm' hp hq x hx
    split at hx
    · rcases List.mem_cons.1 hx with rfl | hx
      · exact hq
      rcases List.mem_cons.1 hx with rfl | hx
      · exact hy.2
      · exact (hm' x hx).2
    · rcases List.mem_cons.1 hx with rfl | hx
      · obtain ⟨_, e1, e2⟩ := bnd_add hy.1 hp hl
        have h1 := hy.2
        unfold Low at h1 hq ⊢
        rw [e1, e2]
        refine ⟨by omega, h1.2.1, by omega, h1.2.2.2⟩
      · exact (hm' x hx).2
theorem put_srt : ∀ {m : List Pa} {p : Pa}, Srt m → Srt (putW m p) ∧ ∀ y, ltP y p = true → (∀ x ∈ m, ltP y x = true) → ∀ x ∈ putW m p, ltP y x = true
  | [], p, h => ⟨List.pairwise_singleton _ _, fun y hy _ x hx => by cases List.mem_singleton.1 hx; exact hy⟩
  | z :: m, p, h => by
    have hz := (List.pairwise_cons.1 h).1
    have ih := put_srt (p := p) (List.pairwise_cons.1 h).2
    rcases tri z p with ⟨h1, g1⟩ | ⟨h1, g1⟩ | ⟨h1, g1, e1⟩
    · simp only [putW, h1, if_true]
      refine ⟨List.pairwise_cons.2 ⟨ih.2 z h1 hz, ih.1⟩, fun y hy hm x hx => ?_⟩
      rcases List.mem_cons.1 hx with rfl | hx
      · exact hm _ List.mem_cons_self
      · exact ih.2 y hy (fun x hx => hm x (List.mem_cons_of_mem _ hx)) x hx
    · simp only [putW, h1, g1, if_true, Bool.false_eq_true, if_false]
      refine ⟨List.pairwise_cons.2 ⟨fun x hx => ?_, h⟩, fun y hy hm x hx => ?_⟩
      · rcases List.mem_cons.1 hx with rfl | hx
        · exact g1
        · exact lt_trans' g1 (hz x hx)
      · rcases List.mem_cons.1 hx with rfl | hx
        · exact hy
        · exact hm x hx
    · simp only [putW, h1, g1, Bool.false_eq_true, if_false]
      refine ⟨List.pairwise_cons.2 ⟨fun x hx => hz x hx, (List.pairwise_cons.1 h).2⟩, fun y hy hm x hx => ?_⟩
      rcases List.mem_cons.1 hx with rfl | hx
      · exact hm z List.mem_cons_self
      · exact hm x (List.mem_cons_of_mem _ hx)
theorem put_ge : ∀ (m : List Pa) (p : Pa), m.length ≤ (putW m p).length
  | [], p => by simp
  | x :: m, p => by
    unfold putW
    split
    · have := put_ge m p; simp; omega
    split <;> simp
theorem fold_ge : ∀ (l m : List Pa), m.length ≤ (fold m l).length
  | [], m => Nat.le_refl _
  | p :: l, m => Nat.le_trans (put_ge m p) (fold_ge l (putW m p))
theorem fold_srt2 : ∀ (l : List Pa) {m : List Pa}, Srt m → Srt (fold m l)
  | [], m, h => h
  | p :: l, m, h => fold_srt2 l (put_srt h).1
theorem N_is_srt (l : List Pa) : Srt (N l) := fold_srt2 l List.Pairwise.nil
theorem fold_low : ∀ {l m : List Pa} {a : Int}, 0 ≤ a → a + l.length ≤ 1000000 → (∀ x ∈ m, Bnd a x ∧ Low x) → (∀ x ∈ l, okP x) → ∀ x ∈ fold m l, Low x
  | [], m, a, ha, hl, hm, ho, x, hx => (hm x hx).2
  | p :: l, m, a, ha, hl, hm, ho, x, hx => by
    simp only [List.length_cons] at hl
    have h0 := ho p List.mem_cons_self
    have h1 := put_bnd ha (b := 1) (by omega) (by omega) (fun x hx => (hm x hx).1) (bnd_ok h0)
    have h2 := put_low (by omega) hm (bnd_ok h0) (low_ok h0)
    exact fold_low (a := a + 1) (l := l) (by omega) (by omega) (fun x hx => ⟨h1 x hx, h2 x hx⟩) (fun y hy => ho y (List.mem_cons_of_mem _ hy)) x hx
/-- A part of a load that is right is right. -/
theorem N_sub {k l : List Pa} (hk : k.length ≤ 1000) (hl : l.length ≤ 1000) (ok : ∀ x ∈ k, okP x) (ol : ∀ x ∈ l, okP x) (h : cargoR (N (k ++ l)) = 0) : cargoR (N k) = 0 := by
  have hb : ∀ x ∈ N k, Bnd 1000 x := fun x hx => by
    have := fold_bnd (l := k) (m := []) (a := 0) (by omega) (by omega) (by simp) ok x hx
    exact bnd_mono this (by omega)
  have hw : ∀ x ∈ N k, Low x := fold_low (l := k) (m := []) (a := 0) (by omega) (by omega) (by simp) ok
  rw [N_append] at h
  have h0 := (cargo_zero _).1 h
  rw [cargo_zero]
  refine ⟨Nat.le_trans (fold_ge l (N k)) h0.1, N_is_srt k, fun p hp => ok_low (hw p hp) fun hbig => ?_⟩
  have := big_fold (l := l) (m := N k) (a := 1000) (by omega) (by omega) hb ol ⟨p, hp, hbig⟩
  exact big_bad this h
theorem join_three {a b c : List Pa} (hab : (joinR a b).2 = 0) (hx : (joinR (joinR a b).1 c).2 = 0) : (joinR b c).2 = 0 ∧ (joinR a (joinR b c).1).2 = 0 ∧ joinR (joinR a b).1 c = joinR a (joinR b c).1
    ∧ cntP (joinR (joinR a b).1 c).1 = cntP a + cntP b + cntP c := by
  obtain ⟨a1, a2, a3, a4⟩ := join_zero hab
  rw [a4] at hx ⊢
  have hx : (joinR (N (a ++ b)) c).2 = 0 := hx
  obtain ⟨x1, x2, x3, x4⟩ := join_zero hx
  have va := (cargo_zero a).1 a1
  have vb := (cargo_zero b).1 a2
  have vc := (cargo_zero c).1 x2
  rw [N_app_l] at x3 x4
  have h1 : cargoR (N ((b ++ c) ++ a)) = 0 := by
    rw [N_perm (show ((b ++ c) ++ a).Perm (a ++ b ++ c) from by rw [List.append_assoc a]; exact List.perm_append_comm)]
    exact x3
  have hbc : cargoR (N (b ++ c)) = 0 := N_sub (by rw [List.length_append]; omega) (by omega) (fun x hx => by
    rcases List.mem_append.1 hx with hx | hx
    · exact vb.2.2 x hx
    · exact vc.2.2 x hx) va.2.2 h1
  have j1 : joinR b c = (N (b ++ c), 0) := by rw [join_of a2 x2, gatherR, if_pos hbc]
  have j2 : joinR a (N (b ++ c)) = (N (a ++ b ++ c), 0) := by rw [join_of a1 hbc, gatherR, N_app_r, ← List.append_assoc, if_pos x3]
  rw [j1]
  show (0 : Int) = 0 ∧ (joinR a (N (b ++ c))).2 = 0 ∧ joinR (N (a ++ b)) c = joinR a (N (b ++ c)) ∧ cntP (joinR (N (a ++ b)) c).1 = _
  rw [j2, x4]
  refine ⟨rfl, rfl, rfl, ?_⟩
  show cntP (N (a ++ b ++ c)) = _
  rw [(sum_N (by simp only [List.length_append]; omega) (fun x hx => by
    rcases List.mem_append.1 hx with hx | hx
    · rcases List.mem_append.1 hx with hx | hx
      · exact va.2.2 x hx
      · exact vb.2.2 x hx
    · exact vc.2.2 x hx)).1]
  simp [cntP, Int.add_assoc]
theorem join_sum {a b : List Pa} (h : (joinR a b).2 = 0) : cntP (joinR a b).1 = cntP a + cntP b ∧ shrP (joinR a b).1 = shrP a + shrP b := by
  obtain ⟨a1, a2, a3, a4⟩ := join_zero h
  have va := (cargo_zero a).1 a1
  have vb := (cargo_zero b).1 a2
  rw [a4]
  have := sum_N (l := a ++ b) (by simp only [List.length_append]; omega) (fun x hx => by
    rcases List.mem_append.1 hx with hx | hx
    · exact va.2.2 x hx
    · exact vb.2.2 x hx)
  show cntP (N (a ++ b)) = _ ∧ shrP (N (a ++ b)) = _
  rw [this.1, this.2]
  simp [cntP, shrP]
theorem join_ok {a b : List Pa} (h : (joinR a b).2 = 0) : (∀ p ∈ a, okP p) ∧ (∀ p ∈ b, okP p) ∧ (∀ p ∈ (joinR a b).1, okP p) ∧ a.length ≤ 200 ∧ b.length ≤ 200 := by
  obtain ⟨a1, a2, a3, a4⟩ := join_zero h
  have va := (cargo_zero a).1 a1
  have vb := (cargo_zero b).1 a2
  rw [a4]
  exact ⟨va.2.2, vb.2.2, ((cargo_zero _).1 a3).2.2, va.1, vb.1⟩
end
end Go.Proofs.Yteidanhfkaljaaa.Eng.Cg
