/- The law StopSplitsFair: it answers true for every input, and its arguments read afterwards as they did. The row, out of the contract of the law's function (written by row.py, a program of these sessions). -/
import Derived.Test.YteidanhfkaljaaaFnOne
import Derived.Test.YteidanhfkaljaaaRows
import Derived.WalkKit
import Derived.ProofKit
import Derived.OpenShut
import Derived.ShutString
import Derived.ChangeOld
import Derived.Below
import Derived.SizedLaws
set_option linter.unusedVariables false
set_option linter.unusedSimpArgs false
set_option linter.unusedVariables false
namespace Go.Proofs.Yteidanhfkaljaaa.Eng
open Go
set_option maxRecDepth 100000
noncomputable section
def E12 : Env := ⟨tab, [(13, K13), (24, K24)], ann0⟩
def K12 : Fn1 := ⟨.bool, .one .bool, fun _ => [], fun _ => true⟩
theorem split_ex : splitOf 10 [255, 85] = ([8, 2], 0) := by decide +kernel
theorem join_ex : (joinR ((1 : Int), ([] : List Pl), ([] : List Pa), ([] : List Ra)) 8 8 (1, 9)).1.2.1 = [(1, 9)] := by kernel_rfl
theorem k12 : FnOk Go.Proofs.Try.prog 12 K12 := by
  refine fn_ok (E := E12) (TOk.of tab_told) (AllOk.cons k13 (.cons k24 .nil)).at_ mix Go.Proofs.Try.func12 rfl rfl (by kernel_rfl) K12 ?_
  rintro (a : Bool) hp
  clear hp
  conv => whnf
  refine ⟨show [(255 : Int), 85].length ≤ 140737488351232 by decide, ?_⟩
  conv => whnf
  refine ⟨Nat.zero_le 100000, ?_⟩
  conv => whnf
  refine ⟨Nat.zero_le 100000, ?_⟩
  conv => whnf
  refine ⟨Nat.zero_le 100000, ?_⟩
  conv => whnf
  refine ⟨show (0 : Int) ≤ 0 by decide, ?_⟩
  conv => whnf
  refine ⟨show (0 : Int) < ((splitOf 10 [255, 85]).1.length : Int) by rw [split_ex]; decide, ?_⟩
  conv => whnf
  refine ⟨show (0 : Int) ≤ 1 by decide, ?_⟩
  conv => whnf
  refine ⟨show (1 : Int) < ((splitOf 10 [255, 85]).1.length : Int) by rw [split_ex]; decide, ?_⟩
  conv => whnf
  refine ⟨show (0 : Int) ≤ 0 by decide, ?_⟩
  conv => whnf
  refine ⟨show (0 : Int) < ((joinR ((1 : Int), ([] : List Pl), ([] : List Pa), ([] : List Ra)) 8 8 (1, 9)).1.2.1.length : Int) by rw [join_ex]; decide, ?_⟩
  conv => whnf
  kernel_rfl
end
end Go.Proofs.Yteidanhfkaljaaa.Eng
set_option linter.unusedVariables false
namespace Go.Proofs.Yteidanhfkaljaaa.Eng
open Go
set_option maxRecDepth 100000
noncomputable section
def E3 : Env := ⟨tab, [(12, K12), (13, K13), (14, K14), (15, K15)], ann0⟩
def K3 : Fn1 := ⟨.fld I (.one (.sl I)), .one .bool, fun (a : Int × List Int) => [a.2.length ≤ 140737488351232], fun _ => true⟩
theorem k3 : FnOk Go.Proofs.Try.prog 3 K3 := by
  refine fn_ok (E := E3) (TOk.of tab_told) (AllOk.cons k12 (.cons k13 (.cons k14 (.cons k15 .nil)))).at_ mix Go.Proofs.Try.func3 rfl rfl (by kernel_rfl) K3 ?_
  rintro ⟨(n : Int), (l : List Int)⟩ hp
  have hl : l.length ≤ 140737488351232 := hp _ (List.mem_cons_self ..)
  clear hp
  conv => whnf
  refine cond_intro (fun hg => ?_) (fun hg => ?_)
  · conv => whnf
    rfl
  have hg : ¬ 2000 < (l.length : Int) := @of_decide_eq_false _ _ hg
  have hs := splitOf_len n l
  have h1 : l.length ≤ 100000 := by omega
  have h2 : (splitOf n l).1.length ≤ 100000 := by omega
  conv => whnf
  refine ⟨hl, ?_⟩
  conv => whnf
  refine ⟨hl, ?_⟩
  conv => whnf
  refine cond_intro (fun he => ?_) (fun he => ?_)
  · conv => whnf
    refine ⟨h2, ?_⟩
    conv => whnf
    refine cond_intro (fun hq => ?_) (fun hq => ?_)
    · conv => whnf
      rfl
    · have hq : eqI (splitOf n l).1 (splitOf n l).1 = false := hq
      simp [eqI] at hq
  · have he : ¬ (splitOf n l).2 = (splitOf n l).2 := @of_decide_eq_false _ _ he
    exact absurd rfl he
end
end Go.Proofs.Yteidanhfkaljaaa.Eng
set_option linter.unusedVariables false
namespace Go.Proofs.Yteidanhfkaljaaa.Eng
open Go
set_option maxRecDepth 100000
noncomputable section
def E5 : Env := ⟨tab, [(16, K16), (12, K12), (17, K17), (18, K18)], ann0⟩
def K5 : Fn1 := ⟨covIn, .one .bool, fun _ => [], fun _ => true⟩
theorem not_large {s : St} (h : largeR s = false) : s.2.1.length ≤ 2000 ∧ s.2.2.1.length ≤ 2000 ∧ s.2.2.2.length ≤ 2000 := by
  simp only [largeR, Bool.or_eq_false_iff, decide_eq_false_iff_not] at h
  omega
theorem k5 : FnOk Go.Proofs.Try.prog 5 K5 := by
  refine fn_ok (E := E5) (TOk.of tab_told) (AllOk.cons k16 (.cons k12 (.cons k17 (.cons k18 .nil)))).at_ mix Go.Proofs.Try.func5 rfl rfl (by kernel_rfl) K5 ?_
  rintro ⟨⟨(ow : Int), (ps : List Pl), (ws : List Pa), (rs : List Ra)⟩, (w : Int), (h : Int), (t : Int)⟩ hp
  clear hp
  conv => whnf
  refine cond_intro (fun hg => ?_) (fun hg => ?_)
  · conv => whnf
    rfl
  have hg : largeR (ow, ps, ws, rs) = false := hg
  have hl := not_large hg
  have g1 : ps.length ≤ 100000 := by have := hl.1; simp only at this; omega
  have g2 : ws.length ≤ 100000 := by have := hl.2.1; simp only at this; omega
  have g3 : rs.length ≤ 100000 := by have := hl.2.2; simp only at this; omega
  have hc := covers_same (ow, ps, ws, rs) w h t
  conv => whnf
  refine ⟨g1, ?_⟩
  conv => whnf
  refine ⟨g2, ?_⟩
  conv => whnf
  refine ⟨g3, ?_⟩
  conv => whnf
  refine ⟨g1, ?_⟩
  conv => whnf
  refine ⟨g2, ?_⟩
  conv => whnf
  refine ⟨g3, ?_⟩
  conv => whnf
  refine cond_intro (fun hq => ?_) (fun hq => ?_)
  · conv => whnf
    refine cond_intro (fun he => ?_) (fun he => ?_)
    · conv => whnf
      rfl
    · have he : ¬ (coversR (ow, ps, ws, rs) w h t).2 = (coversRefR (ow, ps, ws, rs) w h t).2 := @of_decide_eq_false _ _ he
      rw [hc] at he
      exact absurd rfl he
  · have hq : ((coversR (ow, ps, ws, rs) w h t).1 == (coversRefR (ow, ps, ws, rs) w h t).1) = false := hq
    rw [hc] at hq
    simp at hq
end
end Go.Proofs.Yteidanhfkaljaaa.Eng
set_option linter.unusedVariables false
namespace Go.Proofs.Yteidanhfkaljaaa.Eng
open Go
set_option maxRecDepth 100000
noncomputable section
def E42 : Env := ⟨tab, [], fun n => match n with | 2 => some ([0, 1, 2, 9, 10, 11], [], []) | _ => none⟩
def stepsR (n : Int) : List Int → List Int → Int
  | [], w :: _ => w
  | b :: bs, w :: ws => if n ≤ b then w else stepsR n bs ws
  | _, [] => 0
def K42 : Fn1 := ⟨.fld I (.fld (.sl I) (.one (.sl I))), .one I, fun (a : Int × List Int × List Int) => [a.2.1.length < a.2.2.length, a.2.2.length ≤ 100000], fun (a : Int × List Int × List Int) => stepsR a.1 a.2.1 a.2.2⟩
def S42 (n : Int) (b w : List Int) (i : Int) : SL := ⟨[.int .i64 n, .sl I b, .sl I w] ++ List.replicate 6 .undef ++ [.sl I b, .int .i64 b.length, .int .i64 i] ++ List.replicate 17 .undef, [], 0⟩
theorem steps_at {n : Int} {b w : List Int} {i : Nat} (hi : i < b.length) (hw : b.length < w.length) : stepsR n (b.drop i) (w.drop i) = if n ≤ gI b i then gI w i else stepsR n (b.drop (i + 1)) (w.drop (i + 1)) := by
  rw [List.drop_eq_getElem_cons hi, List.drop_eq_getElem_cons (show i < w.length by omega), stepsR, gI_eq hi, gI_eq (show i < w.length by omega)]
theorem k42 : FnOk Go.Proofs.Try.prog 42 K42 := by
  refine fn_ok (E := E42) (TOk.of tab_told) noK mix Go.Proofs.Try.func42 rfl rfl (by kernel_rfl) K42 ?_
  rintro ⟨(n : Int), (b : List Int), (w : List Int)⟩ hp
  have hl : b.length < w.length := hp _ (List.mem_cons_self ..)
  have hm : w.length ≤ 100000 := hp _ (List.mem_cons_of_mem _ (List.mem_cons_self ..))
  clear hp
  conv => whnf
  refine loop_rule (fun i => S42 n b w i) (fun i => ((b.length : Int) - i).toNat) (fun i => 0 ≤ i ∧ i ≤ b.length ∧ stepsR n (b.drop i.toNat) (w.drop i.toNat) = stepsR n b w) ?_ 0 (by kernel_rfl) ?_ ⟨by omega, by omega, rfl⟩
  case refine_2 => rfl
  rintro i ⟨h0, h1, h2⟩
  conv => whnf
  refine cond_intro (fun hlt => ?_) (fun hge => ?_)
  · have hlt : i < b.length := @of_decide_eq_true _ _ hlt
    have hw : IntKind.i64.wrap (i + 1) = i + 1 := wrap_eq (by omega) (by omega)
    have en : (i + 1).toNat = i.toNat + 1 := by omega
    rw [steps_at (by omega) hl] at h2
    conv => whnf
    refine ⟨h0, ?_⟩
    conv => whnf
    refine ⟨hlt, ?_⟩
    conv => whnf
    refine cond_intro (fun hq => ?_) (fun hq => ?_)
    · have hq : n ≤ gI b i.toNat := @of_decide_eq_true _ _ hq
      conv => whnf
      refine ⟨h0, ?_⟩
      conv => whnf
      refine ⟨show i < (w.length : Int) by omega, ?_⟩
      conv => whnf
      show gI w i.toNat = stepsR n b w
      rw [← h2, if_pos hq]
    · have hq : ¬ n ≤ gI b i.toNat := @of_decide_eq_false _ _ hq
      conv => whnf
      rw [if_neg hq] at h2
      refine ⟨i + 1, ?_, ⟨by omega, by omega, by rw [en]; exact h2⟩, by omega⟩
      exact Eq.trans (b := S42 n b w (IntKind.i64.wrap (i + 1))) rfl (by rw [hw])
  have hge : ¬ i < b.length := @of_decide_eq_false _ _ hge
  have ei : i.toNat = b.length := by omega
  conv => whnf
  refine ⟨show (0 : Int) ≤ (b.length : Int) by omega, ?_⟩
  conv => whnf
  refine ⟨show (b.length : Int) < (w.length : Int) by omega, ?_⟩
  conv => whnf
  show gI w (Int.toNat (b.length : Int)) = stepsR n b w
  rw [← h2, ei, List.drop_length, List.drop_eq_getElem_cons hl, stepsR, Int.toNat_natCast, gI_eq hl]
end
end Go.Proofs.Yteidanhfkaljaaa.Eng
set_option linter.unusedVariables false
namespace Go.Proofs.Yteidanhfkaljaaa.Eng
open Go
set_option maxRecDepth 100000
noncomputable section
def E19 : Env := ⟨tab, [(41, K41), (42, K42)], ann0⟩
def sV (v : Int) : Int := min2 (max2 (v - 85) 0 / 4) 43
def sA (d : Int) : Int := if d ≤ 3 then 33 else if d ≤ 6 then 25 else if d ≤ 12 then 12 else 0
def sB (d : Int) : Int := if d ≤ 0 then 130 else if d ≤ 6 then 95 else if d ≤ 12 then 50 else if d ≤ 21 then 25 else 0
def sC (w : Int) : Int := if w ≤ 64 then 40 else if w ≤ 128 then 30 else if w ≤ 256 then 10 else if w ≤ 512 then 0 else if w ≤ 1024 then -35 else -90
def sD (y : Int) : Int := if y ≤ 0 then 33 else if y ≤ 1 then 20 else if y ≤ 2 then 10 else 0
theorem sA_eq (d : Int) : stepsR d [3, 6, 12] [33, 25, 12, 0] = sA d := rfl
theorem sB_eq (d : Int) : stepsR d [0, 6, 12, 21] [130, 95, 50, 25, 0] = sB d := rfl
theorem sC_eq (d : Int) : stepsR d [64, 128, 256, 512, 1024] [40, 30, 10, 0, -35, -90] = sC d := rfl
theorem sD_eq (d : Int) : stepsR d [0, 1, 2] [33, 20, 10, 0] = sD d := rfl
theorem sA_bd (d : Int) : 0 ≤ sA d ∧ sA d ≤ 200 := by unfold sA; repeat' split
                                                      all_goals omega
theorem sB_bd (d : Int) : 0 ≤ sB d ∧ sB d ≤ 200 := by unfold sB; repeat' split
                                                      all_goals omega
theorem sC_bd (d : Int) : -90 ≤ sC d ∧ sC d ≤ 200 := by unfold sC; repeat' split
                                                        all_goals omega
theorem sD_bd (d : Int) : 0 ≤ sD d ∧ sD d ≤ 200 := by unfold sD; repeat' split
                                                      all_goals omega
theorem sV_bd (d : Int) : 0 ≤ sV d ∧ sV d ≤ 43 := by
  unfold sV min2 max2
  repeat' split
  all_goals omega
def scoreN (r : Ra) (w : Int) : Int := sV r.2.2.2.1 + sA r.2.2.1 + sB r.2.2.1 + sC w + sD r.2.2.2.2
def scoreR (r : Ra) (w : Int) : Int × Int := if w < 0 ∨ ratedR r = false then (0, 1) else (min2 (max2 (scoreN r w) 0) 255, 0)
theorem rated_iff (r : Ra) : ratedR r = true ↔ (0 ≤ r.1 ∧ r.1 ≤ 15) ∧ (0 ≤ r.2.1 ∧ r.2.1 ≤ 255) ∧ (0 ≤ r.2.2.1 ∧ r.2.2.1 ≤ 255) ∧ (0 ≤ r.2.2.2.1 ∧ r.2.2.2.1 ≤ 255) ∧ (0 ≤ r.2.2.2.2 ∧ r.2.2.2.2 ≤ 255) := by
  simp [ratedR, withinR, and_assoc]
def K19 : Fn1 := ⟨.fld raT (.one I), .fld I (.one I), fun _ => [], fun (a : Ra × Int) => scoreR a.1 a.2⟩
theorem k19 : FnOk Go.Proofs.Try.prog 19 K19 := by
  refine fn_ok (E := E19) (TOk.of tab_told) (AllOk.cons k41 (.cons k42 .nil)).at_ mix Go.Proofs.Try.func19 rfl rfl (by kernel_rfl) K19 ?_
  rintro ⟨⟨(rc : Int), (rs : Int), (rd : Int), (rv : Int), (ry : Int)⟩, (wt : Int)⟩ hp
  clear hp
  conv => whnf
  refine cond_intro (fun h1 => ?_) (fun h1 => ?_)
  · have h1 : wt < 0 := @of_decide_eq_true _ _ h1
    conv => whnf
    show (0, 1) = scoreR (rc, rs, rd, rv, ry) wt
    rw [scoreR, if_pos (Or.inl h1)]
  have h1 : ¬ wt < 0 := @of_decide_eq_false _ _ h1
  conv => whnf
  refine cond_intro (fun h2 => ?_) (fun h2 => ?_)
  · have h2 : (!ratedR (rc, rs, rd, rv, ry)) = true := h2
    conv => whnf
    show (0, 1) = scoreR (rc, rs, rd, rv, ry) wt
    rw [scoreR, if_pos (Or.inr (by simpa using h2))]
  have h2 : (!ratedR (rc, rs, rd, rv, ry)) = false := h2
  have h2 : ratedR (rc, rs, rd, rv, ry) = true := by simpa using h2
  conv => whnf
  refine ⟨show (4 : Int) ≠ 0 by decide, ?_⟩
  conv => whnf
  refine ⟨show (3 : Nat) < 4 by decide, ?_⟩
  conv => whnf
  refine ⟨show (4 : Nat) ≤ 100000 by decide, ?_⟩
  conv => whnf
  refine ⟨show (4 : Nat) < 5 by decide, ?_⟩
  conv => whnf
  refine ⟨show (5 : Nat) ≤ 100000 by decide, ?_⟩
  conv => whnf
  refine ⟨show (5 : Nat) < 6 by decide, ?_⟩
  conv => whnf
  refine ⟨show (6 : Nat) ≤ 100000 by decide, ?_⟩
  conv => whnf
  refine ⟨show (3 : Nat) < 4 by decide, ?_⟩
  conv => whnf
  refine ⟨show (4 : Nat) ≤ 100000 by decide, ?_⟩
  conv => whnf

  obtain ⟨_, _, _, q, _⟩ := (rated_iff _).1 h2
  simp only at q
  have a0 := sV_bd rv
  have a1 := sA_bd rd
  have a2 := sB_bd rd
  have a3 := sC_bd wt
  have a4 := sD_bd ry
  have e0 : min2 (IntKind.i64.wrap ((max2 (IntKind.i64.wrap (rv - 85)) 0).tdiv 4)) 43 = sV rv := by
    rw [wrap_eq (i := rv - 85) (by omega) (by omega)]
    have h0 : 0 ≤ max2 (rv - 85) 0 ∧ max2 (rv - 85) 0 ≤ 255 := by unfold max2; split <;> omega
    rw [Int.tdiv_eq_ediv_of_nonneg h0.1, wrap_eq (by omega) (by omega)]
    rfl
  show (min2 (max2 (IntKind.i64.wrap (IntKind.i64.wrap (IntKind.i64.wrap (IntKind.i64.wrap (min2 (IntKind.i64.wrap ((max2 (IntKind.i64.wrap (rv - 85)) 0).tdiv 4)) 43 + sA rd) + sB rd) + sC wt) + sD ry)) 0) 255, 0) = scoreR (rc, rs, rd, rv, ry) wt
  rw [scoreR, if_neg (by simp [h1, h2]), e0, wrap_eq (i := sV rv + sA rd) (by omega) (by omega), wrap_eq (i := sV rv + sA rd + sB rd) (by omega) (by omega), wrap_eq (i := sV rv + sA rd + sB rd + sC wt) (by omega) (by omega), wrap_eq (i := sV rv + sA rd + sB rd + sC wt + sD ry) (by omega) (by omega)]
  rfl
theorem score_bd (r : Ra) (w : Int) : 0 ≤ (scoreR r w).1 ∧ (scoreR r w).1 ≤ 255 := by
  unfold scoreR min2 max2
  repeat' split
  all_goals (simp only; omega)
theorem score_falls {r o : Ra} {w m : Int} (h1 : (scoreR r w).2 = 0) (h2 : (scoreR o m).2 = 0) (hd : r.2.2.1 ≤ o.2.2.1) (hy : r.2.2.2.2 ≤ o.2.2.2.2) (hw : w ≤ m) (hv : o.2.2.2.1 ≤ r.2.2.2.1) : (scoreR o m).1 ≤ (scoreR r w).1 := by
  by_cases c1 : w < 0 ∨ ratedR r = false
  · rw [scoreR, if_pos c1] at h1; simp at h1
  by_cases c2 : m < 0 ∨ ratedR o = false
  · rw [scoreR, if_pos c2] at h2; simp at h2
  rw [scoreR, scoreR, if_neg c1, if_neg c2]
  have aA : sA o.2.2.1 ≤ sA r.2.2.1 := by unfold sA; repeat' split
                                          all_goals omega
  have aB : sB o.2.2.1 ≤ sB r.2.2.1 := by unfold sB; repeat' split
                                          all_goals omega
  have aC : sC m ≤ sC w := by unfold sC; repeat' split
                              all_goals omega
  have aD : sD o.2.2.2.2 ≤ sD r.2.2.2.2 := by unfold sD; repeat' split
                                              all_goals omega
  have aV : sV o.2.2.2.1 ≤ sV r.2.2.2.1 := by
    unfold sV min2 max2
    repeat' split
    all_goals omega
  have aN : scoreN o m ≤ scoreN r w := by unfold scoreN; omega
  unfold min2 max2
  repeat' split
  all_goals (simp only; omega)
end
end Go.Proofs.Yteidanhfkaljaaa.Eng
set_option linter.unusedVariables false
namespace Go.Proofs.Yteidanhfkaljaaa.Eng
open Go
set_option maxRecDepth 100000
noncomputable section
def E6 : Env := ⟨tab, [(12, K12), (19, K19)], ann0⟩
def K6 : Fn1 := ⟨.fld raT (.fld raT (.fld I (.one I))), .one .bool, fun _ => [], fun _ => true⟩
theorem k6 : FnOk Go.Proofs.Try.prog 6 K6 := by
  refine fn_ok (E := E6) (TOk.of tab_told) (AllOk.cons k12 (.cons k19 .nil)).at_ mix Go.Proofs.Try.func6 rfl rfl (by kernel_rfl) K6 ?_
  rintro ⟨⟨(rc : Int), (rs : Int), (rd : Int), (rv : Int), (ry : Int)⟩, ⟨(oc : Int), (os : Int), (od : Int), (ov : Int), (oy : Int)⟩, (wt : Int), (mo : Int)⟩ hp
  clear hp
  have b1 := score_bd (rc, rs, rd, rv, ry) wt
  have b2 := score_bd (oc, os, od, ov, oy) mo
  have hf := fun h1 h2 h3 h4 h5 h6 => score_falls (r := (rc, rs, rd, rv, ry)) (o := (oc, os, od, ov, oy)) (w := wt) (m := mo) h1 h2 h3 h4 h5 h6
  conv => whnf
  refine cond_intro (fun h0 => ?_) (fun h0 => ?_)
  · conv => whnf
    rfl
  have h0 : (!decide ((scoreR (rc, rs, rd, rv, ry) wt).2 = 0)) = false := h0
  have h0 : (scoreR (rc, rs, rd, rv, ry) wt).2 = 0 := by simpa using h0
  conv => whnf
  refine cond_intro (fun h1 => ?_) (fun h1 => ?_)
  · conv => whnf
    rfl
  have h1 : (!decide ((scoreR (oc, os, od, ov, oy) mo).2 = 0)) = false := h1
  have h1 : (scoreR (oc, os, od, ov, oy) mo).2 = 0 := by simpa using h1
  conv => whnf
  refine cond_intro (fun h2 => ?_) (fun h2 => ?_)
  · conv => whnf
    rfl
  have h2 : decide (od < rd) = false := h2
  have h2 : ¬ od < rd := by simpa using h2
  conv => whnf
  refine cond_intro (fun h3 => ?_) (fun h3 => ?_)
  · conv => whnf
    rfl
  have h3 : decide (oy < ry) = false := h3
  have h3 : ¬ oy < ry := by simpa using h3
  conv => whnf
  refine cond_intro (fun h4 => ?_) (fun h4 => ?_)
  · conv => whnf
    rfl
  have h4 : decide (mo < wt) = false := h4
  have h4 : ¬ mo < wt := by simpa using h4
  conv => whnf
  refine cond_intro (fun h5 => ?_) (fun h5 => ?_)
  · conv => whnf
    rfl
  have h5 : decide (rv < ov) = false := h5
  have h5 : ¬ rv < ov := by simpa using h5
  have hg := hf h0 h1 (by show rd ≤ od; omega) (by show ry ≤ oy; omega) (by omega) (by show ov ≤ rv; omega)
  conv => whnf
  refine cond_intro (fun g => ?_) (fun g => ?_)
  case refine_2 =>
    have g : ¬ (scoreR (oc, os, od, ov, oy) mo).1 ≤ (scoreR (rc, rs, rd, rv, ry) wt).1 := @of_decide_eq_false _ _ g
    omega
  conv => whnf
  refine cond_intro (fun g => ?_) (fun g => ?_)
  case refine_2 =>
    have g : ¬ (scoreR (rc, rs, rd, rv, ry) wt).1 ≤ 255 := @of_decide_eq_false _ _ g
    omega
  conv => whnf
  refine cond_intro (fun g => ?_) (fun g => ?_)
  case refine_2 =>
    have g : ¬ 0 ≤ (scoreR (oc, os, od, ov, oy) mo).1 := @of_decide_eq_false _ _ g
    omega
  conv => whnf
  rfl
end
end Go.Proofs.Yteidanhfkaljaaa.Eng
set_option linter.unusedVariables false
namespace Go.Proofs.Yteidanhfkaljaaa.Eng
open Go
set_option maxRecDepth 100000
noncomputable section
def E20 : Env := ⟨tab, [(23, K23), (37, K37), (43, K43), (44, K44), (45, K45)], fun n => match n with | 8 => some ([3, 4, 8, 32, 33, 34], [], []) | _ => none⟩
def leaveAt (s : St) (i : Nat) : St × Int × Int :=
  if (s.2.1.take i ++ s.2.1.drop (i + 1)).length = 0 then ((s.1, [], [], []), unitsR s.2.2.1, 0) else ((s.1, s.2.1.take i ++ s.2.1.drop (i + 1), s.2.2.1, s.2.2.2), 0, 0)
def leaveR (s : St) (w h t : Int) : St × Int × Int :=
  if validR s ≠ 0 then (zSt, 0, validR s) else if sizedR w h t ≠ 0 then (zSt, 0, sizedR w h t) else
  if s.2.1.findIdx (fun q => decide (q.2 = t)) < s.2.1.length then leaveAt s (s.2.1.findIdx (fun q => decide (q.2 = t))) else (zSt, 0, 2)
def K20 : Fn1 := ⟨covIn, .fld stT (.fld I (.one I)), fun (a : St × Int × Int × Int) => small a.1, fun (a : St × Int × Int × Int) => leaveR a.1 a.2.1 a.2.2.1 a.2.2.2⟩
def S20 (ow : Int) (ps : List Pl) (ws : List Pa) (rs : List Ra) (t i : Int) : SL :=
  ⟨[.undef, .undef, .undef, .int .i64 t, .ptr 0 0 0, .undef, .undef, .undef, .ptr 1 0 0] ++ List.replicate 23 .undef ++ [.sl plT ps, .int .i64 ps.length, .int .i64 i] ++ List.replicate 36 .undef,
   [(0, .box [.int .i64 ow, .sl plT ps, .sl paT ws, .sl raT rs]), (1, .box [.int .i64 0, .nilsl, .nilsl, .nilsl])], 2⟩
theorem findIdx_at {f : Pl → Bool} {l : List Pl} {i : Nat} (hi : i < l.length) (h : ∀ q ∈ l.take i, f q = false) (hf : f (gS l i) = true) : l.findIdx f = i := by
  have e : gS l i = l[i]'hi := by simp [gS, hi]
  rw [List.findIdx_eq hi]
  refine ⟨by rw [← e]; exact hf, fun j hj => ?_⟩
  have := h (l[j]'(by omega)) (by rw [List.mem_take_iff_getElem]; exact ⟨j, by omega, rfl⟩)
  simpa using this
theorem findIdx_none {f : Pl → Bool} {l : List Pl} (h : ∀ q ∈ l, f q = false) : ¬ l.findIdx f < l.length := by
  intro c
  have := List.findIdx_getElem (w := c)
  rw [h _ (List.getElem_mem _)] at this
  cases this
theorem k20 : FnOk Go.Proofs.Try.prog 20 K20 := by
  refine fn_ok (E := E20) (TOk.of tab_told) (AllOk.cons k23 (.cons k37 (.cons k43 (.cons k44 (.cons k45 .nil))))).at_ mix Go.Proofs.Try.func20 rfl rfl (by kernel_rfl) K20 ?_
  rintro ⟨⟨(ow : Int), (ps : List Pl), (ws : List Pa), (rs : List Ra)⟩, (w : Int), (h : Int), (t : Int)⟩ hp
  have g1 : ps.length ≤ 100000 := hp _ (List.mem_cons_self ..)
  have g2 : ws.length ≤ 100000 := hp _ (List.mem_cons_of_mem _ (List.mem_cons_self ..))
  have g3 : rs.length ≤ 100000 := hp _ (List.mem_cons_of_mem _ (List.mem_cons_of_mem _ (List.mem_cons_self ..)))
  clear hp
  conv => whnf
  refine ⟨g1, ?_⟩
  conv => whnf
  refine ⟨g2, ?_⟩
  conv => whnf
  refine ⟨g3, ?_⟩
  conv => whnf
  refine cond_intro (fun hv => ?_) (fun hv => ?_)
  · have hv : (!decide (validR (ow, ps, ws, rs) = 0)) = true := hv
    have hv : validR (ow, ps, ws, rs) ≠ 0 := by simpa using hv
    conv => whnf
    show (zSt, 0, validR (ow, ps, ws, rs)) = leaveR (ow, ps, ws, rs) w h t
    rw [leaveR, if_pos hv]
  have hv : (!decide (validR (ow, ps, ws, rs) = 0)) = false := hv
  have hv : validR (ow, ps, ws, rs) = 0 := by simpa using hv
  conv => whnf
  refine cond_intro (fun hs => ?_) (fun hs => ?_)
  · have hs : (!decide (sizedR w h t = 0)) = true := hs
    have hs : sizedR w h t ≠ 0 := by simpa using hs
    conv => whnf
    show (zSt, 0, sizedR w h t) = leaveR (ow, ps, ws, rs) w h t
    rw [leaveR, if_neg (by simp [hv]), if_pos hs]
  have hs : (!decide (sizedR w h t = 0)) = false := hs
  have hs : sizedR w h t = 0 := by simpa using hs
  have v1 : leaveR (ow, ps, ws, rs) w h t = if ps.findIdx (fun q => decide (q.2 = t)) < ps.length then leaveAt (ow, ps, ws, rs) (ps.findIdx (fun q => decide (q.2 = t))) else (zSt, 0, 2) := by
    rw [leaveR, if_neg (by simp [hv]), if_neg (by simp [hs])]
  conv => whnf
  refine loop_rule (fun i => S20 ow ps ws rs t i) (fun i => ((ps.length : Int) - i).toNat) (fun i => 0 ≤ i ∧ i ≤ ps.length ∧ ∀ q ∈ ps.take i.toNat, decide (q.2 = t) = false) ?_ 0 (by kernel_rfl) ?_ ⟨by omega, by omega, fun j hj => by simp at hj⟩
  case refine_2 => rfl
  rintro i ⟨h0, h1, h2⟩
  have hw : i < ps.length → IntKind.i64.wrap (i + 1) = i + 1 := fun _ => wrap_eq (by omega) (by omega)
  conv => whnf
  refine cond_intro (fun hlt => ?_) (fun hge => ?_)
  · have hlt : i < ps.length := @of_decide_eq_true _ _ hlt
    have e : gS ps i.toNat = ps[i.toNat]'(by omega) := by simp [gS, show i.toNat < ps.length by omega]
    have ht : ps.take (i.toNat + 1) = ps.take i.toNat ++ [gS ps i.toNat] := by rw [List.take_succ_eq_append_getElem (by omega), e]
    have en : (i + 1).toNat = i.toNat + 1 := by omega
    conv => whnf
    refine ⟨h0, ?_⟩
    conv => whnf
    refine ⟨hlt, ?_⟩
    conv => whnf
    refine cond_intro (fun he => ?_) (fun he => ?_)
    · have he : (!decide ((gS ps i.toNat).2 = t)) = true := he
      have he : ¬ (gS ps i.toNat).2 = t := by simpa using he
      conv => whnf
      refine ⟨i + 1, ?_, ⟨by omega, by omega, ?_⟩, by omega⟩
      · exact Eq.trans (b := S20 ow ps ws rs t (IntKind.i64.wrap (i + 1))) rfl (by rw [hw hlt])
      · rw [en, ht]
        intro q hq
        rcases List.mem_append.1 hq with hq | hq
        · exact h2 q hq
        · rw [List.mem_singleton.1 hq]; simp [he]
    have he : (!decide ((gS ps i.toNat).2 = t)) = false := he
    have he : (gS ps i.toNat).2 = t := by simpa using he
    have v2 : leaveR (ow, ps, ws, rs) w h t = leaveAt (ow, ps, ws, rs) i.toNat := by
      rw [v1, findIdx_at (i := i.toNat) (by omega) h2 (by simp [he]), if_pos (by omega)]
    conv => whnf
    refine ⟨g1, ?_⟩
    conv => whnf
    refine ⟨g2, ?_⟩
    conv => whnf
    refine ⟨g3, ?_⟩
    conv => whnf
    refine ⟨h0, ?_⟩
    conv => whnf
    refine ⟨h1, ?_⟩
    conv => whnf
    have ht1 : (ps.take i.toNat).length ≤ 100000 := by rw [List.length_take]; omega
    have ht2 : (ps.drop (i + 1).toNat).length ≤ 100000 := by rw [List.length_drop]; omega
    refine ⟨ht1, ?_⟩
    conv => whnf
    have hwi := hw hlt
    refine ⟨show 0 ≤ IntKind.i64.wrap (i + 1) by omega, ?_⟩
    conv => whnf
    refine ⟨show IntKind.i64.wrap (i + 1) ≤ ps.length by omega, ?_⟩
    conv => whnf
    have ht3 : (ps.drop (IntKind.i64.wrap (i + 1)).toNat).length ≤ 100000 := by rw [hwi]; exact ht2
    refine ⟨show ((ps.take i.toNat).length + (ps.drop (IntKind.i64.wrap (i + 1)).toNat).length) * 16 ≤ 70368744177664 by omega, ?_⟩
    conv => whnf
    refine ⟨show ((ps.take i.toNat).length + (ps.drop (IntKind.i64.wrap (i + 1)).toNat).length) ≤ 70368744177664 by omega, ?_⟩
    conv => whnf
    have hd : ps.drop (IntKind.i64.wrap (i + 1)).toNat = ps.drop (i.toNat + 1) := by rw [hwi, en]
    refine cond_intro (fun hq => ?_) (fun hq => ?_)
    · have hq : 0 < ((ps.take i.toNat ++ ps.drop (IntKind.i64.wrap (i + 1)).toNat).length : Int) := @of_decide_eq_true _ _ hq
      conv => whnf
      show ((ow, ps.take i.toNat ++ ps.drop (IntKind.i64.wrap (i + 1)).toNat, ws, rs), 0, 0) = leaveR (ow, ps, ws, rs) w h t
      rw [hd] at hq ⊢
      rw [v2, leaveAt, if_neg (by show ¬ (ps.take i.toNat ++ ps.drop (i.toNat + 1)).length = 0; omega)]
    · have hq : ¬ 0 < ((ps.take i.toNat ++ ps.drop (IntKind.i64.wrap (i + 1)).toNat).length : Int) := @of_decide_eq_false _ _ hq
      rw [hd] at hq
      have hz : (ps.take i.toNat ++ ps.drop (i.toNat + 1)).length = 0 := by omega
      conv => whnf
      refine ⟨g2, ?_⟩
      conv => whnf
      show ((ow, ps.take i.toNat ++ ps.drop (IntKind.i64.wrap (i + 1)).toNat, [], []), unitsR ws, 0) = leaveR (ow, ps, ws, rs) w h t
      rw [hd, v2, leaveAt, if_pos hz, List.eq_nil_of_length_eq_zero hz]
  have hge : ¬ i < ps.length := @of_decide_eq_false _ _ hge
  rw [List.take_of_length_le (by omega)] at h2
  conv => whnf
  show (zSt, 0, 2) = leaveR (ow, ps, ws, rs) w h t
  rw [v1, if_neg (findIdx_none h2)]
end
end Go.Proofs.Yteidanhfkaljaaa.Eng
set_option linter.unusedVariables false
namespace Go.Proofs.Yteidanhfkaljaaa.Eng
open Go
set_option maxRecDepth 100000
noncomputable section
def K46 : Fn1 := ⟨.one stT, .one stT, fun (s : St) => small s, fun (s : St) => s⟩
theorem k46 : FnOk Go.Proofs.Try.prog 46 K46 := by
  refine fn_ok (E := E0) (TOk.of tab_told) noK mix Go.Proofs.Try.func46 rfl rfl (by kernel_rfl) K46 ?_
  rintro ⟨(ow : Int), (ps : List Pl), (ws : List Pa), (rs : List Ra)⟩ hp
  have g1 : ps.length ≤ 100000 := hp _ (List.mem_cons_self ..)
  have g2 : ws.length ≤ 100000 := hp _ (List.mem_cons_of_mem _ (List.mem_cons_self ..))
  have g3 : rs.length ≤ 100000 := hp _ (List.mem_cons_of_mem _ (List.mem_cons_of_mem _ (List.mem_cons_self ..)))
  clear hp
  conv => whnf
  refine ⟨show (0 + ps.length) * 16 ≤ 70368744177664 by omega, ?_⟩
  conv => whnf
  refine ⟨show 0 + ps.length ≤ 70368744177664 by omega, ?_⟩
  conv => whnf
  refine ⟨show (0 + ws.length) * 48 ≤ 70368744177664 by omega, ?_⟩
  conv => whnf
  refine ⟨show 0 + ws.length ≤ 70368744177664 by omega, ?_⟩
  conv => whnf
  refine ⟨show (0 + rs.length) * 40 ≤ 70368744177664 by omega, ?_⟩
  conv => whnf
  refine ⟨show 0 + rs.length ≤ 70368744177664 by omega, ?_⟩
  conv => whnf
  rfl
end
end Go.Proofs.Yteidanhfkaljaaa.Eng
set_option linter.unusedVariables false
namespace Go.Proofs.Yteidanhfkaljaaa.Eng
open Go
set_option maxRecDepth 100000
noncomputable section
def E21 : Env := ⟨tab, [(39, K39), (46, K46), (25, K25)], fun n => match n with | 7 => some ([3, 4, 8, 12, 28, 29, 30], [], [(12, 1, plT)]) | _ => none⟩
def leaveRefR (s : St) (w h t : Int) : St × Int × Int :=
  if askedR s w h t ≠ 0 then (zSt, 0, askedR s w h t) else
  if ((s.2.1.filter (fun q => decide (q.2 ≠ t))).length : Int) = s.2.1.length then (zSt, 0, 2) else
  if 0 < ((s.2.1.filter (fun q => decide (q.2 ≠ t))).length : Int) then ((s.1, s.2.1.filter (fun q => decide (q.2 ≠ t)), s.2.2.1, s.2.2.2), 0, 0) else ((s.1, s.2.1.filter (fun q => decide (q.2 ≠ t)), [], []), unitsR s.2.2.1, 0)
def K21 : Fn1 := ⟨covIn, .fld stT (.fld I (.one I)), fun (a : St × Int × Int × Int) => small a.1, fun (a : St × Int × Int × Int) => leaveRefR a.1 a.2.1 a.2.2.1 a.2.2.2⟩
def S21 (ow : Int) (ps out : List Pl) (ws : List Pa) (rs : List Ra) (t i : Int) : SL :=
  ⟨[.undef, .undef, .undef, .int .i64 t, .ptr 0 0 0, .undef, .undef, .undef, .ptr 1 0 0, .undef, .undef, .undef, .ptr 2 0 0] ++ List.replicate 15 .undef ++ [.sl plT ps, .int .i64 ps.length, .int .i64 i] ++ List.replicate 33 .undef,
   [(0, .box [.int .i64 ow, .sl plT ps, .sl paT ws, .sl raT rs]), (1, .box [.int .i64 0, .nilsl, .nilsl, .nilsl]), (2, .box [.int .i64 ow, .own 3, .own 4, .own 5]), (3, .arr plT out), (4, .arr paT ws), (5, .arr raT rs)], 6⟩
theorem k21 : FnOk Go.Proofs.Try.prog 21 K21 := by
  refine fn_ok (E := E21) (TOk.of tab_told) (AllOk.cons k39 (.cons k46 (.cons k25 .nil))).at_ mix Go.Proofs.Try.func21 rfl rfl (by kernel_rfl) K21 ?_
  rintro ⟨⟨(ow : Int), (ps : List Pl), (ws : List Pa), (rs : List Ra)⟩, (w : Int), (h : Int), (t : Int)⟩ hp
  have g1 : ps.length ≤ 100000 := hp _ (List.mem_cons_self ..)
  have g2 : ws.length ≤ 100000 := hp _ (List.mem_cons_of_mem _ (List.mem_cons_self ..))
  have g3 : rs.length ≤ 100000 := hp _ (List.mem_cons_of_mem _ (List.mem_cons_of_mem _ (List.mem_cons_self ..)))
  clear hp
  conv => whnf
  refine ⟨g1, ?_⟩
  conv => whnf
  refine ⟨g2, ?_⟩
  conv => whnf
  refine ⟨g3, ?_⟩
  conv => whnf
  refine cond_intro (fun hv => ?_) (fun hv => ?_)
  · have hv : (!decide (askedR (ow, ps, ws, rs) w h t = 0)) = true := hv
    have hv : askedR (ow, ps, ws, rs) w h t ≠ 0 := by simpa using hv
    conv => whnf
    show (zSt, 0, askedR (ow, ps, ws, rs) w h t) = leaveRefR (ow, ps, ws, rs) w h t
    rw [leaveRefR, if_pos hv]
  have hv : (!decide (askedR (ow, ps, ws, rs) w h t = 0)) = false := hv
  have hv : askedR (ow, ps, ws, rs) w h t = 0 := by simpa using hv
  conv => whnf
  refine ⟨g1, ?_⟩
  conv => whnf
  refine ⟨g2, ?_⟩
  conv => whnf
  refine ⟨g3, ?_⟩
  have v1 : leaveRefR (ow, ps, ws, rs) w h t = if ((ps.filter (fun q => decide (q.2 ≠ t))).length : Int) = ps.length then (zSt, 0, 2) else if 0 < ((ps.filter (fun q => decide (q.2 ≠ t))).length : Int) then ((ow, ps.filter (fun q => decide (q.2 ≠ t)), ws, rs), 0, 0) else ((ow, ps.filter (fun q => decide (q.2 ≠ t)), [], []), unitsR ws, 0) := by
    rw [leaveRefR, if_neg (by simp [hv])]
  conv => whnf
  refine loop_rule (fun i => S21 ow ps ((ps.take i.toNat).filter (fun q => decide (q.2 ≠ t))) ws rs t i) (fun i => ((ps.length : Int) - i).toNat) (fun i => 0 ≤ i ∧ i ≤ ps.length) ?_ 0 (by kernel_rfl) ?_ ⟨by omega, by omega⟩
  case refine_2 => rfl
  rintro i ⟨h0, h1⟩
  have hw : i < ps.length → IntKind.i64.wrap (i + 1) = i + 1 := fun _ => wrap_eq (by omega) (by omega)
  have hfl : ((ps.take i.toNat).filter (fun q => decide (q.2 ≠ t))).length ≤ 100000 := by
    have h1 := List.length_filter_le (fun q => decide (q.2 ≠ t)) (ps.take i.toNat)
    rw [List.length_take] at h1
    omega
  conv => whnf
  refine cond_intro (fun hlt => ?_) (fun hge => ?_)
  · have hlt : i < ps.length := @of_decide_eq_true _ _ hlt
    have e : gS ps i.toNat = ps[i.toNat]'(by omega) := by simp [gS, show i.toNat < ps.length by omega]
    have ht : ps.take (i.toNat + 1) = ps.take i.toNat ++ [gS ps i.toNat] := by rw [List.take_succ_eq_append_getElem (by omega), e]
    have en : (i + 1).toNat = i.toNat + 1 := by omega
    conv => whnf
    refine ⟨h0, ?_⟩
    conv => whnf
    refine ⟨hlt, ?_⟩
    conv => whnf
    refine cond_intro (fun he => ?_) (fun he => ?_)
    · have he : (!decide ((gS ps i.toNat).2 = t)) = true := he
      have he : ¬ (gS ps i.toNat).2 = t := by simpa using he
      conv => whnf
      refine ⟨show (((ps.take i.toNat).filter (fun q => decide (q.2 ≠ t))).length + 1) * 16 ≤ 70368744177664 by omega, ?_⟩
      conv => whnf
      refine ⟨show ((ps.take i.toNat).filter (fun q => decide (q.2 ≠ t))).length + 1 ≤ 70368744177664 by omega, ?_⟩
      conv => whnf
      refine ⟨i + 1, ?_, ⟨by omega, by omega⟩, by omega⟩
      exact Eq.trans (b := S21 ow ps ((ps.take i.toNat).filter (fun q => decide (q.2 ≠ t)) ++ [((gS ps i.toNat).1, (gS ps i.toNat).2)]) ws rs t (IntKind.i64.wrap (i + 1))) rfl (by rw [hw hlt, en, ht, List.filter_append]; simp [he])
    have he : (!decide ((gS ps i.toNat).2 = t)) = false := he
    have he : (gS ps i.toNat).2 = t := by simpa using he
    conv => whnf
    refine ⟨i + 1, ?_, ⟨by omega, by omega⟩, by omega⟩
    exact Eq.trans (b := S21 ow ps ((ps.take i.toNat).filter (fun q => decide (q.2 ≠ t))) ws rs t (IntKind.i64.wrap (i + 1))) rfl (by rw [hw hlt, en, ht, List.filter_append]; simp [he])
  have hge : ¬ i < ps.length := @of_decide_eq_false _ _ hge
  rw [List.take_of_length_le (by omega)] at hfl ⊢
  conv => whnf
  refine cond_intro (fun hq => ?_) (fun hq => ?_)
  · have hq : ((ps.filter (fun q => decide (q.2 ≠ t))).length : Int) = ps.length := @of_decide_eq_true _ _ hq
    conv => whnf
    show (zSt, 0, 2) = leaveRefR (ow, ps, ws, rs) w h t
    rw [v1, if_pos hq]
  have hq : ¬ ((ps.filter (fun q => decide (q.2 ≠ t))).length : Int) = ps.length := @of_decide_eq_false _ _ hq
  rw [if_neg hq] at v1
  conv => whnf
  refine cond_intro (fun hz => ?_) (fun hz => ?_)
  · have hz : 0 < ((ps.filter (fun q => decide (q.2 ≠ t))).length : Int) := @of_decide_eq_true _ _ hz
    conv => whnf
    show ((ow, ps.filter (fun q => decide (q.2 ≠ t)), ws, rs), 0, 0) = leaveRefR (ow, ps, ws, rs) w h t
    rw [v1, if_pos hz]
  have hz : ¬ 0 < ((ps.filter (fun q => decide (q.2 ≠ t))).length : Int) := @of_decide_eq_false _ _ hz
  rw [if_neg hz] at v1
  conv => whnf
  refine ⟨g2, ?_⟩
  conv => whnf
  show ((ow, ps.filter (fun q => decide (q.2 ≠ t)), [], []), unitsR ws, 0) = leaveRefR (ow, ps, ws, rs) w h t
  rw [v1]
end
end Go.Proofs.Yteidanhfkaljaaa.Eng
set_option linter.unusedVariables false
namespace Go.Proofs.Yteidanhfkaljaaa.Eng
open Go
set_option maxRecDepth 100000
noncomputable section
theorem adj_pw {α : Type} (k : α → Int) {l : List α} (h : ∀ i, (hi : i + 1 < l.length) → k (l[i]'(by omega)) < k l[i + 1]) : l.Pairwise (fun a b => k a < k b) := by
  rw [List.pairwise_iff_getElem]
  intro i j hi hj hij
  induction j with
  | zero => omega
  | succ j ih =>
    have h1 := h j hj
    by_cases e : i = j
    · subst e; exact h1
    · have := ih (by omega) (by omega)
      omega
theorem pw_adj {α : Type} (k : α → Int) {l : List α} (h : l.Pairwise (fun a b => k a < k b)) (i : Nat) (hi : i + 1 < l.length) : k (l[i]'(by omega)) < k l[i + 1] :=
  List.pairwise_iff_getElem.1 h i (i + 1) (by omega) hi (by omega)
def okPs (ps : List Pl) : Prop := (∀ p ∈ ps, (0 ≤ p.1 ∧ p.1 ≤ 3) ∧ (0 ≤ p.2 ∧ p.2 ≤ 1000000)) ∧ ps.Pairwise (fun a b => a.2 < b.2)
def okRs (rs : List Ra) : Prop := (∀ r ∈ rs, ratedR r = true) ∧ rs.Pairwise (fun a b => a.1 < b.1)
theorem badS_iff {ps : List Pl} {i : Nat} (hi : i < ps.length) : badS ps i = false ↔ ((0 ≤ (gS ps i).1 ∧ (gS ps i).1 ≤ 3) ∧ (0 ≤ (gS ps i).2 ∧ (gS ps i).2 ≤ 1000000)) ∧ (0 < i → (gS ps (i - 1)).2 < (gS ps i).2) := by
  simp only [badS, withinR, List.all_cons, List.all_nil, Bool.and_true, Bool.or_eq_false_iff, Bool.not_eq_false', Bool.and_eq_true, decide_eq_true_eq, Bool.and_eq_false_iff, decide_eq_false_iff_not, and_assoc]
  constructor
  · rintro ⟨a, b, c, d, e⟩
    exact ⟨a, b, c, d, fun h => by omega⟩
  · rintro ⟨a, b, c, d, e⟩
    exact ⟨a, b, c, d, by omega⟩
theorem badR_iff {rs : List Ra} {i : Nat} (hi : i < rs.length) : badR rs i = false ↔ ratedR (gR rs i) = true ∧ (0 < i → (gR rs (i - 1)).1 < (gR rs i).1) := by
  simp only [badR, Bool.or_eq_false_iff, Bool.not_eq_false', Bool.and_eq_false_iff, decide_eq_false_iff_not]
  constructor
  · rintro ⟨a, e⟩
    exact ⟨a, fun h => by omega⟩
  · rintro ⟨a, e⟩
    exact ⟨a, by omega⟩
theorem gS_at {ps : List Pl} {i : Nat} (hi : i < ps.length) : gS ps i = ps[i] := by simp [gS, hi]
theorem gR_at {rs : List Ra} {i : Nat} (hi : i < rs.length) : gR rs i = rs[i] := by simp [gR, hi]
theorem noBadS {ps : List Pl} : (List.range ps.length).any (badS ps) = false ↔ okPs ps := by
  rw [List.any_eq_false]
  constructor
  · intro h
    have h' : ∀ i, i < ps.length → badS ps i = false := fun i hi => by simpa using h i (List.mem_range.2 hi)
    refine ⟨fun p hp => ?_, adj_pw (fun p : Pl => p.2) fun i hi => ?_⟩
    · obtain ⟨i, hi, e⟩ := List.mem_iff_getElem.1 hp
      have := ((badS_iff hi).1 (h' i hi)).1
      rw [gS_at hi, e] at this
      exact this
    · have := ((badS_iff hi).1 (h' (i + 1) hi)).2 (by omega)
      rw [gS_at hi, show i + 1 - 1 = i by omega, gS_at (show i < ps.length by omega)] at this
      exact this
  · rintro ⟨h1, h2⟩ i hi
    have hi := List.mem_range.1 hi
    have : badS ps i = false := by
      rw [badS_iff hi, gS_at hi]
      refine ⟨h1 _ (List.getElem_mem _), fun h => ?_⟩
      obtain ⟨j, rfl⟩ : ∃ j, i = j + 1 := ⟨i - 1, by omega⟩
      have := pw_adj (fun p : Pl => p.2) h2 j hi
      rw [show j + 1 - 1 = j by omega, gS_at (show j < ps.length by omega)]
      exact this
    simp [this]
theorem noBadR {rs : List Ra} : (List.range rs.length).any (badR rs) = false ↔ okRs rs := by
  rw [List.any_eq_false]
  constructor
  · intro h
    have h' : ∀ i, i < rs.length → badR rs i = false := fun i hi => by simpa using h i (List.mem_range.2 hi)
    refine ⟨fun p hp => ?_, adj_pw (fun p : Ra => p.1) fun i hi => ?_⟩
    · obtain ⟨i, hi, e⟩ := List.mem_iff_getElem.1 hp
      have := ((badR_iff hi).1 (h' i hi)).1
      rw [gR_at hi, e] at this
      exact this
    · have := ((badR_iff hi).1 (h' (i + 1) hi)).2 (by omega)
      rw [gR_at hi, show i + 1 - 1 = i by omega, gR_at (show i < rs.length by omega)] at this
      exact this
  · rintro ⟨h1, h2⟩ i hi
    have hi := List.mem_range.1 hi
    have : badR rs i = false := by
      rw [badR_iff hi, gR_at hi]
      refine ⟨h1 _ (List.getElem_mem _), fun h => ?_⟩
      obtain ⟨j, rfl⟩ : ∃ j, i = j + 1 := ⟨i - 1, by omega⟩
      have := pw_adj (fun p : Ra => p.1) h2 j hi
      rw [show j + 1 - 1 = j by omega, gR_at (show j < rs.length by omega)]
      exact this
    simp [this]
theorem valid_iff {s : St} : validR s = 0 ↔ s.2.1.length ≤ 20 ∧ -1 ≤ s.1 ∧ s.1 < 12 ∧ cargoR s.2.2.1 = 0 ∧ okPs s.2.1 ∧ okRs s.2.2.2 := by
  rw [← noBadS, ← noBadR]
  unfold validR
  by_cases c1 : 20 < s.2.1.length
  · rw [if_pos c1]; constructor
    · intro h; omega
    · rintro ⟨h, _⟩; omega
  rw [if_neg c1]
  by_cases c2 : s.1 < -1 ∨ 12 ≤ s.1 ∨ cargoR s.2.2.1 ≠ 0
  · rw [if_pos c2]; constructor
    · intro h; omega
    · rintro ⟨_, h1, h2, h3, _⟩
      rcases c2 with c | c | c
      · omega
      · omega
      · exact absurd h3 c
  rw [if_neg c2]
  have c2' : ¬ s.1 < -1 ∧ ¬ 12 ≤ s.1 ∧ cargoR s.2.2.1 = 0 := ⟨fun h => c2 (Or.inl h), fun h => c2 (Or.inr (Or.inl h)), Classical.byContradiction fun h => c2 (Or.inr (Or.inr h))⟩
  cases c3 : (List.range s.2.1.length).any (badS s.2.1) with
  | true => simp
  | false =>
    cases c4 : (List.range s.2.2.2.length).any (badR s.2.2.2) with
    | true => simp
    | false => simp only [Bool.false_eq_true, if_false, true_iff]; exact ⟨by omega, by omega, by omega, c2'.2.2, trivial, trivial⟩
theorem okPs_sub {ps qs : List Pl} (h : okPs ps) (hs : qs.Sublist ps) : okPs qs := ⟨fun p hp => h.1 p (hs.subset hp), h.2.sublist hs⟩
theorem cargo_nil : cargoR [] = 0 := by kernel_rfl
theorem okRs_nil : okRs [] := ⟨fun _ h => (by cases h), List.Pairwise.nil⟩
theorem filter_one {l : List Pl} {i : Nat} {t : Int} (hi : i < l.length) (hp : l.Pairwise (fun a b => a.2 < b.2)) (ht : l[i].2 = t) : l.filter (fun q => decide (q.2 ≠ t)) = l.take i ++ l.drop (i + 1) := by
  have e : l = l.take i ++ l[i] :: l.drop (i + 1) := by rw [← List.drop_eq_getElem_cons hi, List.take_append_drop]
  rw [e] at hp
  obtain ⟨_, h2, h3⟩ := List.pairwise_append.1 hp
  have h4 := List.pairwise_cons.1 h2
  conv => lhs; rw [e]
  rw [List.filter_append, List.filter_cons, if_neg (by simp [ht]), List.filter_eq_self.2, List.filter_eq_self.2]
  · intro a ha
    have := h4.1 a ha
    rw [ht] at this
    simp; omega
  · intro a ha
    have := h3 a ha l[i] (List.mem_cons_self ..)
    rw [ht] at this
    simp; omega
theorem find_lt {l : List Pl} {f : Pl → Bool} (h : l.findIdx f < l.length) : f (l[l.findIdx f]) = true := List.findIdx_getElem (w := h)
theorem find_none {l : List Pl} {f : Pl → Bool} (h : ¬ l.findIdx f < l.length) : ∀ x ∈ l, f x = false := by
  intro x hx
  cases e : f x with
  | false => rfl
  | true => exact absurd (List.findIdx_lt_length_of_exists ⟨x, hx, e⟩) h
theorem leave_same (s : St) (w h t : Int) : leaveR s w h t = leaveRefR s w h t := by
  unfold leaveR leaveRefR askedR
  by_cases hv : ¬ (validR s = 0)
  · rw [if_pos hv, if_pos (by rw [if_pos hv]; exact hv), if_pos hv]
  have hv : validR s = 0 := Classical.not_not.1 hv
  rw [if_neg (by simp [hv]), if_neg (show ¬ (validR s ≠ 0) by simp [hv])]
  by_cases hs : ¬ (sizedR w h t = 0)
  · rw [if_pos hs, if_pos hs]
  have hs : sizedR w h t = 0 := Classical.not_not.1 hs
  rw [if_neg (show ¬ (sizedR w h t ≠ 0) by simp [hs]), if_neg (show ¬ (sizedR w h t ≠ 0) by simp [hs])]
  obtain ⟨v1, v2, v3, v4, ⟨v5, v6⟩, v7⟩ := valid_iff.1 hv
  by_cases hf : s.2.1.findIdx (fun q => decide (q.2 = t)) < s.2.1.length
  · rw [if_pos hf]
    have ht := find_lt hf
    have ht : (s.2.1[s.2.1.findIdx (fun q => decide (q.2 = t))]).2 = t := by simpa using ht
    rw [filter_one hf v6 ht, leaveAt]
    generalize s.2.1.findIdx (fun q => decide (q.2 = t)) = i at *
    have hl : (s.2.1.take i ++ s.2.1.drop (i + 1)).length = s.2.1.length - 1 := by simp; omega
    rw [if_neg (show ¬ (((s.2.1.take i ++ s.2.1.drop (i + 1)).length : Int) = s.2.1.length) by omega)]
    by_cases hz : (s.2.1.take i ++ s.2.1.drop (i + 1)).length = 0
    · rw [if_pos hz, if_neg (by omega), List.eq_nil_of_length_eq_zero hz]
    · rw [if_neg hz, if_pos (by omega)]
  · rw [if_neg hf]
    have hn := find_none hf
    rw [List.filter_eq_self.2 (fun a ha => by have := hn a ha; simpa using this), if_pos rfl]
theorem leave_valid {s : St} {w h t : Int} (he : (leaveR s w h t).2.2 = 0) : validR (leaveR s w h t).1 = 0 := by
  unfold leaveR at he ⊢
  by_cases hv : ¬ (validR s = 0)
  · rw [if_pos hv] at he; exact absurd he hv
  have hv : validR s = 0 := Classical.not_not.1 hv
  rw [if_neg (by simp [hv])] at he ⊢
  by_cases hs : ¬ (sizedR w h t = 0)
  · rw [if_pos hs] at he; exact absurd he hs
  have hs : sizedR w h t = 0 := Classical.not_not.1 hs
  rw [if_neg (by simp [hs])] at he ⊢
  by_cases hf : ¬ (s.2.1.findIdx (fun q => decide (q.2 = t)) < s.2.1.length)
  · rw [if_neg hf] at he; simp at he
  have hf : s.2.1.findIdx (fun q => decide (q.2 = t)) < s.2.1.length := Classical.not_not.1 hf
  rw [if_pos hf]
  generalize s.2.1.findIdx (fun q => decide (q.2 = t)) = i at *
  obtain ⟨v1, v2, v3, v4, v5, v7⟩ := valid_iff.1 hv
  unfold leaveAt
  have hsub : (s.2.1.take i ++ s.2.1.drop (i + 1)).Sublist s.2.1 := by
    conv => rhs; rw [← List.take_append_drop i s.2.1]
    exact List.Sublist.append (List.Sublist.refl _) (by rw [← List.drop_drop]; exact List.drop_sublist _ _)
  split
  · exact valid_iff.2 ⟨by simp, v2, v3, cargo_nil, ⟨fun _ h => (by cases h), List.Pairwise.nil⟩, okRs_nil⟩
  · exact valid_iff.2 ⟨Nat.le_trans hsub.length_le v1, v2, v3, v4, okPs_sub v5 hsub, v7⟩
theorem leave_small {s : St} {w h t : Int} {m : Nat} (h1 : s.2.1.length ≤ m) (h2 : s.2.2.1.length ≤ m) (h3 : s.2.2.2.length ≤ m) : (leaveR s w h t).1.2.1.length ≤ m ∧ (leaveR s w h t).1.2.2.1.length ≤ m ∧ (leaveR s w h t).1.2.2.2.length ≤ m := by
  unfold leaveR leaveAt
  repeat' split
  all_goals (simp <;> omega)
end
end Go.Proofs.Yteidanhfkaljaaa.Eng
set_option linter.unusedVariables false
namespace Go.Proofs.Yteidanhfkaljaaa.Eng
open Go
set_option maxRecDepth 100000
noncomputable section
theorem sameSt_refl (s : St) : sameSt s s = true := by simp [sameSt, eqPl, eqPa, eqRa]
def E7 : Env := ⟨tab, [(16, K16), (12, K12), (20, K20), (21, K21), (22, K22), (23, K23)], ann0⟩
def K7 : Fn1 := ⟨covIn, .one .bool, fun _ => [], fun _ => true⟩
theorem k7 : FnOk Go.Proofs.Try.prog 7 K7 := by
  refine fn_ok (E := E7) (TOk.of tab_told) (AllOk.cons k16 (.cons k12 (.cons k20 (.cons k21 (.cons k22 (.cons k23 .nil)))))).at_ mix Go.Proofs.Try.func7 rfl rfl (by kernel_rfl) K7 ?_
  rintro ⟨⟨(ow : Int), (ps : List Pl), (ws : List Pa), (rs : List Ra)⟩, (w : Int), (h : Int), (t : Int)⟩ hp
  clear hp
  conv => whnf
  refine cond_intro (fun hg => ?_) (fun hg => ?_)
  · conv => whnf
    rfl
  have hg : largeR (ow, ps, ws, rs) = false := hg
  have hl := not_large hg
  obtain ⟨l1, l2, l3⟩ := hl
  have g1 : ps.length ≤ 100000 := by simp only at l1; omega
  have g2 : ws.length ≤ 100000 := by simp only at l2; omega
  have g3 : rs.length ≤ 100000 := by simp only at l3; omega
  have hc := leave_same (ow, ps, ws, rs) w h t
  have hv := leave_valid (s := (ow, ps, ws, rs)) (w := w) (h := h) (t := t)
  obtain ⟨m1, m2, m3⟩ := leave_small (s := (ow, ps, ws, rs)) (w := w) (h := h) (t := t) (m := 100000) g1 g2 g3
  conv => whnf
  refine ⟨g1, ?_⟩
  conv => whnf
  refine ⟨g2, ?_⟩
  conv => whnf
  refine ⟨g3, ?_⟩
  conv => whnf
  refine ⟨g1, ?_⟩
  conv => whnf
  refine ⟨g2, ?_⟩
  conv => whnf
  refine ⟨g3, ?_⟩
  conv => whnf
  refine cond_intro (fun q => ?_) (fun q => ?_)
  case refine_2 =>
    have q : ¬ (leaveR (ow, ps, ws, rs) w h t).2.2 = (leaveRefR (ow, ps, ws, rs) w h t).2.2 := @of_decide_eq_false _ _ q
    rw [hc] at q
    exact absurd rfl q
  conv => whnf
  refine cond_intro (fun q => ?_) (fun q => ?_)
  case refine_2 =>
    have q : ¬ (leaveR (ow, ps, ws, rs) w h t).2.1 = (leaveRefR (ow, ps, ws, rs) w h t).2.1 := @of_decide_eq_false _ _ q
    rw [hc] at q
    exact absurd rfl q
  conv => whnf
  refine ⟨m1, ?_⟩
  conv => whnf
  refine ⟨m2, ?_⟩
  conv => whnf
  refine ⟨m3, ?_⟩
  conv => whnf
  refine cond_intro (fun q => ?_) (fun q => ?_)
  case refine_2 =>
    have q : sameSt (leaveR (ow, ps, ws, rs) w h t).1 (leaveRefR (ow, ps, ws, rs) w h t).1 = false := q
    rw [hc, sameSt_refl] at q
    cases q
  conv => whnf
  refine cond_intro (fun q => ?_) (fun q => ?_)
  · conv => whnf
    rfl
  · have q : (!decide ((leaveR (ow, ps, ws, rs) w h t).2.2 = 0)) = false := q
    have q : (leaveR (ow, ps, ws, rs) w h t).2.2 = 0 := by simpa using q
    conv => whnf
    refine ⟨m1, ?_⟩
    conv => whnf
    refine ⟨m2, ?_⟩
    conv => whnf
    refine ⟨m3, ?_⟩
    conv => whnf
    refine cond_intro (fun r => ?_) (fun r => ?_)
    · conv => whnf
      rfl
    · have r : ¬ validR (leaveR (ow, ps, ws, rs) w h t).1 = 0 := @of_decide_eq_false _ _ r
      exact absurd (hv q) r
end
end Go.Proofs.Yteidanhfkaljaaa.Eng
set_option linter.unusedVariables false
namespace Go.Proofs.Yteidanhfkaljaaa.Eng
open Go
set_option maxRecDepth 100000
noncomputable section
def cntL (l : List Pl) (t : Int) : Nat := l.countP (fun q => decide (q.2 < t))
theorem sorted_cut {t : Int} : ∀ {l : List Pl}, l.Pairwise (fun a b => a.2 < b.2) → (∀ q ∈ l.take (cntL l t), q.2 < t) ∧ (∀ q ∈ l.drop (cntL l t), ¬ q.2 < t)
  | [], _ => by simp [cntL]
  | x :: r, h => by
    obtain ⟨h1, h2⟩ := List.pairwise_cons.1 h
    by_cases c : x.2 < t
    · have e : cntL (x :: r) t = cntL r t + 1 := by simp [cntL, c]
      obtain ⟨i1, i2⟩ := sorted_cut (t := t) h2
      rw [e, List.take_succ_cons, List.drop_succ_cons]
      refine ⟨fun q hq => ?_, i2⟩
      rcases List.mem_cons.1 hq with rfl | hq
      · exact c
      · exact i1 q hq
    · have e : cntL (x :: r) t = 0 := by
        unfold cntL
        rw [List.countP_eq_zero]
        intro q hq
        rcases List.mem_cons.1 hq with rfl | hq
        · simpa using c
        · have := h1 q hq
          simp; omega
      rw [e]
      refine ⟨fun q hq => by simp at hq, fun q hq => ?_⟩
      rw [List.drop_zero] at hq
      rcases List.mem_cons.1 hq with rfl | hq
      · exact c
      · have := h1 q hq
        omega
def putIn (l : List Pl) (p : Pl) : List Pl := l.take (cntL l p.2) ++ p :: l.drop (cntL l p.2)
theorem putIn_ok {l : List Pl} {p : Pl} (hl : okPs l) (hp : (0 ≤ p.1 ∧ p.1 ≤ 3) ∧ (0 ≤ p.2 ∧ p.2 ≤ 1000000)) (hn : ∀ q ∈ l, q.2 ≠ p.2) : okPs (putIn l p) := by
  obtain ⟨c1, c2⟩ := sorted_cut (t := p.2) hl.2
  refine ⟨fun q hq => ?_, ?_⟩
  · rcases List.mem_append.1 hq with h | h
    · exact hl.1 q (List.mem_of_mem_take h)
    · rcases List.mem_cons.1 h with rfl | h
      · exact hp
      · exact hl.1 q (List.mem_of_mem_drop h)
  · unfold putIn
    rw [List.pairwise_append]
    have hd : ∀ q ∈ l.drop (cntL l p.2), p.2 < q.2 := fun q hq => by
      have h1 := c2 q hq
      have h2 := hn q (List.mem_of_mem_drop hq)
      omega
    refine ⟨hl.2.sublist (List.take_sublist _ _), List.pairwise_cons.2 ⟨hd, hl.2.sublist (List.drop_sublist _ _)⟩, fun a ha b hb => ?_⟩
    have h1 := c1 a ha
    rcases List.mem_cons.1 hb with rfl | hb
    · exact h1
    · have := hd b hb; omega
theorem putIn_len (l : List Pl) (p : Pl) : (putIn l p).length = l.length + 1 := by
  have h1 : (l.take (cntL l p.2)).length + (l.drop (cntL l p.2)).length = l.length := by
    rw [← List.length_append, List.take_append_drop]
  unfold putIn
  rw [List.length_append, List.length_cons]
  omega
theorem joinR_ok {s : St} {w h : Int} {p : Pl} (he : (joinR s w h p).2 = 0) : validR s = 0 ∧ sizedR w h p.2 = 0 ∧ (0 ≤ p.1 ∧ p.1 ≤ 3) ∧ (∀ q ∈ s.2.1, q.2 ≠ p.2) ∧ s.2.1.length < 20 ∧ (joinR s w h p).1 = (s.1, putIn s.2.1 p, s.2.2.1, s.2.2.2) := by
  unfold joinR at he ⊢
  by_cases hv : ¬ validR s = 0
  · rw [if_pos hv] at he; exact absurd he hv
  have hv : validR s = 0 := Classical.not_not.1 hv
  rw [if_neg (show ¬ (validR s ≠ 0) by simp [hv])] at he ⊢
  by_cases hs : ¬ sizedR w h p.2 = 0
  · rw [if_pos hs] at he; exact absurd he hs
  have hs : sizedR w h p.2 = 0 := Classical.not_not.1 hs
  rw [if_neg (show ¬ (sizedR w h p.2 ≠ 0) by simp [hs])] at he ⊢
  by_cases hk : withinR (3, [p.1]) = false
  · rw [if_pos hk] at he; simp at he
  rw [if_neg hk] at he ⊢
  by_cases ht : s.2.1.any (fun q => decide (q.2 = p.2)) = true
  · rw [if_pos ht] at he; simp at he
  rw [if_neg ht] at he ⊢
  by_cases hf : 20 ≤ s.2.1.length
  · rw [if_pos hf] at he; simp at he
  rw [if_neg hf] at he ⊢
  by_cases hb : beR w h s.2.1 p.2 s.2.1.length = false
  · rw [if_pos hb] at he; simp at he
  rw [if_neg hb]
  refine ⟨hv, hs, by simpa [withinR] using hk, fun q hq e => ht (List.any_eq_true.2 ⟨q, hq, by simp [e]⟩), by omega, ?_⟩
  have e : (atR s.2.1 p.2 s.2.1.length).toNat = cntL s.2.1 p.2 := by
    unfold atR cntL
    rw [List.take_length]
    simp
  simp only [e, putIn, List.append_assoc, List.singleton_append]
theorem sized_tile {w h t : Int} (hs : sizedR w h t = 0) : 0 ≤ t ∧ t ≤ 1000000 := by
  obtain ⟨_, _, h0, h1, _, h2⟩ := sized_zero hs
  omega
theorem join_valid {s : St} {w h : Int} {p : Pl} (he : (joinR s w h p).2 = 0) : validR (joinR s w h p).1 = 0 := by
  obtain ⟨h1, h2, h3, h4, h5, h6⟩ := joinR_ok he
  obtain ⟨v1, v2, v3, v4, v5, v7⟩ := valid_iff.1 h1
  rw [h6, valid_iff]
  exact ⟨by show (putIn s.2.1 p).length ≤ 20; rw [putIn_len]; omega, v2, v3, v4, putIn_ok v5 ⟨h3, sized_tile h2⟩ h4, v7⟩
theorem apart_self {w a : Int} : apartR w a a = 0 := by
  unfold apartR sub64
  simp only [Int.sub_self]
  kernel_rfl
theorem reach_nn {k : Int} (h : 0 ≤ k ∧ k ≤ 3) : 0 ≤ reachR k := by
  have : k = 0 ∨ k = 1 ∨ k = 2 ∨ k = 3 := by omega
  rcases this with rfl | rfl | rfl | rfl <;> decide
theorem join_covers {s : St} {w h : Int} {p : Pl} (he : (joinR s w h p).2 = 0) : coversR (joinR s w h p).1 w h p.2 = (true, 0) := by
  have hv := join_valid he
  obtain ⟨h1, h2, h3, h4, h5, h6⟩ := joinR_ok he
  rw [coversR, if_neg (by simp [hv]), if_neg (by simp [h2]), h6]
  have : (putIn s.2.1 p).any (nearP w h p.2) = true := by
    refine List.any_eq_true.2 ⟨p, by simp [putIn], ?_⟩
    obtain ⟨_, _, t0, t1, e, _⟩ := sized_zero h2
    unfold nearP
    rw [apart_self, e]
    have := reach_nn h3
    simp [t1, this]
  simp only [this]
theorem find_put {l : List Pl} {p : Pl} (hn : ∀ q ∈ l, q.2 ≠ p.2) : (putIn l p).findIdx (fun q => decide (q.2 = p.2)) = (l.take (cntL l p.2)).length := by
  unfold putIn
  have hi : (l.take (cntL l p.2)).length < (l.take (cntL l p.2) ++ p :: l.drop (cntL l p.2)).length := by simp
  refine findIdx_at hi (fun q hq => ?_) ?_
  · rw [List.take_left] at hq
    have := hn q (List.mem_of_mem_take hq)
    simpa using this
  · rw [gS_at hi, List.getElem_append_right (Nat.le_refl _)]
    simp
theorem join_leave {s : St} {w h : Int} {p : Pl} (he : (joinR s w h p).2 = 0) : leaveR (joinR s w h p).1 w h p.2 = if s.2.1.length = 0 then ((s.1, [], [], []), unitsR s.2.2.1, 0) else (s, 0, 0) := by
  have hv := join_valid he
  obtain ⟨h1, h2, h3, h4, h5, h6⟩ := joinR_ok he
  rw [leaveR, if_neg (show ¬ (validR (joinR s w h p).1 ≠ 0) by simp [hv]), if_neg (show ¬ (sizedR w h p.2 ≠ 0) by simp [h2]), h6]
  simp only
  rw [find_put h4, if_pos (by rw [putIn_len, List.length_take]; omega), leaveAt]
  have e : (putIn s.2.1 p).take (s.2.1.take (cntL s.2.1 p.2)).length ++ (putIn s.2.1 p).drop ((s.2.1.take (cntL s.2.1 p.2)).length + 1) = s.2.1 := by
    unfold putIn
    rw [List.take_left, ← List.drop_drop, List.drop_left, List.drop_succ_cons, List.drop_zero, List.take_append_drop]
  simp only [e]
theorem join_small {s : St} {w h : Int} {p : Pl} {m : Nat} (h0 : 0 < m) (h1 : s.2.1.length < m) (h2 : s.2.2.1.length < m) (h3 : s.2.2.2.length < m) : (joinR s w h p).1.2.1.length ≤ m ∧ (joinR s w h p).1.2.2.1.length ≤ m ∧ (joinR s w h p).1.2.2.2.length ≤ m := by
  unfold joinR
  repeat' split
  all_goals (simp <;> omega)
end
end Go.Proofs.Yteidanhfkaljaaa.Eng
set_option linter.unusedVariables false
namespace Go.Proofs.Yteidanhfkaljaaa.Eng
open Go
set_option maxRecDepth 100000
noncomputable section
def E8 : Env := ⟨tab, [(16, K16), (12, K12), (24, K24), (17, K17), (20, K20), (22, K22), (25, K25)], ann0⟩
def K8 : Fn1 := ⟨joinIn, .one .bool, fun _ => [], fun _ => true⟩
theorem k8 : FnOk Go.Proofs.Try.prog 8 K8 := by
  refine fn_ok (E := E8) (TOk.of tab_told) (AllOk.cons k16 (.cons k12 (.cons k24 (.cons k17 (.cons k20 (.cons k22 (.cons k25 .nil))))))).at_ mix Go.Proofs.Try.func8 rfl rfl (by kernel_rfl) K8 ?_
  rintro ⟨⟨(ow : Int), (ps : List Pl), (ws : List Pa), (rs : List Ra)⟩, (w : Int), (h : Int), ⟨(pk : Int), (pt : Int)⟩⟩ hp
  clear hp
  conv => whnf
  refine cond_intro (fun hg => ?_) (fun hg => ?_)
  · conv => whnf
    rfl
  have hg : largeR (ow, ps, ws, rs) = false := hg
  have hl := not_large hg
  obtain ⟨l1, l2, l3⟩ := hl
  have g1 : ps.length ≤ 100000 := by simp only at l1; omega
  have g2 : ws.length ≤ 100000 := by simp only at l2; omega
  have g3 : rs.length ≤ 100000 := by simp only at l3; omega
  obtain ⟨m1, m2, m3⟩ := join_small (s := (ow, ps, ws, rs)) (w := w) (h := h) (p := (pk, pt)) (m := 100000) (by omega) (by simp only at l1 ⊢; omega) (by simp only at l2 ⊢; omega) (by simp only at l3 ⊢; omega)
  conv => whnf
  refine ⟨g1, ?_⟩
  conv => whnf
  refine ⟨g2, ?_⟩
  conv => whnf
  refine ⟨g3, ?_⟩
  conv => whnf
  refine cond_intro (fun he => ?_) (fun he => ?_)
  · conv => whnf
    rfl
  have he : (!decide ((joinR (ow, ps, ws, rs) w h (pk, pt)).2 = 0)) = false := he
  have he : (joinR (ow, ps, ws, rs) w h (pk, pt)).2 = 0 := by simpa using he
  have c1 := join_covers he
  have c2 := join_leave he
  simp only at c1 c2
  conv => whnf
  refine ⟨m1, ?_⟩
  conv => whnf
  refine ⟨m2, ?_⟩
  conv => whnf
  refine ⟨m3, ?_⟩
  conv => whnf
  refine ⟨m1, ?_⟩
  conv => whnf
  refine ⟨m2, ?_⟩
  conv => whnf
  refine ⟨m3, ?_⟩
  conv => whnf
  refine cond_intro (fun q => ?_) (fun q => ?_)
  case refine_1 =>
    have q : (!decide ((coversR (joinR (ow, ps, ws, rs) w h (pk, pt)).1 w h pt).2 = 0)) = true := q
    rw [c1] at q; simp at q
  conv => whnf
  refine cond_intro (fun q => ?_) (fun q => ?_)
  case refine_1 =>
    have q : (!decide ((leaveR (joinR (ow, ps, ws, rs) w h (pk, pt)).1 w h pt).2.2 = 0)) = true := q
    rw [c2] at q; split at q <;> simp at q
  conv => whnf
  refine cond_intro (fun q => ?_) (fun q => ?_)
  case refine_1 =>
    have q : (!(coversR (joinR (ow, ps, ws, rs) w h (pk, pt)).1 w h pt).1) = true := q
    rw [c1] at q; simp at q
  conv => whnf
  refine cond_intro (fun hz => ?_) (fun hz => ?_)
  · have hz : 0 < (ps.length : Int) := @of_decide_eq_true _ _ hz
    rw [if_neg (by omega)] at c2
    conv => whnf
    refine cond_intro (fun q => ?_) (fun q => ?_)
    case refine_2 =>
      have q : ¬ (leaveR (joinR (ow, ps, ws, rs) w h (pk, pt)).1 w h pt).2.1 = 0 := @of_decide_eq_false _ _ q
      rw [c2] at q
      exact absurd rfl q
    conv => whnf
    refine ⟨show (leaveR (joinR (ow, ps, ws, rs) w h (pk, pt)).1 w h pt).1.2.1.length ≤ 100000 by rw [c2]; exact g1, ?_⟩
    conv => whnf
    refine ⟨show (leaveR (joinR (ow, ps, ws, rs) w h (pk, pt)).1 w h pt).1.2.2.1.length ≤ 100000 by rw [c2]; exact g2, ?_⟩
    conv => whnf
    refine ⟨show (leaveR (joinR (ow, ps, ws, rs) w h (pk, pt)).1 w h pt).1.2.2.2.length ≤ 100000 by rw [c2]; exact g3, ?_⟩
    conv => whnf
    refine cond_intro (fun q => ?_) (fun q => ?_)
    case refine_2 =>
      have q : sameSt (leaveR (joinR (ow, ps, ws, rs) w h (pk, pt)).1 w h pt).1 (ow, ps, ws, rs) = false := q
      rw [c2, sameSt_refl] at q
      cases q
    conv => whnf
    rfl
  have hz : ¬ 0 < (ps.length : Int) := @of_decide_eq_false _ _ hz
  rw [if_pos (by omega)] at c2
  conv => whnf
  refine ⟨g2, ?_⟩
  conv => whnf
  refine cond_intro (fun q => ?_) (fun q => ?_)
  case refine_2 =>
    have q : ¬ (leaveR (joinR (ow, ps, ws, rs) w h (pk, pt)).1 w h pt).2.1 = unitsR ws := @of_decide_eq_false _ _ q
    rw [c2] at q
    exact absurd rfl q
  conv => whnf
  refine cond_intro (fun q => ?_) (fun q => ?_)
  case refine_2 =>
    have q : ¬ ((leaveR (joinR (ow, ps, ws, rs) w h (pk, pt)).1 w h pt).1.2.1.length : Int) = 0 := @of_decide_eq_false _ _ q
    rw [c2] at q
    exact absurd rfl q
  conv => whnf
  refine cond_intro (fun q => ?_) (fun q => ?_)
  case refine_2 =>
    have q : ¬ ((leaveR (joinR (ow, ps, ws, rs) w h (pk, pt)).1 w h pt).1.2.2.1.length : Int) = 0 := @of_decide_eq_false _ _ q
    rw [c2] at q
    exact absurd rfl q
  conv => whnf
  refine cond_intro (fun q => ?_) (fun q => ?_)
  case refine_2 =>
    have q : ¬ ((leaveR (joinR (ow, ps, ws, rs) w h (pk, pt)).1 w h pt).1.2.2.2.length : Int) = 0 := @of_decide_eq_false _ _ q
    rw [c2] at q
    exact absurd rfl q
  conv => whnf
  refine cond_intro (fun q => ?_) (fun q => ?_)
  case refine_2 =>
    have q : ¬ (leaveR (joinR (ow, ps, ws, rs) w h (pk, pt)).1 w h pt).1.1 = ow := @of_decide_eq_false _ _ q
    rw [c2] at q
    exact absurd rfl q
  conv => whnf
  rfl
end
end Go.Proofs.Yteidanhfkaljaaa.Eng
set_option linter.unusedVariables false
namespace Go.Proofs.Yteidanhfkaljaaa.Eng
open Go
set_option maxRecDepth 100000
noncomputable section
theorem passL_append (sc : Int) : ∀ (l m : List Int) (left : Int), passL sc (l ++ m) left = passL sc m (passL sc l left)
  | [], m, left => rfl
  | x :: r, m, left => by
    rw [List.cons_append, passL, passL]
    split <;> exact passL_append sc r m _
theorem gI_cons_zero (x : Int) (l : List Int) : gI (x :: l) 0 = x := rfl
theorem gI_cons_succ (x : Int) (l : List Int) (i : Nat) : gI (x :: l) (i + 1) = gI l i := by unfold gI; simp
theorem passO_get (sc : Int) : ∀ (l os : List Int) (left : Int) (i : Nat), os.length = l.length → i < l.length → gI (passO sc l os left) i = gI os i + (if gI l i = sc ∧ passL sc (l.take i) left > 0 then 1 else 0)
  | x :: r, o :: os, left, 0, h, hi => by
    rw [passO, gI_cons_zero, gI_cons_zero, List.take_zero, passL]
    split <;> simp [gI_cons_zero]
  | x :: r, o :: os, left, i + 1, h, hi => by
    rw [passO, gI_cons_succ, gI_cons_succ, List.take_succ_cons, passL]
    have h' : os.length = r.length := by simpa using h
    have hi' : i < r.length := by simpa using hi
    by_cases c : x = sc ∧ left > 0
    · rw [if_pos c, if_pos c, gI_cons_succ]
      exact passO_get sc r os (left - 1) i h' hi'
    · rw [if_neg c, if_neg c, gI_cons_succ]
      exact passO_get sc r os left i h' hi'
  | [], _, _, _, _, hi => by simp at hi
  | _ :: _, [], _, _, h, _ => by simp at h
theorem passL_mono (sc : Int) (l : List Int) (left : Int) {k i : Nat} (h : k ≤ i) : passL sc (l.take i) left ≤ passL sc (l.take k) left := by
  have e : l.take i = l.take k ++ (l.take i).drop k := by
    have := List.take_append_drop k (l.take i)
    rw [List.take_take, Nat.min_eq_left h] at this
    exact this.symm
  rw [e, passL_append]
  exact (passL_ge sc _ _).1
theorem passL_mono' (sc : Int) (l : List Int) (left : Int) (k : Nat) : passL sc l left ≤ passL sc (l.take k) left := by
  have := passL_mono sc l left (k := k) (i := max k l.length) (by omega)
  rwa [List.take_of_length_le (by omega)] at this
theorem passL_nn (sc : Int) : ∀ (l : List Int) (left : Int), 0 ≤ left → 0 ≤ passL sc l left
  | [], left, h => h
  | x :: r, left, h => by
    rw [passL]
    split
    · exact passL_nn sc r _ (by omega)
    · exact passL_nn sc r _ h
theorem passO_sum (sc : Int) : ∀ (l os : List Int) (left : Int), os.length = l.length → sumL (passO sc l os left) = sumL os + (left - passL sc l left)
  | [], [], left, _ => by simp [passO, passL, sumL]
  | x :: r, o :: os, left, h => by
    have h' : os.length = r.length := by simpa using h
    rw [passO, passL]
    split
    · rw [sumL, sumL, passO_sum sc r os _ h']; omega
    · rw [sumL, sumL, passO_sum sc r os _ h']; omega
theorem spin_sum (L : List Int) : ∀ (d : Nat) (left : Int) (out : List Int), out.length = L.length → 0 ≤ left → left ≤ cnt (d : Int) L → sumL (spin L d left out) = sumL out + left
  | 0, left, out, _, h0, h1 => by
    have := cnt_zero L
    rw [spin]
    have e : ((0 : Nat) : Int) = 0 := rfl
    rw [e] at h1
    omega
  | d + 1, left, out, hl, h0, h1 => by
    have e : ((d + 1 : Nat) : Int) = (d : Int) + 1 := by omega
    rw [e] at h1
    rw [spin]
    split
    · have pc := passL_le (d : Int) (by omega) L left 0 (by omega) (by omega)
      rw [spin_sum L d _ _ (passO_len _ L out left hl) (passL_nn _ L left h0) (by omega), passO_sum _ L out left hl]
      omega
    · omega
/-- How far the sharing of what is left has come: all of a score above 'd' have had their turn. -/
structure SpinI (L c : List Int) (d : Int) (left : Int) (out : List Int) : Prop where
  len : out.length = L.length
  low : ∀ i, i < L.length → gI L i ≤ d → gI out i = gI c i
  hi : ∀ i, i < L.length → gI c i ≤ gI out i ∧ gI out i ≤ gI c i + 1
  ord : ∀ i k, i < L.length → k < L.length → (gI L i < gI L k ∨ (gI L k = gI L i ∧ k < i)) → gI out i - gI c i ≤ gI out k - gI c k
  full : left > 0 → ∀ i, i < L.length → d < gI L i → gI out i = gI c i + 1
theorem SpinI.step {L c : List Int} {d : Int} {left : Int} {out : List Int} (h : SpinI L c (d + 1) left out) (g : left > 0) : SpinI L c d (passL (d + 1) L left) (passO (d + 1) L out left) := by
  have hg : ∀ i, i < L.length → gI (passO (d + 1) L out left) i = gI out i + (if gI L i = d + 1 ∧ passL (d + 1) (L.take i) left > 0 then 1 else 0) := fun i hi => passO_get _ L out left i h.len hi
  refine ⟨passO_len _ L out left h.len, fun i hi hl => ?_, fun i hi => ?_, fun i k hi hk ho => ?_, fun gl i hi hd => ?_⟩
  · rw [hg i hi, if_neg (by omega), h.low i hi (by omega)]; omega
  · rw [hg i hi]
    have h1 := h.hi i hi
    split
    · rw [h.low i hi (by omega)]; omega
    · omega
  · rw [hg i hi, hg k hk]
    have h1 := h.ord i k hi hk ho
    have h2 := h.hi i hi
    have h3 := h.hi k hk
    by_cases ci : gI L i = d + 1 ∧ passL (d + 1) (L.take i) left > 0
    · rw [if_pos ci]
      have l1 := h.low i hi (by omega)
      by_cases ck : gI L k = d + 1 ∧ passL (d + 1) (L.take k) left > 0
      · rw [if_pos ck]
        have l2 := h.low k hk (by omega)
        omega
      · rw [if_neg ck]
        rcases ho with ho | ⟨ho, hki⟩
        · have := h.full g k hk (by omega)
          omega
        · exfalso
          have := passL_mono (d + 1) L left (Nat.le_of_lt hki)
          exact ck ⟨by omega, by omega⟩
    · rw [if_neg ci]
      split
      · rename_i ck
        have l2 := h.low k hk (by omega)
        have : gI L i ≤ d + 1 := by omega
        have l1 := h.low i hi this
        omega
      · omega
  · rw [hg i hi]
    by_cases e : gI L i = d + 1
    · have := passL_mono' (d + 1) L left i
      rw [if_pos ⟨e, by omega⟩, h.low i hi (by omega)]
    · rw [if_neg (fun q => e q.1)]
      have := h.full g i hi (by omega)
      omega
theorem SpinI.all {L c : List Int} : ∀ (d : Nat) {left : Int} {out : List Int}, SpinI L c (d : Int) left out → ∃ left', SpinI L c 0 left' (spin L d left out)
  | 0, left, out, h => ⟨left, h⟩
  | d + 1, left, out, h => by
    have e : ((d + 1 : Nat) : Int) = (d : Int) + 1 := by omega
    rw [e] at h
    rw [spin]
    by_cases g : left > 0
    · rw [if_pos g]
      exact SpinI.all d (h.step g)
    · rw [if_neg g]
      exact ⟨left, h.len, fun i hi hl => h.low i hi (by omega), h.hi, h.ord, fun q => absurd q g⟩
theorem gI_map {f : Int → Int} {l : List Int} {i : Nat} (h : i < l.length) : gI (l.map f) i = f (gI l i) := by
  rw [gI_eq h, gI_eq (by simpa using h)]; simp
theorem cut_mono {m s x y : Int} (m0 : 0 ≤ m) (s0 : 0 < s) (h : x ≤ y) : cut m s x ≤ cut m s y := by
  unfold cut
  exact Int.ediv_le_ediv s0 (Int.mul_le_mul_of_nonneg_left h m0)
theorem cuts_le {m s : Int} (s0 : 0 < s) : ∀ (l : List Int), s * sumL (l.map (cut m s)) ≤ m * sumL l
  | [] => by simp [sumL]
  | x :: r => by
    have ih := cuts_le (m := m) s0 r
    rw [List.map_cons, sumL, sumL, Int.mul_add, Int.mul_add]
    have : s * cut m s x ≤ m * x := by unfold cut; rw [Int.mul_comm]; exact Int.ediv_mul_le _ (by omega)
    omega
theorem sum0_all : ∀ (l : List Int), In255 l → sumL l = 0 → ∀ x ∈ l, x = 0
  | [], _, _ => by simp
  | y :: r, h, hs => by
    rw [sumL] at hs
    have hy := h y (by simp)
    have hr := sum_bd r (fun z hz => h z (by simp [hz]))
    intro x hx
    rcases List.mem_cons.1 hx with rfl | hx
    · omega
    · exact sum0_all r (fun z hz => h z (by simp [hz])) (by omega) x hx
theorem best0 : ∀ (l : List Int) (b : Int), (∀ x ∈ l, x = 0) → b = 0 → bestL b l = 0
  | [], b, _, h => h
  | y :: r, b, h, hb => by
    rw [bestL]
    refine best0 r _ (fun x hx => h x (by simp [hx])) ?_
    have := h y (by simp)
    unfold mx
    split <;> omega
theorem sumL_rep : ∀ (k : Nat), sumL (List.replicate k 0) = 0
  | 0 => rfl
  | k + 1 => by rw [List.replicate_succ, sumL, sumL_rep k]; rfl
theorem gI_rep {k i : Nat} : gI (List.replicate k 0) i = 0 := by
  unfold gI
  rw [List.getD_eq_getElem?_getD, List.getElem?_replicate]
  split <;> rfl
/-- What the law asks of the shares. -/
structure Fair (n : Int) (L out : List Int) : Prop where
  len : out.length = L.length
  bd : ∀ i, i < L.length → 0 ≤ gI out i ∧ gI out i ≤ 1000000000
  zero : ∀ i, i < L.length → gI L i = 0 → gI out i = 0
  ord : ∀ i k, i < L.length → k < i → (gI L i ≤ gI L k → gI out i ≤ gI out k) ∧ (gI L k < gI L i → gI out k ≤ gI out i)
  sum : sumL out = share n L
theorem split_fair {n : Int} {L : List Int} (he : (splitOf n L).2 = 0) : (0 ≤ n ∧ n ≤ 1000000) ∧ In255 L ∧ L.length ≤ 1000 ∧ Fair n L (splitOf n L).1 := by
  unfold splitOf at he ⊢
  by_cases hn : ¬ (0 ≤ n ∧ n ≤ 1000000)
  · rw [if_pos hn] at he; simp at he
  rw [if_neg hn] at he ⊢
  have hn := Classical.not_not.1 hn
  by_cases ha : allIn 255 L = false
  · rw [if_pos ha] at he; simp at he
  rw [if_neg ha] at he ⊢
  have hi : In255 L := in255 (by simpa using ha)
  by_cases hl : (L.length : Int) > 1000
  · rw [if_pos hl] at he; simp at he
  rw [if_neg hl]
  have hbest := best_bd L 0 hi (by omega) (by omega)
  have hsum := sum_bd L hi
  have hge := (best_ge L 0).2
  refine ⟨hn, hi, by omega, ?_⟩
  have hx : ∀ i, i < L.length → 0 ≤ gI L i ∧ gI L i ≤ 255 := fun i h => hi _ (by rw [gI_eq h]; exact List.getElem_mem _)
  by_cases hz : sumL L = 0
  · rw [if_pos hz]
    refine ⟨by simp, fun i h => ?_, fun i h _ => gI_rep, fun i k _ _ => ?_, ?_⟩
    · show 0 ≤ gI (List.replicate L.length 0) i ∧ _
      rw [gI_rep]; omega
    · show (_ → gI (List.replicate L.length 0) i ≤ gI (List.replicate L.length 0) k) ∧ (_ → gI (List.replicate L.length 0) k ≤ gI (List.replicate L.length 0) i)
      rw [gI_rep, gI_rep]; exact ⟨fun _ => Int.le_refl _, fun _ => Int.le_refl _⟩
    · show sumL (List.replicate L.length 0) = share n L
      rw [sumL_rep, share, best0 L 0 (sum0_all L hi hz) rfl]; simp
  rw [if_neg hz]
  have hnb : 0 ≤ n * bestL 0 L ∧ n * bestL 0 L ≤ 255000000 := ⟨Int.mul_nonneg hn.1 hbest.1, by
    have := Int.mul_le_mul hn.2 hbest.2 hbest.1 (show (0 : Int) ≤ 1000000 by omega)
    omega⟩
  have hmb : 0 ≤ share n L ∧ share n L ≤ 1000000 := by unfold share; omega
  have s0 : 0 < sumL L := by omega
  simp only
  generalize hm : share n L = m at *
  have hc : ∀ i, i < L.length → gI (L.map (cut m (sumL L))) i = cut m (sumL L) (gI L i) := fun i h => gI_map h
  have hcb : ∀ i, i < L.length → 0 ≤ cut m (sumL L) (gI L i) ∧ cut m (sumL L) (gI L i) ≤ 255000000 := fun i h => by
    have := cut_bd hmb.1 hmb.2 s0 (hx i h).1 (hx i h).2
    omega
  have hleft : 0 ≤ m - sumL (L.map (cut m (sumL L))) := by
    have h1 := cuts_le (m := m) s0 L
    rw [Int.mul_comm m] at h1
    have := Int.le_of_mul_le_mul_left h1 s0
    omega
  have hb : ((bestL 0 L).toNat : Int) = bestL 0 L := Int.toNat_of_nonneg hbest.1
  have hcnt : m - sumL (L.map (cut m (sumL L))) ≤ cnt ((bestL 0 L).toNat : Int) L := by
    refine left_le s0 rfl (fun x h => ⟨(hi x h).1, ?_⟩)
    have := hge x h
    omega
  obtain ⟨left', I⟩ := SpinI.all (L := L) (c := L.map (cut m (sumL L))) (bestL 0 L).toNat (left := m - sumL (L.map (cut m (sumL L)))) (out := L.map (cut m (sumL L))) ⟨by simp, fun i h _ => rfl, fun i h => by omega, fun i k h1 h2 _ => by omega, fun _ i h hd => by
    have := hge (gI L i) (by rw [gI_eq h]; exact List.getElem_mem _)
    omega⟩
  have hsp := spin_sum L (bestL 0 L).toNat (m - sumL (L.map (cut m (sumL L)))) (L.map (cut m (sumL L))) (by simp) hleft hcnt
  refine ⟨I.len, fun i h => ?_, fun i h e => ?_, fun i k h1 h2 => ⟨fun hle => ?_, fun hlt => ?_⟩, by rw [hsp, hm]; omega⟩
  · have := I.hi i h
    have := hcb i h
    rw [hc i h] at *
    omega
  · rw [I.low i h (by omega), hc i h, e]
    unfold cut; simp
  · have o := I.ord i k h1 (by omega) (by omega)
    rw [hc i h1, hc k (by omega)] at o
    have := cut_mono hmb.1 s0 hle
    omega
  · have o := I.ord k i (by omega) h1 (Or.inl hlt)
    rw [hc i h1, hc k (by omega)] at o
    have := cut_mono hmb.1 s0 (Int.le_of_lt hlt)
    omega
theorem split_empty {n : Int} {L : List Int} (he : ¬ (splitOf n L).2 = 0) : (splitOf n L).1.length = 0 := by
  unfold splitOf at he ⊢
  repeat' split
  all_goals (first | rfl | (exfalso; apply he; simp [*]))
theorem sum_take_bd {l : List Int} (h : ∀ i, i < l.length → 0 ≤ gI l i ∧ gI l i ≤ 1000000000) (k : Nat) : 0 ≤ sumL (l.take k) ∧ sumL (l.take k) ≤ 1000000000 * l.length := by
  have := sum_bd2 1000000000 (l.take k) (fun x hx => by
    obtain ⟨i, hi, e⟩ := List.mem_iff_getElem.1 (List.mem_of_mem_take hx)
    have := h i hi
    rw [gI_eq hi, e] at this
    exact this)
  have h2 : (l.take k).length ≤ l.length := by rw [List.length_take]; omega
  omega
end
end Go.Proofs.Yteidanhfkaljaaa.Eng
set_option linter.unusedVariables false
namespace Go.Proofs.Yteidanhfkaljaaa.Eng
open Go
set_option maxRecDepth 100000
noncomputable section
def E4 : Env := ⟨tab, [(13, K13), (12, K12)], fun n => match n with | 15 => some ([0, 1, 5, 7, 8, 9, 10, 11, 41, 42, 43], [], []) | 8 => some ([0, 1, 5, 7, 8, 41, 42, 43], [], []) | _ => none⟩
def K4 : Fn1 := ⟨.fld I (.one (.sl I)), .one .bool, fun (a : Int × List Int) => [a.2.length ≤ 140737488351232], fun _ => true⟩
def S4a (n : Int) (l out : List Int) (s b i : Int) : SL := ⟨[.int .i64 n, .sl I l, .undef, .undef, .undef, .own 0, .undef, .int .i64 s, .int .i64 b] ++ List.replicate 32 .undef ++ [.own 0, .int .i64 out.length, .int .i64 i] ++ List.replicate 77 .undef, [(0, .arr I out)], 1⟩
def S4b (n : Int) (l out : List Int) (s b i x k : Int) : SL := ⟨[.int .i64 n, .sl I l, .undef, .undef, .undef, .own 0, .undef, .int .i64 s, .int .i64 b, .int .i64 i, .int .i64 x, .int .i64 k] ++ List.replicate 29 .undef ++ [.own 0, .int .i64 out.length, .int .i64 i] ++ List.replicate 77 .undef, [(0, .arr I out)], 1⟩
theorem k4 : FnOk Go.Proofs.Try.prog 4 K4 := by
  refine fn_ok (E := E4) (TOk.of tab_told) (AllOk.cons k13 (.cons k12 .nil)).at_ mix Go.Proofs.Try.func4 rfl rfl (by kernel_rfl) K4 ?_
  rintro ⟨(n : Int), (l : List Int)⟩ hp
  have hl : l.length ≤ 140737488351232 := hp _ (List.mem_cons_self ..)
  clear hp
  conv => whnf
  refine ⟨hl, ?_⟩
  conv => whnf
  refine cond_intro (fun hq => ?_) (fun hq => ?_)
  · have hq : (!decide ((splitOf n l).2 = 0)) = true := hq
    have hq : ¬ (splitOf n l).2 = 0 := by simpa using hq
    have hz := split_empty hq
    conv => whnf
    refine cond_intro (fun q => ?_) (fun q => ?_)
    · conv => whnf
      rfl
    · have q : ¬ ((splitOf n l).1.length : Int) = 0 := @of_decide_eq_false _ _ q
      omega
  have hq : (!decide ((splitOf n l).2 = 0)) = false := hq
  have hq : (splitOf n l).2 = 0 := by simpa using hq
  obtain ⟨hn, hi, hk, F⟩ := split_fair hq
  have hlen := F.len
  conv => whnf
  refine cond_intro (fun q => ?_) (fun q => ?_)
  · have q : 2000 < (l.length : Int) := @of_decide_eq_true _ _ q
    omega
  conv => whnf
  refine cond_intro (fun q => ?_) (fun q => ?_)
  · have q : (!decide (((splitOf n l).1.length : Int) = l.length)) = true := q
    simp [hlen] at q
  conv => whnf
  have hbest := best_bd l 0 hi (by omega) (by omega)
  have hnb : 0 ≤ n * bestL 0 l ∧ n * bestL 0 l ≤ 255000000 := ⟨Int.mul_nonneg hn.1 hbest.1, by
    have := Int.mul_le_mul hn.2 hbest.2 hbest.1 (show (0 : Int) ≤ 1000000 by omega)
    omega⟩
  have hm : IntKind.i64.wrap (Int.tdiv (IntKind.i64.wrap (n * bestL 0 l)) 255) = share n l := by
    rw [wrap_eq (i := n * bestL 0 l) (by omega) (by omega), Int.tdiv_eq_ediv_of_nonneg hnb.1]
    unfold share
    exact wrap_eq (by omega) (by omega)
  refine loop_rule (fun i => S4a n l (splitOf n l).1 (sumL ((splitOf n l).1.take i.toNat)) (bestL 0 (l.take i.toNat)) i) (fun i => ((l.length : Int) - i).toNat) (fun i => 0 ≤ i ∧ i ≤ l.length) ?_ 0 (by kernel_rfl) ?_ ⟨by omega, by omega⟩
  case refine_2 => rfl
  rintro i ⟨h0, h1⟩
  conv => whnf
  refine cond_intro (fun hlt => ?_) (fun hge => ?_)
  · have hlt : i < ((splitOf n l).1.length : Int) := @of_decide_eq_true _ _ hlt
    have hN : i.toNat < l.length := by omega
    have hM : i.toNat < (splitOf n l).1.length := by omega
    have hw : IntKind.i64.wrap (i + 1) = i + 1 := wrap_eq (by omega) (by omega)
    have en : (i + 1).toNat = i.toNat + 1 := by omega
    have hsb := sum_take_bd (l := (splitOf n l).1) (fun j hj => F.bd j (by omega)) (i.toNat + 1)
    have hs1 : sumL ((splitOf n l).1.take (i.toNat + 1)) = sumL ((splitOf n l).1.take i.toNat) + gI (splitOf n l).1 i.toNat := by rw [take_succ_gI hM, sumL_snoc]
    have hb1 : bestL 0 (l.take (i.toNat + 1)) = mx (bestL 0 (l.take i.toNat)) (gI l i.toNat) := by rw [take_succ_gI hN, bestL_snoc]
    have hws : IntKind.i64.wrap (sumL ((splitOf n l).1.take i.toNat) + gI (splitOf n l).1 i.toNat) = sumL ((splitOf n l).1.take (i.toNat + 1)) := by rw [← hs1]; exact wrap_eq (by omega) (by omega)
    conv => whnf
    refine ⟨h0, ?_⟩
    conv => whnf
    refine ⟨hlt, ?_⟩
    conv => whnf
    refine ⟨h0, ?_⟩
    conv => whnf
    refine ⟨show i < (l.length : Int) by omega, ?_⟩
    conv => whnf
    refine cond_intro (fun q => ?_) (fun q => ?_)
    · have q : gI (splitOf n l).1 i.toNat < 0 := @of_decide_eq_true _ _ q
      have := (F.bd i.toNat hN).1
      omega
    conv => whnf
    refine ⟨h0, ?_⟩
    conv => whnf
    refine ⟨show i < (l.length : Int) by omega, ?_⟩
    conv => whnf
    refine cond_intro (fun q => ?_) (fun q => ?_)
    · have q : gI l i.toNat = 0 := @of_decide_eq_true _ _ q
      have hz := F.zero i.toNat hN q
      conv => whnf
      refine cond_intro (fun r => ?_) (fun r => ?_)
      · have r : 0 < gI (splitOf n l).1 i.toNat := @of_decide_eq_true _ _ r
        omega
      conv => whnf
      refine loop_rule (fun k => S4b n l (splitOf n l).1 (sumL ((splitOf n l).1.take (i.toNat + 1))) (bestL 0 (l.take (i.toNat + 1))) i (gI (splitOf n l).1 i.toNat) k) (fun k => (i - k).toNat) (fun k => 0 ≤ k ∧ k ≤ i) ?_ 0 (by kernel_rfl) ?_ ⟨by omega, by omega⟩
      case refine_2 =>
        exact Eq.trans (b := S4b n l (splitOf n l).1 (IntKind.i64.wrap (sumL ((splitOf n l).1.take i.toNat) + gI (splitOf n l).1 i.toNat)) (mx (bestL 0 (l.take i.toNat)) (gI l i.toNat)) i (gI (splitOf n l).1 i.toNat) 0) rfl (by rw [hws, hb1])
      rintro k ⟨k0, k1⟩
      conv => whnf
      refine cond_intro (fun hkl => ?_) (fun hkg => ?_)
      · have hkl : k < i := @of_decide_eq_true _ _ hkl
        have hwk : IntKind.i64.wrap (k + 1) = k + 1 := wrap_eq (by omega) (by omega)
        obtain ⟨f1, f2⟩ := F.ord i.toNat k.toNat hN (by omega)
        conv => whnf
        refine ⟨k0, ?_⟩
        conv => whnf
        refine ⟨show k < (l.length : Int) by omega, ?_⟩
        conv => whnf
        refine ⟨h0, ?_⟩
        conv => whnf
        refine ⟨show i < (l.length : Int) by omega, ?_⟩
        conv => whnf
        refine cond_intro (fun c1 => ?_) (fun c1 => ?_)
        · have c1 : gI l i.toNat ≤ gI l k.toNat := @of_decide_eq_true _ _ c1
          conv => whnf
          refine ⟨k0, ?_⟩
          conv => whnf
          refine ⟨show k < ((splitOf n l).1.length : Int) by omega, ?_⟩
          conv => whnf
          refine cond_intro (fun c2 => ?_) (fun c2 => ?_)
          · have c2 : gI (splitOf n l).1 k.toNat < gI (splitOf n l).1 i.toNat := @of_decide_eq_true _ _ c2
            have := f1 c1
            omega
          conv => whnf
          refine ⟨h0, ?_⟩
          conv => whnf
          refine ⟨show i < (l.length : Int) by omega, ?_⟩
          conv => whnf
          refine ⟨k0, ?_⟩
          conv => whnf
          refine ⟨show k < (l.length : Int) by omega, ?_⟩
          conv => whnf
          refine cond_intro (fun c3 => ?_) (fun c3 => ?_)
          · have c3 : gI l k.toNat < gI l i.toNat := @of_decide_eq_true _ _ c3
            omega
          conv => whnf
          refine ⟨k + 1, ?_, ⟨by omega, by omega⟩, by omega⟩
          exact Eq.trans (b := S4b n l (splitOf n l).1 (sumL ((splitOf n l).1.take (i.toNat + 1))) (bestL 0 (l.take (i.toNat + 1))) i (gI (splitOf n l).1 i.toNat) (IntKind.i64.wrap (k + 1))) rfl (by rw [hwk])
        conv => whnf
        refine ⟨h0, ?_⟩
        conv => whnf
        refine ⟨show i < (l.length : Int) by omega, ?_⟩
        conv => whnf
        refine ⟨k0, ?_⟩
        conv => whnf
        refine ⟨show k < (l.length : Int) by omega, ?_⟩
        conv => whnf
        refine cond_intro (fun c3 => ?_) (fun c3 => ?_)
        · have c3 : gI l k.toNat < gI l i.toNat := @of_decide_eq_true _ _ c3
          conv => whnf
          refine ⟨k0, ?_⟩
          conv => whnf
          refine ⟨show k < ((splitOf n l).1.length : Int) by omega, ?_⟩
          conv => whnf
          refine cond_intro (fun c4 => ?_) (fun c4 => ?_)
          · have c4 : gI (splitOf n l).1 i.toNat < gI (splitOf n l).1 k.toNat := @of_decide_eq_true _ _ c4
            have := f2 c3
            omega
          conv => whnf
          refine ⟨k + 1, ?_, ⟨by omega, by omega⟩, by omega⟩
          exact Eq.trans (b := S4b n l (splitOf n l).1 (sumL ((splitOf n l).1.take (i.toNat + 1))) (bestL 0 (l.take (i.toNat + 1))) i (gI (splitOf n l).1 i.toNat) (IntKind.i64.wrap (k + 1))) rfl (by rw [hwk])
        conv => whnf
        refine ⟨k + 1, ?_, ⟨by omega, by omega⟩, by omega⟩
        exact Eq.trans (b := S4b n l (splitOf n l).1 (sumL ((splitOf n l).1.take (i.toNat + 1))) (bestL 0 (l.take (i.toNat + 1))) i (gI (splitOf n l).1 i.toNat) (IntKind.i64.wrap (k + 1))) rfl (by rw [hwk])
      conv => whnf
      refine ⟨i + 1, ?_, ⟨by omega, by omega⟩, by omega⟩
      exact Eq.trans (b := S4a n l (splitOf n l).1 (sumL ((splitOf n l).1.take (i.toNat + 1))) (bestL 0 (l.take (i.toNat + 1))) (IntKind.i64.wrap (i + 1))) rfl (by rw [hw, en])
    conv => whnf
    refine loop_rule (fun k => S4b n l (splitOf n l).1 (sumL ((splitOf n l).1.take (i.toNat + 1))) (bestL 0 (l.take (i.toNat + 1))) i (gI (splitOf n l).1 i.toNat) k) (fun k => (i - k).toNat) (fun k => 0 ≤ k ∧ k ≤ i) ?_ 0 (by kernel_rfl) ?_ ⟨by omega, by omega⟩
    case refine_2 =>
      exact Eq.trans (b := S4b n l (splitOf n l).1 (IntKind.i64.wrap (sumL ((splitOf n l).1.take i.toNat) + gI (splitOf n l).1 i.toNat)) (mx (bestL 0 (l.take i.toNat)) (gI l i.toNat)) i (gI (splitOf n l).1 i.toNat) 0) rfl (by rw [hws, hb1])
    rintro k ⟨k0, k1⟩
    conv => whnf
    refine cond_intro (fun hkl => ?_) (fun hkg => ?_)
    · have hkl : k < i := @of_decide_eq_true _ _ hkl
      have hwk : IntKind.i64.wrap (k + 1) = k + 1 := wrap_eq (by omega) (by omega)
      obtain ⟨f1, f2⟩ := F.ord i.toNat k.toNat hN (by omega)
      conv => whnf
      refine ⟨k0, ?_⟩
      conv => whnf
      refine ⟨show k < (l.length : Int) by omega, ?_⟩
      conv => whnf
      refine ⟨h0, ?_⟩
      conv => whnf
      refine ⟨show i < (l.length : Int) by omega, ?_⟩
      conv => whnf
      refine cond_intro (fun c1 => ?_) (fun c1 => ?_)
      · have c1 : gI l i.toNat ≤ gI l k.toNat := @of_decide_eq_true _ _ c1
        conv => whnf
        refine ⟨k0, ?_⟩
        conv => whnf
        refine ⟨show k < ((splitOf n l).1.length : Int) by omega, ?_⟩
        conv => whnf
        refine cond_intro (fun c2 => ?_) (fun c2 => ?_)
        · have c2 : gI (splitOf n l).1 k.toNat < gI (splitOf n l).1 i.toNat := @of_decide_eq_true _ _ c2
          have := f1 c1
          omega
        conv => whnf
        refine ⟨h0, ?_⟩
        conv => whnf
        refine ⟨show i < (l.length : Int) by omega, ?_⟩
        conv => whnf
        refine ⟨k0, ?_⟩
        conv => whnf
        refine ⟨show k < (l.length : Int) by omega, ?_⟩
        conv => whnf
        refine cond_intro (fun c3 => ?_) (fun c3 => ?_)
        · have c3 : gI l k.toNat < gI l i.toNat := @of_decide_eq_true _ _ c3
          omega
        conv => whnf
        refine ⟨k + 1, ?_, ⟨by omega, by omega⟩, by omega⟩
        exact Eq.trans (b := S4b n l (splitOf n l).1 (sumL ((splitOf n l).1.take (i.toNat + 1))) (bestL 0 (l.take (i.toNat + 1))) i (gI (splitOf n l).1 i.toNat) (IntKind.i64.wrap (k + 1))) rfl (by rw [hwk])
      conv => whnf
      refine ⟨h0, ?_⟩
      conv => whnf
      refine ⟨show i < (l.length : Int) by omega, ?_⟩
      conv => whnf
      refine ⟨k0, ?_⟩
      conv => whnf
      refine ⟨show k < (l.length : Int) by omega, ?_⟩
      conv => whnf
      refine cond_intro (fun c3 => ?_) (fun c3 => ?_)
      · have c3 : gI l k.toNat < gI l i.toNat := @of_decide_eq_true _ _ c3
        conv => whnf
        refine ⟨k0, ?_⟩
        conv => whnf
        refine ⟨show k < ((splitOf n l).1.length : Int) by omega, ?_⟩
        conv => whnf
        refine cond_intro (fun c4 => ?_) (fun c4 => ?_)
        · have c4 : gI (splitOf n l).1 i.toNat < gI (splitOf n l).1 k.toNat := @of_decide_eq_true _ _ c4
          have := f2 c3
          omega
        conv => whnf
        refine ⟨k + 1, ?_, ⟨by omega, by omega⟩, by omega⟩
        exact Eq.trans (b := S4b n l (splitOf n l).1 (sumL ((splitOf n l).1.take (i.toNat + 1))) (bestL 0 (l.take (i.toNat + 1))) i (gI (splitOf n l).1 i.toNat) (IntKind.i64.wrap (k + 1))) rfl (by rw [hwk])
      conv => whnf
      refine ⟨k + 1, ?_, ⟨by omega, by omega⟩, by omega⟩
      exact Eq.trans (b := S4b n l (splitOf n l).1 (sumL ((splitOf n l).1.take (i.toNat + 1))) (bestL 0 (l.take (i.toNat + 1))) i (gI (splitOf n l).1 i.toNat) (IntKind.i64.wrap (k + 1))) rfl (by rw [hwk])
    conv => whnf
    refine ⟨i + 1, ?_, ⟨by omega, by omega⟩, by omega⟩
    exact Eq.trans (b := S4a n l (splitOf n l).1 (sumL ((splitOf n l).1.take (i.toNat + 1))) (bestL 0 (l.take (i.toNat + 1))) (IntKind.i64.wrap (i + 1))) rfl (by rw [hw, en])
  have hge : ¬ i < ((splitOf n l).1.length : Int) := @of_decide_eq_false _ _ hge
  rw [List.take_of_length_le (show (splitOf n l).1.length ≤ i.toNat by omega), List.take_of_length_le (show l.length ≤ i.toNat by omega)]
  conv => whnf
  refine ⟨show (255 : Int) ≠ 0 by decide, ?_⟩
  conv => whnf
  refine cond_intro (fun q => ?_) (fun q => ?_)
  · conv => whnf
    rfl
  · have q : ¬ sumL (splitOf n l).1 = IntKind.i64.wrap (Int.tdiv (IntKind.i64.wrap (n * bestL 0 l)) 255) := @of_decide_eq_false _ _ q
    rw [hm] at q
    exact absurd F.sum q
end
end Go.Proofs.Yteidanhfkaljaaa.Eng
/- The law StopSplitsFair: it answers true for every input, and its arguments read afterwards as they did. The row, out of the contract of the law's function (written by row.py, a program of these sessions). -/
namespace Go.Proofs.Yteidanhfkaljaaa.stopSplitsFair
open Go.ChangeShapes Go.WideShapes Go.ChangeAt Go.RowKit Go.Proofs.Yteidanhfkaljaaa Go.Proofs.Yteidanhfkaljaaa.Eng
open Go.ChangeMaps (open_string shut_string)
set_option linter.unusedVariables false
theorem own : ownKnob Try.prog.godebug = none := by kernel_rfl
theorem laidOut : laidOutB Try.prog = true := by kernel_rfl
set_option maxRecDepth 100000 in
set_option maxHeartbeats 1000000 in
theorem lifted (os : Os) (started : os.Started) (H : Type) (enc : TypeId × Value → H) :
    ReturnsInHanded {} Try.checked os 4 .any (Rows.stopSplitsFairSpec.pre6 enc Try.prog Try.f4 Rows.stopSplitsFairRow.domain false) (Rows.stopSplitsFairSpec.post enc Try.prog Try.f4 false true false false) := by
  refine returnsInHanded_of_change_sized (C := Try.checked) own started (by kernel_rfl) Try.func4
    (ChangeSpec.witness6 (enc := enc) (C := Try.checked) false ⟨#[], #[.int .i64 0, .slice none 0 0], []⟩ 8 (by kernel_rfl) (by kernel_rfl) (by kernel_rfl) (by kernel_rfl)) ?_
  intro W base args ds gs before hval0 hW hcnd hsz0 _
  have hsz : (DataW.weightsEach Try.prog (Try.f4.params.toList ++ Rows.stopSplitsFairSpec.plain.varTypes Try.prog) (ds ++ gs)).all (· ≤ reachBytes) = true := hsz0
  have hval : ∀ (j : Nat) t v, Try.f4.params[j]? = some t → args[j]? = some v → Value.okWide Try.prog W .any base t v := hval0
  have hW' := hW
  obtain ⟨p, q, hA0, hV, rfl, hfz, hnd⟩ := hW
  have hA : DataW.TrodAll enc Try.prog W 0 (fun _ => true) true Try.f4.params.toList args.toList ds p := hA0
  rw [Try.params4] at hA hval hsz
  obtain ⟨v0, vs0, d0, ds0, p0, q0, hargs, rfl, rfl, h0, r0⟩ := trodAll_cons hA
  obtain ⟨v1, vs1, d1, ds1, p1, q1, rfl, rfl, rfl, h1, r1⟩ := trodAll_cons r0
  obtain ⟨rfl, rfl, rfl⟩ := trodAll_nil r1
  obtain rfl : args = #[v0, v1] := by cases args; simp_all
  obtain ⟨rfl, rfl⟩ := trodVars_none hV
  obtain ⟨x0, rfl, rfl, rfl, g0⟩ := open_int Try.underlying3 (hval 0 3 v0 rfl rfl) h0
  have k1 := h1
  have lt1 : ∀ x ∈ p1, x.block < W.heap.size := by obtain ⟨m, hm⟩ := k1; exact DataW.trod_lt m _ _ _ hm
  obtain ⟨x1, R1, g1⟩ := open_row (ty := I) Try.underlying22 (by kernel_rfl) (hval 1 22 v1 rfl rfl) h1 hsz (j := 1) rfl rfl
  clear hA0 hval0 hsz0 hsz
  have hrv : RVs (St0 W) W (fun _ => none) (allRes K4.ins (x0, x1)) [_, _] := ⟨_, _, rfl, rfl, ⟨_, _, rfl, R1, rfl⟩⟩
  refine (law_calls k4 hrv (fun p hp => by cases hp with | head _ => exact g1.1 | tail _ h => cases h) rfl).mono fun e W' ⟨he, bel⟩ => ?_
  subst he
  exact ⟨_, rfl, _, _, _, [], _, [], hW', trodAll_mk1 (shut_bool Try.underlying4 _), (trodAll_cons_mk (shut_int Try.underlying3 g0) (trodAll_cons_mk (Below.trod laidOut (by kernel_rfl) (of_decide_eq_true (by kernel_rfl)) k1 bel lt1) trodAll_mk0)), rfl, bel.frame _, fun h => by cases h⟩
theorem over : Rows.stopSplitsFairRow.holds Try.pinned (OpenSpec.ofChange Rows.stopSplitsFairSpec) :=
  OpenClaim.holds_of_wide 4 Try.f4 rfl rfl rfl rfl rfl rfl rfl ⟨rfl, rfl, rfl, rfl, rfl⟩ rfl rfl rfl rfl rfl (by kernel_rfl) Try.func4 (by kernel_rfl)
    (of_decide_eq_true (by kernel_rfl)) (by unfold Func.isWrapper; first | (rw [if_pos (by decide +kernel)]; kernel_rfl) | (rw [if_neg (by decide +kernel)]; exact ⟨rfl, rfl⟩))
    (fun os started H enc _ => lifted os started H enc)
theorem proved : Rows.StopSplitsFairSaid := over
#print axioms proved
end Go.Proofs.Yteidanhfkaljaaa.stopSplitsFair
namespace Go.Proofs.Yteidanhfkaljaaa
/-- The row, under a short name, for the claim. -/
theorem stopSplitsFair_holds : Rows.StopSplitsFairSaid := stopSplitsFair.proved
end Go.Proofs.Yteidanhfkaljaaa
