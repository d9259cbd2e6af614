/- The law StopScoresFall: it answers true for every input, and its arguments read afterwards as they did. The row, out of the contract of the law's function (written by row.py, a program of these sessions). -/
import Derived.Test.YteidanhfkaljaaaFnOne
import Derived.Test.YteidanhfkaljaaaRows
import Derived.WalkKit
import Derived.ProofKit
import Derived.OpenShut
import Derived.ShutString
import Derived.ChangeOld
import Derived.Below
import Derived.SizedLaws
set_option linter.unusedVariables false
set_option linter.unusedSimpArgs false
set_option linter.unusedVariables false
namespace Go.Proofs.Yteidanhfkaljaaa.Eng
open Go
set_option maxRecDepth 100000
noncomputable section
def E12 : Env := ⟨tab, [(13, K13), (24, K24)], ann0⟩
def K12 : Fn1 := ⟨.bool, .one .bool, fun _ => [], fun _ => true⟩
theorem split_ex : splitOf 10 [255, 85] = ([8, 2], 0) := by decide +kernel
theorem join_ex : (joinR ((1 : Int), ([] : List Pl), ([] : List Pa), ([] : List Ra)) 8 8 (1, 9)).1.2.1 = [(1, 9)] := by kernel_rfl
theorem k12 : FnOk Go.Proofs.Try.prog 12 K12 := by
  refine fn_ok (E := E12) (TOk.of tab_told) (AllOk.cons k13 (.cons k24 .nil)).at_ mix Go.Proofs.Try.func12 rfl rfl (by kernel_rfl) K12 ?_
  rintro (a : Bool) hp
  clear hp
  conv => whnf
  refine ⟨show [(255 : Int), 85].length ≤ 100000 by decide, ?_⟩
  conv => whnf
  refine ⟨Nat.zero_le 100000, ?_⟩
  conv => whnf
  refine ⟨Nat.zero_le 100000, ?_⟩
  conv => whnf
  refine ⟨Nat.zero_le 100000, ?_⟩
  conv => whnf
  refine ⟨show (0 : Int) ≤ 0 by decide, ?_⟩
  conv => whnf
  refine ⟨show (0 : Int) < ((splitOf 10 [255, 85]).1.length : Int) by rw [split_ex]; decide, ?_⟩
  conv => whnf
  refine ⟨show (0 : Int) ≤ 1 by decide, ?_⟩
  conv => whnf
  refine ⟨show (1 : Int) < ((splitOf 10 [255, 85]).1.length : Int) by rw [split_ex]; decide, ?_⟩
  conv => whnf
  refine ⟨show (0 : Int) ≤ 0 by decide, ?_⟩
  conv => whnf
  refine ⟨show (0 : Int) < ((joinR ((1 : Int), ([] : List Pl), ([] : List Pa), ([] : List Ra)) 8 8 (1, 9)).1.2.1.length : Int) by rw [join_ex]; decide, ?_⟩
  conv => whnf
  kernel_rfl
end
end Go.Proofs.Yteidanhfkaljaaa.Eng
set_option linter.unusedVariables false
namespace Go.Proofs.Yteidanhfkaljaaa.Eng
open Go
set_option maxRecDepth 100000
noncomputable section
def E3 : Env := ⟨tab, [(12, K12), (13, K13), (14, K14), (15, K15)], ann0⟩
def K3 : Fn1 := ⟨.fld I (.one (.sl I)), .one .bool, fun (a : Int × List Int) => [a.2.length ≤ 140737488351232], fun _ => true⟩
theorem k3 : FnOk Go.Proofs.Try.prog 3 K3 := by
  refine fn_ok (E := E3) (TOk.of tab_told) (AllOk.cons k12 (.cons k13 (.cons k14 (.cons k15 .nil)))).at_ mix Go.Proofs.Try.func3 rfl rfl (by kernel_rfl) K3 ?_
  rintro ⟨(n : Int), (l : List Int)⟩ hp
  have hl : l.length ≤ 140737488351232 := hp _ (List.mem_cons_self ..)
  clear hp
  conv => whnf
  refine cond_intro (fun hg => ?_) (fun hg => ?_)
  · conv => whnf
    rfl
  have hg : ¬ 2000 < (l.length : Int) := @of_decide_eq_false _ _ hg
  have hs := splitOf_len n l
  have h1 : l.length ≤ 100000 := by omega
  have h2 : (splitOf n l).1.length ≤ 100000 := by omega
  conv => whnf
  refine ⟨h1, ?_⟩
  conv => whnf
  refine ⟨h1, ?_⟩
  conv => whnf
  refine cond_intro (fun he => ?_) (fun he => ?_)
  · conv => whnf
    refine ⟨h2, ?_⟩
    conv => whnf
    refine cond_intro (fun hq => ?_) (fun hq => ?_)
    · conv => whnf
      rfl
    · have hq : eqI (splitOf n l).1 (splitOf n l).1 = false := hq
      simp [eqI] at hq
  · have he : ¬ (splitOf n l).2 = (splitOf n l).2 := @of_decide_eq_false _ _ he
    exact absurd rfl he
end
end Go.Proofs.Yteidanhfkaljaaa.Eng
set_option linter.unusedVariables false
namespace Go.Proofs.Yteidanhfkaljaaa.Eng
open Go
set_option maxRecDepth 100000
noncomputable section
def E5 : Env := ⟨tab, [(16, K16), (12, K12), (17, K17), (18, K18)], ann0⟩
def K5 : Fn1 := ⟨covIn, .one .bool, fun _ => [], fun _ => true⟩
theorem not_large {s : St} (h : largeR s = false) : s.2.1.length ≤ 2000 ∧ s.2.2.1.length ≤ 2000 ∧ s.2.2.2.length ≤ 2000 := by
  simp only [largeR, Bool.or_eq_false_iff, decide_eq_false_iff_not] at h
  omega
theorem k5 : FnOk Go.Proofs.Try.prog 5 K5 := by
  refine fn_ok (E := E5) (TOk.of tab_told) (AllOk.cons k16 (.cons k12 (.cons k17 (.cons k18 .nil)))).at_ mix Go.Proofs.Try.func5 rfl rfl (by kernel_rfl) K5 ?_
  rintro ⟨⟨(ow : Int), (ps : List Pl), (ws : List Pa), (rs : List Ra)⟩, (w : Int), (h : Int), (t : Int)⟩ hp
  clear hp
  conv => whnf
  refine cond_intro (fun hg => ?_) (fun hg => ?_)
  · conv => whnf
    rfl
  have hg : largeR (ow, ps, ws, rs) = false := hg
  have hl := not_large hg
  have g1 : ps.length ≤ 100000 := by have := hl.1; simp only at this; omega
  have g2 : ws.length ≤ 100000 := by have := hl.2.1; simp only at this; omega
  have g3 : rs.length ≤ 100000 := by have := hl.2.2; simp only at this; omega
  have hc := covers_same (ow, ps, ws, rs) w h t
  conv => whnf
  refine ⟨g1, ?_⟩
  conv => whnf
  refine ⟨g2, ?_⟩
  conv => whnf
  refine ⟨g3, ?_⟩
  conv => whnf
  refine ⟨g1, ?_⟩
  conv => whnf
  refine ⟨g2, ?_⟩
  conv => whnf
  refine ⟨g3, ?_⟩
  conv => whnf
  refine cond_intro (fun hq => ?_) (fun hq => ?_)
  · conv => whnf
    refine cond_intro (fun he => ?_) (fun he => ?_)
    · conv => whnf
      rfl
    · have he : ¬ (coversR (ow, ps, ws, rs) w h t).2 = (coversRefR (ow, ps, ws, rs) w h t).2 := @of_decide_eq_false _ _ he
      rw [hc] at he
      exact absurd rfl he
  · have hq : ((coversR (ow, ps, ws, rs) w h t).1 == (coversRefR (ow, ps, ws, rs) w h t).1) = false := hq
    rw [hc] at hq
    simp at hq
end
end Go.Proofs.Yteidanhfkaljaaa.Eng
set_option linter.unusedVariables false
namespace Go.Proofs.Yteidanhfkaljaaa.Eng
open Go
set_option maxRecDepth 100000
noncomputable section
def E42 : Env := ⟨tab, [], fun n => match n with | 2 => some ([0, 1, 2, 9, 10, 11], [], []) | _ => none⟩
def stepsR (n : Int) : List Int → List Int → Int
  | [], w :: _ => w
  | b :: bs, w :: ws => if n ≤ b then w else stepsR n bs ws
  | _, [] => 0
def K42 : Fn1 := ⟨.fld I (.fld (.sl I) (.one (.sl I))), .one I, fun (a : Int × List Int × List Int) => [a.2.1.length < a.2.2.length, a.2.2.length ≤ 100000], fun (a : Int × List Int × List Int) => stepsR a.1 a.2.1 a.2.2⟩
def S42 (n : Int) (b w : List Int) (i : Int) : SL := ⟨[.int .i64 n, .sl I b, .sl I w] ++ List.replicate 6 .undef ++ [.sl I b, .int .i64 b.length, .int .i64 i] ++ List.replicate 17 .undef, [], 0⟩
theorem steps_at {n : Int} {b w : List Int} {i : Nat} (hi : i < b.length) (hw : b.length < w.length) : stepsR n (b.drop i) (w.drop i) = if n ≤ gI b i then gI w i else stepsR n (b.drop (i + 1)) (w.drop (i + 1)) := by
  rw [List.drop_eq_getElem_cons hi, List.drop_eq_getElem_cons (show i < w.length by omega), stepsR, gI_eq hi, gI_eq (show i < w.length by omega)]
theorem k42 : FnOk Go.Proofs.Try.prog 42 K42 := by
  refine fn_ok (E := E42) (TOk.of tab_told) noK mix Go.Proofs.Try.func42 rfl rfl (by kernel_rfl) K42 ?_
  rintro ⟨(n : Int), (b : List Int), (w : List Int)⟩ hp
  have hl : b.length < w.length := hp _ (List.mem_cons_self ..)
  have hm : w.length ≤ 100000 := hp _ (List.mem_cons_of_mem _ (List.mem_cons_self ..))
  clear hp
  conv => whnf
  refine loop_rule (fun i => S42 n b w i) (fun i => ((b.length : Int) - i).toNat) (fun i => 0 ≤ i ∧ i ≤ b.length ∧ stepsR n (b.drop i.toNat) (w.drop i.toNat) = stepsR n b w) ?_ 0 (by kernel_rfl) ?_ ⟨by omega, by omega, rfl⟩
  case refine_2 => rfl
  rintro i ⟨h0, h1, h2⟩
  conv => whnf
  refine cond_intro (fun hlt => ?_) (fun hge => ?_)
  · have hlt : i < b.length := @of_decide_eq_true _ _ hlt
    have hw : IntKind.i64.wrap (i + 1) = i + 1 := wrap_eq (by omega) (by omega)
    have en : (i + 1).toNat = i.toNat + 1 := by omega
    rw [steps_at (by omega) hl] at h2
    conv => whnf
    refine ⟨h0, ?_⟩
    conv => whnf
    refine ⟨hlt, ?_⟩
    conv => whnf
    refine cond_intro (fun hq => ?_) (fun hq => ?_)
    · have hq : n ≤ gI b i.toNat := @of_decide_eq_true _ _ hq
      conv => whnf
      refine ⟨h0, ?_⟩
      conv => whnf
      refine ⟨show i < (w.length : Int) by omega, ?_⟩
      conv => whnf
      show gI w i.toNat = stepsR n b w
      rw [← h2, if_pos hq]
    · have hq : ¬ n ≤ gI b i.toNat := @of_decide_eq_false _ _ hq
      conv => whnf
      rw [if_neg hq] at h2
      refine ⟨i + 1, ?_, ⟨by omega, by omega, by rw [en]; exact h2⟩, by omega⟩
      exact Eq.trans (b := S42 n b w (IntKind.i64.wrap (i + 1))) rfl (by rw [hw])
  have hge : ¬ i < b.length := @of_decide_eq_false _ _ hge
  have ei : i.toNat = b.length := by omega
  conv => whnf
  refine ⟨show (0 : Int) ≤ (b.length : Int) by omega, ?_⟩
  conv => whnf
  refine ⟨show (b.length : Int) < (w.length : Int) by omega, ?_⟩
  conv => whnf
  show gI w (Int.toNat (b.length : Int)) = stepsR n b w
  rw [← h2, ei, List.drop_length, List.drop_eq_getElem_cons hl, stepsR, Int.toNat_natCast, gI_eq hl]
end
end Go.Proofs.Yteidanhfkaljaaa.Eng
set_option linter.unusedVariables false
namespace Go.Proofs.Yteidanhfkaljaaa.Eng
open Go
set_option maxRecDepth 100000
noncomputable section
def E19 : Env := ⟨tab, [(41, K41), (42, K42)], ann0⟩
def sV (v : Int) : Int := min2 (max2 (v - 85) 0 / 4) 43
def sA (d : Int) : Int := if d ≤ 3 then 33 else if d ≤ 6 then 25 else if d ≤ 12 then 12 else 0
def sB (d : Int) : Int := if d ≤ 0 then 130 else if d ≤ 6 then 95 else if d ≤ 12 then 50 else if d ≤ 21 then 25 else 0
def sC (w : Int) : Int := if w ≤ 64 then 40 else if w ≤ 128 then 30 else if w ≤ 256 then 10 else if w ≤ 512 then 0 else if w ≤ 1024 then -35 else -90
def sD (y : Int) : Int := if y ≤ 0 then 33 else if y ≤ 1 then 20 else if y ≤ 2 then 10 else 0
theorem sA_eq (d : Int) : stepsR d [3, 6, 12] [33, 25, 12, 0] = sA d := rfl
theorem sB_eq (d : Int) : stepsR d [0, 6, 12, 21] [130, 95, 50, 25, 0] = sB d := rfl
theorem sC_eq (d : Int) : stepsR d [64, 128, 256, 512, 1024] [40, 30, 10, 0, -35, -90] = sC d := rfl
theorem sD_eq (d : Int) : stepsR d [0, 1, 2] [33, 20, 10, 0] = sD d := rfl
theorem sA_bd (d : Int) : 0 ≤ sA d ∧ sA d ≤ 200 := by unfold sA; repeat' split
                                                      all_goals omega
theorem sB_bd (d : Int) : 0 ≤ sB d ∧ sB d ≤ 200 := by unfold sB; repeat' split
                                                      all_goals omega
theorem sC_bd (d : Int) : -90 ≤ sC d ∧ sC d ≤ 200 := by unfold sC; repeat' split
                                                        all_goals omega
theorem sD_bd (d : Int) : 0 ≤ sD d ∧ sD d ≤ 200 := by unfold sD; repeat' split
                                                      all_goals omega
theorem sV_bd (d : Int) : 0 ≤ sV d ∧ sV d ≤ 43 := by
  unfold sV min2 max2
  repeat' split
  all_goals omega
def scoreN (r : Ra) (w : Int) : Int := sV r.2.2.2.1 + sA r.2.2.1 + sB r.2.2.1 + sC w + sD r.2.2.2.2
def scoreR (r : Ra) (w : Int) : Int × Int := if w < 0 ∨ ratedR r = false then (0, 1) else (min2 (max2 (scoreN r w) 0) 255, 0)
theorem rated_iff (r : Ra) : ratedR r = true ↔ (0 ≤ r.1 ∧ r.1 ≤ 15) ∧ (0 ≤ r.2.1 ∧ r.2.1 ≤ 255) ∧ (0 ≤ r.2.2.1 ∧ r.2.2.1 ≤ 255) ∧ (0 ≤ r.2.2.2.1 ∧ r.2.2.2.1 ≤ 255) ∧ (0 ≤ r.2.2.2.2 ∧ r.2.2.2.2 ≤ 255) := by
  simp [ratedR, withinR, and_assoc]
def K19 : Fn1 := ⟨.fld raT (.one I), .fld I (.one I), fun _ => [], fun (a : Ra × Int) => scoreR a.1 a.2⟩
theorem k19 : FnOk Go.Proofs.Try.prog 19 K19 := by
  refine fn_ok (E := E19) (TOk.of tab_told) (AllOk.cons k41 (.cons k42 .nil)).at_ mix Go.Proofs.Try.func19 rfl rfl (by kernel_rfl) K19 ?_
  rintro ⟨⟨(rc : Int), (rs : Int), (rd : Int), (rv : Int), (ry : Int)⟩, (wt : Int)⟩ hp
  clear hp
  conv => whnf
  refine cond_intro (fun h1 => ?_) (fun h1 => ?_)
  · have h1 : wt < 0 := @of_decide_eq_true _ _ h1
    conv => whnf
    show (0, 1) = scoreR (rc, rs, rd, rv, ry) wt
    rw [scoreR, if_pos (Or.inl h1)]
  have h1 : ¬ wt < 0 := @of_decide_eq_false _ _ h1
  conv => whnf
  refine cond_intro (fun h2 => ?_) (fun h2 => ?_)
  · have h2 : (!ratedR (rc, rs, rd, rv, ry)) = true := h2
    conv => whnf
    show (0, 1) = scoreR (rc, rs, rd, rv, ry) wt
    rw [scoreR, if_pos (Or.inr (by simpa using h2))]
  have h2 : (!ratedR (rc, rs, rd, rv, ry)) = false := h2
  have h2 : ratedR (rc, rs, rd, rv, ry) = true := by simpa using h2
  conv => whnf
  refine ⟨show (4 : Int) ≠ 0 by decide, ?_⟩
  conv => whnf
  refine ⟨show (3 : Nat) < 4 by decide, ?_⟩
  conv => whnf
  refine ⟨show (4 : Nat) ≤ 100000 by decide, ?_⟩
  conv => whnf
  refine ⟨show (4 : Nat) < 5 by decide, ?_⟩
  conv => whnf
  refine ⟨show (5 : Nat) ≤ 100000 by decide, ?_⟩
  conv => whnf
  refine ⟨show (5 : Nat) < 6 by decide, ?_⟩
  conv => whnf
  refine ⟨show (6 : Nat) ≤ 100000 by decide, ?_⟩
  conv => whnf
  refine ⟨show (3 : Nat) < 4 by decide, ?_⟩
  conv => whnf
  refine ⟨show (4 : Nat) ≤ 100000 by decide, ?_⟩
  conv => whnf

  obtain ⟨_, _, _, q, _⟩ := (rated_iff _).1 h2
  simp only at q
  have a0 := sV_bd rv
  have a1 := sA_bd rd
  have a2 := sB_bd rd
  have a3 := sC_bd wt
  have a4 := sD_bd ry
  have e0 : min2 (IntKind.i64.wrap ((max2 (IntKind.i64.wrap (rv - 85)) 0).tdiv 4)) 43 = sV rv := by
    rw [wrap_eq (i := rv - 85) (by omega) (by omega)]
    have h0 : 0 ≤ max2 (rv - 85) 0 ∧ max2 (rv - 85) 0 ≤ 255 := by unfold max2; split <;> omega
    rw [Int.tdiv_eq_ediv_of_nonneg h0.1, wrap_eq (by omega) (by omega)]
    rfl
  show (min2 (max2 (IntKind.i64.wrap (IntKind.i64.wrap (IntKind.i64.wrap (IntKind.i64.wrap (min2 (IntKind.i64.wrap ((max2 (IntKind.i64.wrap (rv - 85)) 0).tdiv 4)) 43 + sA rd) + sB rd) + sC wt) + sD ry)) 0) 255, 0) = scoreR (rc, rs, rd, rv, ry) wt
  rw [scoreR, if_neg (by simp [h1, h2]), e0, wrap_eq (i := sV rv + sA rd) (by omega) (by omega), wrap_eq (i := sV rv + sA rd + sB rd) (by omega) (by omega), wrap_eq (i := sV rv + sA rd + sB rd + sC wt) (by omega) (by omega), wrap_eq (i := sV rv + sA rd + sB rd + sC wt + sD ry) (by omega) (by omega)]
  rfl
theorem score_bd (r : Ra) (w : Int) : 0 ≤ (scoreR r w).1 ∧ (scoreR r w).1 ≤ 255 := by
  unfold scoreR min2 max2
  repeat' split
  all_goals (simp only; omega)
theorem score_falls {r o : Ra} {w m : Int} (h1 : (scoreR r w).2 = 0) (h2 : (scoreR o m).2 = 0) (hd : r.2.2.1 ≤ o.2.2.1) (hy : r.2.2.2.2 ≤ o.2.2.2.2) (hw : w ≤ m) (hv : o.2.2.2.1 ≤ r.2.2.2.1) : (scoreR o m).1 ≤ (scoreR r w).1 := by
  by_cases c1 : w < 0 ∨ ratedR r = false
  · rw [scoreR, if_pos c1] at h1; simp at h1
  by_cases c2 : m < 0 ∨ ratedR o = false
  · rw [scoreR, if_pos c2] at h2; simp at h2
  rw [scoreR, scoreR, if_neg c1, if_neg c2]
  have aA : sA o.2.2.1 ≤ sA r.2.2.1 := by unfold sA; repeat' split
                                          all_goals omega
  have aB : sB o.2.2.1 ≤ sB r.2.2.1 := by unfold sB; repeat' split
                                          all_goals omega
  have aC : sC m ≤ sC w := by unfold sC; repeat' split
                              all_goals omega
  have aD : sD o.2.2.2.2 ≤ sD r.2.2.2.2 := by unfold sD; repeat' split
                                              all_goals omega
  have aV : sV o.2.2.2.1 ≤ sV r.2.2.2.1 := by
    unfold sV min2 max2
    repeat' split
    all_goals omega
  have aN : scoreN o m ≤ scoreN r w := by unfold scoreN; omega
  unfold min2 max2
  repeat' split
  all_goals (simp only; omega)
end
end Go.Proofs.Yteidanhfkaljaaa.Eng
set_option linter.unusedVariables false
namespace Go.Proofs.Yteidanhfkaljaaa.Eng
open Go
set_option maxRecDepth 100000
noncomputable section
def E6 : Env := ⟨tab, [(12, K12), (19, K19)], ann0⟩
def K6 : Fn1 := ⟨.fld raT (.fld raT (.fld I (.one I))), .one .bool, fun _ => [], fun _ => true⟩
theorem k6 : FnOk Go.Proofs.Try.prog 6 K6 := by
  refine fn_ok (E := E6) (TOk.of tab_told) (AllOk.cons k12 (.cons k19 .nil)).at_ mix Go.Proofs.Try.func6 rfl rfl (by kernel_rfl) K6 ?_
  rintro ⟨⟨(rc : Int), (rs : Int), (rd : Int), (rv : Int), (ry : Int)⟩, ⟨(oc : Int), (os : Int), (od : Int), (ov : Int), (oy : Int)⟩, (wt : Int), (mo : Int)⟩ hp
  clear hp
  have b1 := score_bd (rc, rs, rd, rv, ry) wt
  have b2 := score_bd (oc, os, od, ov, oy) mo
  have hf := fun h1 h2 h3 h4 h5 h6 => score_falls (r := (rc, rs, rd, rv, ry)) (o := (oc, os, od, ov, oy)) (w := wt) (m := mo) h1 h2 h3 h4 h5 h6
  conv => whnf
  refine cond_intro (fun h0 => ?_) (fun h0 => ?_)
  · conv => whnf
    rfl
  have h0 : (!decide ((scoreR (rc, rs, rd, rv, ry) wt).2 = 0)) = false := h0
  have h0 : (scoreR (rc, rs, rd, rv, ry) wt).2 = 0 := by simpa using h0
  conv => whnf
  refine cond_intro (fun h1 => ?_) (fun h1 => ?_)
  · conv => whnf
    rfl
  have h1 : (!decide ((scoreR (oc, os, od, ov, oy) mo).2 = 0)) = false := h1
  have h1 : (scoreR (oc, os, od, ov, oy) mo).2 = 0 := by simpa using h1
  conv => whnf
  refine cond_intro (fun h2 => ?_) (fun h2 => ?_)
  · conv => whnf
    rfl
  have h2 : decide (od < rd) = false := h2
  have h2 : ¬ od < rd := by simpa using h2
  conv => whnf
  refine cond_intro (fun h3 => ?_) (fun h3 => ?_)
  · conv => whnf
    rfl
  have h3 : decide (oy < ry) = false := h3
  have h3 : ¬ oy < ry := by simpa using h3
  conv => whnf
  refine cond_intro (fun h4 => ?_) (fun h4 => ?_)
  · conv => whnf
    rfl
  have h4 : decide (mo < wt) = false := h4
  have h4 : ¬ mo < wt := by simpa using h4
  conv => whnf
  refine cond_intro (fun h5 => ?_) (fun h5 => ?_)
  · conv => whnf
    rfl
  have h5 : decide (rv < ov) = false := h5
  have h5 : ¬ rv < ov := by simpa using h5
  have hg := hf h0 h1 (by show rd ≤ od; omega) (by show ry ≤ oy; omega) (by omega) (by show ov ≤ rv; omega)
  conv => whnf
  refine cond_intro (fun g => ?_) (fun g => ?_)
  case refine_2 =>
    have g : ¬ (scoreR (oc, os, od, ov, oy) mo).1 ≤ (scoreR (rc, rs, rd, rv, ry) wt).1 := @of_decide_eq_false _ _ g
    omega
  conv => whnf
  refine cond_intro (fun g => ?_) (fun g => ?_)
  case refine_2 =>
    have g : ¬ (scoreR (rc, rs, rd, rv, ry) wt).1 ≤ 255 := @of_decide_eq_false _ _ g
    omega
  conv => whnf
  refine cond_intro (fun g => ?_) (fun g => ?_)
  case refine_2 =>
    have g : ¬ 0 ≤ (scoreR (oc, os, od, ov, oy) mo).1 := @of_decide_eq_false _ _ g
    omega
  conv => whnf
  rfl
end
end Go.Proofs.Yteidanhfkaljaaa.Eng
/- The law StopScoresFall: it answers true for every input, and its arguments read afterwards as they did. The row, out of the contract of the law's function (written by row.py, a program of these sessions). -/
namespace Go.Proofs.Yteidanhfkaljaaa.stopScoresFall
open Go.ChangeShapes Go.WideShapes Go.ChangeAt Go.RowKit Go.Proofs.Yteidanhfkaljaaa Go.Proofs.Yteidanhfkaljaaa.Eng
open Go.ChangeMaps (open_string shut_string)
set_option linter.unusedVariables false
theorem own : ownKnob Try.prog.godebug = none := by kernel_rfl
theorem laidOut : laidOutB Try.prog = true := by kernel_rfl
set_option maxRecDepth 100000 in
set_option maxHeartbeats 1000000 in
theorem lifted (os : Os) (started : os.Started) (H : Type) (enc : TypeId × Value → H) :
    ReturnsInHanded {} Try.checked os 6 .any (Rows.stopScoresFallSpec.pre6 enc Try.prog Try.f6 Rows.stopScoresFallRow.domain false) (Rows.stopScoresFallSpec.post enc Try.prog Try.f6 false true false false) := by
  refine returnsInHanded_of_change_sized (C := Try.checked) own started (by kernel_rfl) Try.func6
    (ChangeSpec.witness6 (enc := enc) (C := Try.checked) false ⟨#[], #[.agg #[.int .i64 0, .int .i64 0, .int .i64 0, .int .i64 0, .int .i64 0], .agg #[.int .i64 0, .int .i64 0, .int .i64 0, .int .i64 0, .int .i64 0], .int .i64 0, .int .i64 0], []⟩ 8 (by kernel_rfl) (by kernel_rfl) (by kernel_rfl) (by kernel_rfl)) ?_
  intro W base args ds gs before hval0 hW hcnd hsz0 _
  have hsz : (DataW.weightsEach Try.prog (Try.f6.params.toList ++ Rows.stopScoresFallSpec.plain.varTypes Try.prog) (ds ++ gs)).all (· ≤ reachBytes) = true := hsz0
  have hval : ∀ (j : Nat) t v, Try.f6.params[j]? = some t → args[j]? = some v → Value.okWide Try.prog W .any base t v := hval0
  have hW' := hW
  obtain ⟨p, q, hA0, hV, rfl, hfz, hnd⟩ := hW
  have hA : DataW.TrodAll enc Try.prog W 0 (fun _ => true) true Try.f6.params.toList args.toList ds p := hA0
  rw [Try.params6] at hA hval hsz
  obtain ⟨v0, vs0, d0, ds0, p0, q0, hargs, rfl, rfl, h0, r0⟩ := trodAll_cons hA
  obtain ⟨v1, vs1, d1, ds1, p1, q1, rfl, rfl, rfl, h1, r1⟩ := trodAll_cons r0
  obtain ⟨v2, vs2, d2, ds2, p2, q2, rfl, rfl, rfl, h2, r2⟩ := trodAll_cons r1
  obtain ⟨v3, vs3, d3, ds3, p3, q3, rfl, rfl, rfl, h3, r3⟩ := trodAll_cons r2
  obtain ⟨rfl, rfl, rfl⟩ := trodAll_nil r3
  obtain rfl : args = #[v0, v1, v2, v3] := by cases args; simp_all
  obtain ⟨rfl, rfl⟩ := trodVars_none hV
  have k0 := h0
  have lt0 : ∀ x ∈ p0, x.block < W.heap.size := by obtain ⟨m, hm⟩ := k0; exact DataW.trod_lt m _ _ _ hm
  obtain ⟨x0, R0, g0⟩ := open_agg (ty := raT) Try.underlying39 (by kernel_rfl) (hval 0 39 v0 rfl rfl) h0 hsz (j := 0) rfl rfl
  have k1 := h1
  have lt1 : ∀ x ∈ p1, x.block < W.heap.size := by obtain ⟨m, hm⟩ := k1; exact DataW.trod_lt m _ _ _ hm
  obtain ⟨x1, R1, g1⟩ := open_agg (ty := raT) Try.underlying39 (by kernel_rfl) (hval 1 39 v1 rfl rfl) h1 hsz (j := 1) rfl rfl
  obtain ⟨x2, rfl, rfl, rfl, g2⟩ := open_int Try.underlying3 (hval 2 3 v2 rfl rfl) h2
  obtain ⟨x3, rfl, rfl, rfl, g3⟩ := open_int Try.underlying3 (hval 3 3 v3 rfl rfl) h3
  clear hA0 hval0 hsz0 hsz
  have hrv : RVs (St0 W) W (fun _ => none) (allRes K6.ins (x0, x1, x2, x3)) [_, _, _, _] := ⟨_, _, rfl, R0, ⟨_, _, rfl, R1, ⟨_, _, rfl, rfl, ⟨_, _, rfl, rfl, rfl⟩⟩⟩⟩
  refine (law_calls k6 hrv (fun p hp => by cases hp) rfl).mono fun e W' ⟨he, bel⟩ => ?_
  subst he
  exact ⟨_, rfl, _, _, _, [], _, [], hW', trodAll_mk1 (shut_bool Try.underlying4 _), (trodAll_cons_mk (Below.trod laidOut (by kernel_rfl) (of_decide_eq_true (by kernel_rfl)) k0 bel lt0) (trodAll_cons_mk (Below.trod laidOut (by kernel_rfl) (of_decide_eq_true (by kernel_rfl)) k1 bel lt1) (trodAll_cons_mk (shut_int Try.underlying3 g2) (trodAll_cons_mk (shut_int Try.underlying3 g3) trodAll_mk0)))), rfl, bel.frame _, fun h => by cases h⟩
theorem over : Rows.stopScoresFallRow.holds Try.pinned (OpenSpec.ofChange Rows.stopScoresFallSpec) :=
  OpenClaim.holds_of_wide 6 Try.f6 rfl rfl rfl rfl rfl rfl rfl ⟨rfl, rfl, rfl, rfl, rfl⟩ rfl rfl rfl rfl rfl (by kernel_rfl) Try.func6 (by kernel_rfl)
    (of_decide_eq_true (by kernel_rfl)) (by unfold Func.isWrapper; first | (rw [if_pos (by decide +kernel)]; kernel_rfl) | (rw [if_neg (by decide +kernel)]; exact ⟨rfl, rfl⟩))
    (fun os started H enc _ => lifted os started H enc)
theorem proved : Rows.StopScoresFallSaid := over
#print axioms proved
end Go.Proofs.Yteidanhfkaljaaa.stopScoresFall
namespace Go.Proofs.Yteidanhfkaljaaa
/-- The row, under a short name, for the claim. -/
theorem stopScoresFall_holds : Rows.StopScoresFallSaid := stopScoresFall.proved
end Go.Proofs.Yteidanhfkaljaaa
