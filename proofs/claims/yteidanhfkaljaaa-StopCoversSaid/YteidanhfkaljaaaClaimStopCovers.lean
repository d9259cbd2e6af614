/- The law StopCovers: it answers true for every input, and its arguments read afterwards as they did. The row, out of the contract of the law's function (written by row.py, a program of these sessions). -/
import Derived.Test.YteidanhfkaljaaaFnOne
import Derived.Test.YteidanhfkaljaaaRows
import Derived.WalkKit
import Derived.ProofKit
import Derived.OpenShut
import Derived.ShutString
import Derived.ChangeOld
import Derived.Below
import Derived.SizedLaws
set_option linter.unusedVariables false
set_option linter.unusedSimpArgs false
set_option linter.unusedVariables false
namespace Go.Proofs.Yteidanhfkaljaaa.Eng
open Go
set_option maxRecDepth 100000
noncomputable section
def E12 : Env := ⟨tab, [(13, K13), (24, K24)], ann0⟩
def K12 : Fn1 := ⟨.bool, .one .bool, fun _ => [], fun _ => true⟩
theorem split_ex : splitOf 10 [255, 85] = ([8, 2], 0) := by decide +kernel
theorem join_ex : (joinR ((1 : Int), ([] : List Pl), ([] : List Pa), ([] : List Ra)) 8 8 (1, 9)).1.2.1 = [(1, 9)] := by kernel_rfl
theorem k12 : FnOk Go.Proofs.Try.prog 12 K12 := by
  refine fn_ok (E := E12) (TOk.of tab_told) (AllOk.cons k13 (.cons k24 .nil)).at_ mix Go.Proofs.Try.func12 rfl rfl (by kernel_rfl) K12 ?_
  rintro (a : Bool) hp
  clear hp
  conv => whnf
  refine ⟨show [(255 : Int), 85].length ≤ 100000 by decide, ?_⟩
  conv => whnf
  refine ⟨Nat.zero_le 100000, ?_⟩
  conv => whnf
  refine ⟨Nat.zero_le 100000, ?_⟩
  conv => whnf
  refine ⟨Nat.zero_le 100000, ?_⟩
  conv => whnf
  refine ⟨show (0 : Int) ≤ 0 by decide, ?_⟩
  conv => whnf
  refine ⟨show (0 : Int) < ((splitOf 10 [255, 85]).1.length : Int) by rw [split_ex]; decide, ?_⟩
  conv => whnf
  refine ⟨show (0 : Int) ≤ 1 by decide, ?_⟩
  conv => whnf
  refine ⟨show (1 : Int) < ((splitOf 10 [255, 85]).1.length : Int) by rw [split_ex]; decide, ?_⟩
  conv => whnf
  refine ⟨show (0 : Int) ≤ 0 by decide, ?_⟩
  conv => whnf
  refine ⟨show (0 : Int) < ((joinR ((1 : Int), ([] : List Pl), ([] : List Pa), ([] : List Ra)) 8 8 (1, 9)).1.2.1.length : Int) by rw [join_ex]; decide, ?_⟩
  conv => whnf
  kernel_rfl
end
end Go.Proofs.Yteidanhfkaljaaa.Eng
set_option linter.unusedVariables false
namespace Go.Proofs.Yteidanhfkaljaaa.Eng
open Go
set_option maxRecDepth 100000
noncomputable section
def E3 : Env := ⟨tab, [(12, K12), (13, K13), (14, K14), (15, K15)], ann0⟩
def K3 : Fn1 := ⟨.fld I (.one (.sl I)), .one .bool, fun (a : Int × List Int) => [a.2.length ≤ 140737488351232], fun _ => true⟩
theorem k3 : FnOk Go.Proofs.Try.prog 3 K3 := by
  refine fn_ok (E := E3) (TOk.of tab_told) (AllOk.cons k12 (.cons k13 (.cons k14 (.cons k15 .nil)))).at_ mix Go.Proofs.Try.func3 rfl rfl (by kernel_rfl) K3 ?_
  rintro ⟨(n : Int), (l : List Int)⟩ hp
  have hl : l.length ≤ 140737488351232 := hp _ (List.mem_cons_self ..)
  clear hp
  conv => whnf
  refine cond_intro (fun hg => ?_) (fun hg => ?_)
  · conv => whnf
    rfl
  have hg : ¬ 2000 < (l.length : Int) := @of_decide_eq_false _ _ hg
  have hs := splitOf_len n l
  have h1 : l.length ≤ 100000 := by omega
  have h2 : (splitOf n l).1.length ≤ 100000 := by omega
  conv => whnf
  refine ⟨h1, ?_⟩
  conv => whnf
  refine ⟨h1, ?_⟩
  conv => whnf
  refine cond_intro (fun he => ?_) (fun he => ?_)
  · conv => whnf
    refine ⟨h2, ?_⟩
    conv => whnf
    refine cond_intro (fun hq => ?_) (fun hq => ?_)
    · conv => whnf
      rfl
    · have hq : eqI (splitOf n l).1 (splitOf n l).1 = false := hq
      simp [eqI] at hq
  · have he : ¬ (splitOf n l).2 = (splitOf n l).2 := @of_decide_eq_false _ _ he
    exact absurd rfl he
end
end Go.Proofs.Yteidanhfkaljaaa.Eng
set_option linter.unusedVariables false
namespace Go.Proofs.Yteidanhfkaljaaa.Eng
open Go
set_option maxRecDepth 100000
noncomputable section
def E5 : Env := ⟨tab, [(16, K16), (12, K12), (17, K17), (18, K18)], ann0⟩
def K5 : Fn1 := ⟨covIn, .one .bool, fun _ => [], fun _ => true⟩
theorem not_large {s : St} (h : largeR s = false) : s.2.1.length ≤ 2000 ∧ s.2.2.1.length ≤ 2000 ∧ s.2.2.2.length ≤ 2000 := by
  simp only [largeR, Bool.or_eq_false_iff, decide_eq_false_iff_not] at h
  omega
theorem k5 : FnOk Go.Proofs.Try.prog 5 K5 := by
  refine fn_ok (E := E5) (TOk.of tab_told) (AllOk.cons k16 (.cons k12 (.cons k17 (.cons k18 .nil)))).at_ mix Go.Proofs.Try.func5 rfl rfl (by kernel_rfl) K5 ?_
  rintro ⟨⟨(ow : Int), (ps : List Pl), (ws : List Pa), (rs : List Ra)⟩, (w : Int), (h : Int), (t : Int)⟩ hp
  clear hp
  conv => whnf
  refine cond_intro (fun hg => ?_) (fun hg => ?_)
  · conv => whnf
    rfl
  have hg : largeR (ow, ps, ws, rs) = false := hg
  have hl := not_large hg
  have g1 : ps.length ≤ 100000 := by have := hl.1; simp only at this; omega
  have g2 : ws.length ≤ 100000 := by have := hl.2.1; simp only at this; omega
  have g3 : rs.length ≤ 100000 := by have := hl.2.2; simp only at this; omega
  have hc := covers_same (ow, ps, ws, rs) w h t
  conv => whnf
  refine ⟨g1, ?_⟩
  conv => whnf
  refine ⟨g2, ?_⟩
  conv => whnf
  refine ⟨g3, ?_⟩
  conv => whnf
  refine ⟨g1, ?_⟩
  conv => whnf
  refine ⟨g2, ?_⟩
  conv => whnf
  refine ⟨g3, ?_⟩
  conv => whnf
  refine cond_intro (fun hq => ?_) (fun hq => ?_)
  · conv => whnf
    refine cond_intro (fun he => ?_) (fun he => ?_)
    · conv => whnf
      rfl
    · have he : ¬ (coversR (ow, ps, ws, rs) w h t).2 = (coversRefR (ow, ps, ws, rs) w h t).2 := @of_decide_eq_false _ _ he
      rw [hc] at he
      exact absurd rfl he
  · have hq : ((coversR (ow, ps, ws, rs) w h t).1 == (coversRefR (ow, ps, ws, rs) w h t).1) = false := hq
    rw [hc] at hq
    simp at hq
end
end Go.Proofs.Yteidanhfkaljaaa.Eng
/- The law StopCovers: it answers true for every input, and its arguments read afterwards as they did. The row, out of the contract of the law's function (written by row.py, a program of these sessions). -/
namespace Go.Proofs.Yteidanhfkaljaaa.stopCovers
open Go.ChangeShapes Go.WideShapes Go.ChangeAt Go.RowKit Go.Proofs.Yteidanhfkaljaaa Go.Proofs.Yteidanhfkaljaaa.Eng
open Go.ChangeMaps (open_string shut_string)
set_option linter.unusedVariables false
theorem own : ownKnob Try.prog.godebug = none := by kernel_rfl
theorem laidOut : laidOutB Try.prog = true := by kernel_rfl
set_option maxRecDepth 100000 in
set_option maxHeartbeats 1000000 in
theorem lifted (os : Os) (started : os.Started) (H : Type) (enc : TypeId × Value → H) :
    ReturnsInHanded {} Try.checked os 5 .any (Rows.stopCoversSpec.pre6 enc Try.prog Try.f5 Rows.stopCoversRow.domain false) (Rows.stopCoversSpec.post enc Try.prog Try.f5 false true false false) := by
  refine returnsInHanded_of_change_sized (C := Try.checked) own started (by kernel_rfl) Try.func5
    (ChangeSpec.witness6 (enc := enc) (C := Try.checked) false ⟨#[], #[.agg #[.int .i64 0, .slice none 0 0, .slice none 0 0, .slice none 0 0], .int .i64 0, .int .i64 0, .int .i64 0], []⟩ 8 (by kernel_rfl) (by kernel_rfl) (by kernel_rfl) (by kernel_rfl)) ?_
  intro W base args ds gs before hval0 hW hcnd hsz0 _
  have hsz : (DataW.weightsEach Try.prog (Try.f5.params.toList ++ Rows.stopCoversSpec.plain.varTypes Try.prog) (ds ++ gs)).all (· ≤ reachBytes) = true := hsz0
  have hval : ∀ (j : Nat) t v, Try.f5.params[j]? = some t → args[j]? = some v → Value.okWide Try.prog W .any base t v := hval0
  have hW' := hW
  obtain ⟨p, q, hA0, hV, rfl, hfz, hnd⟩ := hW
  have hA : DataW.TrodAll enc Try.prog W 0 (fun _ => true) true Try.f5.params.toList args.toList ds p := hA0
  rw [Try.params5] at hA hval hsz
  obtain ⟨v0, vs0, d0, ds0, p0, q0, hargs, rfl, rfl, h0, r0⟩ := trodAll_cons hA
  obtain ⟨v1, vs1, d1, ds1, p1, q1, rfl, rfl, rfl, h1, r1⟩ := trodAll_cons r0
  obtain ⟨v2, vs2, d2, ds2, p2, q2, rfl, rfl, rfl, h2, r2⟩ := trodAll_cons r1
  obtain ⟨v3, vs3, d3, ds3, p3, q3, rfl, rfl, rfl, h3, r3⟩ := trodAll_cons r2
  obtain ⟨rfl, rfl, rfl⟩ := trodAll_nil r3
  obtain rfl : args = #[v0, v1, v2, v3] := by cases args; simp_all
  obtain ⟨rfl, rfl⟩ := trodVars_none hV
  have k0 := h0
  have lt0 : ∀ x ∈ p0, x.block < W.heap.size := by obtain ⟨m, hm⟩ := k0; exact DataW.trod_lt m _ _ _ hm
  obtain ⟨x0, R0, g0⟩ := open_agg (ty := stT) Try.underlying33 (by kernel_rfl) (hval 0 33 v0 rfl rfl) h0 hsz (j := 0) rfl rfl
  obtain ⟨x1, rfl, rfl, rfl, g1⟩ := open_int Try.underlying3 (hval 1 3 v1 rfl rfl) h1
  obtain ⟨x2, rfl, rfl, rfl, g2⟩ := open_int Try.underlying3 (hval 2 3 v2 rfl rfl) h2
  obtain ⟨x3, rfl, rfl, rfl, g3⟩ := open_int Try.underlying3 (hval 3 3 v3 rfl rfl) h3
  clear hA0 hval0 hsz0 hsz
  have hrv : RVs (St0 W) W (fun _ => none) (allRes K5.ins (x0, x1, x2, x3)) [_, _, _, _] := ⟨_, _, rfl, R0, ⟨_, _, rfl, rfl, ⟨_, _, rfl, rfl, ⟨_, _, rfl, rfl, rfl⟩⟩⟩⟩
  refine (law_calls k5 hrv (fun p hp => by cases hp) rfl).mono fun e W' ⟨he, bel⟩ => ?_
  subst he
  exact ⟨_, rfl, _, _, _, [], _, [], hW', trodAll_mk1 (shut_bool Try.underlying4 _), (trodAll_cons_mk (Below.trod laidOut (by kernel_rfl) (of_decide_eq_true (by kernel_rfl)) k0 bel lt0) (trodAll_cons_mk (shut_int Try.underlying3 g1) (trodAll_cons_mk (shut_int Try.underlying3 g2) (trodAll_cons_mk (shut_int Try.underlying3 g3) trodAll_mk0)))), rfl, bel.frame _, fun h => by cases h⟩
theorem over : Rows.stopCoversRow.holds Try.pinned (OpenSpec.ofChange Rows.stopCoversSpec) :=
  OpenClaim.holds_of_wide 5 Try.f5 rfl rfl rfl rfl rfl rfl rfl ⟨rfl, rfl, rfl, rfl, rfl⟩ rfl rfl rfl rfl rfl (by kernel_rfl) Try.func5 (by kernel_rfl)
    (of_decide_eq_true (by kernel_rfl)) (by unfold Func.isWrapper; first | (rw [if_pos (by decide +kernel)]; kernel_rfl) | (rw [if_neg (by decide +kernel)]; exact ⟨rfl, rfl⟩))
    (fun os started H enc _ => lifted os started H enc)
theorem proved : Rows.StopCoversSaid := over
#print axioms proved
end Go.Proofs.Yteidanhfkaljaaa.stopCovers
namespace Go.Proofs.Yteidanhfkaljaaa
/-- The row, under a short name, for the claim. -/
theorem stopCovers_holds : Rows.StopCoversSaid := stopCovers.proved
end Go.Proofs.Yteidanhfkaljaaa
