/- The law RailWays: it answers true for every input, and its arguments read afterwards as they did. The row, out of the contract of the law's function (written by row.py, a program of these sessions). -/
import Derived.Test.YtbndaabjlfdfcaaFnOne
import Derived.Test.YtbndaabjlfdfcaaRows
import Derived.WalkKit
import Derived.ProofKit
import Derived.OpenShut
import Derived.ShutString
import Derived.ChangeOld
import Derived.Below
import Derived.SizedLaws
set_option linter.unusedVariables false
set_option linter.unusedSimpArgs false
set_option linter.unusedVariables false
set_option linter.unusedSimpArgs false
namespace Go.Proofs.Ytbndaabjlfdfcaa.Eng
open Go
set_option maxRecDepth 100000
noncomputable section
def K12 : Fn1 := ⟨.fld rlT (.one (.sl spT)), .one .bool, fun _ => [], fun _ => true⟩
theorem k12 : FnOk Go.Proofs.Try.prog 12 K12 := by
  refine fn_ok (E := (⟨tab, [(16, K16), (17, K17), (36, K36), (37, K37)], ann0⟩ : Env)) (TOk.of tab_told) (AllOk.cons k16 (.cons k17 (.cons k36 (.cons k37 .nil)))).at_ mix Go.Proofs.Try.func12 rfl rfl (by kernel_rfl) K12 ?_
  rintro ⟨⟨(w : Int), (h : Int), (l : List Int), (wl : List Bool)⟩, (q : List Sp)⟩ hp
  clear hp
  conv => whnf
  refine cond_intro (fun h1 => ?_) (fun h1 => ?_)
  · have h1 : (farR (w, h, l, wl)) = true := h1
    conv => whnf
    rfl
  have h1 : (farR (w, h, l, wl)) = false := h1
  conv => whnf
  refine cond_intro (fun h2 => ?_) (fun h2 => ?_)
  · have h2 : 3000 < (q.length : Int) := @of_decide_eq_true _ _ h2
    conv => whnf
    rfl
  have h2 : ¬ (3000 < (q.length : Int)) := @of_decide_eq_false _ _ h2
  have hq : q.length ≤ 140737488351232 := by omega
  conv => whnf
  refine ⟨hq, ?_⟩
  conv => whnf
  refine ⟨hq, ?_⟩
  conv => whnf
  refine cond_intro (fun h3 => ?_) (fun h3 => ?_)
  · have h3 : wayRefR (w, h, l, wl) q = wayR (w, h, l, wl) q := @of_decide_eq_true _ _ h3
    conv => whnf
    rfl
  have h3 : ¬ (wayRefR (w, h, l, wl) q = wayR (w, h, l, wl) q) := @of_decide_eq_false _ _ h3
  exact absurd (ways_same (w, h, l, wl) q) h3
end
end Go.Proofs.Ytbndaabjlfdfcaa.Eng
/- The law RailWays: it answers true for every input, and its arguments read afterwards as they did. The row, out of the contract of the law's function (written by row.py, a program of these sessions). -/
namespace Go.Proofs.Ytbndaabjlfdfcaa.railWays
open Go.ChangeShapes Go.WideShapes Go.ChangeAt Go.RowKit Go.Proofs.Ytbndaabjlfdfcaa Go.Proofs.Ytbndaabjlfdfcaa.Eng
open Go.ChangeMaps (open_string shut_string)
set_option linter.unusedVariables false
theorem own : ownKnob Try.prog.godebug = none := by kernel_rfl
theorem laidOut : laidOutB Try.prog = true := by kernel_rfl
set_option maxRecDepth 100000 in
set_option maxHeartbeats 1000000 in
theorem lifted (os : Os) (started : os.Started) (H : Type) (enc : TypeId × Value → H) :
    ReturnsInHanded {} Try.checked os 12 .any (Rows.railWaysSpec.pre6 enc Try.prog Try.f12 Rows.railWaysRow.domain false) (Rows.railWaysSpec.post enc Try.prog Try.f12 false true false false) := by
  refine returnsInHanded_of_change_sized (C := Try.checked) own started (by kernel_rfl) Try.func12
    (ChangeSpec.witness6 (enc := enc) (C := Try.checked) false ⟨#[], #[.agg #[.int .i64 0, .int .i64 0, .slice none 0 0, .slice none 0 0], .slice none 0 0], []⟩ 8 (by kernel_rfl) (by kernel_rfl) (by kernel_rfl) (by kernel_rfl)) ?_
  intro W base args ds gs before hval0 hW hcnd hsz0 _
  have hsz : (DataW.weightsEach Try.prog (Try.f12.params.toList ++ Rows.railWaysSpec.plain.varTypes Try.prog) (ds ++ gs)).all (· ≤ reachBytes) = true := hsz0
  have hval : ∀ (j : Nat) t v, Try.f12.params[j]? = some t → args[j]? = some v → Value.okWide Try.prog W .any base t v := hval0
  have hW' := hW
  obtain ⟨p, q, hA0, hV, rfl, hfz, hnd⟩ := hW
  have hA : DataW.TrodAll enc Try.prog W 0 (fun _ => true) true Try.f12.params.toList args.toList ds p := hA0
  rw [Try.params12] at hA hval hsz
  obtain ⟨v0, vs0, d0, ds0, p0, q0, hargs, rfl, rfl, h0, r0⟩ := trodAll_cons hA
  obtain ⟨v1, vs1, d1, ds1, p1, q1, rfl, rfl, rfl, h1, r1⟩ := trodAll_cons r0
  obtain ⟨rfl, rfl, rfl⟩ := trodAll_nil r1
  obtain rfl : args = #[v0, v1] := by cases args; simp_all
  obtain ⟨rfl, rfl⟩ := trodVars_none hV
  have k0 := h0
  have lt0 : ∀ x ∈ p0, x.block < W.heap.size := by obtain ⟨m, hm⟩ := k0; exact DataW.trod_lt m _ _ _ hm
  obtain ⟨x0, R0, g0⟩ := open_agg (ty := rlT) Try.underlying25 (by kernel_rfl) (hval 0 25 v0 rfl rfl) h0 hsz (j := 0) rfl rfl
  have k1 := h1
  have lt1 : ∀ x ∈ p1, x.block < W.heap.size := by obtain ⟨m, hm⟩ := k1; exact DataW.trod_lt m _ _ _ hm
  obtain ⟨x1, R1, g1⟩ := open_row (ty := spT) Try.underlying46 (by kernel_rfl) (hval 1 46 v1 rfl rfl) h1 hsz (j := 1) rfl rfl
  clear hA0 hval0 hsz0 hsz
  have hrv : RVs (St0 W) W (fun _ => none) (allRes K12.ins (x0, x1)) [_, _] := ⟨_, _, rfl, R0, ⟨_, _, rfl, R1, rfl⟩⟩
  refine (law_calls k12 hrv (fun p hp => by cases hp) rfl).mono fun e W' ⟨he, bel⟩ => ?_
  subst he
  exact ⟨_, rfl, _, _, _, [], _, [], hW', trodAll_mk1 (shut_bool Try.underlying4 _), (trodAll_cons_mk (Below.trod laidOut (by kernel_rfl) (of_decide_eq_true (by kernel_rfl)) k0 bel lt0) (trodAll_cons_mk (Below.trod laidOut (by kernel_rfl) (of_decide_eq_true (by kernel_rfl)) k1 bel lt1) trodAll_mk0)), rfl, bel.frame _, fun h => by cases h⟩
theorem over : Rows.railWaysRow.holds Try.pinned (OpenSpec.ofChange Rows.railWaysSpec) :=
  OpenClaim.holds_of_wide 12 Try.f12 rfl rfl rfl rfl rfl rfl rfl ⟨rfl, rfl, rfl, rfl, rfl⟩ rfl rfl rfl rfl rfl (by kernel_rfl) Try.func12 (by kernel_rfl)
    (of_decide_eq_true (by kernel_rfl)) (by unfold Func.isWrapper; first | (rw [if_pos (by decide +kernel)]; kernel_rfl) | (rw [if_neg (by decide +kernel)]; exact ⟨rfl, rfl⟩))
    (fun os started H enc _ => lifted os started H enc)
theorem proved : Rows.RailWaysSaid := over
#print axioms proved
end Go.Proofs.Ytbndaabjlfdfcaa.railWays
namespace Go.Proofs.Ytbndaabjlfdfcaa
/-- The row, under a short name, for the claim. -/
theorem railWays_holds : Rows.RailWaysSaid := railWays.proved
end Go.Proofs.Ytbndaabjlfdfcaa
