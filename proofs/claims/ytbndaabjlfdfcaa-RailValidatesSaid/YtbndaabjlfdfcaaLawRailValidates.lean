/- The law RailValidates: it answers true for every input, and its arguments read afterwards as they did. The row, out of the pure statement and the walk (written by a program of this session's: mylaw.py). -/
import Derived.Test.YtbndaabjlfdfcaaRows
import Derived.Test.YtbndaabjlfdfcaaPRailxOpens
import Derived.Test.YtbndaabjlfdfcaaPRailxWalkRailValidates
import Derived.Test.YtbndaabjlfdfcaaPureRailValidates
import Derived.WalkKit
import Derived.ProofKit
import Derived.OpenShut
import Derived.ShutString
import Derived.ChangeOld
import Derived.Below
import Derived.SizedLaws
namespace Go.Proofs.Ytbndaabjlfdfcaa.railValidates
open Go.ChangeShapes Go.WideShapes Go.ChangeAt Go.RowKit Go.Proofs.YtbndaabjlfdfcaaW.Opening Go.Proofs.Ytbndaabjlfdfcaa.PRail
open Go.Proofs.YtbndaabjlfdfcaaW.PrintWords (Kd)
open Go.ChangeMaps (open_string shut_string)
set_option linter.unusedVariables false
theorem own : ownKnob Try.prog.godebug = none := by kernel_rfl
theorem laidOut : laidOutB Try.prog = true := by kernel_rfl
set_option maxRecDepth 100000 in
set_option maxHeartbeats 1000000 in
theorem lifted (os : Os) (started : os.Started) (H : Type) (enc : TypeId × Value → H) :
    ReturnsInHanded {} Try.checked os 3 .any (Rows.railValidatesSpec.pre6 enc Try.prog Try.f3 Rows.railValidatesRow.domain false) (Rows.railValidatesSpec.post enc Try.prog Try.f3 false true false false) := by
  refine returnsInHanded_of_change_sized (C := Try.checked) own started (by kernel_rfl) Try.func3
    (ChangeSpec.witness6 (enc := enc) (C := Try.checked) false ⟨#[], #[.agg #[.int .i64 0, .int .i64 0, .slice none 0 0, .slice none 0 0]], []⟩ 8 (by kernel_rfl) (by kernel_rfl) (by kernel_rfl) (by kernel_rfl)) ?_
  intro W base args ds gs before hval0 hW hcnd hsz0 _
  have hsz : (DataW.weightsEach Try.prog (Try.f3.params.toList ++ Rows.railValidatesSpec.plain.varTypes Try.prog) (ds ++ gs)).all (· ≤ reachBytes) = true := hsz0
  have hval : ∀ (j : Nat) t v, Try.f3.params[j]? = some t → args[j]? = some v → Value.okWide Try.prog W .any base t v := hval0
  have hW' := hW
  obtain ⟨p, q, hA0, hV, rfl, hfz, hnd⟩ := hW
  have hA : DataW.TrodAll enc Try.prog W 0 (fun _ => true) true Try.f3.params.toList args.toList ds p := hA0
  rw [Try.params3] at hA hval hsz
  obtain ⟨v0, vs0, d0, ds0, p0, q0, hargs, rfl, rfl, h0, r0⟩ := trodAll_cons hA
  obtain ⟨rfl, rfl, rfl⟩ := trodAll_nil r0
  obtain rfl : args = #[v0] := by cases args; simp_all
  obtain ⟨rfl, rfl⟩ := trodVars_none hV
  have k0 := h0
  have lt0 : ∀ x ∈ p0, x.block < W.heap.size := by obtain ⟨m, hm⟩ := k0; exact DataW.trod_lt m _ _ _ hm
  obtain ⟨x0, cs0, rfl, K0, g0⟩ := open_agg_any (j := 0) (t := 25) Try.underlying25 opens25 (hval 0 25 v0 rfl rfl) h0 hsz rfl rfl
  obtain ⟨a0_0, a0_1, l0_2, l0_3⟩ := x0
  obtain ⟨_, _, rfl, rfl, ⟨_, _, rfl, rfl, ⟨_, _, rfl, ⟨A0_2, c0_2, rfl, hc0_2, hr0_2⟩, ⟨A0_3, c0_3, rfl, hc0_3, hr0_3⟩⟩⟩⟩ := K0
  obtain ⟨g0_0, ⟨g0_1, ⟨g0_2, g0_3⟩⟩⟩ := g0
  clear hA0 hval0 hsz0 hsz
  refine (hinterlandlaw03_RailValidates.walk Pure.RailValidates a0_0 a0_1 A0_2 c0_2 l0_2 A0_3 c0_3 l0_3 W hr0_2 hc0_2 hr0_3 hc0_3 g0_0 g0_1 g0_2 g0_3).mono fun e W' ⟨he, bel⟩ => ?_
  subst he
  exact ⟨_, rfl, _, _, _, [], _, [], hW', trodAll_mk1 (shut_bool Try.underlying4 _), (trodAll_cons_mk (Below.trod laidOut (by kernel_rfl) (of_decide_eq_true (by kernel_rfl)) k0 bel lt0) trodAll_mk0), rfl, bel.frame _, fun h => by cases h⟩
theorem over : Rows.railValidatesRow.holds Try.pinned (OpenSpec.ofChange Rows.railValidatesSpec) :=
  OpenClaim.holds_of_wide 3 Try.f3 rfl rfl rfl rfl rfl rfl rfl ⟨rfl, rfl, rfl, rfl, rfl⟩ rfl rfl rfl rfl rfl (by kernel_rfl) Try.func3 (by kernel_rfl)
    (of_decide_eq_true (by kernel_rfl)) (by unfold Func.isWrapper; first | (rw [if_pos (by decide +kernel)]; kernel_rfl) | (rw [if_neg (by decide +kernel)]; exact ⟨rfl, rfl⟩))
    (fun os started H enc _ => lifted os started H enc)
theorem proved : Rows.RailValidatesSaid := over
#print axioms proved
end Go.Proofs.Ytbndaabjlfdfcaa.railValidates
namespace Go.Proofs.Ytbndaabjlfdfcaa
/-- The row, under a short name, for the claim. -/
theorem railValidates_holds : Rows.RailValidatesSaid := railValidates.proved
end Go.Proofs.Ytbndaabjlfdfcaa
