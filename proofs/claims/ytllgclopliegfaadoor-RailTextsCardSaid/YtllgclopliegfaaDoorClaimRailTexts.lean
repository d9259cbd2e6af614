/- The law RailTexts: it answers true for every input, and its arguments read afterwards as they did. The row, out of the contract of the law's function (written by row.py, a program of these sessions). -/
import Derived.Test.YtllgclopliegfaaDoorFnThree
import Derived.Test.YtllgclopliegfaaDoorRows
import Derived.Test.YtllgclopliegfaaDoorCards
import Derived.Test.YtllgclopliegfaaDoorTie
import Derived.WalkKit
import Derived.ProofKit
import Derived.OpenShut
import Derived.ShutString
import Derived.ChangeOld
import Derived.Below
import Derived.SizedLaws
import Derived.Lay
import Derived.LaidOnce
import Derived.SevenTiedAt
set_option linter.unusedVariables false
set_option linter.unusedSimpArgs false
set_option linter.unusedVariables false
set_option linter.unusedSimpArgs false
namespace Go.Proofs.YtllgclopliegfaaDoor.Eng
open Go
set_option maxRecDepth 100000
noncomputable section
theorem text_size (r : Rl) : (textR r).1.size ≤ 1000000 := by
  unfold textR
  split
  · rename_i hv
    obtain ⟨W, H, q⟩ := right_of hv
    have := text_len q
    show (strOfNums (textL r)).size ≤ _
    rw [strOfNums_size]
    omega
  · exact Nat.zero_le _
def E4 : Env := ⟨tab, [(5, K5), (7, K7), (8, K8), (9, K9), (10, K10), (11, K11)], fun n => match n with  | _ => none⟩
def K4 : Fn1 := ⟨.one rlT, .one .bool, fun _ => [], fun _ => true⟩
set_option maxHeartbeats 1000000 in
theorem k4 : FnOk Go.Proofs.Tryd.prog 4 K4 := by
  refine fn_ok (E := E4) (TOk.of tab_told) (AllOk.cons k5 (.cons k7 (.cons k8 (.cons k9 (.cons k10 (.cons k11 .nil)))))).at_ mix Go.Proofs.Tryd.func4 rfl rfl (by kernel_rfl) K4 ?_
  rintro ⟨(w : Int), (h : Int), (l : List Int), (wl : List Bool)⟩ hp
  clear hp
  conv => whnf
  refine cond_intro (fun hf => ?_) (fun hf => ?_)
  · have hf : (farR (w, h, l, wl)) = true := hf
    conv => whnf
    show true = true
    rfl
  have hf : (farR (w, h, l, wl)) = false := hf
  have hsz := text_size (w, h, l, wl)
  conv => whnf
  refine cond_intro (fun e1 => ?_) (fun e1 => ?_)
  · have e1 : (!(((textR (w, h, l, wl)).1.toList == (textR (w, h, l, wl)).1.toList))) = true := e1
    have e1 : (((textR (w, h, l, wl)).1.toList == (textR (w, h, l, wl)).1.toList)) = false := by cases e : (((textR (w, h, l, wl)).1.toList == (textR (w, h, l, wl)).1.toList)) with | false => rfl | true => exact absurd e1 (by rw [e]; decide)
    exfalso
    simp at e1
  have e1 : (!(((textR (w, h, l, wl)).1.toList == (textR (w, h, l, wl)).1.toList))) = false := e1
  have e1 : (((textR (w, h, l, wl)).1.toList == (textR (w, h, l, wl)).1.toList)) = true := by cases e : (((textR (w, h, l, wl)).1.toList == (textR (w, h, l, wl)).1.toList)) with | true => rfl | false => exact absurd e1 (by rw [e]; decide)
  conv => whnf
  refine cond_intro (fun e2 => ?_) (fun e2 => ?_)
  · have e2 : (!decide ((textR (w, h, l, wl)).2 = (textR (w, h, l, wl)).2)) = true := e2
    have e2 : ¬ ((textR (w, h, l, wl)).2 = (textR (w, h, l, wl)).2) := fun e => absurd e2 (by rw [decide_eq_true e]; decide)
    exfalso
    exact e2 rfl
  have e2 : (!decide ((textR (w, h, l, wl)).2 = (textR (w, h, l, wl)).2)) = false := e2
  have e2 : (textR (w, h, l, wl)).2 = (textR (w, h, l, wl)).2 := Decidable.byContradiction fun e => absurd e2 (by rw [decide_eq_false e]; decide)
  conv => whnf
  refine ⟨hsz, ?_⟩
  conv => whnf
  refine cond_intro (fun e3 => ?_) (fun e3 => ?_)
  · have e3 : (!decide ((textR (w, h, l, wl)).2 = 0)) = true := e3
    have e3 : ¬ ((textR (w, h, l, wl)).2 = 0) := fun e => absurd e3 (by rw [decide_eq_true e]; decide)
    conv => whnf
    show true = true
    rfl
  have e3 : (!decide ((textR (w, h, l, wl)).2 = 0)) = false := e3
  have e3 : (textR (w, h, l, wl)).2 = 0 := Decidable.byContradiction fun e => absurd e3 (by rw [decide_eq_false e]; decide)
  have hv : validR (w, h, l, wl) = 0 := by
    unfold textR at e3
    split at e3
    · assumption
    · exact e3
  have ht : textR (w, h, l, wl) = (strOfNums (textL (w, h, l, wl)), 0) := by unfold textR; rw [if_pos hv]
  have hps : (parseL (linesB (textR (w, h, l, wl)).1)) = ((w, h, l, wl), 0, 0) := by rw [ht]; exact parse_text hv
  obtain ⟨W, H, q⟩ := right_of hv
  have h4 := q.h4
  have hb : H * W ≤ 32 * 32 := Nat.mul_le_mul q.h4.2 q.w4.2
  have hpl := parse_len hsz
  conv => whnf
  refine ⟨hpl.1, ?_⟩
  conv => whnf
  refine ⟨hpl.2, ?_⟩
  conv => whnf
  refine cond_intro (fun e4 => ?_) (fun e4 => ?_)
  · have e4 : (eqRl (parseL (linesB (textR (w, h, l, wl)).1)).1 (w, h, l, wl)) = true := e4
    conv => whnf
    refine cond_intro (fun e5 => ?_) (fun e5 => ?_)
    · have e5 : (parseL (linesB (textR (w, h, l, wl)).1)).2.1 = 0 := @of_decide_eq_true _ _ e5
      conv => whnf
      refine cond_intro (fun e6 => ?_) (fun e6 => ?_)
      · have e6 : (parseL (linesB (textR (w, h, l, wl)).1)).2.2 = 0 := @of_decide_eq_true _ _ e6
        conv => whnf
        show true = true
        rfl
      have e6 : ¬ ((parseL (linesB (textR (w, h, l, wl)).1)).2.2 = 0) := @of_decide_eq_false _ _ e6
      exfalso
      rw [hps] at e6
      exact e6 rfl
    have e5 : ¬ ((parseL (linesB (textR (w, h, l, wl)).1)).2.1 = 0) := @of_decide_eq_false _ _ e5
    exfalso
    rw [hps] at e5
    exact e5 rfl
  have e4 : (eqRl (parseL (linesB (textR (w, h, l, wl)).1)).1 (w, h, l, wl)) = false := e4
  exfalso
  rw [hps] at e4
  simp [eqRl] at e4
end
end Go.Proofs.YtllgclopliegfaaDoor.Eng
/- The law RailTexts: it answers true for every input, and its arguments read afterwards as they did. The row, out of the contract of the law's function (written by row.py, a program of these sessions). -/
namespace Go.Proofs.YtllgclopliegfaaDoor.railTexts
open Go.ChangeShapes Go.WideShapes Go.ChangeAt Go.RowKit Go.Proofs.YtllgclopliegfaaDoor Go.Proofs.YtllgclopliegfaaDoor.Eng
open Go.ChangeMaps (open_string shut_string)
set_option linter.unusedVariables false
theorem own : ownKnob Tryd.prog.godebug = none := by kernel_rfl
theorem laidOut : laidOutB Tryd.prog = true := by kernel_rfl
def laid : List (String × DataW Unit) := [("unicode/utf8.acceptRanges", Rows.laid_unicode_utf8_acceptRanges), ("unicode/utf8.first", Rows.laid_unicode_utf8_first)]
set_option maxRecDepth 100000 in
set_option maxHeartbeats 1000000 in
theorem lifted (os : Os) (started : os.Started) (H : Type) (enc : TypeId × Value → H) :
    ReturnsInHanded {} Tryd.checked os 4 .any (fun w args => (Rows.railTextsSpec.pre enc Tryd.prog Tryd.f4 [] false w args ∧ laidMetH Tryd.prog laid w) ∧ sizedMet enc Tryd.prog Tryd.f4 (OpenSpec.ofChange Rows.railTextsSpec) false w args) (Rows.railTextsSpec.post enc Tryd.prog Tryd.f4 false true false false) := by
  refine returnsInHanded_of_change_and (C := Tryd.checked) (X := fun w _ => laidMetH Tryd.prog laid w) (fun _ _ _ hh h => h.of_heap hh) own started (by kernel_rfl) Tryd.func4
    (ChangeSpec.witness_shaped (enc := enc) (C := Tryd.checked) (os := os) (X := fun w _ => laidMetH Tryd.prog laid w) false (World.laidAll Tryd.prog os laid) #[.agg #[.int .i64 0, .int .i64 0, .slice none 0 0, .slice none 0 0]] 8 (World.laidAll_os _ _ _)
      (World.shaped_of_ZipB (by kernel_rfl) (by kernel_rfl)) (by kernel_rfl) (by kernel_rfl) (by kernel_rfl)
      (by rw [MakeChecks.laidMetH_plain _ _ _ (by kernel_rfl)]; exact laidMet_laidAll _ (by kernel_rfl) (by kernel_rfl))) ?_
  intro W base args ds gs before hval0 hW hcnd hsz0 hL _
  have hsz : (DataW.weightsEach Tryd.prog (Tryd.f4.params.toList ++ Rows.railTextsSpec.plain.varTypes Tryd.prog) (ds ++ gs)).all (· ≤ reachBytes) = true := hsz0
  have hval : ∀ (j : Nat) t v, Tryd.f4.params[j]? = some t → args[j]? = some v → Value.okWide Tryd.prog W .any base t v := hval0
  have hW' := hW
  obtain ⟨p, q, hA0, hV, rfl, hfz, hnd⟩ := hW
  have hA : DataW.TrodAll enc Tryd.prog W 0 (fun _ => true) true Tryd.f4.params.toList args.toList ds p := hA0
  rw [Tryd.params4] at hA hval hsz
  obtain ⟨v0, vs0, d0, ds0, p0, q0, hargs, rfl, rfl, h0, r0⟩ := trodAll_cons hA
  obtain ⟨rfl, rfl, rfl⟩ := trodAll_nil r0
  obtain rfl : args = #[v0] := by cases args; simp_all
  obtain ⟨rfl, rfl⟩ := trodVars_none hV
  have k0 := h0
  have lt0 : ∀ x ∈ p0, x.block < W.heap.size := by obtain ⟨m, hm⟩ := k0; exact DataW.trod_lt m _ _ _ hm
  obtain ⟨x0, R0, g0⟩ := open_agg (ty := rlT) Tryd.underlying26 (by kernel_rfl) (hval 0 26 v0 rfl rfl) h0 hsz (j := 0) rfl rfl
  clear hA0 hval0 hsz0 hsz
  have hrv : RVs (St0 W) W (fun _ => none) (allRes K4.ins (x0)) [_] := ⟨_, _, rfl, R0, rfl⟩
  refine (law_calls k4 hrv (fun p hp => by cases hp) rfl).mono fun e W' ⟨he, bel⟩ => ?_
  subst he
  exact ⟨_, rfl, _, _, _, [], _, [], hW', trodAll_mk1 (shut_bool Tryd.underlying4 _), (trodAll_cons_mk (Below.trod laidOut (by kernel_rfl) (of_decide_eq_true (by kernel_rfl)) k0 bel lt0) trodAll_mk0), rfl, bel.frame _, fun h => by cases h⟩
theorem over : Rows.railTextsRow.holds Tryd.pinned (OpenSpec.ofChange Rows.railTextsSpec) :=
  OpenClaim.holds_of_wide 4 Tryd.f4 rfl rfl rfl rfl rfl rfl rfl ⟨rfl, rfl, rfl, rfl, rfl⟩ rfl rfl rfl rfl rfl (by kernel_rfl) Tryd.func4 (by kernel_rfl)
    (of_decide_eq_true (by kernel_rfl)) (by unfold Func.isWrapper; first | (rw [if_pos (by decide +kernel)]; kernel_rfl) | (rw [if_neg (by decide +kernel)]; exact ⟨rfl, rfl⟩))
    (fun os started H enc _ => lifted os started H enc)
theorem proved : Rows.RailTextsCardSaid :=
  Claim7.holds_tied_plain_at .later [] [.data, .pinned] true (true, "e66536fc509e7b5df77f22c01cb04d8f21efdac38851f7fd2a35f9d76444a2e6") false over (fun _ h => by cases h) (by kernel_rfl) (fun _ h => by cases h) railTexts_row_tie rfl ⟨rfl, rfl⟩ (by kernel_rfl) rfl
    (fun f fn hf hfn => by
      obtain rfl : f = 4 := Option.some.inj ((show Tryd.prog.funcNamed "hinterland/hinterlandlaw03.RailTexts" = some 4 by kernel_rfl).symm.trans hf) |>.symm
      obtain rfl : fn = Tryd.f4 := (Option.some.inj (Tryd.func4.symm.trans hfn)).symm
      exact ⟨by kernel_rfl, fun j t ht => by
        rw [Tryd.params4] at ht
        have hm : t ∈ [26] := by simpa using Array.mem_of_getElem? ht
        have hall : ([26].all fun u => !Tryd.prog.wantsStandIn u) = true := by kernel_rfl
        exact (show Tryd.prog.wantsStandIn t = false by simpa using List.all_eq_true.1 hall t hm)⟩)
    (by kernel_rfl)
#print axioms proved
end Go.Proofs.YtllgclopliegfaaDoor.railTexts
namespace Go.Proofs.YtllgclopliegfaaDoor
/-- The card, under a short name, for the claim. -/
theorem railTexts_holds : Rows.RailTextsCardSaid := railTexts.proved
end Go.Proofs.YtllgclopliegfaaDoor
