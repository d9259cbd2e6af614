/- The law RouteValidates: it answers true for every input, and its arguments read afterwards as they did. The row, out of the contract of the law's function (written by row.py, a program of these sessions). -/
import Derived.Test.YthgclbohlcgdgaaFnOne
import Derived.Test.YthgclbohlcgdgaaRows
import Derived.WalkKit
import Derived.ProofKit
import Derived.OpenShut
import Derived.ShutString
import Derived.ChangeOld
import Derived.Below
import Derived.SizedLaws
set_option linter.unusedVariables false
set_option linter.unusedSimpArgs false
set_option linter.unusedVariables false
set_option linter.unusedSimpArgs false
namespace Go.Proofs.Ythgclbohlcgdgaa.Eng
open Go
set_option maxRecDepth 100000
noncomputable section
def exE : List Ed := [(0, 1, 3), (1, 2, 1), (0, 2, 4)]
theorem ex_steps : Steps (Re exE) 3 1000000000000 := by
  refine ⟨fun {k q w} hr => ?_⟩
  have hr : (k, q, w) ∈ exE := hr
  simp only [exE, List.mem_cons, List.not_mem_nil, or_false, Prod.mk.injEq] at hr
  omega
theorem ex_low {k c s : Int} (h : Wy (Re exE) (Tl [2]) k c s) : 0 ≤ c ∧ 0 ≤ s ∧ (k = 0 → 4 < c ∨ (4 = c ∧ 1 ≤ s)) ∧ (k = 1 → 1 < c ∨ (1 = c ∧ 1 ≤ s)) := by
  induction h with
  | nil ht =>
    rename_i k
    have ht : k ∈ ([2] : List Int) := ht
    simp only [List.mem_cons, List.not_mem_nil, or_false] at ht
    omega
  | cons hr hw ih =>
    rename_i k q w c s
    have hr : (k, q, w) ∈ exE := hr
    simp only [exE, List.mem_cons, List.not_mem_nil, or_false, Prod.mk.injEq] at hr
    omega
theorem ex_two : Tl [2] 2 := List.mem_cons_self
theorem ex_l2 : lpR (Re exE) (Tl [2]) 2 = some (0, 0) := lp_some ⟨.nil ex_two, fun c' s' h => by have := ex_low h; omega⟩
theorem ex_l0 : lpR (Re exE) (Tl [2]) 0 = some (4, 1) := by
  have h : Wy (Re exE) (Tl [2]) 0 (0 + 4) (0 + 1) := .cons (q := 2) (by show (0, 2, 4) ∈ exE; simp [exE]) (.nil ex_two)
  exact lp_some ⟨h, fun c' s' h => by have := ex_low h; omega⟩
theorem ex_nx : nxR (Re exE) (Tl [2]) 0 = 2 := by
  refine nx_eq (by omega) ⟨4, 0, 0, by show (0, 2, 4) ∈ exE; simp [exE], ex_l2, ex_l0⟩ fun u hu h => ?_
  obtain ⟨w, c, s, hr, h1, h2⟩ := h
  have hr : (0, u, w) ∈ exE := hr
  simp only [exE, List.mem_cons, List.not_mem_nil, or_false, Prod.mk.injEq] at hr
  rw [ex_l0] at h2
  have h2 := Option.some.inj h2
  have h3 : (4 : Int) = c + w := congrArg Prod.fst h2
  have h4 : (1 : Int) = s + 1 := congrArg Prod.snd h2
  have h5 := ex_low (lp_is h1).1
  omega
theorem ex_least : leastR 3 exE [0] [2] = ([0, 2], 4, true, 0) := by
  have hn : nodesR 3 exE [[0], [2]] = 0 := by decide
  have hb : bestR (lpR (Re exE) (Tl [2])) [0] = 0 := by
    show (if betterL (lpR (Re exE) (Tl [2])) 0 (-1) = true then (0 : Int) else -1) = 0
    rw [if_pos]
    unfold betterL
    rw [ex_l0]
    rfl
  rw [least_some hn (by rw [hb]; omega) (by rw [hb]; exact ex_l0), hb]
  show ([0, nxR (Re exE) (Tl [2]) 0], (4 : Int), true, (0 : Int)) = _
  rw [ex_nx]
def E17 : Env := ⟨tab, [(20, K20)], ann0⟩
def K17 : Fn1 := ⟨.bool, .one .bool, fun _ => [], fun _ => true⟩
theorem k17 : FnOk Go.Proofs.Try.prog 17 K17 := by
  refine fn_ok (E := E17) (TOk.of tab_told) (AllOk.cons k20 .nil).at_ mix Go.Proofs.Try.func17 rfl rfl (by kernel_rfl) K17 ?_
  rintro (z : Bool) hp
  clear hp
  conv => whnf
  refine ⟨show 1 ≤ 1000000000 by omega, ?_⟩
  conv => whnf
  refine ⟨show 1 ≤ 1000000000 by omega, ?_⟩
  conv => whnf
  refine cond_intro (fun a1 => ?_) (fun a1 => ?_)
  · have a1 : ((leastR 3 exE [0] [2]).2.2.1) = true := a1
    conv => whnf
    refine cond_intro (fun a2 => ?_) (fun a2 => ?_)
    · have a2 : (leastR 3 exE [0] [2]).2.2.2 = 0 := @of_decide_eq_true _ _ a2
      conv => whnf
      refine cond_intro (fun a3 => ?_) (fun a3 => ?_)
      · have a3 : (leastR 3 exE [0] [2]).2.1 = 4 := @of_decide_eq_true _ _ a3
        conv => whnf
        refine cond_intro (fun a4 => ?_) (fun a4 => ?_)
        · have a4 : ((leastR 3 exE [0] [2]).1.length : Int) = 2 := @of_decide_eq_true _ _ a4
          conv => whnf
          refine ⟨show (0 : Int) ≤ 0 by omega, ?_⟩
          conv => whnf
          refine ⟨show 0 < ((leastR 3 exE [0] [2]).1.length : Int) by omega, ?_⟩
          conv => whnf
          refine cond_intro (fun a5 => ?_) (fun a5 => ?_)
          · have a5 : gI (leastR 3 exE [0] [2]).1 0 = 0 := @of_decide_eq_true _ _ a5
            conv => whnf
            refine ⟨show (0 : Int) ≤ 1 by omega, ?_⟩
            conv => whnf
            refine ⟨show 1 < ((leastR 3 exE [0] [2]).1.length : Int) by omega, ?_⟩
            conv => whnf
            show decide (gI (leastR 3 exE [0] [2]).1 1 = 2) = true
            rw [ex_least]
            rfl
          have a5 : ¬ (gI (leastR 3 exE [0] [2]).1 0 = 0) := @of_decide_eq_false _ _ a5
          exact absurd a5 (by rw [ex_least]; decide)
        have a4 : ¬ (((leastR 3 exE [0] [2]).1.length : Int) = 2) := @of_decide_eq_false _ _ a4
        exact absurd a4 (by rw [ex_least]; decide)
      have a3 : ¬ ((leastR 3 exE [0] [2]).2.1 = 4) := @of_decide_eq_false _ _ a3
      exact absurd a3 (by rw [ex_least]; decide)
    have a2 : ¬ ((leastR 3 exE [0] [2]).2.2.2 = 0) := @of_decide_eq_false _ _ a2
    exact absurd a2 (by rw [ex_least]; decide)
  have a1 : ((leastR 3 exE [0] [2]).2.2.1) = false := a1
  exact absurd (show (leastR 3 exE [0] [2]).2.2.1 = false from a1) (by rw [ex_least]; decide)
def E3 : Env := ⟨tab, [(16, K16), (17, K17), (18, K18), (19, K19)], ann0⟩
def K3 : Fn1 := ⟨.fld I (.one (.sl eT)), .one .bool, fun _ => [], fun _ => true⟩
theorem k3 : FnOk Go.Proofs.Try.prog 3 K3 := by
  refine fn_ok (E := E3) (TOk.of tab_told) (AllOk.cons k16 (.cons k17 (.cons k18 (.cons k19 .nil)))).at_ mix Go.Proofs.Try.func3 rfl rfl (by kernel_rfl) K3 ?_
  rintro ⟨(n : Int), (es : List Ed)⟩ hp
  clear hp
  conv => whnf
  refine ⟨show 0 ≤ 100000 by omega, ?_⟩
  conv => whnf
  refine cond_intro (fun a1 => ?_) (fun a1 => ?_)
  · have a1 : (largeR es []) = true := a1
    conv => whnf
    show true = true
    rfl
  have a1 : (largeR es []) = false := a1
  conv => whnf
  refine cond_intro (fun a2 => ?_) (fun a2 => ?_)
  · have a2 : validR n es = validR n es := @of_decide_eq_true _ _ a2
    conv => whnf
    show true = true
    rfl
  have a2 : ¬ (validR n es = validR n es) := @of_decide_eq_false _ _ a2
  exact absurd rfl a2
end
end Go.Proofs.Ythgclbohlcgdgaa.Eng
/- The law RouteValidates: it answers true for every input, and its arguments read afterwards as they did. The row, out of the contract of the law's function (written by row.py, a program of these sessions). -/
namespace Go.Proofs.Ythgclbohlcgdgaa.routeValidates
open Go.ChangeShapes Go.WideShapes Go.ChangeAt Go.RowKit Go.Proofs.Ythgclbohlcgdgaa Go.Proofs.Ythgclbohlcgdgaa.Eng
open Go.ChangeMaps (open_string shut_string)
set_option linter.unusedVariables false
theorem own : ownKnob Try.prog.godebug = none := by kernel_rfl
theorem laidOut : laidOutB Try.prog = true := by kernel_rfl
set_option maxRecDepth 100000 in
set_option maxHeartbeats 1000000 in
theorem lifted (os : Os) (started : os.Started) (H : Type) (enc : TypeId × Value → H) :
    ReturnsInHanded {} Try.checked os 3 .any (Rows.routeValidatesSpec.pre6 enc Try.prog Try.f3 Rows.routeValidatesRow.domain false) (Rows.routeValidatesSpec.post enc Try.prog Try.f3 false true false false) := by
  refine returnsInHanded_of_change_sized (C := Try.checked) own started (by kernel_rfl) Try.func3
    (ChangeSpec.witness6 (enc := enc) (C := Try.checked) false ⟨#[], #[.int .i64 0, .slice none 0 0], []⟩ 8 (by kernel_rfl) (by kernel_rfl) (by kernel_rfl) (by kernel_rfl)) ?_
  intro W base args ds gs before hval0 hW hcnd hsz0 _
  have hsz : (DataW.weightsEach Try.prog (Try.f3.params.toList ++ Rows.routeValidatesSpec.plain.varTypes Try.prog) (ds ++ gs)).all (· ≤ reachBytes) = true := hsz0
  have hval : ∀ (j : Nat) t v, Try.f3.params[j]? = some t → args[j]? = some v → Value.okWide Try.prog W .any base t v := hval0
  have hW' := hW
  obtain ⟨p, q, hA0, hV, rfl, hfz, hnd⟩ := hW
  have hA : DataW.TrodAll enc Try.prog W 0 (fun _ => true) true Try.f3.params.toList args.toList ds p := hA0
  rw [Try.params3] at hA hval hsz
  obtain ⟨v0, vs0, d0, ds0, p0, q0, hargs, rfl, rfl, h0, r0⟩ := trodAll_cons hA
  obtain ⟨v1, vs1, d1, ds1, p1, q1, rfl, rfl, rfl, h1, r1⟩ := trodAll_cons r0
  obtain ⟨rfl, rfl, rfl⟩ := trodAll_nil r1
  obtain rfl : args = #[v0, v1] := by cases args; simp_all
  obtain ⟨rfl, rfl⟩ := trodVars_none hV
  obtain ⟨x0, rfl, rfl, rfl, g0⟩ := open_int Try.underlying3 (hval 0 3 v0 rfl rfl) h0
  have k1 := h1
  have lt1 : ∀ x ∈ p1, x.block < W.heap.size := by obtain ⟨m, hm⟩ := k1; exact DataW.trod_lt m _ _ _ hm
  obtain ⟨x1, R1, g1⟩ := open_row (ty := eT) Try.underlying22 (by kernel_rfl) (hval 1 22 v1 rfl rfl) h1 hsz (j := 1) rfl rfl
  clear hA0 hval0 hsz0 hsz
  have hrv : RVs (St0 W) W (fun _ => none) (allRes K3.ins (x0, x1)) [_, _] := ⟨_, _, rfl, rfl, ⟨_, _, rfl, R1, rfl⟩⟩
  refine (law_calls k3 hrv (fun p hp => by cases hp) rfl).mono fun e W' ⟨he, bel⟩ => ?_
  subst he
  exact ⟨_, rfl, _, _, _, [], _, [], hW', trodAll_mk1 (shut_bool Try.underlying4 _), (trodAll_cons_mk (shut_int Try.underlying3 g0) (trodAll_cons_mk (Below.trod laidOut (by kernel_rfl) (of_decide_eq_true (by kernel_rfl)) k1 bel lt1) trodAll_mk0)), rfl, bel.frame _, fun h => by cases h⟩
theorem over : Rows.routeValidatesRow.holds Try.pinned (OpenSpec.ofChange Rows.routeValidatesSpec) :=
  OpenClaim.holds_of_wide 3 Try.f3 rfl rfl rfl rfl rfl rfl rfl ⟨rfl, rfl, rfl, rfl, rfl⟩ rfl rfl rfl rfl rfl (by kernel_rfl) Try.func3 (by kernel_rfl)
    (of_decide_eq_true (by kernel_rfl)) (by unfold Func.isWrapper; first | (rw [if_pos (by decide +kernel)]; kernel_rfl) | (rw [if_neg (by decide +kernel)]; exact ⟨rfl, rfl⟩))
    (fun os started H enc _ => lifted os started H enc)
theorem proved : Rows.RouteValidatesSaid := over
#print axioms proved
end Go.Proofs.Ythgclbohlcgdgaa.routeValidates
namespace Go.Proofs.Ythgclbohlcgdgaa
/-- The row, under a short name, for the claim. -/
theorem routeValidates_holds : Rows.RouteValidatesSaid := routeValidates.proved
end Go.Proofs.Ythgclbohlcgdgaa
