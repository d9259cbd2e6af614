/- The law CargoAgesAdd: it answers true for every input, and its arguments read afterwards as they did. The row, out of the contract of the law's function (written by row.py, a program of these sessions). -/
import Derived.Test.YtmphplpfgjcpiaaFnOne
import Derived.Test.YtmphplpfgjcpiaaRows
import Derived.WalkKit
import Derived.ProofKit
import Derived.OpenShut
import Derived.ShutString
import Derived.ChangeOld
import Derived.Below
import Derived.SizedLaws
set_option linter.unusedVariables false
set_option linter.unusedSimpArgs false
set_option linter.unusedVariables false
set_option linter.unusedSimpArgs false
namespace Go.Proofs.Ytmphplpfgjcpiaa.Eng
open Go
set_option maxRecDepth 100000
noncomputable section
open Go.RowKit
theorem older_zero {l : List Pa} {d : Int} (h : (olderR l d).2 = 0) : cargoR l = 0 ∧ 0 ≤ d ∧ cargoR (N (l.map (ageP d))) = 0 ∧ olderR l d = (N (l.map (ageP d)), 0) := by
  unfold olderR at h ⊢
  by_cases h1 : cargoR l = 0
  · rw [if_neg (by simp [h1])] at h ⊢
    by_cases h2 : d < 0
    · rw [if_pos h2] at h; cases h
    · rw [if_neg h2] at h ⊢
      rw [gather_age] at h ⊢
      by_cases h3 : cargoR (N (l.map (ageP d))) = 0
      · rw [if_pos h3]; exact ⟨h1, by omega, h3, rfl⟩
      · rw [if_neg h3] at h; cases h
  · rw [if_pos h1] at h; exact absurd h h1
theorem older_len (l : List Pa) (d : Int) : (olderR l d).1.length ≤ 200 := by
  unfold olderR
  split
  · simp
  split
  · simp
  unfold gatherR
  split
  · rename_i h; exact ((cargo_zero _).1 h).1
  · simp
theorem sum_put : ∀ {m : List Pa} {p : Pa} {a b : Int}, a + b ≤ 1000000 → (∀ x ∈ m, Bnd a x) → Bnd b p → cntP (putW m p) = cntP m + p.2.2.2.2.1 ∧ shrP (putW m p) = shrP m + p.2.2.2.2.2
  | [], p, a, b, hl, hm, hp => by simp [putW, cntP, shrP]
  | y :: m, p, a, b, hl, hm, hp => by
    obtain ⟨_, e1, e2⟩ := bnd_add (hm y List.mem_cons_self) hp hl
    have ih := sum_put hl (fun x hx => hm x (List.mem_cons_of_mem _ hx)) hp
    unfold putW
    split
    · simp only [cntP, shrP, List.map_cons, List.sum_cons] at ih ⊢
      omega
    split
    · simp only [cntP, shrP, List.map_cons, List.sum_cons]
      omega
    · simp only [cntP, shrP, List.map_cons, List.sum_cons, e1, e2]
      omega
theorem sum_fold : ∀ {l m : List Pa} {a : Int}, 0 ≤ a → a + l.length ≤ 1000000 → (∀ x ∈ m, Bnd a x) → (∀ x ∈ l, okP x) → cntP (fold m l) = cntP m + cntP l ∧ shrP (fold m l) = shrP m + shrP l
  | [], m, a, ha, hl, hm, ho => by simp [fold_nil, cntP, shrP]
  | p :: l, m, a, ha, hl, hm, ho => by
    simp only [List.length_cons] at hl
    have h0 := bnd_ok (ho p List.mem_cons_self)
    have h1 := put_bnd ha (b := 1) (by omega) (by omega) hm h0
    have h2 := sum_fold (l := l) (a := a + 1) (by omega) (by omega) h1 (fun y hy => ho y (List.mem_cons_of_mem _ hy))
    have h3 := sum_put (by omega) hm h0
    rw [fold_cons, h2.1, h2.2, h3.1, h3.2]
    simp only [cntP, shrP, List.map_cons, List.sum_cons]
    omega
theorem sum_N {l : List Pa} (hl : l.length ≤ 1000000) (ho : ∀ x ∈ l, okP x) : cntP (N l) = cntP l ∧ shrP (N l) = shrP l := by
  have := sum_fold (l := l) (m := []) (a := 0) (by omega) (by omega) (by simp) ho
  simp only [cntP, shrP, List.map_nil, List.sum_nil, Int.zero_add] at this ⊢
  exact this
theorem sum_age (l : List Pa) (d : Int) : cntP (l.map (ageP d)) = cntP l ∧ shrP (l.map (ageP d)) = shrP l := by
  unfold cntP shrP
  rw [List.map_map, List.map_map]
  exact ⟨rfl, rfl⟩
theorem older_sum {l : List Pa} {d : Int} (h : (olderR l d).2 = 0) : cntP (olderR l d).1 = cntP l ∧ shrP (olderR l d).1 = shrP l := by
  obtain ⟨h1, h2, h3, h4⟩ := older_zero h
  have hv := (cargo_zero l).1 h1
  have := sum_N (l := l.map (ageP d)) (by rw [List.length_map]; omega) (fun p hp => by obtain ⟨q, hq, rfl⟩ := List.mem_map.1 hp; exact age_ok h2 (hv.2.2 q hq))
  rw [h4]
  show cntP (N (l.map (ageP d))) = _ ∧ shrP (N (l.map (ageP d))) = _
  rw [this.1, this.2]
  exact sum_age l d
theorem older_ok {l : List Pa} {d : Int} (h : (olderR l d).2 = 0) : (∀ p ∈ l, okP p) ∧ ∀ p ∈ (olderR l d).1, okP p := by
  obtain ⟨h1, h2, h3, h4⟩ := older_zero h
  refine ⟨((cargo_zero l).1 h1).2.2, ?_⟩
  rw [h4]
  exact ((cargo_zero _).1 h3).2.2
theorem age_hom (d : Int) : Hom (ageP d) := by
  refine ⟨fun x p h => rfl, fun x p h => ?_⟩
  obtain ⟨a, b, c, e⟩ := h
  refine ⟨a, b, c, ?_⟩
  show (if 255 - x.2.2.2.1 < d then 255 else x.2.2.2.1 + d) = (if 255 - p.2.2.2.1 < d then 255 else p.2.2.2.1 + d)
  rw [e]
theorem age_age {a b : Int} (ha : 0 ≤ a) (hb : 0 ≤ b) {p : Pa} (hp : okP p) : ageP b (ageP a p) = ageP (a + b) p := by
  rw [okP_iff] at hp
  have e : (if 255 - (if 255 - p.2.2.2.1 < a then 255 else p.2.2.2.1 + a) < b then 255 else (if 255 - p.2.2.2.1 < a then 255 else p.2.2.2.1 + a) + b) = if 255 - p.2.2.2.1 < a + b then 255 else p.2.2.2.1 + (a + b) := by
    split <;> split <;> split <;> omega
  exact congrArg (fun z => ((p.1, p.2.1, p.2.2.1, z, p.2.2.2.2.1, p.2.2.2.2.2) : Pa)) e
theorem older_add {l : List Pa} {a b : Int} (hb : 0 ≤ b) (h : (olderR l a).2 = 0) : olderR (olderR l a).1 b = olderR l (a + b) := by
  obtain ⟨h1, h2, h3, h4⟩ := older_zero h
  rw [h4]
  show olderR (N (l.map (ageP a))) b = _
  rw [olderR, if_neg (by simp [h3]), if_neg (by omega), olderR, if_neg (by simp [h1]), if_neg (by omega), gather_age, gather_age]
  have e : N ((N (l.map (ageP a))).map (ageP b)) = N (l.map (ageP (a + b))) := by
    rw [N_map (age_hom b), List.map_map]
    congr 1
    exact List.map_congr_left fun p hp => age_age h2 hb (((cargo_zero l).1 h1).2.2 p hp)
  rw [e]
def K11 : Fn1 := ⟨.fld (.sl paT) (.one I), .one .bool, fun _ => [], fun _ => true⟩
theorem k11 : FnOk Go.Proofs.Try.prog 11 K11 := by
  refine fn_ok (E := (⟨tab, [(19, K19), (35, K35), (36, K36), (30, K30), (32, K32), (31, K31)], ann0⟩ : Env)) (TOk.of tab_told) (AllOk.cons k19 (.cons k35 (.cons k36 (.cons k30 (.cons k32 (.cons k31 .nil)))))).at_ mix Go.Proofs.Try.func11 rfl rfl (by kernel_rfl) K11 ?_
  rintro ⟨(l : List Pa), (d : Int)⟩ hp
  clear hp
  conv => whnf
  refine cond_intro (fun h1 => ?_) (fun h1 => ?_)
  · have h1 : 1000 < (l.length : Int) := @of_decide_eq_true _ _ h1
    conv => whnf
    show true = true
    rfl
  have h1 : ¬ (1000 < (l.length : Int)) := @of_decide_eq_false _ _ h1
  have hl : l.length ≤ 100000 := by omega
  have hol := older_len l d
  conv => whnf
  refine ⟨hl, ?_⟩
  conv => whnf
  refine ⟨hl, ?_⟩
  conv => whnf
  refine cond_intro (fun h2 => ?_) (fun h2 => ?_)
  · have h2 : (olderR l d).2 = (olderR l d).2 := @of_decide_eq_true _ _ h2
    conv => whnf
    refine ⟨show (olderR l d).1.length ≤ 100000 by omega, ?_⟩
    conv => whnf
    refine cond_intro (fun h3 => ?_) (fun h3 => ?_)
    · have h3 : (eqPa (olderR l d).1 (olderR l d).1) = true := h3
      conv => whnf
      refine cond_intro (fun h4 => ?_) (fun h4 => ?_)
      · have h4 : (!decide ((olderR l d).2 = 0)) = true := h4
        have h4 : ¬ ((olderR l d).2 = 0) := by simpa using h4
        conv => whnf
        show true = true
        rfl
      have h4 : (!decide ((olderR l d).2 = 0)) = false := h4
      have h4 : (olderR l d).2 = 0 := by simpa using h4
      have hk := older_ok h4
      have hs := older_sum h4
      conv => whnf
      refine ⟨show (olderR l d).1.length ≤ 1000 by omega, ?_⟩
      conv => whnf
      refine ⟨hk.2, ?_⟩
      conv => whnf
      refine ⟨show l.length ≤ 1000 by omega, ?_⟩
      conv => whnf
      refine ⟨hk.1, ?_⟩
      conv => whnf
      refine cond_intro (fun h5 => ?_) (fun h5 => ?_)
      · have h5 : cntP (olderR l d).1 = cntP l := @of_decide_eq_true _ _ h5
        conv => whnf
        refine ⟨show (olderR l d).1.length ≤ 1000 by omega, ?_⟩
        conv => whnf
        refine ⟨hk.2, ?_⟩
        conv => whnf
        refine ⟨show l.length ≤ 1000 by omega, ?_⟩
        conv => whnf
        refine ⟨hk.1, ?_⟩
        conv => whnf
        refine cond_intro (fun h6 => ?_) (fun h6 => ?_)
        · have h6 : shrP (olderR l d).1 = shrP l := @of_decide_eq_true _ _ h6
          conv => whnf
          show true = true
          rfl
        have h6 : ¬ (shrP (olderR l d).1 = shrP l) := @of_decide_eq_false _ _ h6
        exact absurd hs.2 h6
      have h5 : ¬ (cntP (olderR l d).1 = cntP l) := @of_decide_eq_false _ _ h5
      exact absurd hs.1 h5
    have h3 : (eqPa (olderR l d).1 (olderR l d).1) = false := h3
    simp [eqPa] at h3
  have h2 : ¬ ((olderR l d).2 = (olderR l d).2) := @of_decide_eq_false _ _ h2
  exact absurd rfl h2
def K12 : Fn1 := ⟨.fld (.sl paT) (.fld (.int .u8) (.one (.int .u8))), .one .bool, fun (a : List Pa × Int × Int) => [0 ≤ a.2.1 ∧ a.2.1 ≤ 255, 0 ≤ a.2.2 ∧ a.2.2 ≤ 255], fun _ => true⟩
theorem k12 : FnOk Go.Proofs.Try.prog 12 K12 := by
  refine fn_ok (E := (⟨tab, [(19, K19), (36, K36), (30, K30)], ann0⟩ : Env)) (TOk.of tab_told) (AllOk.cons k19 (.cons k36 (.cons k30 .nil))).at_ mix Go.Proofs.Try.func12 rfl rfl (by kernel_rfl) K12 ?_
  rintro ⟨(l : List Pa), (a : Int), (b : Int)⟩ hp
  have ha : 0 ≤ a ∧ a ≤ 255 := hp _ (List.mem_cons_self ..)
  have hb : 0 ≤ b ∧ b ≤ 255 := hp _ (List.mem_cons_of_mem _ (List.mem_cons_self ..))
  clear hp
  have ea : IntKind.i64.wrap a = a := wrap_eq (by omega) (by omega)
  have eb : IntKind.i64.wrap b = b := wrap_eq (by omega) (by omega)
  have es : (IntKind.i64.wrap (IntKind.i64.wrap a + IntKind.i64.wrap b)) = a + b := by rw [ea, eb]; exact wrap_eq (by omega) (by omega)
  conv => whnf
  refine cond_intro (fun h1 => ?_) (fun h1 => ?_)
  · have h1 : 1000 < (l.length : Int) := @of_decide_eq_true _ _ h1
    conv => whnf
    show true = true
    rfl
  have h1 : ¬ (1000 < (l.length : Int)) := @of_decide_eq_false _ _ h1
  have hl : l.length ≤ 100000 := by omega
  have hol := older_len l (IntKind.i64.wrap a)
  conv => whnf
  refine ⟨hl, ?_⟩
  conv => whnf
  refine cond_intro (fun h2 => ?_) (fun h2 => ?_)
  · have h2 : (!decide ((olderR l (IntKind.i64.wrap a)).2 = 0)) = true := h2
    have h2 : ¬ ((olderR l (IntKind.i64.wrap a)).2 = 0) := by simpa using h2
    conv => whnf
    show true = true
    rfl
  have h2 : (!decide ((olderR l (IntKind.i64.wrap a)).2 = 0)) = false := h2
  have h2 : (olderR l (IntKind.i64.wrap a)).2 = 0 := by simpa using h2
  have hadd : (olderR (olderR l (IntKind.i64.wrap a)).1 (IntKind.i64.wrap b)) = (olderR l (IntKind.i64.wrap (IntKind.i64.wrap a + IntKind.i64.wrap b))) := by rw [es, eb]; rw [ea] at h2 ⊢; exact older_add hb.1 h2
  have hoy := older_len (olderR l (IntKind.i64.wrap a)).1 (IntKind.i64.wrap b)
  conv => whnf
  refine ⟨show (olderR l (IntKind.i64.wrap a)).1.length ≤ 100000 by omega, ?_⟩
  conv => whnf
  refine ⟨hl, ?_⟩
  conv => whnf
  refine cond_intro (fun h3 => ?_) (fun h3 => ?_)
  · have h3 : (olderR (olderR l (IntKind.i64.wrap a)).1 (IntKind.i64.wrap b)).2 = (olderR l (IntKind.i64.wrap (IntKind.i64.wrap a + IntKind.i64.wrap b))).2 := @of_decide_eq_true _ _ h3
    conv => whnf
    refine ⟨show (olderR (olderR l (IntKind.i64.wrap a)).1 (IntKind.i64.wrap b)).1.length ≤ 100000 by omega, ?_⟩
    conv => whnf
    refine cond_intro (fun h4 => ?_) (fun h4 => ?_)
    · have h4 : (eqPa (olderR (olderR l (IntKind.i64.wrap a)).1 (IntKind.i64.wrap b)).1 (olderR l (IntKind.i64.wrap (IntKind.i64.wrap a + IntKind.i64.wrap b))).1) = true := h4
      conv => whnf
      show true = true
      rfl
    have h4 : (eqPa (olderR (olderR l (IntKind.i64.wrap a)).1 (IntKind.i64.wrap b)).1 (olderR l (IntKind.i64.wrap (IntKind.i64.wrap a + IntKind.i64.wrap b))).1) = false := h4
    rw [hadd] at h4
    simp [eqPa] at h4
  have h3 : ¬ ((olderR (olderR l (IntKind.i64.wrap a)).1 (IntKind.i64.wrap b)).2 = (olderR l (IntKind.i64.wrap (IntKind.i64.wrap a + IntKind.i64.wrap b))).2) := @of_decide_eq_false _ _ h3
  exact absurd (congrArg Prod.snd hadd) h3
end
end Go.Proofs.Ytmphplpfgjcpiaa.Eng
/- The law CargoAgesAdd: it answers true for every input, and its arguments read afterwards as they did. The row, out of the contract of the law's function (written by row.py, a program of these sessions). -/
namespace Go.Proofs.Ytmphplpfgjcpiaa.cargoAgesAdd
open Go.ChangeShapes Go.WideShapes Go.ChangeAt Go.RowKit Go.Proofs.Ytmphplpfgjcpiaa Go.Proofs.Ytmphplpfgjcpiaa.Eng
open Go.ChangeMaps (open_string shut_string)
set_option linter.unusedVariables false
theorem own : ownKnob Try.prog.godebug = none := by kernel_rfl
theorem laidOut : laidOutB Try.prog = true := by kernel_rfl
set_option maxRecDepth 100000 in
set_option maxHeartbeats 1000000 in
theorem lifted (os : Os) (started : os.Started) (H : Type) (enc : TypeId × Value → H) :
    ReturnsInHanded {} Try.checked os 12 .any (Rows.cargoAgesAddSpec.pre6 enc Try.prog Try.f12 Rows.cargoAgesAddRow.domain false) (Rows.cargoAgesAddSpec.post enc Try.prog Try.f12 false true false false) := by
  refine returnsInHanded_of_change_sized (C := Try.checked) own started (by kernel_rfl) Try.func12
    (ChangeSpec.witness6 (enc := enc) (C := Try.checked) false ⟨#[], #[.slice none 0 0, .int .u8 0, .int .u8 0], []⟩ 8 (by kernel_rfl) (by kernel_rfl) (by kernel_rfl) (by kernel_rfl)) ?_
  intro W base args ds gs before hval0 hW hcnd hsz0 _
  have hsz : (DataW.weightsEach Try.prog (Try.f12.params.toList ++ Rows.cargoAgesAddSpec.plain.varTypes Try.prog) (ds ++ gs)).all (· ≤ reachBytes) = true := hsz0
  have hval : ∀ (j : Nat) t v, Try.f12.params[j]? = some t → args[j]? = some v → Value.okWide Try.prog W .any base t v := hval0
  have hW' := hW
  obtain ⟨p, q, hA0, hV, rfl, hfz, hnd⟩ := hW
  have hA : DataW.TrodAll enc Try.prog W 0 (fun _ => true) true Try.f12.params.toList args.toList ds p := hA0
  rw [Try.params12] at hA hval hsz
  obtain ⟨v0, vs0, d0, ds0, p0, q0, hargs, rfl, rfl, h0, r0⟩ := trodAll_cons hA
  obtain ⟨v1, vs1, d1, ds1, p1, q1, rfl, rfl, rfl, h1, r1⟩ := trodAll_cons r0
  obtain ⟨v2, vs2, d2, ds2, p2, q2, rfl, rfl, rfl, h2, r2⟩ := trodAll_cons r1
  obtain ⟨rfl, rfl, rfl⟩ := trodAll_nil r2
  obtain rfl : args = #[v0, v1, v2] := by cases args; simp_all
  obtain ⟨rfl, rfl⟩ := trodVars_none hV
  have k0 := h0
  have lt0 : ∀ x ∈ p0, x.block < W.heap.size := by obtain ⟨m, hm⟩ := k0; exact DataW.trod_lt m _ _ _ hm
  obtain ⟨x0, R0, g0⟩ := open_row (ty := paT) Try.underlying30 (by kernel_rfl) (hval 0 30 v0 rfl rfl) h0 hsz (j := 0) rfl rfl
  obtain ⟨x1, rfl, rfl, rfl, g1⟩ := open_int Try.underlying5 (hval 1 5 v1 rfl rfl) h1
  obtain ⟨x2, rfl, rfl, rfl, g2⟩ := open_int Try.underlying5 (hval 2 5 v2 rfl rfl) h2
  clear hA0 hval0 hsz0 hsz
  have hrv : RVs (St0 W) W (fun _ => none) (allRes K12.ins (x0, x1, x2)) [_, _, _] := ⟨_, _, rfl, R0, ⟨_, _, rfl, rfl, ⟨_, _, rfl, rfl, rfl⟩⟩⟩
  refine (law_calls k12 hrv (fun p hp => by
      rcases List.mem_cons.1 hp with rfl | hp
      · have w := g1; simp only [Lit.wf, Bool.and_eq_true, decide_eq_true_eq] at w; exact w
      rcases List.mem_cons.1 hp with rfl | hp
      · have w := g2; simp only [Lit.wf, Bool.and_eq_true, decide_eq_true_eq] at w; exact w
      · cases hp) rfl).mono fun e W' ⟨he, bel⟩ => ?_
  subst he
  exact ⟨_, rfl, _, _, _, [], _, [], hW', trodAll_mk1 (shut_bool Try.underlying4 _), (trodAll_cons_mk (Below.trod laidOut (by kernel_rfl) (of_decide_eq_true (by kernel_rfl)) k0 bel lt0) (trodAll_cons_mk (shut_int Try.underlying5 g1) (trodAll_cons_mk (shut_int Try.underlying5 g2) trodAll_mk0))), rfl, bel.frame _, fun h => by cases h⟩
theorem over : Rows.cargoAgesAddRow.holds Try.pinned (OpenSpec.ofChange Rows.cargoAgesAddSpec) :=
  OpenClaim.holds_of_wide 12 Try.f12 rfl rfl rfl rfl rfl rfl rfl ⟨rfl, rfl, rfl, rfl, rfl⟩ rfl rfl rfl rfl rfl (by kernel_rfl) Try.func12 (by kernel_rfl)
    (of_decide_eq_true (by kernel_rfl)) (by unfold Func.isWrapper; first | (rw [if_pos (by decide +kernel)]; kernel_rfl) | (rw [if_neg (by decide +kernel)]; exact ⟨rfl, rfl⟩))
    (fun os started H enc _ => lifted os started H enc)
theorem proved : Rows.CargoAgesAddSaid := over
#print axioms proved
end Go.Proofs.Ytmphplpfgjcpiaa.cargoAgesAdd
namespace Go.Proofs.Ytmphplpfgjcpiaa
/-- The row, under a short name, for the claim. -/
theorem cargoAgesAdd_holds : Rows.CargoAgesAddSaid := cargoAgesAdd.proved
end Go.Proofs.Ytmphplpfgjcpiaa
