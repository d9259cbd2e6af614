/- What the functions that the law reaches answer, each for every input. -/
import Derived.Test.YtaafjaibaaiigaaGreatDoorFnThree
import Derived.Test.YtaafjaibaaiigaaGreatDoorFnTwo
set_option linter.unusedVariables false
set_option linter.unusedSimpArgs false
set_option linter.unusedVariables false
set_option linter.unusedSimpArgs false
namespace Go.Proofs.YtaafjaibaaiigaaGreatDoor.Eng
open Go
set_option maxRecDepth 100000
noncomputable section
theorem rules_good {r : List Ru} (h : rulesR r = 0) : goodR r ∧ cheap r (costsR r) ∧ r.length ≤ 30 := by
  obtain ⟨h1, h2, _, h4, _⟩ := rules_0 h
  obtain ⟨g1, _, g3⟩ := lrg_f h1
  refine ⟨⟨okRs_args h2, fun k hk => allG_at (p := fun i : Nat => soundB r i (gR r i).2.1 (gR r i).2.2) h4 hk⟩, ⟨rfl, fun i => ?_⟩, by omega⟩
  by_cases hi : i < r.length
  · exact of_decide_eq_true (allG_at (p := fun i => decide (gI (costsR r) i ≤ 100000)) g3 hi)
  · rw [gI_out (by rw [costs_len]; omega)]; omega
def evalP (r : List Ru) (k : Int) (a : List Int) : Int × Int × Int :=
  if rulesR r = 0 then (if 0 ≤ k ∧ k < (r.length : Int) then (if (a.length : Int) = (gR r k.toNat).2.1 then (if allV a = true then (valR r (gR r k.toNat).2.2 a, gI (costsR r) k.toNat, 0) else (0, 0, 1)) else (0, 0, 8)) else (0, 0, 2)) else (0, 0, rulesR r)
def runP (r : List Ru) (b : List Op2) (a : List Int) (B : Int) : Int × Int × Bool × Int :=
  if rulesR r = 0 then (if soundB r r.length a.length b = true then (if allV a = true ∧ 0 ≤ B ∧ B ≤ 100000 then (runV r (costsR r) b a B, payOf (costsR r) b (stopAt (costsR r) b B), runK (costsR r) b B, 0) else (0, 0, false, 1)) else (0, 0, false, 15)) else (0, 0, false, rulesR r)
def E13 : Env := ⟨tab, [(35, K35), (36, K36), (37, .eff (frzX K37)), (38, .eff (X38q 30))], fun n => match n with  | _ => none⟩
def K13 : Fn1 := ⟨.fld (.sl ruT) (.fld I (.one (.sl I))), .fld I (.fld I (.one I)), fun (x : List Ru × Int × List Int) => [nmR x.1, bodyOk x.1, x.1.length ≤ 1000, x.2.2.length ≤ 1000000], fun (x : List Ru × Int × List Int) => evalP x.1 x.2.1 x.2.2⟩
set_option maxHeartbeats 1000000 in
theorem k13 : FnOk Go.Proofs.Tryz.prog 13 K13 := by
  refine fn_ok (E := E13) (TOk.of tab_told) (AllOk.cons k35 (.cons k36 (.consX (fx_frz k37) (.consX (k38q 30) .nil)))).at_ mix Go.Proofs.Tryz.func13 rfl rfl (by kernel_rfl) K13 ?_
  rintro ⟨(r : List Ru), (k : Int), (a : List Int)⟩ hp
  have hn : nmR r := hp _ (List.mem_cons_self ..)
  have hb : bodyOk r := hp _ (List.mem_cons_of_mem _ (List.mem_cons_self ..))
  have hl : r.length ≤ 1000 := hp _ (List.mem_cons_of_mem _ (List.mem_cons_of_mem _ (List.mem_cons_self ..)))
  have hal : a.length ≤ 1000000 := hp _ (List.mem_cons_of_mem _ (List.mem_cons_of_mem _ (List.mem_cons_of_mem _ (List.mem_cons_self ..))))
  clear hp
  conv => whnf
  refine ⟨hn, ?_⟩
  conv => whnf
  refine ⟨hb, ?_⟩
  conv => whnf
  refine ⟨hl, ?_⟩
  conv => whnf
  refine cond_intro (fun h0 => ?_) (fun h0 => ?_)
  · have h0 : (!decide (rulesR r = 0)) = true := h0
    have h0 : ¬ (rulesR r = 0) := fun e => absurd h0 (by rw [decide_eq_true e]; decide)
    conv => whnf
    show (((0 : Int), (0 : Int), rulesR r) : Int × Int × Int) = evalP r k a
    unfold evalP; rw [if_neg h0]
  have h0 : (!decide (rulesR r = 0)) = false := h0
  have h0 : rulesR r = 0 := Decidable.byContradiction fun e => absurd h0 (by rw [decide_eq_false e]; decide)
  obtain ⟨hg, hch, hle⟩ := rules_good h0
  conv => whnf
  refine cond_intro (fun h1 => ?_) (fun h1 => ?_)
  · have h1 : k < 0 := @of_decide_eq_true _ _ h1
    conv => whnf
    repeat (first | (refine cond_intro (fun h => absurd h (by decide)) (fun h => ?_); conv => whnf) | (refine cond_intro (fun h => ?_) (fun h => absurd h (by decide)); conv => whnf))
    conv => whnf
    show (((0 : Int), (0 : Int), 2) : Int × Int × Int) = evalP r k a
    unfold evalP; rw [if_pos h0, if_neg (by omega)]
  have h1 : ¬ (k < 0) := @of_decide_eq_false _ _ h1
  conv => whnf
  repeat (first | (refine cond_intro (fun h => absurd h (by decide)) (fun h => ?_); conv => whnf) | (refine cond_intro (fun h => ?_) (fun h => absurd h (by decide)); conv => whnf))
  conv => whnf
  refine cond_intro (fun h2 => ?_) (fun h2 => ?_)
  · have h2 : (r.length : Int) ≤ k := @of_decide_eq_true _ _ h2
    conv => whnf
    repeat (first | (refine cond_intro (fun h => absurd h (by decide)) (fun h => ?_); conv => whnf) | (refine cond_intro (fun h => ?_) (fun h => absurd h (by decide)); conv => whnf))
    conv => whnf
    show (((0 : Int), (0 : Int), 2) : Int × Int × Int) = evalP r k a
    unfold evalP; rw [if_pos h0, if_neg (by omega)]
  have h2 : ¬ ((r.length : Int) ≤ k) := @of_decide_eq_false _ _ h2
  have hk : 0 ≤ k ∧ k < (r.length : Int) := by omega
  conv => whnf
  repeat (first | (refine cond_intro (fun h => absurd h (by decide)) (fun h => ?_); conv => whnf) | (refine cond_intro (fun h => ?_) (fun h => absurd h (by decide)); conv => whnf))
  conv => whnf
  refine ⟨hk.1, ?_⟩
  conv => whnf
  refine ⟨hk.2, ?_⟩
  conv => whnf
  refine cond_intro (fun h3 => ?_) (fun h3 => ?_)
  · have h3 : (!decide ((a.length : Int) = (gR r k.toNat).2.1)) = true := h3
    have h3 : ¬ ((a.length : Int) = (gR r k.toNat).2.1) := fun e => absurd h3 (by rw [decide_eq_true e]; decide)
    conv => whnf
    show (((0 : Int), (0 : Int), 8) : Int × Int × Int) = evalP r k a
    unfold evalP; rw [if_pos h0, if_pos hk, if_neg h3]
  have h3 : (!decide ((a.length : Int) = (gR r k.toNat).2.1)) = false := h3
  have h3 : (a.length : Int) = (gR r k.toNat).2.1 := Decidable.byContradiction fun e => absurd h3 (by rw [decide_eq_false e]; decide)
  conv => whnf
  refine ⟨show a.length ≤ 140737488351232 by omega, ?_⟩
  conv => whnf
  refine cond_intro (fun h4 => ?_) (fun h4 => ?_)
  · have h4 : (!(allV a)) = true := h4
    have h4 : (allV a) = false := by cases e : (allV a) with | false => rfl | true => exact absurd h4 (by rw [e]; decide)
    conv => whnf
    show (((0 : Int), (0 : Int), 1) : Int × Int × Int) = evalP r k a
    unfold evalP; rw [if_pos h0, if_pos hk, if_pos h3, if_neg (by rw [h4]; decide)]
  have h4 : (!(allV a)) = false := h4
  have h4 : (allV a) = true := by cases e : (allV a) with | true => rfl | false => exact absurd h4 (by rw [e]; decide)
  have hsk := hg.2 k.toNat (by omega)
  have hp38 : P38 30 r (costsR r) (gR r k.toNat).2.2 a := ⟨hg, hch, ⟨k.toNat, by omega, by omega, by rw [h3]; exact hsk⟩, valsOk_all h4, hal, by rw [← cost_pay hg (k := k.toNat) (by omega) (hch.2 _)]; exact hch.2 _⟩
  conv => whnf
  refine ⟨hl, ?_⟩
  conv => whnf
  refine ⟨hb, ?_⟩
  conv => whnf
  refine ⟨hk.1, ?_⟩
  conv => whnf
  refine ⟨hk.2, ?_⟩
  conv => whnf
  refine ⟨hp38, ?_⟩
  conv => whnf
  refine ⟨hk.1, ?_⟩
  conv => whnf
  refine ⟨show k < ((costsR r).length : Int) by rw [costs_len]; omega, ?_⟩
  conv => whnf
  show ((valR r (gR r k.toNat).2.2 a, gI (costsR r) k.toNat, 0) : Int × Int × Int) = evalP r k a
  unfold evalP; rw [if_pos h0, if_pos hk, if_pos h3, if_pos h4]
def E17 : Env := ⟨tab, [(35, K35), (36, K36), (37, .eff (frzX K37)), (43, K43), (44, .eff (X44 30))], fun n => match n with  | _ => none⟩
def K17 : Fn1 := ⟨.fld (.sl ruT) (.fld (.sl opT) (.fld (.sl I) (.one I))), .fld I (.fld I (.fld .bool (.one I))), fun (x : List Ru × List Op2 × List Int × Int) => [nmR x.1, bodyOk x.1, x.1.length ≤ 1000, x.2.2.1.length ≤ 1000000, x.2.1.length ≤ 140737488351232], fun (x : List Ru × List Op2 × List Int × Int) => runP x.1 x.2.1 x.2.2.1 x.2.2.2⟩
set_option maxHeartbeats 1000000 in
theorem k17 : FnOk Go.Proofs.Tryz.prog 17 K17 := by
  refine fn_ok (E := E17) (TOk.of tab_told) (AllOk.cons k35 (.cons k36 (.consX (fx_frz k37) (.cons k43 (.consX (k44 30) .nil))))).at_ mix Go.Proofs.Tryz.func17 rfl rfl (by kernel_rfl) K17 ?_
  rintro ⟨(r : List Ru), (b : List Op2), (a : List Int), (B : Int)⟩ hp
  have hn : nmR r := hp _ (List.mem_cons_self ..)
  have hb : bodyOk r := hp _ (List.mem_cons_of_mem _ (List.mem_cons_self ..))
  have hl : r.length ≤ 1000 := hp _ (List.mem_cons_of_mem _ (List.mem_cons_of_mem _ (List.mem_cons_self ..)))
  have hal : a.length ≤ 1000000 := hp _ (List.mem_cons_of_mem _ (List.mem_cons_of_mem _ (List.mem_cons_of_mem _ (List.mem_cons_self ..))))
  have hbl : b.length ≤ 140737488351232 := hp _ (List.mem_cons_of_mem _ (List.mem_cons_of_mem _ (List.mem_cons_of_mem _ (List.mem_cons_of_mem _ (List.mem_cons_self ..)))))
  clear hp
  conv => whnf
  refine ⟨hn, ?_⟩
  conv => whnf
  refine ⟨hb, ?_⟩
  conv => whnf
  refine ⟨hl, ?_⟩
  conv => whnf
  refine cond_intro (fun h0 => ?_) (fun h0 => ?_)
  · have h0 : (!decide (rulesR r = 0)) = true := h0
    have h0 : ¬ (rulesR r = 0) := fun e => absurd h0 (by rw [decide_eq_true e]; decide)
    conv => whnf
    show (((0 : Int), (0 : Int), false, rulesR r) : Int × Int × Bool × Int) = runP r b a B
    unfold runP; rw [if_neg h0]
  have h0 : (!decide (rulesR r = 0)) = false := h0
  have h0 : rulesR r = 0 := Decidable.byContradiction fun e => absurd h0 (by rw [decide_eq_false e]; decide)
  obtain ⟨hg, hch, hle⟩ := rules_good h0
  conv => whnf
  refine ⟨hg.1, ?_⟩
  conv => whnf
  refine ⟨show 0 ≤ (r.length : Int) by omega, ?_⟩
  conv => whnf
  refine ⟨Int.le_refl _, ?_⟩
  conv => whnf
  refine ⟨hbl, ?_⟩
  conv => whnf
  refine cond_intro (fun h1 => ?_) (fun h1 => ?_)
  · have h1 : (!(soundB r r.length a.length b)) = true := h1
    have h1 : (soundB r r.length a.length b) = false := by cases e : (soundB r r.length a.length b) with | false => rfl | true => exact absurd h1 (by rw [e]; decide)
    conv => whnf
    show (((0 : Int), (0 : Int), false, 15) : Int × Int × Bool × Int) = runP r b a B
    unfold runP; rw [if_pos h0, if_neg (by rw [h1]; decide)]
  have h1 : (!(soundB r r.length a.length b)) = false := h1
  have h1 : (soundB r r.length a.length b) = true := by cases e : (soundB r r.length a.length b) with | true => rfl | false => exact absurd h1 (by rw [e]; decide)
  conv => whnf
  refine ⟨show a.length ≤ 140737488351232 by omega, ?_⟩
  conv => whnf
  refine cond_intro (fun h2 => ?_) (fun h2 => ?_)
  · have h2 : (!(allV a)) = true := h2
    have h2 : (allV a) = false := by cases e : (allV a) with | false => rfl | true => exact absurd h2 (by rw [e]; decide)
    conv => whnf
    repeat (first | (refine cond_intro (fun h => absurd h (by decide)) (fun h => ?_); conv => whnf) | (refine cond_intro (fun h => ?_) (fun h => absurd h (by decide)); conv => whnf))
    conv => whnf
    show (((0 : Int), (0 : Int), false, 1) : Int × Int × Bool × Int) = runP r b a B
    unfold runP; rw [if_pos h0, if_pos h1, if_neg (fun q => by rw [h2] at q; exact absurd q.1 (by decide))]
  have h2 : (!(allV a)) = false := h2
  have h2 : (allV a) = true := by cases e : (allV a) with | true => rfl | false => exact absurd h2 (by rw [e]; decide)
  conv => whnf
  repeat (first | (refine cond_intro (fun h => absurd h (by decide)) (fun h => ?_); conv => whnf) | (refine cond_intro (fun h => ?_) (fun h => absurd h (by decide)); conv => whnf))
  conv => whnf
  refine cond_intro (fun h3 => ?_) (fun h3 => ?_)
  · have h3 : B < 0 := @of_decide_eq_true _ _ h3
    conv => whnf
    repeat (first | (refine cond_intro (fun h => absurd h (by decide)) (fun h => ?_); conv => whnf) | (refine cond_intro (fun h => ?_) (fun h => absurd h (by decide)); conv => whnf))
    conv => whnf
    show (((0 : Int), (0 : Int), false, 1) : Int × Int × Bool × Int) = runP r b a B
    unfold runP; rw [if_pos h0, if_pos h1, if_neg (fun q => by omega)]
  have h3 : ¬ (B < 0) := @of_decide_eq_false _ _ h3
  conv => whnf
  repeat (first | (refine cond_intro (fun h => absurd h (by decide)) (fun h => ?_); conv => whnf) | (refine cond_intro (fun h => ?_) (fun h => absurd h (by decide)); conv => whnf))
  conv => whnf
  refine cond_intro (fun h4 => ?_) (fun h4 => ?_)
  · have h4 : 100000 < B := @of_decide_eq_true _ _ h4
    conv => whnf
    repeat (first | (refine cond_intro (fun h => absurd h (by decide)) (fun h => ?_); conv => whnf) | (refine cond_intro (fun h => ?_) (fun h => absurd h (by decide)); conv => whnf))
    conv => whnf
    show (((0 : Int), (0 : Int), false, 1) : Int × Int × Bool × Int) = runP r b a B
    unfold runP; rw [if_pos h0, if_pos h1, if_neg (fun q => by omega)]
  have h4 : ¬ (100000 < B) := @of_decide_eq_false _ _ h4
  have hp44 : P44 30 r (costsR r) B b a := ⟨hg, hch, ⟨r.length, by omega, Nat.le_refl _, h1⟩, valsOk_all h2, by omega, by omega⟩
  have hsp := stop_pay (c := costsR r) (b := b) (B := B) (by omega)
  have hsn := payOf_le (b := b) (costs_ok r) (n := 0) (m := stopAt (costsR r) b B) (Nat.zero_le _)
  rw [payOf_0] at hsn
  have hw : IntKind.i64.wrap (B - leftL (costsR r) b B) = payOf (costsR r) b (stopAt (costsR r) b B) := by unfold leftL; rw [wrap_eq (by omega) (by omega)]; omega
  conv => whnf
  repeat (first | (refine cond_intro (fun h => absurd h (by decide)) (fun h => ?_); conv => whnf) | (refine cond_intro (fun h => ?_) (fun h => absurd h (by decide)); conv => whnf))
  conv => whnf
  refine ⟨hl, ?_⟩
  conv => whnf
  refine ⟨hb, ?_⟩
  conv => whnf
  refine ⟨hp44, ?_⟩
  conv => whnf
  show ((runV r (costsR r) b a B, IntKind.i64.wrap (B - leftL (costsR r) b B), runK (costsR r) b B, 0) : Int × Int × Bool × Int) = runP r b a B
  unfold runP; rw [if_pos h0, if_pos h1, if_pos ⟨h2, by omega, by omega⟩, hw]
end
end Go.Proofs.YtaafjaibaaiigaaGreatDoor.Eng
set_option linter.unusedVariables false
set_option linter.unusedSimpArgs false
namespace Go.Proofs.YtaafjaibaaiigaaGreatDoor.Eng
open Go
set_option maxRecDepth 100000
noncomputable section
def P41 (f : Nat) (r : List Ru) (b : List Op2) (a : List Int) : Prop := goodR r ∧ r.length < f ∧ soundB r r.length a.length b = true ∧ valsOk a ∧ a.length ≤ 1000000
def K41 (f : Nat) : Fn1 := ⟨.fld (.sl ruT) (.fld (.sl opT) (.one (.sl I))), .one I, fun (x : List Ru × List Op2 × List Int) => [P41 f x.1 x.2.1 x.2.2], fun (x : List Ru × List Op2 × List Int) => valR x.1 x.2.1 x.2.2⟩
def E41 (f : Nat) : Env := ⟨tab, [(74, K74), (75, K75), (41, K41 f)], fun n => match n with | 3 => some ([0, 2, 7, 13, 14, 15], [(7, I)], []) | 999996 => some ([], [], []) | _ => none⟩
def S41 (r : List Ru) (b : List Op2) (a : List Int) (st : List Int) (i : Int) : SL := ⟨[.sl ruT r, .undef, .sl I a, .undef, .undef, .undef, .undef, .own 0, .undef, .undef, .undef, .undef, .undef, .sl opT b, .int .i64 b.length, .int .i64 i, .undef, .undef, .undef, .undef, .undef, .undef, .undef, .undef, .undef, .undef, .undef, .undef, .undef, .undef, .undef, .undef, .undef, .undef, .undef, .undef, .undef, .undef, .undef, .undef, .undef, .undef, .undef, .undef, .undef, .undef, .undef, .undef, .undef, .undef, .undef, .undef, .undef, .undef, .undef, .undef, .undef, .undef, .undef, .undef, .undef, .undef, .undef, .undef, .undef, .undef, .undef, .undef, .undef, .undef, .undef, .undef, .undef, .undef, .undef, .undef, .undef, .undef, .undef, .undef, .undef, .undef, .undef, .undef, .undef, .undef, .undef, .undef, .undef, .undef], [(0, .arr I st)], 1⟩
theorem k41_0 : FnOk Go.Proofs.Tryz.prog 41 (K41 0) := by
  refine fn_ok (E := noE) (TOk.of tab_told) (fun f k h => by cases h) mix Go.Proofs.Tryz.func41 rfl rfl (by kernel_rfl) (K41 0) ?_
  rintro ⟨(r : List Ru), (b : List Op2), (a : List Int)⟩ hp
  obtain ⟨_, h, _⟩ : P41 0 r b a := hp _ (List.mem_cons_self ..)
  omega
set_option maxHeartbeats 2000000 in
theorem k41_succ {f : Nat} (h41 : FnOk Go.Proofs.Tryz.prog 41 (K41 f)) : FnOk Go.Proofs.Tryz.prog 41 (K41 (f + 1)) := by
  refine fn_ok (E := E41 f) (TOk.of tab_told) (AllOk.cons k74 (.cons k75 (.cons h41 .nil))).at_ mix Go.Proofs.Tryz.func41 rfl rfl (by kernel_rfl) (K41 (f + 1)) ?_
  rintro ⟨(r : List Ru), (b : List Op2), (a : List Int)⟩ hp
  obtain ⟨hg, hbf, hs, ha, hal⟩ : P41 (f + 1) r b a := hp _ (List.mem_cons_self ..)
  clear hp
  have hb60 := (sound_hJ hs).2
  conv => whnf
  refine loop_rule (fun i : Int => S41 r b a (stJ r a (calR r) b i.toNat) i) (fun i => ((b.length : Int) - i).toNat) (fun i => 0 ≤ i ∧ i ≤ (b.length : Int)) ?_ 0 (by kernel_rfl) ?_ ⟨by omega, by omega⟩
  case refine_2 => rfl
  rintro i ⟨i0, i1⟩
  conv => whnf
  refine cond_intro (fun hi => ?_) (fun hi => ?_)
  · have hi : i < (b.length : Int) := @of_decide_eq_true _ _ hi
    have wi : IntKind.i64.wrap (i + 1) = i + 1 := wrap_eq (by omega) (by omega)
    have ei : (i + 1).toNat = i.toNat + 1 := by omega
    obtain ⟨g, g1, g2, g3, g4⟩ := sound_at hs (n := i.toNat) (by omega)
    have hst := st_len hg.1 (by omega) (args := a) (cal := calR r) g1
    have hbd := st_bd hs ha (cal := calR r) (fun k hk t ht => calR_bd hg (by omega) ht) (n := i.toNat) (by omega)
    have hpo := kn_pop g2 (r := r) (by omega)
    have hpi := pop_in hg.1 hpo
    have hstn : stJ r a (calR r) b (i.toNat + 1) = stepV r a (calR r) (gO b i.toNat) (stJ r a (calR r) b i.toNat) := rfl
    have hg60 : g ≤ 60 := by have := @hJ_le r r.length a.length b i.toNat g hg.1 (by omega) g1; omega
    generalize stJ r a (calR r) b i.toNat = st at *
    unfold stepV at hstn
    have hat : IntKind.i64.wrap ((st.length : Int) - popR r (gO b i.toNat)) = ((st.length - (popR r (gO b i.toNat)).toNat : Nat) : Int) := by rw [wrap_eq (by omega) (by omega)]; omega
    have hD : (IntKind.i64.wrap ((st.length : Int) - popR r (gO b i.toNat))).toNat = st.length - (popR r (gO b i.toNat)).toNat := by rw [hat]; omega
    conv => whnf
    refine ⟨i0, ?_⟩
    conv => whnf
    refine ⟨hi, ?_⟩
    conv => whnf
    refine ⟨hpo, ?_⟩
    conv => whnf
    refine ⟨show 0 ≤ IntKind.i64.wrap ((st.length : Int) - popR r (gO b i.toNat)) by rw [hat]; omega, ?_⟩
    conv => whnf
    refine ⟨show IntKind.i64.wrap ((st.length : Int) - popR r (gO b i.toNat)) ≤ (st.length : Int) by rw [hat]; omega, ?_⟩
    conv => whnf
    refine cond_intro (fun k0 => ?_) (fun k0 => ?_)
    · have k0 : (gO b i.toNat).1 = 0 := @of_decide_eq_true _ _ k0
      conv => whnf
      refine ⟨show 0 ≤ IntKind.i64.wrap ((st.length : Int) - popR r (gO b i.toNat)) by rw [hat]; omega, ?_⟩
      conv => whnf
      refine ⟨show IntKind.i64.wrap ((st.length : Int) - popR r (gO b i.toNat)) ≤ (st.length : Int) by rw [hat]; omega, ?_⟩
      conv => whnf
      refine ⟨show (0 + (st.take (IntKind.i64.wrap ((st.length : Int) - popR r (gO b i.toNat))).toNat).length) * 8 ≤ 70368744177664 by rw [List.length_take]; omega, ?_⟩
      conv => whnf
      refine ⟨show 0 + (st.take (IntKind.i64.wrap ((st.length : Int) - popR r (gO b i.toNat))).toNat).length ≤ 70368744177664 by rw [List.length_take]; omega, ?_⟩
      conv => whnf
      refine ⟨show ((st.take (IntKind.i64.wrap ((st.length : Int) - popR r (gO b i.toNat))).toNat).length + 1) * 8 ≤ 70368744177664 by rw [List.length_take]; omega, ?_⟩
      conv => whnf
      refine ⟨show (st.take (IntKind.i64.wrap ((st.length : Int) - popR r (gO b i.toNat))).toNat).length + 1 ≤ 70368744177664 by rw [List.length_take]; omega, ?_⟩
      conv => whnf
      refine ⟨i + 1, ?_, ⟨by omega, by omega⟩, by omega⟩
      refine Eq.trans (b := S41 r b a (st.take (IntKind.i64.wrap ((st.length : Int) - popR r (gO b i.toNat))).toNat ++ [(gO b i.toNat).2]) (IntKind.i64.wrap (i + 1))) rfl ?_
      rw [wi, ei, hstn, show stepN a (calR r) (gO b i.toNat) (st.drop (st.length - (popR r (gO b i.toNat)).toNat)) = (gO b i.toNat).2 by unfold stepN; rw [if_pos k0], hD]
    have k0 : ¬ ((gO b i.toNat).1 = 0) := @of_decide_eq_false _ _ k0
    conv => whnf
    refine cond_intro (fun k1 => ?_) (fun k1 => ?_)
    · have k1 : (gO b i.toNat).1 = 1 := @of_decide_eq_true _ _ k1
      obtain ⟨a0, a1⟩ := kn_arg g2 k1
      conv => whnf
      refine ⟨a0, ?_⟩
      conv => whnf
      refine ⟨a1, ?_⟩
      conv => whnf
      refine ⟨show 0 ≤ IntKind.i64.wrap ((st.length : Int) - popR r (gO b i.toNat)) by rw [hat]; omega, ?_⟩
      conv => whnf
      refine ⟨show IntKind.i64.wrap ((st.length : Int) - popR r (gO b i.toNat)) ≤ (st.length : Int) by rw [hat]; omega, ?_⟩
      conv => whnf
      refine ⟨show (0 + (st.take (IntKind.i64.wrap ((st.length : Int) - popR r (gO b i.toNat))).toNat).length) * 8 ≤ 70368744177664 by rw [List.length_take]; omega, ?_⟩
      conv => whnf
      refine ⟨show 0 + (st.take (IntKind.i64.wrap ((st.length : Int) - popR r (gO b i.toNat))).toNat).length ≤ 70368744177664 by rw [List.length_take]; omega, ?_⟩
      conv => whnf
      refine ⟨show ((st.take (IntKind.i64.wrap ((st.length : Int) - popR r (gO b i.toNat))).toNat).length + 1) * 8 ≤ 70368744177664 by rw [List.length_take]; omega, ?_⟩
      conv => whnf
      refine ⟨show (st.take (IntKind.i64.wrap ((st.length : Int) - popR r (gO b i.toNat))).toNat).length + 1 ≤ 70368744177664 by rw [List.length_take]; omega, ?_⟩
      conv => whnf
      refine ⟨i + 1, ?_, ⟨by omega, by omega⟩, by omega⟩
      refine Eq.trans (b := S41 r b a (st.take (IntKind.i64.wrap ((st.length : Int) - popR r (gO b i.toNat))).toNat ++ [gI a (gO b i.toNat).2.toNat]) (IntKind.i64.wrap (i + 1))) rfl ?_
      rw [wi, ei, hstn, show stepN a (calR r) (gO b i.toNat) (st.drop (st.length - (popR r (gO b i.toNat)).toNat)) = gI a (gO b i.toNat).2.toNat by unfold stepN; rw [if_neg k0, if_pos k1], hD]
    have k1 : ¬ ((gO b i.toNat).1 = 1) := @of_decide_eq_false _ _ k1
    conv => whnf
    refine cond_intro (fun k9 => ?_) (fun k9 => ?_)
    · have k9 : (gO b i.toNat).1 = 9 := @of_decide_eq_true _ _ k9
      have hp3 : popR r (gO b i.toNat) = 3 := by unfold popR; rw [if_neg (by omega), if_pos k9]
      have htl : (st.drop (IntKind.i64.wrap ((st.length : Int) - popR r (gO b i.toNat))).toNat).length = 3 := by rw [List.length_drop, hD]; omega
      conv => whnf
      refine ⟨(by omega), ?_⟩
      conv => whnf
      refine ⟨show ((IntKind.i64.wrap ((st.length : Int) - popR r (gO b i.toNat))).toNat : Int) + 2 < (st.length : Int) by rw [hD]; omega, ?_⟩
      conv => whnf
      refine ⟨(by omega), ?_⟩
      conv => whnf
      refine ⟨show ((IntKind.i64.wrap ((st.length : Int) - popR r (gO b i.toNat))).toNat : Int) + 0 < (st.length : Int) by rw [hD]; omega, ?_⟩
      conv => whnf
      refine cond_intro (fun z => ?_) (fun z => ?_)
      · have z : (!decide (gI st ((IntKind.i64.wrap ((st.length : Int) - popR r (gO b i.toNat))).toNat + 0) = 0)) = true := z
        have z : ¬ (gI st ((IntKind.i64.wrap ((st.length : Int) - popR r (gO b i.toNat))).toNat + 0) = 0) := fun e => absurd z (by rw [decide_eq_true e]; decide)
        conv => whnf
        refine ⟨(by omega), ?_⟩
        conv => whnf
        refine ⟨show ((IntKind.i64.wrap ((st.length : Int) - popR r (gO b i.toNat))).toNat : Int) + 1 < (st.length : Int) by rw [hD]; omega, ?_⟩
        conv => whnf
        refine ⟨show 0 ≤ IntKind.i64.wrap ((st.length : Int) - popR r (gO b i.toNat)) by rw [hat]; omega, ?_⟩
        conv => whnf
        refine ⟨show IntKind.i64.wrap ((st.length : Int) - popR r (gO b i.toNat)) ≤ (st.length : Int) by rw [hat]; omega, ?_⟩
        conv => whnf
        refine ⟨show (0 + (st.take (IntKind.i64.wrap ((st.length : Int) - popR r (gO b i.toNat))).toNat).length) * 8 ≤ 70368744177664 by rw [List.length_take]; omega, ?_⟩
        conv => whnf
        refine ⟨show 0 + (st.take (IntKind.i64.wrap ((st.length : Int) - popR r (gO b i.toNat))).toNat).length ≤ 70368744177664 by rw [List.length_take]; omega, ?_⟩
        conv => whnf
        refine ⟨show ((st.take (IntKind.i64.wrap ((st.length : Int) - popR r (gO b i.toNat))).toNat).length + 1) * 8 ≤ 70368744177664 by rw [List.length_take]; omega, ?_⟩
        conv => whnf
        refine ⟨show (st.take (IntKind.i64.wrap ((st.length : Int) - popR r (gO b i.toNat))).toNat).length + 1 ≤ 70368744177664 by rw [List.length_take]; omega, ?_⟩
        conv => whnf
        refine ⟨i + 1, ?_, ⟨by omega, by omega⟩, by omega⟩
        refine Eq.trans (b := S41 r b a (st.take (IntKind.i64.wrap ((st.length : Int) - popR r (gO b i.toNat))).toNat ++ [gI st ((IntKind.i64.wrap ((st.length : Int) - popR r (gO b i.toNat))).toNat + 1)]) (IntKind.i64.wrap (i + 1))) rfl ?_
        rw [wi, ei, hstn, show stepN a (calR r) (gO b i.toNat) (st.drop (st.length - (popR r (gO b i.toNat)).toNat)) = gI st ((IntKind.i64.wrap ((st.length : Int) - popR r (gO b i.toNat))).toNat + 1) by unfold stepN; rw [if_neg k0, if_neg k1, if_pos k9, gI_drop (i := 0), gI_drop (i := 1), ← hD, if_neg z], hD]
      have z : (!decide (gI st ((IntKind.i64.wrap ((st.length : Int) - popR r (gO b i.toNat))).toNat + 0) = 0)) = false := z
      have z : gI st ((IntKind.i64.wrap ((st.length : Int) - popR r (gO b i.toNat))).toNat + 0) = 0 := Decidable.byContradiction fun e => absurd z (by rw [decide_eq_false e]; decide)
      conv => whnf
      refine ⟨show 0 ≤ IntKind.i64.wrap ((st.length : Int) - popR r (gO b i.toNat)) by rw [hat]; omega, ?_⟩
      conv => whnf
      refine ⟨show IntKind.i64.wrap ((st.length : Int) - popR r (gO b i.toNat)) ≤ (st.length : Int) by rw [hat]; omega, ?_⟩
      conv => whnf
      refine ⟨show (0 + (st.take (IntKind.i64.wrap ((st.length : Int) - popR r (gO b i.toNat))).toNat).length) * 8 ≤ 70368744177664 by rw [List.length_take]; omega, ?_⟩
      conv => whnf
      refine ⟨show 0 + (st.take (IntKind.i64.wrap ((st.length : Int) - popR r (gO b i.toNat))).toNat).length ≤ 70368744177664 by rw [List.length_take]; omega, ?_⟩
      conv => whnf
      refine ⟨show ((st.take (IntKind.i64.wrap ((st.length : Int) - popR r (gO b i.toNat))).toNat).length + 1) * 8 ≤ 70368744177664 by rw [List.length_take]; omega, ?_⟩
      conv => whnf
      refine ⟨show (st.take (IntKind.i64.wrap ((st.length : Int) - popR r (gO b i.toNat))).toNat).length + 1 ≤ 70368744177664 by rw [List.length_take]; omega, ?_⟩
      conv => whnf
      refine ⟨i + 1, ?_, ⟨by omega, by omega⟩, by omega⟩
      refine Eq.trans (b := S41 r b a (st.take (IntKind.i64.wrap ((st.length : Int) - popR r (gO b i.toNat))).toNat ++ [gI st ((IntKind.i64.wrap ((st.length : Int) - popR r (gO b i.toNat))).toNat + 2)]) (IntKind.i64.wrap (i + 1))) rfl ?_
      rw [wi, ei, hstn, show stepN a (calR r) (gO b i.toNat) (st.drop (st.length - (popR r (gO b i.toNat)).toNat)) = gI st ((IntKind.i64.wrap ((st.length : Int) - popR r (gO b i.toNat))).toNat + 2) by unfold stepN; rw [if_neg k0, if_neg k1, if_pos k9, gI_drop (i := 0), gI_drop (i := 2), ← hD, if_pos z], hD]
    have k9 : ¬ ((gO b i.toNat).1 = 9) := @of_decide_eq_false _ _ k9
    conv => whnf
    refine cond_intro (fun k10 => ?_) (fun k10 => ?_)
    · have k10 : (gO b i.toNat).1 = 10 := @of_decide_eq_true _ _ k10
      obtain ⟨a0, a1⟩ := kn_call g2 k10
      have hpk : popR r (gO b i.toNat) = (gR r (gO b i.toNat).2.toNat).2.1 := by unfold popR; rw [if_neg (by omega), if_neg k9, if_pos k10]
      have htl : (((st.drop (IntKind.i64.wrap ((st.length : Int) - popR r (gO b i.toNat))).toNat)).length : Int) = (gR r (gO b i.toNat).2.toNat).2.1 := by rw [List.length_drop, hD]; omega
      have hsk := hg.2 (gO b i.toNat).2.toNat (by omega)
      have hlt : (r.take (gO b i.toNat).2.toNat).length = (gO b i.toNat).2.toNat := by rw [List.length_take]; omega
      have hp41 : P41 f (r.take (gO b i.toNat).2.toNat) (gR r (gO b i.toNat).2.toNat).2.2 ((st.drop (IntKind.i64.wrap ((st.length : Int) - popR r (gO b i.toNat))).toNat)) := ⟨good_take hg (by omega), by rw [hlt]; omega, by rw [hlt, htl, sound_take (by omega)]; exact hsk, valsOk_drop hbd _, by omega⟩
      conv => whnf
      refine ⟨a0, ?_⟩
      conv => whnf
      refine ⟨show (gO b i.toNat).2 ≤ (r.length : Int) by omega, ?_⟩
      conv => whnf
      refine ⟨a0, ?_⟩
      conv => whnf
      refine ⟨show (gO b i.toNat).2 < (r.length : Int) by omega, ?_⟩
      conv => whnf
      refine ⟨hp41, ?_⟩
      conv => whnf
      refine ⟨show 0 ≤ IntKind.i64.wrap ((st.length : Int) - popR r (gO b i.toNat)) by rw [hat]; omega, ?_⟩
      conv => whnf
      refine ⟨show IntKind.i64.wrap ((st.length : Int) - popR r (gO b i.toNat)) ≤ (st.length : Int) by rw [hat]; omega, ?_⟩
      conv => whnf
      refine ⟨show (0 + (st.take (IntKind.i64.wrap ((st.length : Int) - popR r (gO b i.toNat))).toNat).length) * 8 ≤ 70368744177664 by rw [List.length_take]; omega, ?_⟩
      conv => whnf
      refine ⟨show 0 + (st.take (IntKind.i64.wrap ((st.length : Int) - popR r (gO b i.toNat))).toNat).length ≤ 70368744177664 by rw [List.length_take]; omega, ?_⟩
      conv => whnf
      refine ⟨show ((st.take (IntKind.i64.wrap ((st.length : Int) - popR r (gO b i.toNat))).toNat).length + 1) * 8 ≤ 70368744177664 by rw [List.length_take]; omega, ?_⟩
      conv => whnf
      refine ⟨show (st.take (IntKind.i64.wrap ((st.length : Int) - popR r (gO b i.toNat))).toNat).length + 1 ≤ 70368744177664 by rw [List.length_take]; omega, ?_⟩
      conv => whnf
      refine ⟨i + 1, ?_, ⟨by omega, by omega⟩, by omega⟩
      refine Eq.trans (b := S41 r b a (st.take (IntKind.i64.wrap ((st.length : Int) - popR r (gO b i.toNat))).toNat ++ [valR (r.take (gO b i.toNat).2.toNat) (gR r (gO b i.toNat).2.toNat).2.2 ((st.drop (IntKind.i64.wrap ((st.length : Int) - popR r (gO b i.toNat))).toNat))]) (IntKind.i64.wrap (i + 1))) rfl ?_
      rw [wi, ei, hstn, show stepN a (calR r) (gO b i.toNat) (st.drop (st.length - (popR r (gO b i.toNat)).toNat)) = valR (r.take (gO b i.toNat).2.toNat) (gR r (gO b i.toNat).2.toNat).2.2 ((st.drop (IntKind.i64.wrap ((st.length : Int) - popR r (gO b i.toNat))).toNat)) by unfold stepN; rw [if_neg k0, if_neg k1, if_neg k9, if_pos k10, ← hD, valR_take hg (by omega) hsk (Nat.le_refl _)]; rfl, hD]
    have k10 : ¬ ((gO b i.toNat).1 = 10) := @of_decide_eq_false _ _ k10
    have hk := kn_kind g2
    have hp2 : popR r (gO b i.toNat) = 2 := by unfold popR; rw [if_neg (by omega), if_neg k9, if_neg k10]
    have htl : ((st.drop (IntKind.i64.wrap ((st.length : Int) - popR r (gO b i.toNat))).toNat)).length = 2 := by rw [List.length_drop, hD]; omega
    have hv := valsOk_drop hbd (IntKind.i64.wrap ((st.length : Int) - popR r (gO b i.toNat))).toNat
    conv => whnf
    refine ⟨(by omega), ?_⟩
    conv => whnf
    refine ⟨show ((IntKind.i64.wrap ((st.length : Int) - popR r (gO b i.toNat))).toNat : Int) + 0 < (st.length : Int) by rw [hD]; omega, ?_⟩
    conv => whnf
    refine ⟨(by omega), ?_⟩
    conv => whnf
    refine ⟨show ((IntKind.i64.wrap ((st.length : Int) - popR r (gO b i.toNat))).toNat : Int) + 1 < (st.length : Int) by rw [hD]; omega, ?_⟩
    conv => whnf
    refine ⟨hbd _, ?_⟩
    conv => whnf
    refine ⟨hbd _, ?_⟩
    conv => whnf
    refine ⟨show 0 ≤ IntKind.i64.wrap ((st.length : Int) - popR r (gO b i.toNat)) by rw [hat]; omega, ?_⟩
    conv => whnf
    refine ⟨show IntKind.i64.wrap ((st.length : Int) - popR r (gO b i.toNat)) ≤ (st.length : Int) by rw [hat]; omega, ?_⟩
    conv => whnf
    refine ⟨show (0 + (st.take (IntKind.i64.wrap ((st.length : Int) - popR r (gO b i.toNat))).toNat).length) * 8 ≤ 70368744177664 by rw [List.length_take]; omega, ?_⟩
    conv => whnf
    refine ⟨show 0 + (st.take (IntKind.i64.wrap ((st.length : Int) - popR r (gO b i.toNat))).toNat).length ≤ 70368744177664 by rw [List.length_take]; omega, ?_⟩
    conv => whnf
    refine ⟨show ((st.take (IntKind.i64.wrap ((st.length : Int) - popR r (gO b i.toNat))).toNat).length + 1) * 8 ≤ 70368744177664 by rw [List.length_take]; omega, ?_⟩
    conv => whnf
    refine ⟨show (st.take (IntKind.i64.wrap ((st.length : Int) - popR r (gO b i.toNat))).toNat).length + 1 ≤ 70368744177664 by rw [List.length_take]; omega, ?_⟩
    conv => whnf
    refine ⟨i + 1, ?_, ⟨by omega, by omega⟩, by omega⟩
    refine Eq.trans (b := S41 r b a (st.take (IntKind.i64.wrap ((st.length : Int) - popR r (gO b i.toNat))).toNat ++ [twoK (gO b i.toNat).1 (gI st ((IntKind.i64.wrap ((st.length : Int) - popR r (gO b i.toNat))).toNat + 0)) (gI st ((IntKind.i64.wrap ((st.length : Int) - popR r (gO b i.toNat))).toNat + 1))]) (IntKind.i64.wrap (i + 1))) rfl ?_
    rw [wi, ei, hstn, show stepN a (calR r) (gO b i.toNat) (st.drop (st.length - (popR r (gO b i.toNat)).toNat)) = twoK (gO b i.toNat).1 (gI st ((IntKind.i64.wrap ((st.length : Int) - popR r (gO b i.toNat))).toNat + 0)) (gI st ((IntKind.i64.wrap ((st.length : Int) - popR r (gO b i.toNat))).toNat + 1)) by unfold stepN; rw [if_neg k0, if_neg k1, if_neg k9, if_neg k10, gI_drop, gI_drop, ← hD], hD]
  have hi : ¬ (i < (b.length : Int)) := @of_decide_eq_false _ _ hi
  rw [show i.toNat = b.length by omega]
  have hst := st_len hg.1 (by omega) (args := a) (cal := calR r) (sound_hJ hs).1
  conv => whnf
  refine ⟨(by omega), ?_⟩
  conv => whnf
  refine ⟨show (0 : Int) < ((stJ r a (calR r) b b.length).length : Int) by omega, ?_⟩
  conv => whnf
  show gI (stJ r a (calR r) b b.length) 0 = valR r b a
  exact (valR_eq hg hs (Nat.le_refl _)).symm
theorem k41 : ∀ f, FnOk Go.Proofs.Tryz.prog 41 (K41 f)
  | 0 => k41_0
  | f + 1 => k41_succ (k41 f)
end
end Go.Proofs.YtaafjaibaaiigaaGreatDoor.Eng
set_option linter.unusedVariables false
set_option linter.unusedSimpArgs false
namespace Go.Proofs.YtaafjaibaaiigaaGreatDoor.Eng
open Go
set_option maxRecDepth 100000
noncomputable section
theorem price1 {c : List Int} (hc : costOk c) (h1 : ∀ i, gI c i ≤ 100000) {o : Op2} (h : calOk c o) : priceR c [o] = payC c o := by
  have e : addJ c [o] 1 = 0 + (if callOk c o then gI c o.2.toNat else 0) := rfl
  have hb := h1 o.2.toNat
  have hb0 := (hc o.2.toNat).1
  have hl : (([o] : List Op2).length : Int) = 1 := rfl
  unfold priceR payC min2
  rw [show ([o] : List Op2).length = 1 from rfl, e]
  by_cases q : o.1 = 10
  · rw [if_pos (show callOk c o from ⟨q, h q⟩), if_pos q]
    split <;> omega
  · rw [if_neg (show ¬ callOk c o from fun k => q k.1), if_neg q]
    split <;> omega
def E14 : Env := ⟨tab, [(39, K39), (40, K40), (42, K42), (41, (K41 31))], fun n => match n with  | _ => none⟩
def K14 : Fn1 := ⟨.fld (.sl ruT) (.fld I (.one (.sl I))), .fld I (.fld I (.one I)), fun (x : List Ru × Int × List Int) => [bodyOk x.1, x.2.2.length ≤ 1000000], fun (x : List Ru × Int × List Int) => evalP x.1 x.2.1 x.2.2⟩
set_option maxHeartbeats 1000000 in
theorem k14 : FnOk Go.Proofs.Tryz.prog 14 K14 := by
  refine fn_ok (E := E14) (TOk.of tab_told) (AllOk.cons k39 (.cons k40 (.cons k42 (.cons (k41 31) .nil)))).at_ mix Go.Proofs.Tryz.func14 rfl rfl (by kernel_rfl) K14 ?_
  rintro ⟨(r : List Ru), (k : Int), (a : List Int)⟩ hp
  have hb : bodyOk r := hp _ (List.mem_cons_self ..)
  have hal : a.length ≤ 1000000 := hp _ (List.mem_cons_of_mem _ (List.mem_cons_self ..))
  clear hp
  conv => whnf
  refine ⟨hb, ?_⟩
  conv => whnf
  refine cond_intro (fun h0 => ?_) (fun h0 => ?_)
  · have h0 : (!decide (rulesR r = 0)) = true := h0
    have h0 : ¬ (rulesR r = 0) := fun e => absurd h0 (by rw [decide_eq_true e]; decide)
    conv => whnf
    show (((0 : Int), (0 : Int), rulesR r) : Int × Int × Int) = evalP r k a
    unfold evalP; rw [if_neg h0]
  have h0 : (!decide (rulesR r = 0)) = false := h0
  have h0 : rulesR r = 0 := Decidable.byContradiction fun e => absurd h0 (by rw [decide_eq_false e]; decide)
  obtain ⟨hg, hch, hle⟩ := rules_good h0
  conv => whnf
  refine cond_intro (fun h1 => ?_) (fun h1 => ?_)
  · have h1 : k < 0 := @of_decide_eq_true _ _ h1
    conv => whnf
    repeat (first | (refine cond_intro (fun h => absurd h (by decide)) (fun h => ?_); conv => whnf) | (refine cond_intro (fun h => ?_) (fun h => absurd h (by decide)); conv => whnf))
    conv => whnf
    show (((0 : Int), (0 : Int), 2) : Int × Int × Int) = evalP r k a
    unfold evalP; rw [if_pos h0, if_neg (by omega)]
  have h1 : ¬ (k < 0) := @of_decide_eq_false _ _ h1
  conv => whnf
  repeat (first | (refine cond_intro (fun h => absurd h (by decide)) (fun h => ?_); conv => whnf) | (refine cond_intro (fun h => ?_) (fun h => absurd h (by decide)); conv => whnf))
  conv => whnf
  refine cond_intro (fun h2 => ?_) (fun h2 => ?_)
  · have h2 : (r.length : Int) ≤ k := @of_decide_eq_true _ _ h2
    conv => whnf
    repeat (first | (refine cond_intro (fun h => absurd h (by decide)) (fun h => ?_); conv => whnf) | (refine cond_intro (fun h => ?_) (fun h => absurd h (by decide)); conv => whnf))
    conv => whnf
    show (((0 : Int), (0 : Int), 2) : Int × Int × Int) = evalP r k a
    unfold evalP; rw [if_pos h0, if_neg (by omega)]
  have h2 : ¬ ((r.length : Int) ≤ k) := @of_decide_eq_false _ _ h2
  have hk : 0 ≤ k ∧ k < (r.length : Int) := by omega
  conv => whnf
  repeat (first | (refine cond_intro (fun h => absurd h (by decide)) (fun h => ?_); conv => whnf) | (refine cond_intro (fun h => ?_) (fun h => absurd h (by decide)); conv => whnf))
  conv => whnf
  refine ⟨hk.1, ?_⟩
  conv => whnf
  refine ⟨hk.2, ?_⟩
  conv => whnf
  refine cond_intro (fun h3 => ?_) (fun h3 => ?_)
  · have h3 : (!decide ((a.length : Int) = (gR r k.toNat).2.1)) = true := h3
    have h3 : ¬ ((a.length : Int) = (gR r k.toNat).2.1) := fun e => absurd h3 (by rw [decide_eq_true e]; decide)
    conv => whnf
    show (((0 : Int), (0 : Int), 8) : Int × Int × Int) = evalP r k a
    unfold evalP; rw [if_pos h0, if_pos hk, if_neg h3]
  have h3 : (!decide ((a.length : Int) = (gR r k.toNat).2.1)) = false := h3
  have h3 : (a.length : Int) = (gR r k.toNat).2.1 := Decidable.byContradiction fun e => absurd h3 (by rw [decide_eq_false e]; decide)
  conv => whnf
  refine ⟨show a.length ≤ 140737488351232 by omega, ?_⟩
  conv => whnf
  refine cond_intro (fun h4 => ?_) (fun h4 => ?_)
  · have h4 : (!(allV a)) = true := h4
    have h4 : (allV a) = false := by cases e : (allV a) with | false => rfl | true => exact absurd h4 (by rw [e]; decide)
    conv => whnf
    show (((0 : Int), (0 : Int), 1) : Int × Int × Int) = evalP r k a
    unfold evalP; rw [if_pos h0, if_pos hk, if_pos h3, if_neg (by rw [h4]; decide)]
  have h4 : (!(allV a)) = false := h4
  have h4 : (allV a) = true := by cases e : (allV a) with | true => rfl | false => exact absurd h4 (by rw [e]; decide)
  have hsk := hg.2 k.toNat (by omega)
  have hlt : (r.take k.toNat).length = k.toNat := by rw [List.length_take]; omega
  have hp41 : P41 31 (r.take k.toNat) (gR r k.toNat).2.2 a := ⟨good_take hg (by omega), by rw [hlt]; omega, by rw [hlt, h3, sound_take (by omega)]; exact hsk, valsOk_all h4, hal⟩
  conv => whnf
  refine ⟨hk.1, ?_⟩
  conv => whnf
  refine ⟨show k ≤ (r.length : Int) by omega, ?_⟩
  conv => whnf
  refine ⟨hk.1, ?_⟩
  conv => whnf
  refine ⟨hk.2, ?_⟩
  conv => whnf
  refine ⟨hp41, ?_⟩
  conv => whnf
  refine ⟨show r.length ≤ 1000 by omega, ?_⟩
  conv => whnf
  refine ⟨hb, ?_⟩
  conv => whnf
  refine ⟨hk.1, ?_⟩
  conv => whnf
  refine ⟨show k < ((costsR r).length : Int) by rw [costs_len]; omega, ?_⟩
  conv => whnf
  show ((valR (r.take k.toNat) (gR r k.toNat).2.2 a, gI (costsR r) k.toNat, 0) : Int × Int × Int) = evalP r k a
  unfold evalP; rw [if_pos h0, if_pos hk, if_pos h3, if_pos h4, valR_take hg (by omega) hsk (Nat.le_refl _)]
def S18 (r : List Ru) (b : List Op2) (a : List Int) (B u i : Int) : SL := ⟨[.sl ruT r, .sl opT b, .sl I a, .int .i64 B, .undef, .undef, .undef, .undef, .undef, .undef, .undef, .undef, .undef, .own 0, .int .i64 u, .undef, .undef, .undef, .undef, .undef, .undef, .undef, .undef, .undef, .undef, .undef, .undef, .undef, .undef, .undef, .undef, .undef, .undef, .undef, .undef, .undef, .undef, .undef, .undef, .undef, .undef, .undef, .sl opT b, .int .i64 b.length, .int .i64 i, .undef, .undef, .undef, .undef, .undef, .undef, .undef, .undef, .undef, .undef, .undef, .undef, .undef, .undef, .undef, .undef, .undef, .undef, .undef, .undef, .undef, .undef], [(0, .arr I (costsR r))], 1⟩
def E18 : Env := ⟨tab, [(39, K39), (40, K40), (42, K42), (45, K45), (46, K46), (41, (K41 31))], fun n => match n with | 10 => some ([0, 1, 2, 3, 13, 14, 42, 43, 44], [], []) | _ => none⟩
def K18 : Fn1 := ⟨.fld (.sl ruT) (.fld (.sl opT) (.fld (.sl I) (.one I))), .fld I (.fld I (.fld .bool (.one I))), fun (x : List Ru × List Op2 × List Int × Int) => [bodyOk x.1, x.2.2.1.length ≤ 1000000], fun (x : List Ru × List Op2 × List Int × Int) => runP x.1 x.2.1 x.2.2.1 x.2.2.2⟩
set_option maxHeartbeats 1000000 in
theorem k18 : FnOk Go.Proofs.Tryz.prog 18 K18 := by
  refine fn_ok (E := E18) (TOk.of tab_told) (AllOk.cons k39 (.cons k40 (.cons k42 (.cons k45 (.cons k46 (.cons (k41 31) .nil)))))).at_ mix Go.Proofs.Tryz.func18 rfl rfl (by kernel_rfl) K18 ?_
  rintro ⟨(r : List Ru), (b : List Op2), (a : List Int), (B : Int)⟩ hp
  have hb : bodyOk r := hp _ (List.mem_cons_self ..)
  have hal : a.length ≤ 1000000 := hp _ (List.mem_cons_of_mem _ (List.mem_cons_self ..))
  clear hp
  conv => whnf
  refine ⟨hb, ?_⟩
  conv => whnf
  refine cond_intro (fun h0 => ?_) (fun h0 => ?_)
  · have h0 : (!decide (rulesR r = 0)) = true := h0
    have h0 : ¬ (rulesR r = 0) := fun e => absurd h0 (by rw [decide_eq_true e]; decide)
    conv => whnf
    show (((0 : Int), (0 : Int), false, rulesR r) : Int × Int × Bool × Int) = runP r b a B
    unfold runP; rw [if_neg h0]
  have h0 : (!decide (rulesR r = 0)) = false := h0
  have h0 : rulesR r = 0 := Decidable.byContradiction fun e => absurd h0 (by rw [decide_eq_false e]; decide)
  obtain ⟨hg, hch, hle⟩ := rules_good h0
  have hck := costs_ok r
  conv => whnf
  refine ⟨hg.1, ?_⟩
  conv => whnf
  refine cond_intro (fun h1 => ?_) (fun h1 => ?_)
  · have h1 : (!(soundB r r.length a.length b)) = true := h1
    have h1 : (soundB r r.length a.length b) = false := by cases e : (soundB r r.length a.length b) with | false => rfl | true => exact absurd h1 (by rw [e]; decide)
    conv => whnf
    show (((0 : Int), (0 : Int), false, 15) : Int × Int × Bool × Int) = runP r b a B
    unfold runP; rw [if_pos h0, if_neg (by rw [h1]; decide)]
  have h1 : (!(soundB r r.length a.length b)) = false := h1
  have h1 : (soundB r r.length a.length b) = true := by cases e : (soundB r r.length a.length b) with | true => rfl | false => exact absurd h1 (by rw [e]; decide)
  have hb60 := (sound_hJ h1).2
  conv => whnf
  refine ⟨show a.length ≤ 140737488351232 by omega, ?_⟩
  conv => whnf
  refine cond_intro (fun h2 => ?_) (fun h2 => ?_)
  · have h2 : (!(allV a)) = true := h2
    have h2 : (allV a) = false := by cases e : (allV a) with | false => rfl | true => exact absurd h2 (by rw [e]; decide)
    conv => whnf
    repeat (first | (refine cond_intro (fun h => absurd h (by decide)) (fun h => ?_); conv => whnf) | (refine cond_intro (fun h => ?_) (fun h => absurd h (by decide)); conv => whnf))
    conv => whnf
    show (((0 : Int), (0 : Int), false, 1) : Int × Int × Bool × Int) = runP r b a B
    unfold runP; rw [if_pos h0, if_pos h1, if_neg (fun q => by rw [h2] at q; exact absurd q.1 (by decide))]
  have h2 : (!(allV a)) = false := h2
  have h2 : (allV a) = true := by cases e : (allV a) with | true => rfl | false => exact absurd h2 (by rw [e]; decide)
  conv => whnf
  repeat (first | (refine cond_intro (fun h => absurd h (by decide)) (fun h => ?_); conv => whnf) | (refine cond_intro (fun h => ?_) (fun h => absurd h (by decide)); conv => whnf))
  conv => whnf
  refine cond_intro (fun h3 => ?_) (fun h3 => ?_)
  · have h3 : B < 0 := @of_decide_eq_true _ _ h3
    conv => whnf
    repeat (first | (refine cond_intro (fun h => absurd h (by decide)) (fun h => ?_); conv => whnf) | (refine cond_intro (fun h => ?_) (fun h => absurd h (by decide)); conv => whnf))
    conv => whnf
    show (((0 : Int), (0 : Int), false, 1) : Int × Int × Bool × Int) = runP r b a B
    unfold runP; rw [if_pos h0, if_pos h1, if_neg (fun q => by omega)]
  have h3 : ¬ (B < 0) := @of_decide_eq_false _ _ h3
  conv => whnf
  repeat (first | (refine cond_intro (fun h => absurd h (by decide)) (fun h => ?_); conv => whnf) | (refine cond_intro (fun h => ?_) (fun h => absurd h (by decide)); conv => whnf))
  conv => whnf
  refine cond_intro (fun h4 => ?_) (fun h4 => ?_)
  · have h4 : 100000 < B := @of_decide_eq_true _ _ h4
    conv => whnf
    repeat (first | (refine cond_intro (fun h => absurd h (by decide)) (fun h => ?_); conv => whnf) | (refine cond_intro (fun h => ?_) (fun h => absurd h (by decide)); conv => whnf))
    conv => whnf
    show (((0 : Int), (0 : Int), false, 1) : Int × Int × Bool × Int) = runP r b a B
    unfold runP; rw [if_pos h0, if_pos h1, if_neg (fun q => by omega)]
  have h4 : ¬ (100000 < B) := @of_decide_eq_false _ _ h4
  conv => whnf
  repeat (first | (refine cond_intro (fun h => absurd h (by decide)) (fun h => ?_); conv => whnf) | (refine cond_intro (fun h => ?_) (fun h => absurd h (by decide)); conv => whnf))
  conv => whnf
  refine ⟨show r.length ≤ 1000 by omega, ?_⟩
  conv => whnf
  refine ⟨hb, ?_⟩
  conv => whnf
  refine loop_rule (fun i : Int => S18 r b a B (payOf (costsR r) b i.toNat) i) (fun i => ((b.length : Int) - i).toNat) (fun i => 0 ≤ i ∧ i ≤ (b.length : Int) ∧ payOf (costsR r) b i.toNat ≤ B) ?_ 0 (by kernel_rfl) ?_ ⟨by omega, by omega, by rw [show payOf (costsR r) b (0 : Int).toNat = 0 from rfl]; omega⟩
  case refine_2 => rfl
  rintro i ⟨i0, i1, i2⟩
  conv => whnf
  refine cond_intro (fun hi => ?_) (fun hi => ?_)
  · have hi : i < (b.length : Int) := @of_decide_eq_true _ _ hi
    have wi : IntKind.i64.wrap (i + 1) = i + 1 := wrap_eq (by omega) (by omega)
    have ei : (i + 1).toNat = i.toNat + 1 := by omega
    obtain ⟨g, g1, g2, g3, g4⟩ := sound_at h1 (n := i.toNat) (by omega)
    have hca : calOk (costsR r) (gO b i.toNat) := fun e => by have := kn_call g2 e; rw [costs_len]; omega
    have hps := pay_step hca
    have hpp := payC_pos hck (gO b i.toNat)
    have hp0 := payOf_le (b := b) hck (n := 0) (m := i.toNat) (Nat.zero_le _)
    rw [payOf_0] at hp0
    have hpr := price1 hck hch.2 hca
    have w1 : IntKind.i64.wrap (B - payOf (costsR r) b i.toNat) = B - payOf (costsR r) b i.toNat := wrap_eq (by omega) (by omega)
    have w2 : IntKind.i64.wrap (payOf (costsR r) b i.toNat + priceR (costsR r) [(gO b i.toNat)]) = payOf (costsR r) b (i.toNat + 1) := by rw [hpr, hps]; exact wrap_eq (by omega) (by omega)
    conv => whnf
    refine ⟨i0, ?_⟩
    conv => whnf
    refine ⟨hi, ?_⟩
    conv => whnf
    refine ⟨hck, ?_⟩
    conv => whnf
    refine ⟨(by show 1 ≤ 140737488351232; omega), ?_⟩
    conv => whnf
    refine cond_intro (fun q => ?_) (fun q => ?_)
    · have q : IntKind.i64.wrap (B - payOf (costsR r) b i.toNat) < priceR (costsR r) [(gO b i.toNat)] := @of_decide_eq_true _ _ q
      rw [w1, hpr] at q
      have hsa : stopAt (costsR r) b B = i.toNat := stop_at hck i2 (by omega) (fun _ => by rw [hps]; omega)
      conv => whnf
      show ((0, payOf (costsR r) b i.toNat, false, 0) : Int × Int × Bool × Int) = runP r b a B
      unfold runP; rw [if_pos h0, if_pos h1, if_pos ⟨h2, by omega, by omega⟩, show runV r (costsR r) b a B = 0 by unfold runV; rw [hsa, if_neg (by omega)], show runK (costsR r) b B = false by unfold runK; rw [hsa]; exact decide_eq_false (by omega), hsa]
    have q : ¬ (IntKind.i64.wrap (B - payOf (costsR r) b i.toNat) < priceR (costsR r) [(gO b i.toNat)]) := @of_decide_eq_false _ _ q
    rw [w1, hpr] at q
    conv => whnf
    refine ⟨i + 1, ?_, ⟨by omega, by omega, by rw [ei, hps]; omega⟩, by omega⟩
    exact Eq.trans (b := S18 r b a B (IntKind.i64.wrap (payOf (costsR r) b i.toNat + priceR (costsR r) [(gO b i.toNat)])) (IntKind.i64.wrap (i + 1))) rfl (by rw [wi, ei, w2])
  have hi : ¬ (i < (b.length : Int)) := @of_decide_eq_false _ _ hi
  rw [show i.toNat = b.length by omega] at i2 ⊢
  have hsa : stopAt (costsR r) b B = b.length := (stop_all hck (by omega)).2 i2
  have hp41 : P41 31 r b a := ⟨hg, by omega, h1, valsOk_all h2, hal⟩
  conv => whnf
  refine ⟨hp41, ?_⟩
  conv => whnf
  show ((valR r b a, payOf (costsR r) b b.length, true, 0) : Int × Int × Bool × Int) = runP r b a B
  unfold runP; rw [if_pos h0, if_pos h1, if_pos ⟨h2, by omega, by omega⟩, show runV r (costsR r) b a B = valR r b a by unfold runV; rw [hsa, if_pos rfl], show runK (costsR r) b B = true by unfold runK; rw [hsa]; exact decide_eq_true rfl, hsa]
end
end Go.Proofs.YtaafjaibaaiigaaGreatDoor.Eng
set_option linter.unusedVariables false
set_option linter.unusedSimpArgs false
namespace Go.Proofs.YtaafjaibaaiigaaGreatDoor.Eng
open Go
set_option maxRecDepth 100000
noncomputable section
theorem NL_ne : ¬ NL = ⟨#[]⟩ := fun e => absurd (congrArg ByteArray.size e) (by decide +kernel)
theorem ln_size : ((lnB.size : Nat) : Int) = 22 := by decide +kernel
def E82 : Env := ⟨tab, [(105, K105)], fun n => match n with | 11 => some ([0, 1, 2, 3, 9, 10], [], []) | 999999 => some ([], [], []) | _ => none⟩
def K82 : Fn1 := ⟨.fld .str (.fld .str (.fld I (.one I))), .one (.sl .str), fun (x : ByteArray × ByteArray × Int × Int) => [x.1 = lnB, x.2.1 = NL, x.2.2 = (0, -1)], fun (x : ByteArray × ByteArray × Int × Int) => [x.1]⟩
set_option maxHeartbeats 1000000 in
theorem k82 : FnOk Go.Proofs.Tryz.prog 82 K82 := by
  refine fn_ok (E := E82) (TOk.of tab_told) (AllOk.cons k105 .nil).at_ mix Go.Proofs.Tryz.func82 rfl rfl (by kernel_rfl) K82 ?_
  rintro ⟨(s : ByteArray), (t : ByteArray), k⟩ hp
  have hs : s = lnB := hp _ (List.mem_cons_self ..)
  have ht : t = NL := hp _ (List.mem_cons_of_mem _ (List.mem_cons_self ..))
  have hk : k = ((0, -1) : Int × Int) := hp _ (List.mem_cons_of_mem _ (List.mem_cons_of_mem _ (List.mem_cons_self ..)))
  clear hp
  subst hk
  have hm : min2 (IntKind.i64.wrap (0 + 1)) (IntKind.i64.wrap ((s.size : Int) + 1)) = 1 := by rw [hs, ln_size]; decide
  conv => whnf
  repeat (first | (refine cond_intro (fun h => absurd h (by decide)) (fun h => ?_); conv => whnf) | (refine cond_intro (fun h => ?_) (fun h => absurd h (by decide)); conv => whnf))
  conv => whnf
  refine cond_intro (fun q => ?_) (fun q => ?_)
  · have q : ((t.toList == ByteArray.toList ⟨#[]⟩)) = true := q
    rw [tl_iff] at q
    have q := of_decide_eq_true q
    rw [ht] at q
    exact absurd q NL_ne
  have q : ((t.toList == ByteArray.toList ⟨#[]⟩)) = false := q
  conv => whnf
  repeat (first | (refine cond_intro (fun h => absurd h (by decide)) (fun h => ?_); conv => whnf) | (refine cond_intro (fun h => ?_) (fun h => absurd h (by decide)); conv => whnf))
  conv => whnf
  refine ⟨hs, ?_⟩
  conv => whnf
  refine ⟨ht, ?_⟩
  conv => whnf
  refine ⟨show 0 ≤ min2 (IntKind.i64.wrap (0 + 1)) (IntKind.i64.wrap ((s.size : Int) + 1)) by rw [hm]; omega, ?_⟩
  conv => whnf
  refine ⟨Int.le_refl _, ?_⟩
  conv => whnf
  refine ⟨show min2 (IntKind.i64.wrap (0 + 1)) (IntKind.i64.wrap ((s.size : Int) + 1)) * 16 ≤ 70368744177664 by rw [hm]; omega, ?_⟩
  conv => whnf
  refine ⟨show min2 (IntKind.i64.wrap (0 + 1)) (IntKind.i64.wrap ((s.size : Int) + 1)) ≤ 70368744177664 by rw [hm]; omega, ?_⟩
  conv => whnf
  refine ⟨⟨14, ?_⟩⟩
  conv => whnf
  refine cond_intro (fun z => ?_) (fun z => ?_)
  · have z : (0 : Int) < IntKind.i64.wrap (min2 (IntKind.i64.wrap (0 + 1)) (IntKind.i64.wrap ((s.size : Int) + 1)) - 1) := @of_decide_eq_true _ _ z
    rw [hm] at z
    exact absurd z (by decide)
  have z : ¬ ((0 : Int) < IntKind.i64.wrap (min2 (IntKind.i64.wrap (0 + 1)) (IntKind.i64.wrap ((s.size : Int) + 1)) - 1)) := @of_decide_eq_false _ _ z
  conv => whnf
  refine ⟨(by omega), ?_⟩
  conv => whnf
  refine ⟨show (0 : Int) < ((List.replicate (min2 (IntKind.i64.wrap (0 + 1)) (IntKind.i64.wrap ((s.size : Int) + 1))).toNat (⟨#[]⟩ : ByteArray)).length : Int) by rw [hm]; decide, ?_⟩
  conv => whnf
  refine ⟨(by decide), ?_⟩
  conv => whnf
  refine ⟨show IntKind.i64.wrap (0 + 1) ≤ (((List.replicate (min2 (IntKind.i64.wrap (0 + 1)) (IntKind.i64.wrap ((s.size : Int) + 1))).toNat (⟨#[]⟩ : ByteArray)).set (0 : Int).toNat s).length : Int) by rw [hm]; exact Int.le_refl 1, ?_⟩
  conv => whnf
  show ((List.replicate (min2 (IntKind.i64.wrap (0 + 1)) (IntKind.i64.wrap ((s.size : Int) + 1))).toNat (⟨#[]⟩ : ByteArray)).set (0 : Int).toNat s).take (IntKind.i64.wrap (0 + 1)).toNat = [s]
  rw [hm]
  rfl
def E47 : Env := ⟨tab, [(82, K82)], fun n => match n with  | _ => none⟩
def K47 : Fn1 := ⟨.fld .str (.one .str), .one (.sl .str), fun (x : ByteArray × ByteArray) => [x.1 = lnB, x.2 = NL], fun (x : ByteArray × ByteArray) => [x.1]⟩
theorem k47 : FnOk Go.Proofs.Tryz.prog 47 K47 := by
  refine fn_ok (E := E47) (TOk.of tab_told) (AllOk.cons k82 .nil).at_ mix Go.Proofs.Tryz.func47 rfl rfl (by kernel_rfl) K47 ?_
  rintro ⟨(s : ByteArray), (t : ByteArray)⟩ hp
  have hs : s = lnB := hp _ (List.mem_cons_self ..)
  have ht : t = NL := hp _ (List.mem_cons_of_mem _ (List.mem_cons_self ..))
  clear hp
  conv => whnf
  refine ⟨hs, ?_⟩
  conv => whnf
  refine ⟨ht, ?_⟩
  conv => whnf
  refine ⟨rfl, ?_⟩
  conv => whnf
  rfl
theorem nm_x : nmR ruX := fun i => by
  match i with
  | 0 => exact (by decide : 5 ≤ 140737488351232)
  | i + 1 => exact Nat.zero_le _
theorem bd_x : bodyOk ruX := fun x hx => by
  have := List.mem_singleton.1 hx
  subst this
  exact (by decide : 3 ≤ 140737488351232)
theorem rules_x : rulesR ruX = 0 := by kernel_rfl
theorem tx_size : ¬ 20000 < ((txB.size : Nat) : Int) := by decide +kernel
theorem tx_ne : ¬ txB = ⟨#[]⟩ := fun e => absurd (congrArg ByteArray.size e) (by decide +kernel)
def E19 : Env := ⟨tab, [(48, K48), (47, K47), (49, .eff X49), (10, K10)], fun n => match n with | 6 => some ([2, 5, 18, 19, 20], [], []) | _ => none⟩
def K19 : Fn1 := ⟨.one .str, .fld coT (.fld I (.one I)), fun (s : ByteArray) => [s = txB], fun _ => ((ruX, [], [], [], []), 0, 0)⟩
set_option maxHeartbeats 1000000 in
theorem k19 : FnOk Go.Proofs.Tryz.prog 19 K19 := by
  refine fn_ok (E := E19) (TOk.of tab_told) (AllOk.cons k48 (.cons k47 (.consX k49 (.cons k10 .nil)))).at_ mix Go.Proofs.Tryz.func19 rfl rfl (by kernel_rfl) K19 ?_
  rintro (s : ByteArray) hp
  have hs : s = txB := hp _ (List.mem_cons_self ..)
  clear hp
  conv => whnf
  refine cond_intro (fun h0 => ?_) (fun h0 => ?_)
  · have h0 : 20000 < (s.size : Int) := @of_decide_eq_true _ _ h0
    rw [hs] at h0
    exact absurd h0 tx_size
  have h0 : ¬ (20000 < (s.size : Int)) := @of_decide_eq_false _ _ h0
  conv => whnf
  refine cond_intro (fun h1 => ?_) (fun h1 => ?_)
  · have h1 : (!((s.toList == ByteArray.toList ⟨#[]⟩))) = true := h1
    have h1 : ((s.toList == ByteArray.toList ⟨#[]⟩)) = false := by cases e : ((s.toList == ByteArray.toList ⟨#[]⟩)) with | false => rfl | true => exact absurd h1 (by rw [e]; decide)
    conv => whnf
    refine ⟨hs, ?_⟩
    conv => whnf
    refine ⟨rfl, ?_⟩
    conv => whnf
    refine ⟨rfl, ?_⟩
    conv => whnf
    refine ⟨rfl, ?_⟩
    conv => whnf
    refine ⟨⟨14, ?_⟩⟩
    conv => whnf
    repeat (first | (refine cond_intro (fun h => absurd h (by decide)) (fun h => ?_); conv => whnf) | (refine cond_intro (fun h => ?_) (fun h => absurd h (by decide)); conv => whnf))
    conv => whnf
    refine ⟨(by omega), ?_⟩
    conv => whnf
    refine ⟨(by decide : (0 : Int) < 1), ?_⟩
    conv => whnf
    refine ⟨rfl, ?_⟩
    conv => whnf
    repeat (first | (refine cond_intro (fun h => absurd h (by decide)) (fun h => ?_); conv => whnf) | (refine cond_intro (fun h => ?_) (fun h => absurd h (by decide)); conv => whnf))
    conv => whnf
    refine ⟨rfl, ?_⟩
    conv => whnf
    refine ⟨nm_x, ?_⟩
    conv => whnf
    refine ⟨bd_x, ?_⟩
    conv => whnf
    refine ⟨(by decide : 1 ≤ 1000), ?_⟩
    conv => whnf
    rfl
  have h1 : (!((s.toList == ByteArray.toList ⟨#[]⟩))) = false := h1
  have h1 : ((s.toList == ByteArray.toList ⟨#[]⟩)) = true := by cases e : ((s.toList == ByteArray.toList ⟨#[]⟩)) with | true => rfl | false => exact absurd h1 (by rw [e]; decide)
  rw [tl_iff] at h1
  have h1 := of_decide_eq_true h1
  rw [hs] at h1
  exact absurd h1 tx_ne
theorem fn_less {P : Program} {f : FuncId} {i o : Ty} {pre pre' : i.D → List Prop} {res res' : i.D → o.D} (h : FnOk P f ⟨i, o, pre, res⟩) (e : ∀ a, (∀ p ∈ pre' a, p) → (∀ p ∈ pre a, p) ∧ res a = res' a) : FnOk P f ⟨i, o, pre', res'⟩ := by
  refine ⟨h.body, ?_⟩
  intro w S0 vals a hS0 hv hp base
  obtain ⟨h1, h2⟩ := e a hp
  have := h.sound w S0 vals a hS0 hv h1 base
  simp only [h2] at this
  exact this
def K13x : Fn1 := ⟨.fld (.sl ruT) (.fld I (.one (.sl I))), .fld I (.fld I (.one I)), fun (x : List Ru × Int × List Int) => [x = (ruX, 0, [5])], fun _ => (10, 3, 0)⟩
theorem eval_x : evalP ruX 0 [5] = (10, 3, 0) := by decide +kernel
theorem k13x : FnOk Go.Proofs.Tryz.prog 13 K13x := by
  refine fn_less k13 (fun x hp => ?_)
  have hx : x = (ruX, 0, [5]) := hp _ (List.mem_cons_self ..)
  subst hx
  refine ⟨fun p h => ?_, eval_x⟩
  rcases List.mem_cons.1 h with rfl | h
  · exact nm_x
  rcases List.mem_cons.1 h with rfl | h
  · exact bd_x
  rcases List.mem_cons.1 h with rfl | h
  · exact (by decide : 1 ≤ 1000)
  rcases List.mem_cons.1 h with rfl | h
  · exact (by decide : 1 ≤ 1000000)
  · cases h
def E9 : Env := ⟨tab, [(19, K19), (13, K13x)], fun n => match n with  | _ => none⟩
def K9 : Fn1 := ⟨.bool, .one .bool, fun _ => [], fun _ => true⟩
set_option maxHeartbeats 1000000 in
theorem k9 : FnOk Go.Proofs.Tryz.prog 9 K9 := by
  refine fn_ok (E := E9) (TOk.of tab_told) (AllOk.cons k19 (.cons k13x .nil)).at_ mix Go.Proofs.Tryz.func9 rfl rfl (by kernel_rfl) K9 ?_
  rintro _ hp
  clear hp
  conv => whnf
  refine ⟨(by kernel_rfl), ?_⟩
  conv => whnf
  refine ⟨rfl, ?_⟩
  conv => whnf
  rfl
end
end Go.Proofs.YtaafjaibaaiigaaGreatDoor.Eng
set_option linter.unusedVariables false
set_option linter.unusedSimpArgs false
namespace Go.Proofs.YtaafjaibaaiigaaGreatDoor.Eng
open Go
set_option maxRecDepth 100000
noncomputable section
def E5 : Env := ⟨tab, [(12, K12), (9, K9), (15, K15), (16, K16)], fun n => match n with  | _ => none⟩
def K5 : Fn1 := ⟨.fld (.sl ruT) (.one I), .one .bool, fun (x : List Ru × Int) => [x.1.length ≤ 140737488351232], fun _ => true⟩
theorem k5 : FnOk Go.Proofs.Tryz.prog 5 K5 := by
  refine fn_ok (E := E5) (TOk.of tab_told) (AllOk.cons k12 (.cons k9 (.cons k15 (.cons k16 .nil)))).at_ mix Go.Proofs.Tryz.func5 rfl rfl (by kernel_rfl) K5 ?_
  rintro ⟨(r : List Ru), (k : Int)⟩ hp
  have hrl : r.length ≤ 140737488351232 := hp _ (List.mem_cons_self ..)
  clear hp
  conv => whnf
  refine ⟨hrl, ?_⟩
  conv => whnf
  refine ⟨Nat.zero_le _, ?_⟩
  conv => whnf
  refine cond_intro (fun h0 => ?_) (fun h0 => ?_)
  · have h0 : (longB r [] [] []) = true := h0
    conv => whnf
    rfl
  have h0 : (longB r [] [] []) = false := h0
  obtain ⟨hn, hb, hl, _⟩ := long_f h0
  have hl2 : r.length ≤ 1000 := by omega
  conv => whnf
  refine ⟨hn, ?_⟩
  conv => whnf
  refine ⟨hb, ?_⟩
  conv => whnf
  refine ⟨hl2, ?_⟩
  conv => whnf
  refine ⟨hb, ?_⟩
  conv => whnf
  repeat (first | (refine cond_intro (fun h => absurd h (by decide)) (fun h => ?_); conv => whnf) | (refine cond_intro (fun h => ?_) (fun h => absurd h (by decide)); conv => whnf))
  conv => whnf
  refine cond_intro (fun q2 => ?_) (fun q2 => ?_)
  · have q2 : (costP r k).1 = (costP r k).1 := @of_decide_eq_true _ _ q2
    conv => whnf
    repeat (first | (refine cond_intro (fun h => absurd h (by decide)) (fun h => ?_); conv => whnf) | (refine cond_intro (fun h => ?_) (fun h => absurd h (by decide)); conv => whnf))
    conv => whnf
    refine cond_intro (fun q1 => ?_) (fun q1 => ?_)
    · have q1 : (costP r k).2 = (costP r k).2 := @of_decide_eq_true _ _ q1
      conv => whnf
      repeat (first | (refine cond_intro (fun h => absurd h (by decide)) (fun h => ?_); conv => whnf) | (refine cond_intro (fun h => ?_) (fun h => absurd h (by decide)); conv => whnf))
      rfl
    have q1 : ¬ ((costP r k).2 = (costP r k).2) := @of_decide_eq_false _ _ q1
    exact absurd rfl q1
  have q2 : ¬ ((costP r k).1 = (costP r k).1) := @of_decide_eq_false _ _ q2
  exact absurd rfl q2
def E4 : Env := ⟨tab, [(12, K12), (9, K9), (13, K13), (14, K14)], fun n => match n with  | _ => none⟩
def K4 : Fn1 := ⟨.fld (.sl ruT) (.fld I (.one (.sl I))), .one .bool, fun (x : List Ru × Int × List Int) => [x.1.length ≤ 140737488351232], fun _ => true⟩
theorem k4 : FnOk Go.Proofs.Tryz.prog 4 K4 := by
  refine fn_ok (E := E4) (TOk.of tab_told) (AllOk.cons k12 (.cons k9 (.cons k13 (.cons k14 .nil)))).at_ mix Go.Proofs.Tryz.func4 rfl rfl (by kernel_rfl) K4 ?_
  rintro ⟨(r : List Ru), (k : Int), (a : List Int)⟩ hp
  have hrl : r.length ≤ 140737488351232 := hp _ (List.mem_cons_self ..)
  clear hp
  conv => whnf
  refine ⟨hrl, ?_⟩
  conv => whnf
  refine ⟨Nat.zero_le _, ?_⟩
  conv => whnf
  refine cond_intro (fun h0 => ?_) (fun h0 => ?_)
  · have h0 : (longB r [] a []) = true := h0
    conv => whnf
    rfl
  have h0 : (longB r [] a []) = false := h0
  obtain ⟨hn, hb, hl, _, hal, _⟩ := long_f h0
  have hl2 : r.length ≤ 1000 := by omega
  have hal2 : a.length ≤ 1000000 := by omega
  conv => whnf
  refine ⟨hn, ?_⟩
  conv => whnf
  refine ⟨hb, ?_⟩
  conv => whnf
  refine ⟨hl2, ?_⟩
  conv => whnf
  refine ⟨hal2, ?_⟩
  conv => whnf
  refine ⟨hb, ?_⟩
  conv => whnf
  refine ⟨hal2, ?_⟩
  conv => whnf
  repeat (first | (refine cond_intro (fun h => absurd h (by decide)) (fun h => ?_); conv => whnf) | (refine cond_intro (fun h => ?_) (fun h => absurd h (by decide)); conv => whnf))
  conv => whnf
  refine cond_intro (fun q3 => ?_) (fun q3 => ?_)
  · have q3 : (evalP r k a).1 = (evalP r k a).1 := @of_decide_eq_true _ _ q3
    conv => whnf
    repeat (first | (refine cond_intro (fun h => absurd h (by decide)) (fun h => ?_); conv => whnf) | (refine cond_intro (fun h => ?_) (fun h => absurd h (by decide)); conv => whnf))
    conv => whnf
    refine cond_intro (fun q2 => ?_) (fun q2 => ?_)
    · have q2 : (evalP r k a).2.1 = (evalP r k a).2.1 := @of_decide_eq_true _ _ q2
      conv => whnf
      repeat (first | (refine cond_intro (fun h => absurd h (by decide)) (fun h => ?_); conv => whnf) | (refine cond_intro (fun h => ?_) (fun h => absurd h (by decide)); conv => whnf))
      conv => whnf
      refine cond_intro (fun q1 => ?_) (fun q1 => ?_)
      · have q1 : (evalP r k a).2.2 = (evalP r k a).2.2 := @of_decide_eq_true _ _ q1
        conv => whnf
        repeat (first | (refine cond_intro (fun h => absurd h (by decide)) (fun h => ?_); conv => whnf) | (refine cond_intro (fun h => ?_) (fun h => absurd h (by decide)); conv => whnf))
        rfl
      have q1 : ¬ ((evalP r k a).2.2 = (evalP r k a).2.2) := @of_decide_eq_false _ _ q1
      exact absurd rfl q1
    have q2 : ¬ ((evalP r k a).2.1 = (evalP r k a).2.1) := @of_decide_eq_false _ _ q2
    exact absurd rfl q2
  have q3 : ¬ ((evalP r k a).1 = (evalP r k a).1) := @of_decide_eq_false _ _ q3
  exact absurd rfl q3
def E6 : Env := ⟨tab, [(12, K12), (9, K9), (17, K17), (18, K18)], fun n => match n with  | _ => none⟩
def K6 : Fn1 := ⟨.fld (.sl ruT) (.fld (.sl opT) (.fld (.sl I) (.one I))), .one .bool, fun (x : List Ru × List Op2 × List Int × Int) => [x.1.length ≤ 140737488351232], fun _ => true⟩
theorem k6 : FnOk Go.Proofs.Tryz.prog 6 K6 := by
  refine fn_ok (E := E6) (TOk.of tab_told) (AllOk.cons k12 (.cons k9 (.cons k17 (.cons k18 .nil)))).at_ mix Go.Proofs.Tryz.func6 rfl rfl (by kernel_rfl) K6 ?_
  rintro ⟨(r : List Ru), (b : List Op2), (a : List Int), (B : Int)⟩ hp
  have hrl : r.length ≤ 140737488351232 := hp _ (List.mem_cons_self ..)
  clear hp
  conv => whnf
  refine ⟨hrl, ?_⟩
  conv => whnf
  refine ⟨Nat.zero_le _, ?_⟩
  conv => whnf
  refine cond_intro (fun h0 => ?_) (fun h0 => ?_)
  · have h0 : (longB r b a []) = true := h0
    conv => whnf
    rfl
  have h0 : (longB r b a []) = false := h0
  obtain ⟨hn, hb, hl, hbl, hal, _⟩ := long_f h0
  have hl2 : r.length ≤ 1000 := by omega
  have hal2 : a.length ≤ 1000000 := by omega
  have hbl2 : b.length ≤ 140737488351232 := by omega
  conv => whnf
  refine ⟨hn, ?_⟩
  conv => whnf
  refine ⟨hb, ?_⟩
  conv => whnf
  refine ⟨hl2, ?_⟩
  conv => whnf
  refine ⟨hal2, ?_⟩
  conv => whnf
  refine ⟨hbl2, ?_⟩
  conv => whnf
  refine ⟨hb, ?_⟩
  conv => whnf
  refine ⟨hal2, ?_⟩
  conv => whnf
  repeat (first | (refine cond_intro (fun h => absurd h (by decide)) (fun h => ?_); conv => whnf) | (refine cond_intro (fun h => ?_) (fun h => absurd h (by decide)); conv => whnf))
  conv => whnf
  refine cond_intro (fun q1 => ?_) (fun q1 => ?_)
  · have q1 : (runP r b a B).1 = (runP r b a B).1 := @of_decide_eq_true _ _ q1
    conv => whnf
    repeat (first | (refine cond_intro (fun h => absurd h (by decide)) (fun h => ?_); conv => whnf) | (refine cond_intro (fun h => ?_) (fun h => absurd h (by decide)); conv => whnf))
    conv => whnf
    refine cond_intro (fun q2 => ?_) (fun q2 => ?_)
    · have q2 : (runP r b a B).2.1 = (runP r b a B).2.1 := @of_decide_eq_true _ _ q2
      conv => whnf
      repeat (first | (refine cond_intro (fun h => absurd h (by decide)) (fun h => ?_); conv => whnf) | (refine cond_intro (fun h => ?_) (fun h => absurd h (by decide)); conv => whnf))
      conv => whnf
      refine cond_intro (fun q3 => ?_) (fun q3 => ?_)
      · have q3 : ((runP r b a B).2.2.1 == (runP r b a B).2.2.1) = true := q3
        conv => whnf
        repeat (first | (refine cond_intro (fun h => absurd h (by decide)) (fun h => ?_); conv => whnf) | (refine cond_intro (fun h => ?_) (fun h => absurd h (by decide)); conv => whnf))
        conv => whnf
        refine cond_intro (fun q1 => ?_) (fun q1 => ?_)
        · have q1 : (runP r b a B).2.2.2 = (runP r b a B).2.2.2 := @of_decide_eq_true _ _ q1
          conv => whnf
          repeat (first | (refine cond_intro (fun h => absurd h (by decide)) (fun h => ?_); conv => whnf) | (refine cond_intro (fun h => ?_) (fun h => absurd h (by decide)); conv => whnf))
          rfl
        have q1 : ¬ ((runP r b a B).2.2.2 = (runP r b a B).2.2.2) := @of_decide_eq_false _ _ q1
        exact absurd rfl q1
      have q3 : ((runP r b a B).2.2.1 == (runP r b a B).2.2.1) = false := q3
      rw [beq_self_eq_true] at q3
      cases q3
    have q2 : ¬ ((runP r b a B).2.1 = (runP r b a B).2.1) := @of_decide_eq_false _ _ q2
    exact absurd rfl q2
  have q1 : ¬ ((runP r b a B).1 = (runP r b a B).1) := @of_decide_eq_false _ _ q1
  exact absurd rfl q1
theorem eval_cases {r : List Ru} (k : Int) (a : List Int) : (∃ e, evalP r k a = (0, 0, e) ∧ e ≠ 0) ∨ (rulesR r = 0 ∧ (0 ≤ k ∧ k < (r.length : Int)) ∧ (a.length : Int) = (gR r k.toNat).2.1 ∧ allV a = true ∧ evalP r k a = (valR r (gR r k.toNat).2.2 a, gI (costsR r) k.toNat, 0)) := by
  unfold evalP
  by_cases h0 : rulesR r = 0
  · by_cases h1 : 0 ≤ k ∧ k < (r.length : Int)
    · by_cases h2 : (a.length : Int) = (gR r k.toNat).2.1
      · by_cases h3 : allV a = true
        · refine Or.inr ⟨h0, h1, h2, h3, ?_⟩; rw [if_pos h0, if_pos h1, if_pos h2, if_pos h3]
        · refine Or.inl ⟨1, ?_, by decide⟩; rw [if_pos h0, if_pos h1, if_pos h2, if_neg h3]
      · refine Or.inl ⟨8, ?_, by decide⟩; rw [if_pos h0, if_pos h1, if_neg h2]
    · refine Or.inl ⟨2, ?_, by decide⟩; rw [if_pos h0, if_neg h1]
  · exact Or.inl ⟨rulesR r, by rw [if_neg h0], h0⟩
theorem run_cases {r : List Ru} {b : List Op2} {a : List Int} (B : Int) (h0 : rulesR r = 0) (h1 : soundB r r.length a.length b = true) (h2 : allV a = true) :
    ((B < 0 ∨ 100000 < B) ∧ runP r b a B = (0, 0, false, 1)) ∨ (0 ≤ B ∧ B ≤ 100000 ∧ runP r b a B = (runV r (costsR r) b a B, payOf (costsR r) b (stopAt (costsR r) b B), runK (costsR r) b B, 0)) := by
  unfold runP
  by_cases h3 : 0 ≤ B ∧ B ≤ 100000
  · exact Or.inr ⟨h3.1, h3.2, by rw [if_pos h0, if_pos h1, if_pos ⟨h2, h3⟩]⟩
  · exact Or.inl ⟨by omega, by rw [if_pos h0, if_pos h1, if_neg fun q => h3 q.2]⟩
def E7 : Env := ⟨tab, [(12, K12), (9, K9), (13, K13), (17, K17)], fun n => match n with  | _ => none⟩
def K7 : Fn1 := ⟨.fld (.sl ruT) (.fld I (.fld (.sl I) (.one I))), .one .bool, fun (x : List Ru × Int × List Int × Int) => [x.1.length ≤ 140737488351232], fun _ => true⟩
theorem k7 : FnOk Go.Proofs.Tryz.prog 7 K7 := by
  refine fn_ok (E := E7) (TOk.of tab_told) (AllOk.cons k12 (.cons k9 (.cons k13 (.cons k17 .nil)))).at_ mix Go.Proofs.Tryz.func7 rfl rfl (by kernel_rfl) K7 ?_
  rintro ⟨(r : List Ru), (k : Int), (a : List Int), (B : Int)⟩ hp
  have hrl : r.length ≤ 140737488351232 := hp _ (List.mem_cons_self ..)
  clear hp
  conv => whnf
  refine ⟨hrl, ?_⟩
  conv => whnf
  refine ⟨Nat.zero_le _, ?_⟩
  conv => whnf
  refine cond_intro (fun h0 => ?_) (fun h0 => ?_)
  · have h0 : (longB r [] a []) = true := h0
    conv => whnf
    rfl
  have h0 : (longB r [] a []) = false := h0
  obtain ⟨hn, hb, hl, hbl, hal, _⟩ := long_f h0
  have hl2 : r.length ≤ 1000 := by omega
  have hal2 : a.length ≤ 1000000 := by omega
  conv => whnf
  refine ⟨hn, ?_⟩
  conv => whnf
  refine ⟨hb, ?_⟩
  conv => whnf
  refine ⟨hl2, ?_⟩
  conv => whnf
  refine ⟨hal2, ?_⟩
  rcases eval_cases (r := r) k a with ⟨e, he, hne⟩ | ⟨c0, c1, c2, c3, he⟩
  · conv => whnf
    repeat (first | (refine cond_intro (fun h => absurd h (by decide)) (fun h => ?_); conv => whnf) | (refine cond_intro (fun h => ?_) (fun h => absurd h (by decide)); conv => whnf))
    conv => whnf
    refine cond_intro (fun q0 => ?_) (fun q0 => ?_)
    · have q0 : (!decide ((evalP r k a).2.2 = 0)) = true := q0
      have q0 : ¬ ((evalP r k a).2.2 = 0) := fun e => absurd q0 (by rw [decide_eq_true e]; decide)
      conv => whnf
      repeat (first | (refine cond_intro (fun h => absurd h (by decide)) (fun h => ?_); conv => whnf) | (refine cond_intro (fun h => ?_) (fun h => absurd h (by decide)); conv => whnf))
      conv => whnf
      refine cond_intro (fun q1 => ?_) (fun q1 => ?_)
      · have q1 : (evalP r k a).1 = 0 := @of_decide_eq_true _ _ q1
        conv => whnf
        repeat (first | (refine cond_intro (fun h => absurd h (by decide)) (fun h => ?_); conv => whnf) | (refine cond_intro (fun h => ?_) (fun h => absurd h (by decide)); conv => whnf))
        conv => whnf
        refine cond_intro (fun q2 => ?_) (fun q2 => ?_)
        · have q2 : (evalP r k a).2.1 = 0 := @of_decide_eq_true _ _ q2
          conv => whnf
          repeat (first | (refine cond_intro (fun h => absurd h (by decide)) (fun h => ?_); conv => whnf) | (refine cond_intro (fun h => ?_) (fun h => absurd h (by decide)); conv => whnf))
          rfl
        have q2 : ¬ ((evalP r k a).2.1 = 0) := @of_decide_eq_false _ _ q2
        exact absurd (show (evalP r k a).2.1 = 0 by rw [he]) q2
      have q1 : ¬ ((evalP r k a).1 = 0) := @of_decide_eq_false _ _ q1
      exact absurd (show (evalP r k a).1 = 0 by rw [he]) q1
    have q0 : (!decide ((evalP r k a).2.2 = 0)) = false := q0
    have q0 : (evalP r k a).2.2 = 0 := Decidable.byContradiction fun e => absurd q0 (by rw [decide_eq_false e]; decide)
    exact absurd q0 (by rw [he]; exact hne)
  obtain ⟨hg, hch, hle⟩ := rules_good c0
  have hsk := hg.2 k.toNat (by omega)
  have hsl : soundB r r.length a.length (gR r k.toNat).2.2 = true := by rw [c2]; exact sound_mono (by omega) hsk
  have hcp := cost_pay hg (k := k.toNat) (by omega) (hch.2 _)
  have hck := costs_ok r
  have hcm := hch.2 k.toNat
  conv => whnf
  repeat (first | (refine cond_intro (fun h => absurd h (by decide)) (fun h => ?_); conv => whnf) | (refine cond_intro (fun h => ?_) (fun h => absurd h (by decide)); conv => whnf))
  conv => whnf
  refine cond_intro (fun q0 => ?_) (fun q0 => ?_)
  · have q0 : (!decide ((evalP r k a).2.2 = 0)) = true := q0
    have q0 : ¬ ((evalP r k a).2.2 = 0) := fun e => absurd q0 (by rw [decide_eq_true e]; decide)
    exact absurd q0 (show ¬ ¬ ((evalP r k a).2.2 = 0) by rw [he]; exact not_not_intro rfl)
  have q0 : (!decide ((evalP r k a).2.2 = 0)) = false := q0
  have q0 : (evalP r k a).2.2 = 0 := Decidable.byContradiction fun e => absurd q0 (by rw [decide_eq_false e]; decide)
  conv => whnf
  refine ⟨c1.1, ?_⟩
  conv => whnf
  refine ⟨c1.2, ?_⟩
  conv => whnf
  refine ⟨hn, ?_⟩
  conv => whnf
  refine ⟨hb, ?_⟩
  conv => whnf
  refine ⟨hl2, ?_⟩
  conv => whnf
  refine ⟨hal2, ?_⟩
  conv => whnf
  refine ⟨bodyOk_at hb _, ?_⟩
  rcases run_cases B c0 hsl c3 with ⟨hB, hrun⟩ | ⟨hB0, hB, hrun⟩
  · conv => whnf
    repeat (first | (refine cond_intro (fun h => absurd h (by decide)) (fun h => ?_); conv => whnf) | (refine cond_intro (fun h => ?_) (fun h => absurd h (by decide)); conv => whnf))
    conv => whnf
    refine cond_intro (fun p0 => ?_) (fun p0 => ?_)
    · have p0 : (!decide ((runP r (gR r k.toNat).2.2 a B).2.2.2 = 0)) = true := p0
      have p0 : ¬ ((runP r (gR r k.toNat).2.2 a B).2.2.2 = 0) := fun e => absurd p0 (by rw [decide_eq_true e]; decide)
      conv => whnf
      repeat (first | (refine cond_intro (fun h => absurd h (by decide)) (fun h => ?_); conv => whnf) | (refine cond_intro (fun h => ?_) (fun h => absurd h (by decide)); conv => whnf))
      conv => whnf
      refine cond_intro (fun p1 => ?_) (fun p1 => ?_)
      · have p1 : B < 0 := @of_decide_eq_true _ _ p1
        conv => whnf
        repeat (first | (refine cond_intro (fun h => absurd h (by decide)) (fun h => ?_); conv => whnf) | (refine cond_intro (fun h => ?_) (fun h => absurd h (by decide)); conv => whnf))
        rfl
      have p1 : ¬ (B < 0) := @of_decide_eq_false _ _ p1
      conv => whnf
      repeat (first | (refine cond_intro (fun h => absurd h (by decide)) (fun h => ?_); conv => whnf) | (refine cond_intro (fun h => ?_) (fun h => absurd h (by decide)); conv => whnf))
      conv => whnf
      refine cond_intro (fun p2 => ?_) (fun p2 => ?_)
      · have p2 : 100000 < B := @of_decide_eq_true _ _ p2
        conv => whnf
        repeat (first | (refine cond_intro (fun h => absurd h (by decide)) (fun h => ?_); conv => whnf) | (refine cond_intro (fun h => ?_) (fun h => absurd h (by decide)); conv => whnf))
        rfl
      have p2 : ¬ (100000 < B) := @of_decide_eq_false _ _ p2
      omega
    have p0 : (!decide ((runP r (gR r k.toNat).2.2 a B).2.2.2 = 0)) = false := p0
    have p0 : (runP r (gR r k.toNat).2.2 a B).2.2.2 = 0 := Decidable.byContradiction fun e => absurd p0 (by rw [decide_eq_false e]; decide)
    exact absurd p0 (by rw [hrun]; decide)
  have F2 := stop_pay (c := costsR r) (b := (gR r k.toNat).2.2) hB0
  have F3 : payOf (costsR r) (gR r k.toNat).2.2 (stopAt (costsR r) (gR r k.toNat).2.2 B) ≤ gI (costsR r) k.toNat := by rw [hcp]; exact payOf_le hck stop_le
  have hst := stop_all (b := (gR r k.toNat).2.2) hck hB0
  rw [← hcp] at hst
  have F1 : (runK (costsR r) (gR r k.toNat).2.2 B == decide (gI (costsR r) k.toNat ≤ B)) = true := by unfold runK; rw [beq_iff_eq]; exact decide_eq_decide.2 hst
  have FV := valR_bd hg hsk (by omega) (valsOk_all c3)
  have FX : runK (costsR r) (gR r k.toNat).2.2 B = true → runV r (costsR r) (gR r k.toNat).2.2 a B = valR r (gR r k.toNat).2.2 a ∧ payOf (costsR r) (gR r k.toNat).2.2 (stopAt (costsR r) (gR r k.toNat).2.2 B) = gI (costsR r) k.toNat := fun h => by have h := of_decide_eq_true h; exact ⟨by unfold runV; rw [if_pos h], by rw [h, hcp]⟩
  have FY : runK (costsR r) (gR r k.toNat).2.2 B = false → runV r (costsR r) (gR r k.toNat).2.2 a B = 0 := fun h => by have h := of_decide_eq_false h; unfold runV; rw [if_neg h]
  have FL : 1 ≤ gI (costsR r) k.toNat := by
    have h1 := payOf_le (b := (gR r k.toNat).2.2) hck (n := 1) (m := (gR r k.toNat).2.2.length) (by
      cases hz : (gR r k.toNat).2.2.length with
      | zero => have := (sound_hJ hsk).1; rw [hz] at this; cases this
      | succ n => omega)
    have h2 : payOf (costsR r) (gR r k.toNat).2.2 0 + 1 ≤ payOf (costsR r) (gR r k.toNat).2.2 1 := payOf_step (b := (gR r k.toNat).2.2) hck 0
    rw [payOf_0] at h2
    omega
  conv => whnf
  repeat (first | (refine cond_intro (fun h => absurd h (by decide)) (fun h => ?_); conv => whnf) | (refine cond_intro (fun h => ?_) (fun h => absurd h (by decide)); conv => whnf))
  conv => whnf
  refine cond_intro (fun p0 => ?_) (fun p0 => ?_)
  · have p0 : (!decide ((runP r (gR r k.toNat).2.2 a B).2.2.2 = 0)) = true := p0
    have p0 : ¬ ((runP r (gR r k.toNat).2.2 a B).2.2.2 = 0) := fun e => absurd p0 (by rw [decide_eq_true e]; decide)
    exact absurd (show (runP r (gR r k.toNat).2.2 a B).2.2.2 = 0 by rw [hrun]) p0
  have p0 : (!decide ((runP r (gR r k.toNat).2.2 a B).2.2.2 = 0)) = false := p0
  have p0 : (runP r (gR r k.toNat).2.2 a B).2.2.2 = 0 := Decidable.byContradiction fun e => absurd p0 (by rw [decide_eq_false e]; decide)
  conv => whnf
  repeat (first | (refine cond_intro (fun h => absurd h (by decide)) (fun h => ?_); conv => whnf) | (refine cond_intro (fun h => ?_) (fun h => absurd h (by decide)); conv => whnf))
  conv => whnf
  refine cond_intro (fun p1 => ?_) (fun p1 => ?_)
  · have p1 : ((runP r (gR r k.toNat).2.2 a B).2.2.1 == decide ((evalP r k a).2.1 ≤ B)) = true := p1
    conv => whnf
    repeat (first | (refine cond_intro (fun h => absurd h (by decide)) (fun h => ?_); conv => whnf) | (refine cond_intro (fun h => ?_) (fun h => absurd h (by decide)); conv => whnf))
    conv => whnf
    refine cond_intro (fun p2 => ?_) (fun p2 => ?_)
    · have p2 : (runP r (gR r k.toNat).2.2 a B).2.1 ≤ B := @of_decide_eq_true _ _ p2
      conv => whnf
      repeat (first | (refine cond_intro (fun h => absurd h (by decide)) (fun h => ?_); conv => whnf) | (refine cond_intro (fun h => ?_) (fun h => absurd h (by decide)); conv => whnf))
      conv => whnf
      refine cond_intro (fun p3 => ?_) (fun p3 => ?_)
      · have p3 : (runP r (gR r k.toNat).2.2 a B).2.1 ≤ (evalP r k a).2.1 := @of_decide_eq_true _ _ p3
        conv => whnf
        repeat (first | (refine cond_intro (fun h => absurd h (by decide)) (fun h => ?_); conv => whnf) | (refine cond_intro (fun h => ?_) (fun h => absurd h (by decide)); conv => whnf))
        conv => whnf
        refine cond_intro (fun p4 => ?_) (fun p4 => ?_)
        · have p4 : (!((runP r (gR r k.toNat).2.2 a B).2.2.1)) = true := p4
          have p4 : ((runP r (gR r k.toNat).2.2 a B).2.2.1) = false := by cases e : ((runP r (gR r k.toNat).2.2 a B).2.2.1) with | false => rfl | true => exact absurd p4 (by rw [e]; decide)
          have p5 : runK (costsR r) (gR r k.toNat).2.2 B = false := by rw [hrun] at p4; exact p4
          conv => whnf
          repeat (first | (refine cond_intro (fun h => absurd h (by decide)) (fun h => ?_); conv => whnf) | (refine cond_intro (fun h => ?_) (fun h => absurd h (by decide)); conv => whnf))
          conv => whnf
          refine cond_intro (fun p6 => ?_) (fun p6 => ?_)
          · have p6 : ((runP r (gR r k.toNat).2.2 a B).2.2.1) = true := p6
            rw [p4] at p6
            cases p6
          have p6 : ((runP r (gR r k.toNat).2.2 a B).2.2.1) = false := p6
          conv => whnf
          repeat (first | (refine cond_intro (fun h => absurd h (by decide)) (fun h => ?_); conv => whnf) | (refine cond_intro (fun h => ?_) (fun h => absurd h (by decide)); conv => whnf))
          conv => whnf
          refine cond_intro (fun p7 => ?_) (fun p7 => ?_)
          · have p7 : (runP r (gR r k.toNat).2.2 a B).1 = 0 := @of_decide_eq_true _ _ p7
            conv => whnf
            repeat (first | (refine cond_intro (fun h => absurd h (by decide)) (fun h => ?_); conv => whnf) | (refine cond_intro (fun h => ?_) (fun h => absurd h (by decide)); conv => whnf))
            conv => whnf
            refine cond_intro (fun r1 => ?_) (fun r1 => ?_)
            · have r1 : -2147483647 ≤ (evalP r k a).1 := @of_decide_eq_true _ _ r1
              conv => whnf
              repeat (first | (refine cond_intro (fun h => absurd h (by decide)) (fun h => ?_); conv => whnf) | (refine cond_intro (fun h => ?_) (fun h => absurd h (by decide)); conv => whnf))
              conv => whnf
              refine cond_intro (fun r2 => ?_) (fun r2 => ?_)
              · have r2 : (evalP r k a).1 ≤ 2147483647 := @of_decide_eq_true _ _ r2
                conv => whnf
                repeat (first | (refine cond_intro (fun h => absurd h (by decide)) (fun h => ?_); conv => whnf) | (refine cond_intro (fun h => ?_) (fun h => absurd h (by decide)); conv => whnf))
                conv => whnf
                refine cond_intro (fun r3 => ?_) (fun r3 => ?_)
                · have r3 : 1 ≤ (evalP r k a).2.1 := @of_decide_eq_true _ _ r3
                  conv => whnf
                  repeat (first | (refine cond_intro (fun h => absurd h (by decide)) (fun h => ?_); conv => whnf) | (refine cond_intro (fun h => ?_) (fun h => absurd h (by decide)); conv => whnf))
                  conv => whnf
                  refine cond_intro (fun r4 => ?_) (fun r4 => ?_)
                  · have r4 : (evalP r k a).2.1 ≤ 100000 := @of_decide_eq_true _ _ r4
                    conv => whnf
                    repeat (first | (refine cond_intro (fun h => absurd h (by decide)) (fun h => ?_); conv => whnf) | (refine cond_intro (fun h => ?_) (fun h => absurd h (by decide)); conv => whnf))
                    rfl
                  have r4 : ¬ ((evalP r k a).2.1 ≤ 100000) := @of_decide_eq_false _ _ r4
                  exact absurd (show (evalP r k a).2.1 ≤ 100000 by rw [he]; exact hcm) r4
                have r3 : ¬ (1 ≤ (evalP r k a).2.1) := @of_decide_eq_false _ _ r3
                exact absurd (show 1 ≤ (evalP r k a).2.1 by rw [he]; exact FL) r3
              have r2 : ¬ ((evalP r k a).1 ≤ 2147483647) := @of_decide_eq_false _ _ r2
              exact absurd (show (evalP r k a).1 ≤ 2147483647 by rw [he]; exact FV.2) r2
            have r1 : ¬ (-2147483647 ≤ (evalP r k a).1) := @of_decide_eq_false _ _ r1
            exact absurd (show -2147483647 ≤ (evalP r k a).1 by rw [he]; exact FV.1) r1
          have p7 : ¬ ((runP r (gR r k.toNat).2.2 a B).1 = 0) := @of_decide_eq_false _ _ p7
          exact absurd (show (runP r (gR r k.toNat).2.2 a B).1 = 0 by rw [hrun]; exact FY p5) p7
        have p4 : (!((runP r (gR r k.toNat).2.2 a B).2.2.1)) = false := p4
        have p4 : ((runP r (gR r k.toNat).2.2 a B).2.2.1) = true := by cases e : ((runP r (gR r k.toNat).2.2 a B).2.2.1) with | true => rfl | false => exact absurd p4 (by rw [e]; decide)
        have p5 : runK (costsR r) (gR r k.toNat).2.2 B = true := by rw [hrun] at p4; exact p4
        conv => whnf
        repeat (first | (refine cond_intro (fun h => absurd h (by decide)) (fun h => ?_); conv => whnf) | (refine cond_intro (fun h => ?_) (fun h => absurd h (by decide)); conv => whnf))
        conv => whnf
        refine cond_intro (fun p8 => ?_) (fun p8 => ?_)
        · have p8 : (runP r (gR r k.toNat).2.2 a B).1 = (evalP r k a).1 := @of_decide_eq_true _ _ p8
          conv => whnf
          repeat (first | (refine cond_intro (fun h => absurd h (by decide)) (fun h => ?_); conv => whnf) | (refine cond_intro (fun h => ?_) (fun h => absurd h (by decide)); conv => whnf))
          conv => whnf
          refine cond_intro (fun p9 => ?_) (fun p9 => ?_)
          · have p9 : (runP r (gR r k.toNat).2.2 a B).2.1 = (evalP r k a).2.1 := @of_decide_eq_true _ _ p9
            conv => whnf
            repeat (first | (refine cond_intro (fun h => absurd h (by decide)) (fun h => ?_); conv => whnf) | (refine cond_intro (fun h => ?_) (fun h => absurd h (by decide)); conv => whnf))
            conv => whnf
            refine cond_intro (fun p6 => ?_) (fun p6 => ?_)
            · have p6 : ((runP r (gR r k.toNat).2.2 a B).2.2.1) = true := p6
              conv => whnf
              repeat (first | (refine cond_intro (fun h => absurd h (by decide)) (fun h => ?_); conv => whnf) | (refine cond_intro (fun h => ?_) (fun h => absurd h (by decide)); conv => whnf))
              conv => whnf
              refine cond_intro (fun r1 => ?_) (fun r1 => ?_)
              · have r1 : -2147483647 ≤ (evalP r k a).1 := @of_decide_eq_true _ _ r1
                conv => whnf
                repeat (first | (refine cond_intro (fun h => absurd h (by decide)) (fun h => ?_); conv => whnf) | (refine cond_intro (fun h => ?_) (fun h => absurd h (by decide)); conv => whnf))
                conv => whnf
                refine cond_intro (fun r2 => ?_) (fun r2 => ?_)
                · have r2 : (evalP r k a).1 ≤ 2147483647 := @of_decide_eq_true _ _ r2
                  conv => whnf
                  repeat (first | (refine cond_intro (fun h => absurd h (by decide)) (fun h => ?_); conv => whnf) | (refine cond_intro (fun h => ?_) (fun h => absurd h (by decide)); conv => whnf))
                  conv => whnf
                  refine cond_intro (fun r3 => ?_) (fun r3 => ?_)
                  · have r3 : 1 ≤ (evalP r k a).2.1 := @of_decide_eq_true _ _ r3
                    conv => whnf
                    repeat (first | (refine cond_intro (fun h => absurd h (by decide)) (fun h => ?_); conv => whnf) | (refine cond_intro (fun h => ?_) (fun h => absurd h (by decide)); conv => whnf))
                    conv => whnf
                    refine cond_intro (fun r4 => ?_) (fun r4 => ?_)
                    · have r4 : (evalP r k a).2.1 ≤ 100000 := @of_decide_eq_true _ _ r4
                      conv => whnf
                      repeat (first | (refine cond_intro (fun h => absurd h (by decide)) (fun h => ?_); conv => whnf) | (refine cond_intro (fun h => ?_) (fun h => absurd h (by decide)); conv => whnf))
                      rfl
                    have r4 : ¬ ((evalP r k a).2.1 ≤ 100000) := @of_decide_eq_false _ _ r4
                    exact absurd (show (evalP r k a).2.1 ≤ 100000 by rw [he]; exact hcm) r4
                  have r3 : ¬ (1 ≤ (evalP r k a).2.1) := @of_decide_eq_false _ _ r3
                  exact absurd (show 1 ≤ (evalP r k a).2.1 by rw [he]; exact FL) r3
                have r2 : ¬ ((evalP r k a).1 ≤ 2147483647) := @of_decide_eq_false _ _ r2
                exact absurd (show (evalP r k a).1 ≤ 2147483647 by rw [he]; exact FV.2) r2
              have r1 : ¬ (-2147483647 ≤ (evalP r k a).1) := @of_decide_eq_false _ _ r1
              exact absurd (show -2147483647 ≤ (evalP r k a).1 by rw [he]; exact FV.1) r1
            have p6 : ((runP r (gR r k.toNat).2.2 a B).2.2.1) = false := p6
            rw [p4] at p6
            cases p6
          have p9 : ¬ ((runP r (gR r k.toNat).2.2 a B).2.1 = (evalP r k a).2.1) := @of_decide_eq_false _ _ p9
          exact absurd (show (runP r (gR r k.toNat).2.2 a B).2.1 = (evalP r k a).2.1 by rw [hrun, he]; exact (FX p5).2) p9
        have p8 : ¬ ((runP r (gR r k.toNat).2.2 a B).1 = (evalP r k a).1) := @of_decide_eq_false _ _ p8
        exact absurd (show (runP r (gR r k.toNat).2.2 a B).1 = (evalP r k a).1 by rw [hrun, he]; exact (FX p5).1) p8
      have p3 : ¬ ((runP r (gR r k.toNat).2.2 a B).2.1 ≤ (evalP r k a).2.1) := @of_decide_eq_false _ _ p3
      exact absurd (show (runP r (gR r k.toNat).2.2 a B).2.1 ≤ (evalP r k a).2.1 by rw [hrun, he]; exact F3) p3
    have p2 : ¬ ((runP r (gR r k.toNat).2.2 a B).2.1 ≤ B) := @of_decide_eq_false _ _ p2
    exact absurd (show (runP r (gR r k.toNat).2.2 a B).2.1 ≤ B by rw [hrun]; exact F2) p2
  have p1 : ((runP r (gR r k.toNat).2.2 a B).2.2.1 == decide ((evalP r k a).2.1 ≤ B)) = false := p1
  exact absurd (show ((runP r (gR r k.toNat).2.2 a B).2.2.1 == decide ((evalP r k a).2.1 ≤ B)) = true by rw [hrun, he]; exact F1) (by rw [p1]; decide)
end
end Go.Proofs.YtaafjaibaaiigaaGreatDoor.Eng
