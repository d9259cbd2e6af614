/- What the functions that the law reaches answer, each for every input. -/
import Derived.Test.YtaafjaibaaiigaaGreatDoorFnFour
set_option linter.unusedVariables false
set_option linter.unusedSimpArgs false
set_option linter.unusedVariables false
set_option linter.unusedSimpArgs false
namespace Go.Proofs.YtaafjaibaaiigaaGreatDoor.Eng
open Go
set_option maxRecDepth 100000
noncomputable section
def zPl : Pl := (⟨#[]⟩, [], [])
def gP (l : List Pl) (n : Nat) : Pl := l.getD n zPl
theorem gP_eq {l : List Pl} {n : Nat} (h : n < l.length) : gP l n = l[n] := by simp [gP, h]
def tkB (l : List Int) (i : Nat) : Bool := inB (gI l i) 0 15 && (decide (i = 0) || decide (gI l (i - 1) < gI l i))
def mksB (l : List Op2) (i : Nat) : Bool := (inB (gO l i).1 0 15 && inB (gO l i).2 1 1000) && (decide (i = 0) || decide ((gO l (i - 1)).1 < (gO l i).1))
def plB (p : Pl) : Bool := nameB p.1 && (decide ((p.2.1.length : Int) ≤ 4) && (decide ((p.2.2.length : Int) ≤ 4) && (allG (tkB p.2.1) p.2.1.length && allG (mksB p.2.2) p.2.2.length)))
def plR (l : List Pl) : Int := validG (fun i => (gP l i).1) (fun i => plB (gP l i)) 16 l.length
def nmP (l : List Pl) : Prop := ∀ i, (gP l i).1.size ≤ 140737488351232
theorem tk_in {l : List Int} {i : Nat} (h : inB (gI l i) 0 15 = false) : tkB l i = false := by unfold tkB; rw [h]; rfl
theorem tk_ord {l : List Int} {i : Nat} (h0 : i ≠ 0) (h : gI l i ≤ gI l (i - 1)) : tkB l i = false := by
  unfold tkB; rw [decide_eq_false h0, decide_eq_false (by omega)]; simp
theorem tk_good {l : List Int} {i : Nat} (h : inB (gI l i) 0 15 = true) (o : i = 0 ∨ gI l (i - 1) < gI l i) : tkB l i = true := by
  unfold tkB; rw [h]; rcases o with o | o
  · rw [decide_eq_true o]; rfl
  · rw [decide_eq_true o, Bool.or_true]; rfl
theorem mk_in {l : List Op2} {i : Nat} (h : inB (gO l i).1 0 15 = false) : mksB l i = false := by unfold mksB; rw [h]; rfl
theorem mk_am {l : List Op2} {i : Nat} (h : inB (gO l i).2 1 1000 = false) : mksB l i = false := by unfold mksB; rw [h, Bool.and_false]; rfl
theorem mk_ord {l : List Op2} {i : Nat} (h0 : i ≠ 0) (h : (gO l i).1 ≤ (gO l (i - 1)).1) : mksB l i = false := by
  unfold mksB; rw [decide_eq_false h0, decide_eq_false (by omega)]; simp
theorem mk_good {l : List Op2} {i : Nat} (h : inB (gO l i).1 0 15 = true) (g : inB (gO l i).2 1 1000 = true) (o : i = 0 ∨ (gO l (i - 1)).1 < (gO l i).1) : mksB l i = true := by
  unfold mksB; rw [h, g]; rcases o with o | o
  · rw [decide_eq_true o]; rfl
  · rw [decide_eq_true o, Bool.or_true]; rfl
theorem pl_nm {s : ByteArray} {tk : List Int} {mk : List Op2} (h : nameB s = false) : plB (s, tk, mk) = false := by unfold plB; rw [h]; rfl
theorem pl_t4 {s : ByteArray} {tk : List Int} {mk : List Op2} (h : 4 < (tk.length : Int)) : plB (s, tk, mk) = false := by unfold plB; simp only; rw [decide_eq_false (by omega)]; simp
theorem pl_m4 {s : ByteArray} {tk : List Int} {mk : List Op2} (h : 4 < (mk.length : Int)) : plB (s, tk, mk) = false := by unfold plB; simp only; rw [decide_eq_false (p := (mk.length : Int) ≤ 4) (by omega)]; simp
theorem pl_tk {s : ByteArray} {tk : List Int} {mk : List Op2} {i : Nat} (hi : i < tk.length) (h : tkB tk i = false) : plB (s, tk, mk) = false := by unfold plB; simp only; rw [allG_bad hi h]; simp
theorem pl_mk {s : ByteArray} {tk : List Int} {mk : List Op2} {i : Nat} (hi : i < mk.length) (h : mksB mk i = false) : plB (s, tk, mk) = false := by unfold plB; simp only; rw [allG_bad hi h]; simp
theorem pl_ok {s : ByteArray} {tk : List Int} {mk : List Op2} (h1 : nameB s = true) (h2 : ¬ 4 < (tk.length : Int)) (h3 : ¬ 4 < (mk.length : Int)) (h4 : allG (tkB tk) tk.length = true) (h5 : allG (mksB mk) mk.length = true) : plB (s, tk, mk) = true := by
  unfold plB; simp only; rw [h1, decide_eq_true (Int.not_lt.1 h2), decide_eq_true (Int.not_lt.1 h3), h4, h5]; rfl
theorem valid_fr {nm : Nat → ByteArray} {ok : Nat → Bool} {M : Int} {n i : Nat} (h : ¬ M < (n : Int)) (ha : allG ok n = true) (hi : i < n) (e : freshG nm i i = false) : validG nm ok M n = 3 := by
  unfold validG; rw [if_neg h, if_pos ha, if_neg]
  intro q
  have q1 : freshG nm i i = true := allG_at (p := fun i => freshG nm i i) q hi
  rw [e] at q1; cases q1
/-- The names that were met. -/
def entP (l : List Pl) : Nat → List (ByteArray × Bool)
  | 0 => []
  | n + 1 => entP l n ++ [((gP l n).1, true)]
theorem mget_app (a : List (ByteArray × Bool)) (s t : ByteArray) : mget .str .bool (a ++ [(t, true)]) s = match mget .str .bool a s with | some v => some v | none => (if s = t then some true else none) := by
  induction a with
  | nil =>
    show (match (s.toList == t.toList) with | true => some true | false => none) = (if s = t then some true else none)
    rw [tl_iff]
    by_cases h : s = t
    · rw [decide_eq_true h, if_pos h]
    · rw [decide_eq_false h, if_neg h]
  | cons e a ih =>
    show (match (s.toList == e.1.toList) with | true => some e.2 | false => mget .str .bool (a ++ [(t, true)]) s) = match (match (s.toList == e.1.toList) with | true => some e.2 | false => mget .str .bool a s) with | some v => some v | none => (if s = t then some true else none)
    cases s.toList == e.1.toList with
    | true => rfl
    | false => exact ih
theorem mget_ent (l : List Pl) (s : ByteArray) : ∀ n, mget .str .bool (entP l n) s = if allG (fun k => !decide ((gP l k).1 = s)) n = true then none else some true
  | 0 => rfl
  | n + 1 => by
    rw [entP, mget_app, mget_ent l s n, show allG (fun k => !decide ((gP l k).1 = s)) (n + 1) = (allG (fun k => !decide ((gP l k).1 = s)) n && !decide ((gP l n).1 = s)) from rfl]
    by_cases h : allG (fun k => !decide ((gP l k).1 = s)) n = true
    · rw [if_pos h, h]
      by_cases e : s = (gP l n).1
      · simp [e]; rfl
      · have e' : ¬ (gP l n).1 = s := fun q => e q.symm
        simp [e, e']; rfl
    · rw [if_neg h]
      have h : allG (fun k => !decide ((gP l k).1 = s)) n = false := by cases q : allG (fun k => !decide ((gP l k).1 = s)) n with | false => rfl | true => exact absurd q h
      rw [h]; simp; rfl
theorem opt_ent (l : List Pl) (s : ByteArray) (n : Nat) : optOr (mget .str .bool (entP l n) s) false = !allG (fun k => !decide ((gP l k).1 = s)) n := by
  rw [mget_ent]
  cases allG (fun k => !decide ((gP l k).1 = s)) n <;> rfl
theorem isOk_ent (l : List Pl) (s : ByteArray) (n : Nat) (h : allG (fun k => !decide ((gP l k).1 = s)) n = true) : isOk (mget .str .bool (entP l n) s) = false := by
  rw [mget_ent, if_pos h]; rfl
def S59a (s : ByteArray) (tk : List Int) (mk : List Op2) (i : Int) : SL := ⟨[.undef, .ptr 0 0 0, .undef, .undef, .undef, .undef, .undef, .undef, .undef, .undef, .undef, .undef, .undef, .undef, .undef, .undef, .undef, .undef, .undef, .undef, .undef, .undef, .undef, .undef, .sl I tk, .int .i64 tk.length, .int .i64 i, .undef, .undef, .undef, .undef, .undef, .undef, .undef, .undef, .undef, .undef, .undef, .undef, .undef, .undef, .undef, .undef, .undef, .undef, .undef, .undef, .undef, .undef, .undef, .undef, .undef, .undef, .undef, .undef, .undef, .undef, .undef, .undef, .undef, .undef, .undef, .undef, .undef, .undef, .undef, .undef, .undef, .undef, .undef, .undef, .undef, .undef, .undef, .undef, .undef, .undef, .undef, .undef, .undef, .undef, .undef, .undef, .undef, .undef, .undef, .undef, .undef, .undef, .undef, .undef, .undef, .undef, .undef, .undef], [(0, .box [.str s, .sl I tk, .sl opT mk])], 1⟩
def S59b (s : ByteArray) (tk : List Int) (mk : List Op2) (i : Int) : SL := ⟨[.undef, .ptr 0 0 0, .undef, .undef, .undef, .undef, .undef, .undef, .undef, .undef, .undef, .undef, .undef, .undef, .undef, .undef, .undef, .undef, .undef, .undef, .undef, .undef, .undef, .undef, .undef, .undef, .undef, .undef, .undef, .undef, .undef, .undef, .undef, .undef, .undef, .undef, .undef, .undef, .undef, .undef, .undef, .undef, .undef, .undef, .undef, .undef, .undef, .undef, .undef, .undef, .undef, .undef, .undef, .sl opT mk, .int .i64 mk.length, .int .i64 i, .undef, .undef, .undef, .undef, .undef, .undef, .undef, .undef, .undef, .undef, .undef, .undef, .undef, .undef, .undef, .undef, .undef, .undef, .undef, .undef, .undef, .undef, .undef, .undef, .undef, .undef, .undef, .undef, .undef, .undef, .undef, .undef, .undef, .undef, .undef, .undef, .undef, .undef, .undef], [(0, .box [.str s, .sl I tk, .sl opT mk])], 1⟩
def E59 : Env := ⟨tab, [(95, K95)], fun n => match n with | 4 => some ([1, 24, 25, 26], [], []) | 10 => some ([1, 53, 54, 55], [], []) | _ => none⟩
def K59 : Fn1 := ⟨.one plT, .one .bool, fun (p : Pl) => [p.1.size ≤ 140737488351232], fun (p : Pl) => plB p⟩
set_option maxHeartbeats 1000000 in
theorem k59 : FnOk Go.Proofs.Tryz.prog 59 K59 := by
  refine fn_ok (E := E59) (TOk.of tab_told) (AllOk.cons k95 .nil).at_ mix Go.Proofs.Tryz.func59 rfl rfl (by kernel_rfl) K59 ?_
  rintro ⟨(s : ByteArray), (tk : List Int), (mk : List Op2)⟩ hp
  have hs : s.size ≤ 140737488351232 := hp _ (List.mem_cons_self ..)
  clear hp
  conv => whnf
  refine ⟨hs, ?_⟩
  conv => whnf
  refine cond_intro (fun n0 => ?_) (fun n0 => ?_)
  · have n0 : (!(nameB s)) = true := n0
    have n0 : (nameB s) = false := by cases e : (nameB s) with | false => rfl | true => exact absurd n0 (by rw [e]; decide)
    conv => whnf
    repeat (first | (refine cond_intro (fun h => absurd h (by decide)) (fun h => ?_); conv => whnf) | (refine cond_intro (fun h => ?_) (fun h => absurd h (by decide)); conv => whnf))
    conv => whnf
    show false = plB (s, tk, mk)
    exact (pl_nm n0).symm
  have n0 : (!(nameB s)) = false := n0
  have n0 : (nameB s) = true := by cases e : (nameB s) with | true => rfl | false => exact absurd n0 (by rw [e]; decide)
  conv => whnf
  repeat (first | (refine cond_intro (fun h => absurd h (by decide)) (fun h => ?_); conv => whnf) | (refine cond_intro (fun h => ?_) (fun h => absurd h (by decide)); conv => whnf))
  conv => whnf
  refine cond_intro (fun n1 => ?_) (fun n1 => ?_)
  · have n1 : 4 < (tk.length : Int) := @of_decide_eq_true _ _ n1
    conv => whnf
    repeat (first | (refine cond_intro (fun h => absurd h (by decide)) (fun h => ?_); conv => whnf) | (refine cond_intro (fun h => ?_) (fun h => absurd h (by decide)); conv => whnf))
    conv => whnf
    show false = plB (s, tk, mk)
    exact (pl_t4 n1).symm
  have n1 : ¬ (4 < (tk.length : Int)) := @of_decide_eq_false _ _ n1
  conv => whnf
  repeat (first | (refine cond_intro (fun h => absurd h (by decide)) (fun h => ?_); conv => whnf) | (refine cond_intro (fun h => ?_) (fun h => absurd h (by decide)); conv => whnf))
  conv => whnf
  refine cond_intro (fun n2 => ?_) (fun n2 => ?_)
  · have n2 : 4 < (mk.length : Int) := @of_decide_eq_true _ _ n2
    conv => whnf
    repeat (first | (refine cond_intro (fun h => absurd h (by decide)) (fun h => ?_); conv => whnf) | (refine cond_intro (fun h => ?_) (fun h => absurd h (by decide)); conv => whnf))
    conv => whnf
    show false = plB (s, tk, mk)
    exact (pl_m4 n2).symm
  have n2 : ¬ (4 < (mk.length : Int)) := @of_decide_eq_false _ _ n2
  conv => whnf
  repeat (first | (refine cond_intro (fun h => absurd h (by decide)) (fun h => ?_); conv => whnf) | (refine cond_intro (fun h => ?_) (fun h => absurd h (by decide)); conv => whnf))
  conv => whnf
  refine loop_rule (S59a s tk mk) (fun i => ((tk.length : Int) - i).toNat) (fun i => 0 ≤ i ∧ i ≤ (tk.length : Int) ∧ allG (tkB tk) i.toNat = true) ?_ 0 (by kernel_rfl) ?_ ⟨by omega, by omega, rfl⟩
  case refine_2 => rfl
  rintro i ⟨i0, i1, i2⟩
  conv => whnf
  refine cond_intro (fun hi => ?_) (fun hi => ?_)
  · have hi : i < (tk.length : Int) := @of_decide_eq_true _ _ hi
    have wi : IntKind.i64.wrap (i + 1) = i + 1 := wrap_eq (by omega) (by omega)
    have ei : (i + 1).toNat = i.toNat + 1 := by omega
    have wm : IntKind.i64.wrap (i - 1) = i - 1 := wrap_eq (by omega) (by omega)
    have em : (i - 1).toNat = i.toNat - 1 := by omega
    conv => whnf
    refine ⟨i0, ?_⟩
    conv => whnf
    refine ⟨hi, ?_⟩
    conv => whnf
    refine cond_intro (fun q0 => ?_) (fun q0 => ?_)
    · have q0 : gI tk i.toNat < 0 := @of_decide_eq_true _ _ q0
      conv => whnf
      repeat (first | (refine cond_intro (fun h => absurd h (by decide)) (fun h => ?_); conv => whnf) | (refine cond_intro (fun h => ?_) (fun h => absurd h (by decide)); conv => whnf))
      conv => whnf
      show false = plB (s, tk, mk)
      exact (pl_tk (i := i.toNat) (by omega) (tk_in (in_lo (by omega)))).symm
    have q0 : ¬ (gI tk i.toNat < 0) := @of_decide_eq_false _ _ q0
    conv => whnf
    repeat (first | (refine cond_intro (fun h => absurd h (by decide)) (fun h => ?_); conv => whnf) | (refine cond_intro (fun h => ?_) (fun h => absurd h (by decide)); conv => whnf))
    conv => whnf
    refine cond_intro (fun q1 => ?_) (fun q1 => ?_)
    · have q1 : 16 ≤ gI tk i.toNat := @of_decide_eq_true _ _ q1
      conv => whnf
      repeat (first | (refine cond_intro (fun h => absurd h (by decide)) (fun h => ?_); conv => whnf) | (refine cond_intro (fun h => ?_) (fun h => absurd h (by decide)); conv => whnf))
      conv => whnf
      show false = plB (s, tk, mk)
      exact (pl_tk (i := i.toNat) (by omega) (tk_in (in_hi (by omega)))).symm
    have q1 : ¬ (16 ≤ gI tk i.toNat) := @of_decide_eq_false _ _ q1
    have t0 : inB (gI tk i.toNat) 0 15 = true := in_ok (by omega) (by omega)
    conv => whnf
    repeat (first | (refine cond_intro (fun h => absurd h (by decide)) (fun h => ?_); conv => whnf) | (refine cond_intro (fun h => ?_) (fun h => absurd h (by decide)); conv => whnf))
    conv => whnf
    refine cond_intro (fun o0 => ?_) (fun o0 => ?_)
    · have o0 : 0 < i := @of_decide_eq_true _ _ o0
      conv => whnf
      refine ⟨show 0 ≤ IntKind.i64.wrap (i - 1) by rw [wm]; omega, ?_⟩
      conv => whnf
      refine ⟨show IntKind.i64.wrap (i - 1) < (tk.length : Int) by rw [wm]; omega, ?_⟩
      conv => whnf
      refine cond_intro (fun o1 => ?_) (fun o1 => ?_)
      · have o1 : gI tk i.toNat ≤ gI tk (IntKind.i64.wrap (i - 1)).toNat := @of_decide_eq_true _ _ o1
        rw [wm, em] at o1
        conv => whnf
        repeat (first | (refine cond_intro (fun h => absurd h (by decide)) (fun h => ?_); conv => whnf) | (refine cond_intro (fun h => ?_) (fun h => absurd h (by decide)); conv => whnf))
        conv => whnf
        show false = plB (s, tk, mk)
        exact (pl_tk (i := i.toNat) (by omega) (tk_ord (by omega) o1)).symm
      have o1 : ¬ (gI tk i.toNat ≤ gI tk (IntKind.i64.wrap (i - 1)).toNat) := @of_decide_eq_false _ _ o1
      rw [wm, em] at o1
      conv => whnf
      repeat (first | (refine cond_intro (fun h => absurd h (by decide)) (fun h => ?_); conv => whnf) | (refine cond_intro (fun h => ?_) (fun h => absurd h (by decide)); conv => whnf))
      conv => whnf
      refine ⟨i + 1, ?_, ⟨by omega, by omega, ?_⟩, by omega⟩
      · exact Eq.trans (b := S59a s tk mk (IntKind.i64.wrap (i + 1))) rfl (by rw [wi])
      · rw [ei]; exact allG_succ i2 (tk_good t0 (Or.inr (by omega)))
    have o0 : ¬ (0 < i) := @of_decide_eq_false _ _ o0
    conv => whnf
    repeat (first | (refine cond_intro (fun h => absurd h (by decide)) (fun h => ?_); conv => whnf) | (refine cond_intro (fun h => ?_) (fun h => absurd h (by decide)); conv => whnf))
    conv => whnf
    refine ⟨i + 1, ?_, ⟨by omega, by omega, ?_⟩, by omega⟩
    · exact Eq.trans (b := S59a s tk mk (IntKind.i64.wrap (i + 1))) rfl (by rw [wi])
    · rw [ei]; exact allG_succ i2 (tk_good t0 (Or.inl (by omega)))
  have hi : ¬ (i < (tk.length : Int)) := @of_decide_eq_false _ _ hi
  rw [show i.toNat = tk.length by omega] at i2
  have htk := i2
  clear i2
  conv => whnf
  refine loop_rule (S59b s tk mk) (fun i => ((mk.length : Int) - i).toNat) (fun i => 0 ≤ i ∧ i ≤ (mk.length : Int) ∧ allG (mksB mk) i.toNat = true) ?_ 0 (by kernel_rfl) ?_ ⟨by omega, by omega, rfl⟩
  case refine_2 => rfl
  rintro i ⟨i0, i1, i2⟩
  conv => whnf
  refine cond_intro (fun hi => ?_) (fun hi => ?_)
  · have hi : i < (mk.length : Int) := @of_decide_eq_true _ _ hi
    have wi : IntKind.i64.wrap (i + 1) = i + 1 := wrap_eq (by omega) (by omega)
    have ei : (i + 1).toNat = i.toNat + 1 := by omega
    have wm : IntKind.i64.wrap (i - 1) = i - 1 := wrap_eq (by omega) (by omega)
    have em : (i - 1).toNat = i.toNat - 1 := by omega
    conv => whnf
    refine ⟨i0, ?_⟩
    conv => whnf
    refine ⟨hi, ?_⟩
    conv => whnf
    refine cond_intro (fun q0 => ?_) (fun q0 => ?_)
    · have q0 : (gO mk i.toNat).1 < 0 := @of_decide_eq_true _ _ q0
      conv => whnf
      repeat (first | (refine cond_intro (fun h => absurd h (by decide)) (fun h => ?_); conv => whnf) | (refine cond_intro (fun h => ?_) (fun h => absurd h (by decide)); conv => whnf))
      conv => whnf
      show false = plB (s, tk, mk)
      exact (pl_mk (i := i.toNat) (by omega) (mk_in (in_lo (by omega)))).symm
    have q0 : ¬ ((gO mk i.toNat).1 < 0) := @of_decide_eq_false _ _ q0
    conv => whnf
    repeat (first | (refine cond_intro (fun h => absurd h (by decide)) (fun h => ?_); conv => whnf) | (refine cond_intro (fun h => ?_) (fun h => absurd h (by decide)); conv => whnf))
    conv => whnf
    refine cond_intro (fun q1 => ?_) (fun q1 => ?_)
    · have q1 : 16 ≤ (gO mk i.toNat).1 := @of_decide_eq_true _ _ q1
      conv => whnf
      repeat (first | (refine cond_intro (fun h => absurd h (by decide)) (fun h => ?_); conv => whnf) | (refine cond_intro (fun h => ?_) (fun h => absurd h (by decide)); conv => whnf))
      conv => whnf
      show false = plB (s, tk, mk)
      exact (pl_mk (i := i.toNat) (by omega) (mk_in (in_hi (by omega)))).symm
    have q1 : ¬ (16 ≤ (gO mk i.toNat).1) := @of_decide_eq_false _ _ q1
    have t0 : inB (gO mk i.toNat).1 0 15 = true := in_ok (by omega) (by omega)
    conv => whnf
    repeat (first | (refine cond_intro (fun h => absurd h (by decide)) (fun h => ?_); conv => whnf) | (refine cond_intro (fun h => ?_) (fun h => absurd h (by decide)); conv => whnf))
    conv => whnf
    refine cond_intro (fun q2 => ?_) (fun q2 => ?_)
    · have q2 : (gO mk i.toNat).2 < 1 := @of_decide_eq_true _ _ q2
      conv => whnf
      repeat (first | (refine cond_intro (fun h => absurd h (by decide)) (fun h => ?_); conv => whnf) | (refine cond_intro (fun h => ?_) (fun h => absurd h (by decide)); conv => whnf))
      conv => whnf
      show false = plB (s, tk, mk)
      exact (pl_mk (i := i.toNat) (by omega) (mk_am (in_lo (by omega)))).symm
    have q2 : ¬ ((gO mk i.toNat).2 < 1) := @of_decide_eq_false _ _ q2
    conv => whnf
    repeat (first | (refine cond_intro (fun h => absurd h (by decide)) (fun h => ?_); conv => whnf) | (refine cond_intro (fun h => ?_) (fun h => absurd h (by decide)); conv => whnf))
    conv => whnf
    refine cond_intro (fun q3 => ?_) (fun q3 => ?_)
    · have q3 : 1000 < (gO mk i.toNat).2 := @of_decide_eq_true _ _ q3
      conv => whnf
      repeat (first | (refine cond_intro (fun h => absurd h (by decide)) (fun h => ?_); conv => whnf) | (refine cond_intro (fun h => ?_) (fun h => absurd h (by decide)); conv => whnf))
      conv => whnf
      show false = plB (s, tk, mk)
      exact (pl_mk (i := i.toNat) (by omega) (mk_am (in_hi (by omega)))).symm
    have q3 : ¬ (1000 < (gO mk i.toNat).2) := @of_decide_eq_false _ _ q3
    have t1 : inB (gO mk i.toNat).2 1 1000 = true := in_ok (by omega) (by omega)
    conv => whnf
    repeat (first | (refine cond_intro (fun h => absurd h (by decide)) (fun h => ?_); conv => whnf) | (refine cond_intro (fun h => ?_) (fun h => absurd h (by decide)); conv => whnf))
    conv => whnf
    refine cond_intro (fun o0 => ?_) (fun o0 => ?_)
    · have o0 : 0 < i := @of_decide_eq_true _ _ o0
      conv => whnf
      refine ⟨show 0 ≤ IntKind.i64.wrap (i - 1) by rw [wm]; omega, ?_⟩
      conv => whnf
      refine ⟨show IntKind.i64.wrap (i - 1) < (mk.length : Int) by rw [wm]; omega, ?_⟩
      conv => whnf
      refine cond_intro (fun o1 => ?_) (fun o1 => ?_)
      · have o1 : (gO mk i.toNat).1 ≤ (gO mk (IntKind.i64.wrap (i - 1)).toNat).1 := @of_decide_eq_true _ _ o1
        rw [wm, em] at o1
        conv => whnf
        repeat (first | (refine cond_intro (fun h => absurd h (by decide)) (fun h => ?_); conv => whnf) | (refine cond_intro (fun h => ?_) (fun h => absurd h (by decide)); conv => whnf))
        conv => whnf
        show false = plB (s, tk, mk)
        exact (pl_mk (i := i.toNat) (by omega) (mk_ord (by omega) o1)).symm
      have o1 : ¬ ((gO mk i.toNat).1 ≤ (gO mk (IntKind.i64.wrap (i - 1)).toNat).1) := @of_decide_eq_false _ _ o1
      rw [wm, em] at o1
      conv => whnf
      repeat (first | (refine cond_intro (fun h => absurd h (by decide)) (fun h => ?_); conv => whnf) | (refine cond_intro (fun h => ?_) (fun h => absurd h (by decide)); conv => whnf))
      conv => whnf
      refine ⟨i + 1, ?_, ⟨by omega, by omega, ?_⟩, by omega⟩
      · exact Eq.trans (b := S59b s tk mk (IntKind.i64.wrap (i + 1))) rfl (by rw [wi])
      · rw [ei]; exact allG_succ i2 (mk_good t0 t1 (Or.inr (by omega)))
    have o0 : ¬ (0 < i) := @of_decide_eq_false _ _ o0
    conv => whnf
    repeat (first | (refine cond_intro (fun h => absurd h (by decide)) (fun h => ?_); conv => whnf) | (refine cond_intro (fun h => ?_) (fun h => absurd h (by decide)); conv => whnf))
    conv => whnf
    refine ⟨i + 1, ?_, ⟨by omega, by omega, ?_⟩, by omega⟩
    · exact Eq.trans (b := S59b s tk mk (IntKind.i64.wrap (i + 1))) rfl (by rw [wi])
    · rw [ei]; exact allG_succ i2 (mk_good t0 t1 (Or.inl (by omega)))
  have hi : ¬ (i < (mk.length : Int)) := @of_decide_eq_false _ _ hi
  rw [show i.toNat = mk.length by omega] at i2
  conv => whnf
  show true = plB (s, tk, mk)
  exact (pl_ok n0 n1 n2 htk i2).symm
def S68a (s : ByteArray) (tk : List Int) (mk : List Op2) (i : Int) : SL := ⟨[.undef, .ptr 0 0 0, .undef, .undef, .undef, .undef, .undef, .undef, .undef, .undef, .undef, .undef, .undef, .undef, .undef, .undef, .undef, .undef, .undef, .undef, .undef, .undef, .undef, .undef, .sl I tk, .int .i64 tk.length, .int .i64 i, .undef, .undef, .undef, .undef, .undef, .undef, .undef, .undef, .undef, .undef, .undef, .undef, .undef, .undef, .undef, .undef, .undef, .undef, .undef, .undef, .undef, .undef, .undef, .undef, .undef, .undef, .undef, .undef, .undef, .undef, .undef, .undef, .undef, .undef, .undef, .undef, .undef, .undef, .undef, .undef, .undef, .undef, .undef, .undef, .undef, .undef, .undef, .undef, .undef, .undef, .undef, .undef, .undef, .undef, .undef, .undef, .undef], [(0, .box [.str s, .sl I tk, .sl opT mk])], 1⟩
def S68b (s : ByteArray) (tk : List Int) (mk : List Op2) (i : Int) : SL := ⟨[.undef, .ptr 0 0 0, .undef, .undef, .undef, .undef, .undef, .undef, .undef, .undef, .undef, .undef, .undef, .undef, .undef, .undef, .undef, .undef, .undef, .undef, .undef, .undef, .undef, .undef, .undef, .undef, .undef, .undef, .undef, .undef, .undef, .undef, .undef, .undef, .undef, .undef, .undef, .undef, .undef, .undef, .undef, .undef, .undef, .undef, .undef, .undef, .undef, .undef, .undef, .undef, .sl opT mk, .int .i64 mk.length, .int .i64 i, .undef, .undef, .undef, .undef, .undef, .undef, .undef, .undef, .undef, .undef, .undef, .undef, .undef, .undef, .undef, .undef, .undef, .undef, .undef, .undef, .undef, .undef, .undef, .undef, .undef, .undef, .undef, .undef, .undef, .undef, .undef], [(0, .box [.str s, .sl I tk, .sl opT mk])], 1⟩
def E68 : Env := ⟨tab, [(98, K98), (99, K99)], fun n => match n with | 4 => some ([1, 24, 25, 26], [], []) | 10 => some ([1, 50, 51, 52], [], []) | _ => none⟩
def K68 : Fn1 := ⟨.one plT, .one .bool, fun _ => [], fun (p : Pl) => plB p⟩
set_option maxHeartbeats 1000000 in
theorem k68 : FnOk Go.Proofs.Tryz.prog 68 K68 := by
  refine fn_ok (E := E68) (TOk.of tab_told) (AllOk.cons k98 (.cons k99 .nil)).at_ mix Go.Proofs.Tryz.func68 rfl rfl (by kernel_rfl) K68 ?_
  rintro ⟨(s : ByteArray), (tk : List Int), (mk : List Op2)⟩ hp
  clear hp
  conv => whnf
  refine cond_intro (fun n0 => ?_) (fun n0 => ?_)
  · have n0 : (!(nameB s)) = true := n0
    have n0 : (nameB s) = false := by cases e : (nameB s) with | false => rfl | true => exact absurd n0 (by rw [e]; decide)
    conv => whnf
    repeat (first | (refine cond_intro (fun h => absurd h (by decide)) (fun h => ?_); conv => whnf) | (refine cond_intro (fun h => ?_) (fun h => absurd h (by decide)); conv => whnf))
    conv => whnf
    show false = plB (s, tk, mk)
    exact (pl_nm n0).symm
  have n0 : (!(nameB s)) = false := n0
  have n0 : (nameB s) = true := by cases e : (nameB s) with | true => rfl | false => exact absurd n0 (by rw [e]; decide)
  conv => whnf
  repeat (first | (refine cond_intro (fun h => absurd h (by decide)) (fun h => ?_); conv => whnf) | (refine cond_intro (fun h => ?_) (fun h => absurd h (by decide)); conv => whnf))
  conv => whnf
  refine cond_intro (fun n1 => ?_) (fun n1 => ?_)
  · have n1 : 4 < (tk.length : Int) := @of_decide_eq_true _ _ n1
    conv => whnf
    repeat (first | (refine cond_intro (fun h => absurd h (by decide)) (fun h => ?_); conv => whnf) | (refine cond_intro (fun h => ?_) (fun h => absurd h (by decide)); conv => whnf))
    conv => whnf
    show false = plB (s, tk, mk)
    exact (pl_t4 n1).symm
  have n1 : ¬ (4 < (tk.length : Int)) := @of_decide_eq_false _ _ n1
  conv => whnf
  repeat (first | (refine cond_intro (fun h => absurd h (by decide)) (fun h => ?_); conv => whnf) | (refine cond_intro (fun h => ?_) (fun h => absurd h (by decide)); conv => whnf))
  conv => whnf
  refine cond_intro (fun n2 => ?_) (fun n2 => ?_)
  · have n2 : 4 < (mk.length : Int) := @of_decide_eq_true _ _ n2
    conv => whnf
    repeat (first | (refine cond_intro (fun h => absurd h (by decide)) (fun h => ?_); conv => whnf) | (refine cond_intro (fun h => ?_) (fun h => absurd h (by decide)); conv => whnf))
    conv => whnf
    show false = plB (s, tk, mk)
    exact (pl_m4 n2).symm
  have n2 : ¬ (4 < (mk.length : Int)) := @of_decide_eq_false _ _ n2
  conv => whnf
  repeat (first | (refine cond_intro (fun h => absurd h (by decide)) (fun h => ?_); conv => whnf) | (refine cond_intro (fun h => ?_) (fun h => absurd h (by decide)); conv => whnf))
  conv => whnf
  refine loop_rule (S68a s tk mk) (fun i => ((tk.length : Int) - i).toNat) (fun i => 0 ≤ i ∧ i ≤ (tk.length : Int) ∧ allG (tkB tk) i.toNat = true) ?_ 0 (by kernel_rfl) ?_ ⟨by omega, by omega, rfl⟩
  case refine_2 => rfl
  rintro i ⟨i0, i1, i2⟩
  conv => whnf
  refine cond_intro (fun hi => ?_) (fun hi => ?_)
  · have hi : i < (tk.length : Int) := @of_decide_eq_true _ _ hi
    have wi : IntKind.i64.wrap (i + 1) = i + 1 := wrap_eq (by omega) (by omega)
    have ei : (i + 1).toNat = i.toNat + 1 := by omega
    have wm : IntKind.i64.wrap (i - 1) = i - 1 := wrap_eq (by omega) (by omega)
    have em : (i - 1).toNat = i.toNat - 1 := by omega
    conv => whnf
    refine ⟨i0, ?_⟩
    conv => whnf
    refine ⟨hi, ?_⟩
    conv => whnf
    refine cond_intro (fun t0 => ?_) (fun t0 => ?_)
    · have t0 : (!(inB (gI tk i.toNat) 0 15)) = true := t0
      have t0 : (inB (gI tk i.toNat) 0 15) = false := by cases e : (inB (gI tk i.toNat) 0 15) with | false => rfl | true => exact absurd t0 (by rw [e]; decide)
      conv => whnf
      repeat (first | (refine cond_intro (fun h => absurd h (by decide)) (fun h => ?_); conv => whnf) | (refine cond_intro (fun h => ?_) (fun h => absurd h (by decide)); conv => whnf))
      conv => whnf
      show false = plB (s, tk, mk)
      exact (pl_tk (i := i.toNat) (by omega) (tk_in t0)).symm
    have t0 : (!(inB (gI tk i.toNat) 0 15)) = false := t0
    have t0 : (inB (gI tk i.toNat) 0 15) = true := by cases e : (inB (gI tk i.toNat) 0 15) with | true => rfl | false => exact absurd t0 (by rw [e]; decide)
    conv => whnf
    repeat (first | (refine cond_intro (fun h => absurd h (by decide)) (fun h => ?_); conv => whnf) | (refine cond_intro (fun h => ?_) (fun h => absurd h (by decide)); conv => whnf))
    conv => whnf
    refine cond_intro (fun o0 => ?_) (fun o0 => ?_)
    · have o0 : 0 < i := @of_decide_eq_true _ _ o0
      conv => whnf
      refine ⟨show 0 ≤ IntKind.i64.wrap (i - 1) by rw [wm]; omega, ?_⟩
      conv => whnf
      refine ⟨show IntKind.i64.wrap (i - 1) < (tk.length : Int) by rw [wm]; omega, ?_⟩
      conv => whnf
      refine cond_intro (fun o1 => ?_) (fun o1 => ?_)
      · have o1 : gI tk i.toNat ≤ gI tk (IntKind.i64.wrap (i - 1)).toNat := @of_decide_eq_true _ _ o1
        rw [wm, em] at o1
        conv => whnf
        repeat (first | (refine cond_intro (fun h => absurd h (by decide)) (fun h => ?_); conv => whnf) | (refine cond_intro (fun h => ?_) (fun h => absurd h (by decide)); conv => whnf))
        conv => whnf
        show false = plB (s, tk, mk)
        exact (pl_tk (i := i.toNat) (by omega) (tk_ord (by omega) o1)).symm
      have o1 : ¬ (gI tk i.toNat ≤ gI tk (IntKind.i64.wrap (i - 1)).toNat) := @of_decide_eq_false _ _ o1
      rw [wm, em] at o1
      conv => whnf
      repeat (first | (refine cond_intro (fun h => absurd h (by decide)) (fun h => ?_); conv => whnf) | (refine cond_intro (fun h => ?_) (fun h => absurd h (by decide)); conv => whnf))
      conv => whnf
      refine ⟨i + 1, ?_, ⟨by omega, by omega, ?_⟩, by omega⟩
      · exact Eq.trans (b := S68a s tk mk (IntKind.i64.wrap (i + 1))) rfl (by rw [wi])
      · rw [ei]; exact allG_succ i2 (tk_good t0 (Or.inr (by omega)))
    have o0 : ¬ (0 < i) := @of_decide_eq_false _ _ o0
    conv => whnf
    repeat (first | (refine cond_intro (fun h => absurd h (by decide)) (fun h => ?_); conv => whnf) | (refine cond_intro (fun h => ?_) (fun h => absurd h (by decide)); conv => whnf))
    conv => whnf
    refine ⟨i + 1, ?_, ⟨by omega, by omega, ?_⟩, by omega⟩
    · exact Eq.trans (b := S68a s tk mk (IntKind.i64.wrap (i + 1))) rfl (by rw [wi])
    · rw [ei]; exact allG_succ i2 (tk_good t0 (Or.inl (by omega)))
  have hi : ¬ (i < (tk.length : Int)) := @of_decide_eq_false _ _ hi
  rw [show i.toNat = tk.length by omega] at i2
  have htk := i2
  clear i2
  conv => whnf
  refine loop_rule (S68b s tk mk) (fun i => ((mk.length : Int) - i).toNat) (fun i => 0 ≤ i ∧ i ≤ (mk.length : Int) ∧ allG (mksB mk) i.toNat = true) ?_ 0 (by kernel_rfl) ?_ ⟨by omega, by omega, rfl⟩
  case refine_2 => rfl
  rintro i ⟨i0, i1, i2⟩
  conv => whnf
  refine cond_intro (fun hi => ?_) (fun hi => ?_)
  · have hi : i < (mk.length : Int) := @of_decide_eq_true _ _ hi
    have wi : IntKind.i64.wrap (i + 1) = i + 1 := wrap_eq (by omega) (by omega)
    have ei : (i + 1).toNat = i.toNat + 1 := by omega
    have wm : IntKind.i64.wrap (i - 1) = i - 1 := wrap_eq (by omega) (by omega)
    have em : (i - 1).toNat = i.toNat - 1 := by omega
    conv => whnf
    refine ⟨i0, ?_⟩
    conv => whnf
    refine ⟨hi, ?_⟩
    conv => whnf
    refine cond_intro (fun t0 => ?_) (fun t0 => ?_)
    · have t0 : (!(inB (gO mk i.toNat).1 0 15)) = true := t0
      have t0 : (inB (gO mk i.toNat).1 0 15) = false := by cases e : (inB (gO mk i.toNat).1 0 15) with | false => rfl | true => exact absurd t0 (by rw [e]; decide)
      conv => whnf
      repeat (first | (refine cond_intro (fun h => absurd h (by decide)) (fun h => ?_); conv => whnf) | (refine cond_intro (fun h => ?_) (fun h => absurd h (by decide)); conv => whnf))
      conv => whnf
      show false = plB (s, tk, mk)
      exact (pl_mk (i := i.toNat) (by omega) (mk_in t0)).symm
    have t0 : (!(inB (gO mk i.toNat).1 0 15)) = false := t0
    have t0 : (inB (gO mk i.toNat).1 0 15) = true := by cases e : (inB (gO mk i.toNat).1 0 15) with | true => rfl | false => exact absurd t0 (by rw [e]; decide)
    conv => whnf
    repeat (first | (refine cond_intro (fun h => absurd h (by decide)) (fun h => ?_); conv => whnf) | (refine cond_intro (fun h => ?_) (fun h => absurd h (by decide)); conv => whnf))
    conv => whnf
    refine cond_intro (fun t1 => ?_) (fun t1 => ?_)
    · have t1 : (!(inB (gO mk i.toNat).2 1 1000)) = true := t1
      have t1 : (inB (gO mk i.toNat).2 1 1000) = false := by cases e : (inB (gO mk i.toNat).2 1 1000) with | false => rfl | true => exact absurd t1 (by rw [e]; decide)
      conv => whnf
      repeat (first | (refine cond_intro (fun h => absurd h (by decide)) (fun h => ?_); conv => whnf) | (refine cond_intro (fun h => ?_) (fun h => absurd h (by decide)); conv => whnf))
      conv => whnf
      show false = plB (s, tk, mk)
      exact (pl_mk (i := i.toNat) (by omega) (mk_am t1)).symm
    have t1 : (!(inB (gO mk i.toNat).2 1 1000)) = false := t1
    have t1 : (inB (gO mk i.toNat).2 1 1000) = true := by cases e : (inB (gO mk i.toNat).2 1 1000) with | true => rfl | false => exact absurd t1 (by rw [e]; decide)
    conv => whnf
    repeat (first | (refine cond_intro (fun h => absurd h (by decide)) (fun h => ?_); conv => whnf) | (refine cond_intro (fun h => ?_) (fun h => absurd h (by decide)); conv => whnf))
    conv => whnf
    refine cond_intro (fun o0 => ?_) (fun o0 => ?_)
    · have o0 : 0 < i := @of_decide_eq_true _ _ o0
      conv => whnf
      refine ⟨show 0 ≤ IntKind.i64.wrap (i - 1) by rw [wm]; omega, ?_⟩
      conv => whnf
      refine ⟨show IntKind.i64.wrap (i - 1) < (mk.length : Int) by rw [wm]; omega, ?_⟩
      conv => whnf
      refine cond_intro (fun o1 => ?_) (fun o1 => ?_)
      · have o1 : (gO mk i.toNat).1 ≤ (gO mk (IntKind.i64.wrap (i - 1)).toNat).1 := @of_decide_eq_true _ _ o1
        rw [wm, em] at o1
        conv => whnf
        repeat (first | (refine cond_intro (fun h => absurd h (by decide)) (fun h => ?_); conv => whnf) | (refine cond_intro (fun h => ?_) (fun h => absurd h (by decide)); conv => whnf))
        conv => whnf
        show false = plB (s, tk, mk)
        exact (pl_mk (i := i.toNat) (by omega) (mk_ord (by omega) o1)).symm
      have o1 : ¬ ((gO mk i.toNat).1 ≤ (gO mk (IntKind.i64.wrap (i - 1)).toNat).1) := @of_decide_eq_false _ _ o1
      rw [wm, em] at o1
      conv => whnf
      repeat (first | (refine cond_intro (fun h => absurd h (by decide)) (fun h => ?_); conv => whnf) | (refine cond_intro (fun h => ?_) (fun h => absurd h (by decide)); conv => whnf))
      conv => whnf
      refine ⟨i + 1, ?_, ⟨by omega, by omega, ?_⟩, by omega⟩
      · exact Eq.trans (b := S68b s tk mk (IntKind.i64.wrap (i + 1))) rfl (by rw [wi])
      · rw [ei]; exact allG_succ i2 (mk_good t0 t1 (Or.inr (by omega)))
    have o0 : ¬ (0 < i) := @of_decide_eq_false _ _ o0
    conv => whnf
    repeat (first | (refine cond_intro (fun h => absurd h (by decide)) (fun h => ?_); conv => whnf) | (refine cond_intro (fun h => ?_) (fun h => absurd h (by decide)); conv => whnf))
    conv => whnf
    refine ⟨i + 1, ?_, ⟨by omega, by omega, ?_⟩, by omega⟩
    · exact Eq.trans (b := S68b s tk mk (IntKind.i64.wrap (i + 1))) rfl (by rw [wi])
    · rw [ei]; exact allG_succ i2 (mk_good t0 t1 (Or.inl (by omega)))
  have hi : ¬ (i < (mk.length : Int)) := @of_decide_eq_false _ _ hi
  rw [show i.toNat = mk.length by omega] at i2
  conv => whnf
  show true = plB (s, tk, mk)
  exact (pl_ok n0 n1 n2 htk i2).symm
end
end Go.Proofs.YtaafjaibaaiigaaGreatDoor.Eng
set_option linter.unusedVariables false
set_option linter.unusedSimpArgs false
namespace Go.Proofs.YtaafjaibaaiigaaGreatDoor.Eng
open Go
set_option maxRecDepth 100000
noncomputable section
def S31a (l : List Pl) (i : Int) : SL := ⟨[.sl plT l, .undef, .undef, .undef, .undef, .undef, .undef, .undef, .undef, .undef, .undef, .undef, .sl plT l, .int .i64 l.length, .int .i64 i, .undef, .undef, .undef, .undef, .undef, .undef, .undef, .undef, .undef, .undef, .undef, .undef, .undef, .undef, .undef, .undef, .undef, .undef, .undef, .undef, .undef, .undef, .undef, .undef, .undef, .undef, .undef, .undef, .undef], [], 0⟩
def S31b (l : List Pl) (i : Int) : SL := ⟨[.sl plT l, .undef, .undef, .undef, .undef, .undef, .undef, .undef, .undef, .undef, .undef, .undef, .undef, .undef, .undef, .undef, .undef, .undef, .undef, .undef, .undef, .undef, .sl plT l, .int .i64 l.length, .int .i64 i, .undef, .undef, .undef, .undef, .undef, .undef, .undef, .undef, .undef, .undef, .undef, .undef, .undef, .undef, .undef, .undef, .undef, .undef, .undef], [], 0⟩
def S31c (l : List Pl) (x : Pl) (i k : Int) : SL := ⟨[.sl plT l, .undef, .undef, .undef, .undef, .undef, .ptr 0 0 0, .undef, .undef, .undef, .undef, .undef, .undef, .undef, .undef, .undef, .undef, .undef, .undef, .undef, .undef, .undef, .sl plT l, .int .i64 l.length, .int .i64 i, .undef, .undef, .undef, .undef, .undef, .undef, .sl plT (l.take i.toNat), .int .i64 (l.take i.toNat).length, .int .i64 k, .undef, .undef, .undef, .undef, .undef, .undef, .undef, .undef, .undef, .undef], [(0, .box [.str x.1, .sl I x.2.1, .sl opT x.2.2])], 1⟩
def E31 : Env := ⟨tab, [(68, K68)], fun n => match n with | 4 => some ([0, 12, 13, 14], [], []) | 10 => some ([0, 22, 23, 24], [], []) | 13 => some ([0, 6, 22, 23, 24, 31, 32, 33], [], []) | _ => none⟩
def K31 : Fn1 := ⟨.one (.sl plT), .one I, fun _ => [], fun (l : List Pl) => plR l⟩
set_option maxHeartbeats 1000000 in
theorem k31 : FnOk Go.Proofs.Tryz.prog 31 K31 := by
  refine fn_ok (E := E31) (TOk.of tab_told) (AllOk.cons k68 .nil).at_ mix Go.Proofs.Tryz.func31 rfl rfl (by kernel_rfl) K31 ?_
  rintro (l : List Pl) hp
  clear hp
  conv => whnf
  refine cond_intro (fun hM => ?_) (fun hM => ?_)
  · have hM : 16 < (l.length : Int) := @of_decide_eq_true _ _ hM
    conv => whnf
    show (4 : Int) = plR l
    exact (valid_large hM).symm
  have hM : ¬ (16 < (l.length : Int)) := @of_decide_eq_false _ _ hM
  conv => whnf
  refine loop_rule (S31a l) (fun i => ((l.length : Int) - i).toNat) (fun i => 0 ≤ i ∧ i ≤ (l.length : Int) ∧ allG (fun i => plB (gP l i)) i.toNat = true) ?_ 0 (by kernel_rfl) ?_ ⟨by omega, by omega, rfl⟩
  case refine_2 => rfl
  rintro i ⟨i0, i1, i2⟩
  conv => whnf
  refine cond_intro (fun hi => ?_) (fun hi => ?_)
  · have hi : i < (l.length : Int) := @of_decide_eq_true _ _ hi
    have wi : IntKind.i64.wrap (i + 1) = i + 1 := wrap_eq (by omega) (by omega)
    have ei : (i + 1).toNat = i.toNat + 1 := by omega
    conv => whnf
    refine ⟨i0, ?_⟩
    conv => whnf
    refine ⟨hi, ?_⟩
    conv => whnf
    refine cond_intro (fun t0 => ?_) (fun t0 => ?_)
    · have t0 : (!(plB (gP l i.toNat))) = true := t0
      have t0 : (plB (gP l i.toNat)) = false := by cases e : (plB (gP l i.toNat)) with | false => rfl | true => exact absurd t0 (by rw [e]; decide)
      conv => whnf
      show (1 : Int) = plR l
      exact (valid_bad (i := i.toNat) hM (by omega) t0).symm
    have t0 : (!(plB (gP l i.toNat))) = false := t0
    have t0 : (plB (gP l i.toNat)) = true := by cases e : (plB (gP l i.toNat)) with | true => rfl | false => exact absurd t0 (by rw [e]; decide)
    conv => whnf
    refine ⟨i + 1, ?_, ⟨by omega, by omega, ?_⟩, by omega⟩
    · exact Eq.trans (b := S31a l (IntKind.i64.wrap (i + 1))) rfl (by rw [wi])
    · rw [ei]; exact allG_succ i2 (by show plB (gP l i.toNat) = true; exact t0)
  have hi : ¬ (i < (l.length : Int)) := @of_decide_eq_false _ _ hi
  rw [show i.toNat = l.length by omega] at i2
  have hall := i2
  clear i2
  conv => whnf
  refine loop_rule (S31b l) (fun i => ((l.length : Int) - i).toNat) (fun i => 0 ≤ i ∧ i ≤ (l.length : Int) ∧ uniqG (fun i => (gP l i).1) i.toNat = true) ?_ 0 (by kernel_rfl) ?_ ⟨by omega, by omega, rfl⟩
  case refine_2 => rfl
  rintro i ⟨i0, i1, j2⟩
  conv => whnf
  refine cond_intro (fun hi => ?_) (fun hi => ?_)
  · have hi : i < (l.length : Int) := @of_decide_eq_true _ _ hi
    have wi : IntKind.i64.wrap (i + 1) = i + 1 := wrap_eq (by omega) (by omega)
    have ei : (i + 1).toNat = i.toNat + 1 := by omega
    conv => whnf
    refine ⟨i0, ?_⟩
    conv => whnf
    refine ⟨hi, ?_⟩
    conv => whnf
    refine ⟨i0, ?_⟩
    conv => whnf
    refine ⟨show i ≤ (l.length : Int) by omega, ?_⟩
    conv => whnf
    refine loop_rule (S31c l (gP l i.toNat) i) (fun k => (i - k).toNat) (fun k => 0 ≤ k ∧ k ≤ i ∧ freshG (fun i => (gP l i).1) i.toNat k.toNat = true) ?_ 0 (by kernel_rfl) ?_ ⟨by omega, by omega, rfl⟩
    case refine_2 => rfl
    rintro k ⟨k0, k1, k2⟩
    have htl : (l.take i.toNat).length = i.toNat := by rw [List.length_take]; omega
    conv => whnf
    refine cond_intro (fun hk => ?_) (fun hk => ?_)
    · have hk : k < ((l.take i.toNat).length : Int) := @of_decide_eq_true _ _ hk
      have wk : IntKind.i64.wrap (k + 1) = k + 1 := wrap_eq (by omega) (by omega)
      have ek : (k + 1).toNat = k.toNat + 1 := by omega
      conv => whnf
      refine ⟨k0, ?_⟩
      conv => whnf
      refine ⟨hk, ?_⟩
      conv => whnf
      refine cond_intro (fun e1 => ?_) (fun e1 => ?_)
      · have e1 : ((((l.take i.toNat).getD k.toNat zPl).1.toList == ByteArray.toList (gP l i.toNat).1)) = true := e1
        rw [gd_take (by omega), tl_iff] at e1
        have e1 := of_decide_eq_true e1
        conv => whnf
        show (3 : Int) = plR l
        exact (valid_dup (i := i.toNat) (k := k.toNat) hM hall (by omega) (by omega) e1).symm
      have e1 : ((((l.take i.toNat).getD k.toNat zPl).1.toList == ByteArray.toList (gP l i.toNat).1)) = false := e1
      rw [gd_take (by omega), tl_iff] at e1
      have e1 := of_decide_eq_false e1
      have e1 : ¬ (gP l k.toNat).1 = (gP l i.toNat).1 := e1
      conv => whnf
      refine ⟨k + 1, ?_, ⟨by omega, by omega, ?_⟩, by omega⟩
      · exact Eq.trans (b := S31c l (gP l i.toNat) i (IntKind.i64.wrap (k + 1))) rfl (by rw [wk])
      · rw [ek]; exact allG_succ k2 (by show (!decide ((gP l k.toNat).1 = (gP l i.toNat).1)) = true; rw [decide_eq_false e1]; rfl)
    have hk : ¬ (k < ((l.take i.toNat).length : Int)) := @of_decide_eq_false _ _ hk
    rw [show k.toNat = i.toNat by omega] at k2
    conv => whnf
    refine ⟨i + 1, ?_, ⟨by omega, by omega, ?_⟩, by omega⟩
    · exact Eq.trans (b := S31b l (IntKind.i64.wrap (i + 1))) rfl (by rw [wi])
    · rw [ei]; exact allG_succ j2 k2
  have hi : ¬ (i < (l.length : Int)) := @of_decide_eq_false _ _ hi
  rw [show i.toNat = l.length by omega] at j2
  conv => whnf
  show (0 : Int) = plR l
  exact (valid_ok hM hall j2).symm
def S24a (l : List Pl) (i : Int) : SL := ⟨[.sl plT l, .undef, .undef, .undef, .undef, .undef, .undef, .undef, .undef, .undef, .undef, .sl plT l, .int .i64 l.length, .int .i64 i, .undef, .undef, .undef, .undef, .undef, .undef, .undef, .undef, .undef, .undef, .undef, .undef, .undef, .undef, .undef, .undef, .undef, .undef, .undef, .undef, .undef, .undef], [], 0⟩
def S24b (l : List Pl) (es : List (ByteArray × Bool)) (i : Int) : SL := ⟨[.undef, .undef, .undef, .undef, .undef, .mp 0, .undef, .undef, .undef, .undef, .undef, .undef, .undef, .undef, .undef, .undef, .undef, .undef, .undef, .undef, .undef, .undef, .sl plT l, .int .i64 l.length, .int .i64 i, .undef, .undef, .undef, .undef, .undef, .undef, .undef, .undef, .undef, .undef, .undef], [(0, .mp .str .bool es)], 1⟩
def E24g : Env := ⟨tab, [(59, K59)], fun n => match n with | 4 => some ([0, 11, 12, 13], [], []) | 11 => some ([5, 22, 23, 24], [], []) | _ => none⟩
def K24g : Fn1 := ⟨.one (.sl plT), .one I, fun (l : List Pl) => [nmP l], fun (l : List Pl) => plR l⟩
set_option maxHeartbeats 1000000 in
theorem k24g : FnOk Go.Proofs.Tryz.prog 24 K24g := by
  refine fn_ok (E := E24g) (TOk.of tab_told) (AllOk.cons k59 .nil).at_ mix Go.Proofs.Tryz.func24 rfl rfl (by kernel_rfl) K24g ?_
  rintro (l : List Pl) hp
  have hn : nmP l := hp _ (List.mem_cons_self ..)
  clear hp
  conv => whnf
  refine cond_intro (fun hM => ?_) (fun hM => ?_)
  · have hM : 16 < (l.length : Int) := @of_decide_eq_true _ _ hM
    conv => whnf
    show (4 : Int) = plR l
    exact (valid_large hM).symm
  have hM : ¬ (16 < (l.length : Int)) := @of_decide_eq_false _ _ hM
  conv => whnf
  refine loop_rule (S24a l) (fun i => ((l.length : Int) - i).toNat) (fun i => 0 ≤ i ∧ i ≤ (l.length : Int) ∧ allG (fun i => plB (gP l i)) i.toNat = true) ?_ 0 (by kernel_rfl) ?_ ⟨by omega, by omega, rfl⟩
  case refine_2 => rfl
  rintro i ⟨i0, i1, i2⟩
  conv => whnf
  refine cond_intro (fun hi => ?_) (fun hi => ?_)
  · have hi : i < (l.length : Int) := @of_decide_eq_true _ _ hi
    have wi : IntKind.i64.wrap (i + 1) = i + 1 := wrap_eq (by omega) (by omega)
    have ei : (i + 1).toNat = i.toNat + 1 := by omega
    conv => whnf
    refine ⟨i0, ?_⟩
    conv => whnf
    refine ⟨hi, ?_⟩
    conv => whnf
    refine ⟨hn i.toNat, ?_⟩
    conv => whnf
    refine cond_intro (fun t0 => ?_) (fun t0 => ?_)
    · have t0 : (!(plB (gP l i.toNat))) = true := t0
      have t0 : (plB (gP l i.toNat)) = false := by cases e : (plB (gP l i.toNat)) with | false => rfl | true => exact absurd t0 (by rw [e]; decide)
      conv => whnf
      show (1 : Int) = plR l
      exact (valid_bad (i := i.toNat) hM (by omega) t0).symm
    have t0 : (!(plB (gP l i.toNat))) = false := t0
    have t0 : (plB (gP l i.toNat)) = true := by cases e : (plB (gP l i.toNat)) with | true => rfl | false => exact absurd t0 (by rw [e]; decide)
    conv => whnf
    refine ⟨i + 1, ?_, ⟨by omega, by omega, ?_⟩, by omega⟩
    · exact Eq.trans (b := S24a l (IntKind.i64.wrap (i + 1))) rfl (by rw [wi])
    · rw [ei]; exact allG_succ i2 t0
  have hi : ¬ (i < (l.length : Int)) := @of_decide_eq_false _ _ hi
  rw [show i.toNat = l.length by omega] at i2
  have hall := i2
  clear i2
  conv => whnf
  refine loop_rule (fun i : Int => S24b l (entP l i.toNat) i) (fun i => ((l.length : Int) - i).toNat) (fun i => 0 ≤ i ∧ i ≤ (l.length : Int) ∧ uniqG (fun i => (gP l i).1) i.toNat = true) ?_ 0 (by kernel_rfl) ?_ ⟨by omega, by omega, rfl⟩
  case refine_2 => rfl
  rintro i ⟨i0, i1, i2⟩
  conv => whnf
  refine cond_intro (fun hi => ?_) (fun hi => ?_)
  · have hi : i < (l.length : Int) := @of_decide_eq_true _ _ hi
    have wi : IntKind.i64.wrap (i + 1) = i + 1 := wrap_eq (by omega) (by omega)
    have ei : (i + 1).toNat = i.toNat + 1 := by omega
    conv => whnf
    refine ⟨i0, ?_⟩
    conv => whnf
    refine ⟨hi, ?_⟩
    conv => whnf
    refine cond_intro (fun c => ?_) (fun c => ?_)
    · have c : (optOr (mget .str .bool (entP l i.toNat) (gP l i.toNat).1) false) = true := c
      rw [opt_ent] at c
      have c : freshG (fun i => (gP l i).1) i.toNat i.toNat = false := by unfold freshG; cases q : allG (fun k => !decide ((gP l k).1 = (gP l i.toNat).1)) i.toNat with | false => rfl | true => rw [q] at c; cases c
      conv => whnf
      show (3 : Int) = plR l
      exact (valid_fr hM hall (i := i.toNat) (by omega) c).symm
    have c : (optOr (mget .str .bool (entP l i.toNat) (gP l i.toNat).1) false) = false := c
    rw [opt_ent] at c
    have c : allG (fun k => !decide ((gP l k).1 = (gP l i.toNat).1)) i.toNat = true := by cases q : allG (fun k => !decide ((gP l k).1 = (gP l i.toNat).1)) i.toNat with | true => rfl | false => rw [q] at c; cases c
    conv => whnf
    refine ⟨isOk_ent l _ _ c, ?_⟩
    conv => whnf
    refine ⟨i + 1, ?_, ⟨by omega, by omega, ?_⟩, by omega⟩
    · exact Eq.trans (b := S24b l (entP l i.toNat ++ [((gP l i.toNat).1, true)]) (IntKind.i64.wrap (i + 1))) rfl (by rw [wi, ei]; rfl)
    · rw [ei]; exact allG_succ i2 c
  have hi : ¬ (i < (l.length : Int)) := @of_decide_eq_false _ _ hi
  rw [show i.toNat = l.length by omega] at i2
  conv => whnf
  show (0 : Int) = plR l
  exact (valid_ok hM hall i2).symm
end
end Go.Proofs.YtaafjaibaaiigaaGreatDoor.Eng
set_option linter.unusedVariables false
set_option linter.unusedSimpArgs false
namespace Go.Proofs.YtaafjaibaaiigaaGreatDoor.Eng
open Go
set_option maxRecDepth 100000
noncomputable section
abbrev Co4 := List Cg × List Pl × List Cg × List Mo
def nmsC (l : List Cg) : Nat → List ByteArray
  | 0 => []
  | n + 1 => nmsC l n ++ [(gC l n).1]
def nmsP (l : List Pl) : Nat → List ByteArray
  | 0 => []
  | n + 1 => nmsP l n ++ [(gP l n).1]
def nmsM (l : List Mo) : Nat → List ByteArray
  | 0 => []
  | n + 1 => nmsM l n ++ [(gM l n).1]
theorem nmsC_len (l : List Cg) : ∀ n, (nmsC l n).length = n
  | 0 => rfl
  | n + 1 => by rw [nmsC, List.length_append, nmsC_len l n]; rfl
theorem nmsP_len (l : List Pl) : ∀ n, (nmsP l n).length = n
  | 0 => rfl
  | n + 1 => by rw [nmsP, List.length_append, nmsP_len l n]; rfl
theorem nmsM_len (l : List Mo) : ∀ n, (nmsM l n).length = n
  | 0 => rfl
  | n + 1 => by rw [nmsM, List.length_append, nmsM_len l n]; rfl
/-- The names of all things but rules. -/
def wordsR (x : Co4) : List ByteArray := ((nmsC x.1 x.1.length ++ nmsP x.2.1 x.2.1.length) ++ nmsC x.2.2.1 x.2.2.1.length) ++ nmsM x.2.2.2 x.2.2.2.length
theorem words_len (x : Co4) : (wordsR x).length = x.1.length + x.2.1.length + x.2.2.1.length + x.2.2.2.length := by
  unfold wordsR; simp only [List.length_append, nmsC_len, nmsP_len, nmsM_len]
def len4 (x : Co4) : Prop := x.1.length ≤ 1000 ∧ x.2.1.length ≤ 1000 ∧ x.2.2.1.length ≤ 1000 ∧ x.2.2.2.length ≤ 1000
def S53a (r : List Ru) (cg : List Cg) (pl : List Pl) (ho : List Cg) (mo : List Mo) (out : List ByteArray) (i : Int) : SL := ⟨[.undef, .ptr 0 0 0, .undef, .own 1, .undef, .undef, .undef, .undef, .undef, .undef, .undef, .undef, .undef, .sl cgT cg, .int .i64 cg.length, .int .i64 i, .undef, .undef, .undef, .undef, .undef, .undef, .undef, .undef, .undef, .undef, .undef, .undef, .undef, .undef, .undef, .undef, .undef, .undef, .undef, .undef, .undef, .undef, .undef, .undef, .undef, .undef, .undef, .undef, .undef, .undef, .undef, .undef, .undef, .undef, .undef, .undef, .undef, .undef, .undef, .undef, .undef, .undef, .undef, .undef, .undef, .undef, .undef, .undef, .undef], [(0, .box [.sl ruT r, .sl cgT cg, .sl plT pl, .sl cgT ho, .sl moT mo]), (1, .arr .str out)], 2⟩
def S53b (r : List Ru) (cg : List Cg) (pl : List Pl) (ho : List Cg) (mo : List Mo) (out : List ByteArray) (i : Int) : SL := ⟨[.undef, .ptr 0 0 0, .undef, .own 1, .undef, .undef, .undef, .undef, .undef, .undef, .undef, .undef, .undef, .undef, .undef, .undef, .undef, .undef, .undef, .undef, .undef, .undef, .undef, .undef, .undef, .undef, .sl plT pl, .int .i64 pl.length, .int .i64 i, .undef, .undef, .undef, .undef, .undef, .undef, .undef, .undef, .undef, .undef, .undef, .undef, .undef, .undef, .undef, .undef, .undef, .undef, .undef, .undef, .undef, .undef, .undef, .undef, .undef, .undef, .undef, .undef, .undef, .undef, .undef, .undef, .undef, .undef, .undef, .undef], [(0, .box [.sl ruT r, .sl cgT cg, .sl plT pl, .sl cgT ho, .sl moT mo]), (1, .arr .str out)], 2⟩
def S53c (r : List Ru) (cg : List Cg) (pl : List Pl) (ho : List Cg) (mo : List Mo) (out : List ByteArray) (i : Int) : SL := ⟨[.undef, .ptr 0 0 0, .undef, .own 1, .undef, .undef, .undef, .undef, .undef, .undef, .undef, .undef, .undef, .undef, .undef, .undef, .undef, .undef, .undef, .undef, .undef, .undef, .undef, .undef, .undef, .undef, .undef, .undef, .undef, .undef, .undef, .undef, .undef, .undef, .undef, .undef, .undef, .undef, .undef, .sl cgT ho, .int .i64 ho.length, .int .i64 i, .undef, .undef, .undef, .undef, .undef, .undef, .undef, .undef, .undef, .undef, .undef, .undef, .undef, .undef, .undef, .undef, .undef, .undef, .undef, .undef, .undef, .undef, .undef], [(0, .box [.sl ruT r, .sl cgT cg, .sl plT pl, .sl cgT ho, .sl moT mo]), (1, .arr .str out)], 2⟩
def S53d (mo : List Mo) (out : List ByteArray) (i : Int) : SL := ⟨[.undef, .undef, .undef, .own 0, .undef, .undef, .undef, .undef, .undef, .undef, .undef, .undef, .undef, .undef, .undef, .undef, .undef, .undef, .undef, .undef, .undef, .undef, .undef, .undef, .undef, .undef, .undef, .undef, .undef, .undef, .undef, .undef, .undef, .undef, .undef, .undef, .undef, .undef, .undef, .undef, .undef, .undef, .undef, .undef, .undef, .undef, .undef, .undef, .undef, .undef, .undef, .undef, .sl moT mo, .int .i64 mo.length, .int .i64 i, .undef, .undef, .undef, .undef, .undef, .undef, .undef, .undef, .undef, .undef], [(0, .arr .str out)], 1⟩
def E53g : Env := ⟨tab, [], fun n => match n with | 3 => some ([1, 3, 13, 14, 15], [(3, .str)], []) | 8 => some ([1, 3, 26, 27, 28], [], []) | 13 => some ([1, 3, 39, 40, 41], [], []) | 18 => some ([3, 52, 53, 54], [], []) | _ => none⟩
def K53g : Fn1 := ⟨.one coT, .one (.sl .str), fun (c : Co) => [len4 c.2], fun (c : Co) => wordsR c.2⟩
set_option maxHeartbeats 1000000 in
theorem k53g : FnOk Go.Proofs.Tryz.prog 53 K53g := by
  refine fn_ok (E := E53g) (TOk.of tab_told) (fun f k h => by cases h) mix Go.Proofs.Tryz.func53 rfl rfl (by kernel_rfl) K53g ?_
  rintro ⟨(r : List Ru), (cg : List Cg), (pl : List Pl), (ho : List Cg), (mo : List Mo)⟩ hp
  obtain ⟨l1, l2, l3, l4⟩ : len4 (cg, pl, ho, mo) := hp _ (List.mem_cons_self ..)
  clear hp
  have l1 : cg.length ≤ 1000 := l1
  have l2 : pl.length ≤ 1000 := l2
  have l3 : ho.length ≤ 1000 := l3
  have l4 : mo.length ≤ 1000 := l4
  conv => whnf
  refine loop_rule (fun i : Int => S53a r cg pl ho mo (nmsC cg i.toNat) i) (fun i => ((cg.length : Int) - i).toNat) (fun i => 0 ≤ i ∧ i ≤ (cg.length : Int)) ?_ 0 (by kernel_rfl) ?_ ⟨by omega, by omega⟩
  case refine_2 => rfl
  rintro i ⟨i0, i1⟩
  have hlc := nmsC_len cg i.toNat
  have hcl : (nmsC cg i.toNat).length = 0 + i.toNat := by simp only [List.length_append, nmsC_len, nmsP_len, nmsM_len]; omega
  conv => whnf
  refine cond_intro (fun hi => ?_) (fun hi => ?_)
  · have hi : i < (cg.length : Int) := @of_decide_eq_true _ _ hi
    have wi : IntKind.i64.wrap (i + 1) = i + 1 := wrap_eq (by omega) (by omega)
    have ei : (i + 1).toNat = i.toNat + 1 := by omega
    conv => whnf
    refine ⟨i0, ?_⟩
    conv => whnf
    refine ⟨hi, ?_⟩
    conv => whnf
    refine ⟨show ((nmsC cg i.toNat).length + 1) * 16 ≤ 70368744177664 by omega, ?_⟩
    conv => whnf
    refine ⟨show (nmsC cg i.toNat).length + 1 ≤ 70368744177664 by omega, ?_⟩
    conv => whnf
    refine ⟨i + 1, ?_, ⟨by omega, by omega⟩, by omega⟩
    exact Eq.trans (b := S53a r cg pl ho mo ((nmsC cg i.toNat) ++ [(gC cg i.toNat).1]) (IntKind.i64.wrap (i + 1))) rfl (by rw [wi, ei]; rfl)
  have hi : ¬ (i < (cg.length : Int)) := @of_decide_eq_false _ _ hi
  rw [show i.toNat = cg.length by omega]
  conv => whnf
  refine loop_rule (fun i : Int => S53b r cg pl ho mo (nmsC cg cg.length ++ nmsP pl i.toNat) i) (fun i => ((pl.length : Int) - i).toNat) (fun i => 0 ≤ i ∧ i ≤ (pl.length : Int)) ?_ 0 (by kernel_rfl) ?_ ⟨by omega, by omega⟩
  case refine_2 => exact Eq.trans (b := S53b r cg pl ho mo (nmsC cg cg.length) 0) rfl (by rw [show nmsP pl (0 : Int).toNat = [] from rfl, List.append_nil])
  rintro i ⟨i0, i1⟩
  have hlc := nmsP_len pl i.toNat
  have hcl : (nmsC cg cg.length ++ nmsP pl i.toNat).length = cg.length + i.toNat := by simp only [List.length_append, nmsC_len, nmsP_len, nmsM_len]
  conv => whnf
  refine cond_intro (fun hi => ?_) (fun hi => ?_)
  · have hi : i < (pl.length : Int) := @of_decide_eq_true _ _ hi
    have wi : IntKind.i64.wrap (i + 1) = i + 1 := wrap_eq (by omega) (by omega)
    have ei : (i + 1).toNat = i.toNat + 1 := by omega
    conv => whnf
    refine ⟨i0, ?_⟩
    conv => whnf
    refine ⟨hi, ?_⟩
    conv => whnf
    refine ⟨show ((nmsC cg cg.length ++ nmsP pl i.toNat).length + 1) * 16 ≤ 70368744177664 by omega, ?_⟩
    conv => whnf
    refine ⟨show (nmsC cg cg.length ++ nmsP pl i.toNat).length + 1 ≤ 70368744177664 by omega, ?_⟩
    conv => whnf
    refine ⟨i + 1, ?_, ⟨by omega, by omega⟩, by omega⟩
    exact Eq.trans (b := S53b r cg pl ho mo ((nmsC cg cg.length ++ nmsP pl i.toNat) ++ [(gP pl i.toNat).1]) (IntKind.i64.wrap (i + 1))) rfl (by rw [wi, ei, List.append_assoc]; rfl)
  have hi : ¬ (i < (pl.length : Int)) := @of_decide_eq_false _ _ hi
  rw [show i.toNat = pl.length by omega]
  conv => whnf
  refine loop_rule (fun i : Int => S53c r cg pl ho mo ((nmsC cg cg.length ++ nmsP pl pl.length) ++ nmsC ho i.toNat) i) (fun i => ((ho.length : Int) - i).toNat) (fun i => 0 ≤ i ∧ i ≤ (ho.length : Int)) ?_ 0 (by kernel_rfl) ?_ ⟨by omega, by omega⟩
  case refine_2 => exact Eq.trans (b := S53c r cg pl ho mo ((nmsC cg cg.length ++ nmsP pl pl.length)) 0) rfl (by rw [show nmsC ho (0 : Int).toNat = [] from rfl, List.append_nil])
  rintro i ⟨i0, i1⟩
  have hlc := nmsC_len ho i.toNat
  have hcl : ((nmsC cg cg.length ++ nmsP pl pl.length) ++ nmsC ho i.toNat).length = cg.length + pl.length + i.toNat := by simp only [List.length_append, nmsC_len, nmsP_len, nmsM_len]
  conv => whnf
  refine cond_intro (fun hi => ?_) (fun hi => ?_)
  · have hi : i < (ho.length : Int) := @of_decide_eq_true _ _ hi
    have wi : IntKind.i64.wrap (i + 1) = i + 1 := wrap_eq (by omega) (by omega)
    have ei : (i + 1).toNat = i.toNat + 1 := by omega
    conv => whnf
    refine ⟨i0, ?_⟩
    conv => whnf
    refine ⟨hi, ?_⟩
    conv => whnf
    refine ⟨show (((nmsC cg cg.length ++ nmsP pl pl.length) ++ nmsC ho i.toNat).length + 1) * 16 ≤ 70368744177664 by omega, ?_⟩
    conv => whnf
    refine ⟨show ((nmsC cg cg.length ++ nmsP pl pl.length) ++ nmsC ho i.toNat).length + 1 ≤ 70368744177664 by omega, ?_⟩
    conv => whnf
    refine ⟨i + 1, ?_, ⟨by omega, by omega⟩, by omega⟩
    exact Eq.trans (b := S53c r cg pl ho mo (((nmsC cg cg.length ++ nmsP pl pl.length) ++ nmsC ho i.toNat) ++ [(gC ho i.toNat).1]) (IntKind.i64.wrap (i + 1))) rfl (by rw [wi, ei, List.append_assoc]; rfl)
  have hi : ¬ (i < (ho.length : Int)) := @of_decide_eq_false _ _ hi
  rw [show i.toNat = ho.length by omega]
  conv => whnf
  refine loop_rule (fun i : Int => S53d mo (((nmsC cg cg.length ++ nmsP pl pl.length) ++ nmsC ho ho.length) ++ nmsM mo i.toNat) i) (fun i => ((mo.length : Int) - i).toNat) (fun i => 0 ≤ i ∧ i ≤ (mo.length : Int)) ?_ 0 (by kernel_rfl) ?_ ⟨by omega, by omega⟩
  case refine_2 => exact Eq.trans (b := S53d mo (((nmsC cg cg.length ++ nmsP pl pl.length) ++ nmsC ho ho.length)) 0) rfl (by rw [show nmsM mo (0 : Int).toNat = [] from rfl, List.append_nil])
  rintro i ⟨i0, i1⟩
  have hlc := nmsM_len mo i.toNat
  have hcl : (((nmsC cg cg.length ++ nmsP pl pl.length) ++ nmsC ho ho.length) ++ nmsM mo i.toNat).length = cg.length + pl.length + ho.length + i.toNat := by simp only [List.length_append, nmsC_len, nmsP_len, nmsM_len]
  conv => whnf
  refine cond_intro (fun hi => ?_) (fun hi => ?_)
  · have hi : i < (mo.length : Int) := @of_decide_eq_true _ _ hi
    have wi : IntKind.i64.wrap (i + 1) = i + 1 := wrap_eq (by omega) (by omega)
    have ei : (i + 1).toNat = i.toNat + 1 := by omega
    conv => whnf
    refine ⟨i0, ?_⟩
    conv => whnf
    refine ⟨hi, ?_⟩
    conv => whnf
    refine ⟨show ((((nmsC cg cg.length ++ nmsP pl pl.length) ++ nmsC ho ho.length) ++ nmsM mo i.toNat).length + 1) * 16 ≤ 70368744177664 by omega, ?_⟩
    conv => whnf
    refine ⟨show (((nmsC cg cg.length ++ nmsP pl pl.length) ++ nmsC ho ho.length) ++ nmsM mo i.toNat).length + 1 ≤ 70368744177664 by omega, ?_⟩
    conv => whnf
    refine ⟨i + 1, ?_, ⟨by omega, by omega⟩, by omega⟩
    exact Eq.trans (b := S53d mo ((((nmsC cg cg.length ++ nmsP pl pl.length) ++ nmsC ho ho.length) ++ nmsM mo i.toNat) ++ [(gM mo i.toNat).1]) (IntKind.i64.wrap (i + 1))) rfl (by rw [wi, ei, List.append_assoc]; rfl)
  have hi : ¬ (i < (mo.length : Int)) := @of_decide_eq_false _ _ hi
  rw [show i.toNat = mo.length by omega]
  conv => whnf
  rfl
def ixW (w : List ByteArray) : Int := if wdsB w = true then -1 else (fst (fun k => resB (w.getD k ⟨#[]⟩)) w.length 0 : Int)
theorem ixW_iff (w : List ByteArray) : decide (0 ≤ ixW w) = !wdsB w := by
  unfold ixW
  cases h : wdsB w with
  | true => rw [if_pos rfl]; rfl
  | false => rw [if_neg (by decide), decide_eq_true (Int.natCast_nonneg _)]; rfl
theorem ixW_at {w : List ByteArray} {i : Nat} (hi : i < w.length) (h : allG (fun k => !resB (w.getD k ⟨#[]⟩)) i = true) (e : resB (w.getD i ⟨#[]⟩) = true) : ixW w = i := by
  unfold ixW wdsB
  rw [if_neg (by rw [allG_bad (p := fun k => !resB (w.getD k ⟨#[]⟩)) hi (by show (!resB _) = false; rw [e]; rfl)]; decide), fst_eq (i := i) (Nat.zero_le _) (by omega) (fun j _ hj => ?_) (fun _ => e)]
  have := allG_at (p := fun k => !resB (w.getD k ⟨#[]⟩)) h hj
  simpa using this
def S93w (w : List ByteArray) (i : Int) : SL := ⟨[.sl .str w, .fn 54 [], .undef, .undef, .undef, .undef, .undef, .int .i64 w.length, .int .i64 i, .undef, .undef, .undef, .undef, .undef, .undef, .undef, .undef, .undef, .undef], [], 0⟩
def E93w : Env := ⟨tab, [(54, K54)], fun n => match n with | 2 => some ([0, 1, 7, 8], [], []) | _ => none⟩
def K93w : Fn1 := ⟨.one (.sl .str), .one I, fun (w : List ByteArray) => [w.length ≤ 140737488351232], fun (w : List ByteArray) => ixW w⟩
theorem k93w : FnOkF Go.Proofs.Tryz.prog 93 54 K93w := by
  refine fn_okF (E := E93w) (TOk.of tab_told) (AllOk.cons k54 .nil).at_ mix Go.Proofs.Tryz.func93 rfl rfl (by kernel_rfl) 54 K93w ?_
  rintro (w : List ByteArray) hp
  have hw : w.length ≤ 140737488351232 := hp _ (List.mem_cons_self ..)
  clear hp
  conv => whnf
  refine loop_rule (S93w w) (fun i => ((w.length : Int) - i).toNat) (fun i => 0 ≤ i ∧ i ≤ (w.length : Int) ∧ allG (fun k => !resB (w.getD k ⟨#[]⟩)) i.toNat = true) ?_ 0 (by kernel_rfl) ?_ ⟨by omega, by omega, rfl⟩
  case refine_2 => rfl
  rintro i ⟨i0, i1, i2⟩
  conv => whnf
  refine cond_intro (fun hi => ?_) (fun hi => ?_)
  · have hi : i < (w.length : Int) := @of_decide_eq_true _ _ hi
    have wi : IntKind.i64.wrap (i + 1) = i + 1 := wrap_eq (by omega) (by omega)
    have ei : (i + 1).toNat = i.toNat + 1 := by omega
    conv => whnf
    refine ⟨i0, ?_⟩
    conv => whnf
    refine ⟨hi, ?_⟩
    conv => whnf
    refine cond_intro (fun c => ?_) (fun c => ?_)
    · have c : (resB (w.getD i.toNat ⟨#[]⟩)) = true := c
      conv => whnf
      show i = ixW w
      rw [ixW_at (i := i.toNat) (by omega) i2 c]
      omega
    have c : (resB (w.getD i.toNat ⟨#[]⟩)) = false := c
    conv => whnf
    refine ⟨i + 1, ?_, ⟨by omega, by omega, ?_⟩, by omega⟩
    · exact Eq.trans (b := S93w w (IntKind.i64.wrap (i + 1))) rfl (by rw [wi])
    · rw [ei]; exact allG_succ i2 (by show (!resB (w.getD i.toNat ⟨#[]⟩)) = true; rw [c]; rfl)
  have hi : ¬ (i < (w.length : Int)) := @of_decide_eq_false _ _ hi
  rw [show i.toNat = w.length by omega] at i2
  conv => whnf
  show (-1 : Int) = ixW w
  unfold ixW wdsB
  rw [if_pos i2]
def E52w : Env := ⟨tab, [(93, .fixd 54 K93w)], fun n => match n with  | _ => none⟩
def K52w : Fn1 := ⟨.one (.sl .str), .one .bool, fun (w : List ByteArray) => [w.length ≤ 140737488351232], fun (w : List ByteArray) => !wdsB w⟩
theorem k52w : FnOkF Go.Proofs.Tryz.prog 52 54 K52w := by
  refine fn_okF (E := E52w) (TOk.of tab_told) (AllOk.consF k93w .nil).at_ mix Go.Proofs.Tryz.func52 rfl rfl (by kernel_rfl) 54 K52w ?_
  rintro (w : List ByteArray) hp
  have hw : w.length ≤ 140737488351232 := hp _ (List.mem_cons_self ..)
  clear hp
  conv => whnf
  refine ⟨hw, ?_⟩
  conv => whnf
  show decide (0 ≤ ixW w) = !wdsB w
  exact ixW_iff w
def bigC (x : Co4) : Bool := decide (16 < max2 (max2 (x.1.length : Int) (x.2.1.length : Int)) (x.2.2.1.length : Int)) || decide (40 < (x.2.2.2.length : Int))
def lrgC (r : List Ru) (x : Co4) : Bool := bigC x || lrgR r
theorem lrgC_b {r : List Ru} {x : Co4} (h : bigC x = true) : lrgC r x = true := by unfold lrgC; rw [h]; rfl
theorem lrgC_r {r : List Ru} {x : Co4} (h : lrgR r = true) : lrgC r x = true := by unfold lrgC; rw [h, Bool.or_true]
theorem lrgC_f {r : List Ru} {x : Co4} (h : bigC x = false) (g : lrgR r = false) : lrgC r x = false := by unfold lrgC; rw [h, g]; rfl
theorem lrgC_ff {r : List Ru} {x : Co4} (h : lrgC r x = false) : bigC x = false ∧ lrgR r = false := by unfold lrgC at h; simpa using h
theorem bigC_f {x : Co4} (h : bigC x = false) : x.1.length ≤ 16 ∧ x.2.1.length ≤ 16 ∧ x.2.2.1.length ≤ 16 ∧ x.2.2.2.length ≤ 40 := by
  unfold bigC max2 at h
  simp only [Bool.or_eq_false_iff, decide_eq_false_iff_not] at h
  obtain ⟨h1, h2⟩ := h
  split at h1 <;> split at h1 <;> omega
def S20g (r : List Ru) (cg : List Cg) (pl : List Pl) (ho : List Cg) (mo : List Mo) (i : Int) : SL := ⟨[.undef, .ptr 0 0 0, .undef, .undef, .undef, .undef, .undef, .undef, .undef, .undef, .undef, .undef, .undef, .undef, .undef, .undef, .undef, .undef, .undef, .undef, .undef, .undef, .undef, .undef, .undef, .undef, .undef, .undef, .undef, .sl ruT r, .int .i64 r.length, .int .i64 i, .undef, .undef, .undef, .undef, .undef, .undef, .undef, .undef, .undef, .undef, .undef, .undef, .undef, .undef, .undef, .undef, .undef, .undef, .undef], [(0, .box [.sl ruT r, .sl cgT cg, .sl plT pl, .sl cgT ho, .sl moT mo])], 1⟩
def E20g : Env := ⟨tab, [(37, K37), (50, K50)], fun n => match n with | 4 => some ([1, 29, 30, 31], [], []) | _ => none⟩
def K20g : Fn1 := ⟨.one coT, .one .bool, fun (c : Co) => [bodyOk c.1], fun (c : Co) => lrgC c.1 c.2⟩
set_option maxHeartbeats 1000000 in
theorem k20g : FnOk Go.Proofs.Tryz.prog 20 K20g := by
  refine fn_ok (E := E20g) (TOk.of tab_told) (AllOk.cons k37 (.cons k50 .nil)).at_ mix Go.Proofs.Tryz.func20 rfl rfl (by kernel_rfl) K20g ?_
  rintro ⟨(r : List Ru), (cg : List Cg), (pl : List Pl), (ho : List Cg), (mo : List Mo)⟩ hp
  have hb : bodyOk r := hp _ (List.mem_cons_self ..)
  clear hp
  conv => whnf
  refine cond_intro (fun h0 => ?_) (fun h0 => ?_)
  · have h0 : 30 < (r.length : Int) := @of_decide_eq_true _ _ h0
    conv => whnf
    repeat (first | (refine cond_intro (fun h => absurd h (by decide)) (fun h => ?_); conv => whnf) | (refine cond_intro (fun h => ?_) (fun h => absurd h (by decide)); conv => whnf))
    conv => whnf
    show true = lrgC r (cg, pl, ho, mo)
    exact (lrgC_r (lrg_len h0)).symm
  have h0 : ¬ (30 < (r.length : Int)) := @of_decide_eq_false _ _ h0
  conv => whnf
  repeat (first | (refine cond_intro (fun h => absurd h (by decide)) (fun h => ?_); conv => whnf) | (refine cond_intro (fun h => ?_) (fun h => absurd h (by decide)); conv => whnf))
  conv => whnf
  refine cond_intro (fun hm => ?_) (fun hm => ?_)
  · have hm : 16 < max2 (max2 (cg.length : Int) (pl.length : Int)) (ho.length : Int) := @of_decide_eq_true _ _ hm
    conv => whnf
    repeat (first | (refine cond_intro (fun h => absurd h (by decide)) (fun h => ?_); conv => whnf) | (refine cond_intro (fun h => ?_) (fun h => absurd h (by decide)); conv => whnf))
    conv => whnf
    show true = lrgC r (cg, pl, ho, mo)
    exact (lrgC_b (by unfold bigC; rw [decide_eq_true hm]; rfl)).symm
  have hm : ¬ (16 < max2 (max2 (cg.length : Int) (pl.length : Int)) (ho.length : Int)) := @of_decide_eq_false _ _ hm
  conv => whnf
  repeat (first | (refine cond_intro (fun h => absurd h (by decide)) (fun h => ?_); conv => whnf) | (refine cond_intro (fun h => ?_) (fun h => absurd h (by decide)); conv => whnf))
  conv => whnf
  refine cond_intro (fun ho4 => ?_) (fun ho4 => ?_)
  · have ho4 : 40 < (mo.length : Int) := @of_decide_eq_true _ _ ho4
    conv => whnf
    repeat (first | (refine cond_intro (fun h => absurd h (by decide)) (fun h => ?_); conv => whnf) | (refine cond_intro (fun h => ?_) (fun h => absurd h (by decide)); conv => whnf))
    conv => whnf
    show true = lrgC r (cg, pl, ho, mo)
    exact (lrgC_b (by unfold bigC; rw [decide_eq_true ho4, Bool.or_true])).symm
  have ho4 : ¬ (40 < (mo.length : Int)) := @of_decide_eq_false _ _ ho4
  have hbg : bigC (cg, pl, ho, mo) = false := by unfold bigC; rw [decide_eq_false hm, decide_eq_false ho4]; rfl
  have hmx : (r.length : Int) ≤ 30 := by omega
  conv => whnf
  repeat (first | (refine cond_intro (fun h => absurd h (by decide)) (fun h => ?_); conv => whnf) | (refine cond_intro (fun h => ?_) (fun h => absurd h (by decide)); conv => whnf))
  conv => whnf
  refine loop_rule (S20g r cg pl ho mo) (fun i => ((r.length : Int) - i).toNat) (fun i => 0 ≤ i ∧ i ≤ (r.length : Int) ∧ allG (fun i => decide (((gR r i).2.2.length : Int) ≤ 60)) i.toNat = true) ?_ 0 (by kernel_rfl) ?_ ⟨by omega, by omega, rfl⟩
  case refine_2 => rfl
  rintro i ⟨i0, i1, i2⟩
  conv => whnf
  refine cond_intro (fun hi => ?_) (fun hi => ?_)
  · have hi : i < (r.length : Int) := @of_decide_eq_true _ _ hi
    have wi : IntKind.i64.wrap (i + 1) = i + 1 := wrap_eq (by omega) (by omega)
    have ei : (i + 1).toNat = i.toNat + 1 := by omega
    conv => whnf
    refine ⟨i0, ?_⟩
    conv => whnf
    refine ⟨hi, ?_⟩
    conv => whnf
    refine cond_intro (fun h1 => ?_) (fun h1 => ?_)
    · have h1 : 60 < ((gR r i.toNat).2.2.length : Int) := @of_decide_eq_true _ _ h1
      conv => whnf
      show true = lrgC r (cg, pl, ho, mo)
      exact (lrgC_r (lrg_body (i := i.toNat) (by omega) h1)).symm
    have h1 : ¬ (60 < ((gR r i.toNat).2.2.length : Int)) := @of_decide_eq_false _ _ h1
    conv => whnf
    refine ⟨i + 1, ?_, ⟨by omega, by omega, ?_⟩, by omega⟩
    · exact Eq.trans (b := S20g r cg pl ho mo (IntKind.i64.wrap (i + 1))) rfl (by rw [wi])
    · rw [ei]; exact allG_succ i2 (decide_eq_true (by show ((gR r i.toNat).2.2.length : Int) ≤ 60; omega))
  have hi : ¬ (i < (r.length : Int)) := @of_decide_eq_false _ _ hi
  rw [show i.toNat = r.length by omega] at i2
  conv => whnf
  refine cond_intro (fun h2 => ?_) (fun h2 => ?_)
  · have h2 : 0 < (r.length : Int) := @of_decide_eq_true _ _ h2
    conv => whnf
    refine ⟨show r.length ≤ 1000 by omega, ?_⟩
    conv => whnf
    refine ⟨hb, ?_⟩
    conv => whnf
    refine ⟨show 0 < (costsR r).length by rw [costs_len]; omega, ?_⟩
    conv => whnf
    refine ⟨show (costsR r).length ≤ 140737488351232 by rw [costs_len]; omega, ?_⟩
    conv => whnf
    show decide (100000 < maxJ (costsR r) (costsR r).length) = lrgC r (cg, pl, ho, mo)
    have hpos : 0 < (costsR r).length := by rw [costs_len]; omega
    by_cases q : 100000 < maxJ (costsR r) (costsR r).length
    · obtain ⟨k, k1, k2⟩ := (maxJ_gt _ hpos).1 q
      rw [costs_len] at k1
      rw [decide_eq_true q, lrgC_r (lrg_cost k1 k2)]
    · rw [decide_eq_false q, lrgC_f hbg (lrg_not h0 i2 (allG_all fun k hk => decide_eq_true (Int.not_lt.1 fun e => q ((maxJ_gt _ hpos).2 ⟨k, by rw [costs_len]; exact hk, e⟩))))]
  have h2 : ¬ (0 < (r.length : Int)) := @of_decide_eq_false _ _ h2
  conv => whnf
  show false = lrgC r (cg, pl, ho, mo)
  rw [lrgC_f hbg (lrg_not h0 i2 (allG_all fun k hk => by omega))]
end
end Go.Proofs.YtaafjaibaaiigaaGreatDoor.Eng
set_option linter.unusedVariables false
set_option linter.unusedSimpArgs false
namespace Go.Proofs.YtaafjaibaaiigaaGreatDoor.Eng
open Go
set_option maxRecDepth 100000
noncomputable section
def S22ga (r : List Ru) (cg : List Cg) (pl : List Pl) (ho : List Cg) (mo : List Mo) (i : Int) : SL := ⟨[.undef, .ptr 0 0 0, .undef, .undef, .undef, .undef, .undef, .undef, .undef, .undef, .sl ruT r, .int .i64 r.length, .int .i64 i, .undef, .undef, .undef, .undef, .undef, .undef, .undef, .undef, .undef, .undef, .undef, .undef, .undef, .undef, .undef, .undef, .undef, .undef, .undef, .undef, .undef, .undef, .undef, .undef, .undef, .undef, .undef, .undef, .undef, .undef, .undef, .undef, .undef, .undef, .undef, .undef, .undef, .undef, .undef, .undef, .undef, .undef, .undef, .undef, .undef, .undef, .undef, .undef, .undef, .undef, .undef, .undef, .undef, .undef], [(0, .box [.sl ruT r, .sl cgT cg, .sl plT pl, .sl cgT ho, .sl moT mo])], 1⟩
def S22gb (r : List Ru) (cg : List Cg) (pl : List Pl) (ho : List Cg) (mo : List Mo) (i : Int) : SL := ⟨[.undef, .ptr 0 0 0, .undef, .undef, .undef, .undef, .undef, .undef, .undef, .undef, .undef, .undef, .undef, .undef, .undef, .undef, .undef, .undef, .undef, .undef, .undef, .undef, .undef, .undef, .undef, .undef, .undef, .undef, .undef, .undef, .undef, .undef, .undef, .undef, .undef, .sl ruT r, .int .i64 r.length, .int .i64 i, .undef, .undef, .undef, .undef, .undef, .undef, .undef, .undef, .undef, .undef, .undef, .undef, .undef, .undef, .undef, .undef, .undef, .undef, .undef, .undef, .undef, .undef, .undef, .undef, .undef, .undef, .undef, .undef, .undef], [(0, .box [.sl ruT r, .sl cgT cg, .sl plT pl, .sl cgT ho, .sl moT mo])], 1⟩
def S22gc (r : List Ru) (cg : List Cg) (pl : List Pl) (ho : List Cg) (mo : List Mo) (i : Int) : SL := ⟨[.undef, .ptr 0 0 0, .undef, .undef, .undef, .undef, .undef, .undef, .undef, .undef, .undef, .undef, .undef, .undef, .undef, .undef, .undef, .undef, .undef, .undef, .undef, .undef, .undef, .undef, .undef, .undef, .undef, .undef, .undef, .undef, .undef, .undef, .undef, .undef, .undef, .undef, .undef, .undef, .undef, .undef, .undef, .undef, .undef, .undef, .undef, .undef, .undef, .undef, .undef, .undef, .undef, .undef, .undef, .sl ruT r, .int .i64 r.length, .int .i64 i, .undef, .undef, .undef, .undef, .undef, .undef, .undef, .undef, .undef, .undef, .undef], [(0, .box [.sl ruT r, .sl cgT cg, .sl plT pl, .sl cgT ho, .sl moT mo])], 1⟩
theorem valW_wf {r : List Ru} {w : List ByteArray} (h : okRs r = true) (hw : wdsB w = false) : valW r w = 1 := by
  unfold valW; rw [if_pos h, if_neg (by rw [hw]; decide)]
def E22g : Env := ⟨tab, [(51, K51), (53, K53g), (52, .fixd 54 K52w), (43, K43), (55, .eff X55r)], fun n => match n with | 2 => some ([1, 10, 11, 12], [], []) | 10 => some ([1, 35, 36, 37], [], []) | 16 => some ([1, 53, 54, 55], [], []) | _ => none⟩
def K22g : Fn1 := ⟨.one coT, .one I, fun (c : Co) => [len4 c.2, nmR c.1, bodyOk c.1, c.1.length ≤ 1000], fun (c : Co) => valW c.1 (wordsR c.2)⟩
set_option maxHeartbeats 1000000 in
theorem k22g : FnOk Go.Proofs.Tryz.prog 22 K22g := by
  refine fn_ok (E := E22g) (TOk.of tab_told) (AllOk.cons k51 (.cons k53g (.consF k52w (.cons k43 (.consX k55r .nil))))).at_ mix Go.Proofs.Tryz.func22 rfl rfl (by kernel_rfl) K22g ?_
  rintro ⟨(r : List Ru), (cg : List Cg), (pl : List Pl), (ho : List Cg), (mo : List Mo)⟩ hp
  have hx : len4 (cg, pl, ho, mo) := hp _ (List.mem_cons_self ..)
  have hn : nmR r := hp _ (List.mem_cons_of_mem _ (List.mem_cons_self ..))
  have hb : bodyOk r := hp _ (List.mem_cons_of_mem _ (List.mem_cons_of_mem _ (List.mem_cons_self ..)))
  have hl : r.length ≤ 1000 := hp _ (List.mem_cons_of_mem _ (List.mem_cons_of_mem _ (List.mem_cons_of_mem _ (List.mem_cons_self ..))))
  clear hp
  conv => whnf
  refine loop_rule (S22ga r cg pl ho mo) (fun i => ((r.length : Int) - i).toNat) (fun i => 0 ≤ i ∧ i ≤ (r.length : Int) ∧ allG (fun i => okRu (gR r i)) i.toNat = true) ?_ 0 (by kernel_rfl) ?_ ⟨by omega, by omega, rfl⟩
  case refine_2 => rfl
  rintro i ⟨i0, i1, i2⟩
  conv => whnf
  refine cond_intro (fun hi => ?_) (fun hi => ?_)
  · have hi : i < (r.length : Int) := @of_decide_eq_true _ _ hi
    have wi : IntKind.i64.wrap (i + 1) = i + 1 := wrap_eq (by omega) (by omega)
    have ei : (i + 1).toNat = i.toNat + 1 := by omega
    conv => whnf
    refine ⟨i0, ?_⟩
    conv => whnf
    refine ⟨hi, ?_⟩
    conv => whnf
    refine ⟨hn _, ?_⟩
    conv => whnf
    refine cond_intro (fun t0 => ?_) (fun t0 => ?_)
    · have t0 : (!(namedB (gR r i.toNat).1)) = true := t0
      have t0 : (namedB (gR r i.toNat).1) = false := by cases e : (namedB (gR r i.toNat).1) with | false => rfl | true => exact absurd t0 (by rw [e]; decide)
      conv => whnf
      repeat (first | (refine cond_intro (fun h => absurd h (by decide)) (fun h => ?_); conv => whnf) | (refine cond_intro (fun h => ?_) (fun h => absurd h (by decide)); conv => whnf))
      conv => whnf
      show (1 : Int) = valW r (wordsR (cg, pl, ho, mo))
      exact (valW_ok1 (i := i.toNat) (by omega) (by unfold okRu; rw [t0]; rfl)).symm
    have t0 : (!(namedB (gR r i.toNat).1)) = false := t0
    have t0 : (namedB (gR r i.toNat).1) = true := by cases e : (namedB (gR r i.toNat).1) with | true => rfl | false => exact absurd t0 (by rw [e]; decide)
    conv => whnf
    repeat (first | (refine cond_intro (fun h => absurd h (by decide)) (fun h => ?_); conv => whnf) | (refine cond_intro (fun h => ?_) (fun h => absurd h (by decide)); conv => whnf))
    conv => whnf
    refine cond_intro (fun t1 => ?_) (fun t1 => ?_)
    · have t1 : (gR r i.toNat).2.1 < 0 := @of_decide_eq_true _ _ t1
      conv => whnf
      repeat (first | (refine cond_intro (fun h => absurd h (by decide)) (fun h => ?_); conv => whnf) | (refine cond_intro (fun h => ?_) (fun h => absurd h (by decide)); conv => whnf))
      conv => whnf
      show (1 : Int) = valW r (wordsR (cg, pl, ho, mo))
      exact (valW_ok1 (i := i.toNat) (by omega) (by unfold okRu; rw [in_lo (by omega), Bool.and_false])).symm
    have t1 : ¬ ((gR r i.toNat).2.1 < 0) := @of_decide_eq_false _ _ t1
    conv => whnf
    repeat (first | (refine cond_intro (fun h => absurd h (by decide)) (fun h => ?_); conv => whnf) | (refine cond_intro (fun h => ?_) (fun h => absurd h (by decide)); conv => whnf))
    conv => whnf
    refine cond_intro (fun t2 => ?_) (fun t2 => ?_)
    · have t2 : 4 < (gR r i.toNat).2.1 := @of_decide_eq_true _ _ t2
      conv => whnf
      repeat (first | (refine cond_intro (fun h => absurd h (by decide)) (fun h => ?_); conv => whnf) | (refine cond_intro (fun h => ?_) (fun h => absurd h (by decide)); conv => whnf))
      conv => whnf
      show (1 : Int) = valW r (wordsR (cg, pl, ho, mo))
      exact (valW_ok1 (i := i.toNat) (by omega) (by unfold okRu; rw [in_hi (by omega), Bool.and_false])).symm
    have t2 : ¬ (4 < (gR r i.toNat).2.1) := @of_decide_eq_false _ _ t2
    conv => whnf
    repeat (first | (refine cond_intro (fun h => absurd h (by decide)) (fun h => ?_); conv => whnf) | (refine cond_intro (fun h => ?_) (fun h => absurd h (by decide)); conv => whnf))
    conv => whnf
    refine ⟨i + 1, ?_, ⟨by omega, by omega, ?_⟩, by omega⟩
    · exact Eq.trans (b := S22ga r cg pl ho mo (IntKind.i64.wrap (i + 1))) rfl (by rw [wi])
    · rw [ei]; exact allG_succ i2 (by show okRu (gR r i.toNat) = true; unfold okRu; rw [t0, in_ok (by omega) (by omega)]; rfl)
  have hi : ¬ (i < (r.length : Int)) := @of_decide_eq_false _ _ hi
  rw [show i.toNat = r.length by omega] at i2
  have hok : okRs r = true := i2
  clear i2
  conv => whnf
  refine ⟨hx, ?_⟩
  conv => whnf
  refine ⟨show (wordsR (cg, pl, ho, mo)).length ≤ 140737488351232 by rw [words_len]; obtain ⟨l1, l2, l3, l4⟩ := hx; omega, ?_⟩
  conv => whnf
  refine cond_intro (fun cw => ?_) (fun cw => ?_)
  · have cw : (!(wdsB (wordsR (cg, pl, ho, mo)))) = true := cw
    have cw : (wdsB (wordsR (cg, pl, ho, mo))) = false := by cases e : (wdsB (wordsR (cg, pl, ho, mo))) with | false => rfl | true => exact absurd cw (by rw [e]; decide)
    conv => whnf
    show (1 : Int) = valW r (wordsR (cg, pl, ho, mo))
    exact (valW_wf hok cw).symm
  have cw : (!(wdsB (wordsR (cg, pl, ho, mo)))) = false := cw
  have cw : (wdsB (wordsR (cg, pl, ho, mo))) = true := by cases e : (wdsB (wordsR (cg, pl, ho, mo))) with | true => rfl | false => exact absurd cw (by rw [e]; decide)
  have hwd := cw
  conv => whnf
  refine loop_rule (S22gb r cg pl ho mo) (fun i => ((r.length : Int) - i).toNat) (fun i => 0 ≤ i ∧ i ≤ (r.length : Int) ∧ allG (fun i => soundB r i (gR r i).2.1 (gR r i).2.2) i.toNat = true) ?_ 0 (by kernel_rfl) ?_ ⟨by omega, by omega, rfl⟩
  case refine_2 => rfl
  rintro i ⟨i0, i1, i2⟩
  conv => whnf
  refine cond_intro (fun hi => ?_) (fun hi => ?_)
  · have hi : i < (r.length : Int) := @of_decide_eq_true _ _ hi
    have wi : IntKind.i64.wrap (i + 1) = i + 1 := wrap_eq (by omega) (by omega)
    have ei : (i + 1).toNat = i.toNat + 1 := by omega
    have eii : ((i.toNat : Nat) : Int) = i := by omega
    conv => whnf
    refine ⟨i0, ?_⟩
    conv => whnf
    refine ⟨hi, ?_⟩
    conv => whnf
    refine ⟨okRs_args hok, ?_⟩
    conv => whnf
    refine ⟨i0, ?_⟩
    conv => whnf
    refine ⟨show i ≤ (r.length : Int) by omega, ?_⟩
    conv => whnf
    refine ⟨bodyOk_at hb _, ?_⟩
    conv => whnf
    refine cond_intro (fun c => ?_) (fun c => ?_)
    · have c : (!(soundB r i (gR r i.toNat).2.1 (gR r i.toNat).2.2)) = true := c
      have c : (soundB r i (gR r i.toNat).2.1 (gR r i.toNat).2.2) = false := by cases e : (soundB r i (gR r i.toNat).2.1 (gR r i.toNat).2.2) with | false => rfl | true => exact absurd c (by rw [e]; decide)
      rw [← eii] at c
      conv => whnf
      show (15 : Int) = valW r (wordsR (cg, pl, ho, mo))
      exact (valW_snd hok hwd (i := i.toNat) (by omega) c).symm
    have c : (!(soundB r i (gR r i.toNat).2.1 (gR r i.toNat).2.2)) = false := c
    have c : (soundB r i (gR r i.toNat).2.1 (gR r i.toNat).2.2) = true := by cases e : (soundB r i (gR r i.toNat).2.1 (gR r i.toNat).2.2) with | true => rfl | false => exact absurd c (by rw [e]; decide)
    rw [← eii] at c
    conv => whnf
    refine ⟨i + 1, ?_, ⟨by omega, by omega, ?_⟩, by omega⟩
    · exact Eq.trans (b := S22gb r cg pl ho mo (IntKind.i64.wrap (i + 1))) rfl (by rw [wi])
    · rw [ei]; exact allG_succ i2 (c)
  have hi : ¬ (i < (r.length : Int)) := @of_decide_eq_false _ _ hi
  rw [show i.toNat = r.length by omega] at i2
  have hsn : sndRs r = true := i2
  clear i2
  conv => whnf
  refine loop_rule (S22gc r cg pl ho mo) (fun i => ((r.length : Int) - i).toNat) (fun i => 0 ≤ i ∧ i ≤ (r.length : Int) ∧ allG (fun i => freshG (fun i => (gR r i).1) i i) i.toNat = true) ?_ 0 (by kernel_rfl) ?_ ⟨by omega, by omega, rfl⟩
  case refine_2 => rfl
  rintro i ⟨i0, i1, i2⟩
  conv => whnf
  refine cond_intro (fun hi => ?_) (fun hi => ?_)
  · have hi : i < (r.length : Int) := @of_decide_eq_true _ _ hi
    have wi : IntKind.i64.wrap (i + 1) = i + 1 := wrap_eq (by omega) (by omega)
    have ei : (i + 1).toNat = i.toNat + 1 := by omega
    conv => whnf
    refine ⟨i0, ?_⟩
    conv => whnf
    refine ⟨hi, ?_⟩
    conv => whnf
    refine ⟨i0, ?_⟩
    conv => whnf
    refine ⟨show i ≤ (r.length : Int) by omega, ?_⟩
    conv => whnf
    refine ⟨show (r.take i.toNat).length ≤ 140737488351232 by rw [List.length_take]; omega, ?_⟩
    conv => whnf
    refine cond_intro (fun c => ?_) (fun c => ?_)
    · have c : (!(noneG (r.take i.toNat) (gR r i.toNat).1)) = true := c
      have c : (noneG (r.take i.toNat) (gR r i.toNat).1) = false := by cases e : (noneG (r.take i.toNat) (gR r i.toNat).1) with | false => rfl | true => exact absurd c (by rw [e]; decide)
      rw [fresh_take (by omega)] at c
      conv => whnf
      show (3 : Int) = valW r (wordsR (cg, pl, ho, mo))
      exact (valW_fr hok hwd hsn (i := i.toNat) (by omega) c).symm
    have c : (!(noneG (r.take i.toNat) (gR r i.toNat).1)) = false := c
    have c : (noneG (r.take i.toNat) (gR r i.toNat).1) = true := by cases e : (noneG (r.take i.toNat) (gR r i.toNat).1) with | true => rfl | false => exact absurd c (by rw [e]; decide)
    rw [fresh_take (by omega)] at c
    conv => whnf
    refine ⟨i + 1, ?_, ⟨by omega, by omega, ?_⟩, by omega⟩
    · exact Eq.trans (b := S22gc r cg pl ho mo (IntKind.i64.wrap (i + 1))) rfl (by rw [wi])
    · rw [ei]; exact allG_succ i2 (c)
  have hi : ¬ (i < (r.length : Int)) := @of_decide_eq_false _ _ hi
  rw [show i.toNat = r.length by omega] at i2
  conv => whnf
  show (0 : Int) = valW r (wordsR (cg, pl, ho, mo))
  exact (valW_0 hok hwd hsn i2).symm
open Go.RowKit
def mkJ (l : List Op2) : Nat → List Int
  | 0 => []
  | n + 1 => mkJ l n ++ [(gO l n).1]
def usedJ (pl : List Pl) : Nat → List Int
  | 0 => []
  | n + 1 => (usedJ pl n ++ (gP pl n).2.1) ++ mkJ (gP pl n).2.2 (gP pl n).2.2.length
def caM (m : Mo) : Int := m.2.2.2.2.2.2.1
def cgoM (mo : List Mo) : Nat → List Int
  | 0 => []
  | n + 1 => cgoM mo n ++ [caM (gM mo n)]
def ltAll (n : Int) (l : List Int) : Bool := l.all (fun v => decide (v < n))
def usedL (x : Co4) : List Int := usedJ x.2.1 x.2.1.length ++ cgoM x.2.2.2 x.2.2.2.length
def usedR (x : Co4) : Int := if ltAll (x.1.length : Int) (usedL x) = true then 0 else 2
theorem used_bad {x : Co4} {v : Int} (h : v ∈ usedL x) (e : ¬ v < (x.1.length : Int)) : usedR x = 2 := by
  unfold usedR; rw [if_neg]
  intro q
  exact e (of_decide_eq_true (List.all_eq_true.1 q v h))
theorem used_ok {x : Co4} (h : ∀ v ∈ usedL x, v < (x.1.length : Int)) : usedR x = 0 := by
  unfold usedR; rw [if_pos (show ltAll _ _ = true from List.all_eq_true.2 fun v hv => decide_eq_true (h v hv))]
theorem mem_mkJ {l : List Op2} {k : Nat} : ∀ {n : Nat}, k < n → (gO l k).1 ∈ mkJ l n
  | 0, h => by omega
  | n + 1, h => by
    unfold mkJ
    by_cases e : k = n
    · subst e; exact List.mem_append_right _ (List.mem_cons_self ..)
    · exact List.mem_append_left _ (mem_mkJ (by omega))
theorem of_mkJ {l : List Op2} {v : Int} : ∀ {n : Nat}, v ∈ mkJ l n → ∃ k, k < n ∧ (gO l k).1 = v
  | 0, h => by cases h
  | n + 1, h => by
    unfold mkJ at h
    rcases List.mem_append.1 h with h | h
    · obtain ⟨k, h1, h2⟩ := of_mkJ h; exact ⟨k, by omega, h2⟩
    · exact ⟨n, by omega, (List.mem_singleton.1 h).symm⟩
theorem mem_used {pl : List Pl} {i : Nat} {v : Int} (hv : v ∈ (gP pl i).2.1 ∨ v ∈ mkJ (gP pl i).2.2 (gP pl i).2.2.length) : ∀ {n : Nat}, i < n → v ∈ usedJ pl n
  | 0, h => by omega
  | n + 1, h => by
    unfold usedJ
    by_cases e : i = n
    · subst e
      rcases hv with hv | hv
      · exact List.mem_append_left _ (List.mem_append_right _ hv)
      · exact List.mem_append_right _ hv
    · exact List.mem_append_left _ (List.mem_append_left _ (mem_used hv (by omega)))
theorem mem_cgo {mo : List Mo} {k : Nat} : ∀ {n : Nat}, k < n → caM (gM mo k) ∈ cgoM mo n
  | 0, h => by omega
  | n + 1, h => by
    unfold cgoM
    by_cases e : k = n
    · subst e; exact List.mem_append_right _ (List.mem_cons_self ..)
    · exact List.mem_append_left _ (mem_cgo (by omega))
theorem of_cgo {mo : List Mo} {v : Int} : ∀ {n : Nat}, v ∈ cgoM mo n → ∃ k, k < n ∧ caM (gM mo k) = v
  | 0, h => by cases h
  | n + 1, h => by
    unfold cgoM at h
    rcases List.mem_append.1 h with h | h
    · obtain ⟨k, h1, h2⟩ := of_cgo h; exact ⟨k, by omega, h2⟩
    · exact ⟨n, by omega, (List.mem_singleton.1 h).symm⟩
theorem gI_in {l : List Int} {k : Nat} (h : k < l.length) : gI l k ∈ l := by rw [gI_eq h]; exact List.getElem_mem h
theorem of_in {l : List Int} {v : Int} (h : v ∈ l) : ∃ k, k < l.length ∧ gI l k = v := by
  obtain ⟨k, hk, e⟩ := List.getElem_of_mem h
  exact ⟨k, hk, by rw [gI_eq hk]; exact e⟩
def tkOk (pl : List Pl) : Prop := ∀ i, (gP pl i).2.1.length ≤ 1000 ∧ (gP pl i).2.2.length ≤ 1000
def bxCo : Option Ob → Option coT.D
  | some (.box [a, b, c, d, e]) => (match slA ruT a, slA cgT b, slA plT c, slA cgT d, slA moT e with
    | some a, some b, some c, some d, some e => some (a, b, c, d, e)
    | _, _, _, _, _ => none)
  | _ => none
theorem bxCo_some {o : Option Ob} {x : Co} (h : bxCo o = some x) : o = some (.box [.sl ruT x.1, .sl cgT x.2.1, .sl plT x.2.2.1, .sl cgT x.2.2.2.1, .sl moT x.2.2.2.2]) := by
  unfold bxCo at h
  split at h
  · split at h
    · rename_i e1 e2 e3 e4 e5
      cases h
      rw [slA_some e1, slA_some e2, slA_some e3, slA_some e4, slA_some e5]
    · cases h
  · cases h
def X63 (args : List AV) (base : Nat) : Rd Res :=
  match args with
  | [.int .i64 n, p] => (match ptr0 p with
    | some h => .get h fun o => (match bxCo o with
      | some c => .ok ⟨[], .bool (decide (n < (c.2.1.length : Int))), []⟩
      | none => .bad)
    | none => .bad)
  | _ => .bad
theorem k63 : FxOk Go.Proofs.Tryz.prog 63 X63 := by
  refine fx_look (E := noE) (TOk.of tab_told) (fun f k h => by cases h) mix (f := 63) Go.Proofs.Tryz.func63 rfl rfl (by kernel_rfl) ?_
  intro args base H r hr hp
  unfold X63 at hr
  split at hr
  rotate_left
  · cases hr
  split at hr
  rotate_left
  · cases hr

  rename_i n p _ h e2
  have hr : (match bxCo (H h) with
      | some c => .ok ⟨[], .bool (decide (n < (c.2.1.length : Int))), []⟩
      | none => .bad : Rd Res).run H = some r := hr
  split at hr
  rotate_left
  · cases hr
  rename_i c e4
  cases hr
  cases ptr0_some e2
  have e4 := bxCo_some e4
  clear hp e2
  refine ⟨⟨⟨.bool, .one .bool, fun _ => [], fun _ => decide (n < (c.2.1.length : Int))⟩, false, [.int .i64 n, .eptr coT c 0], .cons (.one (.same _ rfl)) (.cons (.one (.box h coT c _ e4 rfl)) .nil), rfl, rfl, by show base ≤ base + 8; omega, rfl, rfl, rfl, ?_⟩⟩
  conv => whnf
  rfl
def S27a (r : List Ru) (cg : List Cg) (pl : List Pl) (ho : List Cg) (mo : List Mo) (i : Int) : SL := ⟨[.undef, .ptr 0 0 0, .undef, .fn 63 [.ptr 0 0 0], .undef, .undef, .undef, .undef, .undef, .undef, .undef, .undef, .undef, .undef, .sl plT pl, .int .i64 pl.length, .int .i64 i, .undef, .undef, .undef, .undef, .undef, .undef, .undef, .undef, .undef, .undef, .undef, .undef, .undef, .undef, .undef, .undef, .undef, .undef, .undef, .undef, .undef, .undef, .undef, .undef, .undef, .undef, .undef, .undef, .undef, .undef, .undef, .undef, .undef, .undef, .undef, .undef, .undef, .undef, .undef, .undef, .undef, .undef], [(0, .box [.sl ruT r, .sl cgT cg, .sl plT pl, .sl cgT ho, .sl moT mo])], 1⟩
def S27b (r : List Ru) (cg : List Cg) (pl : List Pl) (ho : List Cg) (mo : List Mo) (p : Pl) (i k : Int) : SL := ⟨[.undef, .ptr 0 0 0, .undef, .fn 63 [.ptr 0 0 0], .undef, .ptr 1 0 0, .undef, .undef, .undef, .undef, .undef, .undef, .undef, .undef, .sl plT pl, .int .i64 pl.length, .int .i64 i, .undef, .undef, .undef, .undef, .sl I p.2.1, .int .i64 p.2.1.length, .int .i64 k, .undef, .undef, .undef, .undef, .undef, .undef, .undef, .undef, .undef, .undef, .undef, .undef, .undef, .undef, .undef, .undef, .undef, .undef, .undef, .undef, .undef, .undef, .undef, .undef, .undef, .undef, .undef, .undef, .undef, .undef, .undef, .undef, .undef, .undef, .undef], [(0, .box [.sl ruT r, .sl cgT cg, .sl plT pl, .sl cgT ho, .sl moT mo]), (1, .box [.str p.1, .sl I p.2.1, .sl opT p.2.2])], 2⟩
def S27c (r : List Ru) (cg : List Cg) (pl : List Pl) (ho : List Cg) (mo : List Mo) (p : Pl) (i k : Int) : SL := ⟨[.undef, .ptr 0 0 0, .undef, .fn 63 [.ptr 0 0 0], .undef, .undef, .undef, .undef, .undef, .undef, .undef, .undef, .undef, .undef, .sl plT pl, .int .i64 pl.length, .int .i64 i, .undef, .undef, .undef, .undef, .undef, .undef, .undef, .undef, .undef, .undef, .undef, .undef, .undef, .undef, .undef, .undef, .sl opT p.2.2, .int .i64 p.2.2.length, .int .i64 k, .undef, .undef, .undef, .undef, .undef, .undef, .undef, .undef, .undef, .undef, .undef, .undef, .undef, .undef, .undef, .undef, .undef, .undef, .undef, .undef, .undef, .undef, .undef], [(0, .box [.sl ruT r, .sl cgT cg, .sl plT pl, .sl cgT ho, .sl moT mo])], 1⟩
def S27d (r : List Ru) (cg : List Cg) (pl : List Pl) (ho : List Cg) (mo : List Mo) (i : Int) : SL := ⟨[.undef, .undef, .undef, .fn 63 [.ptr 0 0 0], .undef, .undef, .undef, .undef, .undef, .undef, .undef, .undef, .undef, .undef, .undef, .undef, .undef, .undef, .undef, .undef, .undef, .undef, .undef, .undef, .undef, .undef, .undef, .undef, .undef, .undef, .undef, .undef, .undef, .undef, .undef, .undef, .undef, .undef, .undef, .undef, .undef, .undef, .undef, .undef, .undef, .undef, .undef, .sl moT mo, .int .i64 mo.length, .int .i64 i, .undef, .undef, .undef, .undef, .undef, .undef, .undef, .undef, .undef], [(0, .box [.sl ruT r, .sl cgT cg, .sl plT pl, .sl cgT ho, .sl moT mo])], 1⟩
def E27g : Env := ⟨tab, [(63, .eff X63)], fun n => match n with | 3 => some ([1, 3, 14, 15, 16], [], []) | 6 => some ([1, 3, 5, 14, 15, 16, 21, 22, 23], [], []) | 12 => some ([1, 3, 14, 15, 16, 33, 34, 35], [], []) | 19 => some ([3, 47, 48, 49], [], []) | _ => none⟩
def K27g : Fn1 := ⟨.one coT, .one I, fun (c : Co) => [tkOk c.2.2.1, len4 c.2], fun (c : Co) => usedR c.2⟩
set_option maxHeartbeats 1000000 in
theorem k27g : FnOk Go.Proofs.Tryz.prog 27 K27g := by
  refine fn_ok (E := E27g) (TOk.of tab_told) (AllOk.consX k63 .nil).at_ mix Go.Proofs.Tryz.func27 rfl rfl (by kernel_rfl) K27g ?_
  rintro ⟨(r : List Ru), (cg : List Cg), (pl : List Pl), (ho : List Cg), (mo : List Mo)⟩ hp
  have ht : tkOk pl := hp _ (List.mem_cons_self ..)
  have hx : len4 (cg, pl, ho, mo) := hp _ (List.mem_cons_of_mem _ (List.mem_cons_self ..))
  clear hp
  obtain ⟨l1, l2, l3, l4⟩ := hx
  have l1 : cg.length ≤ 1000 := l1
  have l2 : pl.length ≤ 1000 := l2
  have l4 : mo.length ≤ 1000 := l4
  conv => whnf
  refine loop_rule (S27a r cg pl ho mo) (fun i => ((pl.length : Int) - i).toNat) (fun i => 0 ≤ i ∧ i ≤ (pl.length : Int) ∧ ∀ v ∈ usedJ pl i.toNat, v < (cg.length : Int)) ?_ 0 (by kernel_rfl) ?_ ⟨by omega, by omega, fun v hv => by cases hv⟩
  case refine_2 => rfl
  rintro i ⟨i0, i1, i2⟩
  have hto := ht i.toNat
  conv => whnf
  refine cond_intro (fun hi => ?_) (fun hi => ?_)
  · have hi : i < (pl.length : Int) := @of_decide_eq_true _ _ hi
    have wi : IntKind.i64.wrap (i + 1) = i + 1 := wrap_eq (by omega) (by omega)
    have ei : (i + 1).toNat = i.toNat + 1 := by omega
    conv => whnf
    refine ⟨i0, ?_⟩
    conv => whnf
    refine ⟨hi, ?_⟩
    conv => whnf
    refine loop_rule (S27b r cg pl ho mo (gP pl i.toNat) i) (fun k => (((gP pl i.toNat).2.1.length : Int) - k).toNat) (fun k => 0 ≤ k ∧ k ≤ ((gP pl i.toNat).2.1.length : Int) ∧ ∀ q, q < k.toNat → gI (gP pl i.toNat).2.1 q < (cg.length : Int)) ?_ 0 (by kernel_rfl) ?_ ⟨by omega, by omega, fun q hq => by omega⟩
    case refine_2 => rfl
    rintro k ⟨k0, k1, k2⟩
    conv => whnf
    refine cond_intro (fun hk => ?_) (fun hk => ?_)
    · have hk : k < ((gP pl i.toNat).2.1.length : Int) := @of_decide_eq_true _ _ hk
      have wk : IntKind.i64.wrap (k + 1) = k + 1 := wrap_eq (by omega) (by omega)
      have ek : (k + 1).toNat = k.toNat + 1 := by omega
      conv => whnf
      refine ⟨k0, ?_⟩
      conv => whnf
      refine ⟨hk, ?_⟩
      conv => whnf
      refine cond_intro (fun c => ?_) (fun c => ?_)
      · have c : (!decide (gI (gP pl i.toNat).2.1 k.toNat < (cg.length : Int))) = true := c
        have c : ¬ (gI (gP pl i.toNat).2.1 k.toNat < (cg.length : Int)) := fun e => absurd c (by rw [decide_eq_true e]; decide)
        have hm : gI (gP pl i.toNat).2.1 k.toNat ∈ usedJ pl pl.length := mem_used (i := i.toNat) (Or.inl (gI_in (k := k.toNat) (by omega))) (by omega)
        conv => whnf
        show (2 : Int) = usedR (cg, pl, ho, mo)
        exact (used_bad (x := (cg, pl, ho, mo)) (List.mem_append_left _ hm) c).symm
      have c : (!decide (gI (gP pl i.toNat).2.1 k.toNat < (cg.length : Int))) = false := c
      have c : gI (gP pl i.toNat).2.1 k.toNat < (cg.length : Int) := Decidable.byContradiction fun e => absurd c (by rw [decide_eq_false e]; decide)
      conv => whnf
      refine ⟨k + 1, ?_, ⟨by omega, by omega, fun q hq => ?_⟩, by omega⟩
      · exact Eq.trans (b := S27b r cg pl ho mo (gP pl i.toNat) i (IntKind.i64.wrap (k + 1))) rfl (by rw [wk])
      · by_cases e : q = k.toNat
        · rw [e]; exact c
        · exact k2 q (by omega)
    have hk : ¬ (k < ((gP pl i.toNat).2.1.length : Int)) := @of_decide_eq_false _ _ hk
    rw [show k.toNat = (gP pl i.toNat).2.1.length by omega] at k2
    have htk := k2
    clear k2 k0 k1
    conv => whnf
    refine loop_rule (S27c r cg pl ho mo (gP pl i.toNat) i) (fun k => (((gP pl i.toNat).2.2.length : Int) - k).toNat) (fun k => 0 ≤ k ∧ k ≤ ((gP pl i.toNat).2.2.length : Int) ∧ ∀ q, q < k.toNat → (gO (gP pl i.toNat).2.2 q).1 < (cg.length : Int)) ?_ 0 (by kernel_rfl) ?_ ⟨by omega, by omega, fun q hq => by omega⟩
    case refine_2 => rfl
    rintro k ⟨k0, k1, k2⟩
    conv => whnf
    refine cond_intro (fun hk => ?_) (fun hk => ?_)
    · have hk : k < ((gP pl i.toNat).2.2.length : Int) := @of_decide_eq_true _ _ hk
      have wk : IntKind.i64.wrap (k + 1) = k + 1 := wrap_eq (by omega) (by omega)
      have ek : (k + 1).toNat = k.toNat + 1 := by omega
      conv => whnf
      refine ⟨k0, ?_⟩
      conv => whnf
      refine ⟨hk, ?_⟩
      conv => whnf
      refine cond_intro (fun c => ?_) (fun c => ?_)
      · have c : (!decide ((gO (gP pl i.toNat).2.2 k.toNat).1 < (cg.length : Int))) = true := c
        have c : ¬ ((gO (gP pl i.toNat).2.2 k.toNat).1 < (cg.length : Int)) := fun e => absurd c (by rw [decide_eq_true e]; decide)
        have hm : (gO (gP pl i.toNat).2.2 k.toNat).1 ∈ usedJ pl pl.length := mem_used (i := i.toNat) (Or.inr (mem_mkJ (k := k.toNat) (by omega))) (by omega)
        conv => whnf
        show (2 : Int) = usedR (cg, pl, ho, mo)
        exact (used_bad (x := (cg, pl, ho, mo)) (List.mem_append_left _ hm) c).symm
      have c : (!decide ((gO (gP pl i.toNat).2.2 k.toNat).1 < (cg.length : Int))) = false := c
      have c : (gO (gP pl i.toNat).2.2 k.toNat).1 < (cg.length : Int) := Decidable.byContradiction fun e => absurd c (by rw [decide_eq_false e]; decide)
      conv => whnf
      refine ⟨k + 1, ?_, ⟨by omega, by omega, fun q hq => ?_⟩, by omega⟩
      · exact Eq.trans (b := S27c r cg pl ho mo (gP pl i.toNat) i (IntKind.i64.wrap (k + 1))) rfl (by rw [wk])
      · by_cases e : q = k.toNat
        · rw [e]; exact c
        · exact k2 q (by omega)
    have hk : ¬ (k < ((gP pl i.toNat).2.2.length : Int)) := @of_decide_eq_false _ _ hk
    rw [show k.toNat = (gP pl i.toNat).2.2.length by omega] at k2
    conv => whnf
    refine ⟨i + 1, ?_, ⟨by omega, by omega, fun v hv => ?_⟩, by omega⟩
    · exact Eq.trans (b := S27a r cg pl ho mo (IntKind.i64.wrap (i + 1))) rfl (by rw [wi])
    · rw [ei] at hv; unfold usedJ at hv
      rcases List.mem_append.1 hv with hv | hv
      · rcases List.mem_append.1 hv with hv | hv
        · exact i2 v hv
        · obtain ⟨q, q1, q2⟩ := of_in hv; rw [← q2]; exact htk q q1
      · obtain ⟨q, q1, q2⟩ := of_mkJ hv; rw [← q2]; exact k2 q q1
  have hi : ¬ (i < (pl.length : Int)) := @of_decide_eq_false _ _ hi
  rw [show i.toNat = pl.length by omega] at i2
  have hpl := i2
  clear i2 hto
  conv => whnf
  refine loop_rule (S27d r cg pl ho mo) (fun i => ((mo.length : Int) - i).toNat) (fun i => 0 ≤ i ∧ i ≤ (mo.length : Int) ∧ ∀ q, q < i.toNat → caM (gM mo q) < (cg.length : Int)) ?_ 0 (by kernel_rfl) ?_ ⟨by omega, by omega, fun q hq => by omega⟩
  case refine_2 => rfl
  rintro i ⟨i0, i1, i2⟩
  conv => whnf
  refine cond_intro (fun hi => ?_) (fun hi => ?_)
  · have hi : i < (mo.length : Int) := @of_decide_eq_true _ _ hi
    have wi : IntKind.i64.wrap (i + 1) = i + 1 := wrap_eq (by omega) (by omega)
    have ei : (i + 1).toNat = i.toNat + 1 := by omega
    conv => whnf
    refine ⟨i0, ?_⟩
    conv => whnf
    refine ⟨hi, ?_⟩
    conv => whnf
    refine cond_intro (fun c => ?_) (fun c => ?_)
    · have c : (!decide (caM (gM mo i.toNat) < (cg.length : Int))) = true := c
      have c : ¬ (caM (gM mo i.toNat) < (cg.length : Int)) := fun e => absurd c (by rw [decide_eq_true e]; decide)
      conv => whnf
      show (2 : Int) = usedR (cg, pl, ho, mo)
      exact (used_bad (x := (cg, pl, ho, mo)) (List.mem_append_right _ (mem_cgo (k := i.toNat) (by show i.toNat < mo.length; omega))) c).symm
    have c : (!decide (caM (gM mo i.toNat) < (cg.length : Int))) = false := c
    have c : caM (gM mo i.toNat) < (cg.length : Int) := Decidable.byContradiction fun e => absurd c (by rw [decide_eq_false e]; decide)
    conv => whnf
    refine ⟨i + 1, ?_, ⟨by omega, by omega, fun q hq => ?_⟩, by omega⟩
    · exact Eq.trans (b := S27d r cg pl ho mo (IntKind.i64.wrap (i + 1))) rfl (by rw [wi])
    · by_cases e : q = i.toNat
      · rw [e]; exact c
      · exact i2 q (by omega)
  have hi : ¬ (i < (mo.length : Int)) := @of_decide_eq_false _ _ hi
  rw [show i.toNat = mo.length by omega] at i2
  conv => whnf
  show (0 : Int) = usedR (cg, pl, ho, mo)
  refine (used_ok (x := (cg, pl, ho, mo)) fun v hv => ?_).symm
  rcases List.mem_append.1 hv with hv | hv
  · exact hpl v hv
  · obtain ⟨q, q1, q2⟩ := of_cgo hv; rw [← q2]; exact i2 q q1
end
end Go.Proofs.YtaafjaibaaiigaaGreatDoor.Eng
set_option linter.unusedVariables false
set_option linter.unusedSimpArgs false
namespace Go.Proofs.YtaafjaibaaiigaaGreatDoor.Eng
open Go
set_option maxRecDepth 100000
noncomputable section
def orL : List Int → Int
  | [] => 0
  | a :: l => if a = 0 then orL l else a
theorem orL_cases : ∀ l : List Int, (orL l = 0 ∧ ∀ k, k < l.length → gI l k = 0) ∨ (∃ i, i < l.length ∧ (∀ k, k < i → gI l k = 0) ∧ ¬ gI l i = 0 ∧ orL l = gI l i)
  | [] => Or.inl ⟨rfl, fun k hk => by cases hk⟩
  | a :: l => by
    by_cases h : a = 0
    · have e : orL (a :: l) = orL l := if_pos h
      rcases orL_cases l with ⟨h1, h2⟩ | ⟨i, h1, h2, h3, h4⟩
      · refine Or.inl ⟨by rw [e, h1], fun k hk => ?_⟩
        cases k with
        | zero => exact h
        | succ k => exact h2 k (by simpa using hk)
      · refine Or.inr ⟨i + 1, by simpa using h1, fun k hk => ?_, h3, by rw [e, h4]; rfl⟩
        cases k with
        | zero => exact h
        | succ k => exact h2 k (by omega)
    · exact Or.inr ⟨0, by simp, fun k hk => by omega, h, if_neg h⟩
theorem orR_orL (l : List Int) : orR l = orL l := by
  rcases orL_cases l with ⟨h1, h2⟩ | ⟨i, h1, h2, h3, h4⟩
  · rw [h1, or_0 h2]
  · rw [h4, or_at h1 h2 h3]
/-- The first error of content. -/
def valC (r : List Ru) (x : Co4) : Int := if lrgC r x = true then 4 else orL [valW r (wordsR x), cgR x.1, plR x.2.1, hoR x.2.2.1, moR x.2.2.2, usedR x]
theorem valC_big {r : List Ru} {x : Co4} (h : lrgC r x = true) : valC r x = 4 := by unfold valC; rw [if_pos h]
theorem valC_not {r : List Ru} {x : Co4} (h : lrgC r x = false) : valC r x = orL [valW r (wordsR x), cgR x.1, plR x.2.1, hoR x.2.2.1, moR x.2.2.2, usedR x] := by unfold valC; rw [if_neg (by rw [h]; decide)]
theorem valC_1 {r : List Ru} {x : Co4} (hb : bigC x = false) (h : ¬ rulesW r (wordsR x) = 0) : valC r x = rulesW r (wordsR x) := by
  cases hl : lrgR r with
  | true => rw [valC_big (lrgC_r hl), rules_big hl]
  | false => rw [rules_not hl] at h ⊢; rw [valC_not (lrgC_f hb hl)]; exact if_neg h
theorem valC_0 {r : List Ru} {x : Co4} (hb : bigC x = false) (h : rulesW r (wordsR x) = 0) : valC r x = orL [cgR x.1, plR x.2.1, hoR x.2.2.1, moR x.2.2.2, usedR x] := by
  have h0 := rules_0 h
  have hv := h
  rw [rules_not h0.1] at hv
  rw [valC_not (lrgC_f hb h0.1)]; exact if_pos hv
theorem ltAll_bad {n : Int} {l : List Int} {i : Nat} (hi : i < l.length) (e : ¬ gI l i < n) : ltAll n l = false := by
  cases q : ltAll n l with
  | false => rfl
  | true => exact absurd (of_decide_eq_true (List.all_eq_true.1 q _ (gI_in hi))) e
theorem ltAll_ok {n : Int} {l : List Int} (h : ∀ q, q < l.length → gI l q < n) : ltAll n l = true :=
  List.all_eq_true.2 fun v hv => by obtain ⟨k, hk, e⟩ := of_in hv; exact decide_eq_true (by rw [← e]; exact h k hk)
theorem mkJ_len (l : List Op2) : ∀ n, (mkJ l n).length = n
  | 0 => rfl
  | n + 1 => by rw [mkJ, List.length_append, mkJ_len l n]; rfl
theorem cgoM_len (l : List Mo) : ∀ n, (cgoM l n).length = n
  | 0 => rfl
  | n + 1 => by rw [cgoM, List.length_append, cgoM_len l n]; rfl
theorem usedJ_len {pl : List Pl} (h : tkOk pl) : ∀ n, (usedJ pl n).length ≤ n * 2000
  | 0 => Nat.zero_le _
  | n + 1 => by
    have ih := usedJ_len h n
    have := h n
    rw [usedJ, List.length_append, List.length_append, mkJ_len]
    omega
def E10g : Env := ⟨tab, [(20, K20g), (22, K22g), (23, K23), (24, K24g), (25, K25), (26, K26), (27, K27g), (21, K21)], fun n => match n with  | _ => none⟩
def K10g : Fn1 := ⟨.one coT, .one I, fun (c : Co) => [nmR c.1, bodyOk c.1, c.1.length ≤ 1000, len4 c.2, tkOk c.2.2.1, nmC c.2.1, nmP c.2.2.1, nmC c.2.2.2.1, nmM c.2.2.2.2], fun (c : Co) => valC c.1 c.2⟩
set_option maxHeartbeats 1000000 in
theorem k10g : FnOk Go.Proofs.Tryz.prog 10 K10g := by
  refine fn_ok (E := E10g) (TOk.of tab_told) (AllOk.cons k20g (.cons k22g (.cons k23 (.cons k24g (.cons k25 (.cons k26 (.cons k27g (.cons k21 .nil)))))))).at_ mix Go.Proofs.Tryz.func10 rfl rfl (by kernel_rfl) K10g ?_
  rintro ⟨(r : List Ru), (cg : List Cg), (pl : List Pl), (ho : List Cg), (mo : List Mo)⟩ hp
  have hn : nmR r := hp _ (List.mem_cons_self ..)
  have hb : bodyOk r := hp _ (List.mem_cons_of_mem _ (List.mem_cons_self ..))
  have hl : r.length ≤ 1000 := hp _ (List.mem_cons_of_mem _ (List.mem_cons_of_mem _ (List.mem_cons_self ..)))
  have hx : len4 (cg, pl, ho, mo) := hp _ (List.mem_cons_of_mem _ (List.mem_cons_of_mem _ (List.mem_cons_of_mem _ (List.mem_cons_self ..))))
  have ht : tkOk pl := hp _ (List.mem_cons_of_mem _ (List.mem_cons_of_mem _ (List.mem_cons_of_mem _ (List.mem_cons_of_mem _ (List.mem_cons_self ..)))))
  have hcg : nmC cg := hp _ (List.mem_cons_of_mem _ (List.mem_cons_of_mem _ (List.mem_cons_of_mem _ (List.mem_cons_of_mem _ (List.mem_cons_of_mem _ (List.mem_cons_self ..))))))
  have hpl : nmP pl := hp _ (List.mem_cons_of_mem _ (List.mem_cons_of_mem _ (List.mem_cons_of_mem _ (List.mem_cons_of_mem _ (List.mem_cons_of_mem _ (List.mem_cons_of_mem _ (List.mem_cons_self ..)))))))
  have hho : nmC ho := hp _ (List.mem_cons_of_mem _ (List.mem_cons_of_mem _ (List.mem_cons_of_mem _ (List.mem_cons_of_mem _ (List.mem_cons_of_mem _ (List.mem_cons_of_mem _ (List.mem_cons_of_mem _ (List.mem_cons_self ..))))))))
  have hmo : nmM mo := hp _ (List.mem_cons_of_mem _ (List.mem_cons_of_mem _ (List.mem_cons_of_mem _ (List.mem_cons_of_mem _ (List.mem_cons_of_mem _ (List.mem_cons_of_mem _ (List.mem_cons_of_mem _ (List.mem_cons_of_mem _ (List.mem_cons_self ..)))))))))
  clear hp
  conv => whnf
  refine ⟨hb, ?_⟩
  conv => whnf
  refine cond_intro (fun h0 => ?_) (fun h0 => ?_)
  · have h0 : (lrgC r (cg, pl, ho, mo)) = true := h0
    conv => whnf
    show (4 : Int) = valC r (cg, pl, ho, mo)
    exact (valC_big h0).symm
  have h0 : (lrgC r (cg, pl, ho, mo)) = false := h0
  conv => whnf
  refine ⟨hx, ?_⟩
  conv => whnf
  refine ⟨hn, ?_⟩
  conv => whnf
  refine ⟨hb, ?_⟩
  conv => whnf
  refine ⟨hl, ?_⟩
  conv => whnf
  refine ⟨hcg, ?_⟩
  conv => whnf
  refine ⟨hpl, ?_⟩
  conv => whnf
  refine ⟨hho, ?_⟩
  conv => whnf
  refine ⟨hmo, ?_⟩
  conv => whnf
  refine ⟨ht, ?_⟩
  conv => whnf
  refine ⟨hx, ?_⟩
  conv => whnf
  refine ⟨(by show 6 ≤ 140737488351232; omega), ?_⟩
  conv => whnf
  show orR [valW r (wordsR (cg, pl, ho, mo)), cgR cg, plR pl, hoR ho, moR mo, usedR (cg, pl, ho, mo)] = valC r (cg, pl, ho, mo)
  rw [orR_orL, valC_not h0]
def S34 (l : List Int) (n i : Int) : SL := ⟨[.undef, .int .i64 n, .undef, .undef, .undef, .undef, .undef, .sl I l, .int .i64 l.length, .int .i64 i, .undef, .undef, .undef, .undef, .undef, .undef, .undef], [], 0⟩
def E34 : Env := ⟨tab, [], fun n => match n with | 2 => some ([1, 7, 8, 9], [], []) | _ => none⟩
def K34 : Fn1 := ⟨.fld (.sl I) (.one I), .one .bool, fun (x : List Int × Int) => [x.1.length ≤ 140737488351232], fun (x : List Int × Int) => ltAll x.2 x.1⟩
theorem k34 : FnOk Go.Proofs.Tryz.prog 34 K34 := by
  refine fn_ok (E := E34) (TOk.of tab_told) (fun f k h => by cases h) mix Go.Proofs.Tryz.func34 rfl rfl (by kernel_rfl) K34 ?_
  rintro ⟨(l : List Int), (n : Int)⟩ hp
  have hl : l.length ≤ 140737488351232 := hp _ (List.mem_cons_self ..)
  clear hp
  conv => whnf
  refine loop_rule (S34 l n) (fun i => ((l.length : Int) - i).toNat) (fun i => 0 ≤ i ∧ i ≤ (l.length : Int) ∧ ∀ q, q < i.toNat → gI l q < n) ?_ 0 (by kernel_rfl) ?_ ⟨by omega, by omega, fun q hq => by omega⟩
  case refine_2 => rfl
  rintro i ⟨i0, i1, i2⟩
  conv => whnf
  refine cond_intro (fun hi => ?_) (fun hi => ?_)
  · have hi : i < (l.length : Int) := @of_decide_eq_true _ _ hi
    have wi : IntKind.i64.wrap (i + 1) = i + 1 := wrap_eq (by omega) (by omega)
    have ei : (i + 1).toNat = i.toNat + 1 := by omega
    conv => whnf
    refine ⟨i0, ?_⟩
    conv => whnf
    refine ⟨hi, ?_⟩
    conv => whnf
    refine cond_intro (fun c => ?_) (fun c => ?_)
    · have c : n ≤ gI l i.toNat := @of_decide_eq_true _ _ c
      conv => whnf
      show false = ltAll n l
      exact (ltAll_bad (i := i.toNat) (by omega) (by omega)).symm
    have c : ¬ (n ≤ gI l i.toNat) := @of_decide_eq_false _ _ c
    conv => whnf
    refine ⟨i + 1, ?_, ⟨by omega, by omega, fun q hq => ?_⟩, by omega⟩
    · exact Eq.trans (b := S34 l n (IntKind.i64.wrap (i + 1))) rfl (by rw [wi])
    · by_cases e : q = i.toNat
      · rw [e]; omega
      · exact i2 q (by omega)
  have hi : ¬ (i < (l.length : Int)) := @of_decide_eq_false _ _ hi
  rw [show i.toNat = l.length by omega] at i2
  conv => whnf
  show true = ltAll n l
  exact (ltAll_ok i2).symm
def Brule : ByteArray := ⟨#[114, 117, 108, 101]⟩
def Bcargo : ByteArray := ⟨#[99, 97, 114, 103, 111]⟩
def Bplant : ByteArray := ⟨#[112, 108, 97, 110, 116]⟩
def Bhouse : ByteArray := ⟨#[104, 111, 117, 115, 101]⟩
def Bmodel : ByteArray := ⟨#[109, 111, 100, 101, 108]⟩
theorem n_rule_cargo : ¬ Brule = Bcargo := by decide
theorem n_rule_plant : ¬ Brule = Bplant := by decide
theorem n_rule_house : ¬ Brule = Bhouse := by decide
theorem n_rule_model : ¬ Brule = Bmodel := by decide
theorem n_cargo_rule : ¬ Bcargo = Brule := by decide
theorem n_cargo_plant : ¬ Bcargo = Bplant := by decide
theorem n_cargo_house : ¬ Bcargo = Bhouse := by decide
theorem n_cargo_model : ¬ Bcargo = Bmodel := by decide
theorem n_plant_rule : ¬ Bplant = Brule := by decide
theorem n_plant_cargo : ¬ Bplant = Bcargo := by decide
theorem n_plant_house : ¬ Bplant = Bhouse := by decide
theorem n_plant_model : ¬ Bplant = Bmodel := by decide
theorem n_house_rule : ¬ Bhouse = Brule := by decide
theorem n_house_cargo : ¬ Bhouse = Bcargo := by decide
theorem n_house_plant : ¬ Bhouse = Bplant := by decide
theorem n_house_model : ¬ Bhouse = Bmodel := by decide
theorem n_model_rule : ¬ Bmodel = Brule := by decide
theorem n_model_cargo : ¬ Bmodel = Bcargo := by decide
theorem n_model_plant : ¬ Bmodel = Bplant := by decide
theorem n_model_house : ¬ Bmodel = Bhouse := by decide
def kindOk (s : ByteArray) : Prop := s = Bcargo ∨ s = Bplant ∨ s = Bhouse ∨ s = Bmodel
def namesK (x : Co4) (s : ByteArray) : List ByteArray := if s = Bcargo then nmsC x.1 x.1.length else if s = Bplant then nmsP x.2.1 x.2.1.length else if s = Bhouse then nmsC x.2.2.1 x.2.2.1.length else nmsM x.2.2.2 x.2.2.2.length
theorem names_cargo (x : Co4) : namesK x Bcargo = nmsC x.1 x.1.length := by unfold namesK; rw [if_pos rfl]
theorem names_plant (x : Co4) : namesK x Bplant = nmsP x.2.1 x.2.1.length := by unfold namesK; rw [if_neg n_plant_cargo, if_pos rfl]
theorem names_house (x : Co4) : namesK x Bhouse = nmsC x.2.2.1 x.2.2.1.length := by unfold namesK; rw [if_neg n_house_cargo, if_neg n_house_plant, if_pos rfl]
theorem names_model (x : Co4) : namesK x Bmodel = nmsM x.2.2.2 x.2.2.2.length := by unfold namesK; rw [if_neg n_model_cargo, if_neg n_model_plant, if_neg n_model_house]
theorem names_words (x : Co4) : ((([] ++ namesK x Bcargo) ++ namesK x Bplant) ++ namesK x Bhouse) ++ namesK x Bmodel = wordsR x := by rw [names_cargo, names_plant, names_house, names_model, List.nil_append]; rfl
def S28cargo (l : List Cg) (out : List ByteArray) (i : Int) : SL := ⟨[.undef, .undef, .undef, .undef, .undef, .own 0, .undef, .undef, .undef, .undef, .undef, .undef, .undef, .undef, .undef, .undef, .undef, .undef, .undef, .undef, .undef, .undef, .undef, .undef, .undef, .undef, .undef, .undef, .undef, .undef, .undef, .undef, .undef, .undef, .undef, .sl cgT l, .int .i64 l.length, .int .i64 i, .undef, .undef, .undef, .undef, .undef, .undef, .undef, .undef, .undef, .undef, .undef, .undef, .undef, .undef, .undef, .undef, .undef, .undef, .undef, .undef, .undef, .undef, .undef, .undef, .undef, .undef, .undef, .undef, .undef, .undef, .undef, .undef, .undef, .undef, .undef, .undef, .undef, .undef, .undef, .undef, .undef, .undef, .undef, .undef, .undef, .undef, .undef, .undef, .undef, .undef, .undef, .undef, .undef, .undef, .undef], [(0, .arr .str out)], 1⟩
def S28plant (l : List Pl) (out : List ByteArray) (i : Int) : SL := ⟨[.undef, .undef, .undef, .undef, .undef, .own 0, .undef, .undef, .undef, .undef, .undef, .undef, .undef, .undef, .undef, .undef, .undef, .undef, .undef, .undef, .undef, .undef, .undef, .undef, .undef, .undef, .undef, .undef, .undef, .undef, .undef, .undef, .undef, .undef, .undef, .undef, .undef, .undef, .undef, .undef, .undef, .undef, .undef, .undef, .undef, .undef, .undef, .undef, .undef, .undef, .sl plT l, .int .i64 l.length, .int .i64 i, .undef, .undef, .undef, .undef, .undef, .undef, .undef, .undef, .undef, .undef, .undef, .undef, .undef, .undef, .undef, .undef, .undef, .undef, .undef, .undef, .undef, .undef, .undef, .undef, .undef, .undef, .undef, .undef, .undef, .undef, .undef, .undef, .undef, .undef, .undef, .undef, .undef, .undef, .undef, .undef], [(0, .arr .str out)], 1⟩
def S28house (l : List Cg) (out : List ByteArray) (i : Int) : SL := ⟨[.undef, .undef, .undef, .undef, .undef, .own 0, .undef, .undef, .undef, .undef, .undef, .undef, .undef, .undef, .undef, .undef, .undef, .undef, .undef, .undef, .undef, .undef, .undef, .undef, .undef, .undef, .undef, .undef, .undef, .undef, .undef, .undef, .undef, .undef, .undef, .undef, .undef, .undef, .undef, .undef, .undef, .undef, .undef, .undef, .undef, .undef, .undef, .undef, .undef, .undef, .undef, .undef, .undef, .undef, .undef, .undef, .undef, .undef, .undef, .undef, .undef, .undef, .undef, .undef, .undef, .sl cgT l, .int .i64 l.length, .int .i64 i, .undef, .undef, .undef, .undef, .undef, .undef, .undef, .undef, .undef, .undef, .undef, .undef, .undef, .undef, .undef, .undef, .undef, .undef, .undef, .undef, .undef, .undef, .undef, .undef, .undef], [(0, .arr .str out)], 1⟩
def S28model (l : List Mo) (out : List ByteArray) (i : Int) : SL := ⟨[.undef, .undef, .undef, .undef, .undef, .own 0, .undef, .undef, .undef, .undef, .undef, .undef, .undef, .undef, .undef, .undef, .undef, .undef, .undef, .undef, .undef, .undef, .undef, .undef, .undef, .undef, .undef, .undef, .undef, .undef, .undef, .undef, .undef, .undef, .undef, .undef, .undef, .undef, .undef, .undef, .undef, .undef, .undef, .undef, .undef, .undef, .undef, .undef, .undef, .undef, .undef, .undef, .undef, .undef, .undef, .undef, .undef, .undef, .undef, .undef, .undef, .undef, .undef, .undef, .undef, .undef, .undef, .undef, .undef, .undef, .undef, .undef, .undef, .undef, .undef, .undef, .undef, .undef, .undef, .undef, .sl moT l, .int .i64 l.length, .int .i64 i, .undef, .undef, .undef, .undef, .undef, .undef, .undef, .undef, .undef, .undef], [(0, .arr .str out)], 1⟩
def E28 : Env := ⟨tab, [], fun n => match n with | 11 => some ([5, 35, 36, 37], [(5, .str)], []) | 17 => some ([5, 50, 51, 52], [(5, .str)], []) | 23 => some ([5, 65, 66, 67], [(5, .str)], []) | 29 => some ([5, 80, 81, 82], [(5, .str)], []) | _ => none⟩
def K28 : Fn1 := ⟨.fld coT (.one .str), .one (.sl .str), fun (x : Co × ByteArray) => [kindOk x.2, len4 x.1.2], fun (x : Co × ByteArray) => namesK x.1.2 x.2⟩
set_option maxHeartbeats 1000000 in
theorem k28 : FnOk Go.Proofs.Tryz.prog 28 K28 := by
  refine fn_ok (E := E28) (TOk.of tab_told) (fun f k h => by cases h) mix Go.Proofs.Tryz.func28 rfl rfl (by kernel_rfl) K28 ?_
  rintro ⟨⟨(r : List Ru), (cg : List Cg), (pl : List Pl), (ho : List Cg), (mo : List Mo)⟩, (s : ByteArray)⟩ hp
  have hk : kindOk s := hp _ (List.mem_cons_self ..)
  have hx : len4 (cg, pl, ho, mo) := hp _ (List.mem_cons_of_mem _ (List.mem_cons_self ..))
  clear hp
  obtain ⟨l1, l2, l3, l4⟩ := hx
  have l1 : cg.length ≤ 1000 := l1
  have l2 : pl.length ≤ 1000 := l2
  have l3 : ho.length ≤ 1000 := l3
  have l4 : mo.length ≤ 1000 := l4
  rcases hk with hs | hs | hs | hs
  · conv => whnf
    refine cond_intro (fun crule => ?_) (fun crule => ?_)
    · have crule : ((s.toList == ByteArray.toList ⟨#[114, 117, 108, 101]⟩)) = true := crule
      rw [tl_iff] at crule
      exact absurd (hs.symm.trans (of_decide_eq_true crule)) n_cargo_rule
    have crule : ((s.toList == ByteArray.toList ⟨#[114, 117, 108, 101]⟩)) = false := crule
    conv => whnf
    refine cond_intro (fun ccargo => ?_) (fun ccargo => ?_)
    · have ccargo : ((s.toList == ByteArray.toList ⟨#[99, 97, 114, 103, 111]⟩)) = true := ccargo
      conv => whnf
      refine loop_rule (fun i : Int => S28cargo cg (nmsC cg i.toNat) i) (fun i => ((cg.length : Int) - i).toNat) (fun i => 0 ≤ i ∧ i ≤ (cg.length : Int)) ?_ 0 (by kernel_rfl) ?_ ⟨by omega, by omega⟩
      case refine_2 => rfl
      rintro i ⟨i0, i1⟩
      have hlc := nmsC_len cg i.toNat
      conv => whnf
      refine cond_intro (fun hi => ?_) (fun hi => ?_)
      · have hi : i < (cg.length : Int) := @of_decide_eq_true _ _ hi
        have wi : IntKind.i64.wrap (i + 1) = i + 1 := wrap_eq (by omega) (by omega)
        have ei : (i + 1).toNat = i.toNat + 1 := by omega
        conv => whnf
        refine ⟨i0, ?_⟩
        conv => whnf
        refine ⟨hi, ?_⟩
        conv => whnf
        refine ⟨show ((nmsC cg i.toNat).length + 1) * 16 ≤ 70368744177664 by omega, ?_⟩
        conv => whnf
        refine ⟨show (nmsC cg i.toNat).length + 1 ≤ 70368744177664 by omega, ?_⟩
        conv => whnf
        refine ⟨i + 1, ?_, ⟨by omega, by omega⟩, by omega⟩
        exact Eq.trans (b := S28cargo cg ((nmsC cg i.toNat) ++ [(gC cg i.toNat).1]) (IntKind.i64.wrap (i + 1))) rfl (by rw [wi, ei]; rfl)
      have hi : ¬ (i < (cg.length : Int)) := @of_decide_eq_false _ _ hi
      rw [show i.toNat = cg.length by omega]
      conv => whnf
      show nmsC cg cg.length = namesK (cg, pl, ho, mo) s
      rw [hs, names_cargo]
    have ccargo : ((s.toList == ByteArray.toList ⟨#[99, 97, 114, 103, 111]⟩)) = false := ccargo
    rw [tl_iff] at ccargo
    exact absurd hs (of_decide_eq_false ccargo)
  · conv => whnf
    refine cond_intro (fun crule => ?_) (fun crule => ?_)
    · have crule : ((s.toList == ByteArray.toList ⟨#[114, 117, 108, 101]⟩)) = true := crule
      rw [tl_iff] at crule
      exact absurd (hs.symm.trans (of_decide_eq_true crule)) n_plant_rule
    have crule : ((s.toList == ByteArray.toList ⟨#[114, 117, 108, 101]⟩)) = false := crule
    conv => whnf
    refine cond_intro (fun ccargo => ?_) (fun ccargo => ?_)
    · have ccargo : ((s.toList == ByteArray.toList ⟨#[99, 97, 114, 103, 111]⟩)) = true := ccargo
      rw [tl_iff] at ccargo
      exact absurd (hs.symm.trans (of_decide_eq_true ccargo)) n_plant_cargo
    have ccargo : ((s.toList == ByteArray.toList ⟨#[99, 97, 114, 103, 111]⟩)) = false := ccargo
    conv => whnf
    refine cond_intro (fun cplant => ?_) (fun cplant => ?_)
    · have cplant : ((s.toList == ByteArray.toList ⟨#[112, 108, 97, 110, 116]⟩)) = true := cplant
      conv => whnf
      refine loop_rule (fun i : Int => S28plant pl (nmsP pl i.toNat) i) (fun i => ((pl.length : Int) - i).toNat) (fun i => 0 ≤ i ∧ i ≤ (pl.length : Int)) ?_ 0 (by kernel_rfl) ?_ ⟨by omega, by omega⟩
      case refine_2 => rfl
      rintro i ⟨i0, i1⟩
      have hlc := nmsP_len pl i.toNat
      conv => whnf
      refine cond_intro (fun hi => ?_) (fun hi => ?_)
      · have hi : i < (pl.length : Int) := @of_decide_eq_true _ _ hi
        have wi : IntKind.i64.wrap (i + 1) = i + 1 := wrap_eq (by omega) (by omega)
        have ei : (i + 1).toNat = i.toNat + 1 := by omega
        conv => whnf
        refine ⟨i0, ?_⟩
        conv => whnf
        refine ⟨hi, ?_⟩
        conv => whnf
        refine ⟨show ((nmsP pl i.toNat).length + 1) * 16 ≤ 70368744177664 by omega, ?_⟩
        conv => whnf
        refine ⟨show (nmsP pl i.toNat).length + 1 ≤ 70368744177664 by omega, ?_⟩
        conv => whnf
        refine ⟨i + 1, ?_, ⟨by omega, by omega⟩, by omega⟩
        exact Eq.trans (b := S28plant pl ((nmsP pl i.toNat) ++ [(gP pl i.toNat).1]) (IntKind.i64.wrap (i + 1))) rfl (by rw [wi, ei]; rfl)
      have hi : ¬ (i < (pl.length : Int)) := @of_decide_eq_false _ _ hi
      rw [show i.toNat = pl.length by omega]
      conv => whnf
      show nmsP pl pl.length = namesK (cg, pl, ho, mo) s
      rw [hs, names_plant]
    have cplant : ((s.toList == ByteArray.toList ⟨#[112, 108, 97, 110, 116]⟩)) = false := cplant
    rw [tl_iff] at cplant
    exact absurd hs (of_decide_eq_false cplant)
  · conv => whnf
    refine cond_intro (fun crule => ?_) (fun crule => ?_)
    · have crule : ((s.toList == ByteArray.toList ⟨#[114, 117, 108, 101]⟩)) = true := crule
      rw [tl_iff] at crule
      exact absurd (hs.symm.trans (of_decide_eq_true crule)) n_house_rule
    have crule : ((s.toList == ByteArray.toList ⟨#[114, 117, 108, 101]⟩)) = false := crule
    conv => whnf
    refine cond_intro (fun ccargo => ?_) (fun ccargo => ?_)
    · have ccargo : ((s.toList == ByteArray.toList ⟨#[99, 97, 114, 103, 111]⟩)) = true := ccargo
      rw [tl_iff] at ccargo
      exact absurd (hs.symm.trans (of_decide_eq_true ccargo)) n_house_cargo
    have ccargo : ((s.toList == ByteArray.toList ⟨#[99, 97, 114, 103, 111]⟩)) = false := ccargo
    conv => whnf
    refine cond_intro (fun cplant => ?_) (fun cplant => ?_)
    · have cplant : ((s.toList == ByteArray.toList ⟨#[112, 108, 97, 110, 116]⟩)) = true := cplant
      rw [tl_iff] at cplant
      exact absurd (hs.symm.trans (of_decide_eq_true cplant)) n_house_plant
    have cplant : ((s.toList == ByteArray.toList ⟨#[112, 108, 97, 110, 116]⟩)) = false := cplant
    conv => whnf
    refine cond_intro (fun chouse => ?_) (fun chouse => ?_)
    · have chouse : ((s.toList == ByteArray.toList ⟨#[104, 111, 117, 115, 101]⟩)) = true := chouse
      conv => whnf
      refine loop_rule (fun i : Int => S28house ho (nmsC ho i.toNat) i) (fun i => ((ho.length : Int) - i).toNat) (fun i => 0 ≤ i ∧ i ≤ (ho.length : Int)) ?_ 0 (by kernel_rfl) ?_ ⟨by omega, by omega⟩
      case refine_2 => rfl
      rintro i ⟨i0, i1⟩
      have hlc := nmsC_len ho i.toNat
      conv => whnf
      refine cond_intro (fun hi => ?_) (fun hi => ?_)
      · have hi : i < (ho.length : Int) := @of_decide_eq_true _ _ hi
        have wi : IntKind.i64.wrap (i + 1) = i + 1 := wrap_eq (by omega) (by omega)
        have ei : (i + 1).toNat = i.toNat + 1 := by omega
        conv => whnf
        refine ⟨i0, ?_⟩
        conv => whnf
        refine ⟨hi, ?_⟩
        conv => whnf
        refine ⟨show ((nmsC ho i.toNat).length + 1) * 16 ≤ 70368744177664 by omega, ?_⟩
        conv => whnf
        refine ⟨show (nmsC ho i.toNat).length + 1 ≤ 70368744177664 by omega, ?_⟩
        conv => whnf
        refine ⟨i + 1, ?_, ⟨by omega, by omega⟩, by omega⟩
        exact Eq.trans (b := S28house ho ((nmsC ho i.toNat) ++ [(gC ho i.toNat).1]) (IntKind.i64.wrap (i + 1))) rfl (by rw [wi, ei]; rfl)
      have hi : ¬ (i < (ho.length : Int)) := @of_decide_eq_false _ _ hi
      rw [show i.toNat = ho.length by omega]
      conv => whnf
      show nmsC ho ho.length = namesK (cg, pl, ho, mo) s
      rw [hs, names_house]
    have chouse : ((s.toList == ByteArray.toList ⟨#[104, 111, 117, 115, 101]⟩)) = false := chouse
    rw [tl_iff] at chouse
    exact absurd hs (of_decide_eq_false chouse)
  · conv => whnf
    refine cond_intro (fun crule => ?_) (fun crule => ?_)
    · have crule : ((s.toList == ByteArray.toList ⟨#[114, 117, 108, 101]⟩)) = true := crule
      rw [tl_iff] at crule
      exact absurd (hs.symm.trans (of_decide_eq_true crule)) n_model_rule
    have crule : ((s.toList == ByteArray.toList ⟨#[114, 117, 108, 101]⟩)) = false := crule
    conv => whnf
    refine cond_intro (fun ccargo => ?_) (fun ccargo => ?_)
    · have ccargo : ((s.toList == ByteArray.toList ⟨#[99, 97, 114, 103, 111]⟩)) = true := ccargo
      rw [tl_iff] at ccargo
      exact absurd (hs.symm.trans (of_decide_eq_true ccargo)) n_model_cargo
    have ccargo : ((s.toList == ByteArray.toList ⟨#[99, 97, 114, 103, 111]⟩)) = false := ccargo
    conv => whnf
    refine cond_intro (fun cplant => ?_) (fun cplant => ?_)
    · have cplant : ((s.toList == ByteArray.toList ⟨#[112, 108, 97, 110, 116]⟩)) = true := cplant
      rw [tl_iff] at cplant
      exact absurd (hs.symm.trans (of_decide_eq_true cplant)) n_model_plant
    have cplant : ((s.toList == ByteArray.toList ⟨#[112, 108, 97, 110, 116]⟩)) = false := cplant
    conv => whnf
    refine cond_intro (fun chouse => ?_) (fun chouse => ?_)
    · have chouse : ((s.toList == ByteArray.toList ⟨#[104, 111, 117, 115, 101]⟩)) = true := chouse
      rw [tl_iff] at chouse
      exact absurd (hs.symm.trans (of_decide_eq_true chouse)) n_model_house
    have chouse : ((s.toList == ByteArray.toList ⟨#[104, 111, 117, 115, 101]⟩)) = false := chouse
    conv => whnf
    refine cond_intro (fun cmodel => ?_) (fun cmodel => ?_)
    · have cmodel : ((s.toList == ByteArray.toList ⟨#[109, 111, 100, 101, 108]⟩)) = true := cmodel
      conv => whnf
      refine loop_rule (fun i : Int => S28model mo (nmsM mo i.toNat) i) (fun i => ((mo.length : Int) - i).toNat) (fun i => 0 ≤ i ∧ i ≤ (mo.length : Int)) ?_ 0 (by kernel_rfl) ?_ ⟨by omega, by omega⟩
      case refine_2 => rfl
      rintro i ⟨i0, i1⟩
      have hlc := nmsM_len mo i.toNat
      conv => whnf
      refine cond_intro (fun hi => ?_) (fun hi => ?_)
      · have hi : i < (mo.length : Int) := @of_decide_eq_true _ _ hi
        have wi : IntKind.i64.wrap (i + 1) = i + 1 := wrap_eq (by omega) (by omega)
        have ei : (i + 1).toNat = i.toNat + 1 := by omega
        conv => whnf
        refine ⟨i0, ?_⟩
        conv => whnf
        refine ⟨hi, ?_⟩
        conv => whnf
        refine ⟨show ((nmsM mo i.toNat).length + 1) * 16 ≤ 70368744177664 by omega, ?_⟩
        conv => whnf
        refine ⟨show (nmsM mo i.toNat).length + 1 ≤ 70368744177664 by omega, ?_⟩
        conv => whnf
        refine ⟨i + 1, ?_, ⟨by omega, by omega⟩, by omega⟩
        exact Eq.trans (b := S28model mo ((nmsM mo i.toNat) ++ [(gM mo i.toNat).1]) (IntKind.i64.wrap (i + 1))) rfl (by rw [wi, ei]; rfl)
      have hi : ¬ (i < (mo.length : Int)) := @of_decide_eq_false _ _ hi
      rw [show i.toNat = mo.length by omega]
      conv => whnf
      show nmsM mo mo.length = namesK (cg, pl, ho, mo) s
      rw [hs, names_model]
    have cmodel : ((s.toList == ByteArray.toList ⟨#[109, 111, 100, 101, 108]⟩)) = false := cmodel
    rw [tl_iff] at cmodel
    exact absurd hs (of_decide_eq_false cmodel)
end
end Go.Proofs.YtaafjaibaaiigaaGreatDoor.Eng
set_option linter.unusedVariables false
set_option linter.unusedSimpArgs false
namespace Go.Proofs.YtaafjaibaaiigaaGreatDoor.Eng
open Go
set_option maxRecDepth 100000
noncomputable section
def S11a (r : List Ru) (cg : List Cg) (pl : List Pl) (ho : List Cg) (mo : List Mo) (out : List Int) (i : Int) : SL := ⟨[.undef, .ptr 0 0 0, .undef, .undef, .undef, .undef, .undef, .undef, .undef, .undef, .undef, .own 1, .undef, .undef, .undef, .undef, .undef, .undef, .undef, .undef, .undef, .undef, .undef, .undef, .undef, .undef, .undef, .undef, .undef, .undef, .undef, .undef, .undef, .undef, .undef, .undef, .undef, .undef, .undef, .undef, .undef, .undef, .undef, .undef, .undef, .undef, .undef, .undef, .undef, .undef, .undef, .undef, .undef, .undef, .undef, .undef, .undef, .undef, .undef, .undef, .undef, .undef, .undef, .undef, .undef, .undef, .undef, .undef, .undef, .undef, .undef, .undef, .undef, .undef, .undef, .undef, .undef, .undef, .undef, .undef, .undef, .undef, .undef, .undef, .sl plT pl, .int .i64 pl.length, .int .i64 i, .undef, .undef, .undef, .undef, .undef, .undef, .undef, .undef, .undef, .undef, .undef, .undef, .undef, .undef, .undef, .undef, .undef, .undef, .undef, .undef, .undef, .undef, .undef, .undef, .undef, .undef, .undef, .undef, .undef, .undef, .undef, .undef, .undef, .undef, .undef, .undef, .undef, .undef, .undef, .undef], [(0, .box [.sl ruT r, .sl cgT cg, .sl plT pl, .sl cgT ho, .sl moT mo]), (1, .arr I out)], 2⟩
def S11b (r : List Ru) (cg : List Cg) (pl : List Pl) (ho : List Cg) (mo : List Mo) (mk : List Op2) (out : List Int) (i k : Int) : SL := ⟨[.undef, .ptr 0 0 0, .undef, .undef, .undef, .undef, .undef, .undef, .undef, .undef, .undef, .own 1, .undef, .undef, .undef, .undef, .undef, .undef, .undef, .undef, .undef, .undef, .undef, .undef, .undef, .undef, .undef, .undef, .undef, .undef, .undef, .undef, .undef, .undef, .undef, .undef, .undef, .undef, .undef, .undef, .undef, .undef, .undef, .undef, .undef, .undef, .undef, .undef, .undef, .undef, .undef, .undef, .undef, .undef, .undef, .undef, .undef, .undef, .undef, .undef, .undef, .undef, .undef, .undef, .undef, .undef, .undef, .undef, .undef, .undef, .undef, .undef, .undef, .undef, .undef, .undef, .undef, .undef, .undef, .undef, .undef, .undef, .undef, .undef, .sl plT pl, .int .i64 pl.length, .int .i64 i, .undef, .undef, .undef, .undef, .undef, .undef, .undef, .undef, .sl opT mk, .int .i64 mk.length, .int .i64 k, .undef, .undef, .undef, .undef, .undef, .undef, .undef, .undef, .undef, .undef, .undef, .undef, .undef, .undef, .undef, .undef, .undef, .undef, .undef, .undef, .undef, .undef, .undef, .undef, .undef, .undef, .undef, .undef, .undef], [(0, .box [.sl ruT r, .sl cgT cg, .sl plT pl, .sl cgT ho, .sl moT mo]), (1, .arr I out)], 2⟩
def S11c (r : List Ru) (cg : List Cg) (pl : List Pl) (ho : List Cg) (mo : List Mo) (out : List Int) (i : Int) : SL := ⟨[.undef, .ptr 0 0 0, .undef, .undef, .undef, .undef, .undef, .undef, .undef, .undef, .undef, .own 1, .undef, .undef, .undef, .undef, .undef, .undef, .undef, .undef, .undef, .undef, .undef, .undef, .undef, .undef, .undef, .undef, .undef, .undef, .undef, .undef, .undef, .undef, .undef, .undef, .undef, .undef, .undef, .undef, .undef, .undef, .undef, .undef, .undef, .undef, .undef, .undef, .undef, .undef, .undef, .undef, .undef, .undef, .undef, .undef, .undef, .undef, .undef, .undef, .undef, .undef, .undef, .undef, .undef, .undef, .undef, .undef, .undef, .undef, .undef, .undef, .undef, .undef, .undef, .undef, .undef, .undef, .undef, .undef, .undef, .undef, .undef, .undef, .undef, .undef, .undef, .undef, .undef, .undef, .undef, .undef, .undef, .undef, .undef, .undef, .undef, .undef, .undef, .undef, .undef, .undef, .undef, .undef, .undef, .undef, .undef, .undef, .undef, .sl moT mo, .int .i64 mo.length, .int .i64 i, .undef, .undef, .undef, .undef, .undef, .undef, .undef, .undef, .undef, .undef, .undef, .undef, .undef, .undef, .undef], [(0, .box [.sl ruT r, .sl cgT cg, .sl plT pl, .sl cgT ho, .sl moT mo]), (1, .arr I out)], 2⟩
theorem kindOk_cargo : kindOk Bcargo := Or.inl rfl
theorem kindOk_plant : kindOk Bplant := Or.inr (Or.inl rfl)
theorem kindOk_house : kindOk Bhouse := Or.inr (Or.inr (Or.inl rfl))
theorem kindOk_model : kindOk Bmodel := Or.inr (Or.inr (Or.inr rfl))
def E11 : Env := ⟨tab, [(28, K28), (29, K29), (30, K30), (31, K31), (32, K32), (33, K33), (34, K34)], fun n => match n with | 5 => some ([1, 3, 40, 41, 42], [(3, .str)], []) | 26 => some ([1, 11, 84, 85, 86], [(11, I)], []) | 30 => some ([1, 11, 84, 85, 86, 95, 96, 97], [], []) | 36 => some ([1, 11, 109, 110, 111], [], []) | _ => none⟩
def K11 : Fn1 := ⟨.one coT, .one I, fun (c : Co) => [bodyOk c.1, tkOk c.2.2.1], fun (c : Co) => valC c.1 c.2⟩
set_option maxHeartbeats 2000000 in
theorem k11 : FnOk Go.Proofs.Tryz.prog 11 K11 := by
  refine fn_ok (E := E11) (TOk.of tab_told) (AllOk.cons k28 (.cons k29 (.cons k30 (.cons k31 (.cons k32 (.cons k33 (.cons k34 .nil))))))).at_ mix Go.Proofs.Tryz.func11 rfl rfl (by kernel_rfl) K11 ?_
  rintro ⟨(r : List Ru), (cg : List Cg), (pl : List Pl), (ho : List Cg), (mo : List Mo)⟩ hp
  have hb : bodyOk r := hp _ (List.mem_cons_self ..)
  have ht : tkOk pl := hp _ (List.mem_cons_of_mem _ (List.mem_cons_self ..))
  clear hp
  conv => whnf
  refine cond_intro (fun b1 => ?_) (fun b1 => ?_)
  · have b1 : 16 < (cg.length : Int) := @of_decide_eq_true _ _ b1
    conv => whnf
    repeat (first | (refine cond_intro (fun h => absurd h (by decide)) (fun h => ?_); conv => whnf) | (refine cond_intro (fun h => ?_) (fun h => absurd h (by decide)); conv => whnf))
    conv => whnf
    show (4 : Int) = valC r (cg, pl, ho, mo)
    exact (valC_big (lrgC_b (by unfold bigC max2; simp only [Bool.or_eq_true, decide_eq_true_eq]; (repeat' split) <;> omega))).symm
  have b1 : ¬ (16 < (cg.length : Int)) := @of_decide_eq_false _ _ b1
  conv => whnf
  repeat (first | (refine cond_intro (fun h => absurd h (by decide)) (fun h => ?_); conv => whnf) | (refine cond_intro (fun h => ?_) (fun h => absurd h (by decide)); conv => whnf))
  conv => whnf
  refine cond_intro (fun b2 => ?_) (fun b2 => ?_)
  · have b2 : 16 < (pl.length : Int) := @of_decide_eq_true _ _ b2
    conv => whnf
    repeat (first | (refine cond_intro (fun h => absurd h (by decide)) (fun h => ?_); conv => whnf) | (refine cond_intro (fun h => ?_) (fun h => absurd h (by decide)); conv => whnf))
    conv => whnf
    show (4 : Int) = valC r (cg, pl, ho, mo)
    exact (valC_big (lrgC_b (by unfold bigC max2; simp only [Bool.or_eq_true, decide_eq_true_eq]; (repeat' split) <;> omega))).symm
  have b2 : ¬ (16 < (pl.length : Int)) := @of_decide_eq_false _ _ b2
  conv => whnf
  repeat (first | (refine cond_intro (fun h => absurd h (by decide)) (fun h => ?_); conv => whnf) | (refine cond_intro (fun h => ?_) (fun h => absurd h (by decide)); conv => whnf))
  conv => whnf
  refine cond_intro (fun b3 => ?_) (fun b3 => ?_)
  · have b3 : 16 < (ho.length : Int) := @of_decide_eq_true _ _ b3
    conv => whnf
    repeat (first | (refine cond_intro (fun h => absurd h (by decide)) (fun h => ?_); conv => whnf) | (refine cond_intro (fun h => ?_) (fun h => absurd h (by decide)); conv => whnf))
    conv => whnf
    show (4 : Int) = valC r (cg, pl, ho, mo)
    exact (valC_big (lrgC_b (by unfold bigC max2; simp only [Bool.or_eq_true, decide_eq_true_eq]; (repeat' split) <;> omega))).symm
  have b3 : ¬ (16 < (ho.length : Int)) := @of_decide_eq_false _ _ b3
  conv => whnf
  repeat (first | (refine cond_intro (fun h => absurd h (by decide)) (fun h => ?_); conv => whnf) | (refine cond_intro (fun h => ?_) (fun h => absurd h (by decide)); conv => whnf))
  conv => whnf
  refine cond_intro (fun b4 => ?_) (fun b4 => ?_)
  · have b4 : 40 < (mo.length : Int) := @of_decide_eq_true _ _ b4
    conv => whnf
    repeat (first | (refine cond_intro (fun h => absurd h (by decide)) (fun h => ?_); conv => whnf) | (refine cond_intro (fun h => ?_) (fun h => absurd h (by decide)); conv => whnf))
    conv => whnf
    show (4 : Int) = valC r (cg, pl, ho, mo)
    exact (valC_big (lrgC_b (by unfold bigC max2; simp only [Bool.or_eq_true, decide_eq_true_eq]; (repeat' split) <;> omega))).symm
  have b4 : ¬ (40 < (mo.length : Int)) := @of_decide_eq_false _ _ b4
  have hbg : bigC (cg, pl, ho, mo) = false := by unfold bigC max2; simp only [Bool.or_eq_false_iff, decide_eq_false_iff_not]; refine ⟨?_, b4⟩; (repeat' split) <;> omega
  conv => whnf
  repeat (first | (refine cond_intro (fun h => absurd h (by decide)) (fun h => ?_); conv => whnf) | (refine cond_intro (fun h => ?_) (fun h => absurd h (by decide)); conv => whnf))
  have hx : len4 (cg, pl, ho, mo) := ⟨by show cg.length ≤ 1000; omega, by show pl.length ≤ 1000; omega, by show ho.length ≤ 1000; omega, by show mo.length ≤ 1000; omega⟩
  have ln1 : (namesK (cg, pl, ho, mo) Bcargo).length = cg.length := by rw [names_cargo]; exact nmsC_len _ _
  have ln2 : (namesK (cg, pl, ho, mo) Bplant).length = pl.length := by rw [names_plant]; exact nmsP_len _ _
  have ln3 : (namesK (cg, pl, ho, mo) Bhouse).length = ho.length := by rw [names_house]; exact nmsC_len _ _
  have ln4 : (namesK (cg, pl, ho, mo) Bmodel).length = mo.length := by rw [names_model]; exact nmsM_len _ _
  have hwl := words_len (cg, pl, ho, mo)
  simp only at hwl
  conv => whnf
  refine ⟨⟨14, ?_⟩⟩
  conv => whnf
  repeat (first | (refine cond_intro (fun h => absurd h (by decide)) (fun h => ?_); conv => whnf) | (refine cond_intro (fun h => ?_) (fun h => absurd h (by decide)); conv => whnf))
  conv => whnf
  refine ⟨(by decide), ?_⟩
  conv => whnf
  refine ⟨(by show (0 : Int) < 4; omega), ?_⟩
  conv => whnf
  refine ⟨kindOk_cargo, ?_⟩
  conv => whnf
  refine ⟨hx, ?_⟩
  conv => whnf
  refine ⟨show (([] : List ByteArray).length + (namesK (cg, pl, ho, mo) Bcargo).length) * 16 ≤ 70368744177664 by simp only [List.length_append, List.length_nil, ln1, ln2, ln3, ln4]; omega, ?_⟩
  conv => whnf
  refine ⟨show ([] : List ByteArray).length + (namesK (cg, pl, ho, mo) Bcargo).length ≤ 70368744177664 by simp only [List.length_append, List.length_nil, ln1, ln2, ln3, ln4]; omega, ?_⟩
  conv => whnf
  repeat (first | (refine cond_intro (fun h => absurd h (by decide)) (fun h => ?_); conv => whnf) | (refine cond_intro (fun h => ?_) (fun h => absurd h (by decide)); conv => whnf))
  conv => whnf
  refine ⟨(by decide), ?_⟩
  conv => whnf
  refine ⟨(by show (1 : Int) < 4; omega), ?_⟩
  conv => whnf
  refine ⟨kindOk_plant, ?_⟩
  conv => whnf
  refine ⟨hx, ?_⟩
  conv => whnf
  refine ⟨show ((([] : List ByteArray) ++ namesK (cg, pl, ho, mo) Bcargo).length + (namesK (cg, pl, ho, mo) Bplant).length) * 16 ≤ 70368744177664 by simp only [List.length_append, List.length_nil, ln1, ln2, ln3, ln4]; omega, ?_⟩
  conv => whnf
  refine ⟨show (([] : List ByteArray) ++ namesK (cg, pl, ho, mo) Bcargo).length + (namesK (cg, pl, ho, mo) Bplant).length ≤ 70368744177664 by simp only [List.length_append, List.length_nil, ln1, ln2, ln3, ln4]; omega, ?_⟩
  conv => whnf
  repeat (first | (refine cond_intro (fun h => absurd h (by decide)) (fun h => ?_); conv => whnf) | (refine cond_intro (fun h => ?_) (fun h => absurd h (by decide)); conv => whnf))
  conv => whnf
  refine ⟨(by decide), ?_⟩
  conv => whnf
  refine ⟨(by show (2 : Int) < 4; omega), ?_⟩
  conv => whnf
  refine ⟨kindOk_house, ?_⟩
  conv => whnf
  refine ⟨hx, ?_⟩
  conv => whnf
  refine ⟨show (((([] : List ByteArray) ++ namesK (cg, pl, ho, mo) Bcargo) ++ namesK (cg, pl, ho, mo) Bplant).length + (namesK (cg, pl, ho, mo) Bhouse).length) * 16 ≤ 70368744177664 by simp only [List.length_append, List.length_nil, ln1, ln2, ln3, ln4]; omega, ?_⟩
  conv => whnf
  refine ⟨show ((([] : List ByteArray) ++ namesK (cg, pl, ho, mo) Bcargo) ++ namesK (cg, pl, ho, mo) Bplant).length + (namesK (cg, pl, ho, mo) Bhouse).length ≤ 70368744177664 by simp only [List.length_append, List.length_nil, ln1, ln2, ln3, ln4]; omega, ?_⟩
  conv => whnf
  repeat (first | (refine cond_intro (fun h => absurd h (by decide)) (fun h => ?_); conv => whnf) | (refine cond_intro (fun h => ?_) (fun h => absurd h (by decide)); conv => whnf))
  conv => whnf
  refine ⟨(by decide), ?_⟩
  conv => whnf
  refine ⟨(by show (3 : Int) < 4; omega), ?_⟩
  conv => whnf
  refine ⟨kindOk_model, ?_⟩
  conv => whnf
  refine ⟨hx, ?_⟩
  conv => whnf
  refine ⟨show ((((([] : List ByteArray) ++ namesK (cg, pl, ho, mo) Bcargo) ++ namesK (cg, pl, ho, mo) Bplant) ++ namesK (cg, pl, ho, mo) Bhouse).length + (namesK (cg, pl, ho, mo) Bmodel).length) * 16 ≤ 70368744177664 by simp only [List.length_append, List.length_nil, ln1, ln2, ln3, ln4]; omega, ?_⟩
  conv => whnf
  refine ⟨show (((([] : List ByteArray) ++ namesK (cg, pl, ho, mo) Bcargo) ++ namesK (cg, pl, ho, mo) Bplant) ++ namesK (cg, pl, ho, mo) Bhouse).length + (namesK (cg, pl, ho, mo) Bmodel).length ≤ 70368744177664 by simp only [List.length_append, List.length_nil, ln1, ln2, ln3, ln4]; omega, ?_⟩
  conv => whnf
  repeat (first | (refine cond_intro (fun h => absurd h (by decide)) (fun h => ?_); conv => whnf) | (refine cond_intro (fun h => ?_) (fun h => absurd h (by decide)); conv => whnf))
  conv => whnf
  refine ⟨hb, ?_⟩
  conv => whnf
  refine ⟨show ((((([] : List ByteArray) ++ namesK (cg, pl, ho, mo) Bcargo) ++ namesK (cg, pl, ho, mo) Bplant) ++ namesK (cg, pl, ho, mo) Bhouse) ++ namesK (cg, pl, ho, mo) Bmodel).length ≤ 140737488351232 by rw [names_words]; omega, ?_⟩
  conv => whnf
  refine cond_intro (fun h1 => ?_) (fun h1 => ?_)
  · have h1 : (!decide (rulesW r ((((([] : List ByteArray) ++ namesK (cg, pl, ho, mo) Bcargo) ++ namesK (cg, pl, ho, mo) Bplant) ++ namesK (cg, pl, ho, mo) Bhouse) ++ namesK (cg, pl, ho, mo) Bmodel) = 0)) = true := h1
    have h1 : ¬ (rulesW r ((((([] : List ByteArray) ++ namesK (cg, pl, ho, mo) Bcargo) ++ namesK (cg, pl, ho, mo) Bplant) ++ namesK (cg, pl, ho, mo) Bhouse) ++ namesK (cg, pl, ho, mo) Bmodel) = 0) := fun e => absurd h1 (by rw [decide_eq_true e]; decide)
    rw [names_words] at h1
    conv => whnf
    show rulesW r ((((([] : List ByteArray) ++ namesK (cg, pl, ho, mo) Bcargo) ++ namesK (cg, pl, ho, mo) Bplant) ++ namesK (cg, pl, ho, mo) Bhouse) ++ namesK (cg, pl, ho, mo) Bmodel) = valC r (cg, pl, ho, mo)
    rw [names_words]
    exact (valC_1 hbg h1).symm
  have h1 : (!decide (rulesW r ((((([] : List ByteArray) ++ namesK (cg, pl, ho, mo) Bcargo) ++ namesK (cg, pl, ho, mo) Bplant) ++ namesK (cg, pl, ho, mo) Bhouse) ++ namesK (cg, pl, ho, mo) Bmodel) = 0)) = false := h1
  have h1 : rulesW r ((((([] : List ByteArray) ++ namesK (cg, pl, ho, mo) Bcargo) ++ namesK (cg, pl, ho, mo) Bplant) ++ namesK (cg, pl, ho, mo) Bhouse) ++ namesK (cg, pl, ho, mo) Bmodel) = 0 := Decidable.byContradiction fun e => absurd h1 (by rw [decide_eq_false e]; decide)
  rw [names_words] at h1
  conv => whnf
  refine cond_intro (fun h2 => ?_) (fun h2 => ?_)
  · have h2 : (!decide (cgR cg = 0)) = true := h2
    have h2 : ¬ (cgR cg = 0) := fun e => absurd h2 (by rw [decide_eq_true e]; decide)
    conv => whnf
    show cgR cg = valC r (cg, pl, ho, mo)
    rw [valC_0 hbg h1]
    unfold orL; rw [if_neg h2]
  have h2 : (!decide (cgR cg = 0)) = false := h2
  have h2 : cgR cg = 0 := Decidable.byContradiction fun e => absurd h2 (by rw [decide_eq_false e]; decide)
  conv => whnf
  refine cond_intro (fun h3 => ?_) (fun h3 => ?_)
  · have h3 : (!decide (plR pl = 0)) = true := h3
    have h3 : ¬ (plR pl = 0) := fun e => absurd h3 (by rw [decide_eq_true e]; decide)
    conv => whnf
    show plR pl = valC r (cg, pl, ho, mo)
    rw [valC_0 hbg h1]
    unfold orL; rw [if_pos h2]; unfold orL; rw [if_neg h3]
  have h3 : (!decide (plR pl = 0)) = false := h3
  have h3 : plR pl = 0 := Decidable.byContradiction fun e => absurd h3 (by rw [decide_eq_false e]; decide)
  conv => whnf
  refine cond_intro (fun h4 => ?_) (fun h4 => ?_)
  · have h4 : (!decide (hoR ho = 0)) = true := h4
    have h4 : ¬ (hoR ho = 0) := fun e => absurd h4 (by rw [decide_eq_true e]; decide)
    conv => whnf
    show hoR ho = valC r (cg, pl, ho, mo)
    rw [valC_0 hbg h1]
    unfold orL; rw [if_pos h2]; unfold orL; rw [if_pos h3]; unfold orL; rw [if_neg h4]
  have h4 : (!decide (hoR ho = 0)) = false := h4
  have h4 : hoR ho = 0 := Decidable.byContradiction fun e => absurd h4 (by rw [decide_eq_false e]; decide)
  conv => whnf
  refine cond_intro (fun h5 => ?_) (fun h5 => ?_)
  · have h5 : (!decide (moR mo = 0)) = true := h5
    have h5 : ¬ (moR mo = 0) := fun e => absurd h5 (by rw [decide_eq_true e]; decide)
    conv => whnf
    show moR mo = valC r (cg, pl, ho, mo)
    rw [valC_0 hbg h1]
    unfold orL; rw [if_pos h2]; unfold orL; rw [if_pos h3]; unfold orL; rw [if_pos h4]; unfold orL; rw [if_neg h5]
  have h5 : (!decide (moR mo = 0)) = false := h5
  have h5 : moR mo = 0 := Decidable.byContradiction fun e => absurd h5 (by rw [decide_eq_false e]; decide)
  conv => whnf
  refine loop_rule (fun i : Int => S11a r cg pl ho mo (usedJ pl i.toNat) i) (fun i => ((pl.length : Int) - i).toNat) (fun i => 0 ≤ i ∧ i ≤ (pl.length : Int)) ?_ 0 (by kernel_rfl) ?_ ⟨by omega, by omega⟩
  case refine_2 => rfl
  rintro i ⟨i0, i1⟩
  have hul := usedJ_len ht i.toNat
  have hto := ht i.toNat
  conv => whnf
  refine cond_intro (fun hi => ?_) (fun hi => ?_)
  · have hi : i < (pl.length : Int) := @of_decide_eq_true _ _ hi
    have wi : IntKind.i64.wrap (i + 1) = i + 1 := wrap_eq (by omega) (by omega)
    have ei : (i + 1).toNat = i.toNat + 1 := by omega
    have hcl1 : (usedJ pl i.toNat ++ (gP pl i.toNat).2.1).length ≤ 1000000 := by rw [List.length_append]; omega
    conv => whnf
    refine ⟨i0, ?_⟩
    conv => whnf
    refine ⟨hi, ?_⟩
    conv => whnf
    refine ⟨show ((usedJ pl i.toNat).length + (gP pl i.toNat).2.1.length) * 8 ≤ 70368744177664 by omega, ?_⟩
    conv => whnf
    refine ⟨show (usedJ pl i.toNat).length + (gP pl i.toNat).2.1.length ≤ 70368744177664 by omega, ?_⟩
    rw [List.length_append] at hcl1
    conv => whnf
    refine loop_rule (fun k : Int => S11b r cg pl ho mo (gP pl i.toNat).2.2 ((usedJ pl i.toNat ++ (gP pl i.toNat).2.1) ++ mkJ (gP pl i.toNat).2.2 k.toNat) i k) (fun k => (((gP pl i.toNat).2.2.length : Int) - k).toNat) (fun k => 0 ≤ k ∧ k ≤ ((gP pl i.toNat).2.2.length : Int)) ?_ 0 (by kernel_rfl) ?_ ⟨by omega, by omega⟩
    case refine_2 => exact Eq.trans (b := S11b r cg pl ho mo (gP pl i.toNat).2.2 (usedJ pl i.toNat ++ (gP pl i.toNat).2.1) i 0) rfl (by rw [show mkJ (gP pl i.toNat).2.2 (0 : Int).toNat = [] from rfl, List.append_nil])
    rintro k ⟨k0, k1⟩
    have hcl : ((usedJ pl i.toNat ++ (gP pl i.toNat).2.1) ++ mkJ (gP pl i.toNat).2.2 k.toNat).length ≤ 1000000 + k.toNat := by simp only [List.length_append, mkJ_len]; omega
    conv => whnf
    refine cond_intro (fun hk => ?_) (fun hk => ?_)
    · have hk : k < ((gP pl i.toNat).2.2.length : Int) := @of_decide_eq_true _ _ hk
      have wk : IntKind.i64.wrap (k + 1) = k + 1 := wrap_eq (by omega) (by omega)
      have ek : (k + 1).toNat = k.toNat + 1 := by omega
      conv => whnf
      refine ⟨k0, ?_⟩
      conv => whnf
      refine ⟨hk, ?_⟩
      conv => whnf
      refine ⟨show (((usedJ pl i.toNat ++ (gP pl i.toNat).2.1) ++ mkJ (gP pl i.toNat).2.2 k.toNat).length + 1) * 8 ≤ 70368744177664 by omega, ?_⟩
      conv => whnf
      refine ⟨show ((usedJ pl i.toNat ++ (gP pl i.toNat).2.1) ++ mkJ (gP pl i.toNat).2.2 k.toNat).length + 1 ≤ 70368744177664 by omega, ?_⟩
      conv => whnf
      refine ⟨k + 1, ?_, ⟨by omega, by omega⟩, by omega⟩
      exact Eq.trans (b := S11b r cg pl ho mo (gP pl i.toNat).2.2 (((usedJ pl i.toNat ++ (gP pl i.toNat).2.1) ++ mkJ (gP pl i.toNat).2.2 k.toNat) ++ [(gO (gP pl i.toNat).2.2 k.toNat).1]) i (IntKind.i64.wrap (k + 1))) rfl (by rw [wk, ek, List.append_assoc]; rfl)
    have hk : ¬ (k < ((gP pl i.toNat).2.2.length : Int)) := @of_decide_eq_false _ _ hk
    rw [show k.toNat = (gP pl i.toNat).2.2.length by omega]
    conv => whnf
    refine ⟨i + 1, ?_, ⟨by omega, by omega⟩, by omega⟩
    exact Eq.trans (b := S11a r cg pl ho mo ((usedJ pl i.toNat ++ (gP pl i.toNat).2.1) ++ mkJ (gP pl i.toNat).2.2 (gP pl i.toNat).2.2.length) (IntKind.i64.wrap (i + 1))) rfl (by rw [wi, ei]; rfl)
  have hi : ¬ (i < (pl.length : Int)) := @of_decide_eq_false _ _ hi
  rw [show i.toNat = pl.length by omega]
  clear hul hto
  conv => whnf
  refine loop_rule (fun i : Int => S11c r cg pl ho mo (usedJ pl pl.length ++ cgoM mo i.toNat) i) (fun i => ((mo.length : Int) - i).toNat) (fun i => 0 ≤ i ∧ i ≤ (mo.length : Int)) ?_ 0 (by kernel_rfl) ?_ ⟨by omega, by omega⟩
  case refine_2 => exact Eq.trans (b := S11c r cg pl ho mo (usedJ pl pl.length) 0) rfl (by rw [show cgoM mo (0 : Int).toNat = [] from rfl, List.append_nil])
  rintro i ⟨i0, i1⟩
  have hul := usedJ_len ht pl.length
  have hcl : (usedJ pl pl.length ++ cgoM mo i.toNat).length ≤ 1000000 + i.toNat := by rw [List.length_append, cgoM_len]; omega
  conv => whnf
  refine cond_intro (fun hi => ?_) (fun hi => ?_)
  · have hi : i < (mo.length : Int) := @of_decide_eq_true _ _ hi
    have wi : IntKind.i64.wrap (i + 1) = i + 1 := wrap_eq (by omega) (by omega)
    have ei : (i + 1).toNat = i.toNat + 1 := by omega
    conv => whnf
    refine ⟨i0, ?_⟩
    conv => whnf
    refine ⟨hi, ?_⟩
    conv => whnf
    refine ⟨show ((usedJ pl pl.length ++ cgoM mo i.toNat).length + 1) * 8 ≤ 70368744177664 by omega, ?_⟩
    conv => whnf
    refine ⟨show (usedJ pl pl.length ++ cgoM mo i.toNat).length + 1 ≤ 70368744177664 by omega, ?_⟩
    conv => whnf
    refine ⟨i + 1, ?_, ⟨by omega, by omega⟩, by omega⟩
    exact Eq.trans (b := S11c r cg pl ho mo ((usedJ pl pl.length ++ cgoM mo i.toNat) ++ [caM (gM mo i.toNat)]) (IntKind.i64.wrap (i + 1))) rfl (by rw [wi, ei, List.append_assoc]; rfl)
  have hi : ¬ (i < (mo.length : Int)) := @of_decide_eq_false _ _ hi
  rw [show i.toNat = mo.length by omega] at hcl ⊢
  conv => whnf
  refine ⟨show (usedJ pl pl.length ++ cgoM mo mo.length).length ≤ 140737488351232 by omega, ?_⟩
  conv => whnf
  refine cond_intro (fun cu => ?_) (fun cu => ?_)
  · have cu : (!(ltAll (cg.length : Int) (usedJ pl pl.length ++ cgoM mo mo.length))) = true := cu
    have cu : (ltAll (cg.length : Int) (usedJ pl pl.length ++ cgoM mo mo.length)) = false := by cases e : (ltAll (cg.length : Int) (usedJ pl pl.length ++ cgoM mo mo.length)) with | false => rfl | true => exact absurd cu (by rw [e]; decide)
    conv => whnf
    show (2 : Int) = valC r (cg, pl, ho, mo)
    rw [valC_0 hbg h1]
    unfold orL; rw [if_pos h2]; unfold orL; rw [if_pos h3]; unfold orL; rw [if_pos h4]; unfold orL; rw [if_pos h5]
    have hu : usedR (cg, pl, ho, mo) = 2 := by unfold usedR usedL; rw [if_neg (by rw [cu]; decide)]
    rw [hu]
    rfl
  have cu : (!(ltAll (cg.length : Int) (usedJ pl pl.length ++ cgoM mo mo.length))) = false := cu
  have cu : (ltAll (cg.length : Int) (usedJ pl pl.length ++ cgoM mo mo.length)) = true := by cases e : (ltAll (cg.length : Int) (usedJ pl pl.length ++ cgoM mo mo.length)) with | true => rfl | false => exact absurd cu (by rw [e]; decide)
  conv => whnf
  show (0 : Int) = valC r (cg, pl, ho, mo)
  rw [valC_0 hbg h1]
  unfold orL; rw [if_pos h2]; unfold orL; rw [if_pos h3]; unfold orL; rw [if_pos h4]; unfold orL; rw [if_pos h5]
  have hu : usedR (cg, pl, ho, mo) = 0 := by unfold usedR usedL; rw [if_pos cu]
  rw [hu]
  rfl
end
end Go.Proofs.YtaafjaibaaiigaaGreatDoor.Eng
set_option linter.unusedVariables false
set_option linter.unusedSimpArgs false
namespace Go.Proofs.YtaafjaibaaiigaaGreatDoor.Eng
open Go
set_option maxRecDepth 100000
noncomputable section
def okP (p : Pl) : Bool := decide ((p.1.size : Int) ≤ 400) && (decide ((p.2.1.length : Int) ≤ 400) && decide ((p.2.2.length : Int) ≤ 400))
def smlP (pl : List Pl) : Bool := allG (fun i => okP (gP pl i)) pl.length
def lwB (r : List Ru) (x : Co4) : Bool := !smlP x.2.1 || (longB r [] [] [] || (decide (400 < (x.1.length : Int)) || (decide (400 < (x.2.1.length : Int)) || (decide (400 < (x.2.2.1.length : Int)) || decide (400 < (x.2.2.2.length : Int))))))
theorem lw_f {r : List Ru} {x : Co4} (h : lwB r x = false) : nmR r ∧ bodyOk r ∧ r.length ≤ 1000 ∧ len4 x ∧ nmP x.2.1 ∧ tkOk x.2.1 := by
  unfold lwB at h
  simp only [Bool.or_eq_false_iff, decide_eq_false_iff_not, Bool.not_eq_false'] at h
  obtain ⟨h1, h2, h3, h4, h5, h6⟩ := h
  obtain ⟨a, b, c, _⟩ := long_f h2
  have key : ∀ i, (gP x.2.1 i).1.size ≤ 400 ∧ (gP x.2.1 i).2.1.length ≤ 400 ∧ (gP x.2.1 i).2.2.length ≤ 400 := by
    intro i
    by_cases hi : i < x.2.1.length
    · have := allG_at (p := fun i => okP (gP x.2.1 i)) h1 hi
      simp only [okP, Bool.and_eq_true, decide_eq_true_eq] at this
      omega
    · have e : gP x.2.1 i = zPl := by unfold gP; rw [List.getD_eq_getElem?_getD, List.getElem?_eq_none (by omega)]; rfl
      rw [e]
      exact ⟨Nat.zero_le _, Nat.zero_le _, Nat.zero_le _⟩
  exact ⟨a, b, by omega, ⟨by omega, by omega, by omega, by omega⟩, fun i => by have := key i; omega, fun i => by have := key i; omega⟩
theorem lw_p {r : List Ru} {x : Co4} {i : Nat} (hi : i < x.2.1.length) (e : okP (gP x.2.1 i) = false) : lwB r x = true := by
  unfold lwB smlP; rw [allG_bad hi e]; rfl
theorem lw_l {r : List Ru} {x : Co4} (h1 : smlP x.2.1 = true) : lwB r x = (longB r [] [] [] || (decide (400 < (x.1.length : Int)) || (decide (400 < (x.2.1.length : Int)) || (decide (400 < (x.2.2.1.length : Int)) || decide (400 < (x.2.2.2.length : Int)))))) := by
  unfold lwB; rw [h1]; rfl
def S8 (r : List Ru) (cg : List Cg) (pl : List Pl) (ho : List Cg) (mo : List Mo) (i : Int) : SL := ⟨[.undef, .ptr 0 0 0, .undef, .undef, .undef, .undef, .sl plT pl, .int .i64 pl.length, .int .i64 i, .undef, .undef, .undef, .undef, .undef, .undef, .undef, .undef, .undef, .undef, .undef, .undef, .undef, .undef, .undef, .undef, .undef, .undef, .undef, .undef, .undef, .undef, .undef, .undef, .undef, .undef, .undef, .undef, .undef, .undef, .undef, .undef, .undef, .undef, .undef, .undef, .undef, .undef, .undef, .undef, .undef, .undef, .undef, .undef, .undef, .undef, .undef], [(0, .box [.sl ruT r, .sl cgT cg, .sl plT pl, .sl cgT ho, .sl moT mo])], 1⟩
def E8 : Env := ⟨tab, [(12, K12)], fun n => match n with | 2 => some ([1, 6, 7, 8], [], []) | _ => none⟩
def K8 : Fn1 := ⟨.one coT, .one .bool, fun (c : Co) => [c.1.length ≤ 140737488351232, c.2.2.1.length ≤ 140737488351232], fun (c : Co) => lwB c.1 c.2⟩
set_option maxHeartbeats 1000000 in
theorem k8 : FnOk Go.Proofs.Tryz.prog 8 K8 := by
  refine fn_ok (E := E8) (TOk.of tab_told) (AllOk.cons k12 .nil).at_ mix Go.Proofs.Tryz.func8 rfl rfl (by kernel_rfl) K8 ?_
  rintro ⟨(r : List Ru), (cg : List Cg), (pl : List Pl), (ho : List Cg), (mo : List Mo)⟩ hp
  have hrl : r.length ≤ 140737488351232 := hp _ (List.mem_cons_self ..)
  have hpl : pl.length ≤ 140737488351232 := hp _ (List.mem_cons_of_mem _ (List.mem_cons_self ..))
  clear hp
  conv => whnf
  refine loop_rule (S8 r cg pl ho mo) (fun i => ((pl.length : Int) - i).toNat) (fun i => 0 ≤ i ∧ i ≤ (pl.length : Int) ∧ allG (fun i => okP (gP pl i)) i.toNat = true) ?_ 0 (by kernel_rfl) ?_ ⟨by omega, by omega, rfl⟩
  case refine_2 => rfl
  rintro i ⟨i0, i1, i2⟩
  conv => whnf
  refine cond_intro (fun hi => ?_) (fun hi => ?_)
  · have hi : i < (pl.length : Int) := @of_decide_eq_true _ _ hi
    have wi : IntKind.i64.wrap (i + 1) = i + 1 := wrap_eq (by omega) (by omega)
    have ei : (i + 1).toNat = i.toNat + 1 := by omega
    conv => whnf
    refine ⟨i0, ?_⟩
    conv => whnf
    refine ⟨hi, ?_⟩
    conv => whnf
    refine cond_intro (fun c1 => ?_) (fun c1 => ?_)
    · have c1 : 400 < ((gP pl i.toNat).1.size : Int) := @of_decide_eq_true _ _ c1
      conv => whnf
      repeat (first | (refine cond_intro (fun h => absurd h (by decide)) (fun h => ?_); conv => whnf) | (refine cond_intro (fun h => ?_) (fun h => absurd h (by decide)); conv => whnf))
      conv => whnf
      show true = lwB r (cg, pl, ho, mo)
      exact (lw_p (x := (cg, pl, ho, mo)) (i := i.toNat) (by show i.toNat < pl.length; omega) (by show okP (gP pl i.toNat) = false; unfold okP; rw [decide_eq_false (by omega)]; rfl)).symm
    have c1 : ¬ (400 < ((gP pl i.toNat).1.size : Int)) := @of_decide_eq_false _ _ c1
    conv => whnf
    repeat (first | (refine cond_intro (fun h => absurd h (by decide)) (fun h => ?_); conv => whnf) | (refine cond_intro (fun h => ?_) (fun h => absurd h (by decide)); conv => whnf))
    conv => whnf
    refine cond_intro (fun c2 => ?_) (fun c2 => ?_)
    · have c2 : 400 < ((gP pl i.toNat).2.1.length : Int) := @of_decide_eq_true _ _ c2
      conv => whnf
      repeat (first | (refine cond_intro (fun h => absurd h (by decide)) (fun h => ?_); conv => whnf) | (refine cond_intro (fun h => ?_) (fun h => absurd h (by decide)); conv => whnf))
      conv => whnf
      show true = lwB r (cg, pl, ho, mo)
      exact (lw_p (x := (cg, pl, ho, mo)) (i := i.toNat) (by show i.toNat < pl.length; omega) (by show okP (gP pl i.toNat) = false; unfold okP; rw [decide_eq_false (p := ((gP pl i.toNat).2.1.length : Int) ≤ 400) (by omega)]; simp)).symm
    have c2 : ¬ (400 < ((gP pl i.toNat).2.1.length : Int)) := @of_decide_eq_false _ _ c2
    conv => whnf
    repeat (first | (refine cond_intro (fun h => absurd h (by decide)) (fun h => ?_); conv => whnf) | (refine cond_intro (fun h => ?_) (fun h => absurd h (by decide)); conv => whnf))
    conv => whnf
    refine cond_intro (fun c3 => ?_) (fun c3 => ?_)
    · have c3 : 400 < ((gP pl i.toNat).2.2.length : Int) := @of_decide_eq_true _ _ c3
      conv => whnf
      repeat (first | (refine cond_intro (fun h => absurd h (by decide)) (fun h => ?_); conv => whnf) | (refine cond_intro (fun h => ?_) (fun h => absurd h (by decide)); conv => whnf))
      conv => whnf
      show true = lwB r (cg, pl, ho, mo)
      exact (lw_p (x := (cg, pl, ho, mo)) (i := i.toNat) (by show i.toNat < pl.length; omega) (by show okP (gP pl i.toNat) = false; unfold okP; rw [decide_eq_false (p := ((gP pl i.toNat).2.2.length : Int) ≤ 400) (by omega)]; simp)).symm
    have c3 : ¬ (400 < ((gP pl i.toNat).2.2.length : Int)) := @of_decide_eq_false _ _ c3
    conv => whnf
    repeat (first | (refine cond_intro (fun h => absurd h (by decide)) (fun h => ?_); conv => whnf) | (refine cond_intro (fun h => ?_) (fun h => absurd h (by decide)); conv => whnf))
    conv => whnf
    refine ⟨i + 1, ?_, ⟨by omega, by omega, ?_⟩, by omega⟩
    · exact Eq.trans (b := S8 r cg pl ho mo (IntKind.i64.wrap (i + 1))) rfl (by rw [wi])
    · rw [ei]; exact allG_succ i2 (by show okP (gP pl i.toNat) = true; unfold okP; rw [decide_eq_true (Int.not_lt.1 c1), decide_eq_true (Int.not_lt.1 c2), decide_eq_true (Int.not_lt.1 c3)]; rfl)
  have hi : ¬ (i < (pl.length : Int)) := @of_decide_eq_false _ _ hi
  rw [show i.toNat = pl.length by omega] at i2
  have i2 : smlP pl = true := i2
  conv => whnf
  refine ⟨hrl, ?_⟩
  conv => whnf
  refine ⟨Nat.zero_le _, ?_⟩
  conv => whnf
  refine cond_intro (fun d0 => ?_) (fun d0 => ?_)
  · have d0 : (longB r [] [] []) = true := d0
    conv => whnf
    repeat (first | (refine cond_intro (fun h => absurd h (by decide)) (fun h => ?_); conv => whnf) | (refine cond_intro (fun h => ?_) (fun h => absurd h (by decide)); conv => whnf))
    conv => whnf
    show true = lwB r (cg, pl, ho, mo)
    rw [lw_l (x := (cg, pl, ho, mo)) i2]
    simp [d0]
  have d0 : (longB r [] [] []) = false := d0
  conv => whnf
  repeat (first | (refine cond_intro (fun h => absurd h (by decide)) (fun h => ?_); conv => whnf) | (refine cond_intro (fun h => ?_) (fun h => absurd h (by decide)); conv => whnf))
  conv => whnf
  refine cond_intro (fun d1 => ?_) (fun d1 => ?_)
  · have d1 : 400 < (cg.length : Int) := @of_decide_eq_true _ _ d1
    conv => whnf
    repeat (first | (refine cond_intro (fun h => absurd h (by decide)) (fun h => ?_); conv => whnf) | (refine cond_intro (fun h => ?_) (fun h => absurd h (by decide)); conv => whnf))
    conv => whnf
    show true = lwB r (cg, pl, ho, mo)
    rw [lw_l (x := (cg, pl, ho, mo)) i2]
    simp [d0, d1]
  have d1 : ¬ (400 < (cg.length : Int)) := @of_decide_eq_false _ _ d1
  conv => whnf
  repeat (first | (refine cond_intro (fun h => absurd h (by decide)) (fun h => ?_); conv => whnf) | (refine cond_intro (fun h => ?_) (fun h => absurd h (by decide)); conv => whnf))
  conv => whnf
  refine cond_intro (fun d2 => ?_) (fun d2 => ?_)
  · have d2 : 400 < (pl.length : Int) := @of_decide_eq_true _ _ d2
    conv => whnf
    repeat (first | (refine cond_intro (fun h => absurd h (by decide)) (fun h => ?_); conv => whnf) | (refine cond_intro (fun h => ?_) (fun h => absurd h (by decide)); conv => whnf))
    conv => whnf
    show true = lwB r (cg, pl, ho, mo)
    rw [lw_l (x := (cg, pl, ho, mo)) i2]
    simp [d0, d1, d2]
  have d2 : ¬ (400 < (pl.length : Int)) := @of_decide_eq_false _ _ d2
  conv => whnf
  repeat (first | (refine cond_intro (fun h => absurd h (by decide)) (fun h => ?_); conv => whnf) | (refine cond_intro (fun h => ?_) (fun h => absurd h (by decide)); conv => whnf))
  conv => whnf
  refine cond_intro (fun d3 => ?_) (fun d3 => ?_)
  · have d3 : 400 < (ho.length : Int) := @of_decide_eq_true _ _ d3
    conv => whnf
    repeat (first | (refine cond_intro (fun h => absurd h (by decide)) (fun h => ?_); conv => whnf) | (refine cond_intro (fun h => ?_) (fun h => absurd h (by decide)); conv => whnf))
    conv => whnf
    show true = lwB r (cg, pl, ho, mo)
    rw [lw_l (x := (cg, pl, ho, mo)) i2]
    simp [d0, d1, d2, d3]
  have d3 : ¬ (400 < (ho.length : Int)) := @of_decide_eq_false _ _ d3
  conv => whnf
  repeat (first | (refine cond_intro (fun h => absurd h (by decide)) (fun h => ?_); conv => whnf) | (refine cond_intro (fun h => ?_) (fun h => absurd h (by decide)); conv => whnf))
  conv => whnf
  show decide (400 < (mo.length : Int)) = lwB r (cg, pl, ho, mo)
  rw [lw_l (x := (cg, pl, ho, mo)) i2]
  simp [d0, d1, d2, d3]
def E3 : Env := ⟨tab, [(8, K8), (9, K9), (10, K10g), (11, K11)], fun n => match n with  | _ => none⟩
def K3 : Fn1 := ⟨.one coT, .one .bool, fun (c : Co) => [c.1.length ≤ 140737488351232, c.2.2.1.length ≤ 140737488351232, nmC c.2.1, nmC c.2.2.2.1, nmM c.2.2.2.2], fun _ => true⟩
theorem k3 : FnOk Go.Proofs.Tryz.prog 3 K3 := by
  refine fn_ok (E := E3) (TOk.of tab_told) (AllOk.cons k8 (.cons k9 (.cons k10g (.cons k11 .nil)))).at_ mix Go.Proofs.Tryz.func3 rfl rfl (by kernel_rfl) K3 ?_
  rintro ⟨(r : List Ru), (cg : List Cg), (pl : List Pl), (ho : List Cg), (mo : List Mo)⟩ hp
  have hrl : r.length ≤ 140737488351232 := hp _ (List.mem_cons_self ..)
  have hpl : pl.length ≤ 140737488351232 := hp _ (List.mem_cons_of_mem _ (List.mem_cons_self ..))
  have hcg : nmC cg := hp _ (List.mem_cons_of_mem _ (List.mem_cons_of_mem _ (List.mem_cons_self ..)))
  have hho : nmC ho := hp _ (List.mem_cons_of_mem _ (List.mem_cons_of_mem _ (List.mem_cons_of_mem _ (List.mem_cons_self ..))))
  have hmo : nmM mo := hp _ (List.mem_cons_of_mem _ (List.mem_cons_of_mem _ (List.mem_cons_of_mem _ (List.mem_cons_of_mem _ (List.mem_cons_self ..)))))
  clear hp
  conv => whnf
  refine ⟨hrl, ?_⟩
  conv => whnf
  refine ⟨hpl, ?_⟩
  conv => whnf
  refine cond_intro (fun h0 => ?_) (fun h0 => ?_)
  · have h0 : (lwB r (cg, pl, ho, mo)) = true := h0
    conv => whnf
    rfl
  have h0 : (lwB r (cg, pl, ho, mo)) = false := h0
  obtain ⟨hn, hb, hl, hx, hpn, ht⟩ := lw_f h0
  conv => whnf
  refine ⟨hn, ?_⟩
  conv => whnf
  refine ⟨hb, ?_⟩
  conv => whnf
  refine ⟨hl, ?_⟩
  conv => whnf
  refine ⟨hx, ?_⟩
  conv => whnf
  refine ⟨ht, ?_⟩
  conv => whnf
  refine ⟨hcg, ?_⟩
  conv => whnf
  refine ⟨hpn, ?_⟩
  conv => whnf
  refine ⟨hho, ?_⟩
  conv => whnf
  refine ⟨hmo, ?_⟩
  conv => whnf
  refine ⟨hb, ?_⟩
  conv => whnf
  refine ⟨ht, ?_⟩
  conv => whnf
  refine cond_intro (fun q => ?_) (fun q => ?_)
  · have q : valC r (cg, pl, ho, mo) = valC r (cg, pl, ho, mo) := @of_decide_eq_true _ _ q
    conv => whnf
    repeat (first | (refine cond_intro (fun h => absurd h (by decide)) (fun h => ?_); conv => whnf) | (refine cond_intro (fun h => ?_) (fun h => absurd h (by decide)); conv => whnf))
    rfl
  have q : ¬ (valC r (cg, pl, ho, mo) = valC r (cg, pl, ho, mo)) := @of_decide_eq_false _ _ q
  exact absurd rfl q
end
end Go.Proofs.YtaafjaibaaiigaaGreatDoor.Eng
set_option linter.unusedVariables false
set_option linter.unusedSimpArgs false
namespace Go.Proofs.YtaafjaibaaiigaaGreatDoor.Eng
open Go
set_option maxRecDepth 100000
theorem nmC_good {l : List Cg} (h : ∀ x ∈ l, x.1.size ≤ 140737488351232) : nmC l := fun i => by
  by_cases hi : i < l.length
  · have e : gC l i = l[i] := gd_eq hi
    rw [e]; exact h _ (List.getElem_mem hi)
  · have e : gC l i = zCg := by unfold gC; rw [List.getD_eq_getElem?_getD, List.getElem?_eq_none (by omega)]; rfl
    rw [e]; exact Nat.zero_le _
theorem nmM_good {l : List Mo} (h : ∀ x ∈ l, x.1.size ≤ 140737488351232) : nmM l := fun i => by
  by_cases hi : i < l.length
  · have e : gM l i = l[i] := gd_eq hi
    rw [e]; exact h _ (List.getElem_mem hi)
  · have e : gM l i = zMo := by unfold gM; rw [List.getD_eq_getElem?_getD, List.getElem?_eq_none (by omega)]; rfl
    rw [e]; exact Nat.zero_le _
theorem k3_pre {c : Co} (h : Good coT c) : ∀ p ∈ K3.pre c, p := by
  obtain ⟨h1, h2, h3, h4, h5⟩ := h
  intro p hp
  rcases List.mem_cons.1 hp with rfl | hp
  · exact h1.1
  rcases List.mem_cons.1 hp with rfl | hp
  · exact h3.1
  rcases List.mem_cons.1 hp with rfl | hp
  · exact nmC_good fun x hx => (h2.2 x hx).1
  rcases List.mem_cons.1 hp with rfl | hp
  · exact nmC_good fun x hx => (h4.2 x hx).1
  rcases List.mem_cons.1 hp with rfl | hp
  · exact nmM_good fun x hx => (h5.2 x hx).1
  · cases hp
end Go.Proofs.YtaafjaibaaiigaaGreatDoor.Eng
