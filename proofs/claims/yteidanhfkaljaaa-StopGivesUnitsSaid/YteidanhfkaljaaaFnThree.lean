/- What the functions that the law reaches answer, each for every input. -/
import Derived.Test.YteidanhfkaljaaaFnTwo
set_option linter.unusedVariables false
set_option linter.unusedSimpArgs false
set_option linter.unusedVariables false
namespace Go.Proofs.Yteidanhfkaljaaa.Eng
open Go
set_option maxRecDepth 100000
noncomputable section
theorem sub64_eq {a b : Int} (h : -9223372036854775808 ≤ a - b) (g : a - b ≤ 9223372036854775807) : sub64 a b = a - b := wrap_eq h g
theorem max2_eq (a b : Int) : max2 a b = if b > a then b else a := rfl
theorem gap_max (p q : Int) (hp : 0 ≤ p ∧ p ≤ 1000000) (hq : 0 ≤ q ∧ q ≤ 1000000) (z : Int) : max2 (max2 z (sub64 p q)) (sub64 0 (sub64 p q)) = max2 z (gap p q) := by
  rw [sub64_eq (by omega) (by omega), sub64_eq (by omega) (by omega)]
  unfold gap
  rw [wrap_eq (i := q - p) (by omega) (by omega), wrap_eq (i := p - q) (by omega) (by omega)]
  simp only [max2_eq]
  repeat' split
  all_goals omega
theorem gap_max' (p q : Int) (hp : 0 ≤ p ∧ p ≤ 1000000) (hq : 0 ≤ q ∧ q ≤ 1000000) : max2 (sub64 p q) (sub64 0 (sub64 p q)) = gap p q := by
  rw [sub64_eq (by omega) (by omega), sub64_eq (by omega) (by omega)]
  unfold gap
  rw [wrap_eq (i := q - p) (by omega) (by omega), wrap_eq (i := p - q) (by omega) (by omega)]
  simp only [max2_eq]
  repeat' split
  all_goals omega
theorem apart_far {w a b : Int} (hw : 1 ≤ w ∧ w ≤ 1000000) (ha : 0 ≤ a ∧ a ≤ 1000000) (hb : 0 ≤ b ∧ b ≤ 1000000) : apartR w a b = farR w a b := by
  have t : ∀ x : Int, 0 ≤ x ∧ x ≤ 1000000 → (0 ≤ Int.tmod x w ∧ Int.tmod x w ≤ 1000000) ∧ (0 ≤ quo64 x w ∧ quo64 x w ≤ 1000000) := by
    intro x hx
    have e1 : Int.tmod x w = x % w := Int.tmod_eq_emod_of_nonneg hx.1
    have e2 : Int.tdiv x w = x / w := Int.tdiv_eq_ediv_of_nonneg hx.1
    have h1 := Int.emod_nonneg x (show w ≠ 0 by omega)
    have h2 := Int.emod_lt_of_pos x (show 0 < w by omega)
    have h3 : 0 ≤ x / w := Int.ediv_nonneg hx.1 (by omega)
    have h4 : x / w ≤ x := Int.ediv_le_self _ hx.1
    have e3 : quo64 x w = x / w := by unfold quo64; rw [e2]; exact wrap_eq (by omega) (by omega)
    rw [e1, e3]
    exact ⟨⟨h1, by omega⟩, h3, by omega⟩
  obtain ⟨a1, a2⟩ := t a ha
  obtain ⟨b1, b2⟩ := t b hb
  unfold apartR farR
  rw [gap_max' _ _ a1 b1, gap_max _ _ a2 b2]
theorem reach_eq {k : Int} (h0 : 0 ≤ k) (h1 : k ≤ 3) : reachR k = reachK k := by
  have : k = 0 ∨ k = 1 ∨ k = 2 ∨ k = 3 := by omega
  rcases this with rfl | rfl | rfl | rfl <;> rfl
theorem valid_tiles {s : St} (h : validR s = 0) : ∀ p ∈ s.2.1, 0 ≤ p.2 ∧ p.2 ≤ 1000000 := by
  have hb : (List.range s.2.1.length).any (badS s.2.1) = false := by
    cases hb : (List.range s.2.1.length).any (badS s.2.1) with
    | false => rfl
    | true =>
      simp only [validR, hb, if_true] at h
      split at h
      · omega
      · split at h <;> omega
  intro p hp
  obtain ⟨i, hi, e⟩ := List.mem_iff_getElem.1 hp
  have h1 := List.any_eq_false.1 hb i (List.mem_range.2 hi)
  have e2 : gS s.2.1 i = p := by simp [gS, hi, e]
  simp only [badS, e2, withinR, List.all_cons, List.all_nil] at h1
  simp at h1
  omega
theorem sized_zero {w h t : Int} (hs : sizedR w h t = 0) : (4 ≤ w ∧ w ≤ 32) ∧ (4 ≤ h ∧ h ≤ 32) ∧ 0 ≤ t ∧ t < w * h ∧ IntKind.i64.wrap (w * h) = w * h ∧ w * h ≤ 1024 := by
  unfold sizedR at hs
  split at hs
  · omega
  · rename_i h1
    split at hs
    · omega
    · rename_i h2
      have hw : 4 ≤ w ∧ w ≤ 32 := by omega
      have hh : 4 ≤ h ∧ h ≤ 32 := by omega
      have m1 : w * h ≤ 32 * 32 := Int.mul_le_mul hw.2 hh.2 (by omega) (by omega)
      have m0 : 0 ≤ w * h := Int.mul_nonneg (by omega) (by omega)
      have e : IntKind.i64.wrap (w * h) = w * h := wrap_eq (by omega) (by omega)
      rw [e] at h2
      exact ⟨hw, hh, by omega, by omega, e, by omega⟩
theorem covers_same (s : St) (w h t : Int) : coversR s w h t = coversRefR s w h t := by
  unfold coversR coversRefR
  by_cases hv : validR s = 0
  · have ea : askedR s w h t = sizedR w h t := by rw [askedR, if_neg (by simp [hv])]
    rw [ea, if_neg (by simp [hv])]
    by_cases hs : sizedR w h t = 0
    · rw [if_neg (by simp [hs]), if_neg (by simp [hs])]
      obtain ⟨hw, hh, t0, t1, e, m1⟩ := sized_zero hs
      have : s.2.1.any (nearP w h t) = s.2.1.any (overP w h t) := by
        rw [Bool.eq_iff_iff, List.any_eq_true, List.any_eq_true]
        have q : ∀ p ∈ s.2.1, nearP w h t p = overP w h t p := by
          intro p hp
          have hk := valid_kinds hv p hp
          have ht := valid_tiles hv p hp
          unfold nearP overP
          rw [apart_far (by omega) ht (by omega), reach_eq hk.1 hk.2]
        exact ⟨fun ⟨p, hp, x⟩ => ⟨p, hp, by rw [← q p hp]; exact x⟩, fun ⟨p, hp, x⟩ => ⟨p, hp, by rw [q p hp]; exact x⟩⟩
      rw [this]
    · rw [if_pos hs, if_pos hs]
  · have ea : askedR s w h t = validR s := by rw [askedR, if_pos hv]
    rw [ea, if_pos hv, if_pos hv]
end
end Go.Proofs.Yteidanhfkaljaaa.Eng
set_option linter.unusedVariables false
namespace Go.Proofs.Yteidanhfkaljaaa.Eng
open Go
set_option maxRecDepth 100000
noncomputable section
theorem gS_eq {l : List Pl} {n : Nat} (h : n < l.length) : gS l n = l[n] := by simp [gS, h]
theorem pl_eq (a b : Pl) : decide (a = b) = (decide (a.1 = b.1) && (decide (a.2 = b.2) && true)) := by
  rw [Bool.eq_iff_iff]; simp [Prod.ext_iff]
def eqPl (l m : List Pl) : Bool := decide (l = m)
def E32 : Env := ⟨tab, [], fun n => match n with | 4 => some ([0, 1, 5], [], []) | _ => none⟩
def K32 : Fn1 := ⟨.fld (.sl plT) (.one (.sl plT)), .one .bool, fun (a : List Pl × List Pl) => [a.1.length ≤ 100000], fun (a : List Pl × List Pl) => eqPl a.1 a.2⟩
def S32 (l m : List Pl) (i : Int) : SL := ⟨[.sl plT l, .sl plT m, .undef, .undef, .undef, .int .i64 i] ++ List.replicate 20 .undef, [], 0⟩
theorem k32 : FnOk Go.Proofs.Try.prog 32 K32 := by
  refine fn_ok (E := E32) (TOk.of tab_told) (fun f k h => by cases h) mix Go.Proofs.Try.func32 rfl rfl (by kernel_rfl) K32 ?_
  rintro ⟨(l : List Pl), (m : List Pl)⟩ hp
  have hl : l.length ≤ 100000 := hp _ (List.mem_cons_self ..)
  clear hp
  conv => whnf
  refine cond_intro (fun h => ?_) (fun h => ?_)
  · have h : (!decide ((l.length : Int) = (m.length : Int))) = true := h
    have h : ¬ (l.length : Int) = (m.length : Int) := by simpa using h
    conv => whnf
    show false = eqPl l m
    symm
    simp only [eqPl, decide_eq_false_iff_not]
    intro e; subst e; exact h rfl
  have h : (!decide ((l.length : Int) = (m.length : Int))) = false := h
  have h : (l.length : Int) = (m.length : Int) := by simpa using h
  have h : l.length = m.length := by omega
  conv => whnf
  refine loop_rule (S32 l m) (fun i => ((l.length : Int) - i).toNat) (fun i => 0 ≤ i ∧ i ≤ l.length ∧ l.take i.toNat = m.take i.toNat) ?_ 0 (by kernel_rfl) ?_ ⟨by omega, by omega, by simp⟩
  case refine_2 => rfl
  rintro i ⟨h0, h1, h2⟩
  conv => whnf
  refine cond_intro (fun hlt => ?_) (fun hge => ?_)
  · have hlt : i < l.length := @of_decide_eq_true _ _ hlt
    have hlm : i < m.length := by omega
    have e : gS l i.toNat = l[i.toNat]'(by omega) := gS_eq (by omega)
    have e' : gS m i.toNat = m[i.toNat]'(by omega) := gS_eq (by omega)
    have ht : l.take (i.toNat + 1) = l.take i.toNat ++ [gS l i.toNat] := by rw [List.take_succ_eq_append_getElem (by omega), e]
    have ht' : m.take (i.toNat + 1) = m.take i.toNat ++ [gS m i.toNat] := by rw [List.take_succ_eq_append_getElem (by omega), e']
    conv => whnf
    refine ⟨h0, ?_⟩
    conv => whnf
    refine ⟨hlt, ?_⟩
    conv => whnf
    refine ⟨h0, ?_⟩
    conv => whnf
    refine ⟨hlm, ?_⟩
    conv => whnf
    refine cond_intro (fun hd => ?_) (fun hd => ?_)
    · have hd : (!decide (gS l i.toNat = gS m i.toNat)) = true := by rw [pl_eq]; exact hd
      have hd : ¬ gS l i.toNat = gS m i.toNat := by simpa using hd
      conv => whnf
      show false = eqPl l m
      symm
      simp only [eqPl, decide_eq_false_iff_not]
      intro e; subst e; exact hd rfl
    · have hd : (!decide (gS l i.toNat = gS m i.toNat)) = false := by rw [pl_eq]; exact hd
      have hd : gS l i.toNat = gS m i.toNat := by simpa using hd
      conv => whnf
      have hw : IntKind.i64.wrap (i + 1) = i + 1 := wrap_eq (by omega) (by omega)
      refine ⟨i + 1, ?_, ⟨by omega, by omega, ?_⟩, by omega⟩
      · exact Eq.trans (b := S32 l m (IntKind.i64.wrap (i + 1))) rfl (by rw [hw])
      · rw [show (i + 1).toNat = i.toNat + 1 by omega, ht, ht', h2, hd]
  · have hge : ¬ i < l.length := @of_decide_eq_false _ _ hge
    conv => whnf
    show true = eqPl l m
    symm
    simp only [eqPl, decide_eq_true_eq]
    rw [List.take_of_length_le (by omega), List.take_of_length_le (by omega)] at h2
    exact h2
theorem pa_eq (a b : Pa) : decide (a = b) = (decide (a.1 = b.1) && (decide (a.2.1 = b.2.1) && (decide (a.2.2.1 = b.2.2.1) && (decide (a.2.2.2.1 = b.2.2.2.1) && (decide (a.2.2.2.2.1 = b.2.2.2.2.1) && (decide (a.2.2.2.2.2 = b.2.2.2.2.2) && true)))))) := by
  rw [Bool.eq_iff_iff]; simp [Prod.ext_iff]
def eqPa (l m : List Pa) : Bool := decide (l = m)
def E28 : Env := ⟨tab, [], fun n => match n with | 4 => some ([0, 1, 5], [], []) | _ => none⟩
def K28 : Fn1 := ⟨.fld (.sl paT) (.one (.sl paT)), .one .bool, fun (a : List Pa × List Pa) => [a.1.length ≤ 100000], fun (a : List Pa × List Pa) => eqPa a.1 a.2⟩
def S28 (l m : List Pa) (i : Int) : SL := ⟨[.sl paT l, .sl paT m, .undef, .undef, .undef, .int .i64 i] ++ List.replicate 20 .undef, [], 0⟩
theorem k28 : FnOk Go.Proofs.Try.prog 28 K28 := by
  refine fn_ok (E := E28) (TOk.of tab_told) (fun f k h => by cases h) mix Go.Proofs.Try.func28 rfl rfl (by kernel_rfl) K28 ?_
  rintro ⟨(l : List Pa), (m : List Pa)⟩ hp
  have hl : l.length ≤ 100000 := hp _ (List.mem_cons_self ..)
  clear hp
  conv => whnf
  refine cond_intro (fun h => ?_) (fun h => ?_)
  · have h : (!decide ((l.length : Int) = (m.length : Int))) = true := h
    have h : ¬ (l.length : Int) = (m.length : Int) := by simpa using h
    conv => whnf
    show false = eqPa l m
    symm
    simp only [eqPa, decide_eq_false_iff_not]
    intro e; subst e; exact h rfl
  have h : (!decide ((l.length : Int) = (m.length : Int))) = false := h
  have h : (l.length : Int) = (m.length : Int) := by simpa using h
  have h : l.length = m.length := by omega
  conv => whnf
  refine loop_rule (S28 l m) (fun i => ((l.length : Int) - i).toNat) (fun i => 0 ≤ i ∧ i ≤ l.length ∧ l.take i.toNat = m.take i.toNat) ?_ 0 (by kernel_rfl) ?_ ⟨by omega, by omega, by simp⟩
  case refine_2 => rfl
  rintro i ⟨h0, h1, h2⟩
  conv => whnf
  refine cond_intro (fun hlt => ?_) (fun hge => ?_)
  · have hlt : i < l.length := @of_decide_eq_true _ _ hlt
    have hlm : i < m.length := by omega
    have e : gP l i.toNat = l[i.toNat]'(by omega) := gP_eq (by omega)
    have e' : gP m i.toNat = m[i.toNat]'(by omega) := gP_eq (by omega)
    have ht : l.take (i.toNat + 1) = l.take i.toNat ++ [gP l i.toNat] := by rw [List.take_succ_eq_append_getElem (by omega), e]
    have ht' : m.take (i.toNat + 1) = m.take i.toNat ++ [gP m i.toNat] := by rw [List.take_succ_eq_append_getElem (by omega), e']
    conv => whnf
    refine ⟨h0, ?_⟩
    conv => whnf
    refine ⟨hlt, ?_⟩
    conv => whnf
    refine ⟨h0, ?_⟩
    conv => whnf
    refine ⟨hlm, ?_⟩
    conv => whnf
    refine cond_intro (fun hd => ?_) (fun hd => ?_)
    · have hd : (!decide (gP l i.toNat = gP m i.toNat)) = true := by rw [pa_eq]; exact hd
      have hd : ¬ gP l i.toNat = gP m i.toNat := by simpa using hd
      conv => whnf
      show false = eqPa l m
      symm
      simp only [eqPa, decide_eq_false_iff_not]
      intro e; subst e; exact hd rfl
    · have hd : (!decide (gP l i.toNat = gP m i.toNat)) = false := by rw [pa_eq]; exact hd
      have hd : gP l i.toNat = gP m i.toNat := by simpa using hd
      conv => whnf
      have hw : IntKind.i64.wrap (i + 1) = i + 1 := wrap_eq (by omega) (by omega)
      refine ⟨i + 1, ?_, ⟨by omega, by omega, ?_⟩, by omega⟩
      · exact Eq.trans (b := S28 l m (IntKind.i64.wrap (i + 1))) rfl (by rw [hw])
      · rw [show (i + 1).toNat = i.toNat + 1 by omega, ht, ht', h2, hd]
  · have hge : ¬ i < l.length := @of_decide_eq_false _ _ hge
    conv => whnf
    show true = eqPa l m
    symm
    simp only [eqPa, decide_eq_true_eq]
    rw [List.take_of_length_le (by omega), List.take_of_length_le (by omega)] at h2
    exact h2
theorem gR_eq {l : List Ra} {n : Nat} (h : n < l.length) : gR l n = l[n] := by simp [gR, h]
theorem ra_eq (a b : Ra) : decide (a = b) = (decide (a.1 = b.1) && (decide (a.2.1 = b.2.1) && (decide (a.2.2.1 = b.2.2.1) && (decide (a.2.2.2.1 = b.2.2.2.1) && (decide (a.2.2.2.2 = b.2.2.2.2) && true))))) := by
  rw [Bool.eq_iff_iff]; simp [Prod.ext_iff]
def eqRa (l m : List Ra) : Bool := decide (l = m)
def E33 : Env := ⟨tab, [], fun n => match n with | 4 => some ([0, 1, 5], [], []) | _ => none⟩
def K33 : Fn1 := ⟨.fld (.sl raT) (.one (.sl raT)), .one .bool, fun (a : List Ra × List Ra) => [a.1.length ≤ 100000], fun (a : List Ra × List Ra) => eqRa a.1 a.2⟩
def S33 (l m : List Ra) (i : Int) : SL := ⟨[.sl raT l, .sl raT m, .undef, .undef, .undef, .int .i64 i] ++ List.replicate 20 .undef, [], 0⟩
theorem k33 : FnOk Go.Proofs.Try.prog 33 K33 := by
  refine fn_ok (E := E33) (TOk.of tab_told) (fun f k h => by cases h) mix Go.Proofs.Try.func33 rfl rfl (by kernel_rfl) K33 ?_
  rintro ⟨(l : List Ra), (m : List Ra)⟩ hp
  have hl : l.length ≤ 100000 := hp _ (List.mem_cons_self ..)
  clear hp
  conv => whnf
  refine cond_intro (fun h => ?_) (fun h => ?_)
  · have h : (!decide ((l.length : Int) = (m.length : Int))) = true := h
    have h : ¬ (l.length : Int) = (m.length : Int) := by simpa using h
    conv => whnf
    show false = eqRa l m
    symm
    simp only [eqRa, decide_eq_false_iff_not]
    intro e; subst e; exact h rfl
  have h : (!decide ((l.length : Int) = (m.length : Int))) = false := h
  have h : (l.length : Int) = (m.length : Int) := by simpa using h
  have h : l.length = m.length := by omega
  conv => whnf
  refine loop_rule (S33 l m) (fun i => ((l.length : Int) - i).toNat) (fun i => 0 ≤ i ∧ i ≤ l.length ∧ l.take i.toNat = m.take i.toNat) ?_ 0 (by kernel_rfl) ?_ ⟨by omega, by omega, by simp⟩
  case refine_2 => rfl
  rintro i ⟨h0, h1, h2⟩
  conv => whnf
  refine cond_intro (fun hlt => ?_) (fun hge => ?_)
  · have hlt : i < l.length := @of_decide_eq_true _ _ hlt
    have hlm : i < m.length := by omega
    have e : gR l i.toNat = l[i.toNat]'(by omega) := gR_eq (by omega)
    have e' : gR m i.toNat = m[i.toNat]'(by omega) := gR_eq (by omega)
    have ht : l.take (i.toNat + 1) = l.take i.toNat ++ [gR l i.toNat] := by rw [List.take_succ_eq_append_getElem (by omega), e]
    have ht' : m.take (i.toNat + 1) = m.take i.toNat ++ [gR m i.toNat] := by rw [List.take_succ_eq_append_getElem (by omega), e']
    conv => whnf
    refine ⟨h0, ?_⟩
    conv => whnf
    refine ⟨hlt, ?_⟩
    conv => whnf
    refine ⟨h0, ?_⟩
    conv => whnf
    refine ⟨hlm, ?_⟩
    conv => whnf
    refine cond_intro (fun hd => ?_) (fun hd => ?_)
    · have hd : (!decide (gR l i.toNat = gR m i.toNat)) = true := by rw [ra_eq]; exact hd
      have hd : ¬ gR l i.toNat = gR m i.toNat := by simpa using hd
      conv => whnf
      show false = eqRa l m
      symm
      simp only [eqRa, decide_eq_false_iff_not]
      intro e; subst e; exact hd rfl
    · have hd : (!decide (gR l i.toNat = gR m i.toNat)) = false := by rw [ra_eq]; exact hd
      have hd : gR l i.toNat = gR m i.toNat := by simpa using hd
      conv => whnf
      have hw : IntKind.i64.wrap (i + 1) = i + 1 := wrap_eq (by omega) (by omega)
      refine ⟨i + 1, ?_, ⟨by omega, by omega, ?_⟩, by omega⟩
      · exact Eq.trans (b := S33 l m (IntKind.i64.wrap (i + 1))) rfl (by rw [hw])
      · rw [show (i + 1).toNat = i.toNat + 1 by omega, ht, ht', h2, hd]
  · have hge : ¬ i < l.length := @of_decide_eq_false _ _ hge
    conv => whnf
    show true = eqRa l m
    symm
    simp only [eqRa, decide_eq_true_eq]
    rw [List.take_of_length_le (by omega), List.take_of_length_le (by omega)] at h2
    exact h2
end
end Go.Proofs.Yteidanhfkaljaaa.Eng
set_option linter.unusedVariables false
namespace Go.Proofs.Yteidanhfkaljaaa.Eng
open Go
set_option maxRecDepth 100000
noncomputable section
def E22 : Env := ⟨tab, [(32, K32), (28, K28), (33, K33)], ann0⟩
def sameSt (a b : St) : Bool := decide (a.1 = b.1) && eqPl a.2.1 b.2.1 && eqPa a.2.2.1 b.2.2.1 && eqRa a.2.2.2 b.2.2.2
def K22 : Fn1 := ⟨.fld stT (.one stT), .one .bool, fun (a : St × St) => small a.1, fun (a : St × St) => sameSt a.1 a.2⟩
theorem k22 : FnOk Go.Proofs.Try.prog 22 K22 := by
  refine fn_ok (E := E22) (TOk.of tab_told) (AllOk.cons k32 (.cons k28 (.cons k33 .nil))).at_ mix Go.Proofs.Try.func22 rfl rfl (by kernel_rfl) K22 ?_
  rintro ⟨⟨(ow : Int), (ps : List Pl), (ws : List Pa), (rs : List Ra)⟩, ⟨(ow' : Int), (ps' : List Pl), (ws' : List Pa), (rs' : List Ra)⟩⟩ hp
  have g1 : ps.length ≤ 100000 := hp _ (List.mem_cons_self ..)
  have g2 : ws.length ≤ 100000 := hp _ (List.mem_cons_of_mem _ (List.mem_cons_self ..))
  have g3 : rs.length ≤ 100000 := hp _ (List.mem_cons_of_mem _ (List.mem_cons_of_mem _ (List.mem_cons_self ..)))
  clear hp
  iterate 9 (all_goals (conv => whnf); all_goals (first | refine ⟨g1, ?_⟩ | refine ⟨g2, ?_⟩ | refine ⟨g3, ?_⟩ | refine cond_intro (fun h => ?_) (fun h => ?_) | skip))
  all_goals (simp only [K32, K28, K33, cond_true] at *)
  all_goals (show _ = sameSt (ow, ps, ws, rs) (ow', ps', ws', rs'); simp [sameSt, *])
end
end Go.Proofs.Yteidanhfkaljaaa.Eng
/- How units are shared by scores: what stop.Split tells, in plain words. -/
set_option linter.unusedVariables false
set_option linter.unusedSimpArgs false
namespace Go.Proofs.Yteidanhfkaljaaa.Eng
open Go
def mx (a b : Int) : Int := if b > a then b else a
def allIn (m : Int) (l : List Int) : Bool := l.all fun n => decide (0 ≤ n) && decide (n ≤ m)
theorem allIn_nil (m : Int) : allIn m [] = true := rfl
theorem allIn_cons (m x : Int) (r : List Int) : allIn m (x :: r) = (decide (0 ≤ x ∧ x ≤ m) && allIn m r) := by simp [allIn]
def bestL : Int → List Int → Int
  | b, [] => b
  | b, x :: r => bestL (mx b x) r
def sumL : List Int → Int
  | [] => 0
  | x :: r => x + sumL r
def In255 (l : List Int) : Prop := ∀ x ∈ l, 0 ≤ x ∧ x ≤ 255
theorem allIn_iff (m : Int) : ∀ (l : List Int), allIn m l = true ↔ ∀ x ∈ l, 0 ≤ x ∧ x ≤ m
  | [] => by simp [allIn]
  | x :: r => by rw [allIn_cons]; simp [allIn_iff m r]
theorem best_bd : ∀ (l : List Int) (b : Int), In255 l → 0 ≤ b → b ≤ 255 → 0 ≤ bestL b l ∧ bestL b l ≤ 255
  | [], b, _, h0, h1 => ⟨h0, h1⟩
  | x :: r, b, h, h0, h1 => by
    have hx := h x (by simp)
    exact best_bd r (mx b x) (fun y hy => h y (by simp [hy])) (by unfold mx; split <;> omega) (by unfold mx; split <;> omega)
theorem best_ge : ∀ (l : List Int) (b : Int), b ≤ bestL b l ∧ ∀ x ∈ l, x ≤ bestL b l
  | [], b => ⟨by simp [bestL], by simp⟩
  | y :: r, b => by
    have ih := best_ge r (mx b y)
    have h1 : b ≤ mx b y ∧ y ≤ mx b y := by unfold mx; split <;> omega
    refine ⟨by rw [bestL]; omega, fun x hx => ?_⟩
    rw [bestL]
    rcases List.mem_cons.1 hx with rfl | hx
    · omega
    · exact ih.2 x hx
theorem sum_bd : ∀ (l : List Int), In255 l → 0 ≤ sumL l ∧ sumL l ≤ 255 * l.length
  | [], _ => by simp [sumL]
  | x :: r, h => by
    have hx := h x (by simp)
    have ih := sum_bd r (fun y hy => h y (by simp [hy]))
    rw [sumL]; simp only [List.length_cons, Int.natCast_add]; omega
def cut (m s x : Int) : Int := m * x / s
theorem cut_bd {m s x : Int} (m0 : 0 ≤ m) (m1 : m ≤ 1000000) (s0 : 0 < s) (x0 : 0 ≤ x) (x1 : x ≤ 255) : 0 ≤ m * x ∧ m * x ≤ 255000000 ∧ 0 ≤ cut m s x ∧ cut m s x ≤ 255000000 := by
  have h0 : 0 ≤ m * x := Int.mul_nonneg m0 x0
  have h1 : m * x ≤ 1000000 * 255 := Int.mul_le_mul m1 x1 x0 (by omega)
  refine ⟨h0, by omega, Int.ediv_nonneg h0 (by omega), ?_⟩
  have : m * x / s ≤ m * x := Int.ediv_le_self _ h0
  show m * x / s ≤ _
  omega
def passL (sc : Int) : List Int → Int → Int
  | [], left => left
  | x :: xs, left => if x = sc ∧ left > 0 then passL sc xs (left - 1) else passL sc xs left
def passO (sc : Int) : List Int → List Int → Int → List Int
  | x :: xs, o :: os, left => if x = sc ∧ left > 0 then (o + 1) :: passO sc xs os (left - 1) else o :: passO sc xs os left
  | _, _, _ => []
def cnt (d : Int) : List Int → Int
  | [] => 0
  | x :: r => (if 1 ≤ x ∧ x ≤ d then 1 else 0) + cnt d r
theorem cnt_nn (d : Int) : ∀ (l : List Int), 0 ≤ cnt d l
  | [] => by simp [cnt]
  | x :: r => by have := cnt_nn d r; rw [cnt]; split <;> omega
theorem cnt_zero : ∀ (l : List Int), cnt 0 l = 0
  | [] => rfl
  | x :: r => by rw [cnt, cnt_zero r, if_neg (by omega)]; rfl
theorem passL_le (d : Int) (hd : 0 ≤ d) : ∀ (l : List Int) (left c : Int), 0 ≤ c → left ≤ c + cnt (d + 1) l → passL (d + 1) l left ≤ c + cnt d l
  | [], left, c, hc, h => by simpa [passL, cnt] using h
  | x :: r, left, c, hc, h => by
    rw [cnt] at h ⊢
    rw [passL]
    have n1 := cnt_nn (d + 1) r
    by_cases e : x = d + 1
    · rw [if_pos (show 1 ≤ x ∧ x ≤ d + 1 by omega)] at h
      rw [if_neg (show ¬ (1 ≤ x ∧ x ≤ d) by omega)]
      by_cases g : left > 0
      · rw [if_pos ⟨e, g⟩]
        have := passL_le d hd r (left - 1) c hc (by omega)
        omega
      · rw [if_neg (fun h => g h.2)]
        have := passL_le d hd r left c hc (by omega)
        omega
    · rw [if_neg (fun h => e h.1)]
      by_cases g : 1 ≤ x ∧ x ≤ d
      · rw [if_pos (show 1 ≤ x ∧ x ≤ d + 1 by omega)] at h
        rw [if_pos g]
        have := passL_le d hd r left (c + 1) (by omega) (by omega)
        omega
      · rw [if_neg (show ¬ (1 ≤ x ∧ x ≤ d + 1) by omega)] at h
        rw [if_neg g]
        have := passL_le d hd r left c hc (by omega)
        omega
theorem passL_ge (sc : Int) : ∀ (l : List Int) (left : Int), passL sc l left ≤ left ∧ (left - l.length ≤ passL sc l left)
  | [], left => by simp [passL]
  | x :: r, left => by
    rw [passL]
    simp only [List.length_cons, Int.natCast_add]
    split
    · have := passL_ge sc r (left - 1); omega
    · have := passL_ge sc r left; omega
theorem passO_len (sc : Int) : ∀ (l os : List Int) (left : Int), os.length = l.length → (passO sc l os left).length = l.length
  | [], [], _, _ => rfl
  | x :: r, o :: os, left, h => by
    rw [passO]
    split <;> simp [passO_len sc r os _ (by simpa using h)]
theorem passO_bd (sc b : Int) : ∀ (l os : List Int) (left : Int), (∀ o ∈ os, 0 ≤ o ∧ o ≤ b) → ∀ o ∈ passO sc l os left, 0 ≤ o ∧ o ≤ b + 1
  | x :: r, o :: os, left, h => by
    have h1 := h o (by simp)
    have h2 : ∀ o ∈ os, 0 ≤ o ∧ o ≤ b := fun y hy => h y (by simp [hy])
    rw [passO]
    split
    · intro y hy
      rcases List.mem_cons.1 hy with rfl | hy
      · omega
      · exact passO_bd sc b r os _ h2 y hy
    · intro y hy
      rcases List.mem_cons.1 hy with rfl | hy
      · omega
      · exact passO_bd sc b r os _ h2 y hy
  | [], _, _, _ => by simp [passO]
  | x :: r, [], _, _ => by simp [passO]
def spin (L : List Int) : Nat → Int → List Int → List Int
  | 0, _, out => out
  | d + 1, left, out => if left > 0 then spin L d (passL ((d : Int) + 1) L left) (passO ((d : Int) + 1) L out left) else out
theorem rem_le {m s d : Int} (s0 : 0 < s) : ∀ (l : List Int), (∀ x ∈ l, 0 ≤ x ∧ x ≤ d) → m * sumL l - s * sumL (l.map (cut m s)) ≤ s * cnt d l
  | [], _ => by simp [sumL, cnt]
  | x :: r, h => by
    have hx := h x (by simp)
    have ih := rem_le (m := m) (d := d) s0 r (fun y hy => h y (by simp [hy]))
    rw [List.map_cons, sumL, sumL, cnt, Int.mul_add, Int.mul_add, Int.mul_add]
    have e := Int.mul_ediv_add_emod (m * x) s
    have l1 := Int.emod_lt_of_pos (m * x) s0
    have l0 := Int.emod_nonneg (m * x) (show s ≠ 0 by omega)
    have key : m * x - s * cut m s x ≤ s * (if 1 ≤ x ∧ x ≤ d then 1 else 0) := by
      unfold cut
      by_cases c : 1 ≤ x ∧ x ≤ d
      · rw [if_pos c]; omega
      · obtain rfl : x = 0 := by omega
        rw [if_neg c]; simp
    omega
theorem left_le {m s d : Int} (s0 : 0 < s) {l : List Int} (hs : sumL l = s) (h : ∀ x ∈ l, 0 ≤ x ∧ x ≤ d) : m - sumL (l.map (cut m s)) ≤ cnt d l := by
  have := rem_le (m := m) (d := d) s0 l h
  rw [hs] at this
  refine Int.le_of_mul_le_mul_left (a := s) ?_ s0
  rw [Int.mul_sub, Int.mul_comm s m]
  exact this
def share (n : Int) (L : List Int) : Int := n * bestL 0 L / 255
def splitOf (n : Int) (L : List Int) : List Int × Int :=
  if ¬ (0 ≤ n ∧ n ≤ 1000000) then ([], 1) else if allIn 255 L = false then ([], 1) else if (L.length : Int) > 1000 then ([], 4) else
  if sumL L = 0 then (List.replicate L.length 0, 0) else
  (spin L (bestL 0 L).toNat (share n L - sumL (L.map (cut (share n L) (sumL L)))) (L.map (cut (share n L) (sumL L))), 0)
theorem in255 {L : List Int} (h : allIn 255 L = true) : In255 L := (allIn_iff 255 L).1 h
theorem spin_len (L : List Int) : ∀ (d : Nat) (left : Int) (out : List Int), out.length = L.length → (spin L d left out).length = L.length
  | 0, _, out, h => h
  | d + 1, left, out, h => by
    rw [spin]
    split
    · exact spin_len L d _ _ (passO_len _ L out left h)
    · exact h
theorem splitOf_len (n : Int) (L : List Int) : (splitOf n L).1.length ≤ 1000 := by
  unfold splitOf
  (repeat' split) <;> simp
  · omega
  · rw [spin_len L _ _ _ (by simp)]; omega
end Go.Proofs.Yteidanhfkaljaaa.Eng
set_option linter.unusedVariables false
namespace Go.Proofs.Yteidanhfkaljaaa.Eng
open Go
set_option maxRecDepth 100000
noncomputable section
def E13 : Env := ⟨tab, [(35, K35)], fun n => match n with | 8 => some ([0, 1, 6, 7, 8, 33, 34, 35], [], []) | 17 => some ([1, 6, 7, 8, 11, 12, 54, 55, 56], [], []) | 23 => some ([1, 6, 12, 15], [], []) | 26 => some ([1, 6, 12, 15, 81, 82, 83], [], []) | _ => none⟩
def K13 : Fn1 := ⟨.fld I (.one (.sl I)), .fld (.sl I) (.one I), fun (a : Int × List Int) => [a.2.length ≤ 140737488351232], fun (a : Int × List Int) => splitOf a.1 a.2⟩
theorem bestL_snoc (x : Int) : ∀ (l : List Int) (b : Int), bestL b (l ++ [x]) = mx (bestL b l) x
  | [], b => rfl
  | y :: r, b => by rw [List.cons_append, bestL, bestL_snoc x r, bestL]
theorem sumL_snoc (x : Int) : ∀ (l : List Int), sumL (l ++ [x]) = sumL l + x
  | [] => by simp [sumL]
  | y :: r => by rw [List.cons_append, sumL, sumL_snoc x r, sumL]; omega
theorem passL_snoc (sc x : Int) : ∀ (l : List Int) (left : Int), passL sc (l ++ [x]) left = if x = sc ∧ passL sc l left > 0 then passL sc l left - 1 else passL sc l left
  | [], left => by simp [passL]
  | y :: r, left => by
    rw [List.cons_append, passL, passL]
    split <;> exact passL_snoc sc x r _
theorem passO_snoc (sc x o : Int) : ∀ (l os : List Int) (left : Int), os.length = l.length → passO sc (l ++ [x]) (os ++ [o]) left = passO sc l os left ++ [if x = sc ∧ passL sc l left > 0 then o + 1 else o]
  | [], [], left, _ => by
    rw [List.nil_append, List.nil_append, passO, passL]
    split <;> simp [passO]
  | y :: r, p :: os, left, h => by
    have ih := passO_snoc sc x o r os
    rw [List.cons_append, List.cons_append, passO, passO, passL]
    split <;> rw [ih _ (by simpa using h), List.cons_append]
def midL (sc : Int) (l : List Int) (left : Int) (i : Nat) : Int := passL sc (l.take i) left
def midO (sc : Int) (l out : List Int) (left : Int) (i : Nat) : List Int := passO sc (l.take i) (out.take i) left ++ out.drop i
theorem take_succ_gI {l : List Int} {i : Nat} (h : i < l.length) : l.take (i + 1) = l.take i ++ [gI l i] := by
  rw [List.take_succ_eq_append_getElem h, gI_eq h]
theorem midL_step {sc left : Int} {l : List Int} {i : Nat} (h : i < l.length) : midL sc l left (i + 1) = if gI l i = sc ∧ midL sc l left i > 0 then midL sc l left i - 1 else midL sc l left i := by
  unfold midL
  rw [take_succ_gI h, passL_snoc]
theorem midO_len {sc left : Int} {l out : List Int} {i : Nat} (ho : out.length = l.length) (hi : i ≤ l.length) : (midO sc l out left i).length = l.length := by
  unfold midO
  rw [List.length_append, passO_len _ _ _ _ (by simp [ho])]
  simp; omega
theorem midO_get {sc left : Int} {l out : List Int} {i : Nat} (ho : out.length = l.length) (hi : i < l.length) : gI (midO sc l out left i) i = gI out i := by
  have e : (passO sc (l.take i) (out.take i) left).length = i := by
    rw [passO_len _ _ _ _ (by simp [ho])]; simp; omega
  unfold midO gI
  rw [List.getD_eq_getElem?_getD, List.getD_eq_getElem?_getD, List.getElem?_append_right (by omega), e, List.getElem?_drop]
  simp
theorem midO_step {sc left : Int} {l out : List Int} {i : Nat} (ho : out.length = l.length) (h : i < l.length) : midO sc l out left (i + 1) = if gI l i = sc ∧ midL sc l left i > 0 then (midO sc l out left i).set i (gI (midO sc l out left i) i + 1) else midO sc l out left i := by
  have e : (passO sc (l.take i) (out.take i) left).length = i := by
    rw [passO_len _ _ _ _ (by simp [ho])]; simp; omega
  have hd : out.drop i = gI out i :: out.drop (i + 1) := by rw [gI_eq (by omega)]; exact List.drop_eq_getElem_cons (by omega)
  rw [midO_get ho h]
  unfold midO midL
  rw [take_succ_gI h, take_succ_gI (show i < out.length by omega), passO_snoc _ _ _ _ _ _ (by simp [ho]), hd]
  split
  · rw [List.set_append_right _ _ (by omega), e]; simp
  · simp
theorem midL_end {sc left : Int} {l : List Int} {i : Nat} (h : l.length ≤ i) : midL sc l left i = passL sc l left := by unfold midL; rw [List.take_of_length_le h]
theorem midO_end {sc left : Int} {l out : List Int} {i : Nat} (ho : out.length = l.length) (h : l.length ≤ i) : midO sc l out left i = passO sc l out left := by unfold midO; rw [List.take_of_length_le h, List.take_of_length_le (by omega), List.drop_of_length_le (by omega), List.append_nil]
theorem midL_zero {sc left : Int} {l : List Int} : midL sc l left 0 = left := by unfold midL; rw [List.take_zero, passL]
theorem midO_zero {sc left : Int} {l out : List Int} : midO sc l out left 0 = out := by unfold midO; rw [List.take_zero, passO]; rfl; simp
theorem midL_bd {sc left : Int} {l : List Int} {i : Nat} (h : i ≤ l.length) : midL sc l left i ≤ left ∧ left - i ≤ midL sc l left i := by
  have := passL_ge sc (l.take i) left
  rw [List.length_take] at this
  unfold midL
  omega
def cutO (m s : Int) (l : List Int) (i : Nat) : List Int := (l.take i).map (cut m s) ++ List.replicate (l.length - i) 0
theorem cutO_len {m s : Int} {l : List Int} {i : Nat} (h : i ≤ l.length) : (cutO m s l i).length = l.length := by
  unfold cutO; simp; omega
theorem cutO_step {m s : Int} {l : List Int} {i : Nat} (h : i < l.length) : cutO m s l (i + 1) = (cutO m s l i).set i (cut m s (gI l i)) := by
  unfold cutO
  rw [take_succ_gI h, List.set_append_right _ _ (by simp; omega), show l.length - i = (l.length - (i + 1)) + 1 by omega, List.replicate_succ]
  simp [show min i l.length = i by omega]
theorem cutO_zero {m s : Int} {l : List Int} : cutO m s l 0 = List.replicate l.length 0 := by simp [cutO]
theorem cutO_end {m s : Int} {l : List Int} {i : Nat} (h : l.length ≤ i) : cutO m s l i = l.map (cut m s) := by unfold cutO; rw [List.take_of_length_le h]; simp; omega
theorem gI_set {l : List Int} {i : Nat} {x : Int} (h : i < l.length) : gI (l.set i x) i = x := by
  unfold gI; simp [h]
def cutS (m s : Int) (l : List Int) (i : Nat) : Int := m - sumL ((l.take i).map (cut m s))
theorem cutS_step {m s : Int} {l : List Int} {i : Nat} (h : i < l.length) : cutS m s l (i + 1) = cutS m s l i - cut m s (gI l i) := by
  unfold cutS
  rw [take_succ_gI h, List.map_append, List.map_singleton, sumL_snoc]; omega
theorem cutS_zero {m s : Int} {l : List Int} : cutS m s l 0 = m := by simp [cutS, sumL]
theorem cutS_end {m s : Int} {l : List Int} {i : Nat} (h : l.length ≤ i) : cutS m s l i = m - sumL (l.map (cut m s)) := by unfold cutS; rw [List.take_of_length_le h]
theorem sum_bd2 (b : Int) : ∀ (l : List Int), (∀ x ∈ l, 0 ≤ x ∧ x ≤ b) → 0 ≤ sumL l ∧ sumL l ≤ b * l.length
  | [], _ => by simp [sumL]
  | x :: r, h => by
    have hx := h x (by simp)
    have ih := sum_bd2 b r (fun y hy => h y (by simp [hy]))
    rw [sumL]; simp only [List.length_cons, Int.natCast_add, Int.mul_add]; omega
theorem cuts_bd {m s : Int} {l : List Int} (m0 : 0 ≤ m) (m1 : m ≤ 1000000) (s0 : 0 < s) (h : In255 l) (k : Nat) : ∀ x ∈ (l.take k).map (cut m s), 0 ≤ x ∧ x ≤ 255000000 := by
  intro x hx
  rcases List.mem_map.1 hx with ⟨y, hy, rfl⟩
  have hb := h y (List.mem_of_mem_take hy)
  have := cut_bd m0 m1 s0 hb.1 hb.2
  omega
theorem cutS_bd {m s : Int} {l : List Int} (m0 : 0 ≤ m) (m1 : m ≤ 1000000) (s0 : 0 < s) (h : In255 l) (k : Nat) (hk : l.length ≤ 1000) : cutS m s l k ≤ m ∧ -255000000000 ≤ cutS m s l k := by
  have := sum_bd2 255000000 _ (cuts_bd m0 m1 s0 h k)
  have e : ((l.take k).map (cut m s)).length ≤ 1000 := by simp; omega
  unfold cutS
  omega
def S13a (n : Int) (l out : List Int) (b s i : Int) : SL := ⟨[.int .i64 n, .sl I l] ++ List.replicate 4 .undef ++ [.own 0, .int .i64 b, .int .i64 s] ++ List.replicate 24 .undef ++ [.sl I l, .int .i64 l.length, .int .i64 i] ++ List.replicate 69 .undef, [(0, .arr I out)], 1⟩
def S13b (l out : List Int) (b s m left i : Int) : SL := ⟨[.undef, .sl I l] ++ List.replicate 4 .undef ++ [.own 0, .int .i64 b, .int .i64 s, .undef, .undef, .int .i64 m, .int .i64 left] ++ List.replicate 41 .undef ++ [.sl I l, .int .i64 l.length, .int .i64 i] ++ List.replicate 48 .undef, [(0, .arr I out)], 1⟩
def S13c (l out : List Int) (left d : Int) : SL := ⟨[.undef, .sl I l] ++ List.replicate 4 .undef ++ [.own 0] ++ List.replicate 5 .undef ++ [.int .i64 left, .undef, .undef, .int .i64 d] ++ List.replicate 89 .undef, [(0, .arr I out)], 1⟩
def S13d (l out : List Int) (left d i : Int) : SL := ⟨[.undef, .sl I l] ++ List.replicate 4 .undef ++ [.own 0] ++ List.replicate 5 .undef ++ [.int .i64 left, .undef, .undef, .int .i64 d] ++ List.replicate 65 .undef ++ [.sl I l, .int .i64 l.length, .int .i64 i] ++ List.replicate 21 .undef, [(0, .arr I out)], 1⟩
theorem k13 : FnOk Go.Proofs.Try.prog 13 K13 := by
  refine fn_ok (E := E13) (TOk.of tab_told) (AllOk.cons k35 .nil).at_ mix Go.Proofs.Try.func13 rfl rfl (by kernel_rfl) K13 ?_
  rintro ⟨(n : Int), (l : List Int)⟩ hp
  have hl : l.length ≤ 140737488351232 := hp _ (List.mem_cons_self ..)
  clear hp
  conv => whnf
  refine ⟨show 1 ≤ 140737488351232 by omega, ?_⟩
  conv => whnf
  refine cond_intro (fun hn => ?_) (fun hn => ?_)
  · have hn : (!withinR (1000000, [n])) = true := hn
    have hn : ¬ (0 ≤ n ∧ n ≤ 1000000) := by
      intro c
      simp [withinR, c.1, c.2] at hn
    conv => whnf
    show ([], 1) = splitOf n l
    rw [splitOf, if_pos hn]
  have hn : (!withinR (1000000, [n])) = false := hn
  have hn : 0 ≤ n ∧ n ≤ 1000000 := by simpa [withinR] using hn
  conv => whnf
  refine ⟨show l.length ≤ 140737488351232 by omega, ?_⟩
  conv => whnf
  refine cond_intro (fun ha => ?_) (fun ha => ?_)
  · have ha : (!allIn 255 l) = true := ha
    have ha : allIn 255 l = false := by simpa using ha
    conv => whnf
    show ([], 1) = splitOf n l
    rw [splitOf, if_neg (fun h => h hn), if_pos ha]
  have ha : (!allIn 255 l) = false := ha
  have ha : allIn 255 l = true := by simpa using ha
  have hi := in255 ha
  conv => whnf
  refine cond_intro (fun hg => ?_) (fun hg => ?_)
  · have hg : 1000 < (l.length : Int) := @of_decide_eq_true _ _ hg
    conv => whnf
    show ([], 4) = splitOf n l
    rw [splitOf, if_neg (fun h => h hn), if_neg (by simp [ha]), if_pos hg]
  have hg : ¬ 1000 < (l.length : Int) := @of_decide_eq_false _ _ hg
  have v1 : splitOf n l = if sumL l = 0 then (List.replicate l.length 0, 0) else
      (spin l (bestL 0 l).toNat (share n l - sumL (l.map (cut (share n l) (sumL l)))) (l.map (cut (share n l) (sumL l))), 0) := by
    rw [splitOf, if_neg (fun h => h hn), if_neg (by simp [ha]), if_neg (by omega)]
  conv => whnf
  refine ⟨show (0 : Int) ≤ l.length by omega, ?_⟩
  conv => whnf
  refine ⟨show (l.length : Int) ≤ l.length by omega, ?_⟩
  conv => whnf
  refine ⟨show (l.length : Int) * 8 ≤ 70368744177664 by omega, ?_⟩
  conv => whnf
  refine ⟨show (l.length : Int) ≤ 70368744177664 by omega, ?_⟩
  conv => whnf
  refine loop_rule (fun i => S13a n l (List.replicate l.length 0) (bestL 0 (l.take i.toNat)) (sumL (l.take i.toNat)) i) (fun i => ((l.length : Int) - i).toNat) (fun i => 0 ≤ i ∧ i ≤ l.length) ?_ 0 (by kernel_rfl) ?_ ⟨by omega, by omega⟩
  case refine_2 => rfl
  rintro i ⟨h0, h1⟩
  conv => whnf
  refine cond_intro (fun hlt => ?_) (fun hge => ?_)
  · have hlt : i < l.length := @of_decide_eq_true _ _ hlt
    have e : gI l i.toNat = l[i.toNat]'(by omega) := gI_eq _
    have ht : l.take (i.toNat + 1) = l.take i.toNat ++ [gI l i.toNat] := by rw [List.take_succ_eq_append_getElem (by omega), e]
    have hw : IntKind.i64.wrap (i + 1) = i + 1 := wrap_eq (by omega) (by omega)
    have en : (i + 1).toNat = i.toNat + 1 := by omega
    have hx : 0 ≤ gI l i.toNat ∧ gI l i.toNat ≤ 255 := hi _ (by rw [e]; exact List.getElem_mem _)
    have hsb := sum_bd (l.take i.toNat) (fun x hx => hi x (List.mem_of_mem_take hx))
    have hlen : (l.take i.toNat).length ≤ 1000 := by rw [List.length_take]; omega
    have hws : IntKind.i64.wrap (sumL (l.take i.toNat) + gI l i.toNat) = sumL (l.take i.toNat) + gI l i.toNat := wrap_eq (by omega) (by omega)
    conv => whnf
    refine ⟨h0, ?_⟩
    conv => whnf
    refine ⟨hlt, ?_⟩
    conv => whnf
    refine ⟨i + 1, ?_, ⟨by omega, by omega⟩, by omega⟩
    exact Eq.trans (b := S13a n l (List.replicate l.length 0) (mx (bestL 0 (l.take i.toNat)) (gI l i.toNat)) (IntKind.i64.wrap (sumL (l.take i.toNat) + gI l i.toNat)) (IntKind.i64.wrap (i + 1))) rfl (by rw [hw, hws, en, ht, bestL_snoc, sumL_snoc])
  have hge : ¬ i < l.length := @of_decide_eq_false _ _ hge
  have el : l.take i.toNat = l := List.take_of_length_le (by omega)
  rw [el]
  conv => whnf
  have hsum := sum_bd l hi
  have hbest := best_bd l 0 hi (by omega) (by omega)
  refine cond_intro (fun hz => ?_) (fun hz => ?_)
  · have hz : sumL l = 0 := @of_decide_eq_true _ _ hz
    conv => whnf
    show (List.replicate l.length 0, 0) = splitOf n l
    rw [v1, if_pos hz]
  have hz : ¬ sumL l = 0 := @of_decide_eq_false _ _ hz
  have v2 : splitOf n l = (spin l (bestL 0 l).toNat (share n l - sumL (l.map (cut (share n l) (sumL l)))) (l.map (cut (share n l) (sumL l))), 0) := by
    rw [v1, if_neg hz]
  have hnb : 0 ≤ n * bestL 0 l ∧ n * bestL 0 l ≤ 255000000 := ⟨Int.mul_nonneg hn.1 hbest.1, by
    have := Int.mul_le_mul hn.2 hbest.2 hbest.1 (show (0 : Int) ≤ 1000000 by omega)
    omega⟩
  have hm : IntKind.i64.wrap (Int.tdiv (IntKind.i64.wrap (n * bestL 0 l)) 255) = share n l := by
    rw [wrap_eq (i := n * bestL 0 l) (by omega) (by omega), Int.tdiv_eq_ediv_of_nonneg hnb.1]
    unfold share
    exact wrap_eq (by omega) (by omega)
  have hmb : 0 ≤ share n l ∧ share n l ≤ 1000000 := by unfold share; omega
  conv => whnf
  refine ⟨show (255 : Int) ≠ 0 by omega, ?_⟩
  conv => whnf
  refine loop_rule (fun i => S13b l (cutO (share n l) (sumL l) l i.toNat) (bestL 0 l) (sumL l) (share n l) (cutS (share n l) (sumL l) l i.toNat) i) (fun i => ((l.length : Int) - i).toNat) (fun i => 0 ≤ i ∧ i ≤ l.length) ?_ 0 (by kernel_rfl) ?_ ⟨by omega, by omega⟩
  case refine_2 =>
    exact Eq.trans (b := S13b l (List.replicate l.length 0) (bestL 0 l) (sumL l) (IntKind.i64.wrap (Int.tdiv (IntKind.i64.wrap (n * bestL 0 l)) 255)) (IntKind.i64.wrap (Int.tdiv (IntKind.i64.wrap (n * bestL 0 l)) 255)) 0) rfl (by rw [hm, show (0 : Int).toNat = 0 from rfl, cutO_zero, cutS_zero])
  rintro i ⟨h0, h1⟩
  conv => whnf
  refine cond_intro (fun hlt => ?_) (fun hge => ?_)
  · have hlt : i < l.length := @of_decide_eq_true _ _ hlt
    have hN : i.toNat < l.length := by omega
    have e : gI l i.toNat = l[i.toNat]'(by omega) := gI_eq _
    have hx : 0 ≤ gI l i.toNat ∧ gI l i.toNat ≤ 255 := hi _ (by rw [e]; exact List.getElem_mem _)
    have hw : IntKind.i64.wrap (i + 1) = i + 1 := wrap_eq (by omega) (by omega)
    have en : (i + 1).toNat = i.toNat + 1 := by omega
    have hc := cut_bd hmb.1 hmb.2 (show 0 < sumL l by omega) hx.1 hx.2
    have hcut : IntKind.i64.wrap (Int.tdiv (IntKind.i64.wrap (share n l * gI l i.toNat)) (sumL l)) = cut (share n l) (sumL l) (gI l i.toNat) := by
      rw [wrap_eq (i := share n l * gI l i.toNat) (by omega) (by omega), Int.tdiv_eq_ediv_of_nonneg hc.1]
      exact wrap_eq (by unfold cut at hc; omega) (by unfold cut at hc; omega)
    have hol := cutO_len (m := share n l) (s := sumL l) (show i.toNat ≤ l.length by omega)
    have hsl := cutS_bd hmb.1 hmb.2 (show 0 < sumL l by omega) hi i.toNat (by omega)
    have hws : IntKind.i64.wrap (cutS (share n l) (sumL l) l i.toNat - cut (share n l) (sumL l) (gI l i.toNat)) = cutS (share n l) (sumL l) l i.toNat - cut (share n l) (sumL l) (gI l i.toNat) := wrap_eq (by omega) (by omega)
    conv => whnf
    refine ⟨h0, ?_⟩
    conv => whnf
    refine ⟨hlt, ?_⟩
    conv => whnf
    refine ⟨hz, ?_⟩
    conv => whnf
    refine ⟨h0, ?_⟩
    conv => whnf
    refine ⟨show i < ((cutO (share n l) (sumL l) l i.toNat).length : Int) by omega, ?_⟩
    conv => whnf
    refine ⟨h0, ?_⟩
    conv => whnf
    refine ⟨show i < (((cutO (share n l) (sumL l) l i.toNat).set i.toNat (IntKind.i64.wrap (Int.tdiv (IntKind.i64.wrap (share n l * gI l i.toNat)) (sumL l)))).length : Int) by rw [List.length_set]; omega, ?_⟩
    conv => whnf
    refine ⟨i + 1, ?_, ⟨by omega, by omega⟩, by omega⟩
    exact Eq.trans (b := S13b l ((cutO (share n l) (sumL l) l i.toNat).set i.toNat (IntKind.i64.wrap (Int.tdiv (IntKind.i64.wrap (share n l * gI l i.toNat)) (sumL l)))) (bestL 0 l) (sumL l) (share n l) (IntKind.i64.wrap (cutS (share n l) (sumL l) l i.toNat - gI ((cutO (share n l) (sumL l) l i.toNat).set i.toNat (IntKind.i64.wrap (Int.tdiv (IntKind.i64.wrap (share n l * gI l i.toNat)) (sumL l)))) i.toNat)) (IntKind.i64.wrap (i + 1))) rfl (by rw [hcut, gI_set (by omega), hws, hw, en, cutO_step hN, cutS_step hN])
  have hge : ¬ i < l.length := @of_decide_eq_false _ _ hge
  have hsl := cutS_bd hmb.1 hmb.2 (show 0 < sumL l by omega) hi i.toNat (by omega)
  have hob : ∀ o ∈ l.map (cut (share n l) (sumL l)), 0 ≤ o ∧ o ≤ 255000000 := by
    have := cuts_bd hmb.1 hmb.2 (show 0 < sumL l by omega) hi l.length
    rwa [List.take_length] at this
  have hlc : cutS (share n l) (sumL l) l i.toNat ≤ cnt ((bestL 0 l).toNat : Int) l := by
    rw [cutS_end (by omega)]
    refine left_le (by omega) rfl (fun x hx => ⟨(hi x hx).1, ?_⟩)
    have := (best_ge l 0).2 x hx
    omega
  rw [cutS_end (by omega)] at hsl hlc
  rw [cutO_end (by omega), cutS_end (by omega)]
  conv => whnf
  refine loop_rule (fun (x : Nat × Int × List Int) => S13c l x.2.2 x.2.1 (x.1 : Int)) (fun x => x.1) (fun x => spin l x.1 x.2.1 x.2.2 = spin l (bestL 0 l).toNat (share n l - sumL (l.map (cut (share n l) (sumL l)))) (l.map (cut (share n l) (sumL l))) ∧ x.1 ≤ 255 ∧ x.2.1 ≤ cnt (x.1 : Int) l ∧ x.2.1 ≤ 1000000 ∧ -299000000000 - 1000 * (255 - (x.1 : Int)) ≤ x.2.1 - 1000 ∧ x.2.2.length = l.length ∧ (∀ o ∈ x.2.2, 0 ≤ o ∧ o ≤ 1000000000 - (x.1 : Int))) ?_ ((bestL 0 l).toNat, share n l - sumL (l.map (cut (share n l) (sumL l))), l.map (cut (share n l) (sumL l))) (by kernel_rfl) ?_ ⟨rfl, by show (bestL 0 l).toNat ≤ 255; omega, hlc, by show share n l - _ ≤ 1000000; omega, by show _ ≤ share n l - _ - 1000; omega, by simp, fun o ho => by have := hob o ho; show 0 ≤ o ∧ o ≤ 1000000000 - ((bestL 0 l).toNat : Int); omega⟩
  case refine_2 =>
    exact Eq.trans (b := S13c l (l.map (cut (share n l) (sumL l))) (share n l - sumL (l.map (cut (share n l) (sumL l)))) (bestL 0 l)) rfl (by
      show _ = S13c l (l.map (cut (share n l) (sumL l))) (share n l - sumL (l.map (cut (share n l) (sumL l)))) ((bestL 0 l).toNat : Int)
      rw [Int.toNat_of_nonneg hbest.1])
  rintro ⟨d, left, out⟩ ⟨q1, q2, q3, q4, q5, q6, q7⟩
  simp only at q1 q2 q3 q4 q5 q6 q7
  conv => whnf
  refine cond_intro (fun hlt => ?_) (fun hge => ?_)
  · have hgt : left > 0 := @of_decide_eq_true _ _ hlt
    cases d with
    | zero => have := cnt_zero l; simp at q3; omega
    | succ d =>
    conv => whnf
    have q7' : ∀ o ∈ out, 0 ≤ o ∧ o ≤ 1000000000 := fun o ho => by have := q7 o ho; omega
    have hbd : ∀ i : Nat, i ≤ l.length → midL ((d : Int) + 1) l left i ≤ left ∧ left - i ≤ midL ((d : Int) + 1) l left i := fun i h => midL_bd h
    have ed : ((d + 1 : Nat) : Int) = (d : Int) + 1 := by omega
    refine loop_rule (fun i => S13d l (midO ((d : Int) + 1) l out left i.toNat) (midL ((d : Int) + 1) l left i.toNat) ((d : Int) + 1) i) (fun i => ((l.length : Int) - i).toNat) (fun i => 0 ≤ i ∧ i ≤ l.length) ?_ 0 (by kernel_rfl) ?_ ⟨by omega, by omega⟩
    case refine_2 =>
      exact Eq.trans (b := S13d l out left (d + 1 : Nat) 0) rfl (by rw [show (0 : Int).toNat = 0 from rfl, midO_zero, midL_zero, ed])
    rintro i ⟨h0, h1⟩
    conv => whnf
    refine cond_intro (fun hlt => ?_) (fun hge => ?_)
    · have hlt : i < l.length := @of_decide_eq_true _ _ hlt
      have hN : i.toNat < l.length := by omega
      have hw : IntKind.i64.wrap (i + 1) = i + 1 := wrap_eq (by omega) (by omega)
      have en : (i + 1).toNat = i.toNat + 1 := by omega
      have hol := midO_len (sc := (d : Int) + 1) (left := left) q6 (show i.toNat ≤ l.length by omega)
      have hgo := midO_get (sc := (d : Int) + 1) (left := left) q6 hN
      have hob2 := q7' (gI out i.toNat) (by rw [gI_eq (by omega)]; exact List.getElem_mem _)
      have hb := hbd i.toNat (by omega)
      have hs1 := midL_step (sc := (d : Int) + 1) (left := left) hN
      have hs2 := midO_step (sc := (d : Int) + 1) (left := left) q6 hN
      conv => whnf
      refine ⟨h0, ?_⟩
      conv => whnf
      refine ⟨hlt, ?_⟩
      conv => whnf
      refine cond_intro (fun hq => ?_) (fun hq => ?_)
      · have hq : gI l i.toNat = (d : Int) + 1 := @of_decide_eq_true _ _ hq
        conv => whnf
        refine cond_intro (fun hr => ?_) (fun hr => ?_)
        · have hr : midL ((d : Int) + 1) l left i.toNat > 0 := @of_decide_eq_true _ _ hr
          conv => whnf
          refine ⟨h0, ?_⟩
          conv => whnf
          refine ⟨show i < ((midO ((d : Int) + 1) l out left i.toNat).length : Int) by omega, ?_⟩
          conv => whnf
          refine ⟨h0, ?_⟩
          conv => whnf
          refine ⟨show i < ((midO ((d : Int) + 1) l out left i.toNat).length : Int) by omega, ?_⟩
          conv => whnf
          rw [if_pos ⟨hq, hr⟩] at hs1 hs2
          have hwo : IntKind.i64.wrap (gI out i.toNat + 1) = gI out i.toNat + 1 := wrap_eq (by omega) (by omega)
          have hwl : IntKind.i64.wrap (midL ((d : Int) + 1) l left i.toNat - 1) = midL ((d : Int) + 1) l left i.toNat - 1 := wrap_eq (by omega) (by omega)
          refine ⟨i + 1, ?_, ⟨by omega, by omega⟩, by omega⟩
          exact Eq.trans (b := S13d l ((midO ((d : Int) + 1) l out left i.toNat).set i.toNat (IntKind.i64.wrap (gI (midO ((d : Int) + 1) l out left i.toNat) i.toNat + 1))) (IntKind.i64.wrap (midL ((d : Int) + 1) l left i.toNat - 1)) ((d : Int) + 1) (IntKind.i64.wrap (i + 1))) rfl (by rw [hw, en, hs1, hs2, hwl, hgo, hwo])
        · have hr : ¬ midL ((d : Int) + 1) l left i.toNat > 0 := @of_decide_eq_false _ _ hr
          conv => whnf
          rw [if_neg (fun h => hr h.2)] at hs1 hs2
          refine ⟨i + 1, ?_, ⟨by omega, by omega⟩, by omega⟩
          exact Eq.trans (b := S13d l (midO ((d : Int) + 1) l out left i.toNat) (midL ((d : Int) + 1) l left i.toNat) ((d : Int) + 1) (IntKind.i64.wrap (i + 1))) rfl (by rw [hw, en, hs1, hs2])
      · have hq : ¬ gI l i.toNat = (d : Int) + 1 := @of_decide_eq_false _ _ hq
        conv => whnf
        rw [if_neg (fun h => hq h.1)] at hs1 hs2
        refine ⟨i + 1, ?_, ⟨by omega, by omega⟩, by omega⟩
        exact Eq.trans (b := S13d l (midO ((d : Int) + 1) l out left i.toNat) (midL ((d : Int) + 1) l left i.toNat) ((d : Int) + 1) (IntKind.i64.wrap (i + 1))) rfl (by rw [hw, en, hs1, hs2])
    have hge : ¬ i < l.length := @of_decide_eq_false _ _ hge
    rw [midO_end q6 (by omega), midL_end (by omega)]
    have pl := passL_ge ((d : Int) + 1) l left
    rw [ed] at q3
    have pc := passL_le (d : Int) (by omega) l left 0 (by omega) (by omega)
    have hwd : IntKind.i64.wrap ((d : Int) + 1 - 1) = d := by rw [show (d : Int) + 1 - 1 = d by omega]; exact wrap_eq (by omega) (by omega)
    conv => whnf
    refine ⟨(d, passL ((d : Int) + 1) l left, passO ((d : Int) + 1) l out left), ?_, ⟨?_, ?_, ?_, ?_, ?_, ?_, ?_⟩, ?_⟩
    · exact Eq.trans (b := S13c l (passO ((d : Int) + 1) l out left) (passL ((d : Int) + 1) l left) (IntKind.i64.wrap ((d : Int) + 1 - 1))) rfl (by rw [hwd])
    · show spin l d _ _ = _
      show spin l d (passL ((d : Int) + 1) l left) (passO ((d : Int) + 1) l out left) = _
      rw [← q1, spin, if_pos hgt]
    · show d ≤ 255
      omega
    · show passL _ l left ≤ cnt (d : Int) l
      omega
    · show passL _ l left ≤ 1000000
      omega
    · show _ ≤ passL _ l left - 1000
      simp only
      omega
    · exact passO_len _ l out left q6
    · intro o ho
      have := passO_bd _ (1000000000 - ((d : Int) + 1)) l out left (fun y hy => by have := q7 y hy; omega) o ho
      show 0 ≤ o ∧ o ≤ 1000000000 - (d : Int)
      omega
    · show d < d + 1
      omega
  have hle : ¬ left > 0 := @of_decide_eq_false _ _ hge
  conv => whnf
  show (out, 0) = splitOf n l
  rw [v2, ← q1]
  cases d with
  | zero => rfl
  | succ d => rw [spin, if_neg hle]
end
end Go.Proofs.Yteidanhfkaljaaa.Eng
set_option linter.unusedVariables false
namespace Go.Proofs.Yteidanhfkaljaaa.Eng
open Go
set_option maxRecDepth 100000
noncomputable section
def E14 : Env := ⟨tab, [(36, K36)], fun n => match n with | 5 => some ([0, 1, 6, 7, 23, 24, 25], [], []) | 13 => some ([0, 1, 6, 7, 36, 37, 38], [], []) | 24 => some ([1, 6, 7, 12, 13, 14, 60, 61, 62], [], []) | 30 => some ([1, 12, 14, 17], [], []) | 33 => some ([1, 12, 14, 17, 87, 88, 89], [], []) | _ => none⟩
theorem allIn_take {m : Int} {l : List Int} {i : Nat} (h : i < l.length) (ha : allIn m (l.take i) = true) (hx : 0 ≤ gI l i ∧ gI l i ≤ m) : allIn m (l.take (i + 1)) = true := by
  rw [take_succ_gI h]
  rw [allIn_iff] at ha ⊢
  intro x hm
  rcases List.mem_append.1 hm with h1 | h1
  · exact ha x h1
  · rw [List.mem_singleton.1 h1]; exact hx
theorem allIn_bad {m : Int} {l : List Int} {i : Nat} (h : i < l.length) (hx : ¬ (0 ≤ gI l i ∧ gI l i ≤ m)) : allIn m l = false := by
  cases e : allIn m l with
  | false => rfl
  | true => exact absurd ((allIn_iff m l).1 e _ (by rw [gI_eq h]; exact List.getElem_mem _)) hx
def R14a (n : Int) (l : List Int) (i : Int) : SL := ⟨[.int .i64 n, .sl I l] ++ List.replicate 4 .undef ++ [.int .i64 0, .int .i64 0] ++ List.replicate 15 .undef ++ [.sl I l, .int .i64 l.length, .int .i64 i] ++ List.replicate 85 .undef, [], 0⟩
def R14b (n : Int) (l : List Int) (b s i : Int) : SL := ⟨[.int .i64 n, .sl I l] ++ List.replicate 4 .undef ++ [.int .i64 b, .int .i64 s] ++ List.replicate 28 .undef ++ [.sl I l, .int .i64 l.length, .int .i64 i] ++ List.replicate 72 .undef, [], 0⟩
def R14c (l out : List Int) (b s m left i : Int) : SL := ⟨[.undef, .sl I l] ++ List.replicate 4 .undef ++ [.int .i64 b, .int .i64 s] ++ List.replicate 4 .undef ++ [.own 0, .int .i64 m, .int .i64 left] ++ List.replicate 45 .undef ++ [.sl I l, .int .i64 l.length, .int .i64 i] ++ List.replicate 48 .undef, [(0, .arr I out)], 1⟩
def R14d (l out : List Int) (left d : Int) : SL := ⟨[.undef, .sl I l] ++ List.replicate 10 .undef ++ [.own 0, .undef, .int .i64 left, .undef, .undef, .int .i64 d] ++ List.replicate 93 .undef, [(0, .arr I out)], 1⟩
def R14e (l out : List Int) (left d i : Int) : SL := ⟨[.undef, .sl I l] ++ List.replicate 10 .undef ++ [.own 0, .undef, .int .i64 left, .undef, .undef, .int .i64 d] ++ List.replicate 69 .undef ++ [.sl I l, .int .i64 l.length, .int .i64 i] ++ List.replicate 21 .undef, [(0, .arr I out)], 1⟩
def K14 : Fn1 := K13
theorem k14 : FnOk Go.Proofs.Try.prog 14 K14 := by
  refine fn_ok (E := E14) (TOk.of tab_told) (AllOk.cons k36 .nil).at_ mix Go.Proofs.Try.func14 rfl rfl (by kernel_rfl) K14 ?_
  rintro ⟨(n : Int), (l : List Int)⟩ hp
  have hl : l.length ≤ 140737488351232 := hp _ (List.mem_cons_self ..)
  clear hp
  conv => whnf
  refine cond_intro (fun hn => ?_) (fun hn => ?_)
  · have hn : (!(decide (0 ≤ n) && decide (n ≤ 1000000))) = true := hn
    have hn : ¬ (0 ≤ n ∧ n ≤ 1000000) := fun c => by simp [c.1, c.2] at hn
    conv => whnf
    show ([], 1) = splitOf n l
    rw [splitOf, if_pos hn]
  have hn : (!(decide (0 ≤ n) && decide (n ≤ 1000000))) = false := hn
  have hn : 0 ≤ n ∧ n ≤ 1000000 := by simpa using hn
  conv => whnf
  refine loop_rule (fun i => R14a n l i) (fun i => ((l.length : Int) - i).toNat) (fun i => 0 ≤ i ∧ i ≤ l.length ∧ allIn 255 (l.take i.toNat) = true) ?_ 0 (by kernel_rfl) ?_ ⟨by omega, by omega, rfl⟩
  case refine_2 => rfl
  rintro i ⟨h0, h1, hal⟩
  conv => whnf
  refine cond_intro (fun hlt => ?_) (fun hge => ?_)
  · have hlt : i < l.length := @of_decide_eq_true _ _ hlt
    have hw : IntKind.i64.wrap (i + 1) = i + 1 := wrap_eq (by omega) (by omega)
    have en : (i + 1).toNat = i.toNat + 1 := by omega
    conv => whnf
    refine ⟨h0, ?_⟩
    conv => whnf
    refine ⟨hlt, ?_⟩
    conv => whnf
    refine cond_intro (fun hx => ?_) (fun hx => ?_)
    · have hx : (!(decide (0 ≤ gI l i.toNat) && decide (gI l i.toNat ≤ 255))) = true := hx
      have hx : ¬ (0 ≤ gI l i.toNat ∧ gI l i.toNat ≤ 255) := fun c => by simp [c.1, c.2] at hx
      conv => whnf
      show ([], 1) = splitOf n l
      rw [splitOf, if_neg (fun h => h hn), if_pos (allIn_bad (by omega) hx)]
    · have hx : (!(decide (0 ≤ gI l i.toNat) && decide (gI l i.toNat ≤ 255))) = false := hx
      have hx : 0 ≤ gI l i.toNat ∧ gI l i.toNat ≤ 255 := by simpa using hx
      conv => whnf
      refine ⟨i + 1, ?_, ⟨by omega, by omega, by rw [en]; exact allIn_take (by omega) hal hx⟩, by omega⟩
      exact Eq.trans (b := R14a n l (IntKind.i64.wrap (i + 1))) rfl (by rw [hw])
  have hge : ¬ i < l.length := @of_decide_eq_false _ _ hge
  rw [List.take_of_length_le (by omega)] at hal
  have ha : allIn 255 l = true := hal
  have hi := in255 ha
  clear hal
  conv => whnf
  refine cond_intro (fun hg => ?_) (fun hg => ?_)
  · have hg : 1000 < (l.length : Int) := @of_decide_eq_true _ _ hg
    conv => whnf
    show ([], 4) = splitOf n l
    rw [splitOf, if_neg (fun h => h hn), if_neg (by simp [ha]), if_pos hg]
  have hg : ¬ 1000 < (l.length : Int) := @of_decide_eq_false _ _ hg
  have v1 : splitOf n l = if sumL l = 0 then (List.replicate l.length 0, 0) else
      (spin l (bestL 0 l).toNat (share n l - sumL (l.map (cut (share n l) (sumL l)))) (l.map (cut (share n l) (sumL l))), 0) := by
    rw [splitOf, if_neg (fun h => h hn), if_neg (by simp [ha]), if_neg (by omega)]
  conv => whnf
  refine loop_rule (fun i => R14b n l (bestL 0 (l.take i.toNat)) (sumL (l.take i.toNat)) i) (fun i => ((l.length : Int) - i).toNat) (fun i => 0 ≤ i ∧ i ≤ l.length) ?_ 0 (by kernel_rfl) ?_ ⟨by omega, by omega⟩
  case refine_2 => rfl
  rintro i ⟨h0, h1⟩
  conv => whnf
  refine cond_intro (fun hlt => ?_) (fun hge => ?_)
  · have hlt : i < l.length := @of_decide_eq_true _ _ hlt
    have e : gI l i.toNat = l[i.toNat]'(by omega) := gI_eq _
    have ht : l.take (i.toNat + 1) = l.take i.toNat ++ [gI l i.toNat] := by rw [List.take_succ_eq_append_getElem (by omega), e]
    have hw : IntKind.i64.wrap (i + 1) = i + 1 := wrap_eq (by omega) (by omega)
    have en : (i + 1).toNat = i.toNat + 1 := by omega
    have hx : 0 ≤ gI l i.toNat ∧ gI l i.toNat ≤ 255 := hi _ (by rw [e]; exact List.getElem_mem _)
    have hsb := sum_bd (l.take i.toNat) (fun x hx => hi x (List.mem_of_mem_take hx))
    have hlen : (l.take i.toNat).length ≤ 1000 := by rw [List.length_take]; omega
    have hws : IntKind.i64.wrap (sumL (l.take i.toNat) + gI l i.toNat) = sumL (l.take i.toNat) + gI l i.toNat := wrap_eq (by omega) (by omega)
    conv => whnf
    refine ⟨h0, ?_⟩
    conv => whnf
    refine ⟨hlt, ?_⟩
    conv => whnf
    refine ⟨i + 1, ?_, ⟨by omega, by omega⟩, by omega⟩
    exact Eq.trans (b := R14b n l (mx (bestL 0 (l.take i.toNat)) (gI l i.toNat)) (IntKind.i64.wrap (sumL (l.take i.toNat) + gI l i.toNat)) (IntKind.i64.wrap (i + 1))) rfl (by rw [hw, hws, en, ht, bestL_snoc, sumL_snoc])
  have hge : ¬ i < l.length := @of_decide_eq_false _ _ hge
  have el : l.take i.toNat = l := List.take_of_length_le (by omega)
  rw [el]
  conv => whnf
  refine ⟨show (0 : Int) ≤ l.length by omega, ?_⟩
  conv => whnf
  refine ⟨show (l.length : Int) ≤ l.length by omega, ?_⟩
  conv => whnf
  refine ⟨show (l.length : Int) * 8 ≤ 70368744177664 by omega, ?_⟩
  conv => whnf
  refine ⟨show (l.length : Int) ≤ 70368744177664 by omega, ?_⟩
  conv => whnf
  have hsum := sum_bd l hi
  have hbest := best_bd l 0 hi (by omega) (by omega)
  refine cond_intro (fun hz => ?_) (fun hz => ?_)
  · have hz : sumL l = 0 := @of_decide_eq_true _ _ hz
    conv => whnf
    show (List.replicate l.length 0, 0) = splitOf n l
    rw [v1, if_pos hz]
  have hz : ¬ sumL l = 0 := @of_decide_eq_false _ _ hz
  have v2 : splitOf n l = (spin l (bestL 0 l).toNat (share n l - sumL (l.map (cut (share n l) (sumL l)))) (l.map (cut (share n l) (sumL l))), 0) := by
    rw [v1, if_neg hz]
  have hnb : 0 ≤ n * bestL 0 l ∧ n * bestL 0 l ≤ 255000000 := ⟨Int.mul_nonneg hn.1 hbest.1, by
    have := Int.mul_le_mul hn.2 hbest.2 hbest.1 (show (0 : Int) ≤ 1000000 by omega)
    omega⟩
  have hm : IntKind.i64.wrap (Int.tdiv (IntKind.i64.wrap (n * bestL 0 l)) 255) = share n l := by
    rw [wrap_eq (i := n * bestL 0 l) (by omega) (by omega), Int.tdiv_eq_ediv_of_nonneg hnb.1]
    unfold share
    exact wrap_eq (by omega) (by omega)
  have hmb : 0 ≤ share n l ∧ share n l ≤ 1000000 := by unfold share; omega
  conv => whnf
  refine ⟨show (255 : Int) ≠ 0 by omega, ?_⟩
  conv => whnf
  refine loop_rule (fun i => R14c l (cutO (share n l) (sumL l) l i.toNat) (bestL 0 l) (sumL l) (share n l) (cutS (share n l) (sumL l) l i.toNat) i) (fun i => ((l.length : Int) - i).toNat) (fun i => 0 ≤ i ∧ i ≤ l.length) ?_ 0 (by kernel_rfl) ?_ ⟨by omega, by omega⟩
  case refine_2 =>
    exact Eq.trans (b := R14c l (List.replicate l.length 0) (bestL 0 l) (sumL l) (IntKind.i64.wrap (Int.tdiv (IntKind.i64.wrap (n * bestL 0 l)) 255)) (IntKind.i64.wrap (Int.tdiv (IntKind.i64.wrap (n * bestL 0 l)) 255)) 0) rfl (by rw [hm, show (0 : Int).toNat = 0 from rfl, cutO_zero, cutS_zero])
  rintro i ⟨h0, h1⟩
  conv => whnf
  refine cond_intro (fun hlt => ?_) (fun hge => ?_)
  · have hlt : i < l.length := @of_decide_eq_true _ _ hlt
    have hN : i.toNat < l.length := by omega
    have e : gI l i.toNat = l[i.toNat]'(by omega) := gI_eq _
    have hx : 0 ≤ gI l i.toNat ∧ gI l i.toNat ≤ 255 := hi _ (by rw [e]; exact List.getElem_mem _)
    have hw : IntKind.i64.wrap (i + 1) = i + 1 := wrap_eq (by omega) (by omega)
    have en : (i + 1).toNat = i.toNat + 1 := by omega
    have hc := cut_bd hmb.1 hmb.2 (show 0 < sumL l by omega) hx.1 hx.2
    have hcut : IntKind.i64.wrap (Int.tdiv (IntKind.i64.wrap (share n l * gI l i.toNat)) (sumL l)) = cut (share n l) (sumL l) (gI l i.toNat) := by
      rw [wrap_eq (i := share n l * gI l i.toNat) (by omega) (by omega), Int.tdiv_eq_ediv_of_nonneg hc.1]
      exact wrap_eq (by unfold cut at hc; omega) (by unfold cut at hc; omega)
    have hol := cutO_len (m := share n l) (s := sumL l) (show i.toNat ≤ l.length by omega)
    have hsl := cutS_bd hmb.1 hmb.2 (show 0 < sumL l by omega) hi i.toNat (by omega)
    have hws : IntKind.i64.wrap (cutS (share n l) (sumL l) l i.toNat - cut (share n l) (sumL l) (gI l i.toNat)) = cutS (share n l) (sumL l) l i.toNat - cut (share n l) (sumL l) (gI l i.toNat) := wrap_eq (by omega) (by omega)
    conv => whnf
    refine ⟨h0, ?_⟩
    conv => whnf
    refine ⟨hlt, ?_⟩
    conv => whnf
    refine ⟨hz, ?_⟩
    conv => whnf
    refine ⟨h0, ?_⟩
    conv => whnf
    refine ⟨show i < ((cutO (share n l) (sumL l) l i.toNat).length : Int) by omega, ?_⟩
    conv => whnf
    refine ⟨h0, ?_⟩
    conv => whnf
    refine ⟨show i < (((cutO (share n l) (sumL l) l i.toNat).set i.toNat (IntKind.i64.wrap (Int.tdiv (IntKind.i64.wrap (share n l * gI l i.toNat)) (sumL l)))).length : Int) by rw [List.length_set]; omega, ?_⟩
    conv => whnf
    refine ⟨i + 1, ?_, ⟨by omega, by omega⟩, by omega⟩
    exact Eq.trans (b := R14c l ((cutO (share n l) (sumL l) l i.toNat).set i.toNat (IntKind.i64.wrap (Int.tdiv (IntKind.i64.wrap (share n l * gI l i.toNat)) (sumL l)))) (bestL 0 l) (sumL l) (share n l) (IntKind.i64.wrap (cutS (share n l) (sumL l) l i.toNat - gI ((cutO (share n l) (sumL l) l i.toNat).set i.toNat (IntKind.i64.wrap (Int.tdiv (IntKind.i64.wrap (share n l * gI l i.toNat)) (sumL l)))) i.toNat)) (IntKind.i64.wrap (i + 1))) rfl (by rw [hcut, gI_set (by omega), hws, hw, en, cutO_step hN, cutS_step hN])
  have hge : ¬ i < l.length := @of_decide_eq_false _ _ hge
  have hsl := cutS_bd hmb.1 hmb.2 (show 0 < sumL l by omega) hi i.toNat (by omega)
  have hob : ∀ o ∈ l.map (cut (share n l) (sumL l)), 0 ≤ o ∧ o ≤ 255000000 := by
    have := cuts_bd hmb.1 hmb.2 (show 0 < sumL l by omega) hi l.length
    rwa [List.take_length] at this
  have hlc : cutS (share n l) (sumL l) l i.toNat ≤ cnt ((bestL 0 l).toNat : Int) l := by
    rw [cutS_end (by omega)]
    refine left_le (by omega) rfl (fun x hx => ⟨(hi x hx).1, ?_⟩)
    have := (best_ge l 0).2 x hx
    omega
  rw [cutS_end (by omega)] at hsl hlc
  rw [cutO_end (by omega), cutS_end (by omega)]
  conv => whnf
  refine loop_rule (fun (x : Nat × Int × List Int) => R14d l x.2.2 x.2.1 (x.1 : Int)) (fun x => x.1) (fun x => spin l x.1 x.2.1 x.2.2 = spin l (bestL 0 l).toNat (share n l - sumL (l.map (cut (share n l) (sumL l)))) (l.map (cut (share n l) (sumL l))) ∧ x.1 ≤ 255 ∧ x.2.1 ≤ cnt (x.1 : Int) l ∧ x.2.1 ≤ 1000000 ∧ -299000000000 - 1000 * (255 - (x.1 : Int)) ≤ x.2.1 - 1000 ∧ x.2.2.length = l.length ∧ (∀ o ∈ x.2.2, 0 ≤ o ∧ o ≤ 1000000000 - (x.1 : Int))) ?_ ((bestL 0 l).toNat, share n l - sumL (l.map (cut (share n l) (sumL l))), l.map (cut (share n l) (sumL l))) (by kernel_rfl) ?_ ⟨rfl, by show (bestL 0 l).toNat ≤ 255; omega, hlc, by show share n l - _ ≤ 1000000; omega, by show _ ≤ share n l - _ - 1000; omega, by simp, fun o ho => by have := hob o ho; show 0 ≤ o ∧ o ≤ 1000000000 - ((bestL 0 l).toNat : Int); omega⟩
  case refine_2 =>
    exact Eq.trans (b := R14d l (l.map (cut (share n l) (sumL l))) (share n l - sumL (l.map (cut (share n l) (sumL l)))) (bestL 0 l)) rfl (by
      show _ = R14d l (l.map (cut (share n l) (sumL l))) (share n l - sumL (l.map (cut (share n l) (sumL l)))) ((bestL 0 l).toNat : Int)
      rw [Int.toNat_of_nonneg hbest.1])
  rintro ⟨d, left, out⟩ ⟨q1, q2, q3, q4, q5, q6, q7⟩
  simp only at q1 q2 q3 q4 q5 q6 q7
  conv => whnf
  refine cond_intro (fun hlt => ?_) (fun hge => ?_)
  · have hgt : left > 0 := @of_decide_eq_true _ _ hlt
    cases d with
    | zero => have := cnt_zero l; simp at q3; omega
    | succ d =>
    conv => whnf
    have q7' : ∀ o ∈ out, 0 ≤ o ∧ o ≤ 1000000000 := fun o ho => by have := q7 o ho; omega
    have hbd : ∀ i : Nat, i ≤ l.length → midL ((d : Int) + 1) l left i ≤ left ∧ left - i ≤ midL ((d : Int) + 1) l left i := fun i h => midL_bd h
    have ed : ((d + 1 : Nat) : Int) = (d : Int) + 1 := by omega
    refine loop_rule (fun i => R14e l (midO ((d : Int) + 1) l out left i.toNat) (midL ((d : Int) + 1) l left i.toNat) ((d : Int) + 1) i) (fun i => ((l.length : Int) - i).toNat) (fun i => 0 ≤ i ∧ i ≤ l.length) ?_ 0 (by kernel_rfl) ?_ ⟨by omega, by omega⟩
    case refine_2 =>
      exact Eq.trans (b := R14e l out left (d + 1 : Nat) 0) rfl (by rw [show (0 : Int).toNat = 0 from rfl, midO_zero, midL_zero, ed])
    rintro i ⟨h0, h1⟩
    conv => whnf
    refine cond_intro (fun hlt => ?_) (fun hge => ?_)
    · have hlt : i < l.length := @of_decide_eq_true _ _ hlt
      have hN : i.toNat < l.length := by omega
      have hw : IntKind.i64.wrap (i + 1) = i + 1 := wrap_eq (by omega) (by omega)
      have en : (i + 1).toNat = i.toNat + 1 := by omega
      have hol := midO_len (sc := (d : Int) + 1) (left := left) q6 (show i.toNat ≤ l.length by omega)
      have hgo := midO_get (sc := (d : Int) + 1) (left := left) q6 hN
      have hob2 := q7' (gI out i.toNat) (by rw [gI_eq (by omega)]; exact List.getElem_mem _)
      have hb := hbd i.toNat (by omega)
      have hs1 := midL_step (sc := (d : Int) + 1) (left := left) hN
      have hs2 := midO_step (sc := (d : Int) + 1) (left := left) q6 hN
      conv => whnf
      refine ⟨h0, ?_⟩
      conv => whnf
      refine ⟨hlt, ?_⟩
      conv => whnf
      refine cond_intro (fun hq => ?_) (fun hq => ?_)
      · have hq : gI l i.toNat = (d : Int) + 1 := @of_decide_eq_true _ _ hq
        conv => whnf
        refine cond_intro (fun hr => ?_) (fun hr => ?_)
        · have hr : midL ((d : Int) + 1) l left i.toNat > 0 := @of_decide_eq_true _ _ hr
          conv => whnf
          refine ⟨h0, ?_⟩
          conv => whnf
          refine ⟨show i < ((midO ((d : Int) + 1) l out left i.toNat).length : Int) by omega, ?_⟩
          conv => whnf
          refine ⟨h0, ?_⟩
          conv => whnf
          refine ⟨show i < ((midO ((d : Int) + 1) l out left i.toNat).length : Int) by omega, ?_⟩
          conv => whnf
          rw [if_pos ⟨hq, hr⟩] at hs1 hs2
          have hwo : IntKind.i64.wrap (gI out i.toNat + 1) = gI out i.toNat + 1 := wrap_eq (by omega) (by omega)
          have hwl : IntKind.i64.wrap (midL ((d : Int) + 1) l left i.toNat - 1) = midL ((d : Int) + 1) l left i.toNat - 1 := wrap_eq (by omega) (by omega)
          refine ⟨i + 1, ?_, ⟨by omega, by omega⟩, by omega⟩
          exact Eq.trans (b := R14e l ((midO ((d : Int) + 1) l out left i.toNat).set i.toNat (IntKind.i64.wrap (gI (midO ((d : Int) + 1) l out left i.toNat) i.toNat + 1))) (IntKind.i64.wrap (midL ((d : Int) + 1) l left i.toNat - 1)) ((d : Int) + 1) (IntKind.i64.wrap (i + 1))) rfl (by rw [hw, en, hs1, hs2, hwl, hgo, hwo])
        · have hr : ¬ midL ((d : Int) + 1) l left i.toNat > 0 := @of_decide_eq_false _ _ hr
          conv => whnf
          rw [if_neg (fun h => hr h.2)] at hs1 hs2
          refine ⟨i + 1, ?_, ⟨by omega, by omega⟩, by omega⟩
          exact Eq.trans (b := R14e l (midO ((d : Int) + 1) l out left i.toNat) (midL ((d : Int) + 1) l left i.toNat) ((d : Int) + 1) (IntKind.i64.wrap (i + 1))) rfl (by rw [hw, en, hs1, hs2])
      · have hq : ¬ gI l i.toNat = (d : Int) + 1 := @of_decide_eq_false _ _ hq
        conv => whnf
        rw [if_neg (fun h => hq h.1)] at hs1 hs2
        refine ⟨i + 1, ?_, ⟨by omega, by omega⟩, by omega⟩
        exact Eq.trans (b := R14e l (midO ((d : Int) + 1) l out left i.toNat) (midL ((d : Int) + 1) l left i.toNat) ((d : Int) + 1) (IntKind.i64.wrap (i + 1))) rfl (by rw [hw, en, hs1, hs2])
    have hge : ¬ i < l.length := @of_decide_eq_false _ _ hge
    rw [midO_end q6 (by omega), midL_end (by omega)]
    have pl := passL_ge ((d : Int) + 1) l left
    rw [ed] at q3
    have pc := passL_le (d : Int) (by omega) l left 0 (by omega) (by omega)
    have hwd : IntKind.i64.wrap ((d : Int) + 1 - 1) = d := by rw [show (d : Int) + 1 - 1 = d by omega]; exact wrap_eq (by omega) (by omega)
    conv => whnf
    refine ⟨(d, passL ((d : Int) + 1) l left, passO ((d : Int) + 1) l out left), ?_, ⟨?_, ?_, ?_, ?_, ?_, ?_, ?_⟩, ?_⟩
    · exact Eq.trans (b := R14d l (passO ((d : Int) + 1) l out left) (passL ((d : Int) + 1) l left) (IntKind.i64.wrap ((d : Int) + 1 - 1))) rfl (by rw [hwd])
    · show spin l d _ _ = _
      show spin l d (passL ((d : Int) + 1) l left) (passO ((d : Int) + 1) l out left) = _
      rw [← q1, spin, if_pos hgt]
    · show d ≤ 255
      omega
    · show passL _ l left ≤ cnt (d : Int) l
      omega
    · show passL _ l left ≤ 1000000
      omega
    · show _ ≤ passL _ l left - 1000
      simp only
      omega
    · exact passO_len _ l out left q6
    · intro o ho
      have := passO_bd _ (1000000000 - ((d : Int) + 1)) l out left (fun y hy => by have := q7 y hy; omega) o ho
      show 0 ≤ o ∧ o ≤ 1000000000 - (d : Int)
      omega
    · show d < d + 1
      omega
  have hle : ¬ left > 0 := @of_decide_eq_false _ _ hge
  conv => whnf
  show (out, 0) = splitOf n l
  rw [v2, ← q1]
  cases d with
  | zero => rfl
  | succ d => rw [spin, if_neg hle]
end
end Go.Proofs.Yteidanhfkaljaaa.Eng
set_option linter.unusedVariables false
namespace Go.Proofs.Yteidanhfkaljaaa.Eng
open Go
set_option maxRecDepth 100000
noncomputable section
def E12 : Env := ⟨tab, [(13, K13), (24, K24)], ann0⟩
def K12 : Fn1 := ⟨.bool, .one .bool, fun _ => [], fun _ => true⟩
theorem split_ex : splitOf 10 [255, 85] = ([8, 2], 0) := by decide +kernel
theorem join_ex : (joinR ((1 : Int), ([] : List Pl), ([] : List Pa), ([] : List Ra)) 8 8 (1, 9)).1.2.1 = [(1, 9)] := by kernel_rfl
theorem k12 : FnOk Go.Proofs.Try.prog 12 K12 := by
  refine fn_ok (E := E12) (TOk.of tab_told) (AllOk.cons k13 (.cons k24 .nil)).at_ mix Go.Proofs.Try.func12 rfl rfl (by kernel_rfl) K12 ?_
  rintro (a : Bool) hp
  clear hp
  conv => whnf
  refine ⟨show [(255 : Int), 85].length ≤ 140737488351232 by decide, ?_⟩
  conv => whnf
  refine ⟨Nat.zero_le 100000, ?_⟩
  conv => whnf
  refine ⟨Nat.zero_le 100000, ?_⟩
  conv => whnf
  refine ⟨Nat.zero_le 100000, ?_⟩
  conv => whnf
  refine ⟨show (0 : Int) ≤ 0 by decide, ?_⟩
  conv => whnf
  refine ⟨show (0 : Int) < ((splitOf 10 [255, 85]).1.length : Int) by rw [split_ex]; decide, ?_⟩
  conv => whnf
  refine ⟨show (0 : Int) ≤ 1 by decide, ?_⟩
  conv => whnf
  refine ⟨show (1 : Int) < ((splitOf 10 [255, 85]).1.length : Int) by rw [split_ex]; decide, ?_⟩
  conv => whnf
  refine ⟨show (0 : Int) ≤ 0 by decide, ?_⟩
  conv => whnf
  refine ⟨show (0 : Int) < ((joinR ((1 : Int), ([] : List Pl), ([] : List Pa), ([] : List Ra)) 8 8 (1, 9)).1.2.1.length : Int) by rw [join_ex]; decide, ?_⟩
  conv => whnf
  kernel_rfl
end
end Go.Proofs.Yteidanhfkaljaaa.Eng
set_option linter.unusedVariables false
namespace Go.Proofs.Yteidanhfkaljaaa.Eng
open Go
set_option maxRecDepth 100000
noncomputable section
def E3 : Env := ⟨tab, [(12, K12), (13, K13), (14, K14), (15, K15)], ann0⟩
def K3 : Fn1 := ⟨.fld I (.one (.sl I)), .one .bool, fun (a : Int × List Int) => [a.2.length ≤ 140737488351232], fun _ => true⟩
theorem k3 : FnOk Go.Proofs.Try.prog 3 K3 := by
  refine fn_ok (E := E3) (TOk.of tab_told) (AllOk.cons k12 (.cons k13 (.cons k14 (.cons k15 .nil)))).at_ mix Go.Proofs.Try.func3 rfl rfl (by kernel_rfl) K3 ?_
  rintro ⟨(n : Int), (l : List Int)⟩ hp
  have hl : l.length ≤ 140737488351232 := hp _ (List.mem_cons_self ..)
  clear hp
  conv => whnf
  refine cond_intro (fun hg => ?_) (fun hg => ?_)
  · conv => whnf
    rfl
  have hg : ¬ 2000 < (l.length : Int) := @of_decide_eq_false _ _ hg
  have hs := splitOf_len n l
  have h1 : l.length ≤ 100000 := by omega
  have h2 : (splitOf n l).1.length ≤ 100000 := by omega
  conv => whnf
  refine ⟨hl, ?_⟩
  conv => whnf
  refine ⟨hl, ?_⟩
  conv => whnf
  refine cond_intro (fun he => ?_) (fun he => ?_)
  · conv => whnf
    refine ⟨h2, ?_⟩
    conv => whnf
    refine cond_intro (fun hq => ?_) (fun hq => ?_)
    · conv => whnf
      rfl
    · have hq : eqI (splitOf n l).1 (splitOf n l).1 = false := hq
      simp [eqI] at hq
  · have he : ¬ (splitOf n l).2 = (splitOf n l).2 := @of_decide_eq_false _ _ he
    exact absurd rfl he
end
end Go.Proofs.Yteidanhfkaljaaa.Eng
set_option linter.unusedVariables false
namespace Go.Proofs.Yteidanhfkaljaaa.Eng
open Go
set_option maxRecDepth 100000
noncomputable section
def E5 : Env := ⟨tab, [(16, K16), (12, K12), (17, K17), (18, K18)], ann0⟩
def K5 : Fn1 := ⟨covIn, .one .bool, fun _ => [], fun _ => true⟩
theorem not_large {s : St} (h : largeR s = false) : s.2.1.length ≤ 2000 ∧ s.2.2.1.length ≤ 2000 ∧ s.2.2.2.length ≤ 2000 := by
  simp only [largeR, Bool.or_eq_false_iff, decide_eq_false_iff_not] at h
  omega
theorem k5 : FnOk Go.Proofs.Try.prog 5 K5 := by
  refine fn_ok (E := E5) (TOk.of tab_told) (AllOk.cons k16 (.cons k12 (.cons k17 (.cons k18 .nil)))).at_ mix Go.Proofs.Try.func5 rfl rfl (by kernel_rfl) K5 ?_
  rintro ⟨⟨(ow : Int), (ps : List Pl), (ws : List Pa), (rs : List Ra)⟩, (w : Int), (h : Int), (t : Int)⟩ hp
  clear hp
  conv => whnf
  refine cond_intro (fun hg => ?_) (fun hg => ?_)
  · conv => whnf
    rfl
  have hg : largeR (ow, ps, ws, rs) = false := hg
  have hl := not_large hg
  have g1 : ps.length ≤ 100000 := by have := hl.1; simp only at this; omega
  have g2 : ws.length ≤ 100000 := by have := hl.2.1; simp only at this; omega
  have g3 : rs.length ≤ 100000 := by have := hl.2.2; simp only at this; omega
  have hc := covers_same (ow, ps, ws, rs) w h t
  conv => whnf
  refine ⟨g1, ?_⟩
  conv => whnf
  refine ⟨g2, ?_⟩
  conv => whnf
  refine ⟨g3, ?_⟩
  conv => whnf
  refine ⟨g1, ?_⟩
  conv => whnf
  refine ⟨g2, ?_⟩
  conv => whnf
  refine ⟨g3, ?_⟩
  conv => whnf
  refine cond_intro (fun hq => ?_) (fun hq => ?_)
  · conv => whnf
    refine cond_intro (fun he => ?_) (fun he => ?_)
    · conv => whnf
      rfl
    · have he : ¬ (coversR (ow, ps, ws, rs) w h t).2 = (coversRefR (ow, ps, ws, rs) w h t).2 := @of_decide_eq_false _ _ he
      rw [hc] at he
      exact absurd rfl he
  · have hq : ((coversR (ow, ps, ws, rs) w h t).1 == (coversRefR (ow, ps, ws, rs) w h t).1) = false := hq
    rw [hc] at hq
    simp at hq
end
end Go.Proofs.Yteidanhfkaljaaa.Eng
set_option linter.unusedVariables false
namespace Go.Proofs.Yteidanhfkaljaaa.Eng
open Go
set_option maxRecDepth 100000
noncomputable section
def E42 : Env := ⟨tab, [], fun n => match n with | 2 => some ([0, 1, 2, 9, 10, 11], [], []) | _ => none⟩
def stepsR (n : Int) : List Int → List Int → Int
  | [], w :: _ => w
  | b :: bs, w :: ws => if n ≤ b then w else stepsR n bs ws
  | _, [] => 0
def K42 : Fn1 := ⟨.fld I (.fld (.sl I) (.one (.sl I))), .one I, fun (a : Int × List Int × List Int) => [a.2.1.length < a.2.2.length, a.2.2.length ≤ 100000], fun (a : Int × List Int × List Int) => stepsR a.1 a.2.1 a.2.2⟩
def S42 (n : Int) (b w : List Int) (i : Int) : SL := ⟨[.int .i64 n, .sl I b, .sl I w] ++ List.replicate 6 .undef ++ [.sl I b, .int .i64 b.length, .int .i64 i] ++ List.replicate 17 .undef, [], 0⟩
theorem steps_at {n : Int} {b w : List Int} {i : Nat} (hi : i < b.length) (hw : b.length < w.length) : stepsR n (b.drop i) (w.drop i) = if n ≤ gI b i then gI w i else stepsR n (b.drop (i + 1)) (w.drop (i + 1)) := by
  rw [List.drop_eq_getElem_cons hi, List.drop_eq_getElem_cons (show i < w.length by omega), stepsR, gI_eq hi, gI_eq (show i < w.length by omega)]
theorem k42 : FnOk Go.Proofs.Try.prog 42 K42 := by
  refine fn_ok (E := E42) (TOk.of tab_told) noK mix Go.Proofs.Try.func42 rfl rfl (by kernel_rfl) K42 ?_
  rintro ⟨(n : Int), (b : List Int), (w : List Int)⟩ hp
  have hl : b.length < w.length := hp _ (List.mem_cons_self ..)
  have hm : w.length ≤ 100000 := hp _ (List.mem_cons_of_mem _ (List.mem_cons_self ..))
  clear hp
  conv => whnf
  refine loop_rule (fun i => S42 n b w i) (fun i => ((b.length : Int) - i).toNat) (fun i => 0 ≤ i ∧ i ≤ b.length ∧ stepsR n (b.drop i.toNat) (w.drop i.toNat) = stepsR n b w) ?_ 0 (by kernel_rfl) ?_ ⟨by omega, by omega, rfl⟩
  case refine_2 => rfl
  rintro i ⟨h0, h1, h2⟩
  conv => whnf
  refine cond_intro (fun hlt => ?_) (fun hge => ?_)
  · have hlt : i < b.length := @of_decide_eq_true _ _ hlt
    have hw : IntKind.i64.wrap (i + 1) = i + 1 := wrap_eq (by omega) (by omega)
    have en : (i + 1).toNat = i.toNat + 1 := by omega
    rw [steps_at (by omega) hl] at h2
    conv => whnf
    refine ⟨h0, ?_⟩
    conv => whnf
    refine ⟨hlt, ?_⟩
    conv => whnf
    refine cond_intro (fun hq => ?_) (fun hq => ?_)
    · have hq : n ≤ gI b i.toNat := @of_decide_eq_true _ _ hq
      conv => whnf
      refine ⟨h0, ?_⟩
      conv => whnf
      refine ⟨show i < (w.length : Int) by omega, ?_⟩
      conv => whnf
      show gI w i.toNat = stepsR n b w
      rw [← h2, if_pos hq]
    · have hq : ¬ n ≤ gI b i.toNat := @of_decide_eq_false _ _ hq
      conv => whnf
      rw [if_neg hq] at h2
      refine ⟨i + 1, ?_, ⟨by omega, by omega, by rw [en]; exact h2⟩, by omega⟩
      exact Eq.trans (b := S42 n b w (IntKind.i64.wrap (i + 1))) rfl (by rw [hw])
  have hge : ¬ i < b.length := @of_decide_eq_false _ _ hge
  have ei : i.toNat = b.length := by omega
  conv => whnf
  refine ⟨show (0 : Int) ≤ (b.length : Int) by omega, ?_⟩
  conv => whnf
  refine ⟨show (b.length : Int) < (w.length : Int) by omega, ?_⟩
  conv => whnf
  show gI w (Int.toNat (b.length : Int)) = stepsR n b w
  rw [← h2, ei, List.drop_length, List.drop_eq_getElem_cons hl, stepsR, Int.toNat_natCast, gI_eq hl]
end
end Go.Proofs.Yteidanhfkaljaaa.Eng
set_option linter.unusedVariables false
namespace Go.Proofs.Yteidanhfkaljaaa.Eng
open Go
set_option maxRecDepth 100000
noncomputable section
def E19 : Env := ⟨tab, [(41, K41), (42, K42)], ann0⟩
def sV (v : Int) : Int := min2 (max2 (v - 85) 0 / 4) 43
def sA (d : Int) : Int := if d ≤ 3 then 33 else if d ≤ 6 then 25 else if d ≤ 12 then 12 else 0
def sB (d : Int) : Int := if d ≤ 0 then 130 else if d ≤ 6 then 95 else if d ≤ 12 then 50 else if d ≤ 21 then 25 else 0
def sC (w : Int) : Int := if w ≤ 64 then 40 else if w ≤ 128 then 30 else if w ≤ 256 then 10 else if w ≤ 512 then 0 else if w ≤ 1024 then -35 else -90
def sD (y : Int) : Int := if y ≤ 0 then 33 else if y ≤ 1 then 20 else if y ≤ 2 then 10 else 0
theorem sA_eq (d : Int) : stepsR d [3, 6, 12] [33, 25, 12, 0] = sA d := rfl
theorem sB_eq (d : Int) : stepsR d [0, 6, 12, 21] [130, 95, 50, 25, 0] = sB d := rfl
theorem sC_eq (d : Int) : stepsR d [64, 128, 256, 512, 1024] [40, 30, 10, 0, -35, -90] = sC d := rfl
theorem sD_eq (d : Int) : stepsR d [0, 1, 2] [33, 20, 10, 0] = sD d := rfl
theorem sA_bd (d : Int) : 0 ≤ sA d ∧ sA d ≤ 200 := by unfold sA; repeat' split
                                                      all_goals omega
theorem sB_bd (d : Int) : 0 ≤ sB d ∧ sB d ≤ 200 := by unfold sB; repeat' split
                                                      all_goals omega
theorem sC_bd (d : Int) : -90 ≤ sC d ∧ sC d ≤ 200 := by unfold sC; repeat' split
                                                        all_goals omega
theorem sD_bd (d : Int) : 0 ≤ sD d ∧ sD d ≤ 200 := by unfold sD; repeat' split
                                                      all_goals omega
theorem sV_bd (d : Int) : 0 ≤ sV d ∧ sV d ≤ 43 := by
  unfold sV min2 max2
  repeat' split
  all_goals omega
def scoreN (r : Ra) (w : Int) : Int := sV r.2.2.2.1 + sA r.2.2.1 + sB r.2.2.1 + sC w + sD r.2.2.2.2
def scoreR (r : Ra) (w : Int) : Int × Int := if w < 0 ∨ ratedR r = false then (0, 1) else (min2 (max2 (scoreN r w) 0) 255, 0)
theorem rated_iff (r : Ra) : ratedR r = true ↔ (0 ≤ r.1 ∧ r.1 ≤ 15) ∧ (0 ≤ r.2.1 ∧ r.2.1 ≤ 255) ∧ (0 ≤ r.2.2.1 ∧ r.2.2.1 ≤ 255) ∧ (0 ≤ r.2.2.2.1 ∧ r.2.2.2.1 ≤ 255) ∧ (0 ≤ r.2.2.2.2 ∧ r.2.2.2.2 ≤ 255) := by
  simp [ratedR, withinR, and_assoc]
def K19 : Fn1 := ⟨.fld raT (.one I), .fld I (.one I), fun _ => [], fun (a : Ra × Int) => scoreR a.1 a.2⟩
theorem k19 : FnOk Go.Proofs.Try.prog 19 K19 := by
  refine fn_ok (E := E19) (TOk.of tab_told) (AllOk.cons k41 (.cons k42 .nil)).at_ mix Go.Proofs.Try.func19 rfl rfl (by kernel_rfl) K19 ?_
  rintro ⟨⟨(rc : Int), (rs : Int), (rd : Int), (rv : Int), (ry : Int)⟩, (wt : Int)⟩ hp
  clear hp
  conv => whnf
  refine cond_intro (fun h1 => ?_) (fun h1 => ?_)
  · have h1 : wt < 0 := @of_decide_eq_true _ _ h1
    conv => whnf
    show (0, 1) = scoreR (rc, rs, rd, rv, ry) wt
    rw [scoreR, if_pos (Or.inl h1)]
  have h1 : ¬ wt < 0 := @of_decide_eq_false _ _ h1
  conv => whnf
  refine cond_intro (fun h2 => ?_) (fun h2 => ?_)
  · have h2 : (!ratedR (rc, rs, rd, rv, ry)) = true := h2
    conv => whnf
    show (0, 1) = scoreR (rc, rs, rd, rv, ry) wt
    rw [scoreR, if_pos (Or.inr (by simpa using h2))]
  have h2 : (!ratedR (rc, rs, rd, rv, ry)) = false := h2
  have h2 : ratedR (rc, rs, rd, rv, ry) = true := by simpa using h2
  conv => whnf
  refine ⟨show (4 : Int) ≠ 0 by decide, ?_⟩
  conv => whnf
  refine ⟨show (3 : Nat) < 4 by decide, ?_⟩
  conv => whnf
  refine ⟨show (4 : Nat) ≤ 100000 by decide, ?_⟩
  conv => whnf
  refine ⟨show (4 : Nat) < 5 by decide, ?_⟩
  conv => whnf
  refine ⟨show (5 : Nat) ≤ 100000 by decide, ?_⟩
  conv => whnf
  refine ⟨show (5 : Nat) < 6 by decide, ?_⟩
  conv => whnf
  refine ⟨show (6 : Nat) ≤ 100000 by decide, ?_⟩
  conv => whnf
  refine ⟨show (3 : Nat) < 4 by decide, ?_⟩
  conv => whnf
  refine ⟨show (4 : Nat) ≤ 100000 by decide, ?_⟩
  conv => whnf

  obtain ⟨_, _, _, q, _⟩ := (rated_iff _).1 h2
  simp only at q
  have a0 := sV_bd rv
  have a1 := sA_bd rd
  have a2 := sB_bd rd
  have a3 := sC_bd wt
  have a4 := sD_bd ry
  have e0 : min2 (IntKind.i64.wrap ((max2 (IntKind.i64.wrap (rv - 85)) 0).tdiv 4)) 43 = sV rv := by
    rw [wrap_eq (i := rv - 85) (by omega) (by omega)]
    have h0 : 0 ≤ max2 (rv - 85) 0 ∧ max2 (rv - 85) 0 ≤ 255 := by unfold max2; split <;> omega
    rw [Int.tdiv_eq_ediv_of_nonneg h0.1, wrap_eq (by omega) (by omega)]
    rfl
  show (min2 (max2 (IntKind.i64.wrap (IntKind.i64.wrap (IntKind.i64.wrap (IntKind.i64.wrap (min2 (IntKind.i64.wrap ((max2 (IntKind.i64.wrap (rv - 85)) 0).tdiv 4)) 43 + sA rd) + sB rd) + sC wt) + sD ry)) 0) 255, 0) = scoreR (rc, rs, rd, rv, ry) wt
  rw [scoreR, if_neg (by simp [h1, h2]), e0, wrap_eq (i := sV rv + sA rd) (by omega) (by omega), wrap_eq (i := sV rv + sA rd + sB rd) (by omega) (by omega), wrap_eq (i := sV rv + sA rd + sB rd + sC wt) (by omega) (by omega), wrap_eq (i := sV rv + sA rd + sB rd + sC wt + sD ry) (by omega) (by omega)]
  rfl
theorem score_bd (r : Ra) (w : Int) : 0 ≤ (scoreR r w).1 ∧ (scoreR r w).1 ≤ 255 := by
  unfold scoreR min2 max2
  repeat' split
  all_goals (simp only; omega)
theorem score_falls {r o : Ra} {w m : Int} (h1 : (scoreR r w).2 = 0) (h2 : (scoreR o m).2 = 0) (hd : r.2.2.1 ≤ o.2.2.1) (hy : r.2.2.2.2 ≤ o.2.2.2.2) (hw : w ≤ m) (hv : o.2.2.2.1 ≤ r.2.2.2.1) : (scoreR o m).1 ≤ (scoreR r w).1 := by
  by_cases c1 : w < 0 ∨ ratedR r = false
  · rw [scoreR, if_pos c1] at h1; simp at h1
  by_cases c2 : m < 0 ∨ ratedR o = false
  · rw [scoreR, if_pos c2] at h2; simp at h2
  rw [scoreR, scoreR, if_neg c1, if_neg c2]
  have aA : sA o.2.2.1 ≤ sA r.2.2.1 := by unfold sA; repeat' split
                                          all_goals omega
  have aB : sB o.2.2.1 ≤ sB r.2.2.1 := by unfold sB; repeat' split
                                          all_goals omega
  have aC : sC m ≤ sC w := by unfold sC; repeat' split
                              all_goals omega
  have aD : sD o.2.2.2.2 ≤ sD r.2.2.2.2 := by unfold sD; repeat' split
                                              all_goals omega
  have aV : sV o.2.2.2.1 ≤ sV r.2.2.2.1 := by
    unfold sV min2 max2
    repeat' split
    all_goals omega
  have aN : scoreN o m ≤ scoreN r w := by unfold scoreN; omega
  unfold min2 max2
  repeat' split
  all_goals (simp only; omega)
end
end Go.Proofs.Yteidanhfkaljaaa.Eng
set_option linter.unusedVariables false
namespace Go.Proofs.Yteidanhfkaljaaa.Eng
open Go
set_option maxRecDepth 100000
noncomputable section
def E6 : Env := ⟨tab, [(12, K12), (19, K19)], ann0⟩
def K6 : Fn1 := ⟨.fld raT (.fld raT (.fld I (.one I))), .one .bool, fun _ => [], fun _ => true⟩
theorem k6 : FnOk Go.Proofs.Try.prog 6 K6 := by
  refine fn_ok (E := E6) (TOk.of tab_told) (AllOk.cons k12 (.cons k19 .nil)).at_ mix Go.Proofs.Try.func6 rfl rfl (by kernel_rfl) K6 ?_
  rintro ⟨⟨(rc : Int), (rs : Int), (rd : Int), (rv : Int), (ry : Int)⟩, ⟨(oc : Int), (os : Int), (od : Int), (ov : Int), (oy : Int)⟩, (wt : Int), (mo : Int)⟩ hp
  clear hp
  have b1 := score_bd (rc, rs, rd, rv, ry) wt
  have b2 := score_bd (oc, os, od, ov, oy) mo
  have hf := fun h1 h2 h3 h4 h5 h6 => score_falls (r := (rc, rs, rd, rv, ry)) (o := (oc, os, od, ov, oy)) (w := wt) (m := mo) h1 h2 h3 h4 h5 h6
  conv => whnf
  refine cond_intro (fun h0 => ?_) (fun h0 => ?_)
  · conv => whnf
    rfl
  have h0 : (!decide ((scoreR (rc, rs, rd, rv, ry) wt).2 = 0)) = false := h0
  have h0 : (scoreR (rc, rs, rd, rv, ry) wt).2 = 0 := by simpa using h0
  conv => whnf
  refine cond_intro (fun h1 => ?_) (fun h1 => ?_)
  · conv => whnf
    rfl
  have h1 : (!decide ((scoreR (oc, os, od, ov, oy) mo).2 = 0)) = false := h1
  have h1 : (scoreR (oc, os, od, ov, oy) mo).2 = 0 := by simpa using h1
  conv => whnf
  refine cond_intro (fun h2 => ?_) (fun h2 => ?_)
  · conv => whnf
    rfl
  have h2 : decide (od < rd) = false := h2
  have h2 : ¬ od < rd := by simpa using h2
  conv => whnf
  refine cond_intro (fun h3 => ?_) (fun h3 => ?_)
  · conv => whnf
    rfl
  have h3 : decide (oy < ry) = false := h3
  have h3 : ¬ oy < ry := by simpa using h3
  conv => whnf
  refine cond_intro (fun h4 => ?_) (fun h4 => ?_)
  · conv => whnf
    rfl
  have h4 : decide (mo < wt) = false := h4
  have h4 : ¬ mo < wt := by simpa using h4
  conv => whnf
  refine cond_intro (fun h5 => ?_) (fun h5 => ?_)
  · conv => whnf
    rfl
  have h5 : decide (rv < ov) = false := h5
  have h5 : ¬ rv < ov := by simpa using h5
  have hg := hf h0 h1 (by show rd ≤ od; omega) (by show ry ≤ oy; omega) (by omega) (by show ov ≤ rv; omega)
  conv => whnf
  refine cond_intro (fun g => ?_) (fun g => ?_)
  case refine_2 =>
    have g : ¬ (scoreR (oc, os, od, ov, oy) mo).1 ≤ (scoreR (rc, rs, rd, rv, ry) wt).1 := @of_decide_eq_false _ _ g
    omega
  conv => whnf
  refine cond_intro (fun g => ?_) (fun g => ?_)
  case refine_2 =>
    have g : ¬ (scoreR (rc, rs, rd, rv, ry) wt).1 ≤ 255 := @of_decide_eq_false _ _ g
    omega
  conv => whnf
  refine cond_intro (fun g => ?_) (fun g => ?_)
  case refine_2 =>
    have g : ¬ 0 ≤ (scoreR (oc, os, od, ov, oy) mo).1 := @of_decide_eq_false _ _ g
    omega
  conv => whnf
  rfl
end
end Go.Proofs.Yteidanhfkaljaaa.Eng
set_option linter.unusedVariables false
set_option linter.unusedSimpArgs false
namespace Go.Proofs.Yteidanhfkaljaaa.Eng.Cg
open Go Go.Proofs.Yteidanhfkaljaaa.Eng
set_option maxRecDepth 100000
noncomputable section
open Go.RowKit
def Asc (l : List Int) : Prop := l.Pairwise fun a b => a < b
theorem asc_nodup {l : List Int} (h : Asc l) : l.Nodup := List.Pairwise.imp (fun {a b} (hab : a < b) => by omega) h
theorem sl_min {l : List Int} {a b : Nat} (h : l.length ≤ b) : sl l a b = sl l a l.length := by
  unfold sl
  rw [List.take_of_length_le h, List.take_of_length_le (Nat.le_refl _)]
theorem sl_out {y : List Pa} {l : List Int} {a b c d : Nat} (h1 : a ≤ b) (h2 : b ≤ l.length) (h : d ≤ a ∨ b ≤ c) : sl (upS y l a b) c d = sl l c d := by
  have e := upS_len (y := y) h1 h2
  by_cases hd : d ≤ l.length
  · exact sl_upS_out h1 h2 hd h
  · rw [sl_min (l := l) (by omega), sl_min (l := upS y l a b) (by omega), e]
    exact sl_upS_out h1 h2 (Nat.le_refl _) (by omega)
theorem sl_same {l k : List Int} {a b : Nat} (h : l.length = k.length) (g : ∀ i, a ≤ i → i < b → gI l i = gI k i) : sl l a b = sl k a b := by
  refine gI_ext ?_ fun i hi => ?_
  · unfold sl; simp only [List.length_drop, List.length_take, h]
  · unfold sl at hi
    rw [List.length_drop, List.length_take] at hi
    rw [gI_sl, gI_sl, if_pos (by omega), if_pos (by omega), g _ (by omega) (by omega)]
theorem dvd_step {s p a : Nat} (h : s ∣ p) (g : s ∣ a) (hp : p < a) : p + s ≤ a := by
  obtain ⟨k, rfl⟩ := h
  obtain ⟨j, rfl⟩ := g
  have : k < j := Nat.lt_of_mul_lt_mul_left hp
  have := Nat.mul_le_mul_left s (show k + 1 ≤ j from this)
  rwa [Nat.mul_add, Nat.mul_one] at this
def Bl (y : List Pa) (l0 l : List Int) (s p : Nat) : Prop := sl l p (p + s) = SB y (sl l0 p (p + s))
structure In1 (y : List Pa) (l0 l : List Int) (a : Nat) : Prop where
  d : 20 ∣ a
  le : a ≤ l0.length
  bl : ∀ p, 20 ∣ p → p < a → Bl y l0 l 20 p
  same : ∀ i, a ≤ i → gI l i = gI l0 i
  pm : l.Perm l0
structure In2 (y : List Pa) (l0 l : List Int) (s : Nat) : Prop where
  bl : ∀ p, s ∣ p → p < l0.length → Bl y l0 l s p
  pm : l.Perm l0
structure In3 (y : List Pa) (l0 l : List Int) (s a : Nat) : Prop where
  d : (2 * s) ∣ a
  le : a ≤ l0.length
  b2 : ∀ p, (2 * s) ∣ p → p < a → Bl y l0 l (2 * s) p
  b1 : ∀ p, s ∣ p → a ≤ p → p < l0.length → Bl y l0 l s p
  pm : l.Perm l0
theorem in1_start (y : List Pa) (l0 : List Int) : In1 y l0 l0 0 := ⟨Nat.dvd_zero _, Nat.zero_le _, fun p _ h => by omega, fun _ _ => rfl, List.Perm.refl _⟩
theorem In1.rdy {y : List Pa} {l0 l : List Int} {a b : Nat} (h : In1 y l0 l a) (ha : Asc l0) : Rdy y (sl l a b) := by
  rw [sl_same h.pm.length_eq fun i h1 _ => h.same i h1]
  have : (sl l0 a b).Pairwise fun a b => a < b := List.Pairwise.sublist ((List.drop_sublist _ _).trans (List.take_sublist _ _)) ha
  unfold Rdy
  exact this.imp fun {u v} huv => fun _ => huv
theorem In1.step {y : List Pa} {l0 l : List Int} {a : Nat} (h : In1 y l0 l a) (hb : a + 20 ≤ l0.length) : In1 y l0 (upS y l a (a + 20)) (a + 20) := by
  have hl := h.pm.length_eq
  refine ⟨Nat.dvd_add h.d (Nat.dvd_refl _), hb, fun p hp hpa => ?_, fun i hi => ?_, (upS_perm (by omega)).trans h.pm⟩
  · by_cases e : p = a
    · subst e
      unfold Bl
      rw [sl_upS (by omega) (by omega), sl_same hl fun i h1 _ => h.same i h1]
    · have hlt : p < a := by
        rcases Nat.lt_or_ge p a with q | q
        · exact q
        · have := dvd_step h.d hp (by omega); omega
      have := dvd_step hp h.d hlt
      unfold Bl
      rw [sl_out (by omega) (by omega) (Or.inl this)]
      exact h.bl p hp hlt
  · rw [upS_out (by omega) (by omega) (Or.inr hi)]
    exact h.same i (by omega)
theorem In1.fin {y : List Pa} {l0 l : List Int} {a : Nat} (h : In1 y l0 l a) (hb : l0.length < a + 20) : In2 y l0 (upS y l a l0.length) 20 := by
  have hl := h.pm.length_eq
  have hu := upS_len (y := y) (l := l) (a := a) (b := l0.length) h.le (by omega)
  refine ⟨fun p hp hpa => ?_, (upS_perm h.le).trans h.pm⟩
  unfold Bl
  by_cases e : p = a
  · subst e
    rw [sl_min (by omega), hu, sl_min (l := l0) (by omega), hl, sl_upS h.le (by omega), sl_same hl fun i h1 _ => h.same i h1]
  · have hlt : p < a := by
      rcases Nat.lt_or_ge p a with q | q
      · exact q
      · have := dvd_step h.d hp (by omega); omega
    have := dvd_step hp h.d hlt
    rw [sl_out h.le (by omega) (Or.inl this)]
    exact h.bl p hp hlt
theorem In2.fin {y : List Pa} {l0 l : List Int} {s : Nat} (h : In2 y l0 l s) (hs : l0.length ≤ s) : l = SB y l0 := by
  have hl := h.pm.length_eq
  by_cases e : l0.length = 0
  · have e1 : l0 = [] := List.length_eq_zero_iff.1 e
    have e2 : l = [] := List.length_eq_zero_iff.1 (by omega)
    rw [e1, e2, SB_nil]
  · have := h.bl 0 (Nat.dvd_zero _) (by omega)
    unfold Bl at this
    rw [Nat.zero_add, sl_take (a := 0), sl_take (a := 0), List.take_of_length_le (by omega), List.take_of_length_le hs] at this
    exact this
theorem In2.start {y : List Pa} {l0 l : List Int} {s : Nat} (h : In2 y l0 l s) : In3 y l0 l s 0 := ⟨Nat.dvd_zero _, Nat.zero_le _, fun p _ h => by omega, fun p hp _ h2 => h.bl p hp h2, h.pm⟩
theorem In3.two {y : List Pa} {l0 l : List Int} {s a b : Nat} (h : In3 y l0 l s a) (h1 : a + s < b) (h2 : b ≤ l0.length) (h3 : b = a + 2 * s ∨ (b = l0.length ∧ b < a + 2 * s)) :
    sl l a (a + s) = SB y (sl l0 a (a + s)) ∧ sl l (a + s) b = SB y (sl l0 (a + s) b) := by
  have hl := h.pm.length_eq
  have hd : s ∣ a := Nat.dvd_trans (Nat.dvd_mul_left s 2) h.d
  refine ⟨h.b1 a hd (Nat.le_refl _) (by omega), ?_⟩
  have := h.b1 (a + s) (Nat.dvd_add hd (Nat.dvd_refl _)) (by omega) (by omega)
  unfold Bl at this
  rw [Nat.add_assoc, show s + s = 2 * s by omega] at this
  rcases h3 with rfl | ⟨rfl, h4⟩
  · exact this
  · rw [sl_min (by omega), sl_min (l := l0) (by omega), hl] at this
    exact this
theorem In3.pw {y : List Pa} {l0 l : List Int} {s a b : Nat} (h : In3 y l0 l s a) (h1 : a + s < b) (h2 : b ≤ l0.length) (h3 : b = a + 2 * s ∨ (b = l0.length ∧ b < a + 2 * s)) (ha : Asc l0) :
    Pw y (sl l a (a + s)) ∧ Pw y (sl l (a + s) b) ∧ Cr y (sl l a (a + s)) (sl l (a + s) b) := by
  obtain ⟨e1, e2⟩ := h.two h1 h2 h3
  rw [e1, e2]
  refine ⟨SB_pw (nodup_sl (asc_nodup ha) _ _), SB_pw (nodup_sl (asc_nodup ha) _ _), fun u hu v hv _ => ?_⟩
  obtain ⟨i, i1, i2, i3, rfl⟩ := mem_sl ((SB_perm y _).mem_iff.1 hu)
  obtain ⟨j, j1, j2, j3, rfl⟩ := mem_sl ((SB_perm y _).mem_iff.1 hv)
  rw [gI_eq i3, gI_eq j3]
  exact List.pairwise_iff_getElem.1 ha i j i3 j3 (by omega)
theorem In3.all {y : List Pa} {l0 l : List Int} {s a b : Nat} (h : In3 y l0 l s a) (h1 : a + s < b) (h2 : b ≤ l0.length) (h3 : b = a + 2 * s ∨ (b = l0.length ∧ b < a + 2 * s)) (hn : l0.Nodup) : sl (upS y l a b) a b = SB y (sl l0 a b) := by
  have hl := h.pm.length_eq
  obtain ⟨e1, e2⟩ := h.two h1 h2 h3
  rw [sl_upS (by omega) (by omega)]
  refine SB_congr ?_ (nodup_sl (h.pm.nodup_iff.2 hn) _ _)
  rw [sl_split l a (a + s) b (by omega) (by omega) (by omega), sl_split l0 a (a + s) b (by omega) (by omega) (by omega), e1, e2]
  exact (SB_perm y _).append (SB_perm y _)
theorem In3.lt {y : List Pa} {l0 l : List Int} {s a p : Nat} (h : In3 y l0 l s a) (hp : (2 * s) ∣ p) (e : p ≠ a) (hpa : p < a + 2 * s) : p < a ∧ p + 2 * s ≤ a := by
  have hlt : p < a := by
    rcases Nat.lt_or_ge p a with q | q
    · exact q
    · have := dvd_step h.d hp (by omega); omega
  exact ⟨hlt, dvd_step hp h.d hlt⟩
theorem In3.step {y : List Pa} {l0 l : List Int} {s a : Nat} (h : In3 y l0 l s a) (hs : 0 < s) (hb : a + 2 * s ≤ l0.length) (hn : l0.Nodup) : In3 y l0 (upS y l a (a + 2 * s)) s (a + 2 * s) := by
  have hl := h.pm.length_eq
  refine ⟨Nat.dvd_add h.d (Nat.dvd_refl _), hb, fun p hp hpa => ?_, fun p hp h1 h2 => ?_, (upS_perm (by omega)).trans h.pm⟩
  · unfold Bl
    by_cases e : p = a
    · subst e
      exact h.all (by omega) hb (Or.inl rfl) hn
    · obtain ⟨q1, q2⟩ := h.lt hp e hpa
      rw [sl_out (by omega) (by omega) (Or.inl q2)]
      exact h.b2 p hp q1
  · unfold Bl
    rw [sl_out (by omega) (by omega) (Or.inr h1)]
    exact h.b1 p hp (by omega) h2
theorem In3.fin1 {y : List Pa} {l0 l : List Int} {s a : Nat} (h : In3 y l0 l s a) (hb : l0.length < a + 2 * s) (hm : a + s < l0.length) (hn : l0.Nodup) : In2 y l0 (upS y l a l0.length) (2 * s) := by
  have hl := h.pm.length_eq
  have hu := upS_len (y := y) (l := l) (a := a) (b := l0.length) h.le (by omega)
  refine ⟨fun p hp hpa => ?_, (upS_perm h.le).trans h.pm⟩
  unfold Bl
  by_cases e : p = a
  · subst e
    rw [sl_min (by omega), hu, sl_min (l := l0) (by omega), hl]
    exact h.all hm (Nat.le_refl _) (Or.inr ⟨rfl, hb⟩) hn
  · obtain ⟨q1, q2⟩ := h.lt hp e (by omega)
    rw [sl_out h.le (by omega) (Or.inl q2)]
    exact h.b2 p hp q1
theorem In3.fin2 {y : List Pa} {l0 l : List Int} {s a : Nat} (h : In3 y l0 l s a) (hb : l0.length < a + 2 * s) (hm : l0.length ≤ a + s) : In2 y l0 l (2 * s) := by
  have hl := h.pm.length_eq
  refine ⟨fun p hp hpa => ?_, h.pm⟩
  by_cases e : p = a
  · subst e
    have := h.b1 p (Nat.dvd_trans (Nat.dvd_mul_left s 2) hp) (Nat.le_refl _) hpa
    unfold Bl at this ⊢
    rw [sl_min (by omega), sl_min (l := l0) (by omega)] at this ⊢
    exact this
  · obtain ⟨q1, q2⟩ := h.lt hp e (by omega)
    exact h.b2 p hp q1
abbrev NN : Nat := 2000000
def P85 : List Int → List Pa → List Int → List Prop := fun is y xs => match is with | [n] => [n = xs.length, xs.length ≤ 1000000, Gd y xs, Asc xs] | _ => [False]
def R85 : List Int → List Pa → List Int → List Int := fun is y xs => match is with | [n] => SB y xs | _ => xs
def X85 : List AV → Nat → Rd Res := slX I 69 plT 1 P85 R85
def E85 : Env := ⟨tab, [(94, .eff X94), (95, .eff (X95 NN))], fun n => match n with | 2 => some ([0, 1, 2, 6, 7, 8], [], []) | 7 => some ([0, 1, 2, 6], [], []) | 9 => some ([0, 1, 2, 6, 7, 8], [], []) | _ => none⟩
def S85 (n : Int) (y : List Pa) (s : Int) (l : List Int) (a b : Int) : SL := ⟨[.own 0, .int .i64 n, .fn 69 [.eptr plT y 0], .undef, .undef, .undef, .int .i64 s, .int .i64 a, .int .i64 b] ++ List.replicate 54 .undef, [(0, .arr I l)], 1⟩
def T85 (n : Int) (y : List Pa) (s : Int) (l : List Int) : SL := ⟨[.own 0, .int .i64 n, .fn 69 [.eptr plT y 0], .undef, .undef, .undef, .int .i64 s] ++ List.replicate 56 .undef, [(0, .arr I l)], 1⟩
set_option maxHeartbeats 1000000 in
theorem k85 : FxOk Go.Proofs.Try.prog 85 X85 := by
  refine fx_sl (E := E85) (TOk.of tab_told) (AllOk.consX k94 (.consX (k95 NN) .nil)).at_ mix Go.Proofs.Try.func85 rfl rfl rfl (by kernel_rfl) (by kernel_rfl) I rfl 69 plT 1 P85 R85 ?_
  rintro is (y : List Pa) (xs : List Int) hl hp
  obtain ⟨n, rfl⟩ := l1_of hl
  have h1 : n = (xs : List Int).length := hp _ (List.mem_cons_self ..)
  have h2 : (xs : List Int).length ≤ 1000000 := hp _ (List.mem_cons_of_mem _ (List.mem_cons_self ..))
  have h3 : Gd y xs := hp _ (List.mem_cons_of_mem _ (List.mem_cons_of_mem _ (List.mem_cons_self ..)))
  have h4 : Asc xs := hp _ (List.mem_cons_of_mem _ (List.mem_cons_of_mem _ (List.mem_cons_of_mem _ (List.mem_cons_self ..))))
  clear hp hl
  subst h1
  have hnd := asc_nodup h4
  conv => whnf
  refine loop_rule (fun x : List Int × Int => S85 xs.length y 20 x.1 x.2 (x.2 + 20)) (fun x => (xs.length - x.2).toNat) (fun x => 0 ≤ x.2 ∧ x.2 ≤ xs.length ∧ In1 y xs x.1 x.2.toNat) ?_ (xs, 0) (by kernel_rfl) ?_ ⟨Int.le_refl _, by show (0 : Int) ≤ _; omega, in1_start y xs⟩
  case refine_2 => rfl
  rintro ⟨l, a⟩ ⟨(a0 : 0 ≤ a), (a1 : a ≤ xs.length), (hI : In1 y xs l a.toNat)⟩
  have hll := hI.pm.length_eq
  conv => whnf
  refine cond_intro (fun hb => ?_) (fun hb => ?_)
  · have hb : a + 20 ≤ (xs.length : Int) := @of_decide_eq_true _ _ hb
    conv => whnf
    refine ⟨show 0 ≤ a by omega, ?_⟩
    conv => whnf
    refine ⟨show a ≤ (a + 20) by omega, ?_⟩
    conv => whnf
    refine ⟨show (a + 20) ≤ (l.length : Int) by omega, ?_⟩
    conv => whnf
    refine ⟨show l.length ≤ 1000000 by omega, ?_⟩
    conv => whnf
    refine ⟨show Gd y l from gd_perm hI.pm.symm h3, ?_⟩
    conv => whnf
    refine ⟨show l.Nodup from hI.pm.nodup_iff.2 hnd, ?_⟩
    conv => whnf
    refine ⟨show Rdy y (sl l a.toNat (a + 20).toNat) from hI.rdy h4, ?_⟩
    conv => whnf
    have w1 : IntKind.i64.wrap (a + 20 + 20) = a + 20 + 20 := wrap_eq (by omega) (by omega)
    refine ⟨(upS y l a.toNat (a + 20).toNat, a + 20), ?_, ⟨by show 0 ≤ a + 20; omega, by show a + 20 ≤ _; omega, ?_⟩, by show (xs.length - (a + 20)).toNat < (xs.length - a).toNat; omega⟩
    · exact Eq.trans (b := S85 xs.length y 20 (upS y l a.toNat (a + 20).toNat) (a + 20) (IntKind.i64.wrap (a + 20 + 20))) rfl (by rw [w1])
    · show In1 y xs (upS y l a.toNat (a + 20).toNat) (a + 20).toNat
      rw [show (a + 20).toNat = a.toNat + 20 by omega]; exact hI.step (by omega)
  have hb : ¬ (a + 20 ≤ (xs.length : Int)) := @of_decide_eq_false _ _ hb
  conv => whnf
  refine ⟨show 0 ≤ a by omega, ?_⟩
  conv => whnf
  refine ⟨show a ≤ (xs.length : Int) by omega, ?_⟩
  conv => whnf
  refine ⟨show (xs.length : Int) ≤ (l.length : Int) by omega, ?_⟩
  conv => whnf
  refine ⟨show l.length ≤ 1000000 by omega, ?_⟩
  conv => whnf
  refine ⟨show Gd y l from gd_perm hI.pm.symm h3, ?_⟩
  conv => whnf
  refine ⟨show l.Nodup from hI.pm.nodup_iff.2 hnd, ?_⟩
  conv => whnf
  refine ⟨show Rdy y (sl l a.toNat (xs.length : Int).toNat) from hI.rdy h4, ?_⟩
  conv => whnf
  refine loop_rule (fun x : List Int × Int => T85 xs.length y x.2 x.1) (fun x => (xs.length - x.2).toNat) (fun x => 0 < x.2 ∧ In2 y xs x.1 x.2.toNat) ?_ (upS y l a.toNat xs.length, 20) (by kernel_rfl) ?_ ⟨by show (0 : Int) < 20; omega, hI.fin (by omega)⟩
  case refine_2 => rfl
  rintro ⟨l, s⟩ ⟨(s0 : 0 < s), (hI : In2 y xs l s.toNat)⟩
  have hll := hI.pm.length_eq
  conv => whnf
  refine cond_intro (fun hs => ?_) (fun hs => ?_)
  · have hs : s < (xs.length : Int) := @of_decide_eq_true _ _ hs
    have w2 : IntKind.i64.wrap (2 * s) = 2 * s := wrap_eq (by omega) (by omega)
    have w3 : IntKind.i64.wrap (s * 2) = 2 * s := by rw [Int.mul_comm]; exact w2
    conv => whnf
    refine loop_rule (fun x : List Int × Int => S85 xs.length y s x.1 x.2 (x.2 + 2 * s)) (fun x => (xs.length - x.2).toNat) (fun x => 0 ≤ x.2 ∧ x.2 ≤ xs.length ∧ In3 y xs x.1 s.toNat x.2.toNat) ?_ (l, 0) (by kernel_rfl) ?_ ⟨Int.le_refl _, by show (0 : Int) ≤ _; omega, hI.start⟩
    case refine_2 => exact Eq.trans (b := S85 xs.length y s l 0 (IntKind.i64.wrap (2 * s))) rfl (by rw [w2, Int.zero_add])
    rintro ⟨l, a⟩ ⟨(a0 : 0 ≤ a), (a1 : a ≤ xs.length), (hJ : In3 y xs l s.toNat a.toNat)⟩
    have hll := hJ.pm.length_eq
    have wm : IntKind.i64.wrap (a + s) = a + s := wrap_eq (by omega) (by omega)
    have em : (IntKind.i64.wrap (a + s)).toNat = a.toNat + s.toNat := by omega
    conv => whnf
    refine cond_intro (fun hb => ?_) (fun hb => ?_)
    · have hb : a + 2 * s ≤ (xs.length : Int) := @of_decide_eq_true _ _ hb
      obtain ⟨pw1, pw2, cr⟩ := hJ.pw (b := ((a + 2 * s)).toNat) (by omega) (by omega) (by omega) h4
      conv => whnf
      refine ⟨show 0 ≤ a by omega, ?_⟩
      conv => whnf
      refine ⟨show a < IntKind.i64.wrap (a + s) by omega, ?_⟩
      conv => whnf
      refine ⟨show IntKind.i64.wrap (a + s) < (a + 2 * s) by omega, ?_⟩
      conv => whnf
      refine ⟨show (a + 2 * s) ≤ (l.length : Int) by omega, ?_⟩
      conv => whnf
      refine ⟨show l.length ≤ 1000000 by omega, ?_⟩
      conv => whnf
      refine ⟨show (a + 2 * s) - a < ((2000000 : Nat) : Int) by omega, ?_⟩
      conv => whnf
      refine ⟨show Gd y l from gd_perm hJ.pm.symm h3, ?_⟩
      conv => whnf
      refine ⟨show l.Nodup from hJ.pm.nodup_iff.2 hnd, ?_⟩
      conv => whnf
      refine ⟨show Pw y (sl l a.toNat (IntKind.i64.wrap (a + s)).toNat) by rw [em]; exact pw1, ?_⟩
      conv => whnf
      refine ⟨show Pw y (sl l (IntKind.i64.wrap (a + s)).toNat ((a + 2 * s)).toNat) by rw [em]; exact pw2, ?_⟩
      conv => whnf
      refine ⟨show Cr y (sl l a.toNat (IntKind.i64.wrap (a + s)).toNat) (sl l (IntKind.i64.wrap (a + s)).toNat ((a + 2 * s)).toNat) by rw [em]; exact cr, ?_⟩
      conv => whnf
      have w4 : IntKind.i64.wrap (a + 2 * s + IntKind.i64.wrap (2 * s)) = a + 2 * s + 2 * s := by rw [w2]; exact wrap_eq (by omega) (by omega)
      refine ⟨(upS y l a.toNat (a + 2 * s).toNat, a + 2 * s), ?_, ⟨by show 0 ≤ a + 2 * s; omega, by show a + 2 * s ≤ _; omega, ?_⟩, by show (xs.length - (a + 2 * s)).toNat < (xs.length - a).toNat; omega⟩
      · exact Eq.trans (b := S85 xs.length y s (upS y l a.toNat (a + 2 * s).toNat) (a + 2 * s) (IntKind.i64.wrap (a + 2 * s + IntKind.i64.wrap (2 * s)))) rfl (by rw [w4])
      · show In3 y xs (upS y l a.toNat (a + 2 * s).toNat) s.toNat (a + 2 * s).toNat
        rw [show (a + 2 * s).toNat = a.toNat + 2 * s.toNat by omega]; exact hJ.step (by omega) (by omega) hnd
    have hb : ¬ (a + 2 * s ≤ (xs.length : Int)) := @of_decide_eq_false _ _ hb
    conv => whnf
    refine cond_intro (fun hm => ?_) (fun hm => ?_)
    · have hm : IntKind.i64.wrap (a + s) < (xs.length : Int) := @of_decide_eq_true _ _ hm
      obtain ⟨pw1, pw2, cr⟩ := hJ.pw (b := ((xs.length : Int)).toNat) (by omega) (by omega) (by omega) h4
      conv => whnf
      refine ⟨show 0 ≤ a by omega, ?_⟩
      conv => whnf
      refine ⟨show a < IntKind.i64.wrap (a + s) by omega, ?_⟩
      conv => whnf
      refine ⟨show IntKind.i64.wrap (a + s) < (xs.length : Int) by omega, ?_⟩
      conv => whnf
      refine ⟨show (xs.length : Int) ≤ (l.length : Int) by omega, ?_⟩
      conv => whnf
      refine ⟨show l.length ≤ 1000000 by omega, ?_⟩
      conv => whnf
      refine ⟨show (xs.length : Int) - a < ((2000000 : Nat) : Int) by omega, ?_⟩
      conv => whnf
      refine ⟨show Gd y l from gd_perm hJ.pm.symm h3, ?_⟩
      conv => whnf
      refine ⟨show l.Nodup from hJ.pm.nodup_iff.2 hnd, ?_⟩
      conv => whnf
      refine ⟨show Pw y (sl l a.toNat (IntKind.i64.wrap (a + s)).toNat) by rw [em]; exact pw1, ?_⟩
      conv => whnf
      refine ⟨show Pw y (sl l (IntKind.i64.wrap (a + s)).toNat ((xs.length : Int)).toNat) by rw [em]; exact pw2, ?_⟩
      conv => whnf
      refine ⟨show Cr y (sl l a.toNat (IntKind.i64.wrap (a + s)).toNat) (sl l (IntKind.i64.wrap (a + s)).toNat ((xs.length : Int)).toNat) by rw [em]; exact cr, ?_⟩
      conv => whnf
      refine ⟨(upS y l a.toNat xs.length, 2 * s), ?_, ⟨by show 0 < 2 * s; omega, ?_⟩, by show (xs.length - 2 * s).toNat < (xs.length - s).toNat; omega⟩
      · exact Eq.trans (b := T85 xs.length y (IntKind.i64.wrap (s * 2)) (upS y l a.toNat (xs.length : Int).toNat)) rfl (by rw [w3]; rfl)
      · show In2 y xs (upS y l a.toNat xs.length) (2 * s).toNat
        rw [show (2 * s).toNat = 2 * s.toNat by omega]; exact hJ.fin1 (by omega) (by omega) hnd
    have hm : ¬ (IntKind.i64.wrap (a + s) < (xs.length : Int)) := @of_decide_eq_false _ _ hm
    conv => whnf
    refine ⟨(l, 2 * s), ?_, ⟨by show 0 < 2 * s; omega, ?_⟩, by show (xs.length - 2 * s).toNat < (xs.length - s).toNat; omega⟩
    · exact Eq.trans (b := T85 xs.length y (IntKind.i64.wrap (s * 2)) l) rfl (by rw [w3])
    · show In2 y xs l (2 * s).toNat
      rw [show (2 * s).toNat = 2 * s.toNat by omega]; exact hJ.fin2 (by omega) (by omega)
  have hs : ¬ (s < (xs.length : Int)) := @of_decide_eq_false _ _ hs
  conv => whnf
  show some (Ob.arr I l) = some (Ob.arr I (SB y xs))
  rw [hI.fin (by omega)]
def P68 : List Int → List Pa → List Int → List Prop := fun is y xs => match is with | [] => [xs.length ≤ 1000000, Gd y xs, Asc xs] | _ => [False]
def R68 : List Int → List Pa → List Int → List Int := fun is y xs => SB y xs
def X68 : List AV → Nat → Rd Res := slX I 69 plT 0 P68 R68
theorem k68 : FxOk Go.Proofs.Try.prog 68 X68 := by
  refine fx_sl (E := ⟨tab, [(85, .eff X85)], ann0⟩) (TOk.of tab_told) (AllOk.consX k85 .nil).at_ mix Go.Proofs.Try.func68 rfl rfl rfl (by kernel_rfl) (by kernel_rfl) I rfl 69 plT 0 P68 R68 ?_
  rintro is (y : List Pa) (xs : List Int) hl hp
  obtain rfl := List.length_eq_zero_iff.1 hl
  have h2 : (xs : List Int).length ≤ 1000000 := hp _ (List.mem_cons_self ..)
  have h3 : Gd y xs := hp _ (List.mem_cons_of_mem _ (List.mem_cons_self ..))
  have h4 : Asc xs := hp _ (List.mem_cons_of_mem _ (List.mem_cons_of_mem _ (List.mem_cons_self ..)))
  clear hp hl
  conv => whnf
  refine ⟨show (xs.length : Int) = xs.length from rfl, ?_⟩
  conv => whnf
  refine ⟨h2, ?_⟩
  conv => whnf
  refine ⟨h3, ?_⟩
  conv => whnf
  refine ⟨h4, ?_⟩
  conv => whnf
  rfl
end
end Go.Proofs.Yteidanhfkaljaaa.Eng.Cg
set_option linter.unusedVariables false
set_option linter.unusedSimpArgs false
namespace Go.Proofs.Yteidanhfkaljaaa.Eng.Cg
open Go Go.RowKit Go.Proofs.Yteidanhfkaljaaa.Eng
set_option maxRecDepth 100000
noncomputable section
/-- Some units of a parcel, and the rest. -/
def partF (p : Pa) (x : Int) : Pa := (p.1, p.2.1, p.2.2.1, p.2.2.2.1, x, p.2.2.2.2.2 * x / p.2.2.2.2.1)
def restF (p : Pa) (x : Int) : Pa := (p.1, p.2.1, p.2.2.1, p.2.2.2.1, p.2.2.2.2.1 - x, p.2.2.2.2.2 - p.2.2.2.2.2 * x / p.2.2.2.2.1)
theorem part_lt1 (p q : Pa) (x : Int) : ltP (partF p x) q = ltP p q := rfl
theorem part_lt2 (p q : Pa) (x : Int) : ltP q (partF p x) = ltP q p := rfl
theorem rest_zero (p : Pa) : restF p 0 = p := by
  obtain ⟨a, b, c, d, e, f⟩ := p
  simp [restF]
theorem part_all {p : Pa} (h : 1 ≤ p.2.2.2.2.1) : partF p p.2.2.2.2.1 = p := by
  obtain ⟨a, b, c, d, e, f⟩ := p
  have h : 1 ≤ e := h
  simp only [partF]
  rw [Int.mul_ediv_cancel _ (by omega)]
def tkZ (z : List (Pa × Int)) : List Pa := (z.filter fun q => decide (0 < q.2)).map fun q => partF q.1 q.2
def lfZ (z : List (Pa × Int)) : List Pa := (z.filter fun q => decide (0 < q.1.2.2.2.2.1 - q.2)).map fun q => restF q.1 q.2
theorem tkZ_app (a b : List (Pa × Int)) : tkZ (a ++ b) = tkZ a ++ tkZ b := by simp [tkZ]
theorem lfZ_app (a b : List (Pa × Int)) : lfZ (a ++ b) = lfZ a ++ lfZ b := by simp [lfZ]
theorem tkZ_cons (q : Pa × Int) (b : List (Pa × Int)) : tkZ (q :: b) = (if 0 < q.2 then [partF q.1 q.2] else []) ++ tkZ b := by
  unfold tkZ; rw [List.filter_cons]; split <;> simp_all
theorem lfZ_cons (q : Pa × Int) (b : List (Pa × Int)) : lfZ (q :: b) = (if 0 < q.1.2.2.2.2.1 - q.2 then [restF q.1 q.2] else []) ++ lfZ b := by
  unfold lfZ; rw [List.filter_cons]; split <;> simp_all
theorem tkZ_mem {z : List (Pa × Int)} {p : Pa} (h : p ∈ tkZ z) : ∃ q ∈ z, 0 < q.2 ∧ partF q.1 q.2 = p := by
  unfold tkZ at h
  obtain ⟨q, h1, h2⟩ := List.mem_map.1 h
  obtain ⟨h3, h4⟩ := List.mem_filter.1 h1
  exact ⟨q, h3, by simpa using h4, h2⟩
theorem lfZ_mem {z : List (Pa × Int)} {p : Pa} (h : p ∈ lfZ z) : ∃ q ∈ z, 0 < q.1.2.2.2.2.1 - q.2 ∧ restF q.1 q.2 = p := by
  unfold lfZ at h
  obtain ⟨q, h1, h2⟩ := List.mem_map.1 h
  obtain ⟨h3, h4⟩ := List.mem_filter.1 h1
  exact ⟨q, h3, by simpa using h4, h2⟩
theorem zip_at {l : List Pa} {u : List Int} {i : Nat} (h : i < l.length) (hu : u.length = l.length) : l.zip u = (l.take i).zip (u.take i) ++ (gP l i, gI u i) :: (l.drop (i + 1)).zip (u.drop (i + 1)) := by
  have e1 : l = l.take i ++ l[i] :: l.drop (i + 1) := by rw [← List.drop_eq_getElem_cons h, List.take_append_drop]
  have e2 : u = u.take i ++ u[i]'(by omega) :: u.drop (i + 1) := by rw [← List.drop_eq_getElem_cons (by omega), List.take_append_drop]
  conv => lhs; rw [e1, e2]
  rw [List.zip_append (by rw [List.length_take, List.length_take]; omega), List.zip_cons_cons, gP_eq h, gI_eq (by omega)]
theorem zip_set {l : List Pa} {u : List Int} {i : Nat} (x : Int) (h : i < l.length) (hu : u.length = l.length) : l.zip (u.set i x) = (l.take i).zip (u.take i) ++ (gP l i, x) :: (l.drop (i + 1)).zip (u.drop (i + 1)) := by
  rw [zip_at h (by rw [List.length_set]; exact hu), gI_eq (by rw [List.length_set]; omega), List.getElem_set_self, List.take_set_of_le (by omega), List.drop_set_of_lt (by omega)]
theorem zip_mem1 {l : List Pa} {u : List Int} {i : Nat} {q : Pa × Int} (hu : u.length = l.length) (h : q ∈ (l.take i).zip (u.take i)) : ∃ j, j < i ∧ j < l.length ∧ q = (gP l j, gI u j) := by
  obtain ⟨j, hj, rfl⟩ := List.getElem_of_mem h
  rw [List.length_zip, List.length_take, List.length_take] at hj
  refine ⟨j, by omega, by omega, ?_⟩
  rw [List.getElem_zip, List.getElem_take, List.getElem_take, gP_eq (by omega), gI_eq (by omega)]
theorem zip_mem2 {l : List Pa} {u : List Int} {i : Nat} {q : Pa × Int} (hu : u.length = l.length) (h : q ∈ (l.drop i).zip (u.drop i)) : ∃ j, i ≤ j ∧ j < l.length ∧ q = (gP l j, gI u j) := by
  obtain ⟨j, hj, rfl⟩ := List.getElem_of_mem h
  rw [List.length_zip, List.length_drop, List.length_drop] at hj
  refine ⟨i + j, by omega, by omega, ?_⟩
  rw [List.getElem_zip, List.getElem_drop, List.getElem_drop, gP_eq (by omega), gI_eq (by omega)]
theorem put_mid {a b : List Pa} {p : Pa} (h : ∀ x ∈ a, ltP x p = true) (g : ∀ x ∈ b, ltP p x = true) : putW (a ++ b) p = a ++ p :: b := by
  rw [put_app a b p h]
  cases b with
  | nil => rfl
  | cons y b =>
    have := g y List.mem_cons_self
    rw [putW, if_neg (by simp [lt_anti this]), if_pos this]
theorem srt_at {l : List Pa} (h : Srt l) {i j : Nat} (h1 : i < j) (h2 : j < l.length) : ltP (gP l i) (gP l j) = true := by
  rw [gP_eq (by omega), gP_eq h2]
  exact List.pairwise_iff_getElem.1 h i j (by omega) h2 h1
/-- A part that is taken, put among what was taken. -/
theorem tk_put {l : List Pa} {u : List Int} {i : Nat} {x : Int} (hs : Srt l) (h : i < l.length) (hu : u.length = l.length) (h0 : gI u i = 0) (hx : 0 < x) : tkZ (l.zip (u.set i x)) = putW (tkZ (l.zip u)) (partF (gP l i) x) := by
  rw [zip_set x h hu, zip_at h hu, tkZ_app, tkZ_app, tkZ_cons, tkZ_cons, h0]
  simp only [hx, if_true, Int.lt_irrefl, if_false, List.nil_append]
  refine (put_mid (fun p hp => ?_) (fun p hp => ?_)).symm
  · obtain ⟨q, hq, _, rfl⟩ := tkZ_mem hp
    obtain ⟨j, j1, j2, rfl⟩ := zip_mem1 hu hq
    rw [part_lt1, part_lt2]
    exact srt_at hs j1 h
  · obtain ⟨q, hq, _, rfl⟩ := tkZ_mem hp
    obtain ⟨j, j1, j2, rfl⟩ := zip_mem2 hu hq
    rw [part_lt1, part_lt2]
    exact srt_at hs (by omega) j2
def min' (a b : Int) : Int := if b < a then b else a
/-- The units that are taken of each parcel, the places in a given order. -/
def useF (l : List Pa) : List Int → Int → List Int → List Int
  | [], n, u => u
  | i :: r, n, u => useF l r (n - min2 n (gP l i.toNat).2.2.2.2.1) (u.set i.toNat (min2 n (gP l i.toNat).2.2.2.2.1))
theorem useF_len (l : List Pa) : ∀ (o : List Int) (n : Int) (u : List Int), (useF l o n u).length = u.length
  | [], n, u => rfl
  | i :: r, n, u => by rw [useF, useF_len l r]; simp
theorem useF_zero {l : List Pa} (hl : ∀ p ∈ l, okP p) : ∀ {o : List Int} {u : List Int}, u.length = l.length → Gd l o → (∀ i ∈ o, gI u i.toNat = 0) → useF l o 0 u = u
  | [], u, _, _, _ => rfl
  | i :: r, u, hu, hg, h => by
    have h1 := hg i List.mem_cons_self
    have hok : okP (gP l i.toNat) := by rw [gP_eq (by omega)]; exact hl _ (List.getElem_mem _)
    rw [okP_iff] at hok
    have e : min2 0 (gP l i.toNat).2.2.2.2.1 = 0 := by unfold min2; rw [if_neg (by omega)]
    have e2 : u.set i.toNat 0 = u := by
      have := h i List.mem_cons_self
      rw [gI_eq (by omega)] at this
      rw [← this, List.set_getElem_self]
    rw [useF, e, e2, Int.sub_zero]
    exact useF_zero hl hu (fun x hx => hg x (List.mem_cons_of_mem _ hx)) (fun x hx => h x (List.mem_cons_of_mem _ hx))
/-- The place of the oldest parcel of a kind; -1: there is none. -/
def bestF (l : List Pa) (k : Int) : Nat → Int
  | 0 => -1
  | j + 1 => if (gP l j).1 = k ∧ (bestF l k j < 0 ∨ (gP l (bestF l k j).toNat).2.2.2.1 < (gP l j).2.2.2.1) then j else bestF l k j
theorem bestF_bnd (l : List Pa) (k : Int) : ∀ j : Nat, -1 ≤ bestF l k j ∧ bestF l k j < (j : Int)
  | 0 => by simp [bestF]
  | j + 1 => by
    have := bestF_bnd l k j
    unfold bestF
    split <;> omega
theorem bestF_kind (l : List Pa) (k : Int) : ∀ j : Nat, 0 ≤ bestF l k j → (gP l (bestF l k j).toNat).1 = k
  | 0 => by intro h; simp [bestF] at h
  | j + 1 => by
    unfold bestF
    split
    · rename_i h; intro _; simpa using h.1
    · exact bestF_kind l k j
theorem bestF_none {l : List Pa} {k : Int} (h : ∀ x ∈ l, x.1 ≠ k) : ∀ j : Nat, j ≤ l.length → bestF l k j = -1
  | 0, _ => rfl
  | j + 1, hj => by
    unfold bestF
    rw [if_neg, bestF_none h j (by omega)]
    rintro ⟨h1, _⟩
    rw [gP_eq (by omega)] at h1
    exact h _ (List.getElem_mem _) h1
theorem bestF_at {a b : List Pa} {p : Pa} {k : Int} (hp : p.1 = k) (ha : ∀ x ∈ a, x.1 = k → x.2.2.2.1 < p.2.2.2.1) (hb : ∀ x ∈ b, x.1 = k → x.2.2.2.1 ≤ p.2.2.2.1) : ∀ j, a.length < j → j ≤ (a ++ p :: b).length → bestF (a ++ p :: b) k j = a.length := by
  have gm : gP (a ++ p :: b) a.length = p := by unfold gP; rw [List.getD_eq_getElem?_getD, List.getElem?_append_right (Nat.le_refl _), Nat.sub_self]; rfl
  have gl : ∀ i, i < a.length → gP (a ++ p :: b) i ∈ a := fun i hi => by
    unfold gP; rw [List.getD_eq_getElem?_getD, List.getElem?_append_left hi, List.getElem?_eq_getElem hi]; exact List.getElem_mem _
  intro j hj hle
  induction j with
  | zero => omega
  | succ j ih =>
    unfold bestF
    by_cases e : j = a.length
    · subst e
      rw [if_pos]
      rw [gm]
      refine ⟨hp, ?_⟩
      by_cases h : bestF (a ++ p :: b) k a.length < 0
      · exact Or.inl h
      · right
        have h1 := bestF_bnd (a ++ p :: b) k a.length
        have h2 := bestF_kind (a ++ p :: b) k a.length (by omega)
        exact ha _ (gl _ (by omega)) h2
    · rw [ih (by omega) (by omega), if_neg]
      rintro ⟨h1, h2⟩
      rcases h2 with h2 | h2
      · omega
      · rw [Int.toNat_natCast, gm] at h2
        have : gP (a ++ p :: b) j ∈ b := by
          unfold gP
          rw [List.getD_eq_getElem?_getD, List.getElem?_append_right (by omega)]
          rw [List.length_append, List.length_cons] at hle
          obtain ⟨q, hq⟩ : ∃ q, j - a.length = q + 1 := ⟨j - a.length - 1, by omega⟩
          rw [hq, List.getElem?_cons_succ, List.getElem?_eq_getElem (by omega)]
          exact List.getElem_mem _
        have := hb _ this h1
        omega
/-- The reference's way. -/
def cutF (k : Int) : Nat → List Pa → List Pa → Int → List Pa × List Pa
  | 0, t, l, n => (t, l)
  | N + 1, t, l, n => if n ≤ 0 then (t, l) else if bestF l k l.length < 0 then (t, l) else
      if (gP l (bestF l k l.length).toNat).2.2.2.2.1 ≤ n then cutF k N (putW t (gP l (bestF l k l.length).toNat)) (l.take (bestF l k l.length).toNat ++ l.drop ((bestF l k l.length).toNat + 1)) (n - (gP l (bestF l k l.length).toNat).2.2.2.2.1)
      else cutF k N (putW t (partF (gP l (bestF l k l.length).toNat) n)) (l.set (bestF l k l.length).toNat (restF (gP l (bestF l k l.length).toNat) n)) 0
theorem cutF_done (k : Int) (N : Nat) (t l : List Pa) {n : Int} (h : n ≤ 0) : cutF k N t l n = (t, l) := by
  cases N with
  | zero => rfl
  | succ N => rw [cutF, if_pos h]
/-- The marks of a state: parcels whose places are told are taken whole, of the others nothing. -/
structure Mk (l : List Pa) (o : List Int) (u : List Int) : Prop where
  len : u.length = l.length
  m : ∀ j : Nat, j < l.length → (gI u j = 0 ∧ (j : Int) ∉ o) ∨ (gI u j = (gP l j).2.2.2.2.1 ∧ (j : Int) ∈ o)
theorem cut_use {l : List Pa} {k : Int} (hs : Srt l) (hl : ∀ p ∈ l, okP p) : ∀ {o o1 : List Int} {u : List Int} {n : Int} {N : Nat}, Gd l (o1 ++ o) → Pw l (o1 ++ o) → (∀ j : Nat, j < l.length → ((j : Int) ∈ o1 ++ o ↔ (gP l j).1 = k)) → Mk l o1 u → 0 ≤ n → o.length < N →
    cutF k N (tkZ (l.zip u)) (lfZ (l.zip u)) n = (tkZ (l.zip (useF l o n u)), lfZ (l.zip (useF l o n u))) := by
  intro o
  have okk : ∀ j : Nat, j < l.length → okP (gP l j) := fun j hj => by rw [gP_eq hj]; exact hl _ (List.getElem_mem _)
  have lfm : ∀ {o1 : List Int} {u : List Int}, Mk l o1 u → ∀ {z : List (Pa × Int)}, (∀ q ∈ z, ∃ j, j < l.length ∧ q = (gP l j, gI u j)) → ∀ p ∈ lfZ z, ∃ j, (∃ q ∈ z, q = (gP l j, gI u j)) ∧ j < l.length ∧ p = gP l j ∧ (j : Int) ∉ o1 := by
    intro o1 u hm z hz p hp
    obtain ⟨q, hq, h1, rfl⟩ := lfZ_mem hp
    obtain ⟨j, hj, rfl⟩ := hz q hq
    rcases hm.m j hj with ⟨h2, h3⟩ | ⟨h2, h3⟩
    · refine ⟨j, ⟨_, hq, rfl⟩, hj, ?_, h3⟩
      show restF (gP l j) (gI u j) = gP l j
      rw [h2, rest_zero]
    · have h1 : 0 < (gP l j).2.2.2.2.1 - gI u j := h1
      omega
  induction o with
  | nil =>
    intro o1 u n N hg hp hk hm hn hN
    obtain ⟨M, rfl⟩ : ∃ M, N = M + 1 := ⟨N - 1, by simp at hN; omega⟩
    show cutF k (M + 1) _ _ n = (tkZ (l.zip u), lfZ (l.zip u))
    by_cases h0 : n ≤ 0
    · exact cutF_done k _ _ _ h0
    rw [cutF, if_neg h0, if_pos]
    rw [bestF_none (fun x hx => ?_) _ (Nat.le_refl _)]
    · decide
    obtain ⟨j, _, hj, rfl, h3⟩ := lfm hm (z := l.zip u) (fun q hq => by
      have := zip_mem2 (i := 0) hm.len (by simpa using hq)
      obtain ⟨j, _, h1, h2⟩ := this
      exact ⟨j, h1, h2⟩) x hx
    intro e
    have := (hk j hj).2 e
    rw [List.append_nil] at this
    exact h3 this
  | cons i r ih =>
    intro o1 u n N hg hp hk hm hn hN
    obtain ⟨M, rfl⟩ : ∃ M, N = M + 1 := ⟨N - 1, by omega⟩
    have hi := hg i (List.mem_append_right _ List.mem_cons_self)
    obtain ⟨t, rfl⟩ : ∃ t : Nat, i = t := ⟨i.toNat, by omega⟩
    have ht : t < l.length := by omega
    have hnd := pw_nodup hp
    have hto1 : (t : Int) ∉ o1 := fun h => (List.nodup_append.1 hnd).2.2 _ h _ List.mem_cons_self rfl
    have hut : gI u t = 0 := by
      rcases hm.m t ht with ⟨h, _⟩ | ⟨_, h⟩
      · exact h
      · exact absurd h hto1
    have hokt := okk t ht
    rw [okP_iff] at hokt
    have hkt : (gP l t).1 = k := (hk t ht).1 (List.mem_append_right _ List.mem_cons_self)
    by_cases h0 : n ≤ 0
    · obtain rfl : n = 0 := by omega
      rw [cutF_done k _ _ _ (Int.le_refl _), useF_zero hl hm.len (fun x hx => hg x (List.mem_append_right _ hx)) (fun x hx => ?_)]
      have hxg := hg x (List.mem_append_right _ hx)
      rcases hm.m x.toNat (by omega) with ⟨h, _⟩ | ⟨_, h⟩
      · exact h
      · rw [Int.toNat_of_nonneg hxg.1] at h
        exact absurd rfl ((List.nodup_append.1 hnd).2.2 _ h _ hx)
    have hlf : lfZ (l.zip u) = lfZ ((l.take t).zip (u.take t)) ++ gP l t :: lfZ ((l.drop (t + 1)).zip (u.drop (t + 1))) := by
      rw [zip_at ht hm.len, lfZ_app, lfZ_cons, hut]
      show _ ++ ((if 0 < (gP l t).2.2.2.2.1 - 0 then [restF (gP l t) 0] else []) ++ _) = _
      rw [if_pos (by omega), rest_zero]
      rfl
    have hbf : ∀ j : Nat, j < l.length → (j : Int) ∉ o1 → (gP l j).1 = k → j ≠ t → bef l t j = true := by
      intro j hj h1 h2 h3
      have := (hk j hj).2 h2
      rcases List.mem_append.1 this with h | h
      · exact absurd h h1
      rcases List.mem_cons.1 h with h | h
      · exact absurd (by omega) h3
      · exact (List.pairwise_cons.1 (pw_app.1 hp).2.1).1 _ h
    have hbest : bestF (lfZ (l.zip u)) k (lfZ (l.zip u)).length = (lfZ ((l.take t).zip (u.take t))).length := by
      rw [hlf]
      refine bestF_at hkt (fun x hx hxk => ?_) (fun x hx hxk => ?_) _ (by simp) (Nat.le_refl _)
      · obtain ⟨j, ⟨q, hq, e⟩, hj, rfl, h3⟩ := lfm hm (z := (l.take t).zip (u.take t)) (fun q hq => by
          obtain ⟨j, _, h1, h2⟩ := zip_mem1 hm.len hq
          exact ⟨j, h1, h2⟩) x hx
        obtain ⟨j', g1, g2, e'⟩ := zip_mem1 hm.len hq
        have hjj : (gP l j) = gP l j' := by rw [e] at e'; exact (Prod.mk.inj e').1
        have hneq : j = j' := by
          rcases Nat.lt_trichotomy j j' with h | h | h
          · have := srt_at hs h g2; rw [← hjj] at this; have := lt_anti this; rename_i q2; rw [q2] at this; cases this
          · exact h
          · have := srt_at hs h hj; rw [hjj] at this; have := lt_anti this; rename_i q2; rw [q2] at this; cases this
        subst hneq
        have := hbf j hj h3 hxk (by omega)
        rw [bef_iff] at this
        unfold ky at this
        rw [Int.toNat_natCast, Int.toNat_natCast] at this
        omega
      · obtain ⟨j, _, hj, rfl, h3⟩ := lfm hm (z := (l.drop (t + 1)).zip (u.drop (t + 1))) (fun q hq => by
          obtain ⟨j, _, h1, h2⟩ := zip_mem2 hm.len hq
          exact ⟨j, h1, h2⟩) x hx
        by_cases e : j = t
        · subst e; exact Int.le_refl _
        have := hbf j hj h3 hxk e
        rw [bef_iff] at this
        unfold ky at this
        rw [Int.toNat_natCast, Int.toNat_natCast] at this
        omega
    have hgb : gP (lfZ (l.zip u)) (lfZ ((l.take t).zip (u.take t))).length = gP l t := by
      rw [hlf]
      generalize lfZ ((l.take t).zip (u.take t)) = A
      unfold gP
      rw [List.getD_eq_getElem?_getD, List.getElem?_append_right (Nat.le_refl _), Nat.sub_self]; rfl
    rw [cutF, if_neg h0, hbest, if_neg (by omega), Int.toNat_natCast, hgb]
    have hset : ∀ x : Int, ∀ j : Nat, j < l.length → j ≠ t → gI (u.set t x) j = gI u j := fun x j hj hne => by
      rw [gI_set (by have := hm.len; omega), if_neg (fun e => hne e.symm)]
    by_cases hc : (gP l t).2.2.2.2.1 ≤ n
    · have hmin : min2 n (gP l t).2.2.2.2.1 = (gP l t).2.2.2.2.1 := by unfold min2; split <;> omega
      rw [if_pos hc, useF, Int.toNat_natCast, hmin]
      have e1 : putW (tkZ (l.zip u)) (gP l t) = tkZ (l.zip (u.set t (gP l t).2.2.2.2.1)) := by
        rw [tk_put hs ht hm.len hut (by omega), part_all hokt.1.1]
      have e2 : (lfZ (l.zip u)).take (lfZ ((l.take t).zip (u.take t))).length ++ (lfZ (l.zip u)).drop ((lfZ ((l.take t).zip (u.take t))).length + 1) = lfZ (l.zip (u.set t (gP l t).2.2.2.2.1)) := by
        rw [zip_set _ ht hm.len, lfZ_app, lfZ_cons, hlf]
        generalize lfZ ((l.take t).zip (u.take t)) = A
        generalize lfZ ((l.drop (t + 1)).zip (u.drop (t + 1))) = C
        show _ = A ++ ((if 0 < (gP l t).2.2.2.2.1 - (gP l t).2.2.2.2.1 then [restF (gP l t) (gP l t).2.2.2.2.1] else []) ++ C)
        rw [if_neg (by omega), List.take_left' rfl, List.drop_append, List.drop_of_length_le (by omega)]
        simp
      rw [e1, e2]
      refine ih (o1 := o1 ++ [(t : Int)]) (by rw [List.append_assoc]; exact hg) (by rw [List.append_assoc]; exact hp) (by rw [List.append_assoc]; exact hk) ⟨by rw [List.length_set]; exact hm.len, fun j hj => ?_⟩ (by omega) (by simp at hN ⊢; omega)
      by_cases e : j = t
      · subst e
        right
        rw [gI_set (by have := hm.len; omega), if_pos rfl]
        exact ⟨rfl, List.mem_append_right _ List.mem_cons_self⟩
      · rw [hset _ j hj e]
        rcases hm.m j hj with ⟨h1, h2⟩ | ⟨h1, h2⟩
        · refine Or.inl ⟨h1, fun h => ?_⟩
          rcases List.mem_append.1 h with h | h
          · exact h2 h
          · exact e (by have := List.mem_singleton.1 h; omega)
        · exact Or.inr ⟨h1, List.mem_append_left _ h2⟩
    · have hmin : min2 n (gP l t).2.2.2.2.1 = n := by unfold min2; split <;> omega
      rw [if_neg hc, cutF_done k _ _ _ (Int.le_refl _), useF, Int.toNat_natCast, hmin, Int.sub_self]
      rw [useF_zero hl (by rw [List.length_set]; exact hm.len) (fun x hx => hg x (List.mem_append_right _ (List.mem_cons_of_mem _ hx))) (fun x hx => ?_)]
      · rw [tk_put hs ht hm.len hut (by omega)]
        congr 1
        rw [zip_set _ ht hm.len, lfZ_app, lfZ_cons, hlf]
        generalize lfZ ((l.take t).zip (u.take t)) = A
        generalize lfZ ((l.drop (t + 1)).zip (u.drop (t + 1))) = C
        show _ = A ++ ((if 0 < (gP l t).2.2.2.2.1 - n then [restF (gP l t) n] else []) ++ C)
        rw [if_pos (by omega), List.set_append_right _ _ (Nat.le_refl _), Nat.sub_self]
        rfl
      · have hxg := hg x (List.mem_append_right _ (List.mem_cons_of_mem _ hx))
        have hxt : x.toNat ≠ t := fun e => by
          have : x = (t : Int) := by omega
          subst this
          exact (List.nodup_cons.1 (List.nodup_append.1 hnd).2.1).1 hx
        rw [hset _ _ (by omega) hxt]
        rcases hm.m x.toNat (by omega) with ⟨h, _⟩ | ⟨_, h⟩
        · exact h
        · rw [Int.toNat_of_nonneg hxg.1] at h
          exact absurd rfl ((List.nodup_append.1 hnd).2.2 _ h _ (List.mem_cons_of_mem _ hx))
/-- The places of a kind. -/
def ordR (l : List Pa) (k : Int) (m : Nat) : List Int := ((List.range m).filter fun j => decide ((gP l j).1 = k)).map fun (j : Nat) => (j : Int)
theorem ordR_succ (l : List Pa) (k : Int) (m : Nat) : ordR l k (m + 1) = if (gP l m).1 = k then ordR l k m ++ [(m : Int)] else ordR l k m := by
  unfold ordR
  rw [List.range_succ, List.filter_append, List.map_append, List.filter_cons]
  split
  · rename_i h; rw [if_pos (by simpa using h)]; rfl
  · rename_i h; rw [if_neg (by simpa using h)]; simp
theorem ordR_mem {l : List Pa} {k : Int} {m : Nat} {x : Int} : x ∈ ordR l k m ↔ ∃ j : Nat, x = j ∧ j < m ∧ (gP l j).1 = k := by
  unfold ordR
  simp only [List.mem_map, List.mem_filter, List.mem_range, decide_eq_true_eq]
  constructor
  · rintro ⟨j, ⟨h1, h2⟩, rfl⟩; exact ⟨j, rfl, h1, h2⟩
  · rintro ⟨j, rfl, h1, h2⟩; exact ⟨j, ⟨h1, h2⟩, rfl⟩
theorem ordR_len (l : List Pa) (k : Int) (m : Nat) : (ordR l k m).length ≤ m := by
  unfold ordR
  rw [List.length_map]
  have := List.length_filter_le (fun j => decide ((gP l j).1 = k)) (List.range m)
  rw [List.length_range] at this
  exact this
theorem ordR_asc (l : List Pa) (k : Int) (m : Nat) : Asc (ordR l k m) := by
  unfold Asc ordR
  rw [List.pairwise_map]
  have : ((List.range m).filter fun j => decide ((gP l j).1 = k)).Pairwise (· < ·) := List.Pairwise.sublist List.filter_sublist List.pairwise_lt_range
  exact this.imp fun {a b} h => by omega
theorem ordR_gd {l : List Pa} (k : Int) : Gd l (ordR l k l.length) := fun x hx => by
  obtain ⟨j, rfl, h1, _⟩ := ordR_mem.1 hx
  omega
/-- What is taken, and what is left. -/
def takeU (l : List Pa) (k n : Int) : List Int := useF l (SB l (ordR l k l.length)) n (List.replicate l.length 0)
def takR (l : List Pa) (k n : Int) : List Pa × List Pa × Int := if cargoR l ≠ 0 then ([], [], cargoR l) else if n < 0 then ([], [], 1) else (tkZ (l.zip (takeU l k n)), lfZ (l.zip (takeU l k n)), 0)
theorem takeU_len (l : List Pa) (k n : Int) : (takeU l k n).length = l.length := by unfold takeU; rw [useF_len]; simp
theorem zip_zero : ∀ (l : List Pa), (∀ p ∈ l, okP p) → tkZ (l.zip (List.replicate l.length 0)) = [] ∧ lfZ (l.zip (List.replicate l.length 0)) = l
  | [], _ => ⟨rfl, rfl⟩
  | p :: l, h => by
    obtain ⟨h1, h2⟩ := zip_zero l fun q hq => h q (List.mem_cons_of_mem _ hq)
    have h3 := h p List.mem_cons_self
    rw [okP_iff] at h3
    rw [List.length_cons, List.replicate_succ, List.zip_cons_cons, tkZ_cons, lfZ_cons, h1, h2]
    refine ⟨rfl, ?_⟩
    show (if 0 < p.2.2.2.2.1 - 0 then [restF p 0] else []) ++ l = p :: l
    rw [if_pos (by omega), rest_zero]; rfl
theorem cut_take {l : List Pa} {k n : Int} (h : cargoR l = 0) (hn : 0 ≤ n) : cutF k (l.length + 1) [] l n = (tkZ (l.zip (takeU l k n)), lfZ (l.zip (takeU l k n))) := by
  obtain ⟨h1, h2, h3⟩ := (cargo_zero l).1 h
  obtain ⟨z1, z2⟩ := zip_zero l h3
  have hg := gd_perm (SB_perm l (ordR l k l.length)).symm (ordR_gd (l := l) k)
  have key := cut_use (k := k) h2 h3 (o := SB l (ordR l k l.length)) (o1 := []) (u := List.replicate l.length 0) (n := n) (N := l.length + 1) hg (SB_pw (asc_nodup (ordR_asc _ _ _))) (fun j hj => by
    rw [List.nil_append, (SB_perm l _).mem_iff, ordR_mem]
    constructor
    · rintro ⟨j', e, _, h⟩
      obtain rfl : j = j' := by omega
      exact h
    · exact fun h => ⟨j, rfl, hj, h⟩) ⟨by simp, fun j hj => Or.inl ⟨by unfold gI; simp [hj], by simp⟩⟩ hn (by have := ordR_len l k l.length; rw [SB_len]; omega)
  rw [z1, z2] at key
  exact key
end
end Go.Proofs.Yteidanhfkaljaaa.Eng.Cg
set_option linter.unusedVariables false
set_option linter.unusedSimpArgs false
namespace Go.Proofs.Yteidanhfkaljaaa.Eng.Cg
open Go Go.Proofs.Yteidanhfkaljaaa.Eng
set_option maxRecDepth 100000
noncomputable section
open Go.RowKit
theorem and32 {a : Int} (h : 0 ≤ a) (g : a < 18446744073709551616) : IntKind.u64.wrap ((BitVec.ofInt IntKind.u64.bits a &&& BitVec.ofInt IntKind.u64.bits 4294967295).toNat : Nat) = a % 4294967296 := by
  obtain ⟨n, rfl⟩ : ∃ n : Nat, a = n := ⟨a.toNat, by omega⟩
  have e : (BitVec.ofInt IntKind.u64.bits (n : Int) &&& BitVec.ofInt IntKind.u64.bits 4294967295).toNat = n % 4294967296 := by
    rw [BitVec.toNat_and]
    have e1 : (BitVec.ofInt IntKind.u64.bits (n : Int)).toNat = n := by
      show (BitVec.ofInt 64 (n : Int)).toNat = n
      rw [BitVec.toNat_ofInt]
      omega
    have e2 : (BitVec.ofInt IntKind.u64.bits 4294967295).toNat = 2 ^ 32 - 1 := by decide
    rw [e1, e2, Nat.and_two_pow_sub_one_eq_mod]
  rw [e, IntKind.wrap_u64]
  omega
theorem shr32 {a : Int} : a.fdiv (2 ^ (min (32 : Int).toNat IntKind.u64.bits)) = a / 4294967296 := by
  have e : (2 : Int) ^ (min (32 : Int).toNat IntKind.u64.bits) = 4294967296 := by decide
  rw [e, Int.fdiv_eq_ediv_of_nonneg _ (by omega)]
theorem wu_eq {i : Int} (h : 0 ≤ i) (g : i < 18446744073709551616) : IntKind.u64.wrap i = i := by rw [IntKind.wrap_u64]; omega
def w32 (a : Int) : Int := IntKind.u64.wrap ((BitVec.ofInt IntKind.u64.bits a &&& BitVec.ofInt IntKind.u64.bits 4294967295).toNat : Nat)
def s32 (a : Int) : Int := a.fdiv (2 ^ (min (32 : Int).toNat IntKind.u64.bits))
def mulH (x y : Int) : Int :=
  let x0 := w32 x; let x1 := s32 x; let y0 := w32 y; let y1 := s32 y
  let w0 := IntKind.u64.wrap (x0 * y0)
  let t := IntKind.u64.wrap (IntKind.u64.wrap (x1 * y0) + s32 w0)
  let w1 := w32 t; let w2 := s32 t
  let w1' := IntKind.u64.wrap (w1 + IntKind.u64.wrap (x0 * y1))
  IntKind.u64.wrap (IntKind.u64.wrap (IntKind.u64.wrap (x1 * y1) + w2) + s32 w1')
theorem mulH_zero {x y : Int} (h1 : 0 ≤ x) (h2 : x ≤ 1000000000000) (h3 : 0 ≤ y) (h4 : y ≤ 1000000) : mulH x y = 0 := by
  have e1 : w32 x = x % 4294967296 := and32 h1 (by omega)
  have e2 : s32 x = x / 4294967296 := shr32
  have e3 : w32 y = y := by unfold w32; rw [and32 h3 (by omega)]; omega
  have e4 : s32 y = 0 := by unfold s32; rw [shr32]; omega
  have p1 : 0 ≤ x % 4294967296 * y := Int.mul_nonneg (by omega) h3
  have p2 : x % 4294967296 * y ≤ 4294967296 * 1000000 := Int.mul_le_mul (by omega) h4 h3 (by omega)
  have p3 : 0 ≤ x / 4294967296 * y := Int.mul_nonneg (by omega) h3
  have p4 : x / 4294967296 * y ≤ 233 * 1000000 := Int.mul_le_mul (by omega) h4 h3 (by omega)
  unfold mulH
  simp only [e1, e2, e3, e4, Int.mul_zero]
  rw [wu_eq p1 (by omega), wu_eq p3 (by omega)]
  generalize x % 4294967296 * y = A at *
  generalize x / 4294967296 * y = B at *
  have e5 : s32 A = A / 4294967296 := shr32
  rw [e5, wu_eq (i := B + A / 4294967296) (by omega) (by omega), wu_eq (i := 0) (by omega) (by omega)]
  have e6 : w32 (B + A / 4294967296) = B + A / 4294967296 := by unfold w32; rw [and32 (by omega) (by omega)]; omega
  have e7 : s32 (B + A / 4294967296) = 0 := by unfold s32; rw [shr32]; omega
  rw [e6, e7]
  simp only [Int.add_zero]
  rw [wu_eq (i := 0) (by omega) (by omega), wu_eq (i := B + A / 4294967296) (by omega) (by omega), e7]
  rfl
def K96g : Fn1 := ⟨.fld U (.one U), .fld U (.one U), fun (a : Int × Int) => [0 ≤ a.1, a.1 ≤ 1000000000000, 0 ≤ a.2, a.2 ≤ 1000000], fun (a : Int × Int) => ((0, a.1 * a.2) : Int × Int)⟩
theorem k96g : FnOk Go.Proofs.Try.prog 96 K96g := by
  refine fn_ok (E := E0) (TOk.of tab_told) noK mix Go.Proofs.Try.func96 rfl rfl (by kernel_rfl) K96g ?_
  rintro ⟨(x : Int), (y : Int)⟩ hp
  have h1 : 0 ≤ x := hp _ (List.mem_cons_self ..)
  have h2 : x ≤ 1000000000000 := hp _ (List.mem_cons_of_mem _ (List.mem_cons_self ..))
  have h3 : 0 ≤ y := hp _ (List.mem_cons_of_mem _ (List.mem_cons_of_mem _ (List.mem_cons_self ..)))
  have h4 : y ≤ 1000000 := hp _ (List.mem_cons_of_mem _ (List.mem_cons_of_mem _ (List.mem_cons_of_mem _ (List.mem_cons_self ..))))
  clear hp
  have p1 : 0 ≤ x * y := Int.mul_nonneg h1 h3
  have p2 : x * y ≤ 1000000000000 * 1000000 := Int.mul_le_mul h2 h4 h3 (by omega)
  conv => whnf
  refine ⟨show (0 : Int) ≤ 32 by omega, ?_⟩
  conv => whnf
  refine ⟨show (0 : Int) ≤ 32 by omega, ?_⟩
  conv => whnf
  refine ⟨show (0 : Int) ≤ 32 by omega, ?_⟩
  conv => whnf
  refine ⟨show (0 : Int) ≤ 32 by omega, ?_⟩
  conv => whnf
  refine ⟨show (0 : Int) ≤ 32 by omega, ?_⟩
  conv => whnf
  show (mulH x y, IntKind.u64.wrap (x * y)) = ((0, x * y) : Int × Int)
  rw [mulH_zero h1 h2 h3 h4, wu_eq p1 (by omega)]
def K97g : Fn1 := ⟨.fld U (.fld U (.one U)), .fld U (.one U), fun (a : Int × Int × Int) => [a.1 = 0, 0 < a.2.2], fun (a : Int × Int × Int) => ((IntKind.u64.wrap (a.2.1.tdiv a.2.2), a.2.1.tmod a.2.2) : Int × Int)⟩
theorem k97g : FnOk Go.Proofs.Try.prog 97 K97g := by
  refine fn_ok (E := E0) (TOk.of tab_told) noK mix Go.Proofs.Try.func97 rfl rfl (by kernel_rfl) K97g ?_
  rintro ⟨(h : Int), (l : Int), (y : Int)⟩ hp
  have h1 : h = 0 := hp _ (List.mem_cons_self ..)
  have h2 : 0 < y := hp _ (List.mem_cons_of_mem _ (List.mem_cons_self ..))
  clear hp
  subst h1
  conv => whnf
  refine cond_intro (fun q1 => ?_) (fun q1 => ?_)
  · have q1 : y = 0 := @of_decide_eq_true _ _ q1
    omega
  have q1 : ¬ (y = 0) := @of_decide_eq_false _ _ q1
  conv => whnf
  refine cond_intro (fun q2 => ?_) (fun q2 => ?_)
  · have q2 : y ≤ 0 := @of_decide_eq_true _ _ q2
    omega
  have q2 : ¬ (y ≤ 0) := @of_decide_eq_false _ _ q2
  conv => whnf
  refine ⟨show y ≠ 0 by omega, ?_⟩
  conv => whnf
  refine ⟨show y ≠ 0 by omega, ?_⟩
  conv => whnf
  rfl
theorem share_eq {a b c : Int} (h1 : 0 ≤ a) (h2 : a ≤ 1000000000000) (h3 : 0 ≤ b) (h4 : b ≤ 1000000) (h5 : 0 < c) : IntKind.i64.wrap (IntKind.u64.wrap ((a * b).tdiv c)) = a * b / c ∧ IntKind.i64.wrap ((IntKind.i64.wrap (a * b)).tdiv c) = a * b / c := by
  have p1 : 0 ≤ a * b := Int.mul_nonneg h1 h3
  have p2 : a * b ≤ 1000000000000 * 1000000 := Int.mul_le_mul h2 h4 h3 (by omega)
  have e : (a * b).tdiv c = a * b / c := Int.tdiv_eq_ediv_of_nonneg p1
  have p3 : 0 ≤ a * b / c := Int.ediv_nonneg p1 (by omega)
  have p4 : a * b / c ≤ a * b := Int.ediv_le_self _ p1
  rw [wrap_eq (i := a * b) (by omega) (by omega), e, wu_eq p3 (by omega)]
  exact ⟨wrap_eq (by omega) (by omega), wrap_eq (by omega) (by omega)⟩
def K87 : Fn1 := ⟨.fld I (.fld I (.one I)), .one I, fun (a : Int × Int × Int) => [0 ≤ a.1, a.1 ≤ 1000000000000, 0 ≤ a.2.1, a.2.1 ≤ 1000000, 0 < a.2.2, a.2.2 ≤ 1000000], fun (a : Int × Int × Int) => a.1 * a.2.1 / a.2.2⟩
theorem k87 : FnOk Go.Proofs.Try.prog 87 K87 := by
  refine fn_ok (E := (⟨tab, [(96, K96g), (97, K97g)], ann0⟩ : Env)) (TOk.of tab_told) (AllOk.cons k96g (.cons k97g .nil)).at_ mix Go.Proofs.Try.func87 rfl rfl (by kernel_rfl) K87 ?_
  rintro ⟨(a : Int), (b : Int), (c : Int)⟩ hp
  have h1 : 0 ≤ a := hp _ (List.mem_cons_self ..)
  have h2 : a ≤ 1000000000000 := hp _ (List.mem_cons_of_mem _ (List.mem_cons_self ..))
  have h3 : 0 ≤ b := hp _ (List.mem_cons_of_mem _ (List.mem_cons_of_mem _ (List.mem_cons_self ..)))
  have h4 : b ≤ 1000000 := hp _ (List.mem_cons_of_mem _ (List.mem_cons_of_mem _ (List.mem_cons_of_mem _ (List.mem_cons_self ..))))
  have h5 : 0 < c := hp _ (List.mem_cons_of_mem _ (List.mem_cons_of_mem _ (List.mem_cons_of_mem _ (List.mem_cons_of_mem _ (List.mem_cons_self ..)))))
  have h6 : c ≤ 1000000 := hp _ (List.mem_cons_of_mem _ (List.mem_cons_of_mem _ (List.mem_cons_of_mem _ (List.mem_cons_of_mem _ (List.mem_cons_of_mem _ (List.mem_cons_self ..))))))
  clear hp
  have ea : IntKind.u64.wrap a = a := wu_eq (by omega) (by omega)
  have eb : IntKind.u64.wrap b = b := wu_eq (by omega) (by omega)
  have ec : IntKind.u64.wrap c = c := wu_eq (by omega) (by omega)
  conv => whnf
  refine ⟨show 0 ≤ IntKind.u64.wrap a by omega, ?_⟩
  conv => whnf
  refine ⟨show IntKind.u64.wrap a ≤ 1000000000000 by omega, ?_⟩
  conv => whnf
  refine ⟨show 0 ≤ IntKind.u64.wrap b by omega, ?_⟩
  conv => whnf
  refine ⟨show IntKind.u64.wrap b ≤ 1000000 by omega, ?_⟩
  conv => whnf
  refine ⟨rfl, ?_⟩
  conv => whnf
  refine ⟨show 0 < IntKind.u64.wrap c by omega, ?_⟩
  conv => whnf
  show IntKind.i64.wrap (IntKind.u64.wrap ((IntKind.u64.wrap a * IntKind.u64.wrap b).tdiv (IntKind.u64.wrap c))) = a * b / c
  rw [ea, eb, ec]
  exact (share_eq h1 h2 h3 h4 h5).1
def K71 : Fn1 := ⟨.fld paT (.one I), .fld paT (.one paT), fun (a : Pa × Int) => [okP a.1, 0 ≤ a.2, a.2 ≤ 1000000], fun (a : Pa × Int) => (partF a.1 a.2, restF a.1 a.2)⟩
theorem k71 : FnOk Go.Proofs.Try.prog 71 K71 := by
  refine fn_ok (E := (⟨tab, [(87, K87)], ann0⟩ : Env)) (TOk.of tab_told) (AllOk.cons k87 .nil).at_ mix Go.Proofs.Try.func71 rfl rfl (by kernel_rfl) K71 ?_
  rintro ⟨⟨(k : Int), (f : Int), (t : Int), (g : Int), (c : Int), (s : Int)⟩, (x : Int)⟩ hp
  have h1 : okP (k, f, t, g, c, s) := hp _ (List.mem_cons_self ..)
  have h2 : 0 ≤ x := hp _ (List.mem_cons_of_mem _ (List.mem_cons_self ..))
  have h3 : x ≤ 1000000 := hp _ (List.mem_cons_of_mem _ (List.mem_cons_of_mem _ (List.mem_cons_self ..)))
  clear hp
  rw [okP_iff] at h1
  obtain ⟨⟨(c1 : 1 ≤ c), (c2 : c ≤ 1000000)⟩, _, ⟨(s1 : 0 ≤ s), (s2 : s ≤ 1000000000000)⟩, _⟩ := h1
  conv => whnf
  refine ⟨s1, ?_⟩
  conv => whnf
  refine ⟨s2, ?_⟩
  conv => whnf
  refine ⟨h2, ?_⟩
  conv => whnf
  refine ⟨h3, ?_⟩
  conv => whnf
  refine ⟨show 0 < c by omega, ?_⟩
  conv => whnf
  refine ⟨c2, ?_⟩
  have p1 : 0 ≤ s * x := Int.mul_nonneg s1 h2
  have p2 : s * x ≤ 1000000000000 * 1000000 := Int.mul_le_mul s2 h3 h2 (by omega)
  have p3 : 0 ≤ s * x / c := Int.ediv_nonneg p1 (by omega)
  have p4 : s * x / c ≤ s * x := Int.ediv_le_self _ p1
  have e1 : IntKind.i64.wrap (c - x) = c - x := wrap_eq (by omega) (by omega)
  have e2 : IntKind.i64.wrap (s - s * x / c) = s - s * x / c := wrap_eq (by omega) (by omega)
  conv => whnf
  show ((k, f, t, g, x, s * x / c), (k, f, t, g, IntKind.i64.wrap (c - x), IntKind.i64.wrap (s - s * x / c))) = (partF (k, f, t, g, c, s) x, restF (k, f, t, g, c, s) x)
  rw [e1, e2]; rfl
def K91 : Fn1 := ⟨.fld I (.fld I (.one I)), .one I, fun (a : Int × Int × Int) => [0 ≤ a.1, a.1 ≤ 1000000000000, 0 ≤ a.2.1, a.2.1 ≤ 1000000, 0 < a.2.2], fun (a : Int × Int × Int) => a.1 * a.2.1 / a.2.2⟩
theorem k91 : FnOk Go.Proofs.Try.prog 91 K91 := by
  refine fn_ok (E := E0) (TOk.of tab_told) noK mix Go.Proofs.Try.func91 rfl rfl (by kernel_rfl) K91 ?_
  rintro ⟨(a : Int), (b : Int), (c : Int)⟩ hp
  have h1 : 0 ≤ a := hp _ (List.mem_cons_self ..)
  have h2 : a ≤ 1000000000000 := hp _ (List.mem_cons_of_mem _ (List.mem_cons_self ..))
  have h3 : 0 ≤ b := hp _ (List.mem_cons_of_mem _ (List.mem_cons_of_mem _ (List.mem_cons_self ..)))
  have h4 : b ≤ 1000000 := hp _ (List.mem_cons_of_mem _ (List.mem_cons_of_mem _ (List.mem_cons_of_mem _ (List.mem_cons_self ..))))
  have h5 : 0 < c := hp _ (List.mem_cons_of_mem _ (List.mem_cons_of_mem _ (List.mem_cons_of_mem _ (List.mem_cons_of_mem _ (List.mem_cons_self ..)))))
  clear hp
  conv => whnf
  refine ⟨show c ≠ 0 by omega, ?_⟩
  conv => whnf
  show IntKind.i64.wrap ((IntKind.i64.wrap (a * b)).tdiv c) = a * b / c
  exact (share_eq h1 h2 h3 h4 h5).2
end
end Go.Proofs.Yteidanhfkaljaaa.Eng.Cg
set_option linter.unusedVariables false
set_option linter.unusedSimpArgs false
namespace Go.Proofs.Yteidanhfkaljaaa.Eng.Cg
open Go Go.Proofs.Yteidanhfkaljaaa.Eng
set_option maxRecDepth 100000
noncomputable section
open Go.RowKit
theorem useF_bnd {l : List Pa} (hl : ∀ p ∈ l, okP p) : ∀ {o : List Int} {n : Int} {u : List Int}, u.length = l.length → 0 ≤ n → (∀ j : Nat, j < l.length → 0 ≤ gI u j ∧ gI u j ≤ (gP l j).2.2.2.2.1) → Gd l o → ∀ j : Nat, j < l.length → 0 ≤ gI (useF l o n u) j ∧ gI (useF l o n u) j ≤ (gP l j).2.2.2.2.1
  | [], n, u, _, _, h, _, j, hj => h j hj
  | i :: r, n, u, hu, hn, h, hg, j, hj => by
    have hi := hg i List.mem_cons_self
    have hok : okP (gP l i.toNat) := by rw [gP_eq (by omega)]; exact hl _ (List.getElem_mem _)
    rw [okP_iff] at hok
    have hm : 0 ≤ min2 n (gP l i.toNat).2.2.2.2.1 ∧ min2 n (gP l i.toNat).2.2.2.2.1 ≤ n ∧ min2 n (gP l i.toNat).2.2.2.2.1 ≤ (gP l i.toNat).2.2.2.2.1 := by unfold min2; split <;> omega
    refine useF_bnd hl (by rw [List.length_set]; exact hu) (by omega) (fun j hj => ?_) (fun x hx => hg x (List.mem_cons_of_mem _ hx)) j hj
    rw [gI_set (by omega)]
    split
    · rename_i e; subst e; omega
    · exact h j hj
theorem takeU_bnd {l : List Pa} {k n : Int} (hl : ∀ p ∈ l, okP p) (hn : 0 ≤ n) {j : Nat} (hj : j < l.length) : 0 ≤ gI (takeU l k n) j ∧ gI (takeU l k n) j ≤ (gP l j).2.2.2.2.1 := by
  refine useF_bnd hl (by simp) hn (fun j hj => ?_) (gd_perm (SB_perm l _).symm (ordR_gd k)) j hj
  have e : gI (List.replicate l.length 0) j = 0 := by unfold gI; simp [hj]
  have hok : okP (gP l j) := by rw [gP_eq hj]; exact hl _ (List.getElem_mem _)
  rw [okP_iff] at hok
  rw [e]; omega
theorem zip_step {l : List Pa} {u : List Int} {i : Nat} (h : i < l.length) (hu : u.length = l.length) : (l.take (i + 1)).zip (u.take (i + 1)) = (l.take i).zip (u.take i) ++ [(gP l i, gI u i)] := by
  rw [List.take_succ_eq_append_getElem h, List.take_succ_eq_append_getElem (by omega), List.zip_append (by rw [List.length_take, List.length_take]; omega), gP_eq h, gI_eq (by omega)]
  rfl
theorem tkZ_len (z : List (Pa × Int)) : (tkZ z).length ≤ z.length := by unfold tkZ; rw [List.length_map]; exact List.length_filter_le _ _
theorem lfZ_len (z : List (Pa × Int)) : (lfZ z).length ≤ z.length := by unfold lfZ; rw [List.length_map]; exact List.length_filter_le _ _
def E49 : Env := ⟨tab, [(47, K47), (68, .eff X68), (71, K71)], fun n => match n with | 8 => some ([1, 2, 3, 10, 29, 30, 31], [(10, I)], []) | 16 => some ([2, 3, 13, 51, 52, 53], [], []) | 23 => some ([13, 16, 17, 74, 75, 76], [(16, paT), (17, paT)], []) | _ => none⟩
def S49a (l : List Pa) (k n : Int) (o : List Int) (i : Int) : SL := ⟨[.undef, .int .i64 k, .int .i64 n, .ptr 0 0 0] ++ List.replicate 6 .undef ++ [.own 1] ++ List.replicate 18 .undef ++ [.sl paT l, .int .i64 l.length, .int .i64 i] ++ List.replicate 75 .undef, [(0, .box [.sl paT l]), (1, .arr I o)], 2⟩
def S49b (l : List Pa) (n : Int) (o u : List Int) (j : Int) : SL := ⟨[.undef, .undef, .int .i64 n, .ptr 0 0 0] ++ List.replicate 9 .undef ++ [.own 1] ++ List.replicate 37 .undef ++ [.own 2, .int .i64 o.length, .int .i64 j] ++ List.replicate 53 .undef, [(0, .box [.sl paT l]), (1, .arr I u), (2, .arr I o)], 3⟩
def S49c (l : List Pa) (u : List Int) (t f : List Pa) (i : Int) : SL := ⟨List.replicate 13 .undef ++ [.own 0, .undef, .undef, .own 1, .own 2] ++ List.replicate 56 .undef ++ [.sl paT l, .int .i64 l.length, .int .i64 i] ++ List.replicate 30 .undef, [(0, .arr I u), (1, .arr paT t), (2, .arr paT f)], 3⟩
def K49 : Fn1 := ⟨.fld (.sl paT) (.fld I (.one I)), .fld (.sl paT) (.fld (.sl paT) (.one I)), fun (a : List Pa × Int × Int) => [a.1.length ≤ 100000, a.2.2 ≤ 9223372036854775807], fun (a : List Pa × Int × Int) => takR a.1 a.2.1 a.2.2⟩
set_option maxHeartbeats 1000000 in
theorem k49 : FnOk Go.Proofs.Try.prog 49 K49 := by
  refine fn_ok (E := E49) (TOk.of tab_told) (AllOk.cons k47 (.consX k68 (.cons k71 .nil))).at_ mix Go.Proofs.Try.func49 rfl rfl (by kernel_rfl) K49 ?_
  rintro ⟨(l : List Pa), (k : Int), (n : Int)⟩ hp
  have hl : l.length ≤ 100000 := hp _ (List.mem_cons_self ..)
  have hn : n ≤ 9223372036854775807 := hp _ (List.mem_cons_of_mem _ (List.mem_cons_self ..))
  clear hp
  conv => whnf
  refine ⟨hl, ?_⟩
  conv => whnf
  refine cond_intro (fun hv => ?_) (fun hv => ?_)
  · have hv : (!decide (cargoR l = 0)) = true := hv
    have hv : ¬ (cargoR l = 0) := by simpa using hv
    conv => whnf
    show (([], [], cargoR l) : List Pa × List Pa × Int) = takR l k n
    rw [takR, if_pos hv]
  have hv : (!decide (cargoR l = 0)) = false := hv
  have hv : cargoR l = 0 := by simpa using hv
  obtain ⟨hv1, hv2, hv3⟩ := (cargo_zero l).1 hv
  conv => whnf
  refine cond_intro (fun hn0 => ?_) (fun hn0 => ?_)
  · have hn0 : n < 0 := @of_decide_eq_true _ _ hn0
    conv => whnf
    show (([], [], 1) : List Pa × List Pa × Int) = takR l k n
    rw [takR, if_neg (by simp [hv]), if_pos hn0]
  have hn0 : ¬ (n < 0) := @of_decide_eq_false _ _ hn0
  have hn0 : 0 ≤ n := by omega
  conv => whnf
  refine loop_rule (fun i : Int => S49a l k n (ordR l k i.toNat) i) (fun i => (l.length - i).toNat) (fun i => 0 ≤ i ∧ i ≤ l.length) ?_ 0 (by kernel_rfl) ?_ ⟨by omega, by omega⟩
  case refine_2 => rfl
  rintro i ⟨i0, i1⟩
  conv => whnf
  refine cond_intro (fun hlt => ?_) (fun hlt => ?_)
  · have hlt : i < (l.length : Int) := @of_decide_eq_true _ _ hlt
    have hw : IntKind.i64.wrap (i + 1) = i + 1 := wrap_eq (by omega) (by omega)
    have ei : (i + 1).toNat = i.toNat + 1 := by omega
    have hol := ordR_len l k i.toNat
    have eii : (i.toNat : Int) = i := by omega
    conv => whnf
    refine ⟨i0, ?_⟩
    conv => whnf
    refine ⟨hlt, ?_⟩
    conv => whnf
    refine cond_intro (fun hk => ?_) (fun hk => ?_)
    · have hk : (gP l i.toNat).1 = k := @of_decide_eq_true _ _ hk
      conv => whnf
      refine ⟨show ((ordR l k i.toNat).length + 1) * 8 ≤ 70368744177664 by omega, ?_⟩
      conv => whnf
      refine ⟨show (ordR l k i.toNat).length + 1 ≤ 70368744177664 by omega, ?_⟩
      conv => whnf
      refine ⟨i + 1, ?_, ⟨by omega, by omega⟩, by omega⟩
      exact Eq.trans (b := S49a l k n ((ordR l k i.toNat) ++ [i]) (IntKind.i64.wrap (i + 1))) rfl (by rw [hw, ei, ordR_succ, if_pos hk, eii])
    have hk : ¬ ((gP l i.toNat).1 = k) := @of_decide_eq_false _ _ hk
    conv => whnf
    refine ⟨i + 1, ?_, ⟨by omega, by omega⟩, by omega⟩
    exact Eq.trans (b := S49a l k n (ordR l k i.toNat) (IntKind.i64.wrap (i + 1))) rfl (by rw [hw, ei, ordR_succ, if_neg hk])
  have hlt : ¬ (i < (l.length : Int)) := @of_decide_eq_false _ _ hlt
  have ei : i.toNat = l.length := by omega
  rw [ei]
  have hol := ordR_len l k l.length
  have hgd : Gd l (SB l (ordR l k l.length)) := gd_perm (SB_perm l _).symm (ordR_gd k)
  have hsl := SB_len l (ordR l k l.length)
  conv => whnf
  refine ⟨show (ordR l k l.length).length ≤ 1000000 by omega, ?_⟩
  conv => whnf
  refine ⟨show Gd l (ordR l k l.length) from ordR_gd k, ?_⟩
  conv => whnf
  refine ⟨show Asc (ordR l k l.length) from ordR_asc _ _ _, ?_⟩
  conv => whnf
  refine ⟨show (0 : Int) ≤ l.length by omega, ?_⟩
  conv => whnf
  refine ⟨show (l.length : Int) ≤ l.length by omega, ?_⟩
  conv => whnf
  refine ⟨show (l.length : Int) * 8 ≤ 70368744177664 by omega, ?_⟩
  conv => whnf
  refine ⟨show (l.length : Int) ≤ 70368744177664 by omega, ?_⟩
  conv => whnf
  refine loop_rule (fun x : Int × List Int × Int => S49b l x.1 (SB l (ordR l k l.length)) x.2.1 x.2.2) (fun x => ((SB l (ordR l k l.length)).length - x.2.2).toNat) (fun x => 0 ≤ x.1 ∧ x.1 ≤ 9223372036854775807 ∧ x.2.1.length = l.length ∧ 0 ≤ x.2.2 ∧ x.2.2 ≤ (SB l (ordR l k l.length)).length ∧ useF l ((SB l (ordR l k l.length)).drop x.2.2.toNat) x.1 x.2.1 = takeU l k n) ?_ (n, List.replicate l.length 0, 0) (by kernel_rfl) ?_ ⟨hn0, hn, by simp, Int.le_refl _, by show (0 : Int) ≤ _; omega, rfl⟩
  case refine_2 => rfl
  rintro ⟨m, u, j⟩ ⟨(m0 : 0 ≤ m), (m1 : m ≤ 9223372036854775807), (hu : u.length = l.length), (j0 : 0 ≤ j), (j1 : j ≤ (SB l (ordR l k l.length)).length), (hU : useF l ((SB l (ordR l k l.length)).drop j.toNat) m u = takeU l k n)⟩
  conv => whnf
  refine cond_intro (fun hj => ?_) (fun hj => ?_)
  · have hj : j < ((SB l (ordR l k l.length)).length : Int) := @of_decide_eq_true _ _ hj
    have hw : IntKind.i64.wrap (j + 1) = j + 1 := wrap_eq (by omega) (by omega)
    have ej : (j + 1).toNat = j.toNat + 1 := by omega
    have hg := gd_at hgd (i := j.toNat) (by omega)
    obtain ⟨g0, g1⟩ := hg
    have gu : (gI (SB l (ordR l k l.length)) j.toNat) < (u.length : Int) := by omega
    have hok : okP (gP l (gI (SB l (ordR l k l.length)) j.toNat).toNat) := by rw [gP_eq (show (gI (SB l (ordR l k l.length)) j.toNat).toNat < l.length by omega)]; exact hv3 _ (List.getElem_mem _)
    rw [okP_iff] at hok
    have hm : 0 ≤ (min2 m (gP l (gI (SB l (ordR l k l.length)) j.toNat).toNat).2.2.2.2.1) ∧ (min2 m (gP l (gI (SB l (ordR l k l.length)) j.toNat).toNat).2.2.2.2.1) ≤ m := by unfold min2; split <;> omega
    have hs : gI (u.set (gI (SB l (ordR l k l.length)) j.toNat).toNat (min2 m (gP l (gI (SB l (ordR l k l.length)) j.toNat).toNat).2.2.2.2.1)) (gI (SB l (ordR l k l.length)) j.toNat).toNat = (min2 m (gP l (gI (SB l (ordR l k l.length)) j.toNat).toNat).2.2.2.2.1) := by rw [gI_set (by omega), if_pos rfl]
    have hw2 : IntKind.i64.wrap (m - gI (u.set (gI (SB l (ordR l k l.length)) j.toNat).toNat (min2 m (gP l (gI (SB l (ordR l k l.length)) j.toNat).toNat).2.2.2.2.1)) (gI (SB l (ordR l k l.length)) j.toNat).toNat) = m - (min2 m (gP l (gI (SB l (ordR l k l.length)) j.toNat).toNat).2.2.2.2.1) := by rw [hs]; exact wrap_eq (by omega) (by omega)
    conv => whnf
    refine ⟨j0, ?_⟩
    conv => whnf
    refine ⟨hj, ?_⟩
    conv => whnf
    refine ⟨g0, ?_⟩
    conv => whnf
    refine ⟨g1, ?_⟩
    conv => whnf
    refine ⟨g0, ?_⟩
    conv => whnf
    refine ⟨gu, ?_⟩
    conv => whnf
    refine ⟨g0, ?_⟩
    conv => whnf
    refine ⟨(show (gI (SB l (ordR l k l.length)) j.toNat) < ((u.set (gI (SB l (ordR l k l.length)) j.toNat).toNat (min2 m (gP l (gI (SB l (ordR l k l.length)) j.toNat).toNat).2.2.2.2.1)).length : Int) by rw [List.length_set]; exact gu), ?_⟩
    conv => whnf
    refine ⟨(m - (min2 m (gP l (gI (SB l (ordR l k l.length)) j.toNat).toNat).2.2.2.2.1), (u.set (gI (SB l (ordR l k l.length)) j.toNat).toNat (min2 m (gP l (gI (SB l (ordR l k l.length)) j.toNat).toNat).2.2.2.2.1)), j + 1), ?_, ⟨by show 0 ≤ m - (min2 m (gP l (gI (SB l (ordR l k l.length)) j.toNat).toNat).2.2.2.2.1); omega, by show m - (min2 m (gP l (gI (SB l (ordR l k l.length)) j.toNat).toNat).2.2.2.2.1) ≤ _; omega, by show (u.set (gI (SB l (ordR l k l.length)) j.toNat).toNat (min2 m (gP l (gI (SB l (ordR l k l.length)) j.toNat).toNat).2.2.2.2.1)).length = _; rw [List.length_set]; exact hu, by show 0 ≤ j + 1; omega, by show j + 1 ≤ _; omega, ?_⟩, by show ((SB l (ordR l k l.length)).length - (j + 1)).toNat < ((SB l (ordR l k l.length)).length - j).toNat; omega⟩
    · exact Eq.trans (b := S49b l (IntKind.i64.wrap (m - gI (u.set (gI (SB l (ordR l k l.length)) j.toNat).toNat (min2 m (gP l (gI (SB l (ordR l k l.length)) j.toNat).toNat).2.2.2.2.1)) (gI (SB l (ordR l k l.length)) j.toNat).toNat)) (SB l (ordR l k l.length)) (u.set (gI (SB l (ordR l k l.length)) j.toNat).toNat (min2 m (gP l (gI (SB l (ordR l k l.length)) j.toNat).toNat).2.2.2.2.1)) (IntKind.i64.wrap (j + 1))) rfl (by rw [hw2, hw])
    · show useF l ((SB l (ordR l k l.length)).drop (j + 1).toNat) (m - (min2 m (gP l (gI (SB l (ordR l k l.length)) j.toNat).toNat).2.2.2.2.1)) (u.set (gI (SB l (ordR l k l.length)) j.toNat).toNat (min2 m (gP l (gI (SB l (ordR l k l.length)) j.toNat).toNat).2.2.2.2.1)) = takeU l k n
      rw [← hU, ej, List.drop_eq_getElem_cons (show j.toNat < (SB l (ordR l k l.length)).length by omega), useF, ← gI_eq (show j.toNat < (SB l (ordR l k l.length)).length by omega)]
  have hj : ¬ (j < ((SB l (ordR l k l.length)).length : Int)) := @of_decide_eq_false _ _ hj
  have hU2 : u = takeU l k n := by rw [← hU, List.drop_of_length_le (by omega)]; rfl
  subst hU2
  conv => whnf
  refine loop_rule (fun i : Int => S49c l (takeU l k n) (tkZ ((l.take i.toNat).zip ((takeU l k n).take i.toNat))) (lfZ ((l.take i.toNat).zip ((takeU l k n).take i.toNat))) i) (fun i => (l.length - i).toNat) (fun i => 0 ≤ i ∧ i ≤ l.length) ?_ 0 (by kernel_rfl) ?_ ⟨by omega, by omega⟩
  case refine_2 => rfl
  rintro i ⟨i0, i1⟩
  conv => whnf
  refine cond_intro (fun hlt => ?_) (fun hlt => ?_)
  · have hlt : i < (l.length : Int) := @of_decide_eq_true _ _ hlt
    have hw : IntKind.i64.wrap (i + 1) = i + 1 := wrap_eq (by omega) (by omega)
    have ei : (i + 1).toNat = i.toNat + 1 := by omega
    have hul : (takeU l k n).length = l.length := takeU_len l k n
    have hu1 : i < ((takeU l k n).length : Int) := by omega
    have hok : okP (gP l i.toNat) := by rw [gP_eq (show i.toNat < l.length by omega)]; exact hv3 _ (List.getElem_mem _)
    have hb := takeU_bnd (k := k) hv3 hn0 (show i.toNat < l.length by omega)
    have hb2 : (gI (takeU l k n) i.toNat) ≤ 1000000 := by rw [okP_iff] at hok; omega
    conv => whnf
    refine ⟨i0, ?_⟩
    conv => whnf
    refine ⟨hlt, ?_⟩
    conv => whnf
    refine ⟨i0, ?_⟩
    conv => whnf
    refine ⟨hu1, ?_⟩
    conv => whnf
    refine ⟨hok, ?_⟩
    conv => whnf
    refine ⟨hb.1, ?_⟩
    conv => whnf
    refine ⟨hb2, ?_⟩
    conv => whnf
    refine cond_intro (fun hpt => ?_) (fun hpt => ?_)
    · have hpt : 0 < (gI (takeU l k n) i.toNat) := @of_decide_eq_true _ _ hpt
      have hX : (tkZ ((l.take i.toNat).zip ((takeU l k n).take i.toNat))).length ≤ 100000 := by have := tkZ_len ((l.take i.toNat).zip ((takeU l k n).take i.toNat)); rw [List.length_zip, List.length_take] at this; omega
      conv => whnf
      refine ⟨show ((tkZ ((l.take i.toNat).zip ((takeU l k n).take i.toNat))).length + 1) * 48 ≤ 70368744177664 by omega, ?_⟩
      conv => whnf
      refine ⟨show (tkZ ((l.take i.toNat).zip ((takeU l k n).take i.toNat))).length + 1 ≤ 70368744177664 by omega, ?_⟩
      conv => whnf
      refine cond_intro (fun hpf => ?_) (fun hpf => ?_)
      · have hpf : 0 < (gP l i.toNat).2.2.2.2.1 - (gI (takeU l k n) i.toNat) := @of_decide_eq_true _ _ hpf
        have hX : (lfZ ((l.take i.toNat).zip ((takeU l k n).take i.toNat))).length ≤ 100000 := by have := lfZ_len ((l.take i.toNat).zip ((takeU l k n).take i.toNat)); rw [List.length_zip, List.length_take] at this; omega
        conv => whnf
        refine ⟨show ((lfZ ((l.take i.toNat).zip ((takeU l k n).take i.toNat))).length + 1) * 48 ≤ 70368744177664 by omega, ?_⟩
        conv => whnf
        refine ⟨show (lfZ ((l.take i.toNat).zip ((takeU l k n).take i.toNat))).length + 1 ≤ 70368744177664 by omega, ?_⟩
        conv => whnf
        refine ⟨i + 1, ?_, ⟨by omega, by omega⟩, by omega⟩
        have hz : (l.take (i + 1).toNat).zip ((takeU l k n).take (i + 1).toNat) = (l.take i.toNat).zip ((takeU l k n).take i.toNat) ++ [((gP l i.toNat), (gI (takeU l k n) i.toNat))] := by rw [ei]; exact zip_step (by omega) hul
        exact Eq.trans (b := S49c l (takeU l k n) ((tkZ ((l.take i.toNat).zip ((takeU l k n).take i.toNat))) ++ [partF (gP l i.toNat) (gI (takeU l k n) i.toNat)]) ((lfZ ((l.take i.toNat).zip ((takeU l k n).take i.toNat))) ++ [restF (gP l i.toNat) (gI (takeU l k n) i.toNat)]) (IntKind.i64.wrap (i + 1))) rfl (by rw [hz, tkZ_app, lfZ_app, tkZ_cons, lfZ_cons, if_pos hpt, if_pos (show 0 < (gP l i.toNat).2.2.2.2.1 - (gI (takeU l k n) i.toNat) from hpf), hw]; first | rfl | simp [tkZ, lfZ])
      have hpf : ¬ (0 < (gP l i.toNat).2.2.2.2.1 - (gI (takeU l k n) i.toNat)) := @of_decide_eq_false _ _ hpf
      conv => whnf
      refine ⟨i + 1, ?_, ⟨by omega, by omega⟩, by omega⟩
      have hz : (l.take (i + 1).toNat).zip ((takeU l k n).take (i + 1).toNat) = (l.take i.toNat).zip ((takeU l k n).take i.toNat) ++ [((gP l i.toNat), (gI (takeU l k n) i.toNat))] := by rw [ei]; exact zip_step (by omega) hul
      exact Eq.trans (b := S49c l (takeU l k n) ((tkZ ((l.take i.toNat).zip ((takeU l k n).take i.toNat))) ++ [partF (gP l i.toNat) (gI (takeU l k n) i.toNat)]) (lfZ ((l.take i.toNat).zip ((takeU l k n).take i.toNat))) (IntKind.i64.wrap (i + 1))) rfl (by rw [hz, tkZ_app, lfZ_app, tkZ_cons, lfZ_cons, if_pos hpt, if_neg (show ¬ 0 < (gP l i.toNat).2.2.2.2.1 - (gI (takeU l k n) i.toNat) from hpf), hw]; first | rfl | simp [tkZ, lfZ])
    have hpt : ¬ (0 < (gI (takeU l k n) i.toNat)) := @of_decide_eq_false _ _ hpt
    conv => whnf
    refine cond_intro (fun hpf => ?_) (fun hpf => ?_)
    · have hpf : 0 < (gP l i.toNat).2.2.2.2.1 - (gI (takeU l k n) i.toNat) := @of_decide_eq_true _ _ hpf
      have hX : (lfZ ((l.take i.toNat).zip ((takeU l k n).take i.toNat))).length ≤ 100000 := by have := lfZ_len ((l.take i.toNat).zip ((takeU l k n).take i.toNat)); rw [List.length_zip, List.length_take] at this; omega
      conv => whnf
      refine ⟨show ((lfZ ((l.take i.toNat).zip ((takeU l k n).take i.toNat))).length + 1) * 48 ≤ 70368744177664 by omega, ?_⟩
      conv => whnf
      refine ⟨show (lfZ ((l.take i.toNat).zip ((takeU l k n).take i.toNat))).length + 1 ≤ 70368744177664 by omega, ?_⟩
      conv => whnf
      refine ⟨i + 1, ?_, ⟨by omega, by omega⟩, by omega⟩
      have hz : (l.take (i + 1).toNat).zip ((takeU l k n).take (i + 1).toNat) = (l.take i.toNat).zip ((takeU l k n).take i.toNat) ++ [((gP l i.toNat), (gI (takeU l k n) i.toNat))] := by rw [ei]; exact zip_step (by omega) hul
      exact Eq.trans (b := S49c l (takeU l k n) (tkZ ((l.take i.toNat).zip ((takeU l k n).take i.toNat))) ((lfZ ((l.take i.toNat).zip ((takeU l k n).take i.toNat))) ++ [restF (gP l i.toNat) (gI (takeU l k n) i.toNat)]) (IntKind.i64.wrap (i + 1))) rfl (by rw [hz, tkZ_app, lfZ_app, tkZ_cons, lfZ_cons, if_neg hpt, if_pos (show 0 < (gP l i.toNat).2.2.2.2.1 - (gI (takeU l k n) i.toNat) from hpf), hw]; first | rfl | simp [tkZ, lfZ])
    have hpf : ¬ (0 < (gP l i.toNat).2.2.2.2.1 - (gI (takeU l k n) i.toNat)) := @of_decide_eq_false _ _ hpf
    conv => whnf
    refine ⟨i + 1, ?_, ⟨by omega, by omega⟩, by omega⟩
    have hz : (l.take (i + 1).toNat).zip ((takeU l k n).take (i + 1).toNat) = (l.take i.toNat).zip ((takeU l k n).take i.toNat) ++ [((gP l i.toNat), (gI (takeU l k n) i.toNat))] := by rw [ei]; exact zip_step (by omega) hul
    exact Eq.trans (b := S49c l (takeU l k n) (tkZ ((l.take i.toNat).zip ((takeU l k n).take i.toNat))) (lfZ ((l.take i.toNat).zip ((takeU l k n).take i.toNat))) (IntKind.i64.wrap (i + 1))) rfl (by rw [hz, tkZ_app, lfZ_app, tkZ_cons, lfZ_cons, if_neg hpt, if_neg (show ¬ 0 < (gP l i.toNat).2.2.2.2.1 - (gI (takeU l k n) i.toNat) from hpf), hw]; first | rfl | simp [tkZ, lfZ])
  have hlt : ¬ (i < (l.length : Int)) := @of_decide_eq_false _ _ hlt
  conv => whnf
  show (tkZ ((l.take i.toNat).zip ((takeU l k n).take i.toNat)), lfZ ((l.take i.toNat).zip ((takeU l k n).take i.toNat)), (0 : Int)) = takR l k n
  rw [List.take_of_length_le (show l.length ≤ i.toNat by omega), List.take_of_length_le (show (takeU l k n).length ≤ i.toNat by rw [takeU_len]; omega), takR, if_neg (by simp [hv]), if_neg (by omega)]
end
end Go.Proofs.Yteidanhfkaljaaa.Eng.Cg
set_option linter.unusedVariables false
set_option linter.unusedSimpArgs false
namespace Go.Proofs.Yteidanhfkaljaaa.Eng.Cg
open Go Go.Proofs.Yteidanhfkaljaaa.Eng
set_option maxRecDepth 100000
noncomputable section
open Go.RowKit
def setC (o : List Pa) (k : Int) (x : Int) : List Pa := o.set k.toNat ((gP o k.toNat).1, (gP o k.toNat).2.1, (gP o k.toNat).2.2.1, (gP o k.toNat).2.2.2.1, x, (gP o k.toNat).2.2.2.2.2)
def setS (o : List Pa) (k : Int) (x : Int) : List Pa := o.set k.toNat ((gP o k.toNat).1, (gP o k.toNat).2.1, (gP o k.toNat).2.2.1, (gP o k.toNat).2.2.2.1, (gP o k.toNat).2.2.2.2.1, x)
theorem setCS {o : List Pa} {k : Int} (hk : k.toNat < o.length) (x y : Int) : setS (setC o k x) k y = o.set k.toNat ((gP o k.toNat).1, (gP o k.toNat).2.1, (gP o k.toNat).2.2.1, (gP o k.toNat).2.2.2.1, x, y) := by
  unfold setS setC
  rw [gP_set hk, List.set_set]
theorem ok_cut {l : List Pa} {b : Nat} (h : ∀ p ∈ l, okP p) : ∀ p ∈ l.take b ++ l.drop (b + 1), okP p := fun p hp => by
  rcases List.mem_append.1 hp with hp | hp
  · exact h p (List.mem_of_mem_take hp)
  · exact h p (List.mem_of_mem_drop hp)
theorem cut_len {l : List Pa} {b : Nat} (h : b < l.length) : (l.take b ++ l.drop (b + 1)).length = l.length - 1 := by
  rw [List.length_append, List.length_take, List.length_drop]; omega
def E74 : Env := ⟨tab, [(90, K90), (91, K91)], fun n => match n with | 2 => some ([1, 2, 6, 7], [(6, paT)], []) | 5 => some ([1, 2, 6, 7, 8, 9], [(6, paT)], []) | _ => none⟩
def S74a (k : Int) (t l : List Pa) (n : Int) : SL := ⟨[.undef, .int .i64 k, .int .i64 n, .undef, .undef, .undef, .own 0, .own 1] ++ List.replicate 106 .undef, [(0, .arr paT t), (1, .arr paT l)], 2⟩
def S74b (k : Int) (t l : List Pa) (n b i : Int) : SL := ⟨[.undef, .int .i64 k, .int .i64 n, .undef, .undef, .undef, .own 0, .own 1, .int .i64 b, .int .i64 i] ++ List.replicate 104 .undef, [(0, .arr paT t), (1, .arr paT l)], 2⟩
structure V74 (k : Int) (m : Nat) (R : List Pa × List Pa) (x : List Pa × List Pa × Int) : Prop where
  ll : x.2.1.length ≤ m
  tl : x.1.length ≤ 2 * m + 1
  n1 : x.2.2 ≤ 9223372036854775807
  tt : 0 < x.2.2 → x.1.length + x.2.1.length ≤ m
  ok : 0 < x.2.2 → ∀ p ∈ x.2.1, okP p
  eq : cutF k (x.2.1.length + 1) x.1 x.2.1 x.2.2 = R
def M74 (x : List Pa × List Pa × Int) : Nat := x.2.1.length + if 0 < x.2.2 then 1 else 0
def K74 : Fn1 := ⟨.fld (.sl paT) (.fld I (.one I)), .fld (.sl paT) (.one (.sl paT)), fun (a : List Pa × Int × Int) => [a.1.length ≤ 100000, ∀ p ∈ a.1, okP p, a.2.2 ≤ 9223372036854775807], fun (a : List Pa × Int × Int) => cutF a.2.1 (a.1.length + 1) [] a.1 a.2.2⟩
set_option maxHeartbeats 1000000 in
theorem k74 : FnOk Go.Proofs.Try.prog 74 K74 := by
  refine fn_ok (E := E74) (TOk.of tab_told) (AllOk.cons k90 (.cons k91 .nil)).at_ mix Go.Proofs.Try.func74 rfl rfl (by kernel_rfl) K74 ?_
  rintro ⟨(l0 : List Pa), (k : Int), (n0 : Int)⟩ hp
  have hl : l0.length ≤ 100000 := hp _ (List.mem_cons_self ..)
  have hok0 : ∀ p ∈ l0, okP p := hp _ (List.mem_cons_of_mem _ (List.mem_cons_self ..))
  have hn : n0 ≤ 9223372036854775807 := hp _ (List.mem_cons_of_mem _ (List.mem_cons_of_mem _ (List.mem_cons_self ..)))
  clear hp
  conv => whnf
  refine ⟨show (0 + l0.length) * 48 ≤ 70368744177664 by omega, ?_⟩
  conv => whnf
  refine ⟨show 0 + l0.length ≤ 70368744177664 by omega, ?_⟩
  conv => whnf
  refine loop_rule (fun x : List Pa × List Pa × Int => S74a k x.1 x.2.1 x.2.2) M74 (V74 k l0.length (cutF k (l0.length + 1) [] l0 n0)) ?_ ([], l0, n0) (by kernel_rfl) ?_ ⟨Nat.le_refl _, Nat.zero_le _, hn, fun _ => by show 0 + l0.length ≤ _; omega, fun _ => hok0, rfl⟩
  case refine_2 => rfl
  rintro ⟨t, l, n⟩ V
  have vll : l.length ≤ l0.length := V.ll
  have vtl : t.length ≤ 2 * l0.length + 1 := V.tl
  have vn1 : n ≤ 9223372036854775807 := V.n1
  conv => whnf
  refine cond_intro (fun hn1 => ?_) (fun hn1 => ?_)
  · have hn1 : 0 < n := @of_decide_eq_true _ _ hn1
    conv => whnf
    refine loop_rule (fun i : Int => S74b k t l n (bestF l k i.toNat) i) (fun i => (l.length - i).toNat) (fun i => 0 ≤ i ∧ i ≤ l.length) ?_ 0 (by kernel_rfl) ?_ ⟨by omega, by omega⟩
    case refine_2 => rfl
    rintro i ⟨i0, i1⟩
    have hb := bestF_bnd l k i.toNat
    conv => whnf
    refine cond_intro (fun hlt => ?_) (fun hlt => ?_)
    · have hlt : i < (l.length : Int) := @of_decide_eq_true _ _ hlt
      have hw : IntKind.i64.wrap (i + 1) = i + 1 := wrap_eq (by omega) (by omega)
      have ei : (i + 1).toNat = i.toNat + 1 := by omega
      have eii : (i.toNat : Int) = i := by omega
      conv => whnf
      refine ⟨i0, ?_⟩
      conv => whnf
      refine ⟨hlt, ?_⟩
      conv => whnf
      refine cond_intro (fun hk => ?_) (fun hk => ?_)
      · have hk : (gP l i.toNat).1 = k := @of_decide_eq_true _ _ hk
        conv => whnf
        refine cond_intro (fun hbz => ?_) (fun hbz => ?_)
        · have hbz : (bestF l k i.toNat) < 0 := @of_decide_eq_true _ _ hbz
          conv => whnf
          refine ⟨i + 1, ?_, ⟨by omega, by omega⟩, by omega⟩
          exact Eq.trans (b := S74b k t l n i (IntKind.i64.wrap (i + 1))) rfl (by rw [hw, ei, bestF, if_pos ⟨hk, Or.inl hbz⟩, eii])
        have hbz : ¬ ((bestF l k i.toNat) < 0) := @of_decide_eq_false _ _ hbz
        conv => whnf
        refine ⟨i0, ?_⟩
        conv => whnf
        refine ⟨hlt, ?_⟩
        conv => whnf
        refine ⟨show 0 ≤ (bestF l k i.toNat) by omega, ?_⟩
        conv => whnf
        refine ⟨show (bestF l k i.toNat) < (l.length : Int) by omega, ?_⟩
        conv => whnf
        refine cond_intro (fun hg => ?_) (fun hg => ?_)
        · have hg : (gP l (bestF l k i.toNat).toNat).2.2.2.1 < (gP l i.toNat).2.2.2.1 := @of_decide_eq_true _ _ hg
          conv => whnf
          refine ⟨i + 1, ?_, ⟨by omega, by omega⟩, by omega⟩
          exact Eq.trans (b := S74b k t l n i (IntKind.i64.wrap (i + 1))) rfl (by rw [hw, ei, bestF, if_pos ⟨hk, Or.inr hg⟩, eii])
        have hg : ¬ ((gP l (bestF l k i.toNat).toNat).2.2.2.1 < (gP l i.toNat).2.2.2.1) := @of_decide_eq_false _ _ hg
        conv => whnf
        refine ⟨i + 1, ?_, ⟨by omega, by omega⟩, by omega⟩
        exact Eq.trans (b := S74b k t l n (bestF l k i.toNat) (IntKind.i64.wrap (i + 1))) rfl (by rw [hw, ei, bestF, if_neg (show ¬ ((gP l i.toNat).1 = k ∧ ((bestF l k i.toNat) < 0 ∨ (gP l (bestF l k i.toNat).toNat).2.2.2.1 < (gP l i.toNat).2.2.2.1)) from fun h => h.2.elim hbz hg)])
      have hk : ¬ ((gP l i.toNat).1 = k) := @of_decide_eq_false _ _ hk
      conv => whnf
      refine ⟨i + 1, ?_, ⟨by omega, by omega⟩, by omega⟩
      exact Eq.trans (b := S74b k t l n (bestF l k i.toNat) (IntKind.i64.wrap (i + 1))) rfl (by rw [hw, ei, bestF, if_neg (show ¬ ((gP l i.toNat).1 = k ∧ ((bestF l k i.toNat) < 0 ∨ (gP l (bestF l k i.toNat).toNat).2.2.2.1 < (gP l i.toNat).2.2.2.1)) from fun h => hk h.1)])
    have hlt : ¬ (i < (l.length : Int)) := @of_decide_eq_false _ _ hlt
    have ei : i.toNat = l.length := by omega
    rw [ei] at hb ⊢
    conv => whnf
    refine cond_intro (fun hbz => ?_) (fun hbz => ?_)
    · have hbz : (bestF l k l.length) < 0 := @of_decide_eq_true _ _ hbz
      conv => whnf
      show (t, l) = (cutF k (l0.length + 1) [] l0 n0)
      rw [← V.eq, cutF, if_neg (show ¬ n ≤ 0 by omega), if_pos hbz]
    have hbz : ¬ ((bestF l k l.length) < 0) := @of_decide_eq_false _ _ hbz
    have b0 : 0 ≤ (bestF l k l.length) := by omega
    have b1 : (bestF l k l.length) < (l.length : Int) := by omega
    have hok : okP (gP l (bestF l k l.length).toNat) := by rw [gP_eq (show (bestF l k l.length).toNat < l.length by omega)]; exact V.ok hn1 _ (List.getElem_mem _)
    have hok' := hok
    rw [okP_iff] at hok'
    have htl : t.length + l.length ≤ l0.length := V.tt hn1
    have hn3 : ¬ n ≤ 0 := by omega
    have hpl := put_len t (gP l (bestF l k l.length).toNat)
    conv => whnf
    refine ⟨b0, ?_⟩
    conv => whnf
    refine ⟨b1, ?_⟩
    conv => whnf
    refine cond_intro (fun hc => ?_) (fun hc => ?_)
    · have hc : (gP l (bestF l k l.length).toNat).2.2.2.2.1 ≤ n := @of_decide_eq_true _ _ hc
      have hw2 : IntKind.i64.wrap (n - (gP l (bestF l k l.length).toNat).2.2.2.2.1) = n - (gP l (bestF l k l.length).toNat).2.2.2.2.1 := wrap_eq (by omega) (by omega)
      have hw3 : IntKind.i64.wrap ((bestF l k l.length) + 1) = (bestF l k l.length) + 1 := wrap_eq (by omega) (by omega)
      have hcl := cut_len (l := l) (b := (bestF l k l.length).toNat) (by omega)
      have htk : (l.take (bestF l k l.length).toNat).length = (bestF l k l.length).toNat := by rw [List.length_take]; omega
      have hdr : (l.drop ((bestF l k l.length) + 1).toNat).length = l.length - ((bestF l k l.length) + 1).toNat := List.length_drop
      have e3 : ((bestF l k l.length) + 1).toNat = (bestF l k l.length).toNat + 1 := by omega
      conv => whnf
      refine ⟨show t.length ≤ 1000000 by omega, ?_⟩
      conv => whnf
      refine ⟨b0, ?_⟩
      conv => whnf
      refine ⟨show (bestF l k l.length) ≤ (l.length : Int) by omega, ?_⟩
      conv => whnf
      refine ⟨show (0 + (l.take (bestF l k l.length).toNat).length) * 48 ≤ 70368744177664 by omega, ?_⟩
      conv => whnf
      refine ⟨show 0 + (l.take (bestF l k l.length).toNat).length ≤ 70368744177664 by omega, ?_⟩
      conv => whnf
      refine ⟨show 0 ≤ IntKind.i64.wrap ((bestF l k l.length) + 1) by omega, ?_⟩
      conv => whnf
      refine ⟨show IntKind.i64.wrap ((bestF l k l.length) + 1) ≤ (l.length : Int) by omega, ?_⟩
      conv => whnf
      refine ⟨show ((([] : List Pa) ++ l.take (bestF l k l.length).toNat).length + (l.drop (IntKind.i64.wrap ((bestF l k l.length) + 1)).toNat).length) * 48 ≤ 70368744177664 by rw [hw3, List.nil_append]; omega, ?_⟩
      conv => whnf
      refine ⟨show (([] : List Pa) ++ l.take (bestF l k l.length).toNat).length + (l.drop (IntKind.i64.wrap ((bestF l k l.length) + 1)).toNat).length ≤ 70368744177664 by rw [hw3, List.nil_append]; omega, ?_⟩
      conv => whnf
      refine ⟨(putW t (gP l (bestF l k l.length).toNat), l.take (bestF l k l.length).toNat ++ l.drop ((bestF l k l.length).toNat + 1), n - (gP l (bestF l k l.length).toNat).2.2.2.2.1), ?_, ⟨by show (l.take (bestF l k l.length).toNat ++ l.drop ((bestF l k l.length).toNat + 1)).length ≤ _; have := V.ll; omega, by show (putW t (gP l (bestF l k l.length).toNat)).length ≤ _; omega, by show n - (gP l (bestF l k l.length).toNat).2.2.2.2.1 ≤ _; omega, fun _ => by show (putW t (gP l (bestF l k l.length).toNat)).length + (l.take (bestF l k l.length).toNat ++ l.drop ((bestF l k l.length).toNat + 1)).length ≤ _; omega, fun _ => ok_cut (V.ok hn1), ?_⟩, ?_⟩
      · exact Eq.trans (b := S74a k (putW t (gP l (bestF l k l.length).toNat)) (([] : List Pa) ++ l.take (bestF l k l.length).toNat ++ l.drop (IntKind.i64.wrap ((bestF l k l.length) + 1)).toNat) (IntKind.i64.wrap (n - (gP l (bestF l k l.length).toNat).2.2.2.2.1))) rfl (by rw [hw2, hw3, e3, List.nil_append])
      · show cutF k ((l.take (bestF l k l.length).toNat ++ l.drop ((bestF l k l.length).toNat + 1)).length + 1) (putW t (gP l (bestF l k l.length).toNat)) (l.take (bestF l k l.length).toNat ++ l.drop ((bestF l k l.length).toNat + 1)) (n - (gP l (bestF l k l.length).toNat).2.2.2.2.1) = _
        rw [hcl, show l.length - 1 + 1 = l.length by omega, ← V.eq, cutF, if_neg hn3, if_neg hbz, if_pos hc]
      · show (l.take (bestF l k l.length).toNat ++ l.drop ((bestF l k l.length).toNat + 1)).length + (if 0 < n - (gP l (bestF l k l.length).toNat).2.2.2.2.1 then 1 else 0) < l.length + (if 0 < n then 1 else 0)
        rw [if_pos hn1, hcl]; split <;> omega
    have hc : ¬ ((gP l (bestF l k l.length).toNat).2.2.2.2.1 ≤ n) := @of_decide_eq_false _ _ hc
    have hn2 : n ≤ 1000000 := by omega
    have hpl2 := put_len t (partF (gP l (bestF l k l.length).toNat) n)
    have p1 : 0 ≤ (gP l (bestF l k l.length).toNat).2.2.2.2.2 * n := Int.mul_nonneg hok'.2.2.1.1 (by omega)
    have p2 : (gP l (bestF l k l.length).toNat).2.2.2.2.2 * n ≤ 1000000000000 * 1000000 := Int.mul_le_mul hok'.2.2.1.2 hn2 (by omega) (by omega)
    have p3 : 0 ≤ (gP l (bestF l k l.length).toNat).2.2.2.2.2 * n / (gP l (bestF l k l.length).toNat).2.2.2.2.1 := Int.ediv_nonneg p1 (by omega)
    have p4 : (gP l (bestF l k l.length).toNat).2.2.2.2.2 * n / (gP l (bestF l k l.length).toNat).2.2.2.2.1 ≤ (gP l (bestF l k l.length).toNat).2.2.2.2.2 * n := Int.ediv_le_self _ p1
    have e1 : IntKind.i64.wrap ((gP l (bestF l k l.length).toNat).2.2.2.2.1 - n) = (gP l (bestF l k l.length).toNat).2.2.2.2.1 - n := wrap_eq (by omega) (by omega)
    have e2 : IntKind.i64.wrap ((gP l (bestF l k l.length).toNat).2.2.2.2.2 - (gP l (bestF l k l.length).toNat).2.2.2.2.2 * n / (gP l (bestF l k l.length).toNat).2.2.2.2.1) = (gP l (bestF l k l.length).toNat).2.2.2.2.2 - (gP l (bestF l k l.length).toNat).2.2.2.2.2 * n / (gP l (bestF l k l.length).toNat).2.2.2.2.1 := wrap_eq (by omega) (by omega)
    have hq : setS (setC l (bestF l k l.length) ((gP l (bestF l k l.length).toNat).2.2.2.2.1 - n)) (bestF l k l.length) ((gP l (bestF l k l.length).toNat).2.2.2.2.2 - (gP l (bestF l k l.length).toNat).2.2.2.2.2 * n / (gP l (bestF l k l.length).toNat).2.2.2.2.1) = l.set (bestF l k l.length).toNat (restF (gP l (bestF l k l.length).toNat) n) := setCS (by omega) _ _
    have sl1 : (bestF l k l.length) < ((setC l (bestF l k l.length) (IntKind.i64.wrap ((gP l (bestF l k l.length).toNat).2.2.2.2.1 - n))).length : Int) := by unfold setC; rw [List.length_set]; exact b1
    have hgs : (gP (setC l (bestF l k l.length) (IntKind.i64.wrap ((gP l (bestF l k l.length).toNat).2.2.2.2.1 - n))) (bestF l k l.length).toNat).2.2.2.2.2 = (gP l (bestF l k l.length).toNat).2.2.2.2.2 := by unfold setC; rw [gP_set (by omega)]
    conv => whnf
    refine ⟨hok'.2.2.1.1, ?_⟩
    conv => whnf
    refine ⟨hok'.2.2.1.2, ?_⟩
    conv => whnf
    refine ⟨show 0 ≤ n by omega, ?_⟩
    conv => whnf
    refine ⟨hn2, ?_⟩
    conv => whnf
    refine ⟨show 0 < (gP l (bestF l k l.length).toNat).2.2.2.2.1 by omega, ?_⟩
    conv => whnf
    refine ⟨show t.length ≤ 1000000 by omega, ?_⟩
    conv => whnf
    refine ⟨b0, ?_⟩
    conv => whnf
    refine ⟨b1, ?_⟩
    conv => whnf
    refine ⟨b0, ?_⟩
    conv => whnf
    refine ⟨b1, ?_⟩
    conv => whnf
    refine ⟨b0, ?_⟩
    conv => whnf
    refine ⟨sl1, ?_⟩
    conv => whnf
    refine ⟨b0, ?_⟩
    conv => whnf
    refine ⟨sl1, ?_⟩
    conv => whnf
    refine ⟨(putW t (partF (gP l (bestF l k l.length).toNat) n), l.set (bestF l k l.length).toNat (restF (gP l (bestF l k l.length).toNat) n), 0), ?_, ⟨by show (l.set (bestF l k l.length).toNat (restF (gP l (bestF l k l.length).toNat) n)).length ≤ _; rw [List.length_set]; exact V.ll, by show (putW t (partF (gP l (bestF l k l.length).toNat) n)).length ≤ _; omega, by show (0 : Int) ≤ _; omega, fun g => by have g : (0 : Int) < 0 := g; omega, fun g => by have g : (0 : Int) < 0 := g; omega, ?_⟩, ?_⟩
    · exact Eq.trans (b := S74a k (putW t (partF (gP l (bestF l k l.length).toNat) n)) (setS (setC l (bestF l k l.length) (IntKind.i64.wrap ((gP l (bestF l k l.length).toNat).2.2.2.2.1 - n))) (bestF l k l.length) (IntKind.i64.wrap ((gP (setC l (bestF l k l.length) (IntKind.i64.wrap ((gP l (bestF l k l.length).toNat).2.2.2.2.1 - n))) (bestF l k l.length).toNat).2.2.2.2.2 - (gP l (bestF l k l.length).toNat).2.2.2.2.2 * n / (gP l (bestF l k l.length).toNat).2.2.2.2.1))) 0) rfl (by rw [hgs, e1, e2, hq])
    · show cutF k ((l.set (bestF l k l.length).toNat (restF (gP l (bestF l k l.length).toNat) n)).length + 1) (putW t (partF (gP l (bestF l k l.length).toNat) n)) (l.set (bestF l k l.length).toNat (restF (gP l (bestF l k l.length).toNat) n)) 0 = _
      rw [cutF_done k _ _ _ (Int.le_refl _), ← V.eq, cutF, if_neg hn3, if_neg hbz, if_neg hc, cutF_done k _ _ _ (Int.le_refl _)]
    · show (l.set (bestF l k l.length).toNat (restF (gP l (bestF l k l.length).toNat) n)).length + (if (0 : Int) < 0 then 1 else 0) < l.length + (if 0 < n then 1 else 0)
      rw [if_pos hn1, if_neg (by omega), List.length_set]; omega
  have hn1 : ¬ (0 < n) := @of_decide_eq_false _ _ hn1
  conv => whnf
  show (t, l) = (cutF k (l0.length + 1) [] l0 n0)
  rw [← V.eq, cutF_done k _ _ _ (show n ≤ 0 by omega)]
end
end Go.Proofs.Yteidanhfkaljaaa.Eng.Cg
set_option linter.unusedVariables false
set_option linter.unusedSimpArgs false
namespace Go.Proofs.Yteidanhfkaljaaa.Eng.Cg
open Go Go.Proofs.Yteidanhfkaljaaa.Eng
set_option maxRecDepth 100000
noncomputable section
open Go.RowKit
theorem i64_in {x : Int} (h : (Lit.int .i64 x).wf = true) : -9223372036854775808 ≤ x ∧ x ≤ 9223372036854775807 := by
  have h' : (decide (IntKind.i64.min ≤ x) && decide (x ≤ IntKind.i64.max)) = true := h
  obtain ⟨h1, h2⟩ := Bool.and_eq_true_iff.1 h'
  have e1 : IntKind.i64.min = -9223372036854775808 := by decide
  have e2 : IntKind.i64.max = 9223372036854775807 := by decide
  have h1 : IntKind.i64.min ≤ x := of_decide_eq_true h1
  have h2 : x ≤ IntKind.i64.max := of_decide_eq_true h2
  omega
theorem takR_len (l : List Pa) (k n : Int) : (takR l k n).1.length ≤ l.length ∧ (takR l k n).2.1.length ≤ l.length := by
  have h1 := tkZ_len (l.zip (takeU l k n))
  have h2 := lfZ_len (l.zip (takeU l k n))
  rw [List.length_zip] at h1 h2
  unfold takR
  split
  · exact ⟨Nat.zero_le _, Nat.zero_le _⟩
  split
  · exact ⟨Nat.zero_le _, Nat.zero_le _⟩
  · exact ⟨by show (tkZ _).length ≤ _; omega, by show (lfZ _).length ≤ _; omega⟩
def K53 : Fn1 := ⟨.fld (.sl paT) (.fld I (.one I)), .fld (.sl paT) (.fld (.sl paT) (.one I)), fun (a : List Pa × Int × Int) => [a.1.length ≤ 100000, a.2.2 ≤ 9223372036854775807], fun (a : List Pa × Int × Int) => takR a.1 a.2.1 a.2.2⟩
theorem k53 : FnOk Go.Proofs.Try.prog 53 K53 := by
  refine fn_ok (E := (⟨tab, [(73, K73), (74, K74)], ann0⟩ : Env)) (TOk.of tab_told) (AllOk.cons k73 (.cons k74 .nil)).at_ mix Go.Proofs.Try.func53 rfl rfl (by kernel_rfl) K53 ?_
  rintro ⟨(l : List Pa), (k : Int), (n : Int)⟩ hp
  have hl : l.length ≤ 100000 := hp _ (List.mem_cons_self ..)
  have hn : n ≤ 9223372036854775807 := hp _ (List.mem_cons_of_mem _ (List.mem_cons_self ..))
  clear hp
  conv => whnf
  refine ⟨hl, ?_⟩
  conv => whnf
  refine cond_intro (fun hv => ?_) (fun hv => ?_)
  · have hv : (!decide (cargoR l = 0)) = true := hv
    have hv : ¬ (cargoR l = 0) := by simpa using hv
    conv => whnf
    show (([], [], cargoR l) : List Pa × List Pa × Int) = takR l k n
    rw [takR, if_pos hv]
  have hv : (!decide (cargoR l = 0)) = false := hv
  have hv : cargoR l = 0 := by simpa using hv
  obtain ⟨hv1, hv2, hv3⟩ := (cargo_zero l).1 hv
  conv => whnf
  refine cond_intro (fun hn0 => ?_) (fun hn0 => ?_)
  · have hn0 : n < 0 := @of_decide_eq_true _ _ hn0
    conv => whnf
    show (([], [], 1) : List Pa × List Pa × Int) = takR l k n
    rw [takR, if_neg (by simp [hv]), if_pos hn0]
  have hn0 : ¬ (n < 0) := @of_decide_eq_false _ _ hn0
  conv => whnf
  refine ⟨hl, ?_⟩
  conv => whnf
  refine ⟨hv3, ?_⟩
  conv => whnf
  refine ⟨hn, ?_⟩
  conv => whnf
  show ((cutF k (l.length + 1) [] l n).1, (cutF k (l.length + 1) [] l n).2, (0 : Int)) = takR l k n
  rw [cut_take hv (by omega), takR, if_neg (by simp [hv]), if_neg hn0]
end
end Go.Proofs.Yteidanhfkaljaaa.Eng.Cg
set_option linter.unusedVariables false
set_option linter.unusedSimpArgs false
namespace Go.Proofs.Yteidanhfkaljaaa.Eng.Cg
open Go Go.RowKit Go.Proofs.Yteidanhfkaljaaa.Eng
set_option maxRecDepth 100000
noncomputable section
theorem useF_other (l : List Pa) : ∀ {o : List Int} {n : Int} {u : List Int} {j : Nat}, Gd l o → u.length = l.length → (j : Int) ∉ o → gI (useF l o n u) j = gI u j
  | [], n, u, j, _, _, _ => rfl
  | i :: r, n, u, j, hg, hu, h => by
    have hi := hg i List.mem_cons_self
    rw [useF, useF_other l (fun x hx => hg x (List.mem_cons_of_mem _ hx)) (by rw [List.length_set]; exact hu) (fun e => h (List.mem_cons_of_mem _ e)), gI_set (by omega), if_neg]
    intro e
    exact h (by rw [← e, Int.toNat_of_nonneg hi.1]; exact List.mem_cons_self)
theorem rep_gI {m j : Nat} (h : j < m) : gI (List.replicate m (0 : Int)) j = 0 := by unfold gI; simp [h]
theorem ord_gd (l : List Pa) (k : Int) : Gd l (SB l (ordR l k l.length)) := gd_perm (SB_perm l _).symm (ordR_gd k)
theorem takeU_kind {l : List Pa} {k n : Int} {j : Nat} (hj : j < l.length) (h : (gP l j).1 ≠ k) : gI (takeU l k n) j = 0 := by
  unfold takeU
  rw [useF_other l (ord_gd l k) (by simp) (fun e => ?_), rep_gI hj]
  obtain ⟨j', e1, _, e2⟩ := ordR_mem.1 ((SB_perm l _).mem_iff.1 e)
  obtain rfl : j = j' := by omega
  exact h e2
/-- The marks of a load. -/
structure Mz (l : List Pa) (k : Int) (z : List (Pa × Int)) : Prop where
  fst : z.map Prod.fst = l
  ok : ∀ q ∈ z, okP q.1 ∧ 0 ≤ q.2 ∧ q.2 ≤ q.1.2.2.2.2.1 ∧ (q.1.1 ≠ k → q.2 = 0)
theorem takeZ {l : List Pa} {k n : Int} (hl : ∀ p ∈ l, okP p) (hn : 0 ≤ n) : Mz l k (l.zip (takeU l k n)) := by
  have hu := takeU_len l k n
  refine ⟨List.map_fst_zip (by omega), fun q hq => ?_⟩
  obtain ⟨j, _, hj, rfl⟩ := zip_mem2 (i := 0) hu (by simpa using hq)
  have hb := takeU_bnd (k := k) (n := n) hl hn hj
  refine ⟨by show okP (gP l j); rw [gP_eq hj]; exact hl _ (List.getElem_mem _), hb.1, hb.2, fun h => takeU_kind hj h⟩
theorem part_ok {p : Pa} {x : Int} (h : okP p) (h1 : 0 < x) (h2 : x ≤ p.2.2.2.2.1) : okP (partF p x) := by
  rw [okP_iff] at h ⊢
  obtain ⟨a, b, c, d⟩ := h
  have p1 : 0 ≤ p.2.2.2.2.2 * x := Int.mul_nonneg c.1 (by omega)
  have p2 : 0 ≤ p.2.2.2.2.2 * x / p.2.2.2.2.1 := Int.ediv_nonneg p1 (by omega)
  have p3 : p.2.2.2.2.2 * x ≤ p.2.2.2.2.2 * p.2.2.2.2.1 := Int.mul_le_mul_of_nonneg_left h2 c.1
  have p4 : p.2.2.2.2.2 * x / p.2.2.2.2.1 ≤ p.2.2.2.2.2 := by
    have := Int.ediv_le_ediv (show 0 < p.2.2.2.2.1 by omega) p3
    rwa [Int.mul_ediv_cancel _ (by omega)] at this
  exact ⟨⟨by show 1 ≤ x; omega, by show x ≤ 1000000; omega⟩, b, ⟨p2, by show p.2.2.2.2.2 * x / p.2.2.2.2.1 ≤ _; omega⟩, d⟩
theorem rest_ok {p : Pa} {x : Int} (h : okP p) (h1 : 0 ≤ x) (h2 : 0 < p.2.2.2.2.1 - x) : okP (restF p x) := by
  rw [okP_iff] at h ⊢
  obtain ⟨a, b, c, d⟩ := h
  have p1 : 0 ≤ p.2.2.2.2.2 * x := Int.mul_nonneg c.1 h1
  have p2 : 0 ≤ p.2.2.2.2.2 * x / p.2.2.2.2.1 := Int.ediv_nonneg p1 (by omega)
  have p3 : p.2.2.2.2.2 * x ≤ p.2.2.2.2.2 * p.2.2.2.2.1 := Int.mul_le_mul_of_nonneg_left (by omega) c.1
  have p4 : p.2.2.2.2.2 * x / p.2.2.2.2.1 ≤ p.2.2.2.2.2 := by
    have := Int.ediv_le_ediv (show 0 < p.2.2.2.2.1 by omega) p3
    rwa [Int.mul_ediv_cancel _ (by omega)] at this
  exact ⟨⟨by show 1 ≤ p.2.2.2.2.1 - x; omega, by show p.2.2.2.2.1 - x ≤ 1000000; omega⟩, b, ⟨by show 0 ≤ p.2.2.2.2.2 - p.2.2.2.2.2 * x / p.2.2.2.2.1; omega, by show p.2.2.2.2.2 - p.2.2.2.2.2 * x / p.2.2.2.2.1 ≤ _; omega⟩, d⟩
theorem tkZ_ok {l : List Pa} {k : Int} {z : List (Pa × Int)} (h : Mz l k z) : ∀ p ∈ tkZ z, okP p ∧ p.1 = k := fun p hp => by
  obtain ⟨q, h1, h2, rfl⟩ := tkZ_mem hp
  obtain ⟨a, b, c, d⟩ := h.ok q h1
  refine ⟨part_ok a h2 c, ?_⟩
  show q.1.1 = k
  by_cases e : q.1.1 = k
  · exact e
  · have := d e; omega
theorem lfZ_ok {l : List Pa} {k : Int} {z : List (Pa × Int)} (h : Mz l k z) : ∀ p ∈ lfZ z, okP p := fun p hp => by
  obtain ⟨q, h1, h2, rfl⟩ := lfZ_mem hp
  obtain ⟨a, b, c, d⟩ := h.ok q h1
  exact rest_ok a b h2
theorem srtZ {z : List (Pa × Int)} (h : Srt (z.map Prod.fst)) : Srt (tkZ z) ∧ Srt (lfZ z) := by
  have h0 : z.Pairwise fun a b => ltP a.1 b.1 = true := by rwa [Srt, List.pairwise_map] at h
  constructor
  · unfold Srt tkZ
    rw [List.pairwise_map]
    exact List.Pairwise.sublist List.filter_sublist h0
  · unfold Srt lfZ
    rw [List.pairwise_map]
    exact List.Pairwise.sublist List.filter_sublist h0
theorem srt_dist {l : List Pa} (h : Srt l) : Dist l := h.imp fun {a b} hab hs => by
  have := (same_lt hs).1
  rw [hab] at this; cases this
def kS (k : Int) (l : List Pa) : Int := ((l.filter fun p => decide (p.1 = k)).map fun p => p.2.2.2.2.1).sum
def nS (k : Int) (l : List Pa) : Int := ((l.filter fun p => decide (p.1 ≠ k)).map fun p => p.2.2.2.2.1).sum
theorem kS_cons (k : Int) (p : Pa) (l : List Pa) : kS k (p :: l) = (if p.1 = k then p.2.2.2.2.1 else 0) + kS k l := by
  unfold kS; rw [List.filter_cons]; split <;> split <;> simp_all
theorem nS_cons (k : Int) (p : Pa) (l : List Pa) : nS k (p :: l) = (if p.1 = k then 0 else p.2.2.2.2.1) + nS k l := by
  unfold nS; rw [List.filter_cons]; split <;> split <;> simp_all
theorem cntP_cons (p : Pa) (l : List Pa) : cntP (p :: l) = p.2.2.2.2.1 + cntP l := by simp [cntP]
theorem cntP_nil : cntP [] = 0 := rfl
theorem kS_nil (k : Int) : kS k [] = 0 := rfl
theorem nS_nil (k : Int) : nS k [] = 0 := rfl
theorem cnt_parts (k : Int) : ∀ l : List Pa, cntP l = kS k l + nS k l
  | [] => rfl
  | p :: l => by rw [cntP_cons, kS_cons, nS_cons, cnt_parts k l]; split <;> omega
theorem kS_app (k : Int) : ∀ a b : List Pa, kS k (a ++ b) = kS k a + kS k b
  | [], b => by rw [List.nil_append, kS_nil, Int.zero_add]
  | p :: a, b => by rw [List.cons_append, kS_cons, kS_cons, kS_app k a b]; omega
theorem cntP_app : ∀ a b : List Pa, cntP (a ++ b) = cntP a + cntP b
  | [], b => by rw [List.nil_append, cntP_nil, Int.zero_add]
  | p :: a, b => by rw [List.cons_append, cntP_cons, cntP_cons, cntP_app a b]; omega
theorem sum_perm {a b : List Int} (h : a.Perm b) : a.sum = b.sum := by
  induction h with
  | nil => rfl
  | cons x _ ih => rw [List.sum_cons, List.sum_cons, ih]
  | swap x y l => simp only [List.sum_cons]; omega
  | trans _ _ ih1 ih2 => rw [ih1, ih2]
theorem cntP_perm {a b : List Pa} (h : a.Perm b) : cntP a = cntP b := by
  unfold cntP; exact sum_perm (h.map _)
theorem kS_pos {k : Int} : ∀ {l : List Pa}, (∀ p ∈ l, okP p) → 0 ≤ kS k l ∧ kS k l ≤ l.length * 1000000
  | [], _ => by simp [kS_nil]
  | p :: l, h => by
    have h1 := kS_pos (k := k) (l := l) fun q hq => h q (List.mem_cons_of_mem _ hq)
    have h2 := h p List.mem_cons_self
    rw [okP_iff] at h2
    rw [kS_cons, List.length_cons]
    split <;> omega
theorem nS_pos {k : Int} : ∀ {l : List Pa}, (∀ p ∈ l, okP p) → 0 ≤ nS k l ∧ nS k l ≤ l.length * 1000000
  | [], _ => by simp [nS_nil]
  | p :: l, h => by
    have h1 := nS_pos (k := k) (l := l) fun q hq => h q (List.mem_cons_of_mem _ hq)
    have h2 := h p List.mem_cons_self
    rw [okP_iff] at h2
    rw [nS_cons, List.length_cons]
    split <;> omega
/-- What the two lists of marks hold. -/
theorem sumZ {k : Int} : ∀ {z : List (Pa × Int)}, (∀ q ∈ z, okP q.1 ∧ 0 ≤ q.2 ∧ q.2 ≤ q.1.2.2.2.2.1 ∧ (q.1.1 ≠ k → q.2 = 0)) →
    cntP (tkZ z) = (z.map Prod.snd).sum ∧ cntP (lfZ z) = cntP (z.map Prod.fst) - (z.map Prod.snd).sum ∧ kS k (lfZ z) = kS k (z.map Prod.fst) - (z.map Prod.snd).sum ∧ nS k (lfZ z) = nS k (z.map Prod.fst) ∧
      (lfZ z).filter (fun p => decide (p.1 ≠ k)) = (z.map Prod.fst).filter (fun p => decide (p.1 ≠ k))
  | [], _ => ⟨rfl, rfl, rfl, rfl, rfl⟩
  | q :: z, h => by
    obtain ⟨i1, i2, i3, i4, i5⟩ := sumZ (z := z) fun q hq => h q (List.mem_cons_of_mem _ hq)
    obtain ⟨a, b, c, d⟩ := h q List.mem_cons_self
    rw [okP_iff] at a
    have e1 : ∀ p x, (partF p x).2.2.2.2.1 = x := fun _ _ => rfl
    have e2 : ∀ p x, (restF p x).2.2.2.2.1 = p.2.2.2.2.1 - x := fun _ _ => rfl
    have e3 : ∀ p x, (restF p x).1 = p.1 := fun _ _ => rfl
    have key : nS k ((if 0 < q.1.2.2.2.2.1 - q.2 then [restF q.1 q.2] else []) ++ lfZ z) = (if 0 < q.1.2.2.2.2.1 - q.2 then (if q.1.1 = k then 0 else q.1.2.2.2.2.1 - q.2) else 0) + nS k (lfZ z) := by
      split
      · rw [List.singleton_append, nS_cons, e3, e2]
      · rw [List.nil_append, Int.zero_add]
    rw [tkZ_cons, lfZ_cons, key, kS_app, cntP_app, cntP_app, i1, i2, i3, i4]
    simp only [List.map_cons, List.sum_cons]
    rw [cntP_cons, kS_cons, nS_cons]
    refine ⟨?_, ?_, ?_, ?_, ?_⟩
    · split
      · rw [cntP_cons, e1, cntP_nil]; omega
      · rw [cntP_nil]; omega
    · split
      · rw [cntP_cons, e2, cntP_nil]; omega
      · rw [cntP_nil]; omega
    · split
      · rw [kS_cons, e2, e3, kS_nil]
        split
        · omega
        · rename_i hk; have := d hk; omega
      · rw [kS_nil]
        split
        · omega
        · rename_i hk; have := d hk; omega
    · split
      · split
        · omega
        · rename_i hk; have := d hk; omega
      · split
        · omega
        · rename_i hk; have := d hk; omega
    · rw [List.filter_append, i5]
      by_cases hk : q.1.1 = k
      · have f1 : ((if 0 < q.1.2.2.2.2.1 - q.2 then [restF q.1 q.2] else []).filter fun p => decide (p.1 ≠ k)) = [] := by split <;> simp [e3, hk]
        rw [f1]; simp [hk]
      · have h0 := d hk
        have f1 : (if 0 < q.1.2.2.2.2.1 - q.2 then [restF q.1 q.2] else []) = [q.1] := by rw [if_pos (by omega), h0, rest_zero]
        rw [f1]; simp [hk]
theorem sum_set : ∀ {u : List Int} {i : Nat} {x : Int}, i < u.length → (u.set i x).sum = u.sum - gI u i + x
  | [], i, x, h => by simp at h
  | a :: u, 0, x, h => by simp only [List.set_cons_zero, List.sum_cons]; show _ = a + u.sum - a + x; omega
  | a :: u, i + 1, x, h => by
    simp only [List.set_cons_succ, List.sum_cons]
    rw [sum_set (u := u) (by simpa using h)]
    show _ = a + u.sum - gI u i + x
    omega
def oS (l : List Pa) (o : List Int) : Int := (o.map fun i => (gP l i.toNat).2.2.2.2.1).sum
theorem oS_pos {l : List Pa} (hl : ∀ p ∈ l, okP p) : ∀ {o : List Int}, Gd l o → 0 ≤ oS l o
  | [], _ => Int.le_refl _
  | i :: r, h => by
    have h1 := oS_pos hl (o := r) fun x hx => h x (List.mem_cons_of_mem _ hx)
    have hi := h i List.mem_cons_self
    have hok : okP (gP l i.toNat) := by rw [gP_eq (by omega)]; exact hl _ (List.getElem_mem _)
    rw [okP_iff] at hok
    show 0 ≤ ((i :: r).map _).sum
    rw [List.map_cons, List.sum_cons]
    show 0 ≤ _ + oS l r
    omega
theorem useF_sum {l : List Pa} (hl : ∀ p ∈ l, okP p) : ∀ {o : List Int} {n : Int} {u : List Int}, u.length = l.length → 0 ≤ n → Gd l o → o.Nodup → (∀ i ∈ o, gI u i.toNat = 0) → (useF l o n u).sum = u.sum + min2 n (oS l o)
  | [], n, u, _, hn, _, _, _ => by
    show u.sum = u.sum + min2 n 0
    unfold min2; split <;> omega
  | i :: r, n, u, hu, hn, hg, hd, h0 => by
    have hi := hg i List.mem_cons_self
    have hgr : Gd l r := fun x hx => hg x (List.mem_cons_of_mem _ hx)
    have hok : okP (gP l i.toNat) := by rw [gP_eq (by omega)]; exact hl _ (List.getElem_mem _)
    rw [okP_iff] at hok
    have hp := oS_pos hl hgr
    have e : oS l (i :: r) = (gP l i.toNat).2.2.2.2.1 + oS l r := by show ((i :: r).map _).sum = _; rw [List.map_cons, List.sum_cons]; rfl
    have hm : 0 ≤ n - min2 n (gP l i.toNat).2.2.2.2.1 := by unfold min2; split <;> omega
    rw [useF, useF_sum hl (by rw [List.length_set]; exact hu) hm hgr (List.nodup_cons.1 hd).2 (fun x hx => ?_), sum_set (by omega), h0 i List.mem_cons_self, e]
    · unfold min2; repeat' split
      all_goals omega
    · have hx2 := hgr x hx
      rw [gI_set (by omega), if_neg]
      · exact h0 x (List.mem_cons_of_mem _ hx)
      · intro ee
        have : i = x := by omega
        subst this
        exact (List.nodup_cons.1 hd).1 hx
theorem oS_ord (l : List Pa) (k : Int) : ∀ m : Nat, m ≤ l.length → oS l (ordR l k m) = kS k (l.take m)
  | 0, _ => rfl
  | m + 1, h => by
    rw [ordR_succ, List.take_succ_eq_append_getElem (by omega), kS_app, ← gP_eq (by omega), kS_cons, kS_nil, ← oS_ord l k m (by omega)]
    split
    · unfold oS
      rw [List.map_append, List.sum_append]
      simp
    · omega
theorem takeU_sum {l : List Pa} {k n : Int} (hl : ∀ p ∈ l, okP p) (hn : 0 ≤ n) : (takeU l k n).sum = min2 n (kS k l) := by
  unfold takeU
  rw [useF_sum hl (by simp) hn (ord_gd l k) ((SB_perm l _).nodup_iff.2 (asc_nodup (ordR_asc _ _ _))) (fun i hi => ?_)]
  · have e1 : oS l (SB l (ordR l k l.length)) = oS l (ordR l k l.length) := by unfold oS; exact sum_perm ((SB_perm l _).map _)
    have e2 : (List.replicate l.length (0 : Int)).sum = 0 := by simp
    rw [e1, e2, oS_ord l k l.length (Nat.le_refl _), List.take_length, Int.zero_add]
  · have := ord_gd l k i hi
    exact rep_gI (by omega)
/-- All that is said of what is taken and left. -/
structure TakeOk (l : List Pa) (k n : Int) (t f : List Pa) : Prop where
  tv : cargoR t = 0
  fv : cargoR f = 0
  tk : ∀ p ∈ t, p.1 = k
  tc : cntP t = min2 n (kS k l)
  fc : cntP f = cntP l - min2 n (kS k l)
  fk : kS k f = kS k l - min2 n (kS k l)
  fn : nS k f = nS k l
  ff : f.filter (fun p => decide (p.1 ≠ k)) = l.filter (fun p => decide (p.1 ≠ k))
theorem take_ok' {l : List Pa} {k n : Int} (h : (takR l k n).2.2 = 0) : cargoR l = 0 ∧ 0 ≤ n ∧ takR l k n = (tkZ (l.zip (takeU l k n)), lfZ (l.zip (takeU l k n)), 0) := by
  by_cases h1 : cargoR l = 0
  · by_cases h2 : n < 0
    · rw [takR, if_neg (by simp [h1]), if_pos h2] at h; cases h
    · exact ⟨h1, by omega, by rw [takR, if_neg (by simp [h1]), if_neg h2]⟩
  · rw [takR, if_pos h1] at h; exact absurd h h1
theorem take_all' {l : List Pa} {k n : Int} (h : cargoR l = 0) (hn : 0 ≤ n) : TakeOk l k n (tkZ (l.zip (takeU l k n))) (lfZ (l.zip (takeU l k n))) := by
  obtain ⟨h1, h2, h3⟩ := (cargo_zero l).1 h
  have hz := takeZ (k := k) (n := n) h3 hn
  have hs := srtZ (z := l.zip (takeU l k n)) (by rw [hz.fst]; exact h2)
  have hl1 := tkZ_len (l.zip (takeU l k n))
  have hl2 := lfZ_len (l.zip (takeU l k n))
  rw [List.length_zip] at hl1 hl2
  have hsum : ((l.zip (takeU l k n)).map Prod.snd).sum = min2 n (kS k l) := by rw [List.map_snd_zip (by rw [takeU_len]; exact Nat.le_refl _), takeU_sum h3 hn]
  obtain ⟨s1, s2, s3, s4, s5⟩ := sumZ (k := k) hz.ok
  rw [hsum, hz.fst] at *
  exact ⟨(cargo_zero _).2 ⟨by omega, hs.1, fun p hp => (tkZ_ok hz p hp).1⟩, (cargo_zero _).2 ⟨by omega, hs.2, fun p hp => lfZ_ok hz p hp⟩, fun p hp => (tkZ_ok hz p hp).2, s1, s2, s3, s4, s5⟩
/-- What is kept of a kind, and what is lost. -/
def trimR (l : List Pa) (k n : Int) : List Pa × Int × Int := if (takR l k n).2.2 ≠ 0 then ([], 0, (takR l k n).2.2) else (sortP ((takR l k n).1 ++ (takR l k n).2.1.filter fun p => decide (p.1 ≠ k)), kS k (takR l k n).2.1, 0)
theorem dist_app {a b : List Pa} (ha : Dist a) (hb : Dist b) (h : ∀ x ∈ a, ∀ y ∈ b, ¬ sameP x y) : Dist (a ++ b) := List.pairwise_append.2 ⟨ha, hb, h⟩
theorem trim_fold {l : List Pa} {k n : Int} (h : cargoR l = 0) (hn : 0 ≤ n) : fold (takR l k n).1 ((takR l k n).2.1.filter fun p => decide (p.1 ≠ k)) = sortP ((takR l k n).1 ++ (takR l k n).2.1.filter fun p => decide (p.1 ≠ k)) := by
  have e : takR l k n = (tkZ (l.zip (takeU l k n)), lfZ (l.zip (takeU l k n)), 0) := by rw [takR, if_neg (by simp [h]), if_neg (by omega)]
  have T := take_all' (k := k) h hn
  rw [e]
  show fold (tkZ _) ((lfZ _).filter _) = sortP (tkZ _ ++ (lfZ _).filter _)
  have s1 := ((cargo_zero _).1 T.tv).2.1
  have s2 := ((cargo_zero _).1 T.fv).2.1
  have hd : Dist (tkZ (l.zip (takeU l k n)) ++ (lfZ (l.zip (takeU l k n))).filter fun p => decide (p.1 ≠ k)) := by
    refine dist_app (srt_dist s1) (List.Pairwise.sublist List.filter_sublist (srt_dist s2)) fun x hx y hy hxy => ?_
    have hk := T.tk x hx
    have := (List.mem_filter.1 hy).2
    have hne : y.1 ≠ k := by simpa using this
    exact hne (by rw [← hxy.1]; exact hk)
  rw [← N_sort hd, N_append, N_srt s1]
end
end Go.Proofs.Yteidanhfkaljaaa.Eng.Cg
set_option linter.unusedVariables false
set_option linter.unusedSimpArgs false
namespace Go.Proofs.Yteidanhfkaljaaa.Eng.Cg
open Go Go.Proofs.Yteidanhfkaljaaa.Eng
set_option maxRecDepth 100000
noncomputable section
open Go.RowKit
theorem kS_take {k : Int} {l : List Pa} {i : Nat} (hi : i < l.length) : kS k (l.take (i + 1)) = kS k (l.take i) + (if (gP l i).1 = k then (gP l i).2.2.2.2.1 else 0) := by
  rw [List.take_succ_eq_append_getElem hi, kS_app, ← gP_eq hi, kS_cons, kS_nil]; omega
def oth (k : Int) (l : List Pa) : List Pa := l.filter fun p => decide (p.1 ≠ k)
theorem oth_take {k : Int} {l : List Pa} {i : Nat} (hi : i < l.length) : oth k (l.take (i + 1)) = oth k (l.take i) ++ (if (gP l i).1 = k then [] else [gP l i]) := by
  unfold oth
  rw [List.take_succ_eq_append_getElem hi, List.filter_append, ← gP_eq hi, List.filter_cons]
  by_cases h : (gP l i).1 = k <;> simp [h]
theorem oth_len (k : Int) (l : List Pa) : (oth k l).length ≤ l.length := List.length_filter_le _ _
theorem kS_bt {k : Int} {l : List Pa} {i : Nat} (hl : ∀ p ∈ l, okP p) : 0 ≤ kS k (l.take i) ∧ kS k (l.take i) ≤ l.length * 1000000 := by
  have := kS_pos (k := k) (l := l.take i) fun p hp => hl p (List.mem_of_mem_take hp)
  rw [List.length_take] at this
  omega
def S60 (k : Int) (t f : List Pa) (c i : Int) : SL := ⟨[.undef, .int .i64 k] ++ List.replicate 7 .undef ++ [.own 0, .undef, .undef, .int .i64 c] ++ List.replicate 13 .undef ++ [.own 1, .int .i64 f.length, .int .i64 i] ++ List.replicate 19 .undef, [(0, .arr paT t), (1, .arr paT f)], 2⟩
def E60 : Env := ⟨tab, [(49, K49), (80, .fixd 67 K80)], fun n => match n with | 6 => some ([1, 9, 12, 26, 27, 28], [], []) | _ => none⟩
def K60 : Fn1 := ⟨.fld (.sl paT) (.fld I (.one I)), .fld (.sl paT) (.fld I (.one I)), fun (a : List Pa × Int × Int) => [a.1.length ≤ 100000, a.2.2 ≤ 9223372036854775807], fun (a : List Pa × Int × Int) => trimR a.1 a.2.1 a.2.2⟩
theorem k60 : FnOk Go.Proofs.Try.prog 60 K60 := by
  refine fn_ok (E := E60) (TOk.of tab_told) (AllOk.cons k49 (.consF k80 .nil)).at_ mix Go.Proofs.Try.func60 rfl rfl (by kernel_rfl) K60 ?_
  rintro ⟨(l : List Pa), (k : Int), (n : Int)⟩ hp
  have hl : l.length ≤ 100000 := hp _ (List.mem_cons_self ..)
  have hn : n ≤ 9223372036854775807 := hp _ (List.mem_cons_of_mem _ (List.mem_cons_self ..))
  clear hp
  conv => whnf
  refine ⟨hl, ?_⟩
  conv => whnf
  refine ⟨hn, ?_⟩
  conv => whnf
  refine cond_intro (fun h1 => ?_) (fun h1 => ?_)
  · have h1 : (!decide ((takR l k n).2.2 = 0)) = true := h1
    have h1 : ¬ ((takR l k n).2.2 = 0) := by simpa using h1
    conv => whnf
    show (([], 0, (takR l k n).2.2) : List Pa × Int × Int) = trimR l k n
    rw [trimR, if_pos h1]
  have h1 : (!decide ((takR l k n).2.2 = 0)) = false := h1
  have h1 : (takR l k n).2.2 = 0 := by simpa using h1
  obtain ⟨hv, hn0, he⟩ := take_ok' h1
  have TK := take_all' (k := k) hv hn0
  obtain ⟨hv1, hv2, hv3⟩ := (cargo_zero l).1 hv
  obtain ⟨t1, t2⟩ := takR_len l k n
  have htv : ∀ p ∈ (takR l k n).1, okP p := by rw [he]; exact ((cargo_zero _).1 TK.tv).2.2
  have hfv : ∀ p ∈ (takR l k n).2.1, okP p := by rw [he]; exact ((cargo_zero _).1 TK.fv).2.2
  conv => whnf
  refine loop_rule (fun i : Int => S60 k ((takR l k n).1 ++ oth k ((takR l k n).2.1.take i.toNat)) (takR l k n).2.1 (kS k ((takR l k n).2.1.take i.toNat)) i) (fun i => ((takR l k n).2.1.length - i).toNat) (fun i => 0 ≤ i ∧ i ≤ (takR l k n).2.1.length) ?_ 0 (by kernel_rfl) ?_ ⟨by omega, by omega⟩
  case refine_2 => exact Eq.trans (b := S60 k (takR l k n).1 (takR l k n).2.1 0 0) rfl (by show _ = S60 k ((takR l k n).1 ++ []) (takR l k n).2.1 0 0; rw [List.append_nil])
  rintro i ⟨i0, i1⟩
  conv => whnf
  refine cond_intro (fun hlt => ?_) (fun hlt => ?_)
  · have hlt : i < ((takR l k n).2.1.length : Int) := @of_decide_eq_true _ _ hlt
    have hw : IntKind.i64.wrap (i + 1) = i + 1 := wrap_eq (by omega) (by omega)
    have ei : (i + 1).toNat = i.toNat + 1 := by omega
    have hok : okP (gP (takR l k n).2.1 i.toNat) := by rw [gP_eq (show i.toNat < (takR l k n).2.1.length by omega)]; exact hfv _ (List.getElem_mem _)
    rw [okP_iff] at hok
    have hb := kS_bt (k := k) (i := i.toNat) hfv
    have hol := oth_len k ((takR l k n).2.1.take i.toNat)
    rw [List.length_take] at hol
    have hcl : ((takR l k n).1 ++ oth k ((takR l k n).2.1.take i.toNat)).length ≤ 1000000 := by rw [List.length_append]; omega
    conv => whnf
    refine ⟨i0, ?_⟩
    conv => whnf
    refine ⟨hlt, ?_⟩
    conv => whnf
    refine cond_intro (fun hk => ?_) (fun hk => ?_)
    · have hk : (gP (takR l k n).2.1 i.toNat).1 = k := @of_decide_eq_true _ _ hk
      have hw2 : IntKind.i64.wrap ((kS k ((takR l k n).2.1.take i.toNat)) + (gP (takR l k n).2.1 i.toNat).2.2.2.2.1) = (kS k ((takR l k n).2.1.take i.toNat)) + (gP (takR l k n).2.1 i.toNat).2.2.2.2.1 := wrap_eq (by omega) (by omega)
      conv => whnf
      refine ⟨i + 1, ?_, ⟨by omega, by omega⟩, by omega⟩
      exact Eq.trans (b := S60 k ((takR l k n).1 ++ oth k ((takR l k n).2.1.take i.toNat)) (takR l k n).2.1 (IntKind.i64.wrap ((kS k ((takR l k n).2.1.take i.toNat)) + (gP (takR l k n).2.1 i.toNat).2.2.2.2.1)) (IntKind.i64.wrap (i + 1))) rfl (by rw [hw, ei, kS_take (show i.toNat < (takR l k n).2.1.length by omega), oth_take (show i.toNat < (takR l k n).2.1.length by omega), if_pos hk, if_pos hk, hw2, List.append_nil])
    have hk : ¬ ((gP (takR l k n).2.1 i.toNat).1 = k) := @of_decide_eq_false _ _ hk
    conv => whnf
    refine ⟨show (((takR l k n).1 ++ oth k ((takR l k n).2.1.take i.toNat)).length + 1) * 48 ≤ 70368744177664 by omega, ?_⟩
    conv => whnf
    refine ⟨show ((takR l k n).1 ++ oth k ((takR l k n).2.1.take i.toNat)).length + 1 ≤ 70368744177664 by omega, ?_⟩
    conv => whnf
    refine ⟨i + 1, ?_, ⟨by omega, by omega⟩, by omega⟩
    exact Eq.trans (b := S60 k (((takR l k n).1 ++ oth k ((takR l k n).2.1.take i.toNat)) ++ [(gP (takR l k n).2.1 i.toNat)]) (takR l k n).2.1 (kS k ((takR l k n).2.1.take i.toNat)) (IntKind.i64.wrap (i + 1))) rfl (by rw [hw, ei, kS_take (show i.toNat < (takR l k n).2.1.length by omega), oth_take (show i.toNat < (takR l k n).2.1.length by omega), if_neg hk, if_neg hk, Int.add_zero, List.append_assoc])
  have hlt : ¬ (i < ((takR l k n).2.1.length : Int)) := @of_decide_eq_false _ _ hlt
  have ei : i.toNat = (takR l k n).2.1.length := by omega
  have hol := oth_len k (takR l k n).2.1
  rw [ei, List.take_length]
  conv => whnf
  refine ⟨show ((takR l k n).1 ++ oth k (takR l k n).2.1).length ≤ 1000000 by rw [List.length_append]; omega, ?_⟩
  conv => whnf
  show ((sortP ((takR l k n).1 ++ oth k (takR l k n).2.1), kS k (takR l k n).2.1, 0) : List Pa × Int × Int) = trimR l k n
  rw [trimR, if_neg (by simp [h1])]; rfl
end
end Go.Proofs.Yteidanhfkaljaaa.Eng.Cg
set_option linter.unusedVariables false
set_option linter.unusedSimpArgs false
namespace Go.Proofs.Yteidanhfkaljaaa.Eng.Cg
open Go Go.Proofs.Yteidanhfkaljaaa.Eng
set_option maxRecDepth 100000
noncomputable section
open Go.RowKit
theorem sortP_len (l : List Pa) : (sortP l).length = l.length := (sortP_perm l).length_eq
theorem trim_ok {l : List Pa} {k n : Int} (h : (trimR l k n).2.2 = 0) : (trimR l k n).1.length ≤ 400 ∧ (∀ p ∈ (trimR l k n).1, okP p) ∧ cntP (trimR l k n).1 + (trimR l k n).2.1 = cntP l ∧ cargoR l = 0 ∧ 0 ≤ (trimR l k n).2.1 ∧ (trimR l k n).2.1 ≤ 200000000 := by
  have h1 : (takR l k n).2.2 = 0 := by
    unfold trimR at h
    split at h
    · exact h
    · rename_i h2; simpa using h2
  obtain ⟨hv, hn0, he⟩ := take_ok' h1
  have TK := take_all' (k := k) hv hn0
  have e : trimR l k n = (sortP ((takR l k n).1 ++ oth k (takR l k n).2.1), kS k (takR l k n).2.1, 0) := by rw [trimR, if_neg (by simp [h1])]; rfl
  rw [he] at e
  rw [e]
  show (sortP (tkZ (l.zip (takeU l k n)) ++ oth k (lfZ (l.zip (takeU l k n))))).length ≤ 400 ∧ (∀ p ∈ sortP (tkZ (l.zip (takeU l k n)) ++ oth k (lfZ (l.zip (takeU l k n)))), okP p) ∧ cntP (sortP (tkZ (l.zip (takeU l k n)) ++ oth k (lfZ (l.zip (takeU l k n))))) + kS k (lfZ (l.zip (takeU l k n))) = cntP l ∧ cargoR l = 0 ∧ 0 ≤ kS k (lfZ (l.zip (takeU l k n))) ∧ kS k (lfZ (l.zip (takeU l k n))) ≤ 200000000
  obtain ⟨t1, t2, t3⟩ := (cargo_zero _).1 TK.tv
  obtain ⟨f1, f2, f3⟩ := (cargo_zero _).1 TK.fv
  have ho : cntP (oth k (lfZ (l.zip (takeU l k n)))) = nS k (lfZ (l.zip (takeU l k n))) := rfl
  have hsum := cnt_parts k (lfZ (l.zip (takeU l k n)))
  have hkp := kS_pos (k := k) f3
  have hol := oth_len k (lfZ (l.zip (takeU l k n)))
  have htc := TK.tc
  have hfc := TK.fc
  refine ⟨by rw [sortP_len, List.length_append]; omega, fun p hp => ?_, ?_, hv, hkp.1, by omega⟩
  · rcases List.mem_append.1 ((sortP_perm _).mem_iff.1 hp) with hp | hp
    · exact t3 p hp
    · exact f3 p (List.mem_filter.1 hp).1
  · rw [cntP_perm (sortP_perm _), cntP_app, ho]; omega
theorem trim_len (l : List Pa) (k n : Int) : (trimR l k n).1.length ≤ 400 := by
  by_cases h : (trimR l k n).2.2 = 0
  · exact (trim_ok h).1
  · by_cases h1 : (takR l k n).2.2 ≠ 0
    · rw [trimR, if_pos h1]; exact Nat.zero_le _
    · exact absurd (by rw [trimR, if_neg h1]) h
end
end Go.Proofs.Yteidanhfkaljaaa.Eng.Cg
set_option linter.unusedVariables false
set_option linter.unusedSimpArgs false
namespace Go.Proofs.Yteidanhfkaljaaa.Eng.Cg
open Go Go.RowKit Go.Proofs.Yteidanhfkaljaaa.Eng
set_option maxRecDepth 100000
noncomputable section
theorem add_parts {p : Pa} {x : Int} (h : okP p) : addP (partF p x) (restF p x) = p := by
  rw [okP_iff] at h
  obtain ⟨a, b, c, d, e, f⟩ := p
  obtain ⟨⟨(h1 : 1 ≤ e), (h2 : e ≤ 1000000)⟩, _, ⟨(h3 : 0 ≤ f), (h4 : f ≤ 1000000000000)⟩, _⟩ := h
  show (a, b, c, d, IntKind.i64.wrap (x + (e - x)), IntKind.i64.wrap (f * x / e + (f - f * x / e))) = (a, b, c, d, e, f)
  rw [show x + (e - x) = e by omega, show f * x / e + (f - f * x / e) = f by omega, wrap_eq (by omega) (by omega), wrap_eq (by omega) (by omega)]
theorem fold_swap (m a b : List Pa) : fold m (a ++ b) = fold m (b ++ a) := fold_perm List.perm_append_comm m
theorem foldZ : ∀ {z : List (Pa × Int)} (m : List Pa), (∀ q ∈ z, okP q.1 ∧ 0 ≤ q.2 ∧ q.2 ≤ q.1.2.2.2.2.1) → fold m (tkZ z ++ lfZ z) = fold m (z.map Prod.fst)
  | [], m, _ => rfl
  | q :: z, m, h => by
    obtain ⟨a, b, c⟩ := h q List.mem_cons_self
    have a' := a
    rw [okP_iff] at a'
    have ih := fun m => foldZ (z := z) m fun q hq => h q (List.mem_cons_of_mem _ hq)
    rw [tkZ_cons, lfZ_cons, List.map_cons, fold_cons, ← ih]
    have e : ∀ s t u v : List Pa, fold m ((s ++ t) ++ (u ++ v)) = fold (fold m (s ++ u)) (t ++ v) := fun s t u v => by
      rw [← fold_app]
      refine fold_perm ?_ m
      rw [List.append_assoc, List.append_assoc]
      refine List.Perm.append_left _ ?_
      rw [← List.append_assoc, ← List.append_assoc]
      exact List.Perm.append_right _ List.perm_append_comm
    rw [e]
    congr 1
    by_cases h1 : 0 < q.2
    · by_cases h2 : 0 < q.1.2.2.2.2.1 - q.2
      · rw [if_pos h1, if_pos h2]
        show putW (putW m (partF q.1 q.2)) (restF q.1 q.2) = _
        rw [← put_merge m (partF q.1 q.2) (restF q.1 q.2) ⟨rfl, rfl, rfl, rfl⟩, add_parts a]
      · have e2 : q.2 = q.1.2.2.2.2.1 := by omega
        rw [if_pos h1, if_neg h2, e2, part_all a'.1.1]; rfl
    · have e2 : q.2 = 0 := by omega
      rw [if_neg h1, if_pos (by omega), e2, rest_zero]; rfl
theorem join_parts {l : List Pa} {k n : Int} (h : cargoR l = 0) (hn : 0 ≤ n) : joinR (tkZ (l.zip (takeU l k n))) (lfZ (l.zip (takeU l k n))) = (l, 0) := by
  have T := take_all' (k := k) h hn
  obtain ⟨h1, h2, h3⟩ := (cargo_zero l).1 h
  have hz := takeZ (k := k) (n := n) h3 hn
  have e : N (tkZ (l.zip (takeU l k n)) ++ lfZ (l.zip (takeU l k n))) = l := by
    have := foldZ (z := l.zip (takeU l k n)) [] fun q hq => ⟨(hz.ok q hq).1, (hz.ok q hq).2.1, (hz.ok q hq).2.2.1⟩
    rw [hz.fst] at this
    rw [N, this]
    exact N_srt h2
  rw [join_of T.tv T.fv, gatherR, e, if_pos h]
/-- In the order of taking, all before one that is taken from is taken whole. -/
theorem useF_pre {l : List Pa} (hl : ∀ p ∈ l, okP p) : ∀ {o : List Int} {n : Int} {u : List Int}, u.length = l.length → 0 ≤ n → Gd l o → o.Nodup → (∀ i ∈ o, gI u i.toNat = 0) → o.Pairwise fun j i => 0 < gI (useF l o n u) i.toNat → gI (useF l o n u) j.toNat = (gP l j.toNat).2.2.2.2.1
  | [], n, u, _, _, _, _, _ => List.Pairwise.nil
  | x :: r, n, u, hu, hn, hg, hd, h0 => by
    have hx := hg x List.mem_cons_self
    have hgr : Gd l r := fun y hy => hg y (List.mem_cons_of_mem _ hy)
    have hok : okP (gP l x.toNat) := by rw [gP_eq (by omega)]; exact hl _ (List.getElem_mem _)
    rw [okP_iff] at hok
    have hxr := (List.nodup_cons.1 hd).1
    have hm : 0 ≤ n - min2 n (gP l x.toNat).2.2.2.2.1 := by unfold min2; split <;> omega
    have hu1 : (u.set x.toNat (min2 n (gP l x.toNat).2.2.2.2.1)).length = l.length := by rw [List.length_set]; exact hu
    have h01 : ∀ i ∈ r, gI (u.set x.toNat (min2 n (gP l x.toNat).2.2.2.2.1)) i.toNat = 0 := fun i hi => by
      have hi2 := hgr i hi
      rw [gI_set (by omega), if_neg]
      · exact h0 i (List.mem_cons_of_mem _ hi)
      · intro ee
        have : x = i := by omega
        subst this
        exact hxr hi
    rw [useF]
    refine List.pairwise_cons.2 ⟨fun i hi hpos => ?_, useF_pre hl hu1 hm hgr (List.nodup_cons.1 hd).2 h01⟩
    have ex : gI (useF l r (n - min2 n (gP l x.toNat).2.2.2.2.1) (u.set x.toNat (min2 n (gP l x.toNat).2.2.2.2.1))) x.toNat = min2 n (gP l x.toNat).2.2.2.2.1 := by
      rw [useF_other l hgr hu1 (by rw [Int.toNat_of_nonneg hx.1]; exact hxr), gI_set (by omega), if_pos rfl]
    rw [ex]
    by_cases hz : n - min2 n (gP l x.toNat).2.2.2.2.1 = 0
    · rw [hz, useF_zero hl hu1 hgr h01, h01 i hi] at hpos
      exact absurd hpos (by omega)
    · unfold min2 at hz ⊢
      split
      · rfl
      · rename_i hc
        rw [if_neg hc] at hz
        omega
/-- Nothing that is left of the kind is older than what was taken. -/
theorem old_parts {l : List Pa} {k n : Int} (h : cargoR l = 0) (hn : 0 ≤ n) : ∀ a ∈ tkZ (l.zip (takeU l k n)), ∀ b ∈ lfZ (l.zip (takeU l k n)), b.1 = k → b.2.2.2.1 ≤ a.2.2.2.1 := by
  obtain ⟨h1, h2, h3⟩ := (cargo_zero l).1 h
  have hul := takeU_len l k n
  intro a ha b hb hbk
  obtain ⟨qa, q1, q2, rfl⟩ := tkZ_mem ha
  obtain ⟨qb, q3, q4, rfl⟩ := lfZ_mem hb
  obtain ⟨i, _, hi, rfl⟩ := zip_mem2 (i := 0) hul (by simpa using q1)
  obtain ⟨j, _, hj, rfl⟩ := zip_mem2 (i := 0) hul (by simpa using q3)
  show (gP l j).2.2.2.1 ≤ (gP l i).2.2.2.1
  have q2 : 0 < gI (takeU l k n) i := q2
  have q4 : 0 < (gP l j).2.2.2.2.1 - gI (takeU l k n) j := q4
  have hik : (gP l i).1 = k := by
    by_cases e : (gP l i).1 = k
    · exact e
    · have := takeU_kind (n := n) hi e; omega
  have hjk : (gP l j).1 = k := hbk
  have mi : (i : Int) ∈ SB l (ordR l k l.length) := (SB_perm l _).mem_iff.2 (ordR_mem.2 ⟨i, rfl, hi, hik⟩)
  have mj : (j : Int) ∈ SB l (ordR l k l.length) := (SB_perm l _).mem_iff.2 (ordR_mem.2 ⟨j, rfl, hj, hjk⟩)
  have hnd : (SB l (ordR l k l.length)).Nodup := (SB_perm l _).nodup_iff.2 (asc_nodup (ordR_asc _ _ _))
  have hpw := SB_pw (y := l) (asc_nodup (ordR_asc l k l.length))
  have hpre := useF_pre h3 (o := SB l (ordR l k l.length)) (n := n) (u := List.replicate l.length 0) (by simp) hn (ord_gd l k) hnd (fun x hx => rep_gI (by have := ord_gd l k x hx; omega))
  obtain ⟨s, hs, es⟩ := List.getElem_of_mem mi
  obtain ⟨t, ht, et⟩ := List.getElem_of_mem mj
  rcases Nat.lt_trichotomy s t with g | g | g
  · have := List.pairwise_iff_getElem.1 hpw s t hs ht g
    rw [es, et, bef_iff] at this
    unfold ky at this
    rw [Int.toNat_natCast, Int.toNat_natCast] at this
    omega
  · subst g
    rw [es] at et
    obtain rfl : i = j := by omega
    exact Int.le_refl _
  · have := List.pairwise_iff_getElem.1 hpre t s ht hs g
    rw [es, et, Int.toNat_natCast, Int.toNat_natCast] at this
    have := this q2
    unfold takeU at q4
    omega
def leastF : List Pa → Int → Int
  | [], a => a
  | p :: l, a => leastF l (min2 a p.2.2.2.1)
theorem leastF_app : ∀ (a b : List Pa) (x : Int), leastF (a ++ b) x = leastF b (leastF a x)
  | [], b, x => rfl
  | p :: a, b, x => leastF_app a b _
theorem leastF_in : ∀ (l : List Pa) (x : Int), leastF l x = x ∨ ∃ p ∈ l, leastF l x = p.2.2.2.1
  | [], x => Or.inl rfl
  | p :: l, x => by
    rcases leastF_in l (min2 x p.2.2.2.1) with h | ⟨q, h1, h2⟩
    · unfold min2 at h
      split at h
      · right
        refine ⟨p, List.mem_cons_self, ?_⟩
        show leastF l (min2 x p.2.2.2.1) = _
        rename_i hc
        unfold min2
        rw [if_pos hc]; exact h
      · left
        rename_i hc
        show leastF l (min2 x p.2.2.2.1) = _
        unfold min2
        rw [if_neg hc]; exact h
    · exact Or.inr ⟨q, List.mem_cons_of_mem _ h1, h2⟩
theorem old_not {l : List Pa} {k n : Int} (h : cargoR l = 0) (hn : 0 ≤ n) {b : Pa} (hb : b ∈ lfZ (l.zip (takeU l k n))) (hk : b.1 = k) (hne : tkZ (l.zip (takeU l k n)) ≠ []) : b.2.2.2.1 ≤ leastF (tkZ (l.zip (takeU l k n))) 255 := by
  have T := take_all' (k := k) h hn
  have hob := ((cargo_zero _).1 T.fv).2.2 b hb
  rw [okP_iff] at hob
  rcases leastF_in (tkZ (l.zip (takeU l k n))) 255 with e | ⟨p, h1, e⟩
  · rw [e]; omega
  · rw [e]; exact old_parts h hn p h1 b hb hk
end
end Go.Proofs.Yteidanhfkaljaaa.Eng.Cg
set_option linter.unusedVariables false
set_option linter.unusedSimpArgs false
namespace Go.Proofs.Yteidanhfkaljaaa.Eng.Cg
open Go Go.Proofs.Yteidanhfkaljaaa.Eng
set_option maxRecDepth 100000
noncomputable section
open Go.RowKit
theorem takR_good {l : List Pa} {k n : Int} (h : cargoR l = 0) (hn : 0 ≤ n) : (takR l k n).2.2 = 0 ∧ TakeOk l k n (takR l k n).1 (takR l k n).2.1 := by
  have e : takR l k n = (tkZ (l.zip (takeU l k n)), lfZ (l.zip (takeU l k n)), 0) := by rw [takR, if_neg (by simp [h]), if_neg (by omega)]
  rw [e]
  exact ⟨rfl, take_all' h hn⟩
theorem nS_take {k : Int} {l : List Pa} {i : Nat} (hi : i < l.length) : nS k (l.take (i + 1)) = nS k (l.take i) + (if (gP l i).1 = k then 0 else (gP l i).2.2.2.2.1) := by
  have h1 := cnt_parts k (l.take (i + 1))
  have h2 := cnt_parts k (l.take i)
  have h3 := kS_take (k := k) hi
  have h4 := cntP_take hi
  split at h3
  · rename_i h; rw [if_pos h]; omega
  · rename_i h; rw [if_neg h]; omega
theorem nS_bt {k : Int} {l : List Pa} {i : Nat} (hl : ∀ p ∈ l, okP p) : 0 ≤ nS k (l.take i) ∧ nS k (l.take i) ≤ l.length * 1000000 := by
  have := nS_pos (k := k) (l := l.take i) fun p hp => hl p (List.mem_of_mem_take hp)
  rw [List.length_take] at this
  omega
theorem leastF_take {l : List Pa} {i : Nat} (hi : i < l.length) (x : Int) : leastF (l.take (i + 1)) x = min2 (leastF (l.take i) x) (gP l i).2.2.2.1 := by
  rw [List.take_succ_eq_append_getElem hi, leastF_app, gP_eq hi]; rfl
end
end Go.Proofs.Yteidanhfkaljaaa.Eng.Cg
set_option linter.unusedVariables false
set_option linter.unusedSimpArgs false
namespace Go.Proofs.Yteidanhfkaljaaa.Eng.Cg
open Go Go.RowKit Go.Proofs.Yteidanhfkaljaaa.Eng
set_option maxRecDepth 100000
noncomputable section
theorem oth_app (k : Int) (a b : List Pa) : oth k (a ++ b) = oth k a ++ oth k b := List.filter_append _ _
theorem tk_oth_len {k : Int} : ∀ {z : List (Pa × Int)}, (∀ q ∈ z, okP q.1 ∧ 0 ≤ q.2 ∧ q.2 ≤ q.1.2.2.2.2.1 ∧ (q.1.1 ≠ k → q.2 = 0)) → (tkZ z).length + (oth k (lfZ z)).length ≤ z.length
  | [], _ => Nat.le_refl _
  | q :: z, h => by
    have ih := tk_oth_len (z := z) fun q hq => h q (List.mem_cons_of_mem _ hq)
    obtain ⟨a, b, c, d⟩ := h q List.mem_cons_self
    rw [tkZ_cons, lfZ_cons, oth_app, List.length_append, List.length_append, List.length_cons]
    have e3 : ∀ p x, (restF p x).1 = p.1 := fun _ _ => rfl
    by_cases hk : q.1.1 = k
    · have f1 : oth k (if 0 < q.1.2.2.2.2.1 - q.2 then [restF q.1 q.2] else []) = [] := by unfold oth; split <;> simp [e3, hk]
      have f2 : (if 0 < q.2 then [partF q.1 q.2] else []).length ≤ 1 := by split <;> simp
      rw [f1, List.length_nil]; omega
    · have h0 := d hk
      have f1 : (oth k (if 0 < q.1.2.2.2.2.1 - q.2 then [restF q.1 q.2] else [])).length ≤ 1 := by
        refine Nat.le_trans (oth_len _ _) ?_
        split <;> simp
      have f2 : (if 0 < q.2 then [partF q.1 q.2] else []).length = 0 := by rw [h0]; rfl
      omega
theorem trim_valid {l : List Pa} {k n : Int} (h : cargoR l = 0) (hn : 0 ≤ n) : (trimR l k n).2.2 = 0 ∧ cargoR (trimR l k n).1 = 0 := by
  have T := take_all' (k := k) h hn
  obtain ⟨l1, l2, l3⟩ := (cargo_zero l).1 h
  have hz := takeZ (k := k) (n := n) l3 hn
  have e0 : takR l k n = (tkZ (l.zip (takeU l k n)), lfZ (l.zip (takeU l k n)), 0) := by rw [takR, if_neg (by simp [h]), if_neg (by omega)]
  have e : trimR l k n = (sortP (tkZ (l.zip (takeU l k n)) ++ oth k (lfZ (l.zip (takeU l k n)))), kS k (lfZ (l.zip (takeU l k n))), 0) := by rw [trimR, e0, if_neg (by simp)]; rfl
  rw [e]
  refine ⟨rfl, ?_⟩
  obtain ⟨t1, s1, t3⟩ := (cargo_zero _).1 T.tv
  obtain ⟨f1, s2, f3⟩ := (cargo_zero _).1 T.fv
  have hd : Dist (tkZ (l.zip (takeU l k n)) ++ oth k (lfZ (l.zip (takeU l k n)))) := by
    refine dist_app (srt_dist s1) (List.Pairwise.sublist List.filter_sublist (srt_dist s2)) fun x hx y hy hxy => ?_
    have hk := T.tk x hx
    have := (List.mem_filter.1 hy).2
    have hne : y.1 ≠ k := by simpa using this
    exact hne (by rw [← hxy.1]; exact hk)
  have hlen := tk_oth_len (k := k) hz.ok
  rw [List.length_zip, takeU_len] at hlen
  refine (cargo_zero _).2 ⟨by show (sortP _).length ≤ 200; rw [sortP_len, List.length_append]; omega, sortP_srt hd, fun p hp => ?_⟩
  rcases List.mem_append.1 ((sortP_perm _).mem_iff.1 hp) with hp | hp
  · exact t3 p hp
  · exact f3 p (List.mem_filter.1 hp).1
end
end Go.Proofs.Yteidanhfkaljaaa.Eng.Cg
