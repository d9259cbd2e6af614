/- What the functions that the law reaches answer, each for every input. -/
import Derived.Test.YtaafjaibaaiigaaGreatDoorFnTwo
import Derived.Test.YtaafjaibaaiigaaGreatDoorEngThree
import Derived.Test.YtaafjaibaaiigaaGreatDoorEngFour
set_option linter.unusedVariables false
set_option linter.unusedSimpArgs false
set_option linter.unusedVariables false
set_option linter.unusedSimpArgs false
namespace Go.Proofs.YtaafjaibaaiigaaGreatDoor.Eng
open Go
set_option maxRecDepth 100000
/- What an expression is worth: plain. -/
noncomputable section
def valsOk (l : List Int) : Prop := ∀ i, isV (gI l i)
theorem valsOk_nil : valsOk [] := fun i => by rw [gI_out (Nat.zero_le _)]; exact isV0
theorem valsOk_app {a b : List Int} (ha : valsOk a) (hb : valsOk b) : valsOk (a ++ b) := fun i => by
  rw [gI_app]; split
  · exact ha _
  · exact hb _
theorem gI_drop {l : List Int} {k i : Nat} : gI (l.drop k) i = gI l (k + i) := by
  unfold gI; rw [List.getD_eq_getElem?_getD, List.getD_eq_getElem?_getD, List.getElem?_drop]
theorem gI_take {l : List Int} {k i : Nat} (h : i < k) : gI (l.take k) i = gI l i := by
  unfold gI; rw [List.getD_eq_getElem?_getD, List.getD_eq_getElem?_getD, List.getElem?_take, if_pos h]
theorem valsOk_drop {l : List Int} (h : valsOk l) (k : Nat) : valsOk (l.drop k) := fun i => by rw [gI_drop]; exact h _
theorem valsOk_take {l : List Int} (h : valsOk l) (k : Nat) : valsOk (l.take k) := fun i => by
  by_cases hi : i < k
  · rw [gI_take hi]; exact h _
  · rw [gI_out (by rw [List.length_take]; omega)]; exact isV0
theorem valsOk_one {v : Int} (h : isV v) : valsOk [v] := fun i => by
  cases i with
  | zero => exact h
  | succ i => rw [gI_out (by simp)]; exact isV0
theorem valsOk_all {l : List Int} (h : allV l = true) : valsOk l := fun i => by
  by_cases hi : i < l.length
  · exact in_iff.1 (allIn_at h hi)
  · rw [gI_out (by omega)]; exact isV0
/-- What one step makes of what it takes. -/
def stepN (args : List Int) (cal : Nat → List Int → Int) (o : Op2) (t : List Int) : Int :=
  if o.1 = 0 then o.2 else if o.1 = 1 then gI args o.2.toNat else if o.1 = 9 then (if gI t 0 = 0 then gI t 2 else gI t 1) else if o.1 = 10 then cal o.2.toNat t else twoK o.1 (gI t 0) (gI t 1)
/-- What stands on the stack behind one step. -/
def stepV (r : List Ru) (args : List Int) (cal : Nat → List Int → Int) (o : Op2) (st : List Int) : List Int :=
  st.take (st.length - (popR r o).toNat) ++ [stepN args cal o (st.drop (st.length - (popR r o).toNat))]
def stJ (r : List Ru) (args : List Int) (cal : Nat → List Int → Int) (b : List Op2) : Nat → List Int
  | 0 => []
  | n + 1 => stepV r args cal (gO b n) (stJ r args cal b n)
def valF (r : List Ru) : Nat → List Op2 → List Int → Int
  | 0, b, args => gI (stJ r args (fun _ _ => 0) b b.length) 0
  | f + 1, b, args => gI (stJ r args (fun k t => valF r f (gR r k).2.2 t) b b.length) 0
/-- The value of a body. -/
def valR (r : List Ru) (b : List Op2) (args : List Int) : Int := valF r r.length b args
def calR (r : List Ru) (k : Nat) (t : List Int) : Int := valR r (gR r k).2.2 t
/-- All rules are expressions. -/
def goodR (r : List Ru) : Prop := argsOk r ∧ ∀ k, k < r.length → soundB r k (gR r k).2.1 (gR r k).2.2 = true

theorem kn_call {o : Op2} {bf ar : Int} (h : knB o bf ar = true) (e : o.1 = 10) : 0 ≤ o.2 ∧ o.2 < bf := by
  rw [kn_10 e] at h; simp only [Bool.and_eq_true, decide_eq_true_eq] at h; exact h
theorem kn_arg {o : Op2} {bf ar : Int} (h : knB o bf ar = true) (e : o.1 = 1) : 0 ≤ o.2 ∧ o.2 < ar := by
  rw [kn_1 e] at h; simp only [Bool.and_eq_true, decide_eq_true_eq] at h; exact h
theorem kn_num {o : Op2} {bf ar : Int} (h : knB o bf ar = true) (e : o.1 = 0) : isV o.2 := by
  rw [kn_0 e] at h; exact in_iff.1 h
theorem kn_kind {o : Op2} {bf ar : Int} (h : knB o bf ar = true) : 0 ≤ o.1 ∧ o.1 ≤ 12 := by
  by_cases q : o.1 < 0 ∨ 12 < o.1
  · rw [kn_lo q] at h; cases h
  · omega
theorem kn_mono {o : Op2} {a b ar : Int} (h : knB o a ar = true) (hab : a ≤ b) : knB o b ar = true := by
  by_cases e : o.1 = 10
  · have := kn_call h e
    rw [kn_10 e, decide_eq_true (by omega), decide_eq_true (by omega)]; rfl
  · unfold knB at h ⊢
    rw [if_neg e] at h ⊢
    exact h
/-- One step back. -/
theorem hJ_back {r : List Ru} {bf ar : Int} {b : List Op2} {n : Nat} {h : Int} (e : hJ r bf ar b (n + 1) = some h) :
    ∃ g, hJ r bf ar b n = some g ∧ knB (gO b n) bf ar = true ∧ popR r (gO b n) ≤ g ∧ h = g + 1 - popR r (gO b n) := by
  unfold hJ at e
  cases hh : hJ r bf ar b n with
  | none => rw [hh] at e; cases e
  | some g =>
    rw [hh] at e
    have e : (if knB (gO b n) bf ar = true ∧ popR r (gO b n) ≤ g then some (g + 1 - popR r (gO b n)) else none) = some h := e
    split at e
    · rename_i q
      cases e
      exact ⟨g, rfl, q.1, q.2, rfl⟩
    · cases e
theorem hJ_some {r : List Ru} {bf ar : Int} {b : List Op2} {m : Nat} {x : Int} (e : hJ r bf ar b m = some x) {n : Nat} (h : n ≤ m) : ∃ g, hJ r bf ar b n = some g := by
  cases hh : hJ r bf ar b n with
  | none => rw [hJ_none h hh] at e; cases e
  | some g => exact ⟨g, rfl⟩
theorem hJ_mono {r : List Ru} {a c ar : Int} {b : List Op2} (hac : a ≤ c) : ∀ {n : Nat} {h : Int}, hJ r a ar b n = some h → hJ r c ar b n = some h
  | 0, h, e => e
  | n + 1, h, e => by
    obtain ⟨g, h1, h2, h3, h4⟩ := hJ_back e
    rw [hJ_ok (hJ_mono hac h1) (kn_mono h2 hac) h3, h4]
theorem sound_hJ {r : List Ru} {bf ar : Int} {b : List Op2} (h : soundB r bf ar b = true) : hJ r bf ar b b.length = some 1 ∧ (b.length : Int) ≤ 60 := by
  unfold soundB at h; simp only [Bool.and_eq_true, decide_eq_true_eq] at h; exact h
theorem sound_mono {r : List Ru} {a c ar : Int} {b : List Op2} (hac : a ≤ c) (h : soundB r a ar b = true) : soundB r c ar b = true := by
  obtain ⟨h1, h2⟩ := sound_hJ h
  unfold soundB
  rw [hJ_mono hac h1, decide_eq_true (p := (some (1 : Int)) = some 1) rfl, decide_eq_true h2]; rfl
/-- Each step of an expression. -/
theorem sound_at {r : List Ru} {bf ar : Int} {b : List Op2} (h : soundB r bf ar b = true) {n : Nat} (hn : n < b.length) :
    ∃ g, hJ r bf ar b n = some g ∧ knB (gO b n) bf ar = true ∧ popR r (gO b n) ≤ g ∧ hJ r bf ar b (n + 1) = some (g + 1 - popR r (gO b n)) := by
  obtain ⟨h1, _⟩ := sound_hJ h
  obtain ⟨g', hg'⟩ := hJ_some h1 (n := n + 1) hn
  obtain ⟨g, k1, k2, k3, k4⟩ := hJ_back hg'
  exact ⟨g, k1, k2, k3, by rw [hg', k4]⟩
theorem st_len {r : List Ru} (ha : argsOk r) {bf ar : Int} {b : List Op2} (hb : bf ≤ (r.length : Int)) {args : List Int} {cal : Nat → List Int → Int} : ∀ {n : Nat} {h : Int}, hJ r bf ar b n = some h → ((stJ r args cal b n).length : Int) = h
  | 0, h, e => by cases e; rfl
  | n + 1, h, e => by
    obtain ⟨g, h1, h2, h3, h4⟩ := hJ_back e
    have ih := st_len ha hb (args := args) (cal := cal) h1
    have hp := pop_in ha (kn_pop h2 hb)
    show ((stepV r args cal (gO b n) (stJ r args cal b n)).length : Int) = h
    unfold stepV
    rw [List.length_append, List.length_take, List.length_singleton]
    omega
theorem hJ_le {r : List Ru} {bf ar : Int} {b : List Op2} : ∀ {n : Nat} {h : Int}, argsOk r → bf ≤ (r.length : Int) → hJ r bf ar b n = some h → 0 ≤ h ∧ h ≤ (n : Int)
  | 0, h, _, _, e => by cases e; exact ⟨by omega, by omega⟩
  | n + 1, h, ha, hb, e => by
    obtain ⟨g, h1, h2, h3, h4⟩ := hJ_back e
    have ih := hJ_le ha hb h1
    have hp := pop_in ha (kn_pop h2 hb)
    omega
theorem stepN_cong {args : List Int} {cal cal' : Nat → List Int → Int} {o : Op2} {t : List Int} (h : o.1 = 10 → cal o.2.toNat t = cal' o.2.toNat t) : stepN args cal o t = stepN args cal' o t := by
  unfold stepN
  by_cases e : o.1 = 10
  · rw [h e]
  · rw [if_neg e, if_neg e]
theorem st_cong {r : List Ru} {bf ar : Int} {b : List Op2} (hs : soundB r bf ar b = true) {args : List Int} {cal cal' : Nat → List Int → Int} (hc : ∀ k : Nat, (k : Int) < bf → ∀ t, cal k t = cal' k t) :
    ∀ {n : Nat}, n ≤ b.length → stJ r args cal b n = stJ r args cal' b n
  | 0, _ => rfl
  | n + 1, hn => by
    obtain ⟨g, h1, h2, _, _⟩ := sound_at hs (n := n) hn
    show stepV r args cal (gO b n) (stJ r args cal b n) = stepV r args cal' (gO b n) (stJ r args cal' b n)
    rw [st_cong hs hc (n := n) (by omega)]
    unfold stepV
    rw [stepN_cong fun e => hc _ (by have := kn_call h2 e; omega) _]
theorem valF_fuel {r : List Ru} (hg : goodR r) : ∀ (f f' : Nat) {bf : Nat} {ar : Int} {b : List Op2} {args : List Int}, soundB r bf ar b = true → bf ≤ r.length → bf ≤ f → bf ≤ f' → valF r f b args = valF r f' b args
  | 0, 0, bf, ar, b, args, hs, _, h1, h2 => rfl
  | 0, f' + 1, bf, ar, b, args, hs, _, h1, h2 => by
    unfold valF; rw [st_cong hs (fun k hk => by omega) (Nat.le_refl _)]
  | f + 1, 0, bf, ar, b, args, hs, _, h1, h2 => by
    unfold valF; rw [st_cong hs (fun k hk => by omega) (Nat.le_refl _)]
  | f + 1, f' + 1, bf, ar, b, args, hs, hb, h1, h2 => by
    unfold valF
    rw [st_cong hs (fun k hk t => valF_fuel hg f f' (bf := k) (hg.2 k (by omega)) (by omega) (by omega) (by omega)) (Nat.le_refl _)]
/-- The value of an expression, by its steps. -/
theorem valR_eq {r : List Ru} (hg : goodR r) {bf : Nat} {ar : Int} {b : List Op2} {args : List Int} (hs : soundB r bf ar b = true) (hb : bf ≤ r.length) : valR r b args = gI (stJ r args (calR r) b b.length) 0 := by
  have h : valR r b args = valF r (r.length + 1) b args := valF_fuel hg _ _ hs hb hb (by omega)
  rw [h]
  rfl
theorem stepN_bd {args : List Int} (ha : valsOk args) {cal : Nat → List Int → Int} {o : Op2} {t : List Int} (ht : valsOk t) {bf ar : Int} (hk : knB o bf ar = true) (hc : o.1 = 10 → isV (cal o.2.toNat t)) : isV (stepN args cal o t) := by
  unfold stepN
  split
  · exact kn_num hk ‹_›
  split
  · exact ha _
  split
  · split
    · exact ht _
    · exact ht _
  split
  · exact hc ‹_›
  · exact twoK_bd (ht _) (ht _)
theorem st_bd {r : List Ru} {bf ar : Int} {b : List Op2} (hs : soundB r bf ar b = true) {args : List Int} (ha : valsOk args) {cal : Nat → List Int → Int} (hc : ∀ k : Nat, (k : Int) < bf → ∀ t, valsOk t → isV (cal k t)) : ∀ {n : Nat}, n ≤ b.length → valsOk (stJ r args cal b n)
  | 0, _ => valsOk_nil
  | n + 1, hn => by
    obtain ⟨g, h1, h2, _, _⟩ := sound_at hs (n := n) hn
    have ih := st_bd hs ha hc (n := n) (by omega)
    exact valsOk_app (valsOk_take ih _) (valsOk_one (stepN_bd ha (valsOk_drop ih _) h2 fun e => hc _ (by have := kn_call h2 e; omega) _ (valsOk_drop ih _)))
theorem valF_bd {r : List Ru} (hg : goodR r) : ∀ (f : Nat) {bf : Nat} {ar : Int} {b : List Op2} {args : List Int}, soundB r bf ar b = true → bf ≤ r.length → valsOk args → isV (valF r f b args)
  | 0, bf, ar, b, args, hs, hb, ha => st_bd hs ha (fun _ _ _ _ => isV0) (Nat.le_refl _) _
  | f + 1, bf, ar, b, args, hs, hb, ha => st_bd hs ha (fun k hk t ht => valF_bd hg f (hg.2 k (by omega)) (by omega) ht) (Nat.le_refl _) _
theorem valR_bd {r : List Ru} (hg : goodR r) {bf : Nat} {ar : Int} {b : List Op2} {args : List Int} (hs : soundB r bf ar b = true) (hb : bf ≤ r.length) (ha : valsOk args) : isV (valR r b args) := valF_bd hg _ hs hb ha
theorem calR_bd {r : List Ru} (hg : goodR r) {k : Nat} (hk : k < r.length) {t : List Int} (ht : valsOk t) : isV (calR r k t) := valR_bd hg (hg.2 k hk) (by omega) ht
/- Only the first rules. -/
theorem gR_take {r : List Ru} {j k : Nat} (h : k < j) : gR (r.take j) k = gR r k := by
  unfold gR; rw [List.getD_eq_getElem?_getD, List.getD_eq_getElem?_getD, List.getElem?_take, if_pos h]
theorem hJ_take2 {r : List Ru} {i j : Nat} {ar : Int} {b : List Op2} (hij : i ≤ j) (hj : j ≤ r.length) (n : Nat) : hJ (r.take j) i ar b n = hJ r i ar b n := by
  have h1 := hJ_take (r := r.take j) (i := i) (ar := ar) (b := b) (by rw [List.length_take]; omega) n
  have h2 := hJ_take (r := r) (i := i) (ar := ar) (b := b) (by omega) n
  rw [List.take_take, Nat.min_eq_left hij] at h1
  rw [← h1, h2]
theorem sound_take2 {r : List Ru} {i j : Nat} {ar : Int} {b : List Op2} (hij : i ≤ j) (hj : j ≤ r.length) : soundB (r.take j) i ar b = soundB r i ar b := by
  unfold soundB; rw [hJ_take2 hij hj]
theorem pop_take2 {r : List Ru} {o : Op2} {i j : Nat} {ar : Int} (h : knB o i ar = true) (hij : i ≤ j) (hj : j ≤ r.length) : popR (r.take j) o = popR r o :=
  pop_take (kn_mono h (by omega)) hj
theorem good_take {r : List Ru} (hg : goodR r) {j : Nat} (hj : j ≤ r.length) : goodR (r.take j) := by
  refine ⟨fun x hx => hg.1 x (List.mem_of_mem_take hx), fun k hk => ?_⟩
  rw [List.length_take] at hk
  rw [sound_take2 (by omega) hj, gR_take (by omega)]
  exact hg.2 k (by omega)
theorem st_take {r : List Ru} {j i : Nat} {ar : Int} {b : List Op2} (hs : soundB r i ar b = true) (hij : i ≤ j) (hj : j ≤ r.length) {args : List Int} {cal : Nat → List Int → Int} : ∀ {n : Nat}, n ≤ b.length → stJ (r.take j) args cal b n = stJ r args cal b n
  | 0, _ => rfl
  | n + 1, hn => by
    obtain ⟨g, h1, h2, _, _⟩ := sound_at hs (n := n) hn
    show stepV (r.take j) args cal (gO b n) (stJ (r.take j) args cal b n) = stepV r args cal (gO b n) (stJ r args cal b n)
    rw [st_take hs hij hj (n := n) (by omega)]
    unfold stepV
    rw [pop_take2 h2 hij hj]
theorem valF_take {r : List Ru} (hg : goodR r) {j : Nat} (hj : j ≤ r.length) : ∀ (f : Nat) {i : Nat} {ar : Int} {b : List Op2} {args : List Int}, soundB r i ar b = true → i ≤ j → valF (r.take j) f b args = valF r f b args
  | 0, i, ar, b, args, hs, hij => by unfold valF; rw [st_take hs hij hj (Nat.le_refl _)]
  | f + 1, i, ar, b, args, hs, hij => by
    unfold valF
    rw [st_take hs hij hj (Nat.le_refl _)]
    rw [st_cong hs (fun k hk t => ?_) (Nat.le_refl _)]
    rw [gR_take (by omega)]
    exact valF_take hg hj f (hg.2 k (by omega)) (by omega)
theorem valR_take {r : List Ru} (hg : goodR r) {j : Nat} (hj : j ≤ r.length) {i : Nat} {ar : Int} {b : List Op2} {args : List Int} (hs : soundB r i ar b = true) (hij : i ≤ j) : valR (r.take j) b args = valR r b args := by
  have h1 : valR (r.take j) b args = valF (r.take j) r.length b args :=
    valF_fuel (good_take hg hj) _ _ (bf := i) (by rw [sound_take2 hij hj]; exact hs) (by rw [List.length_take]; omega) (by rw [List.length_take]; omega) (by omega)
  rw [h1, valF_take hg hj _ hs hij]
  rfl
end
end Go.Proofs.YtaafjaibaaiigaaGreatDoor.Eng
set_option linter.unusedVariables false
set_option linter.unusedSimpArgs false
namespace Go.Proofs.YtaafjaibaaiigaaGreatDoor.Eng
open Go
set_option maxRecDepth 100000
/- What an expression costs, and how far a budget takes it: plain. -/
noncomputable section
def payOf (c : List Int) (b : List Op2) (n : Nat) : Int := (n : Int) + addJ c b n
theorem payOf_succ {c : List Int} {b : List Op2} {n : Nat} : payOf c b (n + 1) = payOf c b n + 1 + (if callOk c (gO b n) then gI c (gO b n).2.toNat else 0) := by
  unfold payOf; rw [addJ]; push_cast; omega
theorem payOf_step {c : List Int} {b : List Op2} (h : costOk c) (n : Nat) : payOf c b n + 1 ≤ payOf c b (n + 1) := by
  rw [payOf_succ]; split
  · have := (h (gO b n).2.toNat).1; omega
  · omega
theorem payOf_le {c : List Int} {b : List Op2} (h : costOk c) {n : Nat} : ∀ {m : Nat}, n ≤ m → payOf c b n ≤ payOf c b m
  | 0, hm => by rw [show n = 0 by omega]; exact Int.le_refl _
  | m + 1, hm => by
    by_cases e : n = m + 1
    · rw [e]; exact Int.le_refl _
    · have h1 := payOf_le (b := b) h (n := n) (m := m) (by omega)
      have h2 := payOf_step (b := b) h m
      omega
theorem payOf_0 {c : List Int} {b : List Op2} : payOf c b 0 = 0 := rfl
theorem gI_costsJ {r : List Ru} {k j : Nat} (hj : j < k) : ∀ {m : Nat}, k ≤ m → gI (costsJ r m) j = gI (costsJ r k) j
  | 0, h => by omega
  | m + 1, h => by
    by_cases e : k = m + 1
    · rw [e]
    · rw [costsJ, gI_app, if_pos (by rw [costsJ_len]; omega)]
      exact gI_costsJ hj (by omega)
theorem cost_at {r : List Ru} {k : Nat} (hk : k < r.length) : gI (costsR r) k = priceR (costsJ r k) (gR r k).2.2 := by
  unfold costsR
  rw [gI_costsJ (k := k + 1) (by omega) hk, costsJ, gI_app, if_neg (by rw [costsJ_len]; omega), costsJ_len, Nat.sub_self]
  rfl
theorem addJ_same {r : List Ru} {k : Nat} {ar : Int} {b : List Op2} (hk : k ≤ r.length) (hs : soundB r k ar b = true) : ∀ {n : Nat}, n ≤ b.length → addJ (costsJ r k) b n = addJ (costsR r) b n
  | 0, _ => rfl
  | n + 1, hn => by
    obtain ⟨g, h1, h2, _, _⟩ := sound_at hs (n := n) hn
    have ih := addJ_same hk hs (n := n) (by omega)
    by_cases e : (gO b n).1 = 10
    · obtain ⟨e1, e2⟩ := kn_call h2 e
      rw [addJ_yes ⟨e, e1, by rw [costsJ_len]; omega⟩, addJ_yes ⟨e, e1, by rw [costs_len]; omega⟩, ih]
      unfold costsR
      rw [gI_costsJ (k := k) (m := r.length) (by omega) hk]
    · rw [addJ_no (fun q => e q.1), addJ_no (fun q => e q.1), ih]
/-- What a rule costs is what its body pays. -/
theorem cost_pay {r : List Ru} (hg : goodR r) {k : Nat} (hk : k < r.length) (hc : gI (costsR r) k ≤ 100000) : gI (costsR r) k = payOf (costsR r) (gR r k).2.2 (gR r k).2.2.length := by
  rw [cost_at hk] at hc ⊢
  unfold priceR min2 at hc ⊢
  rw [addJ_same (by omega) (hg.2 k hk) (Nat.le_refl _)] at hc ⊢
  unfold payOf
  split at hc <;> split <;> omega
/-- The first step that the budget doesn't pay. -/
def stopAt (c : List Int) (b : List Op2) (B : Int) : Nat := fst (fun j => decide (B < payOf c b (j + 1))) b.length 0
theorem stop_le {c : List Int} {b : List Op2} {B : Int} : stopAt c b B ≤ b.length := by
  have := (fst_le (p := fun j => decide (B < payOf c b (j + 1))) (n := b.length) (a := 0)).2
  unfold stopAt; omega
theorem stop_at {c : List Int} {b : List Op2} {B : Int} (hc : costOk c) {i : Nat} (h1 : payOf c b i ≤ B) (h2 : i ≤ b.length) (h3 : i < b.length → B < payOf c b (i + 1)) : stopAt c b B = i :=
  fst_eq (Nat.zero_le _) (by omega) (fun j _ hj => decide_eq_false (by have := payOf_le (b := b) hc (n := j + 1) (m := i) (by omega); omega)) (fun h => decide_eq_true (h3 (by omega)))
theorem stop_pay {c : List Int} {b : List Op2} {B : Int} (hB : 0 ≤ B) : payOf c b (stopAt c b B) ≤ B := by
  cases h : stopAt c b B with
  | zero => rw [payOf_0]; exact hB
  | succ j =>
    have := fst_before (p := fun j => decide (B < payOf c b (j + 1))) (n := b.length) (a := 0) (j := j) (Nat.zero_le _) (by unfold stopAt at h; omega)
    exact Int.not_lt.1 (of_decide_eq_false this)
/-- The budget pays all just if it is at least the whole. -/
theorem stop_all {c : List Int} {b : List Op2} {B : Int} (hc : costOk c) (hB : 0 ≤ B) : stopAt c b B = b.length ↔ payOf c b b.length ≤ B := by
  constructor
  · intro h; rw [← h]; exact stop_pay hB
  · intro h; exact stop_at hc h (Nat.le_refl _) (fun q => absurd q (Nat.lt_irrefl _))
/-- Running: the value, whether the budget was enough, what is left of it. -/
def runV (r : List Ru) (c : List Int) (b : List Op2) (args : List Int) (B : Int) : Int := if stopAt c b B = b.length then valR r b args else 0
def runK (c : List Int) (b : List Op2) (B : Int) : Bool := decide (stopAt c b B = b.length)
def leftL (c : List Int) (b : List Op2) (B : Int) : Int := B - payOf c b (stopAt c b B)
end
end Go.Proofs.YtaafjaibaaiigaaGreatDoor.Eng
set_option linter.unusedVariables false
set_option linter.unusedSimpArgs false
namespace Go.Proofs.YtaafjaibaaiigaaGreatDoor.Eng
open Go
set_option maxRecDepth 100000
noncomputable section
def nmR (r : List Ru) : Prop := ∀ i, (gR r i).1.size ≤ 140737488351232
def okRu (x : Ru) : Bool := namedB x.1 && inB x.2.1 0 4
def okRs (r : List Ru) : Bool := allG (fun i => okRu (gR r i)) r.length
def sndRs (r : List Ru) : Bool := allG (fun i => soundB r i (gR r i).2.1 (gR r i).2.2) r.length
def unqRs (r : List Ru) : Bool := uniqG (fun i => (gR r i).1) r.length
def shtRs (r : List Ru) : Bool := allG (fun i => decide (((gR r i).2.2.length : Int) ≤ 60)) r.length
def chpRs (r : List Ru) : Bool := allG (fun i => decide (gI (costsR r) i ≤ 100000)) r.length
def lrgR (r : List Ru) : Bool := decide (30 < (r.length : Int)) || (!shtRs r || !chpRs r)
def wdsB (w : List ByteArray) : Bool := allG (fun i => !resB (w.getD i ⟨#[]⟩)) w.length
/-- The first error of rules. -/
def valW (r : List Ru) (w : List ByteArray) : Int := if okRs r = true then (if wdsB w = true then (if sndRs r = true then (if unqRs r = true then 0 else 3) else 15) else 1) else 1
def rulesW (r : List Ru) (w : List ByteArray) : Int := if lrgR r = true then 4 else valW r w
def rulesR (r : List Ru) : Int := rulesW r []
theorem okRs_args {r : List Ru} (h : okRs r = true) : argsOk r := by
  intro x hx
  obtain ⟨k, hk, rfl⟩ := List.getElem_of_mem hx
  have := allG_at (p := fun i => okRu (gR r i)) h hk
  have e : gR r k = r[k] := gR_eq hk
  simp only [e] at this
  unfold okRu at this
  rw [Bool.and_eq_true] at this
  exact in_iff.1 this.2
theorem bodyOk_at {r : List Ru} (h : bodyOk r) (i : Nat) : (gR r i).2.2.length ≤ 140737488351232 := by
  by_cases hi : i < r.length
  · exact h _ (gR_mem hi)
  · have : gR r i = zRu := by unfold gR; rw [List.getD_eq_getElem?_getD, List.getElem?_eq_none (by omega)]; rfl
    rw [this]; exact Nat.zero_le _
theorem valW_ok1 {r : List Ru} {w : List ByteArray} {i : Nat} (hi : i < r.length) (e : okRu (gR r i) = false) : valW r w = 1 := by
  unfold valW okRs; rw [if_neg (by rw [allG_bad hi e]; decide)]
theorem valW_wd {r : List Ru} {w : List ByteArray} (h : okRs r = true) {i : Nat} (hi : i < w.length) (e : resB (w.getD i ⟨#[]⟩) = true) : valW r w = 1 := by
  unfold valW wdsB; rw [if_pos h, if_neg (by rw [allG_bad (p := fun i => !resB (w.getD i ⟨#[]⟩)) hi (by show (!resB _) = false; rw [e]; rfl)]; decide)]
theorem valW_snd {r : List Ru} {w : List ByteArray} (h : okRs r = true) (hw : wdsB w = true) {i : Nat} (hi : i < r.length) (e : soundB r i (gR r i).2.1 (gR r i).2.2 = false) : valW r w = 15 := by
  unfold valW sndRs; rw [if_pos h, if_pos hw, if_neg (by rw [allG_bad (p := fun i : Nat => soundB r i (gR r i).2.1 (gR r i).2.2) hi e]; decide)]
theorem valW_dup {r : List Ru} {w : List ByteArray} (h : okRs r = true) (hw : wdsB w = true) (hs : sndRs r = true) {i k : Nat} (hi : i < r.length) (hk : k < i) (e : (gR r k).1 = (gR r i).1) : valW r w = 3 := by
  unfold valW; rw [if_pos h, if_pos hw, if_pos hs, if_neg]
  intro q
  have q1 : freshG (fun i => (gR r i).1) i i = true := allG_at (p := fun i => freshG (fun i => (gR r i).1) i i) q hi
  have q2 : (!decide ((gR r k).1 = (gR r i).1)) = true := allG_at (p := fun k => !decide ((gR r k).1 = (gR r i).1)) q1 hk
  rw [decide_eq_true e] at q2
  cases q2
theorem valW_fr {r : List Ru} {w : List ByteArray} (h : okRs r = true) (hw : wdsB w = true) (hs : sndRs r = true) {i : Nat} (hi : i < r.length) (e : freshG (fun i => (gR r i).1) i i = false) : valW r w = 3 := by
  unfold valW; rw [if_pos h, if_pos hw, if_pos hs, if_neg]
  intro q
  have q1 : freshG (fun i => (gR r i).1) i i = true := allG_at (p := fun i => freshG (fun i => (gR r i).1) i i) q hi
  rw [e] at q1; cases q1
theorem valW_0 {r : List Ru} {w : List ByteArray} (h : okRs r = true) (hw : wdsB w = true) (hs : sndRs r = true) (hu : unqRs r = true) : valW r w = 0 := by
  unfold valW; rw [if_pos h, if_pos hw, if_pos hs, if_pos hu]
theorem lrg_len {r : List Ru} (h : 30 < (r.length : Int)) : lrgR r = true := by unfold lrgR; rw [decide_eq_true h]; rfl
theorem lrg_body {r : List Ru} {i : Nat} (hi : i < r.length) (h : 60 < ((gR r i).2.2.length : Int)) : lrgR r = true := by
  unfold lrgR shtRs; rw [allG_bad (p := fun i => decide (((gR r i).2.2.length : Int) ≤ 60)) hi (decide_eq_false (by omega))]; simp
theorem lrg_cost {r : List Ru} {i : Nat} (hi : i < r.length) (h : 100000 < gI (costsR r) i) : lrgR r = true := by
  unfold lrgR chpRs; rw [allG_bad (p := fun i => decide (gI (costsR r) i ≤ 100000)) hi (decide_eq_false (by omega))]; simp
theorem lrg_not {r : List Ru} (h : ¬ 30 < (r.length : Int)) (h1 : shtRs r = true) (h2 : chpRs r = true) : lrgR r = false := by
  unfold lrgR; rw [decide_eq_false h, h1, h2]; rfl
theorem lrg_f {r : List Ru} (h : lrgR r = false) : ¬ 30 < (r.length : Int) ∧ shtRs r = true ∧ chpRs r = true := by
  unfold lrgR at h; simp only [Bool.or_eq_false_iff, decide_eq_false_iff_not, Bool.not_eq_false'] at h; exact h
theorem rules_0 {r : List Ru} {w : List ByteArray} (h : rulesW r w = 0) : lrgR r = false ∧ okRs r = true ∧ wdsB w = true ∧ sndRs r = true ∧ unqRs r = true := by
  unfold rulesW at h
  split at h
  · cases h
  · rename_i h1
    unfold valW at h
    split at h
    · rename_i h2
      split at h
      · rename_i h3
        split at h
        · rename_i h4
          split at h
          · rename_i h5
            exact ⟨by cases q : lrgR r with | false => rfl | true => exact absurd q h1, h2, h3, h4, h5⟩
          · cases h
        · cases h
      · cases h
    · cases h
def S20 (r : List Ru) (i : Int) : SL := ⟨[.undef, .ptr 0 0 0, .undef, .undef, .undef, .undef, .undef, .undef, .undef, .undef, .undef, .undef, .undef, .undef, .undef, .undef, .undef, .undef, .undef, .undef, .undef, .undef, .undef, .undef, .undef, .undef, .undef, .undef, .undef, .sl ruT r, .int .i64 r.length, .int .i64 i, .undef, .undef, .undef, .undef, .undef, .undef, .undef, .undef, .undef, .undef, .undef, .undef, .undef, .undef, .undef, .undef, .undef, .undef, .undef], [(0, .box [.sl ruT r, .sl cgT [], .sl plT [], .sl cgT [], .sl moT []])], 1⟩
def E20 : Env := ⟨tab, [(37, K37), (50, K50)], fun n => match n with | 4 => some ([1, 29, 30, 31], [], []) | _ => none⟩
def K20 : Fn1 := ⟨.one coT, .one .bool, fun (c : Co) => [c.2 = (([], [], [], []) : List Cg × List Pl × List Cg × List Mo), bodyOk c.1], fun (c : Co) => lrgR c.1⟩
theorem k20 : FnOk Go.Proofs.Tryz.prog 20 K20 := by
  refine fn_ok (E := E20) (TOk.of tab_told) (AllOk.cons k37 (.cons k50 .nil)).at_ mix Go.Proofs.Tryz.func20 rfl rfl (by kernel_rfl) K20 ?_
  rintro ⟨(r : List Ru), c⟩ hp
  have hz : c = (([], [], [], []) : List Cg × List Pl × List Cg × List Mo) := hp _ (List.mem_cons_self ..)
  have hb : bodyOk r := hp _ (List.mem_cons_of_mem _ (List.mem_cons_self ..))
  clear hp
  subst hz
  conv => whnf
  refine cond_intro (fun h0 => ?_) (fun h0 => ?_)
  · have h0 : 30 < (r.length : Int) := @of_decide_eq_true _ _ h0
    conv => whnf
    repeat (first | (refine cond_intro (fun h => absurd h (by decide)) (fun h => ?_); conv => whnf) | (refine cond_intro (fun h => ?_) (fun h => absurd h (by decide)); conv => whnf))
    conv => whnf
    show true = lrgR r
    exact (lrg_len h0).symm
  have h0 : ¬ (30 < (r.length : Int)) := @of_decide_eq_false _ _ h0
  have hmx : (r.length : Int) ≤ 30 := by omega
  conv => whnf
  repeat (first | (refine cond_intro (fun h => absurd h (by decide)) (fun h => ?_); conv => whnf) | (refine cond_intro (fun h => ?_) (fun h => absurd h (by decide)); conv => whnf))
  conv => whnf
  refine loop_rule (S20 r) (fun i => ((r.length : Int) - i).toNat) (fun i => 0 ≤ i ∧ i ≤ (r.length : Int) ∧ allG (fun i => decide (((gR r i).2.2.length : Int) ≤ 60)) i.toNat = true) ?_ 0 (by kernel_rfl) ?_ ⟨by omega, by omega, rfl⟩
  case refine_2 => rfl
  rintro i ⟨i0, i1, i2⟩
  conv => whnf
  refine cond_intro (fun hi => ?_) (fun hi => ?_)
  · have hi : i < (r.length : Int) := @of_decide_eq_true _ _ hi
    have wi : IntKind.i64.wrap (i + 1) = i + 1 := wrap_eq (by omega) (by omega)
    have ei : (i + 1).toNat = i.toNat + 1 := by omega
    conv => whnf
    refine ⟨i0, ?_⟩
    conv => whnf
    refine ⟨hi, ?_⟩
    conv => whnf
    refine cond_intro (fun h1 => ?_) (fun h1 => ?_)
    · have h1 : 60 < ((gR r i.toNat).2.2.length : Int) := @of_decide_eq_true _ _ h1
      conv => whnf
      show true = lrgR r
      exact (lrg_body (i := i.toNat) (by omega) h1).symm
    have h1 : ¬ (60 < ((gR r i.toNat).2.2.length : Int)) := @of_decide_eq_false _ _ h1
    conv => whnf
    refine ⟨i + 1, ?_, ⟨by omega, by omega, ?_⟩, by omega⟩
    · exact Eq.trans (b := S20 r (IntKind.i64.wrap (i + 1))) rfl (by rw [wi])
    · rw [ei]; exact allG_succ i2 (decide_eq_true (by show ((gR r i.toNat).2.2.length : Int) ≤ 60; omega))
  have hi : ¬ (i < (r.length : Int)) := @of_decide_eq_false _ _ hi
  rw [show i.toNat = r.length by omega] at i2
  conv => whnf
  refine cond_intro (fun h2 => ?_) (fun h2 => ?_)
  · have h2 : 0 < (r.length : Int) := @of_decide_eq_true _ _ h2
    conv => whnf
    refine ⟨show r.length ≤ 1000 by omega, ?_⟩
    conv => whnf
    refine ⟨hb, ?_⟩
    conv => whnf
    refine ⟨show 0 < (costsR r).length by rw [costs_len]; omega, ?_⟩
    conv => whnf
    refine ⟨show (costsR r).length ≤ 140737488351232 by rw [costs_len]; omega, ?_⟩
    conv => whnf
    show decide (100000 < maxJ (costsR r) (costsR r).length) = lrgR r
    have hpos : 0 < (costsR r).length := by rw [costs_len]; omega
    by_cases q : 100000 < maxJ (costsR r) (costsR r).length
    · obtain ⟨k, k1, k2⟩ := (maxJ_gt _ hpos).1 q
      rw [costs_len] at k1
      rw [decide_eq_true q, lrg_cost k1 k2]
    · rw [decide_eq_false q, lrg_not h0 i2 (allG_all fun k hk => decide_eq_true (Int.not_lt.1 fun e => q ((maxJ_gt _ hpos).2 ⟨k, by rw [costs_len]; exact hk, e⟩)))]
  have h2 : ¬ (0 < (r.length : Int)) := @of_decide_eq_false _ _ h2
  conv => whnf
  show false = lrgR r
  rw [lrg_not h0 i2 (allG_all fun k hk => by omega)]
def E53 : Env := ⟨tab, [], fun n => match n with | 3 => some ([1, 3, 13, 14, 15], [], []) | 8 => some ([1, 3, 26, 27, 28], [], []) | 13 => some ([1, 3, 39, 40, 41], [], []) | 18 => some ([3, 52, 53, 54], [], []) | _ => none⟩
def K53 : Fn1 := ⟨.one coT, .one (.sl .str), fun (c : Co) => [c.2 = (([], [], [], []) : List Cg × List Pl × List Cg × List Mo)], fun _ => ([] : List ByteArray)⟩
theorem k53 : FnOk Go.Proofs.Tryz.prog 53 K53 := by
  refine fn_ok (E := E53) (TOk.of tab_told) (fun f k h => by cases h) mix Go.Proofs.Tryz.func53 rfl rfl (by kernel_rfl) K53 ?_
  rintro ⟨(r : List Ru), c⟩ hp
  have hz : c = (([], [], [], []) : List Cg × List Pl × List Cg × List Mo) := hp _ (List.mem_cons_self ..)
  clear hp
  subst hz
  conv => whnf
  repeat (first | (refine ⟨⟨14, ?_⟩⟩; conv => whnf) | (refine cond_intro (fun h => absurd h (by decide)) (fun h => ?_); conv => whnf) | (refine ⟨by decide, ?_⟩; conv => whnf))
  rfl
def E93 : Env := ⟨tab, [], fun n => match n with | 2 => some ([0, 1, 7, 8], [], []) | _ => none⟩
def K93 : Fn1 := ⟨.one (.sl .str), .one I, fun (l : List ByteArray) => [l = []], fun _ => (-1 : Int)⟩
theorem k93 : FnOkF Go.Proofs.Tryz.prog 93 54 K93 := by
  refine fn_okF (E := E93) (TOk.of tab_told) (fun f k h => by cases h) mix Go.Proofs.Tryz.func93 rfl rfl (by kernel_rfl) 54 K93 ?_
  rintro (l : List ByteArray) hp
  have hl : l = [] := hp _ (List.mem_cons_self ..)
  clear hp
  subst hl
  conv => whnf
  repeat (first | (refine ⟨⟨14, ?_⟩⟩; conv => whnf) | (refine cond_intro (fun h => absurd h (by decide)) (fun h => ?_); conv => whnf) | (refine ⟨by decide, ?_⟩; conv => whnf))
  rfl
def E52 : Env := ⟨tab, [(93, .fixd 54 K93)], fun n => match n with  | _ => none⟩
def K52 : Fn1 := ⟨.one (.sl .str), .one .bool, fun (l : List ByteArray) => [l = []], fun _ => false⟩
theorem k52 : FnOkF Go.Proofs.Tryz.prog 52 54 K52 := by
  refine fn_okF (E := E52) (TOk.of tab_told) (AllOk.consF k93 .nil).at_ mix Go.Proofs.Tryz.func52 rfl rfl (by kernel_rfl) 54 K52 ?_
  rintro (l : List ByteArray) hp
  have hl : l = [] := hp _ (List.mem_cons_self ..)
  clear hp
  subst hl
  conv => whnf
  refine ⟨rfl, ?_⟩
  conv => whnf
  show false = false
  rfl
def orR (l : List Int) : Int := gI l (fst (fun j => !decide (gI l j = 0)) l.length 0)
theorem or_at {l : List Int} {i : Nat} (hi : i < l.length) (h : ∀ k, k < i → gI l k = 0) (e : ¬ gI l i = 0) : orR l = gI l i := by
  unfold orR; rw [fst_eq (i := i) (Nat.zero_le _) (by omega) (fun j _ hj => by simp [h j hj]) (fun _ => by simp [e])]
theorem or_0 {l : List Int} (h : ∀ k, k < l.length → gI l k = 0) : orR l = 0 := by
  unfold orR; rw [fst_eq (i := l.length) (Nat.zero_le _) (by omega) (fun j _ hj => by simp [h j hj]) (fun q => by omega), gI_out (Nat.le_refl _)]
def S21 (l : List Int) (i : Int) : SL := ⟨[.undef, .undef, .undef, .int .i64 0, .undef, .undef, .sl I l, .int .i64 l.length, .int .i64 i, .undef, .undef, .undef, .undef, .undef, .undef, .undef, .undef, .undef], [], 0⟩
def E21 : Env := ⟨tab, [], fun n => match n with | 3 => some ([3, 6, 7, 8], [], []) | _ => none⟩
def K21 : Fn1 := ⟨.one (.sl I), .one I, fun (l : List Int) => [l.length ≤ 140737488351232], fun (l : List Int) => orR l⟩
theorem k21 : FnOk Go.Proofs.Tryz.prog 21 K21 := by
  refine fn_ok (E := E21) (TOk.of tab_told) (fun f k h => by cases h) mix Go.Proofs.Tryz.func21 rfl rfl (by kernel_rfl) K21 ?_
  rintro (l : List Int) hp
  have hl : l.length ≤ 140737488351232 := hp _ (List.mem_cons_self ..)
  clear hp
  conv => whnf
  refine loop_rule (S21 l) (fun i => ((l.length : Int) - i).toNat) (fun i => 0 ≤ i ∧ i ≤ (l.length : Int) ∧ ∀ k, k < i.toNat → gI l k = 0) ?_ 0 (by kernel_rfl) ?_ ⟨by omega, by omega, fun k hk => by omega⟩
  case refine_2 => rfl
  rintro i ⟨i0, i1, i2⟩
  conv => whnf
  refine cond_intro (fun hi => ?_) (fun hi => ?_)
  · have hi : i < (l.length : Int) := @of_decide_eq_true _ _ hi
    have wi : IntKind.i64.wrap (i + 1) = i + 1 := wrap_eq (by omega) (by omega)
    have ei : (i + 1).toNat = i.toNat + 1 := by omega
    conv => whnf
    refine ⟨i0, ?_⟩
    conv => whnf
    refine ⟨hi, ?_⟩
    conv => whnf
    refine cond_intro (fun h1 => ?_) (fun h1 => ?_)
    · have h1 : (!decide (gI l i.toNat = 0)) = true := h1
      have h1 : ¬ (gI l i.toNat = 0) := fun e => absurd h1 (by rw [decide_eq_true e]; decide)
      conv => whnf
      show gI l i.toNat = orR l
      exact (or_at (by omega) i2 h1).symm
    have h1 : (!decide (gI l i.toNat = 0)) = false := h1
    have h1 : gI l i.toNat = 0 := Decidable.byContradiction fun e => absurd h1 (by rw [decide_eq_false e]; decide)
    conv => whnf
    refine ⟨i + 1, ?_, ⟨by omega, by omega, fun k hk => ?_⟩, by omega⟩
    · exact Eq.trans (b := S21 l (IntKind.i64.wrap (i + 1))) rfl (by rw [wi])
    · by_cases q : k = i.toNat
      · rw [q]; exact h1
      · exact i2 k (by omega)
  have hi : ¬ (i < (l.length : Int)) := @of_decide_eq_false _ _ hi
  rw [show i.toNat = l.length by omega] at i2
  conv => whnf
  show (0 : Int) = orR l
  exact (or_0 i2).symm
def E24 : Env := ⟨tab, [], fun n => match n with | 4 => some ([0, 11, 12, 13], [], []) | 11 => some ([5, 22, 23, 24], [], []) | _ => none⟩
def K24 : Fn1 := ⟨.one (.sl plT), .one I, fun (l : List Pl) => [l = []], fun _ => (0 : Int)⟩
theorem k24 : FnOk Go.Proofs.Tryz.prog 24 K24 := by
  refine fn_ok (E := E24) (TOk.of tab_told) (fun f k h => by cases h) mix Go.Proofs.Tryz.func24 rfl rfl (by kernel_rfl) K24 ?_
  rintro (l : List Pl) hp
  have hl : l = [] := hp _ (List.mem_cons_self ..)
  clear hp
  subst hl
  conv => whnf
  repeat (first | (refine ⟨⟨14, ?_⟩⟩; conv => whnf) | (refine cond_intro (fun h => absurd h (by decide)) (fun h => ?_); conv => whnf) | (refine ⟨by decide, ?_⟩; conv => whnf))
  rfl
def E27 : Env := ⟨tab, [], fun n => match n with | 3 => some ([1, 3, 14, 15, 16], [], []) | 19 => some ([3, 47, 48, 49], [], []) | _ => none⟩
def K27 : Fn1 := ⟨.one coT, .one I, fun (c : Co) => [c.2 = (([], [], [], []) : List Cg × List Pl × List Cg × List Mo)], fun _ => (0 : Int)⟩
theorem k27 : FnOk Go.Proofs.Tryz.prog 27 K27 := by
  refine fn_ok (E := E27) (TOk.of tab_told) (fun f k h => by cases h) mix Go.Proofs.Tryz.func27 rfl rfl (by kernel_rfl) K27 ?_
  rintro ⟨(r : List Ru), c⟩ hp
  have hz : c = (([], [], [], []) : List Cg × List Pl × List Cg × List Mo) := hp _ (List.mem_cons_self ..)
  clear hp
  subst hz
  conv => whnf
  repeat (first | (refine ⟨⟨14, ?_⟩⟩; conv => whnf) | (refine cond_intro (fun h => absurd h (by decide)) (fun h => ?_); conv => whnf) | (refine ⟨by decide, ?_⟩; conv => whnf))
  rfl
end
end Go.Proofs.YtaafjaibaaiigaaGreatDoor.Eng
set_option linter.unusedVariables false
set_option linter.unusedSimpArgs false
namespace Go.Proofs.YtaafjaibaaiigaaGreatDoor.Eng
open Go
set_option maxRecDepth 100000
noncomputable section
open Go.RowKit
def slA (t : Ty) : AV → Option (List t.D)
  | .sl u xs => (match u.eqv t with | some ⟨e⟩ => some (e ▸ xs) | none => none)
  | _ => none
theorem slA_some {t : Ty} {a : AV} {xs : List t.D} (h : slA t a = some xs) : a = .sl t xs := by
  unfold slA at h
  split at h
  · rename_i u ys
    split at h
    · rename_i e _
      have e := e
      subst e
      cases h
      rfl
    · cases h
  · cases h
def ptr0 : AV → Option Nat
  | .ptr h 0 0 => some h
  | _ => none
theorem ptr0_some {a : AV} {n : Nat} (h : ptr0 a = some n) : a = .ptr n 0 0 := by
  unfold ptr0 at h; split at h <;> cases h; rfl
def ruA : AV → Option Ru
  | .agg [.str s, .int .i64 n, b] => (match slA opT b with | some l => some (s, n, l) | none => none)
  | _ => none
def ruV (x : Ru) : AV := .agg [.str x.1, .int .i64 x.2.1, .sl opT x.2.2]
theorem ruA_some {a : AV} {x : Ru} (h : ruA a = some x) : a = ruV x := by
  unfold ruA at h
  split at h
  · split at h
    · rename_i e
      cases h
      rw [slA_some e]
      rfl
    · cases h
  · cases h
def eRu : AV → Option ruT.D
  | .eptr t y 0 => (match t.eqv ruT with | some ⟨e⟩ => some (e ▸ y) | none => none)
  | _ => none
theorem eRu_some {a : AV} {x : Ru} (h : eRu a = some x) : a = .eptr ruT x 0 := by
  unfold eRu at h
  split at h
  · split at h
    · rename_i e _
      have e := e
      subst e
      cases h
      rfl
    · cases h
  · cases h
def bxRu : Option Ob → Option Ru
  | some (.box [.str s, .int .i64 n, b]) => (match slA opT b with | some l => some (s, n, l) | none => none)
  | _ => none
theorem bxRu_some {o : Option Ob} {x : Ru} (h : bxRu o = some x) : o = some (.box [.str x.1, .int .i64 x.2.1, .sl opT x.2.2]) := by
  unfold bxRu at h
  split at h
  · split at h
    · rename_i e
      cases h
      rw [slA_some e]
    · cases h
  · cases h
def X56 (args : List AV) (base : Nat) : Rd Res :=
  match args with
  | [a, b] => (match ruA a, eRu b with | some x, some y => .ok ⟨[], .bool (decide (x.1 = y.1)), []⟩ | _, _ => .bad)
  | _ => .bad
theorem k56 : FxOk Go.Proofs.Tryz.prog 56 X56 := by
  refine fx_look (E := noE) (TOk.of tab_told) (fun f k h => by cases h) mix (f := 56) Go.Proofs.Tryz.func56 rfl rfl (by kernel_rfl) ?_
  intro args base H r hr hp
  unfold X56 at hr
  split at hr
  rotate_left
  · cases hr
  split at hr
  rotate_left
  · cases hr
  rename_i x y e1 e2
  cases hr
  cases ruA_some e1
  cases eRu_some e2
  clear hp e1 e2
  refine ⟨⟨⟨.bool, .one .bool, fun _ => [], fun _ => decide (x.1 = y.1)⟩, false, [ruV x, .eptr ruT y 0], .cons (.one (.same _ rfl)) (.cons (.one (.same _ rfl)) .nil), rfl, rfl, by show base ≤ base + 8; omega, rfl, rfl, rfl, ?_⟩⟩
  conv => whnf
  show (x.1.toList == ByteArray.toList y.1) = decide (x.1 = y.1)
  exact tl_iff
/-- Where a rule of this name stands, or -1. -/
def noneG (l : List Ru) (s : ByteArray) : Bool := allG (fun k => !decide ((gR l k).1 = s)) l.length
def ixNm (l : List Ru) (s : ByteArray) : Int := if noneG l s = true then -1 else (fst (fun k => decide ((gR l k).1 = s)) l.length 0 : Int)
theorem ixNm_iff (l : List Ru) (s : ByteArray) : decide (0 ≤ ixNm l s) = !noneG l s := by
  unfold ixNm
  cases h : noneG l s with
  | true => rw [if_pos rfl]; rfl
  | false => rw [if_neg (by decide), decide_eq_true (Int.natCast_nonneg _)]; rfl
theorem ixNm_at {l : List Ru} {s : ByteArray} {i : Nat} (hi : i < l.length) (h : allG (fun k => !decide ((gR l k).1 = s)) i = true) (e : (gR l i).1 = s) : ixNm l s = i := by
  unfold ixNm noneG
  rw [if_neg (by rw [allG_bad (p := fun k => !decide ((gR l k).1 = s)) hi (by simp [e])]; decide), fst_eq (i := i) (Nat.zero_le _) (by omega) (fun j _ hj => ?_) (fun _ => decide_eq_true e)]
  have := allG_at (p := fun k => !decide ((gR l k).1 = s)) h hj
  simpa using this
def X94r (args : List AV) (base : Nat) : Rd Res :=
  match args with
  | [a, .fn g [p]] => (match slA ruT a, eRu p, Nat.beq g 56 with
    | some l, some y, true => .ok ⟨[l.length ≤ 140737488351232], .int .i64 (ixNm l y.1), []⟩
    | _, _, _ => .bad)
  | _ => .bad
def E94r : Env := ⟨tab, [(56, .eff X56)], fun n => match n with | 2 => some ([0, 1, 7, 8], [], []) | _ => none⟩
def S94r (l : List Ru) (y : Ru) (i : Int) : SL := ⟨[.sl ruT l, .fn 56 [.eptr ruT y 0], .undef, .undef, .undef, .undef, .undef, .int .i64 l.length, .int .i64 i, .undef, .undef, .undef, .undef, .undef, .undef, .undef, .undef, .undef, .undef], [], 0⟩
theorem w94r {co : Code} (hco : Go.Proofs.Tryz.f94.body = some co) {l : List Ru} {y : Ru} (hl : l.length ≤ 140737488351232) : den E94r co ⟨lapp [.sl ruT l, .fn 56 [.eptr ruT y 0]] (repl [AV.undef] 17), [], 0⟩ (RetQ E94r Go.Proofs.Tryz.f94.results.toList (.one I) (ixNm l y.1)) := by
  cases hco
  conv => whnf
  refine loop_rule (S94r l y) (fun i => ((l.length : Int) - i).toNat) (fun i => 0 ≤ i ∧ i ≤ (l.length : Int) ∧ allG (fun k => !decide ((gR l k).1 = y.1)) i.toNat = true) ?_ 0 (by kernel_rfl) ?_ ⟨by omega, by omega, rfl⟩
  case refine_2 => rfl
  rintro i ⟨i0, i1, i2⟩
  conv => whnf
  refine cond_intro (fun hi => ?_) (fun hi => ?_)
  · have hi : i < (l.length : Int) := @of_decide_eq_true _ _ hi
    have wi : IntKind.i64.wrap (i + 1) = i + 1 := wrap_eq (by omega) (by omega)
    have ei : (i + 1).toNat = i.toNat + 1 := by omega
    conv => whnf
    refine ⟨i0, ?_⟩
    conv => whnf
    refine ⟨hi, ?_⟩
    conv => whnf
    refine cond_intro (fun c => ?_) (fun c => ?_)
    · have c : (decide ((gR l i.toNat).1 = y.1)) = true := c
      have c := of_decide_eq_true c
      conv => whnf
      show i = ixNm l y.1
      rw [ixNm_at (i := i.toNat) (by omega) i2 c]
      omega
    have c : (decide ((gR l i.toNat).1 = y.1)) = false := c
    conv => whnf
    refine ⟨i + 1, ?_, ⟨by omega, by omega, ?_⟩, by omega⟩
    · exact Eq.trans (b := S94r l y (IntKind.i64.wrap (i + 1))) rfl (by rw [wi])
    · rw [ei]; exact allG_succ i2 (by show (!decide ((gR l i.toNat).1 = y.1)) = true; rw [c]; rfl)
  have hi : ¬ (i < (l.length : Int)) := @of_decide_eq_false _ _ hi
  rw [show i.toNat = l.length by omega] at i2
  conv => whnf
  show (-1 : Int) = ixNm l y.1
  unfold ixNm noneG
  rw [if_pos i2]
theorem k94r : FxOk Go.Proofs.Tryz.prog 94 X94r := by
  refine fx_look (E := E94r) (TOk.of tab_told) (AllOk.consX k56 .nil).at_ mix (f := 94) Go.Proofs.Tryz.func94 rfl rfl (by kernel_rfl) ?_
  intro args base H r hr hp
  unfold X94r at hr
  split at hr
  rotate_left
  · cases hr
  split at hr
  rotate_left
  · cases hr
  rename_i a g p l y e1 e2 e3
  cases hr
  have hl : l.length ≤ 140737488351232 := hp _ List.mem_cons_self
  cases slA_some e1
  cases eRu_some e2
  cases Nat.eq_of_beq_eq_true e3
  clear hp e1 e2
  exact ⟨⟨⟨.bool, .one I, fun _ => [], fun _ => ixNm l y.1⟩, false, [.sl ruT l, .fn 56 [.eptr ruT y 0]], .cons (.one (.same _ rfl)) (.cons (.fn 56 (.cons (.same _ rfl) .nil)) .nil), rfl, rfl, by show base ≤ base + 8; omega, rfl, rfl, rfl, w94r rfl hl⟩⟩
def X55r (args : List AV) (base : Nat) : Rd Res :=
  match args with
  | [a, .fn g [p]] => (match slA ruT a, ptr0 p, Nat.beq g 56 with
    | some l, some h, true => .get h fun o => (match bxRu o with
      | some y => .ok ⟨[l.length ≤ 140737488351232], .bool (!noneG l y.1), []⟩
      | none => .bad)
    | _, _, _ => .bad)
  | _ => .bad
def E55r : Env := ⟨tab, [(94, .eff X94r)], fun _ => none⟩
theorem k55r : FxOk Go.Proofs.Tryz.prog 55 X55r := by
  refine fx_look (E := E55r) (TOk.of tab_told) (AllOk.consX k94r .nil).at_ mix (f := 55) Go.Proofs.Tryz.func55 rfl rfl (by kernel_rfl) ?_
  intro args base H r hr hp
  unfold X55r at hr
  split at hr
  rotate_left
  · cases hr
  split at hr
  rotate_left
  · cases hr
  rename_i a g p l h e1 e2 e3
  have hr : (match bxRu (H h) with
      | some y => .ok ⟨[l.length ≤ 140737488351232], .bool (!noneG l y.1), []⟩
      | none => .bad : Rd Res).run H = some r := hr
  split at hr
  rotate_left
  · cases hr
  rename_i y e4
  cases hr
  have hl : l.length ≤ 140737488351232 := hp _ List.mem_cons_self
  cases slA_some e1
  cases ptr0_some e2
  cases Nat.eq_of_beq_eq_true e3
  have e4 := bxRu_some e4
  clear hp e1 e2
  refine ⟨⟨⟨.bool, .one .bool, fun _ => [], fun _ => !noneG l y.1⟩, false, [.sl ruT l, .fn 56 [.eptr ruT y 0]], .cons (.one (.same _ rfl)) (.cons (.fn 56 (.cons (.box h ruT y _ e4 rfl) .nil)) .nil), rfl, rfl, by show base ≤ base + 8; omega, rfl, rfl, rfl, ?_⟩⟩
  conv => whnf
  refine ⟨hl, ?_⟩
  conv => whnf
  show decide (0 ≤ ixNm l y.1) = !noneG l y.1
  exact ixNm_iff l y.1
theorem fresh_take {r : List Ru} {i : Nat} (hi : i ≤ r.length) (s : ByteArray) : noneG (r.take i) s = allG (fun k => !decide ((gR r k).1 = s)) i := by
  have key : ∀ n, n ≤ i → allG (fun k => !decide ((gR (r.take i) k).1 = s)) n = allG (fun k => !decide ((gR r k).1 = s)) n := by
    intro n
    induction n with
    | zero => intro _; rfl
    | succ n ih => intro hn; unfold allG; rw [ih (by omega), gR_take (by omega)]
  unfold noneG; rw [List.length_take, Nat.min_eq_left hi]; exact key i (Nat.le_refl _)
def S22a (r : List Ru) (i : Int) : SL := ⟨[.undef, .ptr 0 0 0, .undef, .undef, .undef, .undef, .undef, .undef, .undef, .undef, .sl ruT r, .int .i64 r.length, .int .i64 i, .undef, .undef, .undef, .undef, .undef, .undef, .undef, .undef, .undef, .undef, .undef, .undef, .undef, .undef, .undef, .undef, .undef, .undef, .undef, .undef, .undef, .undef, .undef, .undef, .undef, .undef, .undef, .undef, .undef, .undef, .undef, .undef, .undef, .undef, .undef, .undef, .undef, .undef, .undef, .undef, .undef, .undef, .undef, .undef, .undef, .undef, .undef, .undef, .undef, .undef, .undef, .undef, .undef, .undef], [(0, .box [.sl ruT r, .sl cgT [], .sl plT [], .sl cgT [], .sl moT []])], 1⟩
def S22b (r : List Ru) (i : Int) : SL := ⟨[.undef, .ptr 0 0 0, .undef, .undef, .undef, .undef, .undef, .undef, .undef, .undef, .undef, .undef, .undef, .undef, .undef, .undef, .undef, .undef, .undef, .undef, .undef, .undef, .undef, .undef, .undef, .undef, .undef, .undef, .undef, .undef, .undef, .undef, .undef, .undef, .undef, .sl ruT r, .int .i64 r.length, .int .i64 i, .undef, .undef, .undef, .undef, .undef, .undef, .undef, .undef, .undef, .undef, .undef, .undef, .undef, .undef, .undef, .undef, .undef, .undef, .undef, .undef, .undef, .undef, .undef, .undef, .undef, .undef, .undef, .undef, .undef], [(0, .box [.sl ruT r, .sl cgT [], .sl plT [], .sl cgT [], .sl moT []])], 1⟩
def S22c (r : List Ru) (i : Int) : SL := ⟨[.undef, .ptr 0 0 0, .undef, .undef, .undef, .undef, .undef, .undef, .undef, .undef, .undef, .undef, .undef, .undef, .undef, .undef, .undef, .undef, .undef, .undef, .undef, .undef, .undef, .undef, .undef, .undef, .undef, .undef, .undef, .undef, .undef, .undef, .undef, .undef, .undef, .undef, .undef, .undef, .undef, .undef, .undef, .undef, .undef, .undef, .undef, .undef, .undef, .undef, .undef, .undef, .undef, .undef, .undef, .sl ruT r, .int .i64 r.length, .int .i64 i, .undef, .undef, .undef, .undef, .undef, .undef, .undef, .undef, .undef, .undef, .undef], [(0, .box [.sl ruT r, .sl cgT [], .sl plT [], .sl cgT [], .sl moT []])], 1⟩
def E22 : Env := ⟨tab, [(51, K51), (53, K53), (52, .fixd 54 K52), (43, K43), (55, .eff X55r)], fun n => match n with | 2 => some ([1, 10, 11, 12], [], []) | 10 => some ([1, 35, 36, 37], [], []) | 16 => some ([1, 53, 54, 55], [], []) | _ => none⟩
def K22 : Fn1 := ⟨.one coT, .one I, fun (c : Co) => [c.2 = (([], [], [], []) : List Cg × List Pl × List Cg × List Mo), nmR c.1, bodyOk c.1, c.1.length ≤ 1000], fun (c : Co) => valW c.1 []⟩
set_option maxHeartbeats 1000000 in
theorem k22 : FnOk Go.Proofs.Tryz.prog 22 K22 := by
  refine fn_ok (E := E22) (TOk.of tab_told) (AllOk.cons k51 (.cons k53 (.consF k52 (.cons k43 (.consX k55r .nil))))).at_ mix Go.Proofs.Tryz.func22 rfl rfl (by kernel_rfl) K22 ?_
  rintro ⟨(r : List Ru), c⟩ hp
  have hz : c = (([], [], [], []) : List Cg × List Pl × List Cg × List Mo) := hp _ (List.mem_cons_self ..)
  have hn : nmR r := hp _ (List.mem_cons_of_mem _ (List.mem_cons_self ..))
  have hb : bodyOk r := hp _ (List.mem_cons_of_mem _ (List.mem_cons_of_mem _ (List.mem_cons_self ..)))
  have hl : r.length ≤ 1000 := hp _ (List.mem_cons_of_mem _ (List.mem_cons_of_mem _ (List.mem_cons_of_mem _ (List.mem_cons_self ..))))
  clear hp
  subst hz
  conv => whnf
  refine loop_rule (S22a r) (fun i => ((r.length : Int) - i).toNat) (fun i => 0 ≤ i ∧ i ≤ (r.length : Int) ∧ allG (fun i => okRu (gR r i)) i.toNat = true) ?_ 0 (by kernel_rfl) ?_ ⟨by omega, by omega, rfl⟩
  case refine_2 => rfl
  rintro i ⟨i0, i1, i2⟩
  conv => whnf
  refine cond_intro (fun hi => ?_) (fun hi => ?_)
  · have hi : i < (r.length : Int) := @of_decide_eq_true _ _ hi
    have wi : IntKind.i64.wrap (i + 1) = i + 1 := wrap_eq (by omega) (by omega)
    have ei : (i + 1).toNat = i.toNat + 1 := by omega
    conv => whnf
    refine ⟨i0, ?_⟩
    conv => whnf
    refine ⟨hi, ?_⟩
    conv => whnf
    refine ⟨hn _, ?_⟩
    conv => whnf
    refine cond_intro (fun t0 => ?_) (fun t0 => ?_)
    · have t0 : (!(namedB (gR r i.toNat).1)) = true := t0
      have t0 : (namedB (gR r i.toNat).1) = false := by cases e : (namedB (gR r i.toNat).1) with | false => rfl | true => exact absurd t0 (by rw [e]; decide)
      conv => whnf
      repeat (first | (refine cond_intro (fun h => absurd h (by decide)) (fun h => ?_); conv => whnf) | (refine cond_intro (fun h => ?_) (fun h => absurd h (by decide)); conv => whnf))
      conv => whnf
      show (1 : Int) = valW r []
      exact (valW_ok1 (i := i.toNat) (by omega) (by unfold okRu; rw [t0]; rfl)).symm
    have t0 : (!(namedB (gR r i.toNat).1)) = false := t0
    have t0 : (namedB (gR r i.toNat).1) = true := by cases e : (namedB (gR r i.toNat).1) with | true => rfl | false => exact absurd t0 (by rw [e]; decide)
    conv => whnf
    repeat (first | (refine cond_intro (fun h => absurd h (by decide)) (fun h => ?_); conv => whnf) | (refine cond_intro (fun h => ?_) (fun h => absurd h (by decide)); conv => whnf))
    conv => whnf
    refine cond_intro (fun t1 => ?_) (fun t1 => ?_)
    · have t1 : (gR r i.toNat).2.1 < 0 := @of_decide_eq_true _ _ t1
      conv => whnf
      repeat (first | (refine cond_intro (fun h => absurd h (by decide)) (fun h => ?_); conv => whnf) | (refine cond_intro (fun h => ?_) (fun h => absurd h (by decide)); conv => whnf))
      conv => whnf
      show (1 : Int) = valW r []
      exact (valW_ok1 (i := i.toNat) (by omega) (by unfold okRu; rw [in_lo (by omega), Bool.and_false])).symm
    have t1 : ¬ ((gR r i.toNat).2.1 < 0) := @of_decide_eq_false _ _ t1
    conv => whnf
    repeat (first | (refine cond_intro (fun h => absurd h (by decide)) (fun h => ?_); conv => whnf) | (refine cond_intro (fun h => ?_) (fun h => absurd h (by decide)); conv => whnf))
    conv => whnf
    refine cond_intro (fun t2 => ?_) (fun t2 => ?_)
    · have t2 : 4 < (gR r i.toNat).2.1 := @of_decide_eq_true _ _ t2
      conv => whnf
      repeat (first | (refine cond_intro (fun h => absurd h (by decide)) (fun h => ?_); conv => whnf) | (refine cond_intro (fun h => ?_) (fun h => absurd h (by decide)); conv => whnf))
      conv => whnf
      show (1 : Int) = valW r []
      exact (valW_ok1 (i := i.toNat) (by omega) (by unfold okRu; rw [in_hi (by omega), Bool.and_false])).symm
    have t2 : ¬ (4 < (gR r i.toNat).2.1) := @of_decide_eq_false _ _ t2
    conv => whnf
    repeat (first | (refine cond_intro (fun h => absurd h (by decide)) (fun h => ?_); conv => whnf) | (refine cond_intro (fun h => ?_) (fun h => absurd h (by decide)); conv => whnf))
    conv => whnf
    refine ⟨i + 1, ?_, ⟨by omega, by omega, ?_⟩, by omega⟩
    · exact Eq.trans (b := S22a r (IntKind.i64.wrap (i + 1))) rfl (by rw [wi])
    · rw [ei]; exact allG_succ i2 (by show okRu (gR r i.toNat) = true; unfold okRu; rw [t0, in_ok (by omega) (by omega)]; rfl)
  have hi : ¬ (i < (r.length : Int)) := @of_decide_eq_false _ _ hi
  rw [show i.toNat = r.length by omega] at i2
  have hok : okRs r = true := i2
  clear i2
  conv => whnf
  refine ⟨rfl, ?_⟩
  conv => whnf
  refine ⟨rfl, ?_⟩
  conv => whnf
  refine loop_rule (S22b r) (fun i => ((r.length : Int) - i).toNat) (fun i => 0 ≤ i ∧ i ≤ (r.length : Int) ∧ allG (fun i => soundB r i (gR r i).2.1 (gR r i).2.2) i.toNat = true) ?_ 0 (by kernel_rfl) ?_ ⟨by omega, by omega, rfl⟩
  case refine_2 => rfl
  rintro i ⟨i0, i1, i2⟩
  conv => whnf
  refine cond_intro (fun hi => ?_) (fun hi => ?_)
  · have hi : i < (r.length : Int) := @of_decide_eq_true _ _ hi
    have wi : IntKind.i64.wrap (i + 1) = i + 1 := wrap_eq (by omega) (by omega)
    have ei : (i + 1).toNat = i.toNat + 1 := by omega
    have eii : ((i.toNat : Nat) : Int) = i := by omega
    conv => whnf
    refine ⟨i0, ?_⟩
    conv => whnf
    refine ⟨hi, ?_⟩
    conv => whnf
    refine ⟨okRs_args hok, ?_⟩
    conv => whnf
    refine ⟨i0, ?_⟩
    conv => whnf
    refine ⟨show i ≤ (r.length : Int) by omega, ?_⟩
    conv => whnf
    refine ⟨bodyOk_at hb _, ?_⟩
    conv => whnf
    refine cond_intro (fun c => ?_) (fun c => ?_)
    · have c : (!(soundB r i (gR r i.toNat).2.1 (gR r i.toNat).2.2)) = true := c
      have c : (soundB r i (gR r i.toNat).2.1 (gR r i.toNat).2.2) = false := by cases e : (soundB r i (gR r i.toNat).2.1 (gR r i.toNat).2.2) with | false => rfl | true => exact absurd c (by rw [e]; decide)
      rw [← eii] at c
      conv => whnf
      show (15 : Int) = valW r []
      exact (valW_snd hok rfl (i := i.toNat) (by omega) c).symm
    have c : (!(soundB r i (gR r i.toNat).2.1 (gR r i.toNat).2.2)) = false := c
    have c : (soundB r i (gR r i.toNat).2.1 (gR r i.toNat).2.2) = true := by cases e : (soundB r i (gR r i.toNat).2.1 (gR r i.toNat).2.2) with | true => rfl | false => exact absurd c (by rw [e]; decide)
    rw [← eii] at c
    conv => whnf
    refine ⟨i + 1, ?_, ⟨by omega, by omega, ?_⟩, by omega⟩
    · exact Eq.trans (b := S22b r (IntKind.i64.wrap (i + 1))) rfl (by rw [wi])
    · rw [ei]; exact allG_succ i2 (c)
  have hi : ¬ (i < (r.length : Int)) := @of_decide_eq_false _ _ hi
  rw [show i.toNat = r.length by omega] at i2
  have hsn : sndRs r = true := i2
  clear i2
  conv => whnf
  refine loop_rule (S22c r) (fun i => ((r.length : Int) - i).toNat) (fun i => 0 ≤ i ∧ i ≤ (r.length : Int) ∧ allG (fun i => freshG (fun i => (gR r i).1) i i) i.toNat = true) ?_ 0 (by kernel_rfl) ?_ ⟨by omega, by omega, rfl⟩
  case refine_2 => rfl
  rintro i ⟨i0, i1, i2⟩
  conv => whnf
  refine cond_intro (fun hi => ?_) (fun hi => ?_)
  · have hi : i < (r.length : Int) := @of_decide_eq_true _ _ hi
    have wi : IntKind.i64.wrap (i + 1) = i + 1 := wrap_eq (by omega) (by omega)
    have ei : (i + 1).toNat = i.toNat + 1 := by omega
    conv => whnf
    refine ⟨i0, ?_⟩
    conv => whnf
    refine ⟨hi, ?_⟩
    conv => whnf
    refine ⟨i0, ?_⟩
    conv => whnf
    refine ⟨show i ≤ (r.length : Int) by omega, ?_⟩
    conv => whnf
    refine ⟨show (r.take i.toNat).length ≤ 140737488351232 by rw [List.length_take]; omega, ?_⟩
    conv => whnf
    refine cond_intro (fun c => ?_) (fun c => ?_)
    · have c : (!(noneG (r.take i.toNat) (gR r i.toNat).1)) = true := c
      have c : (noneG (r.take i.toNat) (gR r i.toNat).1) = false := by cases e : (noneG (r.take i.toNat) (gR r i.toNat).1) with | false => rfl | true => exact absurd c (by rw [e]; decide)
      rw [fresh_take (by omega)] at c
      conv => whnf
      show (3 : Int) = valW r []
      exact (valW_fr hok rfl hsn (i := i.toNat) (by omega) c).symm
    have c : (!(noneG (r.take i.toNat) (gR r i.toNat).1)) = false := c
    have c : (noneG (r.take i.toNat) (gR r i.toNat).1) = true := by cases e : (noneG (r.take i.toNat) (gR r i.toNat).1) with | true => rfl | false => exact absurd c (by rw [e]; decide)
    rw [fresh_take (by omega)] at c
    conv => whnf
    refine ⟨i + 1, ?_, ⟨by omega, by omega, ?_⟩, by omega⟩
    · exact Eq.trans (b := S22c r (IntKind.i64.wrap (i + 1))) rfl (by rw [wi])
    · rw [ei]; exact allG_succ i2 (c)
  have hi : ¬ (i < (r.length : Int)) := @of_decide_eq_false _ _ hi
  rw [show i.toNat = r.length by omega] at i2
  conv => whnf
  show (0 : Int) = valW r []
  exact (valW_0 hok rfl hsn i2).symm
end
end Go.Proofs.YtaafjaibaaiigaaGreatDoor.Eng
set_option linter.unusedVariables false
set_option linter.unusedSimpArgs false
namespace Go.Proofs.YtaafjaibaaiigaaGreatDoor.Eng
open Go
set_option maxRecDepth 100000
noncomputable section
open Go.RowKit
def K79 : Fn1 := ⟨.one (.sl I), .one (.sl I), fun (l : List Int) => [l.length ≤ 1000000], fun (l : List Int) => l⟩
theorem k79 : FnOk Go.Proofs.Tryz.prog 79 K79 := by
  refine fn_okN (E := noE) (TOk.of tab_told) (fun f k h => by cases h) mix Go.Proofs.Tryz.func79 rfl rfl (by kernel_rfl) I (.one (.sl I)) (fun (l : List Int) => [l.length ≤ 1000000]) (fun (l : List Int) => l) (fun hp => ?_) (fun (l : List Int) hp => ?_)
  · clear hp
    conv => whnf
    rfl
  · have hl : l.length ≤ 1000000 := hp _ (List.mem_cons_self ..)
    clear hp
    conv => whnf
    refine ⟨show (0 + l.length) * 8 ≤ 70368744177664 by omega, ?_⟩
    conv => whnf
    refine ⟨show 0 + l.length ≤ 70368744177664 by omega, ?_⟩
    conv => whnf
    rfl
def opA : AV → Option Op2
  | .agg [.int .i64 a, .int .i64 b] => some (a, b)
  | _ => none
theorem opA_some {a : AV} {o : Op2} (h : opA a = some o) : a = .agg [.int .i64 o.1, .int .i64 o.2] := by
  unfold opA at h; split at h <;> cases h; rfl
/-- The machine, as it is handed on. -/
def macC (r : List Ru) (c : List Int) (B : Int) : List CV := [.v (.sl ruT r), .v (.sl I c), .v (.int .i64 B)]
def macB (r : List Ru) (c : List Int) (B : Int) : Ob := .box [.sl ruT r, .sl I c, .int .i64 B]
def payC (c : List Int) (o : Op2) : Int := if o.1 = 10 then 1 + gI c o.2.toNat else 1
def payL (c : List Int) (o : Op2) (B : Int) : Int := if payC c o ≤ B then B - payC c o else B
def calOk (c : List Int) (o : Op2) : Prop := o.1 = 10 → 0 ≤ o.2 ∧ o.2 < (c.length : Int)
def F78 (ks : List AK) : Option (List Prop × AV × List (List CV)) := match ks with
  | [.bx [.v a, .v b, .v (.int .i64 B)], .pl o] => (match slA ruT a, slA I b, opA o with
    | some r, some c, some o => some ([costOk c, calOk c o, 0 ≤ B, B ≤ 100000], .bool (decide (payC c o ≤ B)), [macC r c (payL c o B)])
    | _, _, _ => none)
  | _ => none
theorem F78_some {ks : List AK} {q : List Prop × AV × List (List CV)} (h : F78 ks = some q) : ∃ r c B o, ks = [.bx (macC r c B), .pl (.agg [.int .i64 o.1, .int .i64 o.2])] ∧ q = ([costOk c, calOk c o, 0 ≤ B, B ≤ 100000], .bool (decide (payC c o ≤ B)), [macC r c (payL c o B)]) := by
  unfold F78 at h
  split at h
  · split at h
    · rename_i e1 e2 e3
      cases h
      refine ⟨_, _, _, _, ?_, rfl⟩
      rw [slA_some e1, slA_some e2, opA_some e3]
      rfl
    · cases h
  · cases h
def X78 : List AV → Nat → Rd Res := boxX F78
theorem k78 : FxOk Go.Proofs.Tryz.prog 78 X78 := by
  refine fx_box (E := noE) (TOk.of tab_told) (fun f k h => by cases h) mix Go.Proofs.Tryz.func78 rfl rfl (by kernel_rfl) ?_ ?_
  · intro ks q h
    obtain ⟨r, c, B, o, rfl, rfl⟩ := F78_some h
    kernel_rfl
  intro ks ps val outs h hp
  obtain ⟨r, c, B, o, rfl, h⟩ := F78_some h
  cases h
  have hc : costOk c := hp _ (List.mem_cons_self ..)
  have ho : calOk c o := hp _ (List.mem_cons_of_mem _ (List.mem_cons_self ..))
  have hB0 : 0 ≤ B := hp _ (List.mem_cons_of_mem _ (List.mem_cons_of_mem _ (List.mem_cons_self ..)))
  have hB : B ≤ 100000 := hp _ (List.mem_cons_of_mem _ (List.mem_cons_of_mem _ (List.mem_cons_of_mem _ (List.mem_cons_self ..))))
  clear hp h
  obtain ⟨k, n⟩ := o
  conv => whnf
  refine cond_intro (fun h0 => ?_) (fun h0 => ?_)
  · have h0 : k = 10 := @of_decide_eq_true _ _ h0
    obtain ⟨o1, o2⟩ := ho h0
    have hcn := hc n.toNat
    conv => whnf
    refine ⟨o1, ?_⟩
    conv => whnf
    refine ⟨o2, ?_⟩
    have hpc : payC c (k, n) = 1 + gI c n.toNat := by unfold payC; rw [if_pos h0]
    have hr : IntKind.i64.wrap (1 + gI c n.toNat) = 1 + gI c n.toNat := wrap_eq (by omega) (by omega)
    conv => whnf
    refine cond_intro (fun h1 => ?_) (fun h1 => ?_)
    · have h1 : B < IntKind.i64.wrap (1 + gI c n.toNat) := @of_decide_eq_true _ _ h1
      have e1 : decide (payC c (k, n) ≤ B) = false := decide_eq_false (by omega)
      have e2 : payL c (k, n) B = B := by unfold payL; rw [if_neg (by omega)]
      rw [e1, e2]
      conv => whnf
      refine EndB.mk (Or.inl rfl) ⟨[], rfl, rfl⟩ ⟨_, rfl, rfl, rfl⟩
    have h1 : ¬ (B < IntKind.i64.wrap (1 + gI c n.toNat)) := @of_decide_eq_false _ _ h1
    have e1 : decide (payC c (k, n) ≤ B) = true := decide_eq_true (by omega)
    have e2 : payL c (k, n) B = IntKind.i64.wrap (B - IntKind.i64.wrap (1 + gI c n.toNat)) := by unfold payL; rw [if_pos (by omega), wrap_eq (by omega) (by omega), hr, hpc]
    rw [e1, e2]
    conv => whnf
    refine EndB.mk (Or.inl rfl) ⟨[], rfl, rfl⟩ ⟨_, rfl, rfl, rfl⟩
  have h0 : ¬ (k = 10) := @of_decide_eq_false _ _ h0
  have hpc : payC c (k, n) = (1 : Int) := by unfold payC; rw [if_neg h0]
  have hr : (1 : Int) = (1 : Int) := rfl
  conv => whnf
  refine cond_intro (fun h1 => ?_) (fun h1 => ?_)
  · have h1 : B < (1 : Int) := @of_decide_eq_true _ _ h1
    have e1 : decide (payC c (k, n) ≤ B) = false := decide_eq_false (by omega)
    have e2 : payL c (k, n) B = B := by unfold payL; rw [if_neg (by omega)]
    rw [e1, e2]
    conv => whnf
    refine EndB.mk (Or.inl rfl) ⟨[], rfl, rfl⟩ ⟨_, rfl, rfl, rfl⟩
  have h1 : ¬ (B < (1 : Int)) := @of_decide_eq_false _ _ h1
  have e1 : decide (payC c (k, n) ≤ B) = true := decide_eq_true (by omega)
  have e2 : payL c (k, n) B = IntKind.i64.wrap (B - (1 : Int)) := by unfold payL; rw [if_pos (by omega), wrap_eq (by omega) (by omega), hr, hpc]
  rw [e1, e2]
  conv => whnf
  refine EndB.mk (Or.inl rfl) ⟨[], rfl, rfl⟩ ⟨_, rfl, rfl, rfl⟩
end
end Go.Proofs.YtaafjaibaaiigaaGreatDoor.Eng
set_option linter.unusedVariables false
set_option linter.unusedSimpArgs false
namespace Go.Proofs.YtaafjaibaaiigaaGreatDoor.Eng
open Go
set_option maxRecDepth 100000
noncomputable section
theorem pay_step {c : List Int} {b : List Op2} {n : Nat} (h : calOk c (gO b n)) : payOf c b (n + 1) = payOf c b n + payC c (gO b n) := by
  rw [payOf_succ]
  unfold payC
  by_cases e : (gO b n).1 = 10
  · rw [if_pos ⟨e, h e⟩, if_pos e]; omega
  · rw [if_neg (fun q => e q.1), if_neg e]; omega
theorem payC_pos {c : List Int} (hc : costOk c) (o : Op2) : 1 ≤ payC c o ∧ payC c o ≤ 100002 := by
  have := hc o.2.toNat
  unfold payC; split <;> omega
def sndF (f : Nat) (r : List Ru) (n : Int) (b : List Op2) : Prop := ∃ bf : Nat, bf < f ∧ bf ≤ r.length ∧ soundB r bf n b = true
def cheap (r : List Ru) (c : List Int) : Prop := c = costsR r ∧ ∀ i, gI c i ≤ 100000
def P38 (f : Nat) (r : List Ru) (c : List Int) (b : List Op2) (a : List Int) : Prop := goodR r ∧ cheap r c ∧ sndF f r a.length b ∧ valsOk a ∧ a.length ≤ 1000000 ∧ payOf c b b.length ≤ 100000
def P44 (f : Nat) (r : List Ru) (c : List Int) (B : Int) (b : List Op2) (a : List Int) : Prop := goodR r ∧ cheap r c ∧ sndF (f + 1) r a.length b ∧ valsOk a ∧ 0 ≤ B ∧ B ≤ 100000
def F38 (f : Nat) (ks : List AK) : Option (List Prop × AV × List (List CV)) := match ks with
  | [.bx [.v v1, .v v2, .v (.int .i64 B)], .pl v3, .pl v4] => (match slA ruT v1, slA I v2, slA opT v3, slA I v4 with
    | some r, some c, some b, some a => some ([P38 f r c b a], .int .i64 (valR r b a), [macC r c B])
    | _, _, _, _ => none)
  | _ => none
theorem F38_some {f : Nat} {ks : List AK} {q : List Prop × AV × List (List CV)} (h : F38 f ks = some q) : ∃ (r : List Ru) (c : List Int) (B : Int) (b : List Op2) (a : List Int), ks = [.bx (macC r c B), .pl (.sl opT b), .pl (.sl I a)] ∧ q = ([P38 f r c b a], .int .i64 (valR r b a), [macC r c B]) := by
  unfold F38 at h
  split at h
  · split at h
    · rename_i e1 e2 e3 e4
      cases h
      refine ⟨_, _, _, _, _, ?_, rfl⟩
      rw [slA_some e1, slA_some e2, slA_some e3, slA_some e4]
      rfl
    · cases h
  · cases h
def F44 (f : Nat) (ks : List AK) : Option (List Prop × AV × List (List CV)) := match ks with
  | [.bx [.v v1, .v v2, .v (.int .i64 B)], .pl v3, .pl v4] => (match slA ruT v1, slA I v2, slA opT v3, slA I v4 with
    | some r, some c, some b, some a => some ([P44 f r c B b a], .tup [.int .i64 (runV r c b a B), .bool (runK c b B)], [macC r c (leftL c b B)])
    | _, _, _, _ => none)
  | _ => none
theorem F44_some {f : Nat} {ks : List AK} {q : List Prop × AV × List (List CV)} (h : F44 f ks = some q) : ∃ (r : List Ru) (c : List Int) (B : Int) (b : List Op2) (a : List Int), ks = [.bx (macC r c B), .pl (.sl opT b), .pl (.sl I a)] ∧ q = ([P44 f r c B b a], .tup [.int .i64 (runV r c b a B), .bool (runK c b B)], [macC r c (leftL c b B)]) := by
  unfold F44 at h
  split at h
  · split at h
    · rename_i e1 e2 e3 e4
      cases h
      refine ⟨_, _, _, _, _, ?_, rfl⟩
      rw [slA_some e1, slA_some e2, slA_some e3, slA_some e4]
      rfl
    · cases h
  · cases h
def X38 (f : Nat) : List AV → Nat → Rd Res := boxX (F38 f)
def X44 (f : Nat) : List AV → Nat → Rd Res := boxX (F44 f)
theorem fx_same {P : Program} {f : FuncId} {X X' : List AV → Nat → Rd Res} (hX : FxOk P f X) (h : ∀ (args : List AV) (base : Nat) (H : Nat → Option Ob) (r' : Res), (X' args base).run H = some r' → ∃ r, (X args base).run H = some r ∧ r.ps = r'.ps ∧ r.val = r'.val ∧ upds H r.ups = upds H r'.ups) : FxOk P f X' := by
  refine ⟨hX.body, ?_⟩
  intro B S0 μ H w base args vals r' hs hm hv hr hp
  obtain ⟨r, h1, h2, h3, h4⟩ := h _ _ _ _ hr
  have := hX.sound hs hm hv h1 (by rw [h2]; exact hp)
  rw [h3, h4] at this
  exact this
/-- Of a machine that is only looked at. -/
def mac3 : Option Ob → Option (List Ru × List Int × Int)
  | some (.box [v1, v2, .int .i64 B]) => (match slA ruT v1, slA I v2 with | some r, some c => some (r, c, B) | _, _ => none)
  | _ => none
theorem mac3_some {o : Option Ob} {x : List Ru × List Int × Int} (h : mac3 o = some x) : o = some (macB x.1 x.2.1 x.2.2) := by
  unfold mac3 at h
  split at h
  · split at h
    · rename_i e1 e2
      cases h
      rw [slA_some e1, slA_some e2]
      rfl
    · cases h
  · cases h
def X38q (f : Nat) (args : List AV) (base : Nat) : Rd Res :=
  match args with
  | [p, v3, v4] => (match ptr0 p, slA opT v3, slA I v4 with
    | some h, some b, some a => .get h fun o => (match mac3 o with
      | some x => .ok ⟨[P38 f x.1 x.2.1 b a], .int .i64 (valR x.1 b a), []⟩
      | none => .bad)
    | _, _, _ => .bad)
  | _ => .bad
theorem X38_at {f : Nat} {h base : Nat} {b : List Op2} {a : List Int} {r : List Ru} {c : List Int} {B : Int} {H : Nat → Option Ob} (e : H h = some (macB r c B)) :
    (X38 f [.ptr h 0 0, .sl opT b, .sl I a] base).run H = some ⟨[P38 f r c b a], .int .i64 (valR r b a), [(h, none), (h, some (macB r c B))]⟩ := by
  conv => lhs; whnf
  rw [e]
  rfl
theorem k38q_of {f : Nat} (h38 : FxOk Go.Proofs.Tryz.prog 38 (X38 f)) : FxOk Go.Proofs.Tryz.prog 38 (X38q f) := by
  refine fx_same h38 ?_
  intro args base H r' hr
  unfold X38q at hr
  split at hr
  rotate_left
  · cases hr
  split at hr
  rotate_left
  · cases hr
  rename_i p v3 v4 h b a e1 e2 e3
  have hr : (match mac3 (H h) with
      | some x => .ok ⟨[P38 f x.1 x.2.1 b a], .int .i64 (valR x.1 b a), []⟩
      | none => .bad : Rd Res).run H = some r' := hr
  split at hr
  rotate_left
  · cases hr
  rename_i x e4
  cases hr
  cases ptr0_some e1
  cases slA_some e2
  cases slA_some e3
  have e4 := mac3_some e4
  refine ⟨_, X38_at e4, rfl, rfl, ?_⟩
  funext q
  show upd (upd H h none) h (some (macB x.1 x.2.1 x.2.2)) q = H q
  by_cases e : q = h
  · subst e; rw [upd_same, e4]
  · rw [upd_other _ e, upd_other _ e]
def E44 (f : Nat) : Env := ⟨tab, [(78, .eff X78), (77, K77), (79, .eff (frzX K79)), (80, K80), (81, K81), (72, K72), (38, .eff (X38q f))], fun n => match n with | 3 => some ([0, 2, 8, 13, 14, 15], [(8, I)], []) | 999999 => some ([], [], []) | 999996 => some ([], [], []) | _ => none⟩
def S44 (r : List Ru) (c : List Int) (b : List Op2) (a : List Int) (B : Int) (st : List Int) (i : Int) : SL := ⟨[.ptr 0 0 0, .undef, .sl I a, .undef, .undef, .undef, .undef, .undef, .own 1, .undef, .undef, .undef, .undef, .sl opT b, .int .i64 b.length, .int .i64 i, .undef, .undef, .undef, .undef, .undef, .undef, .undef, .undef, .undef, .undef, .undef, .undef, .undef, .undef, .undef, .undef, .undef, .undef, .undef, .undef, .undef, .undef, .undef, .undef, .undef, .undef, .undef, .undef, .undef, .undef, .undef, .undef, .undef, .undef, .undef, .undef, .undef, .undef, .undef, .undef, .undef, .undef, .undef, .undef, .undef, .undef, .undef, .undef, .undef, .undef, .undef, .undef, .undef, .undef, .undef, .undef, .undef, .undef, .undef, .undef, .undef, .undef, .undef, .undef, .undef, .undef, .undef, .undef, .undef, .undef, .undef, .undef, .undef, .undef, .undef, .undef, .undef, .undef, .undef, .undef, .undef, .undef, .undef, .undef, .undef, .undef, .undef, .undef, .undef, .undef], [(0, .box [.sl ruT r, .sl I c, .int .i64 B]), (1, .arr I st)], 2⟩
set_option maxHeartbeats 2000000 in
theorem k44_of {f : Nat} (h38 : FxOk Go.Proofs.Tryz.prog 38 (X38q f)) : FxOk Go.Proofs.Tryz.prog 44 (X44 f) := by
  refine fx_box (E := E44 f) (TOk.of tab_told) (AllOk.consX k78 (.cons k77 (.consX (fx_frz k79) (.cons k80 (.cons k81 (.cons k72 (.consX h38 .nil))))))).at_ mix Go.Proofs.Tryz.func44 rfl rfl (by kernel_rfl) ?_ ?_
  · intro ks q h
    obtain ⟨r, c, B, b, a, rfl, rfl⟩ := F44_some h
    kernel_rfl
  intro ks ps val outs h hp
  obtain ⟨r, c, B, b, a, rfl, h⟩ := F44_some h
  cases h
  obtain ⟨hg, ⟨hcr, hch⟩, ⟨bf, hbf, hbl, hs⟩, ha, hB0, hB⟩ : P44 f r c B b a := hp _ (List.mem_cons_self ..)
  clear hp h
  have hck : costOk c := by rw [hcr]; exact costs_ok r
  have hcl : c.length = r.length := by rw [hcr]; exact costs_len r
  have hb60 := (sound_hJ hs).2
  conv => whnf
  refine loop_rule (fun i : Int => S44 r c b a (B - payOf c b i.toNat) (stJ r a (calR r) b i.toNat) i) (fun i => ((b.length : Int) - i).toNat) (fun i => 0 ≤ i ∧ i ≤ (b.length : Int) ∧ payOf c b i.toNat ≤ B) ?_ 0 (by kernel_rfl) ?_ ⟨by omega, by omega, hB0⟩
  case refine_2 => exact Eq.trans (b := S44 r c b a B [] 0) rfl (by rw [show B - payOf c b (0 : Int).toNat = B by rw [show payOf c b (0 : Int).toNat = 0 from rfl]; omega]; rfl)
  rintro i ⟨i0, i1, i2⟩
  conv => whnf
  refine cond_intro (fun hi => ?_) (fun hi => ?_)
  · have hi : i < (b.length : Int) := @of_decide_eq_true _ _ hi
    have wi : IntKind.i64.wrap (i + 1) = i + 1 := wrap_eq (by omega) (by omega)
    have ei : (i + 1).toNat = i.toNat + 1 := by omega
    obtain ⟨g, g1, g2, g3, g4⟩ := sound_at hs (n := i.toNat) (by omega)
    have hst := st_len hg.1 (by omega) (args := a) (cal := calR r) g1
    have hbd := st_bd hs ha (cal := calR r) (fun k hk t ht => calR_bd hg (by omega) ht) (n := i.toNat) (by omega)
    have hpo := kn_pop g2 (r := r) (by omega)
    have hpi := pop_in hg.1 hpo
    have hca : calOk c (gO b i.toNat) := fun e => by have := kn_call g2 e; omega
    have hps := pay_step hca
    have hpp := payC_pos hck (gO b i.toNat)
    have hp0 := payOf_le hck (b := b) (n := 0) (m := i.toNat) (Nat.zero_le _)
    rw [payOf_0] at hp0
    have hstn : stJ r a (calR r) b (i.toNat + 1) = stepV r a (calR r) (gO b i.toNat) (stJ r a (calR r) b i.toNat) := rfl
    have hg60 : g ≤ 60 := by have := @hJ_le r bf a.length b i.toNat g hg.1 (by omega) g1; omega
    generalize stJ r a (calR r) b i.toNat = st at *
    unfold stepV at hstn
    have hat : IntKind.i64.wrap ((st.length : Int) - popR r (gO b i.toNat)) = ((st.length - (popR r (gO b i.toNat)).toNat : Nat) : Int) := by rw [wrap_eq (by omega) (by omega)]; omega
    have hD : (IntKind.i64.wrap ((st.length : Int) - popR r (gO b i.toNat))).toNat = st.length - (popR r (gO b i.toNat)).toNat := by rw [hat]; omega
    conv => whnf
    refine ⟨i0, ?_⟩
    conv => whnf
    refine ⟨hi, ?_⟩
    conv => whnf
    refine ⟨hck, ?_⟩
    conv => whnf
    refine ⟨hca, ?_⟩
    conv => whnf
    refine ⟨show 0 ≤ B - payOf c b i.toNat by omega, ?_⟩
    conv => whnf
    refine ⟨show B - payOf c b i.toNat ≤ 100000 by omega, ?_⟩
    conv => whnf
    refine cond_intro (fun q => ?_) (fun q => ?_)
    · have q : (!decide (payC c (gO b i.toNat) ≤ B - payOf c b i.toNat)) = true := q
      have q : ¬ (payC c (gO b i.toNat) ≤ B - payOf c b i.toNat) := fun e => absurd q (by rw [decide_eq_true e]; decide)
      have hsa : stopAt c b B = i.toNat := stop_at hck i2 (by omega) (fun _ => by rw [hps]; omega)
      have e1 : runV r c b a B = 0 := by unfold runV; rw [hsa, if_neg (by omega)]
      have e2 : runK c b B = false := by unfold runK; rw [hsa]; exact decide_eq_false (by omega)
      have e3 : leftL c b B = payL c (gO b i.toNat) (B - payOf c b i.toNat) := by unfold leftL payL; rw [hsa, if_neg (by omega)]
      rw [e1, e2, e3]
      conv => whnf
      refine EndB.mk (Or.inl rfl) ⟨_, rfl, rfl⟩ ⟨_, rfl, rfl, rfl⟩
    have q : (!decide (payC c (gO b i.toNat) ≤ B - payOf c b i.toNat)) = false := q
    have q : payC c (gO b i.toNat) ≤ B - payOf c b i.toNat := Decidable.byContradiction fun e => absurd q (by rw [decide_eq_false e]; decide)
    have hpl : payL c (gO b i.toNat) (B - payOf c b i.toNat) = B - payOf c b i.toNat - payC c (gO b i.toNat) := by unfold payL; rw [if_pos q]
    conv => whnf
    refine ⟨hpo, ?_⟩
    conv => whnf
    refine ⟨show 0 ≤ IntKind.i64.wrap ((st.length : Int) - popR r (gO b i.toNat)) by rw [hat]; omega, ?_⟩
    conv => whnf
    refine ⟨show IntKind.i64.wrap ((st.length : Int) - popR r (gO b i.toNat)) ≤ (st.length : Int) by rw [hat]; omega, ?_⟩
    conv => whnf
    refine ⟨show (st.drop (IntKind.i64.wrap ((st.length : Int) - popR r (gO b i.toNat))).toNat).length ≤ 1000000 by rw [List.length_drop]; omega, ?_⟩
    conv => whnf
    refine ⟨show 0 ≤ IntKind.i64.wrap ((st.length : Int) - popR r (gO b i.toNat)) by rw [hat]; omega, ?_⟩
    conv => whnf
    refine ⟨show IntKind.i64.wrap ((st.length : Int) - popR r (gO b i.toNat)) ≤ (st.length : Int) by rw [hat]; omega, ?_⟩
    conv => whnf
    refine cond_intro (fun k0 => ?_) (fun k0 => ?_)
    · have k0 : (gO b i.toNat).1 = 0 := @of_decide_eq_true _ _ k0
      conv => whnf
      refine ⟨show ((st.take (IntKind.i64.wrap ((st.length : Int) - popR r (gO b i.toNat))).toNat).length + 1) * 8 ≤ 70368744177664 by rw [List.length_take]; omega, ?_⟩
      conv => whnf
      refine ⟨show (st.take (IntKind.i64.wrap ((st.length : Int) - popR r (gO b i.toNat))).toNat).length + 1 ≤ 70368744177664 by rw [List.length_take]; omega, ?_⟩
      conv => whnf
      refine ⟨i + 1, ?_, ⟨by omega, by omega, by rw [ei, hps]; omega⟩, by omega⟩
      · refine Eq.trans (b := S44 r c b a (payL c (gO b i.toNat) (B - payOf c b i.toNat)) (st.take (IntKind.i64.wrap ((st.length : Int) - popR r (gO b i.toNat))).toNat ++ [(gO b i.toNat).2]) (IntKind.i64.wrap (i + 1))) rfl ?_
        rw [wi, ei, hpl, hps, hstn, show stepN a (calR r) (gO b i.toNat) (st.drop (st.length - (popR r (gO b i.toNat)).toNat)) = (gO b i.toNat).2 by unfold stepN; rw [if_pos k0], hD]
        rw [show B - payOf c b i.toNat - payC c (gO b i.toNat) = B - (payOf c b i.toNat + payC c (gO b i.toNat)) by omega]
    have k0 : ¬ ((gO b i.toNat).1 = 0) := @of_decide_eq_false _ _ k0
    conv => whnf
    refine cond_intro (fun k1 => ?_) (fun k1 => ?_)
    · have k1 : (gO b i.toNat).1 = 1 := @of_decide_eq_true _ _ k1
      obtain ⟨a0, a1⟩ := kn_arg g2 k1
      conv => whnf
      refine ⟨a0, ?_⟩
      conv => whnf
      refine ⟨a1, ?_⟩
      conv => whnf
      refine ⟨show ((st.take (IntKind.i64.wrap ((st.length : Int) - popR r (gO b i.toNat))).toNat).length + 1) * 8 ≤ 70368744177664 by rw [List.length_take]; omega, ?_⟩
      conv => whnf
      refine ⟨show (st.take (IntKind.i64.wrap ((st.length : Int) - popR r (gO b i.toNat))).toNat).length + 1 ≤ 70368744177664 by rw [List.length_take]; omega, ?_⟩
      conv => whnf
      refine ⟨i + 1, ?_, ⟨by omega, by omega, by rw [ei, hps]; omega⟩, by omega⟩
      · refine Eq.trans (b := S44 r c b a (payL c (gO b i.toNat) (B - payOf c b i.toNat)) (st.take (IntKind.i64.wrap ((st.length : Int) - popR r (gO b i.toNat))).toNat ++ [gI a (gO b i.toNat).2.toNat]) (IntKind.i64.wrap (i + 1))) rfl ?_
        rw [wi, ei, hpl, hps, hstn, show stepN a (calR r) (gO b i.toNat) (st.drop (st.length - (popR r (gO b i.toNat)).toNat)) = gI a (gO b i.toNat).2.toNat by unfold stepN; rw [if_neg k0, if_pos k1], hD]
        rw [show B - payOf c b i.toNat - payC c (gO b i.toNat) = B - (payOf c b i.toNat + payC c (gO b i.toNat)) by omega]
    have k1 : ¬ ((gO b i.toNat).1 = 1) := @of_decide_eq_false _ _ k1
    conv => whnf
    refine cond_intro (fun k9 => ?_) (fun k9 => ?_)
    · have k9 : (gO b i.toNat).1 = 9 := @of_decide_eq_true _ _ k9
      have hp3 : popR r (gO b i.toNat) = 3 := by unfold popR; rw [if_neg (by omega), if_pos k9]
      have htl : (st.drop (IntKind.i64.wrap ((st.length : Int) - popR r (gO b i.toNat))).toNat).length = 3 := by rw [List.length_drop, hD]; omega
      conv => whnf
      refine ⟨(by omega), ?_⟩
      conv => whnf
      refine ⟨show (0 : Int) < ((st.drop (IntKind.i64.wrap ((st.length : Int) - popR r (gO b i.toNat))).toNat).length : Int) by omega, ?_⟩
      have htr : trR (!decide (gI (st.drop (IntKind.i64.wrap ((st.length : Int) - popR r (gO b i.toNat))).toNat) 0 = 0)) = if gI (st.drop (IntKind.i64.wrap ((st.length : Int) - popR r (gO b i.toNat))).toNat) 0 = 0 then 0 else 1 := by by_cases z : gI (st.drop (IntKind.i64.wrap ((st.length : Int) - popR r (gO b i.toNat))).toNat) 0 = 0 <;> simp [z, trR]
      have w2 : IntKind.i64.wrap (2 - trR (!decide (gI (st.drop (IntKind.i64.wrap ((st.length : Int) - popR r (gO b i.toNat))).toNat) 0 = 0))) = 2 - trR (!decide (gI (st.drop (IntKind.i64.wrap ((st.length : Int) - popR r (gO b i.toNat))).toNat) 0 = 0)) := by rw [htr]; split <;> rfl
      conv => whnf
      refine ⟨show 0 ≤ IntKind.i64.wrap (2 - trR (!decide (gI (st.drop (IntKind.i64.wrap ((st.length : Int) - popR r (gO b i.toNat))).toNat) 0 = 0))) by rw [w2, htr]; split <;> omega, ?_⟩
      conv => whnf
      refine ⟨show IntKind.i64.wrap (2 - trR (!decide (gI (st.drop (IntKind.i64.wrap ((st.length : Int) - popR r (gO b i.toNat))).toNat) 0 = 0))) < (((st.drop (IntKind.i64.wrap ((st.length : Int) - popR r (gO b i.toNat))).toNat)).length : Int) by rw [w2, htr]; split <;> omega, ?_⟩
      conv => whnf
      refine ⟨show ((st.take (IntKind.i64.wrap ((st.length : Int) - popR r (gO b i.toNat))).toNat).length + 1) * 8 ≤ 70368744177664 by rw [List.length_take]; omega, ?_⟩
      conv => whnf
      refine ⟨show (st.take (IntKind.i64.wrap ((st.length : Int) - popR r (gO b i.toNat))).toNat).length + 1 ≤ 70368744177664 by rw [List.length_take]; omega, ?_⟩
      conv => whnf
      refine ⟨i + 1, ?_, ⟨by omega, by omega, by rw [ei, hps]; omega⟩, by omega⟩
      · refine Eq.trans (b := S44 r c b a (payL c (gO b i.toNat) (B - payOf c b i.toNat)) (st.take (IntKind.i64.wrap ((st.length : Int) - popR r (gO b i.toNat))).toNat ++ [gI (st.drop (IntKind.i64.wrap ((st.length : Int) - popR r (gO b i.toNat))).toNat) (IntKind.i64.wrap (2 - trR (!decide (gI (st.drop (IntKind.i64.wrap ((st.length : Int) - popR r (gO b i.toNat))).toNat) 0 = 0)))).toNat]) (IntKind.i64.wrap (i + 1))) rfl ?_
        rw [wi, ei, hpl, hps, hstn, show stepN a (calR r) (gO b i.toNat) (st.drop (st.length - (popR r (gO b i.toNat)).toNat)) = gI (st.drop (IntKind.i64.wrap ((st.length : Int) - popR r (gO b i.toNat))).toNat) (IntKind.i64.wrap (2 - trR (!decide (gI (st.drop (IntKind.i64.wrap ((st.length : Int) - popR r (gO b i.toNat))).toNat) 0 = 0)))).toNat by unfold stepN; rw [if_neg k0, if_neg k1, if_pos k9, ← hD, w2, htr]; split <;> rfl, hD]
        rw [show B - payOf c b i.toNat - payC c (gO b i.toNat) = B - (payOf c b i.toNat + payC c (gO b i.toNat)) by omega]
    have k9 : ¬ ((gO b i.toNat).1 = 9) := @of_decide_eq_false _ _ k9
    conv => whnf
    refine cond_intro (fun k10 => ?_) (fun k10 => ?_)
    · have k10 : (gO b i.toNat).1 = 10 := @of_decide_eq_true _ _ k10
      obtain ⟨a0, a1⟩ := kn_call g2 k10
      have hpk : popR r (gO b i.toNat) = (gR r (gO b i.toNat).2.toNat).2.1 := by unfold popR; rw [if_neg (by omega), if_neg k9, if_pos k10]
      have htl : (((st.drop (IntKind.i64.wrap ((st.length : Int) - popR r (gO b i.toNat))).toNat)).length : Int) = (gR r (gO b i.toNat).2.toNat).2.1 := by rw [List.length_drop, hD]; omega
      have hsk := hg.2 (gO b i.toNat).2.toNat (by omega)
      have hck2 := hch (gO b i.toNat).2.toNat
      have hcp := cost_pay hg (k := (gO b i.toNat).2.toNat) (by omega) (by rw [← hcr]; exact hck2)
      have hp38 : P38 f r c (gR r (gO b i.toNat).2.toNat).2.2 ((st.drop (IntKind.i64.wrap ((st.length : Int) - popR r (gO b i.toNat))).toNat)) := ⟨hg, ⟨hcr, hch⟩, ⟨(gO b i.toNat).2.toNat, by omega, by omega, by rw [htl]; exact hsk⟩, valsOk_drop hbd _, by omega, by rw [hcr, ← hcp, ← hcr]; exact hck2⟩
      conv => whnf
      refine ⟨a0, ?_⟩
      conv => whnf
      refine ⟨show (gO b i.toNat).2 < (r.length : Int) by omega, ?_⟩
      conv => whnf
      refine ⟨hp38, ?_⟩
      conv => whnf
      refine ⟨show ((st.take (IntKind.i64.wrap ((st.length : Int) - popR r (gO b i.toNat))).toNat).length + 1) * 8 ≤ 70368744177664 by rw [List.length_take]; omega, ?_⟩
      conv => whnf
      refine ⟨show (st.take (IntKind.i64.wrap ((st.length : Int) - popR r (gO b i.toNat))).toNat).length + 1 ≤ 70368744177664 by rw [List.length_take]; omega, ?_⟩
      conv => whnf
      refine ⟨i + 1, ?_, ⟨by omega, by omega, by rw [ei, hps]; omega⟩, by omega⟩
      · refine Eq.trans (b := S44 r c b a (payL c (gO b i.toNat) (B - payOf c b i.toNat)) (st.take (IntKind.i64.wrap ((st.length : Int) - popR r (gO b i.toNat))).toNat ++ [valR r (gR r (gO b i.toNat).2.toNat).2.2 ((st.drop (IntKind.i64.wrap ((st.length : Int) - popR r (gO b i.toNat))).toNat))]) (IntKind.i64.wrap (i + 1))) rfl ?_
        rw [wi, ei, hpl, hps, hstn, show stepN a (calR r) (gO b i.toNat) (st.drop (st.length - (popR r (gO b i.toNat)).toNat)) = valR r (gR r (gO b i.toNat).2.toNat).2.2 ((st.drop (IntKind.i64.wrap ((st.length : Int) - popR r (gO b i.toNat))).toNat)) by unfold stepN; rw [if_neg k0, if_neg k1, if_neg k9, if_pos k10, ← hD]; rfl, hD]
        rw [show B - payOf c b i.toNat - payC c (gO b i.toNat) = B - (payOf c b i.toNat + payC c (gO b i.toNat)) by omega]
    have k10 : ¬ ((gO b i.toNat).1 = 10) := @of_decide_eq_false _ _ k10
    have hk := kn_kind g2
    have hp2 : popR r (gO b i.toNat) = 2 := by unfold popR; rw [if_neg (by omega), if_neg k9, if_neg k10]
    have htl : ((st.drop (IntKind.i64.wrap ((st.length : Int) - popR r (gO b i.toNat))).toNat)).length = 2 := by rw [List.length_drop, hD]; omega
    have hv := valsOk_drop hbd (IntKind.i64.wrap ((st.length : Int) - popR r (gO b i.toNat))).toNat
    conv => whnf
    refine ⟨(by omega), ?_⟩
    conv => whnf
    refine ⟨show (0 : Int) < (((st.drop (IntKind.i64.wrap ((st.length : Int) - popR r (gO b i.toNat))).toNat)).length : Int) by omega, ?_⟩
    conv => whnf
    refine ⟨(by omega), ?_⟩
    conv => whnf
    refine ⟨show (1 : Int) < (((st.drop (IntKind.i64.wrap ((st.length : Int) - popR r (gO b i.toNat))).toNat)).length : Int) by omega, ?_⟩
    conv => whnf
    refine ⟨hv 0, ?_⟩
    conv => whnf
    refine ⟨hv 1, ?_⟩
    conv => whnf
    refine ⟨show ((st.take (IntKind.i64.wrap ((st.length : Int) - popR r (gO b i.toNat))).toNat).length + 1) * 8 ≤ 70368744177664 by rw [List.length_take]; omega, ?_⟩
    conv => whnf
    refine ⟨show (st.take (IntKind.i64.wrap ((st.length : Int) - popR r (gO b i.toNat))).toNat).length + 1 ≤ 70368744177664 by rw [List.length_take]; omega, ?_⟩
    conv => whnf
    refine ⟨i + 1, ?_, ⟨by omega, by omega, by rw [ei, hps]; omega⟩, by omega⟩
    · refine Eq.trans (b := S44 r c b a (payL c (gO b i.toNat) (B - payOf c b i.toNat)) (st.take (IntKind.i64.wrap ((st.length : Int) - popR r (gO b i.toNat))).toNat ++ [keptR (twoP (gO b i.toNat).1 (gI (st.drop (IntKind.i64.wrap ((st.length : Int) - popR r (gO b i.toNat))).toNat) 0) (gI (st.drop (IntKind.i64.wrap ((st.length : Int) - popR r (gO b i.toNat))).toNat) 1))]) (IntKind.i64.wrap (i + 1))) rfl ?_
      rw [wi, ei, hpl, hps, hstn, show stepN a (calR r) (gO b i.toNat) (st.drop (st.length - (popR r (gO b i.toNat)).toNat)) = keptR (twoP (gO b i.toNat).1 (gI (st.drop (IntKind.i64.wrap ((st.length : Int) - popR r (gO b i.toNat))).toNat) 0) (gI (st.drop (IntKind.i64.wrap ((st.length : Int) - popR r (gO b i.toNat))).toNat) 1)) by unfold stepN; rw [if_neg k0, if_neg k1, if_neg k9, if_neg k10, ← hD]; exact (two_same (k := (gO b i.toNat).1) (by omega) (hv 0) (hv 1)).symm, hD]
      rw [show B - payOf c b i.toNat - payC c (gO b i.toNat) = B - (payOf c b i.toNat + payC c (gO b i.toNat)) by omega]
  have hi : ¬ (i < (b.length : Int)) := @of_decide_eq_false _ _ hi
  rw [show i.toNat = b.length by omega] at i2 ⊢
  have hst := st_len hg.1 (by omega) (args := a) (cal := calR r) (sound_hJ hs).1
  have hsa : stopAt c b B = b.length := (stop_all hck hB0).2 i2
  have e1 : runV r c b a B = gI (stJ r a (calR r) b b.length) 0 := by unfold runV; rw [hsa, if_pos rfl, valR_eq hg hs hbl]
  have e2 : runK c b B = true := by unfold runK; rw [hsa]; exact decide_eq_true rfl
  have e3 : leftL c b B = B - payOf c b b.length := by unfold leftL; rw [hsa]
  rw [e1, e2, e3]
  conv => whnf
  refine ⟨(by omega), ?_⟩
  conv => whnf
  refine ⟨show (0 : Int) < ((stJ r a (calR r) b b.length).length : Int) by omega, ?_⟩
  conv => whnf
  refine EndB.mk (Or.inl rfl) ⟨_, rfl, rfl⟩ ⟨_, rfl, rfl, rfl⟩
theorem k38_0 : FxOk Go.Proofs.Tryz.prog 38 (X38 0) := by
  refine fx_box (E := noE) (TOk.of tab_told) (fun f k h => by cases h) mix Go.Proofs.Tryz.func38 rfl rfl (by kernel_rfl) ?_ ?_
  · intro ks q h
    obtain ⟨r, c, B, b, a, rfl, rfl⟩ := F38_some h
    kernel_rfl
  intro ks ps val outs h hp
  obtain ⟨r, c, B, b, a, rfl, h⟩ := F38_some h
  cases h
  obtain ⟨_, _, ⟨bf, hbf, _⟩, _⟩ : P38 0 r c b a := hp _ (List.mem_cons_self ..)
  omega
def E38 (f : Nat) : Env := ⟨tab, [(44, .eff (X44 f))], fun _ => none⟩
theorem k38_succ {f : Nat} (h44 : FxOk Go.Proofs.Tryz.prog 44 (X44 f)) : FxOk Go.Proofs.Tryz.prog 38 (X38 (f + 1)) := by
  refine fx_box (E := E38 f) (TOk.of tab_told) (AllOk.consX h44 .nil).at_ mix Go.Proofs.Tryz.func38 rfl rfl (by kernel_rfl) ?_ ?_
  · intro ks q h
    obtain ⟨r, c, B, b, a, rfl, rfl⟩ := F38_some h
    kernel_rfl
  intro ks ps val outs h hp
  obtain ⟨r, c, B, b, a, rfl, h⟩ := F38_some h
  cases h
  obtain ⟨hg, hch, hs, ha, hal, hpay⟩ : P38 (f + 1) r c b a := hp _ (List.mem_cons_self ..)
  clear hp h
  have hck : costOk c := by rw [hch.1]; exact costs_ok r
  have e1 : valR r b a = runV r c b a 100000 := by unfold runV; rw [if_pos ((stop_all hck (by omega)).2 hpay)]
  rw [e1]
  conv => whnf
  refine ⟨⟨hg, hch, hs, ha, by omega, by omega⟩, ?_⟩
  conv => whnf
  refine EndB.mk (Or.inl rfl) ⟨_, rfl, rfl⟩ ⟨_, rfl, rfl, rfl⟩
theorem k38 : ∀ f, FxOk Go.Proofs.Tryz.prog 38 (X38 f)
  | 0 => k38_0
  | f + 1 => k38_succ (k44_of (k38q_of (k38 f)))
theorem k44 (f : Nat) : FxOk Go.Proofs.Tryz.prog 44 (X44 f) := k44_of (k38q_of (k38 f))
theorem k38q (f : Nat) : FxOk Go.Proofs.Tryz.prog 38 (X38q f) := k38q_of (k38 f)
end
end Go.Proofs.YtaafjaibaaiigaaGreatDoor.Eng
set_option linter.unusedVariables false
set_option linter.unusedSimpArgs false
namespace Go.Proofs.YtaafjaibaaiigaaGreatDoor.Eng
open Go
set_option maxRecDepth 100000
noncomputable section
theorem orR6 (a : Int) : orR [a, 0, 0, 0, 0, 0] = a := by
  by_cases h : a = 0
  · subst h; rfl
  · exact or_at (l := [a, 0, 0, 0, 0, 0]) (i := 0) (by simp) (fun k hk => by omega) h
theorem nmC0 : nmC [] := fun i => by unfold gC; simp [zCg]; exact Nat.zero_le _
theorem nmM0 : nmM [] := fun i => by unfold gM; simp [zMo]; exact Nat.zero_le _
theorem rules_big {r : List Ru} {w : List ByteArray} (h : lrgR r = true) : rulesW r w = 4 := by unfold rulesW; rw [if_pos h]
theorem rules_not {r : List Ru} {w : List ByteArray} (h : lrgR r = false) : rulesW r w = valW r w := by unfold rulesW; rw [if_neg (by rw [h]; decide)]
def E10 : Env := ⟨tab, [(20, K20), (22, K22), (23, K23), (24, K24), (25, K25), (26, K26), (27, K27), (21, K21)], fun n => match n with  | _ => none⟩
def K10 : Fn1 := ⟨.one coT, .one I, fun (c : Co) => [c.2 = (([], [], [], []) : List Cg × List Pl × List Cg × List Mo), nmR c.1, bodyOk c.1, c.1.length ≤ 1000], fun (c : Co) => rulesR c.1⟩
set_option maxHeartbeats 1000000 in
theorem k10 : FnOk Go.Proofs.Tryz.prog 10 K10 := by
  refine fn_ok (E := E10) (TOk.of tab_told) (AllOk.cons k20 (.cons k22 (.cons k23 (.cons k24 (.cons k25 (.cons k26 (.cons k27 (.cons k21 .nil)))))))).at_ mix Go.Proofs.Tryz.func10 rfl rfl (by kernel_rfl) K10 ?_
  rintro ⟨(r : List Ru), c⟩ hp
  have hz : c = (([], [], [], []) : List Cg × List Pl × List Cg × List Mo) := hp _ (List.mem_cons_self ..)
  have hn : nmR r := hp _ (List.mem_cons_of_mem _ (List.mem_cons_self ..))
  have hb : bodyOk r := hp _ (List.mem_cons_of_mem _ (List.mem_cons_of_mem _ (List.mem_cons_self ..)))
  have hl : r.length ≤ 1000 := hp _ (List.mem_cons_of_mem _ (List.mem_cons_of_mem _ (List.mem_cons_of_mem _ (List.mem_cons_self ..))))
  clear hp
  subst hz
  conv => whnf
  refine ⟨rfl, ?_⟩
  conv => whnf
  refine ⟨hb, ?_⟩
  conv => whnf
  refine cond_intro (fun h0 => ?_) (fun h0 => ?_)
  · have h0 : (lrgR r) = true := h0
    conv => whnf
    show (4 : Int) = rulesW r []
    exact (rules_big h0).symm
  have h0 : (lrgR r) = false := h0
  conv => whnf
  refine ⟨rfl, ?_⟩
  conv => whnf
  refine ⟨hn, ?_⟩
  conv => whnf
  refine ⟨hb, ?_⟩
  conv => whnf
  refine ⟨hl, ?_⟩
  conv => whnf
  refine ⟨nmC0, ?_⟩
  conv => whnf
  refine ⟨rfl, ?_⟩
  conv => whnf
  refine ⟨nmC0, ?_⟩
  conv => whnf
  refine ⟨nmM0, ?_⟩
  conv => whnf
  refine ⟨rfl, ?_⟩
  conv => whnf
  refine ⟨(by show 6 ≤ 140737488351232; omega), ?_⟩
  conv => whnf
  show orR [valW r [], 0, 0, 0, 0, 0] = rulesW r []
  rw [orR6, rules_not h0]
def E35 : Env := ⟨tab, [(10, K10)], fun n => match n with  | _ => none⟩
def K35 : Fn1 := ⟨.one (.sl ruT), .one I, fun (r : List Ru) => [nmR r, bodyOk r, r.length ≤ 1000], fun (r : List Ru) => rulesR r⟩
theorem k35 : FnOk Go.Proofs.Tryz.prog 35 K35 := by
  refine fn_ok (E := E35) (TOk.of tab_told) (AllOk.cons k10 .nil).at_ mix Go.Proofs.Tryz.func35 rfl rfl (by kernel_rfl) K35 ?_
  rintro (r : List Ru) hp
  have hn : nmR r := hp _ (List.mem_cons_self ..)
  have hb : bodyOk r := hp _ (List.mem_cons_of_mem _ (List.mem_cons_self ..))
  have hl : r.length ≤ 1000 := hp _ (List.mem_cons_of_mem _ (List.mem_cons_of_mem _ (List.mem_cons_self ..)))
  clear hp
  conv => whnf
  refine ⟨rfl, ?_⟩
  conv => whnf
  refine ⟨hn, ?_⟩
  conv => whnf
  refine ⟨hb, ?_⟩
  conv => whnf
  refine ⟨hl, ?_⟩
  conv => whnf
  show rulesR r = rulesR r
  rfl
def S29a (r : List Ru) (w : List ByteArray) (i : Int) : SL := ⟨[.sl ruT r, .sl .str w, .undef, .undef, .undef, .undef, .undef, .undef, .undef, .undef, .undef, .undef, .undef, .undef, .undef, .undef, .undef, .undef, .undef, .undef, .undef, .undef, .sl ruT r, .int .i64 r.length, .int .i64 i, .undef, .undef, .undef, .undef, .undef, .undef, .undef, .undef, .undef, .undef, .undef, .undef, .undef, .undef, .undef, .undef, .undef, .undef, .undef, .undef, .undef, .undef, .undef, .undef, .undef, .undef, .undef, .undef, .undef, .undef, .undef, .undef, .undef, .undef, .undef, .undef, .undef, .undef, .undef, .undef, .undef, .undef, .undef, .undef, .undef, .undef, .undef, .undef, .undef, .undef, .undef, .undef, .undef, .undef, .undef, .undef, .undef, .undef, .undef, .undef, .undef, .undef, .undef, .undef, .undef, .undef, .undef, .undef, .undef, .undef, .undef, .undef, .undef, .undef, .undef, .undef, .undef, .undef, .undef, .undef, .undef, .undef, .undef, .undef, .undef, .undef, .undef], [], 0⟩
def S29b (r : List Ru) (w : List ByteArray) (i : Int) : SL := ⟨[.sl ruT r, .sl .str w, .undef, .undef, .undef, .undef, .undef, .undef, .undef, .undef, .undef, .undef, .undef, .undef, .undef, .undef, .undef, .undef, .undef, .undef, .undef, .undef, .undef, .undef, .undef, .undef, .undef, .undef, .undef, .undef, .undef, .undef, .undef, .undef, .own 0, .int .i64 (costsR r).length, .int .i64 i, .undef, .undef, .undef, .undef, .undef, .undef, .undef, .undef, .undef, .undef, .undef, .undef, .undef, .undef, .undef, .undef, .undef, .undef, .undef, .undef, .undef, .undef, .undef, .undef, .undef, .undef, .undef, .undef, .undef, .undef, .undef, .undef, .undef, .undef, .undef, .undef, .undef, .undef, .undef, .undef, .undef, .undef, .undef, .undef, .undef, .undef, .undef, .undef, .undef, .undef, .undef, .undef, .undef, .undef, .undef, .undef, .undef, .undef, .undef, .undef, .undef, .undef, .undef, .undef, .undef, .undef, .undef, .undef, .undef, .undef, .undef, .undef, .undef, .undef, .undef], [(0, .arr I (costsR r))], 1⟩
def S29c (r : List Ru) (w : List ByteArray) (i : Int) : SL := ⟨[.sl ruT r, .sl .str w, .undef, .undef, .undef, .undef, .undef, .undef, .undef, .undef, .undef, .undef, .undef, .undef, .undef, .undef, .undef, .undef, .undef, .undef, .undef, .undef, .undef, .undef, .undef, .undef, .undef, .undef, .undef, .undef, .undef, .undef, .undef, .undef, .undef, .undef, .undef, .undef, .undef, .undef, .undef, .undef, .undef, .sl ruT r, .int .i64 r.length, .int .i64 i, .undef, .undef, .undef, .undef, .undef, .undef, .undef, .undef, .undef, .undef, .undef, .undef, .undef, .undef, .undef, .undef, .undef, .undef, .undef, .undef, .undef, .undef, .undef, .undef, .undef, .undef, .undef, .undef, .undef, .undef, .undef, .undef, .undef, .undef, .undef, .undef, .undef, .undef, .undef, .undef, .undef, .undef, .undef, .undef, .undef, .undef, .undef, .undef, .undef, .undef, .undef, .undef, .undef, .undef, .undef, .undef, .undef, .undef, .undef, .undef, .undef, .undef, .undef, .undef, .undef, .undef], [], 0⟩
def S29d (r : List Ru) (w : List ByteArray) (i : Int) : SL := ⟨[.sl ruT r, .undef, .undef, .undef, .undef, .undef, .undef, .undef, .undef, .undef, .undef, .undef, .undef, .undef, .undef, .undef, .undef, .undef, .undef, .undef, .undef, .undef, .undef, .undef, .undef, .undef, .undef, .undef, .undef, .undef, .undef, .undef, .undef, .undef, .undef, .undef, .undef, .undef, .undef, .undef, .undef, .undef, .undef, .undef, .undef, .undef, .undef, .undef, .undef, .undef, .undef, .undef, .undef, .undef, .undef, .undef, .undef, .undef, .undef, .undef, .undef, .undef, .undef, .undef, .sl .str w, .int .i64 w.length, .int .i64 i, .undef, .undef, .undef, .undef, .undef, .undef, .undef, .undef, .undef, .undef, .undef, .undef, .undef, .undef, .undef, .undef, .undef, .undef, .undef, .undef, .undef, .undef, .undef, .undef, .undef, .undef, .undef, .undef, .undef, .undef, .undef, .undef, .undef, .undef, .undef, .undef, .undef, .undef, .undef, .undef, .undef, .undef, .undef, .undef, .undef], [], 0⟩
def S29e (r : List Ru) (w : List ByteArray) (i : Int) : SL := ⟨[.sl ruT r, .undef, .undef, .undef, .undef, .undef, .undef, .undef, .undef, .undef, .undef, .undef, .undef, .undef, .undef, .undef, .undef, .undef, .undef, .undef, .undef, .undef, .undef, .undef, .undef, .undef, .undef, .undef, .undef, .undef, .undef, .undef, .undef, .undef, .undef, .undef, .undef, .undef, .undef, .undef, .undef, .undef, .undef, .undef, .undef, .undef, .undef, .undef, .undef, .undef, .undef, .undef, .undef, .undef, .undef, .undef, .undef, .undef, .undef, .undef, .undef, .undef, .undef, .undef, .undef, .undef, .undef, .undef, .undef, .undef, .undef, .undef, .undef, .sl ruT r, .int .i64 r.length, .int .i64 i, .undef, .undef, .undef, .undef, .undef, .undef, .undef, .undef, .undef, .undef, .undef, .undef, .undef, .undef, .undef, .undef, .undef, .undef, .undef, .undef, .undef, .undef, .undef, .undef, .undef, .undef, .undef, .undef, .undef, .undef, .undef, .undef, .undef, .undef, .undef, .undef], [], 0⟩
def S29f (r : List Ru) (w : List ByteArray) (i : Int) : SL := ⟨[.sl ruT r, .undef, .undef, .undef, .undef, .undef, .undef, .undef, .undef, .undef, .undef, .undef, .undef, .undef, .undef, .undef, .undef, .undef, .undef, .undef, .undef, .undef, .undef, .undef, .undef, .undef, .undef, .undef, .undef, .undef, .undef, .undef, .undef, .undef, .undef, .undef, .undef, .undef, .undef, .undef, .undef, .undef, .undef, .undef, .undef, .undef, .undef, .undef, .undef, .undef, .undef, .undef, .undef, .undef, .undef, .undef, .undef, .undef, .undef, .undef, .undef, .undef, .undef, .undef, .undef, .undef, .undef, .undef, .undef, .undef, .undef, .undef, .undef, .undef, .undef, .undef, .undef, .undef, .undef, .undef, .undef, .undef, .undef, .undef, .undef, .undef, .undef, .undef, .undef, .undef, .sl ruT r, .int .i64 r.length, .int .i64 i, .undef, .undef, .undef, .undef, .undef, .undef, .undef, .undef, .undef, .undef, .undef, .undef, .undef, .undef, .undef, .undef, .undef, .undef, .undef], [], 0⟩
def S29g (r : List Ru) (x : Ru) (i k : Int) : SL := ⟨[.sl ruT r, .undef, .undef, .undef, .undef, .undef, .undef, .undef, .undef, .undef, .undef, .undef, .undef, .undef, .undef, .undef, .ptr 0 0 0, .undef, .undef, .undef, .undef, .undef, .undef, .undef, .undef, .undef, .undef, .undef, .undef, .undef, .undef, .undef, .undef, .undef, .undef, .undef, .undef, .undef, .undef, .undef, .undef, .undef, .undef, .undef, .undef, .undef, .undef, .undef, .undef, .undef, .undef, .undef, .undef, .undef, .undef, .undef, .undef, .undef, .undef, .undef, .undef, .undef, .undef, .undef, .undef, .undef, .undef, .undef, .undef, .undef, .undef, .undef, .undef, .undef, .undef, .undef, .undef, .undef, .undef, .undef, .undef, .undef, .undef, .undef, .undef, .undef, .undef, .undef, .undef, .undef, .sl ruT r, .int .i64 r.length, .int .i64 i, .undef, .undef, .undef, .undef, .undef, .undef, .sl ruT (r.take i.toNat), .int .i64 (r.take i.toNat).length, .int .i64 k, .undef, .undef, .undef, .undef, .undef, .undef, .undef, .undef, .undef, .undef], [(0, .box [.str x.1, .int .i64 x.2.1, .sl opT x.2.2])], 1⟩
def E29 : Env := ⟨tab, [(42, K42), (64, K64), (65, K65), (45, K45)], fun n => match n with | 4 => some ([0, 1, 22, 23, 24], [], []) | 10 => some ([0, 1, 34, 35, 36], [], []) | 16 => some ([0, 1, 43, 44, 45], [], []) | 22 => some ([0, 64, 65, 66], [], []) | 28 => some ([0, 73, 74, 75], [], []) | 34 => some ([0, 90, 91, 92], [], []) | 37 => some ([0, 16, 90, 91, 92, 99, 100, 101], [], []) | _ => none⟩
def K29 : Fn1 := ⟨.fld (.sl ruT) (.one (.sl .str)), .one I, fun (x : List Ru × List ByteArray) => [bodyOk x.1, x.2.length ≤ 140737488351232], fun (x : List Ru × List ByteArray) => rulesW x.1 x.2⟩
set_option maxHeartbeats 1000000 in
theorem k29 : FnOk Go.Proofs.Tryz.prog 29 K29 := by
  refine fn_ok (E := E29) (TOk.of tab_told) (AllOk.cons k42 (.cons k64 (.cons k65 (.cons k45 .nil)))).at_ mix Go.Proofs.Tryz.func29 rfl rfl (by kernel_rfl) K29 ?_
  rintro ⟨(r : List Ru), (w : List ByteArray)⟩ hp
  have hb : bodyOk r := hp _ (List.mem_cons_self ..)
  have hw : w.length ≤ 140737488351232 := hp _ (List.mem_cons_of_mem _ (List.mem_cons_self ..))
  clear hp
  conv => whnf
  refine cond_intro (fun h0 => ?_) (fun h0 => ?_)
  · have h0 : 30 < (r.length : Int) := @of_decide_eq_true _ _ h0
    conv => whnf
    show (4 : Int) = rulesW r w
    exact (rules_big (lrg_len h0)).symm
  have h0 : ¬ (30 < (r.length : Int)) := @of_decide_eq_false _ _ h0
  conv => whnf
  refine loop_rule (S29a r w) (fun i => ((r.length : Int) - i).toNat) (fun i => 0 ≤ i ∧ i ≤ (r.length : Int) ∧ allG (fun i => decide (((gR r i).2.2.length : Int) ≤ 60)) i.toNat = true) ?_ 0 (by kernel_rfl) ?_ ⟨by omega, by omega, rfl⟩
  case refine_2 => rfl
  rintro i ⟨i0, i1, i2⟩
  conv => whnf
  refine cond_intro (fun hi => ?_) (fun hi => ?_)
  · have hi : i < (r.length : Int) := @of_decide_eq_true _ _ hi
    have wi : IntKind.i64.wrap (i + 1) = i + 1 := wrap_eq (by omega) (by omega)
    have ei : (i + 1).toNat = i.toNat + 1 := by omega
    conv => whnf
    refine ⟨i0, ?_⟩
    conv => whnf
    refine ⟨hi, ?_⟩
    conv => whnf
    refine cond_intro (fun h1 => ?_) (fun h1 => ?_)
    · have h1 : 60 < ((gR r i.toNat).2.2.length : Int) := @of_decide_eq_true _ _ h1
      conv => whnf
      show (4 : Int) = rulesW r w
      exact (rules_big (lrg_body (i := i.toNat) (by omega) h1)).symm
    have h1 : ¬ (60 < ((gR r i.toNat).2.2.length : Int)) := @of_decide_eq_false _ _ h1
    conv => whnf
    refine ⟨i + 1, ?_, ⟨by omega, by omega, ?_⟩, by omega⟩
    · exact Eq.trans (b := S29a r w (IntKind.i64.wrap (i + 1))) rfl (by rw [wi])
    · rw [ei]; exact allG_succ i2 (decide_eq_true (Int.not_lt.1 h1))
  have hi : ¬ (i < (r.length : Int)) := @of_decide_eq_false _ _ hi
  rw [show i.toNat = r.length by omega] at i2
  have hsh : shtRs r = true := i2
  clear i2
  conv => whnf
  refine ⟨show r.length ≤ 1000 by omega, ?_⟩
  conv => whnf
  refine ⟨hb, ?_⟩
  conv => whnf
  refine loop_rule (S29b r w) (fun i => ((r.length : Int) - i).toNat) (fun i => 0 ≤ i ∧ i ≤ (r.length : Int) ∧ allG (fun i => decide (gI (costsR r) i ≤ 100000)) i.toNat = true) ?_ 0 (by kernel_rfl) ?_ ⟨by omega, by omega, rfl⟩
  case refine_2 => rfl
  rintro i ⟨i0, i1, i2⟩
  have hcl : (costsR r).length = r.length := costs_len r
  conv => whnf
  refine cond_intro (fun hi => ?_) (fun hi => ?_)
  · have hi : i < ((costsR r).length : Int) := @of_decide_eq_true _ _ hi
    have wi : IntKind.i64.wrap (i + 1) = i + 1 := wrap_eq (by omega) (by omega)
    have ei : (i + 1).toNat = i.toNat + 1 := by omega
    conv => whnf
    refine ⟨i0, ?_⟩
    conv => whnf
    refine ⟨hi, ?_⟩
    conv => whnf
    refine cond_intro (fun h1 => ?_) (fun h1 => ?_)
    · have h1 : 100000 < gI (costsR r) i.toNat := @of_decide_eq_true _ _ h1
      conv => whnf
      show (4 : Int) = rulesW r w
      exact (rules_big (lrg_cost (i := i.toNat) (by omega) h1)).symm
    have h1 : ¬ (100000 < gI (costsR r) i.toNat) := @of_decide_eq_false _ _ h1
    conv => whnf
    refine ⟨i + 1, ?_, ⟨by omega, by omega, ?_⟩, by omega⟩
    · exact Eq.trans (b := S29b r w (IntKind.i64.wrap (i + 1))) rfl (by rw [wi])
    · rw [ei]; exact allG_succ i2 (decide_eq_true (Int.not_lt.1 h1))
  have hi : ¬ (i < ((costsR r).length : Int)) := @of_decide_eq_false _ _ hi
  rw [show i.toNat = r.length by omega] at i2
  have hlr : lrgR r = false := lrg_not h0 hsh i2
  clear i2
  conv => whnf
  refine loop_rule (S29c r w) (fun i => ((r.length : Int) - i).toNat) (fun i => 0 ≤ i ∧ i ≤ (r.length : Int) ∧ allG (fun i => okRu (gR r i)) i.toNat = true) ?_ 0 (by kernel_rfl) ?_ ⟨by omega, by omega, rfl⟩
  case refine_2 => rfl
  rintro i ⟨i0, i1, i2⟩
  conv => whnf
  refine cond_intro (fun hi => ?_) (fun hi => ?_)
  · have hi : i < (r.length : Int) := @of_decide_eq_true _ _ hi
    have wi : IntKind.i64.wrap (i + 1) = i + 1 := wrap_eq (by omega) (by omega)
    have ei : (i + 1).toNat = i.toNat + 1 := by omega
    conv => whnf
    refine ⟨i0, ?_⟩
    conv => whnf
    refine ⟨hi, ?_⟩
    conv => whnf
    refine cond_intro (fun t0 => ?_) (fun t0 => ?_)
    · have t0 : (!(namedB (gR r i.toNat).1)) = true := t0
      have t0 : (namedB (gR r i.toNat).1) = false := by cases e : (namedB (gR r i.toNat).1) with | false => rfl | true => exact absurd t0 (by rw [e]; decide)
      conv => whnf
      repeat (first | (refine cond_intro (fun h => absurd h (by decide)) (fun h => ?_); conv => whnf) | (refine cond_intro (fun h => ?_) (fun h => absurd h (by decide)); conv => whnf))
      conv => whnf
      show (1 : Int) = rulesW r w
      rw [rules_not hlr]
      exact (valW_ok1 (i := i.toNat) (by omega) (by unfold okRu; rw [t0]; rfl)).symm
    have t0 : (!(namedB (gR r i.toNat).1)) = false := t0
    have t0 : (namedB (gR r i.toNat).1) = true := by cases e : (namedB (gR r i.toNat).1) with | true => rfl | false => exact absurd t0 (by rw [e]; decide)
    conv => whnf
    repeat (first | (refine cond_intro (fun h => absurd h (by decide)) (fun h => ?_); conv => whnf) | (refine cond_intro (fun h => ?_) (fun h => absurd h (by decide)); conv => whnf))
    conv => whnf
    refine cond_intro (fun t1 => ?_) (fun t1 => ?_)
    · have t1 : (gR r i.toNat).2.1 < 0 := @of_decide_eq_true _ _ t1
      conv => whnf
      repeat (first | (refine cond_intro (fun h => absurd h (by decide)) (fun h => ?_); conv => whnf) | (refine cond_intro (fun h => ?_) (fun h => absurd h (by decide)); conv => whnf))
      conv => whnf
      show (1 : Int) = rulesW r w
      rw [rules_not hlr]
      exact (valW_ok1 (i := i.toNat) (by omega) (by unfold okRu; rw [in_lo (by omega), Bool.and_false])).symm
    have t1 : ¬ ((gR r i.toNat).2.1 < 0) := @of_decide_eq_false _ _ t1
    conv => whnf
    repeat (first | (refine cond_intro (fun h => absurd h (by decide)) (fun h => ?_); conv => whnf) | (refine cond_intro (fun h => ?_) (fun h => absurd h (by decide)); conv => whnf))
    conv => whnf
    refine cond_intro (fun t2 => ?_) (fun t2 => ?_)
    · have t2 : 4 < (gR r i.toNat).2.1 := @of_decide_eq_true _ _ t2
      conv => whnf
      repeat (first | (refine cond_intro (fun h => absurd h (by decide)) (fun h => ?_); conv => whnf) | (refine cond_intro (fun h => ?_) (fun h => absurd h (by decide)); conv => whnf))
      conv => whnf
      show (1 : Int) = rulesW r w
      rw [rules_not hlr]
      exact (valW_ok1 (i := i.toNat) (by omega) (by unfold okRu; rw [in_hi (by omega), Bool.and_false])).symm
    have t2 : ¬ (4 < (gR r i.toNat).2.1) := @of_decide_eq_false _ _ t2
    conv => whnf
    repeat (first | (refine cond_intro (fun h => absurd h (by decide)) (fun h => ?_); conv => whnf) | (refine cond_intro (fun h => ?_) (fun h => absurd h (by decide)); conv => whnf))
    conv => whnf
    refine ⟨i + 1, ?_, ⟨by omega, by omega, ?_⟩, by omega⟩
    · exact Eq.trans (b := S29c r w (IntKind.i64.wrap (i + 1))) rfl (by rw [wi])
    · rw [ei]; exact allG_succ i2 (by show okRu (gR r i.toNat) = true; unfold okRu; rw [t0, in_ok (by omega) (by omega)]; rfl)
  have hi : ¬ (i < (r.length : Int)) := @of_decide_eq_false _ _ hi
  rw [show i.toNat = r.length by omega] at i2
  have hok : okRs r = true := i2
  clear i2
  conv => whnf
  refine loop_rule (S29d r w) (fun i => ((w.length : Int) - i).toNat) (fun i => 0 ≤ i ∧ i ≤ (w.length : Int) ∧ allG (fun i => !resB (w.getD i ⟨#[]⟩)) i.toNat = true) ?_ 0 (by kernel_rfl) ?_ ⟨by omega, by omega, rfl⟩
  case refine_2 => rfl
  rintro i ⟨i0, i1, i2⟩
  conv => whnf
  refine cond_intro (fun hi => ?_) (fun hi => ?_)
  · have hi : i < (w.length : Int) := @of_decide_eq_true _ _ hi
    have wi : IntKind.i64.wrap (i + 1) = i + 1 := wrap_eq (by omega) (by omega)
    have ei : (i + 1).toNat = i.toNat + 1 := by omega
    conv => whnf
    refine ⟨i0, ?_⟩
    conv => whnf
    refine ⟨hi, ?_⟩
    conv => whnf
    refine cond_intro (fun c => ?_) (fun c => ?_)
    · have c : (resB (w.getD i.toNat ⟨#[]⟩)) = true := c
      conv => whnf
      show (1 : Int) = rulesW r w
      rw [rules_not hlr]
      exact (valW_wd hok (i := i.toNat) (by omega) c).symm
    have c : (resB (w.getD i.toNat ⟨#[]⟩)) = false := c
    conv => whnf
    refine ⟨i + 1, ?_, ⟨by omega, by omega, ?_⟩, by omega⟩
    · exact Eq.trans (b := S29d r w (IntKind.i64.wrap (i + 1))) rfl (by rw [wi])
    · rw [ei]; exact allG_succ i2 (by show (!resB (w.getD i.toNat ⟨#[]⟩)) = true; rw [c]; rfl)
  have hi : ¬ (i < (w.length : Int)) := @of_decide_eq_false _ _ hi
  rw [show i.toNat = w.length by omega] at i2
  have hwd : wdsB w = true := i2
  clear i2
  conv => whnf
  refine loop_rule (S29e r w) (fun i => ((r.length : Int) - i).toNat) (fun i => 0 ≤ i ∧ i ≤ (r.length : Int) ∧ allG (fun i => soundB r i (gR r i).2.1 (gR r i).2.2) i.toNat = true) ?_ 0 (by kernel_rfl) ?_ ⟨by omega, by omega, rfl⟩
  case refine_2 => rfl
  rintro i ⟨i0, i1, i2⟩
  conv => whnf
  refine cond_intro (fun hi => ?_) (fun hi => ?_)
  · have hi : i < (r.length : Int) := @of_decide_eq_true _ _ hi
    have wi : IntKind.i64.wrap (i + 1) = i + 1 := wrap_eq (by omega) (by omega)
    have ei : (i + 1).toNat = i.toNat + 1 := by omega
    have htl : (r.take i.toNat).length = i.toNat := by rw [List.length_take]; omega
    conv => whnf
    refine ⟨i0, ?_⟩
    conv => whnf
    refine ⟨hi, ?_⟩
    conv => whnf
    refine ⟨i0, ?_⟩
    conv => whnf
    refine ⟨show i ≤ (r.length : Int) by omega, ?_⟩
    conv => whnf
    refine ⟨(fun x hx => okRs_args hok x (List.mem_of_mem_take hx)), ?_⟩
    conv => whnf
    refine cond_intro (fun c => ?_) (fun c => ?_)
    · have c : (!(soundB (r.take i.toNat) (r.take i.toNat).length (gR r i.toNat).2.1 (gR r i.toNat).2.2)) = true := c
      have c : (soundB (r.take i.toNat) (r.take i.toNat).length (gR r i.toNat).2.1 (gR r i.toNat).2.2) = false := by cases e : (soundB (r.take i.toNat) (r.take i.toNat).length (gR r i.toNat).2.1 (gR r i.toNat).2.2) with | false => rfl | true => exact absurd c (by rw [e]; decide)
      rw [htl, sound_take (by omega)] at c
      conv => whnf
      show (15 : Int) = rulesW r w
      rw [rules_not hlr]
      exact (valW_snd hok hwd (i := i.toNat) (by omega) c).symm
    have c : (!(soundB (r.take i.toNat) (r.take i.toNat).length (gR r i.toNat).2.1 (gR r i.toNat).2.2)) = false := c
    have c : (soundB (r.take i.toNat) (r.take i.toNat).length (gR r i.toNat).2.1 (gR r i.toNat).2.2) = true := by cases e : (soundB (r.take i.toNat) (r.take i.toNat).length (gR r i.toNat).2.1 (gR r i.toNat).2.2) with | true => rfl | false => exact absurd c (by rw [e]; decide)
    rw [htl, sound_take (by omega)] at c
    conv => whnf
    refine ⟨i + 1, ?_, ⟨by omega, by omega, ?_⟩, by omega⟩
    · exact Eq.trans (b := S29e r w (IntKind.i64.wrap (i + 1))) rfl (by rw [wi])
    · rw [ei]; exact allG_succ i2 (c)
  have hi : ¬ (i < (r.length : Int)) := @of_decide_eq_false _ _ hi
  rw [show i.toNat = r.length by omega] at i2
  have hsn : sndRs r = true := i2
  clear i2
  conv => whnf
  refine loop_rule (S29f r w) (fun i => ((r.length : Int) - i).toNat) (fun i => 0 ≤ i ∧ i ≤ (r.length : Int) ∧ allG (fun i => freshG (fun i => (gR r i).1) i i) i.toNat = true) ?_ 0 (by kernel_rfl) ?_ ⟨by omega, by omega, rfl⟩
  case refine_2 => rfl
  rintro i ⟨i0, i1, i2⟩
  conv => whnf
  refine cond_intro (fun hi => ?_) (fun hi => ?_)
  · have hi : i < (r.length : Int) := @of_decide_eq_true _ _ hi
    have wi : IntKind.i64.wrap (i + 1) = i + 1 := wrap_eq (by omega) (by omega)
    have ei : (i + 1).toNat = i.toNat + 1 := by omega
    conv => whnf
    refine ⟨i0, ?_⟩
    conv => whnf
    refine ⟨hi, ?_⟩
    conv => whnf
    refine ⟨i0, ?_⟩
    conv => whnf
    refine ⟨show i ≤ (r.length : Int) by omega, ?_⟩
    conv => whnf
    refine loop_rule (S29g r (gR r i.toNat) i) (fun k => (i - k).toNat) (fun k => 0 ≤ k ∧ k ≤ i ∧ freshG (fun i => (gR r i).1) i.toNat k.toNat = true) ?_ 0 (by kernel_rfl) ?_ ⟨by omega, by omega, rfl⟩
    case refine_2 => rfl
    rintro k ⟨k0, k1, k2⟩
    have htl : (r.take i.toNat).length = i.toNat := by rw [List.length_take]; omega
    conv => whnf
    refine cond_intro (fun hk => ?_) (fun hk => ?_)
    · have hk : k < ((r.take i.toNat).length : Int) := @of_decide_eq_true _ _ hk
      have wk : IntKind.i64.wrap (k + 1) = k + 1 := wrap_eq (by omega) (by omega)
      have ek : (k + 1).toNat = k.toNat + 1 := by omega
      conv => whnf
      refine ⟨k0, ?_⟩
      conv => whnf
      refine ⟨hk, ?_⟩
      conv => whnf
      refine cond_intro (fun e1 => ?_) (fun e1 => ?_)
      · have e1 : (((gR (r.take i.toNat) k.toNat).1.toList == ByteArray.toList (gR r i.toNat).1)) = true := e1
        rw [gR_take (by omega), tl_iff] at e1
        have e1 := of_decide_eq_true e1
        conv => whnf
        show (3 : Int) = rulesW r w
        rw [rules_not hlr]
        exact (valW_dup hok hwd hsn (i := i.toNat) (k := k.toNat) (by omega) (by omega) e1).symm
      have e1 : (((gR (r.take i.toNat) k.toNat).1.toList == ByteArray.toList (gR r i.toNat).1)) = false := e1
      rw [gR_take (by omega), tl_iff] at e1
      have e1 := of_decide_eq_false e1
      conv => whnf
      refine ⟨k + 1, ?_, ⟨by omega, by omega, ?_⟩, by omega⟩
      · exact Eq.trans (b := S29g r (gR r i.toNat) i (IntKind.i64.wrap (k + 1))) rfl (by rw [wk])
      · rw [ek]; exact allG_succ k2 (by show (!decide ((gR r k.toNat).1 = (gR r i.toNat).1)) = true; rw [decide_eq_false e1]; rfl)
    have hk : ¬ (k < ((r.take i.toNat).length : Int)) := @of_decide_eq_false _ _ hk
    rw [show k.toNat = i.toNat by omega] at k2
    conv => whnf
    refine ⟨i + 1, ?_, ⟨by omega, by omega, ?_⟩, by omega⟩
    · exact Eq.trans (b := S29f r w (IntKind.i64.wrap (i + 1))) rfl (by rw [wi])
    · rw [ei]; exact allG_succ i2 k2
  have hi : ¬ (i < (r.length : Int)) := @of_decide_eq_false _ _ hi
  rw [show i.toNat = r.length by omega] at i2
  conv => whnf
  show (0 : Int) = rulesW r w
  rw [rules_not hlr]
  exact (valW_0 hok hwd hsn i2).symm
def E39 : Env := ⟨tab, [(29, K29)], fun n => match n with  | _ => none⟩
def K39 : Fn1 := ⟨.one (.sl ruT), .one I, fun (r : List Ru) => [bodyOk r], fun (r : List Ru) => rulesR r⟩
theorem k39 : FnOk Go.Proofs.Tryz.prog 39 K39 := by
  refine fn_ok (E := E39) (TOk.of tab_told) (AllOk.cons k29 .nil).at_ mix Go.Proofs.Tryz.func39 rfl rfl (by kernel_rfl) K39 ?_
  rintro (r : List Ru) hp
  have hb : bodyOk r := hp _ (List.mem_cons_self ..)
  clear hp
  conv => whnf
  refine ⟨hb, ?_⟩
  conv => whnf
  refine ⟨(by show 0 ≤ 140737488351232; omega), ?_⟩
  conv => whnf
  show rulesW r [] = rulesR r
  rfl
end
end Go.Proofs.YtaafjaibaaiigaaGreatDoor.Eng
set_option linter.unusedVariables false
set_option linter.unusedSimpArgs false
namespace Go.Proofs.YtaafjaibaaiigaaGreatDoor.Eng
open Go
set_option maxRecDepth 100000
noncomputable section
def okL (x : Ru) : Bool := decide ((x.2.2.length : Int) ≤ 400) && decide ((x.1.size : Int) ≤ 400)
def smlR (r : List Ru) : Bool := allG (fun i => okL (gR r i)) r.length
def gW (w : List ByteArray) (i : Nat) : ByteArray := w.getD i ⟨#[]⟩
def smlW (w : List ByteArray) : Bool := allG (fun i => decide (((gW w i).size : Int) ≤ 400)) w.length
def longB (r : List Ru) (b : List Op2) (a : List Int) (w : List ByteArray) : Bool := !smlR r || (!smlW w || (decide (400 < (r.length : Int)) || (decide (400 < (b.length : Int)) || (decide (400 < (a.length : Int)) || decide (400 < (w.length : Int))))))
theorem long_f {r : List Ru} {b : List Op2} {a : List Int} {w : List ByteArray} (h : longB r b a w = false) : nmR r ∧ bodyOk r ∧ r.length ≤ 400 ∧ b.length ≤ 400 ∧ a.length ≤ 400 ∧ w.length ≤ 400 ∧ smlW w = true := by
  unfold longB at h
  simp only [Bool.or_eq_false_iff, decide_eq_false_iff_not, Bool.not_eq_false'] at h
  obtain ⟨h1, h2, h3, h4, h5, h6⟩ := h
  have key : ∀ i, (gR r i).2.2.length ≤ 400 ∧ (gR r i).1.size ≤ 400 := by
    intro i
    by_cases hi : i < r.length
    · have := allG_at (p := fun i => okL (gR r i)) h1 hi
      simp only [okL, Bool.and_eq_true, decide_eq_true_eq] at this
      omega
    · have e : gR r i = zRu := by unfold gR; rw [List.getD_eq_getElem?_getD, List.getElem?_eq_none (by omega)]; rfl
      rw [e]
      exact ⟨Nat.zero_le _, Nat.zero_le _⟩
  refine ⟨fun i => by have := key i; omega, fun x hx => ?_, by omega, by omega, by omega, by omega, h2⟩
  obtain ⟨k, hk, rfl⟩ := List.getElem_of_mem hx
  have := key k
  rw [gR_eq hk] at this
  omega
theorem long_r {r : List Ru} {b : List Op2} {a : List Int} {w : List ByteArray} {i : Nat} (hi : i < r.length) (e : okL (gR r i) = false) : longB r b a w = true := by
  unfold longB smlR; rw [allG_bad hi e]; rfl
theorem long_w {r : List Ru} {b : List Op2} {a : List Int} {w : List ByteArray} {i : Nat} (hi : i < w.length) (e : 400 < ((gW w i).size : Int)) : longB r b a w = true := by
  unfold longB smlW; rw [allG_bad (p := fun i => decide (((gW w i).size : Int) ≤ 400)) hi (decide_eq_false (by omega))]; simp
theorem long_l {r : List Ru} {b : List Op2} {a : List Int} {w : List ByteArray} (h1 : smlR r = true) (h2 : smlW w = true) : longB r b a w = (decide (400 < (r.length : Int)) || (decide (400 < (b.length : Int)) || (decide (400 < (a.length : Int)) || decide (400 < (w.length : Int))))) := by
  unfold longB; rw [h1, h2]; rfl
def S12a (r : List Ru) (b : List Op2) (a : List Int) (w : List ByteArray) (i : Int) : SL := ⟨[.sl ruT r, .sl opT b, .sl I a, .sl .str w, .undef, .undef, .undef, .undef, .undef, .undef, .undef, .undef, .undef, .sl ruT r, .int .i64 r.length, .int .i64 i, .undef, .undef, .undef, .undef, .undef, .undef, .undef, .undef, .undef, .undef, .undef, .undef, .undef, .undef, .undef, .undef, .undef, .undef, .undef, .undef, .undef, .undef, .undef, .undef, .undef, .undef, .undef, .undef, .undef, .undef, .undef, .undef, .undef, .undef, .undef, .undef, .undef, .undef, .undef, .undef, .undef, .undef], [], 0⟩
def S12b (r : List Ru) (b : List Op2) (a : List Int) (w : List ByteArray) (i : Int) : SL := ⟨[.sl ruT r, .sl opT b, .sl I a, .sl .str w, .undef, .undef, .undef, .undef, .undef, .undef, .undef, .undef, .undef, .undef, .undef, .undef, .undef, .undef, .undef, .undef, .undef, .undef, .undef, .undef, .undef, .undef, .undef, .undef, .undef, .undef, .sl .str w, .int .i64 w.length, .int .i64 i, .undef, .undef, .undef, .undef, .undef, .undef, .undef, .undef, .undef, .undef, .undef, .undef, .undef, .undef, .undef, .undef, .undef, .undef, .undef, .undef, .undef, .undef, .undef, .undef, .undef], [], 0⟩
def E12 : Env := ⟨tab, [], fun n => match n with | 2 => some ([0, 1, 2, 3, 13, 14, 15], [], []) | 8 => some ([0, 1, 2, 3, 30, 31, 32], [], []) | _ => none⟩
def K12 : Fn1 := ⟨.fld (.sl ruT) (.fld (.sl opT) (.fld (.sl I) (.one (.sl .str)))), .one .bool, fun (x : List Ru × List Op2 × List Int × List ByteArray) => [x.1.length ≤ 140737488351232, x.2.2.2.length ≤ 140737488351232], fun (x : List Ru × List Op2 × List Int × List ByteArray) => longB x.1 x.2.1 x.2.2.1 x.2.2.2⟩
set_option maxHeartbeats 1000000 in
theorem k12 : FnOk Go.Proofs.Tryz.prog 12 K12 := by
  refine fn_ok (E := E12) (TOk.of tab_told) (fun f k h => by cases h) mix Go.Proofs.Tryz.func12 rfl rfl (by kernel_rfl) K12 ?_
  rintro ⟨(r : List Ru), (b : List Op2), (a : List Int), (w : List ByteArray)⟩ hp
  have hrl : r.length ≤ 140737488351232 := hp _ (List.mem_cons_self ..)
  have hwl : w.length ≤ 140737488351232 := hp _ (List.mem_cons_of_mem _ (List.mem_cons_self ..))
  clear hp
  conv => whnf
  refine loop_rule (S12a r b a w) (fun i => ((r.length : Int) - i).toNat) (fun i => 0 ≤ i ∧ i ≤ (r.length : Int) ∧ allG (fun i => okL (gR r i)) i.toNat = true) ?_ 0 (by kernel_rfl) ?_ ⟨by omega, by omega, rfl⟩
  case refine_2 => rfl
  rintro i ⟨i0, i1, i2⟩
  conv => whnf
  refine cond_intro (fun hi => ?_) (fun hi => ?_)
  · have hi : i < (r.length : Int) := @of_decide_eq_true _ _ hi
    have wi : IntKind.i64.wrap (i + 1) = i + 1 := wrap_eq (by omega) (by omega)
    have ei : (i + 1).toNat = i.toNat + 1 := by omega
    conv => whnf
    refine ⟨i0, ?_⟩
    conv => whnf
    refine ⟨hi, ?_⟩
    conv => whnf
    refine cond_intro (fun h1 => ?_) (fun h1 => ?_)
    · have h1 : 400 < ((gR r i.toNat).2.2.length : Int) := @of_decide_eq_true _ _ h1
      conv => whnf
      repeat (first | (refine cond_intro (fun h => absurd h (by decide)) (fun h => ?_); conv => whnf) | (refine cond_intro (fun h => ?_) (fun h => absurd h (by decide)); conv => whnf))
      conv => whnf
      show true = longB r b a w
      exact (long_r (i := i.toNat) (by omega) (by unfold okL; rw [decide_eq_false (by omega)]; rfl)).symm
    have h1 : ¬ (400 < ((gR r i.toNat).2.2.length : Int)) := @of_decide_eq_false _ _ h1
    conv => whnf
    repeat (first | (refine cond_intro (fun h => absurd h (by decide)) (fun h => ?_); conv => whnf) | (refine cond_intro (fun h => ?_) (fun h => absurd h (by decide)); conv => whnf))
    conv => whnf
    refine cond_intro (fun h2 => ?_) (fun h2 => ?_)
    · have h2 : 400 < ((gR r i.toNat).1.size : Int) := @of_decide_eq_true _ _ h2
      conv => whnf
      repeat (first | (refine cond_intro (fun h => absurd h (by decide)) (fun h => ?_); conv => whnf) | (refine cond_intro (fun h => ?_) (fun h => absurd h (by decide)); conv => whnf))
      conv => whnf
      show true = longB r b a w
      exact (long_r (i := i.toNat) (by omega) (by unfold okL; rw [decide_eq_false (p := ((gR r i.toNat).1.size : Int) ≤ 400) (by omega), Bool.and_false])).symm
    have h2 : ¬ (400 < ((gR r i.toNat).1.size : Int)) := @of_decide_eq_false _ _ h2
    conv => whnf
    repeat (first | (refine cond_intro (fun h => absurd h (by decide)) (fun h => ?_); conv => whnf) | (refine cond_intro (fun h => ?_) (fun h => absurd h (by decide)); conv => whnf))
    conv => whnf
    refine ⟨i + 1, ?_, ⟨by omega, by omega, ?_⟩, by omega⟩
    · exact Eq.trans (b := S12a r b a w (IntKind.i64.wrap (i + 1))) rfl (by rw [wi])
    · rw [ei]; exact allG_succ i2 (by show okL (gR r i.toNat) = true; unfold okL; rw [decide_eq_true (Int.not_lt.1 h1), decide_eq_true (Int.not_lt.1 h2)]; rfl)
  have hi : ¬ (i < (r.length : Int)) := @of_decide_eq_false _ _ hi
  rw [show i.toNat = r.length by omega] at i2
  have hr : smlR r = true := i2
  clear i2
  conv => whnf
  refine loop_rule (S12b r b a w) (fun i => ((w.length : Int) - i).toNat) (fun i => 0 ≤ i ∧ i ≤ (w.length : Int) ∧ allG (fun i => decide (((gW w i).size : Int) ≤ 400)) i.toNat = true) ?_ 0 (by kernel_rfl) ?_ ⟨by omega, by omega, rfl⟩
  case refine_2 => rfl
  rintro i ⟨i0, i1, i2⟩
  conv => whnf
  refine cond_intro (fun hi => ?_) (fun hi => ?_)
  · have hi : i < (w.length : Int) := @of_decide_eq_true _ _ hi
    have wi : IntKind.i64.wrap (i + 1) = i + 1 := wrap_eq (by omega) (by omega)
    have ei : (i + 1).toNat = i.toNat + 1 := by omega
    conv => whnf
    refine ⟨i0, ?_⟩
    conv => whnf
    refine ⟨hi, ?_⟩
    conv => whnf
    refine cond_intro (fun h1 => ?_) (fun h1 => ?_)
    · have h1 : 400 < ((gW w i.toNat).size : Int) := @of_decide_eq_true _ _ h1
      conv => whnf
      show true = longB r b a w
      exact (long_w (i := i.toNat) (by omega) h1).symm
    have h1 : ¬ (400 < ((gW w i.toNat).size : Int)) := @of_decide_eq_false _ _ h1
    conv => whnf
    refine ⟨i + 1, ?_, ⟨by omega, by omega, ?_⟩, by omega⟩
    · exact Eq.trans (b := S12b r b a w (IntKind.i64.wrap (i + 1))) rfl (by rw [wi])
    · rw [ei]; exact allG_succ i2 (decide_eq_true (Int.not_lt.1 h1))
  have hi : ¬ (i < (w.length : Int)) := @of_decide_eq_false _ _ hi
  rw [show i.toNat = w.length by omega] at i2
  conv => whnf
  refine cond_intro (fun c0 => ?_) (fun c0 => ?_)
  · have c0 : 400 < (r.length : Int) := @of_decide_eq_true _ _ c0
    conv => whnf
    repeat (first | (refine cond_intro (fun h => absurd h (by decide)) (fun h => ?_); conv => whnf) | (refine cond_intro (fun h => ?_) (fun h => absurd h (by decide)); conv => whnf))
    conv => whnf
    show true = longB r b a w
    rw [long_l hr i2]
    simp [c0]
  have c0 : ¬ (400 < (r.length : Int)) := @of_decide_eq_false _ _ c0
  conv => whnf
  repeat (first | (refine cond_intro (fun h => absurd h (by decide)) (fun h => ?_); conv => whnf) | (refine cond_intro (fun h => ?_) (fun h => absurd h (by decide)); conv => whnf))
  conv => whnf
  refine cond_intro (fun c1 => ?_) (fun c1 => ?_)
  · have c1 : 400 < (b.length : Int) := @of_decide_eq_true _ _ c1
    conv => whnf
    repeat (first | (refine cond_intro (fun h => absurd h (by decide)) (fun h => ?_); conv => whnf) | (refine cond_intro (fun h => ?_) (fun h => absurd h (by decide)); conv => whnf))
    conv => whnf
    show true = longB r b a w
    rw [long_l hr i2]
    simp [c0, c1]
  have c1 : ¬ (400 < (b.length : Int)) := @of_decide_eq_false _ _ c1
  conv => whnf
  repeat (first | (refine cond_intro (fun h => absurd h (by decide)) (fun h => ?_); conv => whnf) | (refine cond_intro (fun h => ?_) (fun h => absurd h (by decide)); conv => whnf))
  conv => whnf
  refine cond_intro (fun c2 => ?_) (fun c2 => ?_)
  · have c2 : 400 < (a.length : Int) := @of_decide_eq_true _ _ c2
    conv => whnf
    repeat (first | (refine cond_intro (fun h => absurd h (by decide)) (fun h => ?_); conv => whnf) | (refine cond_intro (fun h => ?_) (fun h => absurd h (by decide)); conv => whnf))
    conv => whnf
    show true = longB r b a w
    rw [long_l hr i2]
    simp [c0, c1, c2]
  have c2 : ¬ (400 < (a.length : Int)) := @of_decide_eq_false _ _ c2
  conv => whnf
  repeat (first | (refine cond_intro (fun h => absurd h (by decide)) (fun h => ?_); conv => whnf) | (refine cond_intro (fun h => ?_) (fun h => absurd h (by decide)); conv => whnf))
  conv => whnf
  show decide (400 < (w.length : Int)) = longB r b a w
  rw [long_l hr i2]
  simp [c0, c1, c2]
def costP (r : List Ru) (k : Int) : Int × Int := if rulesR r = 0 then (if 0 ≤ k ∧ k < (r.length : Int) then (gI (costsR r) k.toNat, 0) else (0, 2)) else (0, rulesR r)
theorem rules_len {r : List Ru} (h : rulesR r = 0) : r.length ≤ 30 := by have := lrg_f (rules_0 h).1; omega
def E15 : Env := ⟨tab, [(35, K35), (37, K37)], fun n => match n with  | _ => none⟩
def K15 : Fn1 := ⟨.fld (.sl ruT) (.one I), .fld I (.one I), fun (x : List Ru × Int) => [nmR x.1, bodyOk x.1, x.1.length ≤ 1000], fun (x : List Ru × Int) => costP x.1 x.2⟩
theorem k15 : FnOk Go.Proofs.Tryz.prog 15 K15 := by
  refine fn_ok (E := E15) (TOk.of tab_told) (AllOk.cons k35 (.cons k37 .nil)).at_ mix Go.Proofs.Tryz.func15 rfl rfl (by kernel_rfl) K15 ?_
  rintro ⟨(r : List Ru), (k : Int)⟩ hp
  have hn : nmR r := hp _ (List.mem_cons_self ..)
  have hb : bodyOk r := hp _ (List.mem_cons_of_mem _ (List.mem_cons_self ..))
  have hl : r.length ≤ 1000 := hp _ (List.mem_cons_of_mem _ (List.mem_cons_of_mem _ (List.mem_cons_self ..)))
  clear hp
  conv => whnf
  refine ⟨hn, ?_⟩
  conv => whnf
  refine ⟨hb, ?_⟩
  conv => whnf
  refine ⟨hl, ?_⟩
  conv => whnf
  refine cond_intro (fun h0 => ?_) (fun h0 => ?_)
  · have h0 : (!decide (rulesR r = 0)) = true := h0
    have h0 : ¬ (rulesR r = 0) := fun e => absurd h0 (by rw [decide_eq_true e]; decide)
    conv => whnf
    show ((0 : Int), rulesR r) = costP r k
    unfold costP; rw [if_neg h0]
  have h0 : (!decide (rulesR r = 0)) = false := h0
  have h0 : rulesR r = 0 := Decidable.byContradiction fun e => absurd h0 (by rw [decide_eq_false e]; decide)
  have hle := rules_len h0
  conv => whnf
  refine cond_intro (fun h1 => ?_) (fun h1 => ?_)
  · have h1 : k < 0 := @of_decide_eq_true _ _ h1
    conv => whnf
    repeat (first | (refine cond_intro (fun h => absurd h (by decide)) (fun h => ?_); conv => whnf) | (refine cond_intro (fun h => ?_) (fun h => absurd h (by decide)); conv => whnf))
    conv => whnf
    show ((0 : Int), (2 : Int)) = costP r k
    unfold costP; rw [if_pos h0, if_neg (by omega)]
  have h1 : ¬ (k < 0) := @of_decide_eq_false _ _ h1
  conv => whnf
  repeat (first | (refine cond_intro (fun h => absurd h (by decide)) (fun h => ?_); conv => whnf) | (refine cond_intro (fun h => ?_) (fun h => absurd h (by decide)); conv => whnf))
  conv => whnf
  refine cond_intro (fun h2 => ?_) (fun h2 => ?_)
  · have h2 : (r.length : Int) ≤ k := @of_decide_eq_true _ _ h2
    conv => whnf
    repeat (first | (refine cond_intro (fun h => absurd h (by decide)) (fun h => ?_); conv => whnf) | (refine cond_intro (fun h => ?_) (fun h => absurd h (by decide)); conv => whnf))
    conv => whnf
    show ((0 : Int), (2 : Int)) = costP r k
    unfold costP; rw [if_pos h0, if_neg (by omega)]
  have h2 : ¬ ((r.length : Int) ≤ k) := @of_decide_eq_false _ _ h2
  conv => whnf
  repeat (first | (refine cond_intro (fun h => absurd h (by decide)) (fun h => ?_); conv => whnf) | (refine cond_intro (fun h => ?_) (fun h => absurd h (by decide)); conv => whnf))
  conv => whnf
  refine ⟨show r.length ≤ 1000 by omega, ?_⟩
  conv => whnf
  refine ⟨hb, ?_⟩
  conv => whnf
  refine ⟨show 0 ≤ k by omega, ?_⟩
  conv => whnf
  refine ⟨show k < ((costsR r).length : Int) by rw [costs_len]; omega, ?_⟩
  conv => whnf
  show (gI (costsR r) k.toNat, (0 : Int)) = costP r k
  unfold costP; rw [if_pos h0, if_pos (by omega)]
def E16 : Env := ⟨tab, [(39, K39), (42, K42)], fun n => match n with  | _ => none⟩
def K16 : Fn1 := ⟨.fld (.sl ruT) (.one I), .fld I (.one I), fun (x : List Ru × Int) => [bodyOk x.1], fun (x : List Ru × Int) => costP x.1 x.2⟩
theorem k16 : FnOk Go.Proofs.Tryz.prog 16 K16 := by
  refine fn_ok (E := E16) (TOk.of tab_told) (AllOk.cons k39 (.cons k42 .nil)).at_ mix Go.Proofs.Tryz.func16 rfl rfl (by kernel_rfl) K16 ?_
  rintro ⟨(r : List Ru), (k : Int)⟩ hp
  have hb : bodyOk r := hp _ (List.mem_cons_self ..)
  clear hp
  conv => whnf
  refine ⟨hb, ?_⟩
  conv => whnf
  refine cond_intro (fun h0 => ?_) (fun h0 => ?_)
  · have h0 : (!decide (rulesR r = 0)) = true := h0
    have h0 : ¬ (rulesR r = 0) := fun e => absurd h0 (by rw [decide_eq_true e]; decide)
    conv => whnf
    show ((0 : Int), rulesR r) = costP r k
    unfold costP; rw [if_neg h0]
  have h0 : (!decide (rulesR r = 0)) = false := h0
  have h0 : rulesR r = 0 := Decidable.byContradiction fun e => absurd h0 (by rw [decide_eq_false e]; decide)
  have hle := rules_len h0
  conv => whnf
  refine cond_intro (fun h1 => ?_) (fun h1 => ?_)
  · have h1 : k < 0 := @of_decide_eq_true _ _ h1
    conv => whnf
    repeat (first | (refine cond_intro (fun h => absurd h (by decide)) (fun h => ?_); conv => whnf) | (refine cond_intro (fun h => ?_) (fun h => absurd h (by decide)); conv => whnf))
    conv => whnf
    show ((0 : Int), (2 : Int)) = costP r k
    unfold costP; rw [if_pos h0, if_neg (by omega)]
  have h1 : ¬ (k < 0) := @of_decide_eq_false _ _ h1
  conv => whnf
  repeat (first | (refine cond_intro (fun h => absurd h (by decide)) (fun h => ?_); conv => whnf) | (refine cond_intro (fun h => ?_) (fun h => absurd h (by decide)); conv => whnf))
  conv => whnf
  refine cond_intro (fun h2 => ?_) (fun h2 => ?_)
  · have h2 : (r.length : Int) ≤ k := @of_decide_eq_true _ _ h2
    conv => whnf
    repeat (first | (refine cond_intro (fun h => absurd h (by decide)) (fun h => ?_); conv => whnf) | (refine cond_intro (fun h => ?_) (fun h => absurd h (by decide)); conv => whnf))
    conv => whnf
    show ((0 : Int), (2 : Int)) = costP r k
    unfold costP; rw [if_pos h0, if_neg (by omega)]
  have h2 : ¬ ((r.length : Int) ≤ k) := @of_decide_eq_false _ _ h2
  conv => whnf
  repeat (first | (refine cond_intro (fun h => absurd h (by decide)) (fun h => ?_); conv => whnf) | (refine cond_intro (fun h => ?_) (fun h => absurd h (by decide)); conv => whnf))
  conv => whnf
  refine ⟨show r.length ≤ 1000 by omega, ?_⟩
  conv => whnf
  refine ⟨hb, ?_⟩
  conv => whnf
  refine ⟨show 0 ≤ k by omega, ?_⟩
  conv => whnf
  refine ⟨show k < ((costsR r).length : Int) by rw [costs_len]; omega, ?_⟩
  conv => whnf
  show (gI (costsR r) k.toNat, (0 : Int)) = costP r k
  unfold costP; rw [if_pos h0, if_pos (by omega)]
end
end Go.Proofs.YtaafjaibaaiigaaGreatDoor.Eng
