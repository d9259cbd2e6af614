/- What the functions that the law reaches answer, each for every input. -/
import Derived.Test.YtbndaabjlfdfcaaFnOne
import Derived.Test.YtbndaabjlfdfcaaEngTwo
import Derived.Shelf.Lay
import Derived.Shelf.SlGeneric
import Derived.Ground.SlsfProg
set_option linter.unusedVariables false
set_option linter.unusedSimpArgs false
set_option linter.unusedVariables false
set_option linter.unusedSimpArgs false
namespace Go.Proofs.Ytbndaabjlfdfcaa.Eng
open Go
set_option maxRecDepth 100000
noncomputable section
def okW (r : Rl) (b : Bool) (s : Sp) : Bool := !b || gB r.2.2.2 s.1.toNat
inductive Rch (r : Rl) (q : List Sp) (b : Bool) : Sp → Prop where
  | base {s : Sp} (h : s ∈ q) (k : okW r b s = true) : Rch r q b s
  | step {t s : Sp} (h : Rch r q b t) (hn : s ∈ nextR r t) (k : okW r b s = true) : Rch r q b s
theorem Rch.ok {r : Rl} {q : List Sp} {b : Bool} {s : Sp} (h : Rch r q b s) : okW r b s = true := by cases h <;> assumption
def spotN (n : Nat) : Sp := (((n / 24 : Nat) : Int), ((n / 4 % 6 : Nat) : Int), ((n % 4 : Nat) : Int))
def numN (s : Sp) : Nat := ((s.1 * 6 + s.2.1) * 4 + s.2.2).toNat
theorem good_of_there {r : Rl} {s : Sp} (hv : validR r = 0) (h : thereR r s = 0) : (0 ≤ s.1 ∧ s.1 < r.1 * r.2.1) ∧ (0 ≤ s.2.1 ∧ s.2.1 ≤ 5) ∧ (0 ≤ s.2.2 ∧ s.2.2 ≤ 3) := by
  obtain ⟨v, h1, _, h2, _⟩ := back_ok hv h
  exact ⟨h2, other_ok (by rw [h1]), (other_back h1).2.1⟩
theorem spot_num {r : Rl} {s : Sp} (hv : validR r = 0) (h : thereR r s = 0) : spotN (numN s) = s ∧ numN s < 24 * r.2.2.1.length := by
  obtain ⟨h1, h2, h3⟩ := good_of_there hv h
  obtain ⟨_, hl, _⟩ := valid_len hv
  obtain ⟨t, p, o⟩ := s
  simp only at h1 h2 h3
  have hn : (numN (t, p, o) : Int) = (t * 6 + p) * 4 + o := by unfold numN; simp only; omega
  refine ⟨?_, by omega⟩
  unfold spotN
  have e1 : ((numN (t, p, o) / 24 : Nat) : Int) = t := by omega
  have e2 : ((numN (t, p, o) / 4 % 6 : Nat) : Int) = p := by omega
  have e3 : ((numN (t, p, o) % 4 : Nat) : Int) = o := by omega
  rw [e1, e2, e3]
theorem next_there {r : Rl} {s x : Sp} (hv : validR r = 0) (h : x ∈ nextR r s) : thereR r x = 0 := by
  obtain ⟨hb, p, hp, hs⟩ := mem_next.1 h
  have hin := beside_in hv hb
  obtain ⟨_, hl, _, hw, _⟩ := valid_len hv
  unfold stepP at hs
  split at hs
  · cases hs
  rename_i hbit
  split at hs
  · rename_i ho
    cases hs
    obtain ⟨v, hv1⟩ : ∃ v, otherR (p : Int) (turnT s.2.2) = (v, true) := ⟨_, Prod.ext rfl ho⟩
    have hback := (other_back hv1).1
    unfold thereR backR tileR
    simp only [hv1, hback]
    rw [hw]
    rw [if_neg (by simp), if_neg (by simp; omega), if_neg hbit]
  · cases hs
theorem rch_there {r : Rl} {q : List Sp} {b : Bool} {s : Sp} (hv : validR r = 0) (hq : ∀ s ∈ q, thereR r s = 0) (h : Rch r q b s) : thereR r s = 0 := by
  cases h with
  | base h _ => exact hq _ h
  | step _ hn _ => exact next_there hv hn
open Classical in
def reachL (r : Rl) (q : List Sp) (b : Bool) : List Sp := ((List.range (24 * r.2.2.1.length)).map spotN).filter (fun s => decide (Rch r q b s))
def reachR (r : Rl) (q : List Sp) (b : Bool) : List Sp × Int := if allR r q ≠ 0 then ([], allR r q) else (reachL r q b, 0)
theorem mem_reach {r : Rl} {q : List Sp} {b : Bool} {s : Sp} (hv : validR r = 0) (hq : ∀ s ∈ q, thereR r s = 0) : s ∈ reachL r q b ↔ Rch r q b s := by
  unfold reachL
  rw [List.mem_filter]
  constructor
  · rintro ⟨_, h⟩
    simpa using h
  · intro h
    obtain ⟨h1, h2⟩ := spot_num hv (rch_there hv hq h)
    exact ⟨List.mem_map.2 ⟨numN s, List.mem_range.2 h2, h1⟩, by simpa using h⟩
theorem reach_len (r : Rl) (q : List Sp) (b : Bool) : (reachL r q b).length ≤ 24 * r.2.2.1.length := by
  unfold reachL
  refine Nat.le_trans (List.length_filter_le _ _) ?_
  rw [List.length_map, List.length_range]
  exact Nat.le_refl _
theorem all_iff {r : Rl} {q : List Sp} : allR r q = 0 ↔ validR r = 0 ∧ ∀ s ∈ q, thereR r s = 0 := by
  unfold allR
  by_cases h : validR r = 0
  · rw [if_neg (by simp [h]), firstErr_iff]
    exact ⟨fun g => ⟨h, g⟩, fun g => g.2⟩
  · rw [if_pos h]
    exact ⟨fun g => absurd g h, fun g => absurd g.1 h⟩

def cmpR (a b : Int) : Int := if a < b then -1 else if b < a then 1 else 0
def compareS (a b : Sp) : Int := ([cmpR a.1 b.1, cmpR a.2.1 b.2.1, cmpR a.2.2 b.2.2].find? (fun n => decide (n ≠ 0))).getD 0
theorem find3 (a b c : Int) : ([a, b, c].find? (fun n => decide (n ≠ 0))).getD 0 = if a ≠ 0 then a else if b ≠ 0 then b else c := by
  by_cases h1 : a = 0 <;> by_cases h2 : b = 0 <;> by_cases h3 : c = 0 <;> simp [h1, h2, h3]
theorem cmpR_lt (a b : Int) : cmpR a b < 0 ↔ a < b := by unfold cmpR; split <;> (try split) <;> omega
theorem cmpR_eq (a b : Int) : cmpR a b = 0 ↔ a = b := by unfold cmpR; split <;> (try split) <;> omega
def ltS (a b : Sp) : Bool := decide (compareS a b < 0)
theorem ltS_iff (a b : Sp) : ltS a b = true ↔ a.1 < b.1 ∨ (a.1 = b.1 ∧ (a.2.1 < b.2.1 ∨ (a.2.1 = b.2.1 ∧ a.2.2 < b.2.2))) := by
  unfold ltS
  rw [decide_eq_true_eq, compareS, find3]
  by_cases h1 : a.1 = b.1 <;> by_cases h2 : a.2.1 = b.2.1 <;> simp [cmpR_lt, cmpR_eq, h1, h2]
theorem ltS_no (a b : Sp) : ltS a b = false ↔ ¬ (a.1 < b.1 ∨ (a.1 = b.1 ∧ (a.2.1 < b.2.1 ∨ (a.2.1 = b.2.1 ∧ a.2.2 < b.2.2)))) := by
  rw [← ltS_iff, Bool.not_eq_true]
theorem swoS0 : Go.Sort.SWO ltS := by
  refine ⟨fun x => ?_, fun x y z h g => ?_, fun x y z h g => ?_⟩
  · rw [ltS_no]; omega
  · rw [ltS_iff] at *; omega
  · rw [ltS_no] at *; omega
theorem swoS : Go.Sort.SWO (ltOf (α := spT.D) compareS) := swoS0
def sortS (l : List Sp) : List Sp := sortD spT compareS l
theorem sortS_perm (l : List Sp) : (sortS l).Perm l := (sortD_perm swoS l).1
theorem sortS_sorted {l : List Sp} (hn : l.Nodup) : (sortS l).Pairwise fun a b => ltS a b = true := by
  have hn' : (sortS l).Nodup := (sortS_perm l).nodup_iff.2 hn
  rw [List.pairwise_iff_getElem]
  intro i j hi hj hij
  have h1 : ltS (sortS l)[j] (sortS l)[i] = false := (sortD_perm swoS l).2 i j _ _ hij (List.getElem?_eq_getElem hi) (List.getElem?_eq_getElem hj)
  have h2 : (sortS l)[i] ≠ (sortS l)[j] := (List.pairwise_iff_getElem.1 hn') i j hi hj hij
  rw [ltS_no] at h1
  rw [ltS_iff]
  generalize (sortS l)[i] = a at *
  generalize (sortS l)[j] = b at *
  have h3 : ¬ (a.1 = b.1 ∧ a.2.1 = b.2.1 ∧ a.2.2 = b.2.2) := fun h => h2 (Prod.ext h.1 (Prod.ext h.2.1 h.2.2))
  omega
theorem spotN_mono {i j : Nat} (h : i < j) : ltS (spotN i) (spotN j) = true := by
  rw [ltS_iff]
  unfold spotN
  simp only
  omega
theorem reach_sorted (r : Rl) (q : List Sp) (b : Bool) : (reachL r q b).Pairwise fun a b => ltS a b = true := by
  unfold reachL
  refine List.Pairwise.filter _ ?_
  rw [List.pairwise_map]
  exact List.Pairwise.imp (fun h => spotN_mono h) List.pairwise_lt_range
theorem uniq_sorted : ∀ {l m : List Sp}, l.Pairwise (fun a b => ltS a b = true) → m.Pairwise (fun a b => ltS a b = true) → (∀ x, x ∈ l ↔ x ∈ m) → l = m
  | [], [], _, _, _ => rfl
  | [], b :: m, _, _, h => absurd ((h b).2 List.mem_cons_self) (by simp)
  | a :: l, [], _, _, h => absurd ((h a).1 List.mem_cons_self) (by simp)
  | a :: l, b :: m, hl, hm, h => by
    rw [List.pairwise_cons] at hl hm
    have e : a = b := by
      have h1 := (h a).1 List.mem_cons_self
      have h2 := (h b).2 List.mem_cons_self
      rcases List.mem_cons.1 h1 with h1 | h1
      · exact h1
      rcases List.mem_cons.1 h2 with h2 | h2
      · exact h2.symm
      have g1 := hm.1 _ h1
      have g2 := hl.1 _ h2
      rw [ltS_iff] at g1 g2
      omega
    subst e
    have irr : ∀ x, ltS a x = true → x ≠ a := by
      rintro x hx rfl
      rw [ltS_iff] at hx
      omega
    refine congrArg _ (uniq_sorted hl.2 hm.2 fun x => ⟨fun hx => ?_, fun hx => ?_⟩)
    · rcases List.mem_cons.1 ((h x).1 (List.mem_cons_of_mem _ hx)) with g | g
      · exact absurd g (irr x (hl.1 x hx))
      · exact g
    · rcases List.mem_cons.1 ((h x).2 (List.mem_cons_of_mem _ hx)) with g | g
      · exact absurd g (irr x (hm.1 x hx))
      · exact g
theorem reach_nodup (r : Rl) (q : List Sp) (b : Bool) : (reachL r q b).Nodup := by
  refine (reach_sorted r q b).imp ?_
  rintro x _ h rfl
  rw [ltS_iff] at h
  omega
theorem len_of_sub {α : Type} [DecidableEq α] : ∀ {l m : List α}, l.Nodup → (∀ x ∈ l, x ∈ m) → l.length ≤ m.length
  | [], m, _, _ => Nat.zero_le _
  | a :: l, m, hn, h => by
    rw [List.nodup_cons] at hn
    have ha := h a List.mem_cons_self
    have := len_of_sub (m := m.erase a) hn.2 (fun x hx => by
      have hne : x ≠ a := by rintro rfl; exact hn.1 hx
      exact (List.mem_erase_of_ne hne).2 (h x (List.mem_cons_of_mem _ hx)))
    rw [List.length_erase_of_mem ha] at this
    have hp : 0 < m.length := List.length_pos_of_mem ha
    rw [List.length_cons]
    omega
/-- What is gathered so far. -/
structure Bf (r : Rl) (q : List Sp) (b : Bool) (out : List Sp) : Prop where
  nd : out.Nodup
  rc : ∀ x ∈ out, Rch r q b x
theorem Bf.len {r : Rl} {q : List Sp} {b : Bool} {out : List Sp} (hv : validR r = 0) (hq : ∀ s ∈ q, thereR r s = 0) (h : Bf r q b out) : out.length ≤ 24 * r.2.2.1.length := by
  have := len_of_sub (m := reachL r q b) h.nd (fun x hx => (mem_reach hv hq).2 (h.rc x hx))
  exact Nat.le_trans this (reach_len r q b)
def visF (r : Rl) (b : Bool) (out : List Sp) (s : Sp) : List Sp := if decide (s ∈ out) = false ∧ okW r b s = true then out ++ [s] else out
theorem Bf.vis {r : Rl} {q : List Sp} {b : Bool} {out : List Sp} {s : Sp} (h : Bf r q b out) (hs : s ∈ q ∨ ∃ t, Rch r q b t ∧ s ∈ nextR r t) : Bf r q b (visF r b out s) := by
  unfold visF
  split
  · rename_i hc
    obtain ⟨h1, h2⟩ := hc
    have h1 : s ∉ out := by simpa using h1
    refine ⟨?_, fun x hx => ?_⟩
    · rw [List.nodup_append]
      refine ⟨h.nd, by simp, fun x hx y hy => ?_⟩
      have : y = s := by simpa using hy
      subst this
      rintro rfl
      exact h1 hx
    · rcases List.mem_append.1 hx with hx | hx
      · exact h.rc x hx
      · have : x = s := by simpa using hx
        subst this
        rcases hs with hs | ⟨t, g1, g2⟩
        · exact .base hs h2
        · exact .step g1 g2 h2
  · exact h
theorem vis_has {r : Rl} {b : Bool} {out : List Sp} {s : Sp} (h : okW r b s = true) : s ∈ visF r b out s := by
  unfold visF
  by_cases g : s ∈ out
  · rw [if_neg (by simp [g])]; exact g
  · rw [if_pos ⟨by simp [g], h⟩]; simp
theorem vis_pre (r : Rl) (b : Bool) (out : List Sp) (s : Sp) : ∃ t, visF r b out s = out ++ t := by
  unfold visF
  split
  · exact ⟨_, rfl⟩
  · exact ⟨[], by simp⟩
theorem vis_keep {r : Rl} {b : Bool} {out : List Sp} {s x : Sp} (h : x ∈ out) : x ∈ visF r b out s := by
  obtain ⟨t, e⟩ := vis_pre r b out s
  rw [e]; exact List.mem_append_left _ h
theorem vis_len (r : Rl) (b : Bool) (out : List Sp) (s : Sp) : out.length ≤ (visF r b out s).length := by
  obtain ⟨t, e⟩ := vis_pre r b out s
  rw [e, List.length_append]; omega
theorem vis_at {r : Rl} {b : Bool} {out : List Sp} {s : Sp} {i : Nat} (h : i < out.length) : gSp (visF r b out s) i = gSp out i := by
  obtain ⟨t, e⟩ := vis_pre r b out s
  rw [e]
  unfold gSp
  simp [List.getD_eq_getElem?_getD, List.getElem?_append_left h]
theorem all_in {r : Rl} {q : List Sp} {b : Bool} {out : List Sp} (h1 : ∀ s ∈ q, okW r b s = true → s ∈ out) (h2 : ∀ i, i < out.length → ∀ s ∈ nextR r (gSp out i), okW r b s = true → s ∈ out) {x : Sp} (h : Rch r q b x) : x ∈ out := by
  induction h with
  | base h k => exact h1 _ h k
  | step h hn k ih =>
    obtain ⟨i, hi, e⟩ := List.getElem_of_mem ih
    exact h2 i hi _ (by rw [gSp_eq hi, e]; exact hn) k
theorem sort_done {r : Rl} {q : List Sp} {b : Bool} {out : List Sp} (hv : validR r = 0) (hq : ∀ s ∈ q, thereR r s = 0) (h : Bf r q b out) (h1 : ∀ s ∈ q, okW r b s = true → s ∈ out) (h2 : ∀ i, i < out.length → ∀ s ∈ nextR r (gSp out i), okW r b s = true → s ∈ out) : sortS out = reachL r q b :=
  uniq_sorted (sortS_sorted h.nd) (reach_sorted r q b) fun x => by
    rw [(sortS_perm out).mem_iff, mem_reach hv hq]
    exact ⟨h.rc x, all_in h1 h2⟩
/-- What is marked so far, and what is to be done. -/
structure Mk (r : Rl) (q : List Sp) (b : Bool) (m : List Bool) (td : List Sp) : Prop where
  ln : m.length = 24 * r.2.2.1.length
  rc : ∀ n, gB m n = true → Rch r q b (spotN n)
  tq : ∀ s ∈ td, s ∈ q ∨ ∃ t, Rch r q b t ∧ s ∈ nextR r t
  fr : ∀ s ∈ q, okW r b s = true → gB m (numN s) = true ∨ s ∈ td
  cl : ∀ n, gB m n = true → ∀ s ∈ nextR r (spotN n), okW r b s = true → gB m (numN s) = true ∨ s ∈ td
  bd : 8 * m.count false + td.length ≤ 8 * (24 * r.2.2.1.length) + q.length
theorem count_set {m : List Bool} {n : Nat} (hn : n < m.length) (h : gB m n = false) : (m.set n true).count false + 1 = m.count false := by
  induction m generalizing n with
  | nil => simp at hn
  | cons x m ih =>
    cases n with
    | zero =>
      have : x = false := h
      subst this
      simp
    | succ n =>
      have := ih (n := n) (by simpa using hn) h
      cases x
      · simp only [List.set_cons_succ, List.count_cons_self]; omega
      · simp only [List.set_cons_succ]
        rw [List.count_cons_of_ne (by decide), List.count_cons_of_ne (by decide)]
        exact this
theorem Mk.there {r : Rl} {q : List Sp} {b : Bool} {m : List Bool} {td : List Sp} (hv : validR r = 0) (hq : ∀ s ∈ q, thereR r s = 0) (h : Mk r q b m td) {s : Sp} (hs : s ∈ td) : thereR r s = 0 := by
  rcases h.tq s hs with g | ⟨t, _, g⟩
  · exact hq s g
  · exact next_there hv g
theorem Mk.start {r : Rl} {q : List Sp} {b : Bool} : Mk r q b (List.replicate (24 * r.2.2.1.length) false) q := by
  refine ⟨by simp, fun n h => ?_, fun s hs => Or.inl hs, fun s hs _ => Or.inr hs, fun n h => ?_, ?_⟩
  · rw [gB_rep] at h; cases h
  · rw [gB_rep] at h; cases h
  · rw [List.count_replicate_self]; omega
theorem Mk.skip {r : Rl} {q : List Sp} {b : Bool} {m : List Bool} {td : List Sp} {s : Sp} (h : Mk r q b m (td ++ [s])) (hs : gB m (numN s) = true ∨ okW r b s = false) : Mk r q b m td := by
  have key : ∀ x, okW r b x = true → (gB m (numN x) = true ∨ x ∈ td ++ [s]) → gB m (numN x) = true ∨ x ∈ td := by
    intro x hx g
    rcases g with g | g
    · exact Or.inl g
    rcases List.mem_append.1 g with g | g
    · exact Or.inr g
    have : x = s := by simpa using g
    subst this
    rcases hs with hs | hs
    · exact Or.inl hs
    · rw [hs] at hx; cases hx
  refine ⟨h.ln, h.rc, fun x hx => h.tq x (List.mem_append_left _ hx), fun x hx k => key x k (h.fr x hx k), fun n hn x hx k => key x k (h.cl n hn x hx k), ?_⟩
  have := h.bd
  rw [List.length_append, List.length_singleton] at this
  omega
theorem Mk.mark {r : Rl} {q : List Sp} {b : Bool} {m : List Bool} {td : List Sp} {s : Sp} (hv : validR r = 0) (hq : ∀ s ∈ q, thereR r s = 0) (h : Mk r q b m (td ++ [s])) (h1 : gB m (numN s) = false) (h2 : okW r b s = true) : Mk r q b (m.set (numN s) true) (td ++ nextR r s) := by
  have hth : thereR r s = 0 := h.there hv hq (by simp)
  obtain ⟨hsn, hlt⟩ := spot_num hv hth
  have hlt' : numN s < m.length := by rw [h.ln]; exact hlt
  have hrs : Rch r q b s := by
    rcases h.tq s (by simp) with g | ⟨t, g1, g2⟩
    · exact .base g h2
    · exact .step g1 g2 h2
  have key : ∀ x, (gB m (numN x) = true ∨ x ∈ td ++ [s]) → gB (m.set (numN s) true) (numN x) = true ∨ x ∈ td ++ nextR r s := by
    intro x g
    rcases g with g | g
    · left; rw [gB_set hlt']; split
      · rfl
      · exact g
    rcases List.mem_append.1 g with g | g
    · exact Or.inr (List.mem_append_left _ g)
    have : x = s := by simpa using g
    subst this
    left; rw [gB_set hlt', if_pos rfl]
  refine ⟨by rw [List.length_set]; exact h.ln, fun n hn => ?_, fun x hx => ?_, fun x hx k => key x (h.fr x hx k), fun n hn x hx k => ?_, ?_⟩
  · rw [gB_set hlt'] at hn
    split at hn
    · rename_i e; subst e; rw [hsn]; exact hrs
    · exact h.rc n hn
  · rcases List.mem_append.1 hx with hx | hx
    · exact h.tq x (List.mem_append_left _ hx)
    · exact Or.inr ⟨s, hrs, hx⟩
  · rw [gB_set hlt'] at hn
    split at hn
    · rename_i e; subst e; rw [hsn] at hx; exact Or.inr (List.mem_append_right _ hx)
    · exact key x (h.cl n hn x hx k)
  · have g1 := h.bd
    have g2 := count_set hlt' h1
    have g3 := next_len r s
    rw [List.length_append] at *
    rw [List.length_singleton] at g1
    omega
open Classical in
theorem Mk.done {r : Rl} {q : List Sp} {b : Bool} {m : List Bool} (hv : validR r = 0) (hq : ∀ s ∈ q, thereR r s = 0) (h : Mk r q b m []) : ((List.range m.length).filter (gB m)).map spotN = reachL r q b := by
  have all : ∀ x, Rch r q b x → gB m (numN x) = true := by
    intro x hx
    induction hx with
    | base g k => exact (h.fr _ g k).resolve_right (by simp)
    | step g hn k ih =>
      refine (h.cl _ ih _ ?_ k).resolve_right (by simp)
      rw [(spot_num hv (rch_there hv hq g)).1]
      exact hn
  unfold reachL
  rw [List.filter_map, h.ln]
  refine congrArg _ (List.filter_congr fun n hn => ?_)
  have hn := List.mem_range.1 hn
  rw [Bool.eq_iff_iff]
  show gB m n = true ↔ decide (Rch r q b (spotN n)) = true
  rw [decide_eq_true_eq]
  refine ⟨h.rc n, fun g => ?_⟩
  have := all _ g
  have e : numN (spotN n) = n := by unfold numN spotN; simp only; omega
  rwa [e] at this
end
end Go.Proofs.Ytbndaabjlfdfcaa.Eng
set_option linter.unusedVariables false
set_option linter.unusedSimpArgs false
namespace Go.Proofs.Ytbndaabjlfdfcaa.Eng
open Go
set_option maxRecDepth 100000
noncomputable section
def spA : AV → Option Sp
  | .agg [.int .i64 t, .int .i64 p, .int .i64 o] => some (t, p, o)
  | _ => none
def ptr0 : AV → Option Nat
  | .ptr h 0 0 => some h
  | _ => none
def boxMp : Option Ob → Option Nat
  | some (.box [.mp h]) => some h
  | _ => none
def boxOwn : Option Ob → Option Nat
  | some (.box [.own h]) => some h
  | _ => none
def boxTy (t : Ty) : Option Ob → Option t.D
  | some (.box cs) => (match t.ofCells cs with | some (x, []) => some x | _ => none)
  | _ => none
def mpS : Option Ob → Option (List (Sp × Bool))
  | some (.mp (.fld (.int .i64) (.fld (.int .i64) (.one (.int .i64)))) .bool es) => some es
  | _ => none
def arS : Option Ob → Option (List Sp)
  | some (.arr (.fld (.int .i64) (.fld (.int .i64) (.one (.int .i64)))) xs) => some xs
  | _ => none
theorem spA_some {a : AV} {s : Sp} (h : spA a = some s) : a = .agg [.int .i64 s.1, .int .i64 s.2.1, .int .i64 s.2.2] := by
  unfold spA at h; split at h <;> cases h; rfl
theorem ptr0_some {a : AV} {n : Nat} (h : ptr0 a = some n) : a = .ptr n 0 0 := by
  unfold ptr0 at h; split at h <;> cases h; rfl
theorem boxMp_some {o : Option Ob} {n : Nat} (h : boxMp o = some n) : o = some (.box [.mp n]) := by
  unfold boxMp at h; split at h <;> cases h; rfl
theorem boxOwn_some {o : Option Ob} {n : Nat} (h : boxOwn o = some n) : o = some (.box [.own n]) := by
  unfold boxOwn at h; split at h <;> cases h; rfl
theorem boxTy_some {t : Ty} {o : Option Ob} {x : t.D} (h : boxTy t o = some x) : ∃ cs, o = some (.box cs) ∧ t.ofCells cs = some (x, []) := by
  unfold boxTy at h
  split at h
  · rename_i cs
    split at h
    · rename_i y e
      cases h
      exact ⟨cs, rfl, e⟩
    · cases h
  · cases h
theorem mpS_some {o : Option Ob} {es : List (Sp × Bool)} (h : mpS o = some es) : o = some (.mp spT .bool es) := by
  unfold mpS at h; split at h <;> cases h; rfl
theorem arS_some {o : Option Ob} {xs : List Sp} (h : arS o = some xs) : o = some (.arr spT xs) := by
  unfold arS at h; split at h <;> cases h; rfl
/-- Is a spot new and to be taken? -/
def takeQ (r : Rl) (b : Bool) (es : List (Sp × Bool)) (s : Sp) : Bool := !(optOr (mget spT .bool es s) false) && okW r b s
def P59 (r : Rl) (b : Bool) (es : List (Sp × Bool)) (out : List Sp) (s : Sp) : Prop := (b = true → 0 ≤ s.1 ∧ s.1 < (r.2.2.2.length : Int)) ∧ out.length ≤ 1000000 ∧ mget spT .bool es s ≠ some false
def es59 (r : Rl) (b : Bool) (es : List (Sp × Bool)) (s : Sp) : List (Sp × Bool) := cond (takeQ r b es s) (es ++ [(s, true)]) es
def out59 (r : Rl) (b : Bool) (es : List (Sp × Bool)) (out : List Sp) (s : Sp) : List Sp := cond (takeQ r b es s) (out ++ [s]) out
def ans59 (hs ho hm ha base : Nat) (r : Rl) (b : Bool) (es : List (Sp × Bool)) (out : List Sp) (s : Sp) : Res :=
  ⟨[P59 r b es out s], .tup [], [(hm, none), (ha, none), (base, some (.mp spT .bool (es59 r b es s))), (base + 1, some (.arr spT (out59 r b es out s))), (hs, some (.box [.mp base])), (ho, some (.box [.own (base + 1)]))]⟩
def read59 (s : Sp) (hs hw hr ho base : Nat) : Rd Res :=
  .get hs fun os => .get hw fun ow => .get hr fun oq => .get ho fun oo => (match boxMp os, boxTy .bool ow, boxTy rlT oq, boxOwn oo with
    | some hm, some b, some r, some ha => .get hm fun om => .get ha fun oa => (match mpS om, arS oa with
      | some es, some out => .ok (ans59 hs ho hm ha base r b es out s)
      | _, _ => .bad)
    | _, _, _, _ => .bad)
def X59 (args : List AV) (base : Nat) : Rd Res :=
  match args with
  | [a, c1, c2, c3, c4] => (match spA a, ptr0 c1, ptr0 c2, ptr0 c3, ptr0 c4 with
    | some s, some hs, some hw, some hr, some ho => read59 s hs hw hr ho base
    | _, _, _, _, _ => .bad)
  | _ => .bad
theorem read59_run {s : Sp} {hs hw hr ho base : Nat} {H : Nat → Option Ob} {r : Res} (h : (read59 s hs hw hr ho base).run H = some r) : ∃ (hm ha : Nat) (b : Bool) (rl : Rl) (es : List (Sp × Bool)) (out : List Sp), H hs = some (.box [.mp hm]) ∧ boxTy .bool (H hw) = some b ∧ boxTy rlT (H hr) = some rl ∧ H ho = some (.box [.own ha]) ∧ H hm = some (.mp spT .bool es) ∧ H ha = some (.arr spT out) ∧ r = ans59 hs ho hm ha base rl b es out s := by
  unfold read59 at h
  change (match boxMp (H hs), boxTy .bool (H hw), boxTy rlT (H hr), boxOwn (H ho) with
    | some hm, some b, some r, some ha => Rd.get hm fun om => .get ha fun oa => (match mpS om, arS oa with
      | some es, some out => .ok (ans59 hs ho hm ha base r b es out s)
      | _, _ => .bad)
    | _, _, _, _ => Rd.bad).run H = some r at h
  split at h
  · rename_i hm b rl ha e1 e2 e3 e4
    change (match mpS (H hm), arS (H ha) with
      | some es, some out => Rd.ok (ans59 hs ho hm ha base rl b es out s)
      | _, _ => .bad).run H = some r at h
    split at h
    · rename_i es out e5 e6
      cases h
      exact ⟨hm, ha, b, rl, es, out, boxMp_some e1, e2, e3, boxOwn_some e4, mpS_some e5, arS_some e6, rfl⟩
    · cases h
  · cases h
end
end Go.Proofs.Ytbndaabjlfdfcaa.Eng
set_option linter.unusedVariables false
set_option linter.unusedSimpArgs false
namespace Go.Proofs.Ytbndaabjlfdfcaa.Eng
open Go
set_option maxRecDepth 100000
noncomputable section
theorem idx_ne {n m : Nat} {l : List Nat} (h : n ≠ m) : idx n (m :: l) = (match idx n l with | some i => some (i + 1) | none => none) := by
  have e : Nat.beq n m = false := by
    cases e : Nat.beq n m
    · rfl
    · exact absurd (Nat.eq_of_beq_eq_true e) h
  show (match Nat.beq n m with | true => some 0 | false => match idx n l with | some i => some (i + 1) | none => none) = _
  rw [e]
theorem idx_at {n : Nat} {l : List Nat} : idx n (n :: l) = some 0 := by
  show (match Nat.beq n n with | true => some 0 | false => match idx n l with | some i => some (i + 1) | none => none) = _
  rw [show Nat.beq n n = true from Nat.beq_refl n]
theorem upd_self (H : Nat → Option Ob) (h : Nat) (o : Option Ob) : upd H h o h = o := by
  show (match Nat.beq h h with | true => o | false => H h) = o
  rw [show Nat.beq h h = true from Nat.beq_refl h]
theorem upd_off (H : Nat → Option Ob) {h n : Nat} (o : Option Ob) (hn : n ≠ h) : upd H h o n = H n := by
  have e : Nat.beq n h = false := by
    cases e : Nat.beq n h
    · rfl
    · exact absurd (Nat.eq_of_beq_eq_true e) hn
  show (match Nat.beq n h with | true => o | false => H n) = H n
  rw [e]
theorem sub59 {hs hm ho ha base N : Nat} {a c2 c3 : AV} {H : Nat → Option Ob} {st : SL} {rl : Rl} {b : Bool} {es : List (Sp × Bool)} {out : List Sp} {s : Sp} {es' : List (Sp × Bool)} {out' : List Sp} (g1 : H hs = some (.box [.mp hm])) (g4 : H ho = some (.box [.own ha]))
    (he : es59 rl b es s = es') (hu : out59 rl b es out s = out') (hN : N ≠ 1) (i1 : lget st.slots 1 = some (.ptr 0 0 0)) (i4 : lget st.slots 4 = some (.ptr 2 0 0)) (b0 : hget st.heap 0 = some (.box [.mp 1])) (b2 : hget st.heap 2 = some (.box [.own N]))
    (b1 : hget st.heap 1 = some (.mp spT .bool es')) (bN : hget st.heap N = some (.arr spT out')) :
    SubEnd [a, .ptr hs 0 0, c2, c3, .ptr ho 0 0] H [hs, hm, ho, ha] base st (ans59 hs ho hm ha base rl b es out s) [1, 4] := by
  subst he hu
  have xN : idx N [1, N] = some 1 := by rw [idx_ne hN, idx_at]
  refine ⟨[(1, hs, [.mp 1]), (4, ho, [.own N])], [1, N], [.mp spT .bool (es59 rl b es s), .arr spT (out59 rl b es out s)], ?_, ?_, ?_, by show 2 ≤ 8; omega, rfl, ?_⟩
  · intro p hp
    rcases List.mem_cons.1 hp with rfl | hp
    · exact ⟨by simp, rfl, ⟨0, i1, b0⟩, _, g1, rfl⟩
    · cases List.mem_singleton.1 hp
      exact ⟨by simp, rfl, ⟨2, i4, b2⟩, _, g4, rfl⟩
  · intro j q hj
    rcases j with _ | _ | j
    · cases (show some 1 = some q from hj)
      exact ⟨_, rfl, b1, rfl⟩
    · cases (show some N = some q from hj)
      exact ⟨_, rfl, bN, rfl⟩
    · simp at hj
  · simp only [List.nodup_cons, List.mem_singleton, List.not_mem_nil, not_false_eq_true, List.nodup_nil, and_true]
    exact fun e => hN e.symm
  · intro q o hq
    have hq : upd (upd (upd (upd (upd (upd H hm none) ha none) base (some (.mp spT .bool (es59 rl b es s)))) (base + 1) (some (.arr spT (out59 rl b es out s)))) hs (some (.box [.mp base]))) ho (some (.box [.own (base + 1)])) q = some o := hq
    by_cases k1 : q = ho
    · subst k1
      rw [upd_self] at hq
      cases hq
      refine Or.inr (Or.inl ⟨(4, q, [.own N]), by simp, rfl, ?_⟩)
      show Ob.box [.own (base + 1)] = Ob.box [match idx N [1, N] with | some j => AV.own (base + j) | none => .undef]
      rw [xN]
    rw [upd_off _ _ k1] at hq
    by_cases k2 : q = hs
    · subst k2
      rw [upd_self] at hq
      cases hq
      exact Or.inr (Or.inl ⟨(1, q, [.mp 1]), by simp, rfl, rfl⟩)
    rw [upd_off _ _ k2] at hq
    by_cases k3 : q = base + 1
    · subst k3
      rw [upd_self] at hq
      cases hq
      exact Or.inr (Or.inr ⟨1, by show 1 < 2; omega, rfl, rfl⟩)
    rw [upd_off _ _ k3] at hq
    by_cases k4 : q = base
    · subst k4
      rw [upd_self] at hq
      cases hq
      exact Or.inr (Or.inr ⟨0, by show 0 < 2; omega, rfl, rfl⟩)
    rw [upd_off _ _ k4] at hq
    by_cases k5 : q = ha
    · subst k5
      rw [upd_self] at hq
      cases hq
    rw [upd_off _ _ k5] at hq
    by_cases k6 : q = hm
    · subst k6
      rw [upd_self] at hq
      cases hq
    rw [upd_off _ _ k6] at hq
    exact Or.inl ⟨hq, by simp [k1, k2, k5, k6]⟩
theorem take_eq {r : Rl} {b : Bool} {es : List (Sp × Bool)} {s : Sp} {sn : Bool} (h : optOr (mget spT .bool es s) false = sn) : takeQ r b es s = (!sn && okW r b s) := congrArg (fun x => !x && okW r b s) h
theorem k59 : FxOk Go.Proofs.Try.prog 59 X59 := by
  refine fx_sub (E := E0) (TOk.of tab_told) noK mix (f := 59) Go.Proofs.Try.func59 rfl rfl rfl (by kernel_rfl) ?_
  intro args base H r hr hp
  unfold X59 at hr
  split at hr
  rotate_left
  · cases hr
  rename_i a c1 c2 c3 c4
  split at hr
  rotate_left
  · cases hr
  rename_i s hs hw hrr ho e1 e2 e3 e4 e5
  obtain ⟨hm, ha, b, rl, es, out, g1, g2, g3, g4, g5, g6, rfl⟩ := read59_run hr
  obtain ⟨p1, p2, p3⟩ : P59 rl b es out s := hp _ List.mem_cons_self
  obtain ⟨cw, w1, w2⟩ := boxTy_some g2
  obtain ⟨cr, r1, r2⟩ := boxTy_some g3
  cases spA_some e1
  cases ptr0_some e2
  cases ptr0_some e3
  cases ptr0_some e4
  cases ptr0_some e5
  clear hr hp e1 e2 e3 e4 e5 g2 g3
  have d1 : hs ≠ hm := by rintro rfl; rw [g1] at g5; cases g5
  have d2 : hs ≠ ho := by rintro rfl; rw [g1] at g4; cases g4
  have d3 : hs ≠ ha := by rintro rfl; rw [g1] at g6; cases g6
  have d4 : hm ≠ ho := by rintro rfl; rw [g5] at g4; cases g4
  have d5 : hm ≠ ha := by rintro rfl; rw [g5] at g6; cases g6
  have d6 : ho ≠ ha := by rintro rfl; rw [g4] at g6; cases g6
  have n1 : hw ∉ [hs, hm, ho, ha] := by
    intro hx
    simp only [List.mem_cons, List.not_mem_nil, or_false] at hx
    rcases hx with rfl | rfl | rfl | rfl
    · rw [w1] at g1; cases g1; cases w2
    · rw [w1] at g5; cases g5
    · rw [w1] at g4; cases g4; cases w2
    · rw [w1] at g6; cases g6
  have n2 : hrr ∉ [hs, hm, ho, ha] := by
    intro hx
    simp only [List.mem_cons, List.not_mem_nil, or_false] at hx
    rcases hx with rfl | rfl | rfl | rfl
    · rw [r1] at g1; cases g1; cases r2
    · rw [r1] at g5; cases g5
    · rw [r1] at g4; cases g4; cases r2
    · rw [r1] at g6; cases g6
  refine ⟨⟨[hs, hm, ho, ha], [.agg [.int .i64 s.1, .int .i64 s.2.1, .int .i64 s.2.2], .ptr 0 0 0, .eptr .bool b 0, .eptr rlT rl 0, .ptr 2 0 0], [(0, .box [.mp 1]), (1, .mp spT .bool es), (2, .box [.own 3]), (3, .arr spT out)], [1, 4], ?_, ?_, ?_, ?_, ?_⟩⟩
  · simp [d1, d2, d3, d4, d5, d6]
  · exact .cons (.same _ rfl) (.cons (.mu hs 0 rfl) (.cons (.ro hw .bool b cw w1 w2 n1) (.cons (.ro hrr rlT rl cr r1 r2 n2) (.cons (.mu ho 2 rfl) .nil))))
  · intro q o hq
    have x1 : idx hm [hs, hm, ho, ha] = some 1 := by rw [idx_ne d1.symm, idx_at]
    have x2 : idx ha [hs, hm, ho, ha] = some 3 := by rw [idx_ne d3.symm, idx_ne d5.symm, idx_ne d6.symm, idx_at]
    rcases q with _ | _ | _ | _ | q
    · cases (show some (Ob.box [.mp 1]) = some o from hq)
      refine ⟨hs, _, rfl, g1, ?_⟩
      show Ob.box [.mp 1] = Ob.box [match idx hm [hs, hm, ho, ha] with | some i => AV.mp i | none => .undef]
      rw [x1]
    · cases (show some (Ob.mp spT .bool es) = some o from hq)
      exact ⟨hm, _, rfl, g5, rfl⟩
    · cases (show some (Ob.box [.own 3]) = some o from hq)
      refine ⟨ho, _, rfl, g4, ?_⟩
      show Ob.box [.own 3] = Ob.box [match idx ha [hs, hm, ho, ha] with | some i => AV.own i | none => .undef]
      rw [x2]
    · cases (show some (Ob.arr spT out) = some o from hq)
      exact ⟨ha, _, rfl, g6, rfl⟩
    · cases (show (none : Option Ob) = some o from hq)
  · intro i hi
    rcases List.mem_cons.1 hi with rfl | hi
    · kernel_rfl
    · cases List.mem_singleton.1 hi
      kernel_rfl
  obtain ⟨t, p, o⟩ := s
  obtain ⟨w, h, l, wl⟩ := rl
  have q1 : b = true → 0 ≤ t ∧ t < (wl.length : Int) := p1
  clear p1
  conv => whnf
  generalize hsn : optOr (mget spT Ty.bool es ((t, p, o).fst, (t, p, o).snd.fst, (t, p, o).snd.snd)) false = sn
  have hsn : optOr (mget spT Ty.bool es (t, p, o)) false = sn := hsn
  cases sn
  · have hn : mget spT Ty.bool es (t, p, o) = none := by
      cases e : mget spT Ty.bool es (t, p, o) with
      | none => rfl
      | some v =>
        rw [e] at hsn p3
        exact absurd (congrArg some (show v = false from hsn)) p3
    have hk : isOk (mget spT Ty.bool es (t, p, o)) = false := by rw [hn]; rfl
    conv => whnf
    cases b
    · have ht : takeQ (w, h, l, wl) false es (t, p, o) = true := by rw [take_eq hsn]; rfl
      conv => whnf
      refine ⟨hk, ?_⟩
      conv => whnf
      refine ⟨show (out.length + 1) * 24 ≤ 70368744177664 by omega, ?_⟩
      conv => whnf
      refine ⟨show out.length + 1 ≤ 70368744177664 by omega, ?_⟩
      conv => whnf
      refine ⟨Or.inr rfl, sub59 g1 g4 (show cond (takeQ _ _ _ _) _ _ = _ by rw [ht]; rfl) (show cond (takeQ _ _ _ _) _ _ = _ by rw [ht]; rfl) (by omega) rfl rfl rfl rfl rfl rfl⟩
    · obtain ⟨q2, q3⟩ := q1 rfl
      conv => whnf
      refine ⟨q2, ?_⟩
      conv => whnf
      refine ⟨q3, ?_⟩
      conv => whnf
      generalize hgg : rd Ty.bool (w, h, l, wl).snd.snd.snd (t, p, o).fst.toNat = g
      have hgg : gB wl t.toNat = g := hgg
      cases g
      · have ht : takeQ (w, h, l, wl) true es (t, p, o) = false := by rw [take_eq hsn]; exact hgg
        conv => whnf
        refine ⟨Or.inr rfl, sub59 g1 g4 (show cond (takeQ _ _ _ _) _ _ = _ by rw [ht]; rfl) (show cond (takeQ _ _ _ _) _ _ = _ by rw [ht]; rfl) (by omega) rfl rfl rfl rfl rfl rfl⟩
      · have ht : takeQ (w, h, l, wl) true es (t, p, o) = true := by rw [take_eq hsn]; exact hgg
        conv => whnf
        refine ⟨hk, ?_⟩
        conv => whnf
        refine ⟨show (out.length + 1) * 24 ≤ 70368744177664 by omega, ?_⟩
        conv => whnf
        refine ⟨show out.length + 1 ≤ 70368744177664 by omega, ?_⟩
        conv => whnf
        refine ⟨Or.inr rfl, sub59 g1 g4 (show cond (takeQ _ _ _ _) _ _ = _ by rw [ht]; rfl) (show cond (takeQ _ _ _ _) _ _ = _ by rw [ht]; rfl) (by omega) rfl rfl rfl rfl rfl rfl⟩
  · have ht : ∀ b, takeQ (w, h, l, wl) b es (t, p, o) = false := fun b => by rw [take_eq hsn]; rfl
    cases b
    · conv => whnf
      refine ⟨Or.inr rfl, sub59 g1 g4 (show cond (takeQ _ _ _ _) _ _ = _ by rw [ht]; rfl) (show cond (takeQ _ _ _ _) _ _ = _ by rw [ht]; rfl) (by omega) rfl rfl rfl rfl rfl rfl⟩
    · conv => whnf
      refine ⟨Or.inr rfl, sub59 g1 g4 (show cond (takeQ _ _ _ _) _ _ = _ by rw [ht]; rfl) (show cond (takeQ _ _ _ _) _ _ = _ by rw [ht]; rfl) (by omega) rfl rfl rfl rfl rfl rfl⟩
end
end Go.Proofs.Ytbndaabjlfdfcaa.Eng
set_option linter.unusedVariables false
set_option linter.unusedSimpArgs false
namespace Go.Proofs
open Go.Shelf Go.RowKit Go.Lib Go.Sort
shelf_lay_g SlLaysF0.n6 Slsf 6 at Try 60 as Try.sortSp
end Go.Proofs
namespace Go.Proofs.Ytbndaabjlfdfcaa.Eng
open Go Go.RowKit
set_option maxRecDepth 100000
noncomputable section
def K82 : Fn1 := ⟨.one I, .one .bool, fun _ => [], fun _ => false⟩
theorem k82 : FnOk Go.Proofs.Try.prog 82 K82 := by
  refine fn_ok (E := E0) (TOk.of tab_told) noK mix Go.Proofs.Try.func82 rfl rfl (by kernel_rfl) K82 ?_
  rintro (n : Int) hp
  clear hp
  conv => whnf
  show (!decide (n = n)) = false
  simp
def E71 : Env := ⟨tab, [(82, K82)], ann0⟩
def K71 : Fn1 := ⟨.fld I (.one I), .one I, fun _ => [], fun (a : Int × Int) => cmpR a.1 a.2⟩
theorem k71 : FnOk Go.Proofs.Try.prog 71 K71 := by
  refine fn_ok (E := E71) (TOk.of tab_told) (AllOk.cons k82 .nil).at_ mix Go.Proofs.Try.func71 rfl rfl (by kernel_rfl) K71 ?_
  rintro ⟨(a : Int), (b : Int)⟩ hp
  clear hp
  iterate 9 (all_goals (conv => whnf); all_goals (try (refine cond_intro (fun h => ?_) (fun h => ?_))))
  all_goals (simp only [decide_eq_true_eq, decide_eq_false_iff_not] at *)
  all_goals (show _ = cmpR a b; simp [cmpR, *])
def E70 : Env := ⟨tab, [], fun n => match n with | 3 => some ([3, 6, 7, 8], [], []) | _ => none⟩
def K70 : Fn1 := ⟨.one (.sl I), .one I, fun (l : List Int) => [l.length ≤ 100000], fun (l : List Int) => (l.find? (fun n => decide (n ≠ 0))).getD 0⟩
def S70 (l : List Int) (i : Int) : SL := ⟨[.undef, .undef, .undef, .int .i64 0, .undef, .undef, .sl I l, .int .i64 l.length, .int .i64 i] ++ List.replicate 9 .undef, [], 0⟩
theorem k70 : FnOk Go.Proofs.Try.prog 70 K70 := by
  refine fn_ok (E := E70) (TOk.of tab_told) noK mix Go.Proofs.Try.func70 rfl rfl (by kernel_rfl) K70 ?_
  rintro (l : List Int) hp
  have hl : l.length ≤ 100000 := hp _ (List.mem_cons_self ..)
  clear hp
  conv => whnf
  refine loop_rule (S70 l) (fun i => ((l.length : Int) - i).toNat) (fun i => 0 ≤ i ∧ i ≤ l.length ∧ ∀ n ∈ l.take i.toNat, n = 0) ?_ 0 (by kernel_rfl) ?_ ⟨by omega, by omega, by simp⟩
  case refine_2 => rfl
  rintro i ⟨h0, h1, h2⟩
  conv => whnf
  have hsp : l = l.take i.toNat ++ l.drop i.toNat := (List.take_append_drop _ _).symm
  have hnone : (l.take i.toNat).find? (fun n => decide (n ≠ 0)) = none := by simpa using h2
  refine cond_intro (fun hlt => ?_) (fun hge => ?_)
  · have hlt : i < l.length := @of_decide_eq_true _ _ hlt
    have e : gI l i.toNat = l[i.toNat]'(by omega) := gI_eq _
    have hd : l.drop i.toNat = gI l i.toNat :: l.drop (i.toNat + 1) := by rw [List.drop_eq_getElem_cons (by omega), e]
    have ht : l.take (i.toNat + 1) = l.take i.toNat ++ [gI l i.toNat] := by rw [List.take_succ_eq_append_getElem (by omega), e]
    conv => whnf
    refine ⟨h0, ?_⟩
    conv => whnf
    refine ⟨hlt, ?_⟩
    conv => whnf
    refine cond_intro (fun hz => ?_) (fun hz => ?_)
    · have hz : gI l i.toNat ≠ 0 := by
        have hz : (!decide (gI l i.toNat = 0)) = true := hz
        simpa using hz
      conv => whnf
      show gI l i.toNat = (l.find? (fun n => decide (n ≠ 0))).getD 0
      rw [hsp, List.find?_append, hnone, ← hsp, hd]
      simp [hz]
    · have hz : gI l i.toNat = 0 := by
        have hz : (!decide (gI l i.toNat = 0)) = false := hz
        simpa using hz
      conv => whnf
      have hw : IntKind.i64.wrap (i + 1) = i + 1 := wrap_eq (by omega) (by omega)
      refine ⟨i + 1, ?_, ⟨by omega, by omega, ?_⟩, by omega⟩
      · exact Eq.trans (b := S70 l (IntKind.i64.wrap (i + 1))) rfl (by rw [hw])
      · rw [show (i + 1).toNat = i.toNat + 1 by omega, ht]
        intro n hn
        rcases List.mem_append.1 hn with hn | hn
        · exact h2 n hn
        · cases List.mem_singleton.1 hn
          exact hz
  · have hge : ¬ i < l.length := @of_decide_eq_false _ _ hge
    conv => whnf
    show 0 = (l.find? (fun n => decide (n ≠ 0))).getD 0
    rw [show l.take i.toNat = l from List.take_of_length_le (by omega)] at hnone
    rw [hnone]; rfl
def E61 : Env := ⟨tab, [(71, K71), (70, K70)], ann0⟩
def K61 : Fn1 := ⟨.fld spT (.one spT), .one I, fun _ => [], fun (a : Sp × Sp) => compareS a.1 a.2⟩
theorem k61 : FnOk Go.Proofs.Try.prog 61 K61 := by
  refine fn_ok (E := E61) (TOk.of tab_told) (AllOk.cons k71 (.cons k70 .nil)).at_ mix Go.Proofs.Try.func61 rfl rfl (by kernel_rfl) K61 ?_
  rintro ⟨⟨(k : Int), (f : Int), (t : Int)⟩, ⟨(k' : Int), (f' : Int), (t' : Int)⟩⟩ hp
  clear hp
  conv => whnf
  refine ⟨show 3 ≤ 100000 by omega, ?_⟩
  conv => whnf
  rfl
def X60 : List AV → Nat → Rd Res := sortX spT 61 compareS
theorem k60 : FxOk Go.Proofs.Try.prog 60 X60 := sort_ok (t := spT) (ks := [5, 5, 5]) Go.Proofs.Try.sortSp rfl rfl Go.Proofs.Try.isAgg31 Go.Proofs.Try.sizeOf31 k61 ⟨_, _, Go.Proofs.Try.func60, rfl, rfl⟩
def numI (s : Sp) : Int := IntKind.i64.wrap (IntKind.i64.wrap (IntKind.i64.wrap (IntKind.i64.wrap (s.1 * 6) + s.2.1) * 4) + s.2.2)
def K58 : Fn1 := ⟨.one spT, .one I, fun _ => [], fun (s : Sp) => numI s⟩
theorem k58 : FnOk Go.Proofs.Try.prog 58 K58 := by
  refine fn_ok (E := E0) (TOk.of tab_told) noK mix Go.Proofs.Try.func58 rfl rfl (by kernel_rfl) K58 ?_
  rintro ⟨(k : Int), (f : Int), (t : Int)⟩ hp
  clear hp
  conv => whnf
  rfl
def spI (n : Int) : Sp := (IntKind.i64.wrap (Int.tdiv n 24), Int.tmod (IntKind.i64.wrap (Int.tdiv n 4)) 6, Int.tmod n 4)
def K51 : Fn1 := ⟨.one I, .one spT, fun _ => [], fun (n : Int) => spI n⟩
theorem k51 : FnOk Go.Proofs.Try.prog 51 K51 := by
  refine fn_ok (E := E0) (TOk.of tab_told) noK mix Go.Proofs.Try.func51 rfl rfl (by kernel_rfl) K51 ?_
  rintro (n : Int) hp
  clear hp
  iterate 8 (try (conv => whnf); try (refine ⟨by decide, ?_⟩))
  rfl
def eqSp (l m : List Sp) : Bool := decide (l = m)
def E33 : Env := ⟨tab, [], fun n => match n with | 4 => some ([0, 1, 5], [], []) | _ => none⟩
def K33 : Fn1 := ⟨.fld (.sl spT) (.one (.sl spT)), .one .bool, fun (a : List Sp × List Sp) => [a.1.length ≤ 100000], fun (a : List Sp × List Sp) => eqSp a.1 a.2⟩
def S33 (l m : List Sp) (i : Int) : SL := ⟨[.sl spT l, .sl spT m, .undef, .undef, .undef, .int .i64 i] ++ List.replicate 20 .undef, [], 0⟩
theorem k33 : FnOk Go.Proofs.Try.prog 33 K33 := by
  refine fn_ok (E := E33) (TOk.of tab_told) (fun f k h => by cases h) mix Go.Proofs.Try.func33 rfl rfl (by kernel_rfl) K33 ?_
  rintro ⟨(l : List Sp), (m : List Sp)⟩ hp
  have hl : l.length ≤ 100000 := hp _ (List.mem_cons_self ..)
  clear hp
  conv => whnf
  refine cond_intro (fun h => ?_) (fun h => ?_)
  · have h : (!decide ((l.length : Int) = (m.length : Int))) = true := h
    have h : ¬ (l.length : Int) = (m.length : Int) := by simpa using h
    conv => whnf
    show false = eqSp l m
    symm
    simp only [eqSp, decide_eq_false_iff_not]
    intro e; subst e; exact h rfl
  have h : (!decide ((l.length : Int) = (m.length : Int))) = false := h
  have h : (l.length : Int) = (m.length : Int) := by simpa using h
  have h : l.length = m.length := by omega
  conv => whnf
  refine loop_rule (S33 l m) (fun i => ((l.length : Int) - i).toNat) (fun i => 0 ≤ i ∧ i ≤ l.length ∧ l.take i.toNat = m.take i.toNat) ?_ 0 (by kernel_rfl) ?_ ⟨by omega, by omega, by simp⟩
  case refine_2 => rfl
  rintro i ⟨h0, h1, h2⟩
  conv => whnf
  refine cond_intro (fun hlt => ?_) (fun hge => ?_)
  · have hlt : i < l.length := @of_decide_eq_true _ _ hlt
    have hlm : i < m.length := by omega
    have e : gSp l i.toNat = l[i.toNat]'(by omega) := gSp_eq (by omega)
    have e' : gSp m i.toNat = m[i.toNat]'(by omega) := gSp_eq (by omega)
    have ht : l.take (i.toNat + 1) = l.take i.toNat ++ [gSp l i.toNat] := by rw [List.take_succ_eq_append_getElem (by omega), e]
    have ht' : m.take (i.toNat + 1) = m.take i.toNat ++ [gSp m i.toNat] := by rw [List.take_succ_eq_append_getElem (by omega), e']
    conv => whnf
    refine ⟨h0, ?_⟩
    conv => whnf
    refine ⟨hlt, ?_⟩
    conv => whnf
    refine ⟨h0, ?_⟩
    conv => whnf
    refine ⟨hlm, ?_⟩
    conv => whnf
    refine cond_intro (fun hd => ?_) (fun hd => ?_)
    · have hd : (!decide (gSp l i.toNat = gSp m i.toNat)) = true := by rw [sp_eq]; exact hd
      have hd : ¬ gSp l i.toNat = gSp m i.toNat := by simpa using hd
      conv => whnf
      show false = eqSp l m
      symm
      simp only [eqSp, decide_eq_false_iff_not]
      intro e; subst e; exact hd rfl
    · have hd : (!decide (gSp l i.toNat = gSp m i.toNat)) = false := by rw [sp_eq]; exact hd
      have hd : gSp l i.toNat = gSp m i.toNat := by simpa using hd
      conv => whnf
      have hw : IntKind.i64.wrap (i + 1) = i + 1 := wrap_eq (by omega) (by omega)
      refine ⟨i + 1, ?_, ⟨by omega, by omega, ?_⟩, by omega⟩
      · exact Eq.trans (b := S33 l m (IntKind.i64.wrap (i + 1))) rfl (by rw [hw])
      · rw [show (i + 1).toNat = i.toNat + 1 by omega, ht, ht', h2, hd]
  · have hge : ¬ i < l.length := @of_decide_eq_false _ _ hge
    conv => whnf
    show true = eqSp l m
    symm
    simp only [eqSp, decide_eq_true_eq]
    rw [List.take_of_length_le (by omega), List.take_of_length_le (by omega)] at h2
    exact h2
theorem num_eq {r : Rl} {s : Sp} (hv : validR r = 0) (h : thereR r s = 0) : numI s = (numN s : Int) ∧ numN s < 24 * r.2.2.1.length := by
  obtain ⟨h1, h2, h3⟩ := good_of_there hv h
  obtain ⟨_, hl, _, _, hle⟩ := valid_len hv
  refine ⟨?_, (spot_num hv h).2⟩
  unfold numI
  rw [wrap_eq (i := s.1 * 6) (by omega) (by omega), wrap_eq (i := s.1 * 6 + s.2.1) (by omega) (by omega), wrap_eq (i := (s.1 * 6 + s.2.1) * 4) (by omega) (by omega), wrap_eq (by omega) (by omega)]
  unfold numN
  omega
theorem spI_eq {n : Int} (h0 : 0 ≤ n) (h1 : n ≤ 1000000) : spI n = spotN n.toNat := by
  unfold spI spotN
  have e1 : Int.tdiv n 24 = ((n.toNat / 24 : Nat) : Int) := by rw [Int.tdiv_eq_ediv_of_nonneg h0]; omega
  have e2 : Int.tdiv n 4 = ((n.toNat / 4 : Nat) : Int) := by rw [Int.tdiv_eq_ediv_of_nonneg h0]; omega
  have e3 : Int.tmod n 4 = ((n.toNat % 4 : Nat) : Int) := by rw [Int.tmod_eq_emod_of_nonneg h0]; omega
  have e4 : Int.tmod ((n.toNat / 4 : Nat) : Int) 6 = ((n.toNat / 4 % 6 : Nat) : Int) := by rw [Int.tmod_eq_emod_of_nonneg (by omega)]; omega
  rw [e1, e2, e3, wrap_eq (by omega) (by omega), wrap_eq (by omega) (by omega), e4]
end
end Go.Proofs.Ytbndaabjlfdfcaa.Eng
set_option linter.unusedVariables false
set_option linter.unusedSimpArgs false
namespace Go.Proofs.Ytbndaabjlfdfcaa.Eng
open Go
set_option maxRecDepth 100000
noncomputable section
def seenOf (out : List Sp) : List (Sp × Bool) := out.map fun s => (s, true)
theorem mget_seen (s : Sp) : ∀ (out : List Sp), mget spT .bool (seenOf out) s = if decide (s ∈ out) = true then some true else none
  | [] => rfl
  | x :: r => by
    show (match (decide (s.1 = x.1) && (decide (s.2.1 = x.2.1) && decide (s.2.2 = x.2.2))) with | true => some true | false => mget spT .bool (seenOf r) s) = _
    have e : (decide (s.1 = x.1) && (decide (s.2.1 = x.2.1) && decide (s.2.2 = x.2.2))) = decide (s = x) := by
      rw [Bool.eq_iff_iff]; simp [Prod.ext_iff]
    rw [e, mget_seen s r]
    by_cases g : s = x
    · simp [g]
    · simp [g]
theorem take_seen (r : Rl) (b : Bool) (out : List Sp) (s : Sp) : takeQ r b (seenOf out) s = (!decide (s ∈ out) && okW r b s) := by
  have h : optOr (mget spT .bool (seenOf out) s) false = decide (s ∈ out) := by
    refine (congrArg (fun o => optOr o false) (mget_seen s out)).trans ?_
    cases decide (s ∈ out) <;> rfl
  exact take_eq h
theorem out_seen (r : Rl) (b : Bool) (out : List Sp) (s : Sp) : out59 r b (seenOf out) out s = visF r b out s := by
  unfold out59 visF
  rw [take_seen]
  cases decide (s ∈ out) <;> cases okW r b s <;> rfl
theorem es_seen (r : Rl) (b : Bool) (out : List Sp) (s : Sp) : es59 r b (seenOf out) s = seenOf (visF r b out s) := by
  unfold es59 visF
  rw [take_seen]
  cases decide (s ∈ out) <;> cases okW r b s <;> simp [seenOf]
theorem p59_ok {r : Rl} {b : Bool} {out : List Sp} {s : Sp} (hv : validR r = 0) (hs : thereR r s = 0) (hl : out.length ≤ 1000000) : P59 r b (seenOf out) out s := by
  obtain ⟨h1, _, _⟩ := good_of_there hv hs
  obtain ⟨_, _, hw, _⟩ := valid_len hv
  refine ⟨fun _ => ⟨h1.1, by rw [hw]; exact h1.2⟩, hl, ?_⟩
  intro e
  have e := (mget_seen s out).symm.trans e
  split at e <;> cases e
def S39a (w h : Int) (l : List Int) (wl : List Bool) (b : Bool) (q : List Sp) (es : List (Sp × Bool)) (out : List Sp) (j : Int) : SL := ⟨List.replicate 3 .undef ++ [.ptr 0 0 0] ++ List.replicate 6 .undef ++ [.ptr 1 0 0, .fn 59 [.ptr 2 0 0, .ptr 3 0 0, .ptr 0 0 0, .ptr 1 0 0]] ++ List.replicate 13 .undef ++ [.sl spT q, .int .i64 q.length, .int .i64 j] ++ List.replicate 31 .undef, [(0, .box [.int .i64 w, .int .i64 h, .sl I l, .sl .bool wl]), (1, .box [.own 4]), (2, .box [.mp 5]), (3, .box [.bool b]), (4, .arr spT out), (5, .mp spT .bool es)], 6⟩
def S39b (w h : Int) (l : List Int) (wl : List Bool) (b : Bool) (es : List (Sp × Bool)) (out : List Sp) (i : Int) : SL := ⟨List.replicate 3 .undef ++ [.ptr 0 0 0] ++ List.replicate 6 .undef ++ [.ptr 1 0 0, .fn 59 [.ptr 2 0 0, .ptr 3 0 0, .ptr 0 0 0, .ptr 1 0 0], .undef, .undef, .int .i64 i] ++ List.replicate 44 .undef, [(0, .box [.int .i64 w, .int .i64 h, .sl I l, .sl .bool wl]), (1, .box [.own 4]), (2, .box [.mp 5]), (3, .box [.bool b]), (4, .arr spT out), (5, .mp spT .bool es)], 6⟩
def S39c (w h : Int) (l : List Int) (wl : List Bool) (b : Bool) (nx : List Sp) (es : List (Sp × Bool)) (out : List Sp) (i j : Int) : SL := ⟨List.replicate 3 .undef ++ [.ptr 0 0 0] ++ List.replicate 6 .undef ++ [.ptr 1 0 0, .fn 59 [.ptr 2 0 0, .ptr 3 0 0, .ptr 0 0 0, .ptr 1 0 0], .undef, .undef, .int .i64 i] ++ List.replicate 31 .undef ++ [.own 4, .int .i64 nx.length, .int .i64 j] ++ List.replicate 10 .undef, [(0, .box [.int .i64 w, .int .i64 h, .sl I l, .sl .bool wl]), (1, .box [.own 5]), (2, .box [.mp 6]), (3, .box [.bool b]), (4, .arr spT nx), (5, .arr spT out), (6, .mp spT .bool es)], 7⟩
def E39 : Env := ⟨tab, [(56, K56), (54, K54), (59, .eff X59), (60, .eff X60)], fun n => match n with | 8 => some ([3, 10, 11, 25, 26, 27], [], [(10, 0, spT)]) | 13 => some ([3, 10, 11, 14], [], []) | 16 => some ([3, 10, 11, 14, 46, 47, 48], [], []) | _ => none⟩
def K39 : Fn1 := ⟨.fld rlT (.fld (.sl spT) (.one .bool)), .fld (.sl spT) (.one I), fun (a : Rl × List Sp × Bool) => [a.2.1.length ≤ 1000000], fun (a : Rl × List Sp × Bool) => reachR a.1 a.2.1 a.2.2⟩
set_option maxHeartbeats 4000000 in
theorem k39 : FnOk Go.Proofs.Try.prog 39 K39 := by
  refine fn_ok (E := E39) (TOk.of tab_told) (AllOk.cons k56 (.cons k54 (.consX k59 (.consX k60 .nil)))).at_ mix Go.Proofs.Try.func39 rfl rfl (by kernel_rfl) K39 ?_
  rintro ⟨⟨(w : Int), (h : Int), (l : List Int), (wl : List Bool)⟩, (q : List Sp), (b : Bool)⟩ hp
  have hl : q.length ≤ 1000000 := hp _ (List.mem_cons_self ..)
  clear hp
  conv => whnf
  refine ⟨show q.length ≤ 140737488351232 by omega, ?_⟩
  conv => whnf
  refine cond_intro (fun h1 => ?_) (fun h1 => ?_)
  · have h1 : (!decide (allR (w, h, l, wl) q = 0)) = true := h1
    have h1 : ¬ (allR (w, h, l, wl) q = 0) := fun e => absurd h1 (by rw [decide_eq_true e]; decide)
    conv => whnf
    show ([], allR (w, h, l, wl) q) = reachR (w, h, l, wl) q b
    rw [reachR, if_pos h1]
  have h1 : (!decide (allR (w, h, l, wl) q = 0)) = false := h1
  have h1 : allR (w, h, l, wl) q = 0 := Decidable.byContradiction fun e => absurd h1 (by rw [decide_eq_false e]; decide)
  obtain ⟨hv, hth⟩ := all_iff.1 h1
  obtain ⟨_, hll, _, _, hle⟩ := valid_len hv
  have hll : (l.length : Int) = w * h := hll
  have hle : w * h ≤ 1024 := hle
  conv => whnf
  refine loop_rule (fun x : List Sp × Int => S39a w h l wl b q (seenOf x.1) x.1 x.2) (fun x => ((q.length : Int) - x.2).toNat) (fun x => 0 ≤ x.2 ∧ x.2 ≤ q.length ∧ Bf (w, h, l, wl) q b x.1 ∧ ∀ k, k < x.2.toNat → okW (w, h, l, wl) b (gSp q k) = true → gSp q k ∈ x.1) ?_ ([], 0) (by kernel_rfl) ?_ ⟨Int.le_refl _, by show (0 : Int) ≤ _; omega, ⟨List.nodup_nil, fun x hx => by simp at hx⟩, fun k hk => by simp at hk⟩
  case refine_2 => rfl
  rintro ⟨out, j⟩ ⟨h0, j1, hbf, hin0⟩
  have h0 : 0 ≤ j := h0
  have j1 : j ≤ q.length := j1
  have hbf : Bf (w, h, l, wl) q b out := hbf
  have hin0 : ∀ k, k < j.toNat → okW (w, h, l, wl) b (gSp q k) = true → gSp q k ∈ out := hin0
  conv => whnf
  refine cond_intro (fun hlt => ?_) (fun hlt => ?_)
  · have hlt : j < (q.length : Int) := @of_decide_eq_true _ _ hlt
    have hll2 : (24 * l.length : Nat) ≤ 24576 := by omega
    have hj : j.toNat < q.length := by omega
    have hin : gSp q j.toNat ∈ q := by rw [gSp_eq hj]; exact List.getElem_mem _
    have ht := hth _ hin
    have hb := hbf.len hv hth
    have wj : IntKind.i64.wrap (j + 1) = j + 1 := wrap_eq (by omega) (by omega)
    have ej : (j + 1).toNat = j.toNat + 1 := by omega
    conv => whnf
    refine ⟨h0, ?_⟩
    conv => whnf
    refine ⟨hlt, ?_⟩
    conv => whnf
    refine ⟨p59_ok hv ht (show out.length ≤ 1000000 by omega), ?_⟩
    conv => whnf
    refine ⟨(visF (w, h, l, wl) b out (gSp q j.toNat), j + 1), ?_, ⟨by show 0 ≤ j + 1; omega, by show j + 1 ≤ _; omega, hbf.vis (Or.inl hin), ?_⟩, by show ((q.length : Int) - (j + 1)).toNat < ((q.length : Int) - j).toNat; omega⟩
    · exact Eq.trans (b := S39a w h l wl b q (es59 (w, h, l, wl) b (seenOf out) (gSp q j.toNat)) (out59 (w, h, l, wl) b (seenOf out) out (gSp q j.toNat)) (IntKind.i64.wrap (j + 1))) rfl (by rw [es_seen, out_seen, wj])
    · show ∀ k, k < (j + 1).toNat → okW (w, h, l, wl) b (gSp q k) = true → gSp q k ∈ visF (w, h, l, wl) b out (gSp q j.toNat)
      intro k hk ho
      rw [ej] at hk
      rcases Nat.lt_or_eq_of_le (Nat.le_of_lt_succ hk) with g | g
      · exact vis_keep (hin0 k g ho)
      · subst g; exact vis_has ho
  have hlt : ¬ (j < (q.length : Int)) := @of_decide_eq_false _ _ hlt
  have ejj : j.toNat = q.length := by omega
  have hfr0 : ∀ s ∈ q, okW (w, h, l, wl) b s = true → s ∈ out := fun s hs ho => by
    obtain ⟨m, hm, e⟩ := List.getElem_of_mem hs
    have := hin0 m (by omega) (by rw [gSp_eq hm, e]; exact ho)
    rwa [gSp_eq hm, e] at this
  conv => whnf
  refine loop_rule (fun x : List Sp × Int => S39b w h l wl b (seenOf x.1) x.1 x.2) (fun x => ((24 * l.length : Nat) : Int).toNat - x.2.toNat) (fun x => 0 ≤ x.2 ∧ x.2 ≤ x.1.length ∧ Bf (w, h, l, wl) q b x.1 ∧ (∀ s ∈ q, okW (w, h, l, wl) b s = true → s ∈ x.1) ∧ ∀ k, k < x.2.toNat → ∀ s ∈ nextR (w, h, l, wl) (gSp x.1 k), okW (w, h, l, wl) b s = true → s ∈ x.1) ?_ (out, 0) (by kernel_rfl) ?_ ⟨Int.le_refl _, by show (0 : Int) ≤ _; omega, hbf, hfr0, fun k hk => by simp at hk⟩
  case refine_2 => rfl
  rintro ⟨out0, i⟩ ⟨i0, i1, hbf0, hfr, hcl⟩
  have i0 : 0 ≤ i := i0
  have i1 : i ≤ out0.length := i1
  have hbf0 : Bf (w, h, l, wl) q b out0 := hbf0
  have hfr : ∀ s ∈ q, okW (w, h, l, wl) b s = true → s ∈ out0 := hfr
  have hcl : ∀ k, k < i.toNat → ∀ s ∈ nextR (w, h, l, wl) (gSp out0 k), okW (w, h, l, wl) b s = true → s ∈ out0 := hcl
  have hb0 := hbf0.len hv hth
  have hb0 : out0.length ≤ 24 * l.length := hb0
  conv => whnf
  refine cond_intro (fun hlt => ?_) (fun hlt => ?_)
  · have hlt : i < (out0.length : Int) := @of_decide_eq_true _ _ hlt
    have hi : i.toNat < out0.length := by omega
    have hrch : Rch (w, h, l, wl) q b (gSp out0 i.toNat) := hbf0.rc _ (by rw [gSp_eq hi]; exact List.getElem_mem _)
    have hnl := next_len (w, h, l, wl) (gSp out0 i.toNat)
    conv => whnf
    refine ⟨i0, ?_⟩
    conv => whnf
    refine ⟨hlt, ?_⟩
    conv => whnf
    refine ⟨hv, ?_⟩
    conv => whnf
    refine loop_rule (fun x : List Sp × Int => S39c w h l wl b (nextR (w, h, l, wl) (gSp out0 i.toNat)) (seenOf x.1) x.1 i x.2) (fun x => (((nextR (w, h, l, wl) (gSp out0 i.toNat)).length : Int) - x.2).toNat) (fun x => 0 ≤ x.2 ∧ x.2 ≤ (nextR (w, h, l, wl) (gSp out0 i.toNat)).length ∧ Bf (w, h, l, wl) q b x.1 ∧ (∀ y ∈ out0, y ∈ x.1) ∧ out0.length ≤ x.1.length ∧ (∀ k, k < out0.length → gSp x.1 k = gSp out0 k) ∧ ∀ k, k < x.2.toNat → okW (w, h, l, wl) b (gSp (nextR (w, h, l, wl) (gSp out0 i.toNat)) k) = true → gSp (nextR (w, h, l, wl) (gSp out0 i.toNat)) k ∈ x.1) ?_ (out0, 0) (by kernel_rfl) ?_ ⟨Int.le_refl _, by show (0 : Int) ≤ _; omega, hbf0, fun y hy => hy, Nat.le_refl _, fun k _ => rfl, fun k hk => by simp at hk⟩
    case refine_2 => rfl
    rintro ⟨out, j⟩ ⟨j0, j1, hbf, hmo, hlo, hat, hin0⟩
    have j0 : 0 ≤ j := j0
    have j1 : j ≤ (nextR (w, h, l, wl) (gSp out0 i.toNat)).length := j1
    have hbf : Bf (w, h, l, wl) q b out := hbf
    have hmo : ∀ y ∈ out0, y ∈ out := hmo
    have hlo : out0.length ≤ out.length := hlo
    have hat : ∀ k, k < out0.length → gSp out k = gSp out0 k := hat
    have hin0 : ∀ k, k < j.toNat → okW (w, h, l, wl) b (gSp (nextR (w, h, l, wl) (gSp out0 i.toNat)) k) = true → gSp (nextR (w, h, l, wl) (gSp out0 i.toNat)) k ∈ out := hin0
    conv => whnf
    refine cond_intro (fun hlt2 => ?_) (fun hlt2 => ?_)
    · have hlt2 : j < ((nextR (w, h, l, wl) (gSp out0 i.toNat)).length : Int) := @of_decide_eq_true _ _ hlt2
      have hlt := hlt2
      have hj : j.toNat < (nextR (w, h, l, wl) (gSp out0 i.toNat)).length := by omega
      have hin : gSp (nextR (w, h, l, wl) (gSp out0 i.toNat)) j.toNat ∈ (nextR (w, h, l, wl) (gSp out0 i.toNat)) := by rw [gSp_eq hj]; exact List.getElem_mem _
      have ht := next_there hv hin
      have hb := hbf.len hv hth
      have wj : IntKind.i64.wrap (j + 1) = j + 1 := wrap_eq (by omega) (by omega)
      have ej : (j + 1).toNat = j.toNat + 1 := by omega
      conv => whnf
      refine ⟨j0, ?_⟩
      conv => whnf
      refine ⟨hlt, ?_⟩
      conv => whnf
      refine ⟨p59_ok hv ht (show out.length ≤ 1000000 by omega), ?_⟩
      conv => whnf
      refine ⟨(visF (w, h, l, wl) b out (gSp (nextR (w, h, l, wl) (gSp out0 i.toNat)) j.toNat), j + 1), ?_, ⟨by show 0 ≤ j + 1; omega, by show j + 1 ≤ _; omega, hbf.vis (Or.inr ⟨_, hrch, hin⟩), fun x hx => vis_keep (hmo x hx), Nat.le_trans hlo (vis_len ..), fun k hk => (vis_at (by omega)).trans (hat k hk), ?_⟩, by show (((nextR (w, h, l, wl) (gSp out0 i.toNat)).length : Int) - (j + 1)).toNat < (((nextR (w, h, l, wl) (gSp out0 i.toNat)).length : Int) - j).toNat; omega⟩
      · exact Eq.trans (b := S39c w h l wl b (nextR (w, h, l, wl) (gSp out0 i.toNat)) (es59 (w, h, l, wl) b (seenOf out) (gSp (nextR (w, h, l, wl) (gSp out0 i.toNat)) j.toNat)) (out59 (w, h, l, wl) b (seenOf out) out (gSp (nextR (w, h, l, wl) (gSp out0 i.toNat)) j.toNat)) i (IntKind.i64.wrap (j + 1))) rfl (by rw [es_seen, out_seen, wj])
      · show ∀ k, k < (j + 1).toNat → okW (w, h, l, wl) b (gSp (nextR (w, h, l, wl) (gSp out0 i.toNat)) k) = true → gSp (nextR (w, h, l, wl) (gSp out0 i.toNat)) k ∈ visF (w, h, l, wl) b out (gSp (nextR (w, h, l, wl) (gSp out0 i.toNat)) j.toNat)
        intro k hk ho
        rw [ej] at hk
        rcases Nat.lt_or_eq_of_le (Nat.le_of_lt_succ hk) with g | g
        · exact vis_keep (hin0 k g ho)
        · subst g; exact vis_has ho
    have hlt2 : ¬ (j < ((nextR (w, h, l, wl) (gSp out0 i.toNat)).length : Int)) := @of_decide_eq_false _ _ hlt2
    have ejj : j.toNat = (nextR (w, h, l, wl) (gSp out0 i.toNat)).length := by omega
    have wi : IntKind.i64.wrap (i + 1) = i + 1 := wrap_eq (by omega) (by omega)
    have ei : (i + 1).toNat = i.toNat + 1 := by omega
    have hb := hbf.len hv hth
    conv => whnf
    refine ⟨(out, i + 1), ?_, ⟨by show 0 ≤ i + 1; omega, by show i + 1 ≤ (out.length : Int); omega, hbf, fun s hs ho => hmo _ (hfr s hs ho), ?_⟩, by show ((24 * l.length : Nat) : Int).toNat - (i + 1).toNat < ((24 * l.length : Nat) : Int).toNat - i.toNat; have := hbf0.len hv hth; omega⟩
    · exact Eq.trans (b := S39b w h l wl b (seenOf out) out (IntKind.i64.wrap (i + 1))) rfl (by rw [wi])
    · show ∀ k, k < (i + 1).toNat → ∀ s ∈ nextR (w, h, l, wl) (gSp out k), okW (w, h, l, wl) b s = true → s ∈ out
      intro k hk s hs ho
      rw [ei] at hk
      rw [hat k (by omega)] at hs
      rcases Nat.lt_or_eq_of_le (Nat.le_of_lt_succ hk) with g | g
      · exact hmo _ (hcl k g s hs ho)
      · subst g
        obtain ⟨m, hm, e⟩ := List.getElem_of_mem hs
        have := hin0 m (by omega) (by rw [gSp_eq hm, e]; exact ho)
        rwa [gSp_eq hm, e] at this
  have hlt : ¬ (i < (out0.length : Int)) := @of_decide_eq_false _ _ hlt
  have hb := hbf0.len hv hth
  have ei : i.toNat = out0.length := by omega
  conv => whnf
  refine ⟨swoS, ?_⟩
  conv => whnf
  refine ⟨show out0.length < 4611686018427387904 by omega, ?_⟩
  conv => whnf
  show (sortS out0, 0) = reachR (w, h, l, wl) q b
  rw [reachR, if_neg (by simp [h1]), sort_done hv hth hbf0 hfr (fun k hk => hcl k (by omega))]
end
end Go.Proofs.Ytbndaabjlfdfcaa.Eng
set_option linter.unusedVariables false
set_option linter.unusedSimpArgs false
namespace Go.Proofs.Ytbndaabjlfdfcaa.Eng
open Go
set_option maxRecDepth 100000
noncomputable section
theorem reach_bad1 {r : Rl} {q : List Sp} {b : Bool} (h : ¬ validR r = 0) : reachR r q b = ([], validR r) := by
  have e : allR r q = validR r := by unfold allR; rw [if_pos h]
  unfold reachR
  rw [e, if_pos h]
theorem reach_bad2 {r : Rl} {q : List Sp} {b : Bool} {i : Nat} (hv : validR r = 0) (hi : i < q.length) (hb : ∀ j, j < i → thereR r (gSp q j) = 0) (h : ¬ errRefR r (gSp q i) = 0) : reachR r q b = ([], errRefR r (gSp q i)) := by
  have e : allR r q = errRefR r (gSp q i) := by
    unfold allR
    rw [if_neg (by simp [hv]), firstErr_at (i := i) (fun j hj hk => by rw [← gSp_eq hk]; exact hb j hj), List.drop_eq_getElem_cons hi]
    unfold firstErr
    rw [← gSp_eq hi, there_err hv, if_pos h]
  unfold reachR
  rw [e, if_pos h]
theorem pop_eq {td : List Sp} (h : 0 < td.length) : td = td.take (td.length - 1) ++ [gSp td (td.length - 1)] := by
  rw [gSp_eq (by omega)]
  have e := List.take_succ_eq_append_getElem (l := td) (i := td.length - 1) (by omega)
  rw [← e, List.take_of_length_le (by omega)]
theorem fm_mark (m : List Bool) (n : Nat) : ((List.range (n + 1)).filter (gB m)).map spotN = ((List.range n).filter (gB m)).map spotN ++ (if gB m n = true then [spotN n] else []) := by
  rw [List.range_succ, List.filter_append, List.map_append]
  cases h : gB m n <;> simp [h]
theorem fm_len2 (m : List Bool) (n : Nat) : (((List.range n).filter (gB m)).map spotN).length ≤ n := by
  rw [List.length_map]
  exact Nat.le_trans (List.length_filter_le _ _) (by simp)
def S38a (w h : Int) (l : List Int) (wl : List Bool) (q : List Sp) (b : Bool) (i : Int) : SL := ⟨[.undef, .sl spT q, .bool b, .ptr 0 0 0] ++ List.replicate 5 .undef ++ [.int .i64 i] ++ List.replicate 90 .undef, [(0, .box [.int .i64 w, .int .i64 h, .sl I l, .sl .bool wl])], 1⟩
def S38b (w h : Int) (l : List Int) (wl : List Bool) (b : Bool) (m : List Bool) (td : List Sp) : SL := ⟨[.undef, .undef, .bool b, .ptr 0 0 0] ++ List.replicate 7 .undef ++ [.own 1, .own 2] ++ List.replicate 87 .undef, [(0, .box [.int .i64 w, .int .i64 h, .sl I l, .sl .bool wl]), (1, .arr .bool m), (2, .arr spT td)], 3⟩
def S38c (m : List Bool) (out : List Sp) (n : Int) : SL := ⟨List.replicate 11 .undef ++ [.own 0, .undef, .undef, .own 1, .int .i64 n] ++ List.replicate 84 .undef, [(0, .arr .bool m), (1, .arr spT out)], 2⟩
def E38 : Env := ⟨tab, [(18, K18), (55, K55), (58, K58), (53, K53), (51, K51)], fun n => match n with | 5 => some ([1, 2, 3, 9], [], []) | 12 => some ([2, 3, 11, 12], [], []) | 20 => some ([11, 14, 15], [(14, spT)], []) | 999999 => some ([], [], []) | _ => none⟩
def K38 : Fn1 := ⟨.fld rlT (.fld (.sl spT) (.one .bool)), .fld (.sl spT) (.one I), fun (a : Rl × List Sp × Bool) => [a.2.1.length ≤ 1000000], fun (a : Rl × List Sp × Bool) => reachR a.1 a.2.1 a.2.2⟩
set_option maxHeartbeats 4000000 in
theorem k38 : FnOk Go.Proofs.Try.prog 38 K38 := by
  refine fn_ok (E := E38) (TOk.of tab_told) (AllOk.cons k18 (.cons k55 (.cons k58 (.cons k53 (.cons k51 .nil))))).at_ mix Go.Proofs.Try.func38 rfl rfl (by kernel_rfl) K38 ?_
  rintro ⟨⟨(w : Int), (h : Int), (l : List Int), (wl : List Bool)⟩, (q : List Sp), (b : Bool)⟩ hp
  have hl : q.length ≤ 1000000 := hp _ (List.mem_cons_self ..)
  clear hp
  conv => whnf
  refine cond_intro (fun hvv => ?_) (fun hvv => ?_)
  · have hvv : (!decide (validR (w, h, l, wl) = 0)) = true := hvv
    have hvv : ¬ (validR (w, h, l, wl) = 0) := fun e => absurd hvv (by rw [decide_eq_true e]; decide)
    conv => whnf
    show ([], validR (w, h, l, wl)) = reachR (w, h, l, wl) q b
    rw [reach_bad1 hvv]
  have hvv : (!decide (validR (w, h, l, wl) = 0)) = false := hvv
  have hvv : validR (w, h, l, wl) = 0 := Decidable.byContradiction fun e => absurd hvv (by rw [decide_eq_false e]; decide)
  have hv : validR (w, h, l, wl) = 0 := hvv
  obtain ⟨_, hll, _, _, hle⟩ := valid_len hv
  have hll : (l.length : Int) = w * h := hll
  have hle : w * h ≤ 1024 := hle
  conv => whnf
  refine loop_rule (fun i => S38a w h l wl q b i) (fun i => ((q.length : Int) - i).toNat) (fun i => 0 ≤ i ∧ i ≤ q.length ∧ ∀ k, k < i.toNat → thereR (w, h, l, wl) (gSp q k) = 0) ?_ 0 (by kernel_rfl) ?_ ⟨by omega, by omega, fun k hk => by simp at hk⟩
  case refine_2 => rfl
  rintro i ⟨h0, i1, hin0⟩
  conv => whnf
  refine cond_intro (fun hlt => ?_) (fun hlt => ?_)
  · have hlt : i < (q.length : Int) := @of_decide_eq_true _ _ hlt
    conv => whnf
    refine ⟨h0, ?_⟩
    conv => whnf
    refine ⟨hlt, ?_⟩
    conv => whnf
    refine cond_intro (fun he => ?_) (fun he => ?_)
    · have he : (!decide (errRefR (w, h, l, wl) (gSp q i.toNat) = 0)) = true := he
      have he : ¬ (errRefR (w, h, l, wl) (gSp q i.toNat) = 0) := fun e => absurd he (by rw [decide_eq_true e]; decide)
      conv => whnf
      show ([], errRefR (w, h, l, wl) (gSp q i.toNat)) = reachR (w, h, l, wl) q b
      rw [reach_bad2 hv (by omega) hin0 he]
    have he : (!decide (errRefR (w, h, l, wl) (gSp q i.toNat) = 0)) = false := he
    have he : errRefR (w, h, l, wl) (gSp q i.toNat) = 0 := Decidable.byContradiction fun e => absurd he (by rw [decide_eq_false e]; decide)
    have wi : IntKind.i64.wrap (i + 1) = i + 1 := wrap_eq (by omega) (by omega)
    have ei : (i + 1).toNat = i.toNat + 1 := by omega
    conv => whnf
    refine ⟨i + 1, ?_, ⟨by omega, by omega, fun k hk => ?_⟩, by omega⟩
    · exact Eq.trans (b := S38a w h l wl q b (IntKind.i64.wrap (i + 1))) rfl (by rw [wi])
    · rw [ei] at hk
      rcases Nat.lt_or_eq_of_le (Nat.le_of_lt_succ hk) with g | g
      · exact hin0 k g
      · subst g; rw [there_err hv]; exact he
  have hlt : ¬ (i < (q.length : Int)) := @of_decide_eq_false _ _ hlt
  have hth : ∀ s ∈ q, thereR (w, h, l, wl) s = 0 := fun s hs => by
    obtain ⟨k, hk, e⟩ := List.getElem_of_mem hs
    have := hin0 k (by omega)
    rwa [gSp_eq hk, e] at this
  have w24 : IntKind.i64.wrap ((l.length : Int) * 24) = (l.length : Int) * 24 := wrap_eq (by omega) (by omega)
  have t24 : ((l.length : Int) * 24).toNat = 24 * l.length := by omega
  conv => whnf
  refine ⟨show 0 ≤ IntKind.i64.wrap ((l.length : Int) * 24) by omega, ?_⟩
  conv => whnf
  refine ⟨show IntKind.i64.wrap ((l.length : Int) * 24) ≤ IntKind.i64.wrap ((l.length : Int) * 24) by omega, ?_⟩
  conv => whnf
  refine ⟨show IntKind.i64.wrap ((l.length : Int) * 24) * 1 ≤ 70368744177664 by omega, ?_⟩
  conv => whnf
  refine ⟨show IntKind.i64.wrap ((l.length : Int) * 24) ≤ 70368744177664 by omega, ?_⟩
  conv => whnf
  refine ⟨show (0 + q.length) * 24 ≤ 70368744177664 by omega, ?_⟩
  conv => whnf
  refine ⟨show 0 + q.length ≤ 70368744177664 by omega, ?_⟩
  conv => whnf
  refine loop_rule (fun x : List Bool × List Sp => S38b w h l wl b x.1 x.2) (fun x => 8 * x.1.count false + x.2.length) (fun x => Mk (w, h, l, wl) q b x.1 x.2) ?_ (List.replicate (24 * l.length) false, q) (by kernel_rfl) ?_ Mk.start
  case refine_2 => exact Eq.trans (b := S38b w h l wl b (List.replicate (IntKind.i64.wrap ((l.length : Int) * 24)).toNat false) q) rfl (by rw [w24, t24])
  rintro ⟨m, td⟩ hmk
  have hmk : Mk (w, h, l, wl) q b m td := hmk
  have hml : m.length = 24 * l.length := hmk.ln
  have hbd : 8 * m.count false + td.length ≤ 8 * (24 * l.length) + q.length := hmk.bd
  conv => whnf
  refine cond_intro (fun hlt => ?_) (fun hlt => ?_)
  · have hlt : 0 < (td.length : Int) := @of_decide_eq_true _ _ hlt
    have w1 : IntKind.i64.wrap ((td.length : Int) - 1) = (td.length : Int) - 1 := wrap_eq (by omega) (by omega)
    have t1 : ((td.length : Int) - 1).toNat = td.length - 1 := by omega
    have hp0 := pop_eq (td := td) (by omega)
    have hts : thereR (w, h, l, wl) (gSp td (td.length - 1)) = 0 := hmk.there hv hth (by rw [gSp_eq (by omega)]; exact List.getElem_mem _)
    obtain ⟨hne, hnl⟩ := num_eq hv hts
    have hnl : numN (gSp td (td.length - 1)) < 24 * l.length := hnl
    have hgood := (good_of_there hv hts).1
    obtain ⟨_, _, hwl, _⟩ := valid_len hv
    have hwl : (wl.length : Int) = w * h := hwl
    have hgood : 0 ≤ (gSp td (td.length - 1)).1 ∧ (gSp td (td.length - 1)).1 < w * h := hgood
    have hlm : numN (gSp td (td.length - 1)) < m.length := by omega
    have hnn : (numI (gSp td (td.length - 1))).toNat = numN (gSp td (td.length - 1)) := by omega
    have hfl := next_len (w, h, l, wl) (gSp td (td.length - 1))
    have hfl : (followR (w, h, l, wl) (gSp td (td.length - 1))).length ≤ 6 := by rw [follow_next hv]; exact hfl
    have hmk' := hmk
    rw [hp0] at hmk
    have x0 : 0 ≤ numI (gSp td (IntKind.i64.wrap ((td.length : Int) - 1)).toNat) := by rw [w1, t1]; omega
    have x1 : numI (gSp td (IntKind.i64.wrap ((td.length : Int) - 1)).toNat) < (m.length : Int) := by rw [w1, t1]; omega
    have x2 : 0 ≤ (gSp td (IntKind.i64.wrap ((td.length : Int) - 1)).toNat).1 := by rw [w1, t1]; exact hgood.1
    have x3 : (gSp td (IntKind.i64.wrap ((td.length : Int) - 1)).toNat).1 < (wl.length : Int) := by rw [w1, t1]; omega
    conv => whnf
    refine ⟨show 0 ≤ IntKind.i64.wrap ((td.length : Int) - 1) by omega, ?_⟩
    conv => whnf
    refine ⟨show IntKind.i64.wrap ((td.length : Int) - 1) < (td.length : Int) by omega, ?_⟩
    conv => whnf
    refine ⟨show 0 ≤ IntKind.i64.wrap ((td.length : Int) - 1) by omega, ?_⟩
    conv => whnf
    refine ⟨show IntKind.i64.wrap ((td.length : Int) - 1) ≤ (td.length : Int) by omega, ?_⟩
    conv => whnf
    refine ⟨x0, ?_⟩
    conv => whnf
    refine ⟨x1, ?_⟩
    conv => whnf
    split
    · rename_i hg
      have hg1 : gB m (numI (gSp td (IntKind.i64.wrap ((td.length : Int) - 1)).toNat)).toNat = true := hg
      have hg2 : gB m (numN (gSp td (td.length - 1))) = true := by rw [w1, t1, hnn] at hg1; exact hg1
      iterate 4 (conv => whnf; try (rw [hg]))
      conv => whnf
      refine ⟨(m, td.take (td.length - 1)), ?_, hmk.skip (Or.inl hg2), ?_⟩
      · exact Eq.trans (b := S38b w h l wl b m (td.take (IntKind.i64.wrap ((td.length : Int) - 1)).toNat)) rfl (by rw [w1, t1])
      · show 8 * m.count false + (td.take (td.length - 1)).length < 8 * m.count false + td.length
        rw [List.length_take]; omega
    · rename_i hg
      have hg1 : gB m (numI (gSp td (IntKind.i64.wrap ((td.length : Int) - 1)).toNat)).toNat = false := hg
      have hg2 : gB m (numN (gSp td (td.length - 1))) = false := by rw [w1, t1, hnn] at hg1; exact hg1
      cases b
      · iterate 4 (conv => whnf; try (rw [hg]))
        conv => whnf
        refine ⟨x0, ?_⟩
        conv => whnf
        refine ⟨x1, ?_⟩
        conv => whnf
        refine ⟨hv, ?_⟩
        conv => whnf
        refine ⟨show ((td.take (IntKind.i64.wrap ((td.length : Int) - 1)).toNat).length + (followR (w, h, l, wl) (gSp td (IntKind.i64.wrap ((td.length : Int) - 1)).toNat)).length) * 24 ≤ 70368744177664 by rw [w1, t1, List.length_take]; omega, ?_⟩
        conv => whnf
        refine ⟨show (td.take (IntKind.i64.wrap ((td.length : Int) - 1)).toNat).length + (followR (w, h, l, wl) (gSp td (IntKind.i64.wrap ((td.length : Int) - 1)).toNat)).length ≤ 70368744177664 by rw [w1, t1, List.length_take]; omega, ?_⟩
        conv => whnf
        refine ⟨(m.set (numN (gSp td (td.length - 1))) true, td.take (td.length - 1) ++ nextR (w, h, l, wl) (gSp td (td.length - 1))), ?_, hmk.mark hv hth hg2 rfl, ?_⟩
        · exact Eq.trans (b := S38b w h l wl false (m.set (numI (gSp td (IntKind.i64.wrap ((td.length : Int) - 1)).toNat)).toNat true) ((td.take (IntKind.i64.wrap ((td.length : Int) - 1)).toNat) ++ followR (w, h, l, wl) (gSp td (IntKind.i64.wrap ((td.length : Int) - 1)).toNat))) rfl (by rw [w1, t1, hnn, follow_next hv])
        · show 8 * (m.set (numN (gSp td (td.length - 1))) true).count false + (td.take (td.length - 1) ++ nextR (w, h, l, wl) (gSp td (td.length - 1))).length < 8 * m.count false + td.length
          rw [List.length_append, List.length_take]
          have := count_set (hlm) hg2
          have := next_len (w, h, l, wl) (gSp td (td.length - 1))
          omega
      · iterate 4 (conv => whnf; try (rw [hg]))
        conv => whnf
        refine ⟨x2, ?_⟩
        conv => whnf
        refine ⟨x3, ?_⟩
        conv => whnf
        split
        · rename_i hw
          have hw1 : (!gB wl (gSp td (IntKind.i64.wrap ((td.length : Int) - 1)).toNat).1.toNat) = true := hw
          have hw2 : gB wl (gSp td (td.length - 1)).1.toNat = false := by
            rw [w1, t1] at hw1
            cases e : gB wl (gSp td (td.length - 1)).1.toNat <;> rw [e] at hw1 <;> first | rfl | cases hw1
          conv => whnf
          refine ⟨(m, td.take (td.length - 1)), ?_, hmk.skip (Or.inr hw2), ?_⟩
          · exact Eq.trans (b := S38b w h l wl true m (td.take (IntKind.i64.wrap ((td.length : Int) - 1)).toNat)) rfl (by rw [w1, t1])
          · show 8 * m.count false + (td.take (td.length - 1)).length < 8 * m.count false + td.length
            rw [List.length_take]; omega
        · rename_i hw
          have hw1 : (!gB wl (gSp td (IntKind.i64.wrap ((td.length : Int) - 1)).toNat).1.toNat) = false := hw
          have hw2 : gB wl (gSp td (td.length - 1)).1.toNat = true := by
            rw [w1, t1] at hw1
            cases e : gB wl (gSp td (td.length - 1)).1.toNat <;> rw [e] at hw1 <;> first | rfl | cases hw1
          conv => whnf
          refine ⟨x0, ?_⟩
          conv => whnf
          refine ⟨x1, ?_⟩
          conv => whnf
          refine ⟨hv, ?_⟩
          conv => whnf
          refine ⟨show ((td.take (IntKind.i64.wrap ((td.length : Int) - 1)).toNat).length + (followR (w, h, l, wl) (gSp td (IntKind.i64.wrap ((td.length : Int) - 1)).toNat)).length) * 24 ≤ 70368744177664 by rw [w1, t1, List.length_take]; omega, ?_⟩
          conv => whnf
          refine ⟨show (td.take (IntKind.i64.wrap ((td.length : Int) - 1)).toNat).length + (followR (w, h, l, wl) (gSp td (IntKind.i64.wrap ((td.length : Int) - 1)).toNat)).length ≤ 70368744177664 by rw [w1, t1, List.length_take]; omega, ?_⟩
          conv => whnf
          refine ⟨(m.set (numN (gSp td (td.length - 1))) true, td.take (td.length - 1) ++ nextR (w, h, l, wl) (gSp td (td.length - 1))), ?_, hmk.mark hv hth hg2 hw2, ?_⟩
          · exact Eq.trans (b := S38b w h l wl true (m.set (numI (gSp td (IntKind.i64.wrap ((td.length : Int) - 1)).toNat)).toNat true) ((td.take (IntKind.i64.wrap ((td.length : Int) - 1)).toNat) ++ followR (w, h, l, wl) (gSp td (IntKind.i64.wrap ((td.length : Int) - 1)).toNat))) rfl (by rw [w1, t1, hnn, follow_next hv])
          · show 8 * (m.set (numN (gSp td (td.length - 1))) true).count false + (td.take (td.length - 1) ++ nextR (w, h, l, wl) (gSp td (td.length - 1))).length < 8 * m.count false + td.length
            rw [List.length_append, List.length_take]
            have := count_set (hlm) hg2
            have := next_len (w, h, l, wl) (gSp td (td.length - 1))
            omega
  have hlt : ¬ (0 < (td.length : Int)) := @of_decide_eq_false _ _ hlt
  have et : td = [] := List.length_eq_zero_iff.1 (by omega)
  subst et
  have hml := hmk.ln
  have hml : m.length = 24 * l.length := hml
  conv => whnf
  refine loop_rule (fun n : Int => S38c m (((List.range n.toNat).filter (gB m)).map spotN) n) (fun n => ((m.length : Int) - n).toNat) (fun n => 0 ≤ n ∧ n ≤ m.length) ?_ 0 (by kernel_rfl) ?_ ⟨Int.le_refl _, by omega⟩
  case refine_2 => rfl
  rintro n ⟨n0, n1⟩
  have wn : IntKind.i64.wrap (n + 1) = n + 1 := wrap_eq (by omega) (by omega)
  have en : (n + 1).toNat = n.toNat + 1 := by omega
  have hfl := fm_len2 m n.toNat
  conv => whnf
  refine cond_intro (fun hlt => ?_) (fun hlt => ?_)
  · have hlt : n < (m.length : Int) := @of_decide_eq_true _ _ hlt
    conv => whnf
    refine ⟨n0, ?_⟩
    conv => whnf
    refine ⟨hlt, ?_⟩
    conv => whnf
    refine cond_intro (fun hg => ?_) (fun hg => ?_)
    · have hg : (gB m n.toNat) = true := hg
      conv => whnf
      refine ⟨show ((((List.range n.toNat).filter (gB m)).map spotN).length + 1) * 24 ≤ 70368744177664 by omega, ?_⟩
      conv => whnf
      refine ⟨show (((List.range n.toNat).filter (gB m)).map spotN).length + 1 ≤ 70368744177664 by omega, ?_⟩
      conv => whnf
      refine ⟨n + 1, ?_, ⟨by omega, by omega⟩, by omega⟩
      exact Eq.trans (b := S38c m (((List.range n.toNat).filter (gB m)).map spotN ++ [spI n]) (IntKind.i64.wrap (n + 1))) rfl (by rw [wn, en, fm_mark, if_pos hg, spI_eq n0 (by omega)])
    have hg : (gB m n.toNat) = false := hg
    conv => whnf
    refine ⟨n + 1, ?_, ⟨by omega, by omega⟩, by omega⟩
    exact Eq.trans (b := S38c m (((List.range n.toNat).filter (gB m)).map spotN) (IntKind.i64.wrap (n + 1))) rfl (by rw [wn, en, fm_mark, if_neg (by rw [hg]; decide), List.append_nil])
  have hlt : ¬ (n < (m.length : Int)) := @of_decide_eq_false _ _ hlt
  have ee : n.toNat = m.length := by omega
  rw [ee]
  conv => whnf
  show (((List.range m.length).filter (gB m)).map spotN, 0) = reachR (w, h, l, wl) q b
  rw [reachR, if_neg (by simp [all_iff.2 ⟨hv, hth⟩]), hmk.done hv hth]
end
end Go.Proofs.Ytbndaabjlfdfcaa.Eng
set_option linter.unusedVariables false
set_option linter.unusedSimpArgs false
namespace Go.Proofs.Ytbndaabjlfdfcaa.Eng
open Go
set_option maxRecDepth 100000
noncomputable section
theorem far_len {r : Rl} (h : farR r = false) : r.2.2.1.length ≤ 3000 := by
  have h : (decide (3000 < (r.2.2.1.length : Int)) || decide (3000 < (r.2.2.2.length : Int))) = false := h
  rw [Bool.or_eq_false_iff, decide_eq_false_iff_not] at h
  omega
theorem reachR_len (r : Rl) (q : List Sp) (b : Bool) : (reachR r q b).1.length ≤ 24 * r.2.2.1.length := by
  unfold reachR
  split
  · exact Nat.zero_le _
  · exact reach_len r q b
def K14 : Fn1 := ⟨.fld rlT (.fld (.sl spT) (.one .bool)), .one .bool, fun _ => [], fun _ => true⟩
theorem k14 : FnOk Go.Proofs.Try.prog 14 K14 := by
  refine fn_ok (E := (⟨tab, [(16, K16), (17, K17), (38, K38), (39, K39), (33, K33)], ann0⟩ : Env)) (TOk.of tab_told) (AllOk.cons k16 (.cons k17 (.cons k38 (.cons k39 (.cons k33 .nil))))).at_ mix Go.Proofs.Try.func14 rfl rfl (by kernel_rfl) K14 ?_
  rintro ⟨⟨(w : Int), (h : Int), (l : List Int), (wl : List Bool)⟩, (q : List Sp), (b : Bool)⟩ hp
  clear hp
  conv => whnf
  refine cond_intro (fun h1 => ?_) (fun h1 => ?_)
  · have h1 : (farR (w, h, l, wl)) = true := h1
    conv => whnf
    rfl
  have h1 : (farR (w, h, l, wl)) = false := h1
  conv => whnf
  refine cond_intro (fun h2 => ?_) (fun h2 => ?_)
  · have h2 : 3000 < (q.length : Int) := @of_decide_eq_true _ _ h2
    conv => whnf
    rfl
  have h2 : ¬ (3000 < (q.length : Int)) := @of_decide_eq_false _ _ h2
  have hq : q.length ≤ 1000000 := by omega
  have hf : l.length ≤ 3000 := far_len h1
  have hr : (reachR (w, h, l, wl) q b).1.length ≤ 24 * l.length := reachR_len (w, h, l, wl) q b
  conv => whnf
  refine ⟨hq, ?_⟩
  conv => whnf
  refine ⟨hq, ?_⟩
  conv => whnf
  refine cond_intro (fun h3 => ?_) (fun h3 => ?_)
  · have h3 : (reachR (w, h, l, wl) q b).2 = (reachR (w, h, l, wl) q b).2 := @of_decide_eq_true _ _ h3
    conv => whnf
    refine ⟨show (reachR (w, h, l, wl) q b).1.length ≤ 100000 by omega, ?_⟩
    conv => whnf
    refine cond_intro (fun h4 => ?_) (fun h4 => ?_)
    · have h4 : (eqSp (reachR (w, h, l, wl) q b).1 (reachR (w, h, l, wl) q b).1) = true := h4
      conv => whnf
      rfl
    have h4 : (eqSp (reachR (w, h, l, wl) q b).1 (reachR (w, h, l, wl) q b).1) = false := h4
    exact absurd h4 (by unfold eqSp; simp)
  have h3 : ¬ ((reachR (w, h, l, wl) q b).2 = (reachR (w, h, l, wl) q b).2) := @of_decide_eq_false _ _ h3
  exact absurd rfl h3
end
end Go.Proofs.Ytbndaabjlfdfcaa.Eng
set_option linter.unusedVariables false
set_option linter.unusedSimpArgs false
namespace Go.Proofs.Ytbndaabjlfdfcaa.Eng
open Go
set_option maxRecDepth 100000
noncomputable section
theorem rch_mono {r : Rl} {q p : List Sp} {b : Bool} {s : Sp} (hq : ∀ s ∈ q, s ∈ p) (h : Rch r q b s) : Rch r p b s := by
  induction h with
  | base h k => exact .base (hq _ h) k
  | step _ hn k ih => exact .step ih hn k
theorem rch_split {r : Rl} {a c : List Sp} {b : Bool} {s : Sp} (h : Rch r ([] ++ a ++ c) b s) : Rch r a b s ∨ Rch r c b s := by
  induction h with
  | base h k =>
    rw [List.nil_append] at h
    rcases List.mem_append.1 h with h | h
    · exact Or.inl (.base h k)
    · exact Or.inr (.base h k)
  | step _ hn k ih =>
    rcases ih with ih | ih
    · exact Or.inl (.step ih hn k)
    · exact Or.inr (.step ih hn k)
theorem reach_snd (r : Rl) (q : List Sp) (b : Bool) : (reachR r q b).2 = allR r q := by
  unfold reachR
  split
  · rfl
  · rename_i h
    exact (Decidable.not_not.1 h).symm
theorem reach_ok {r : Rl} {q : List Sp} {b : Bool} (h : allR r q = 0) : reachR r q b = (reachL r q b, 0) := by
  unfold reachR
  rw [if_neg (by simp [h])]
theorem same_reach {r : Rl} {q p : List Sp} {b : Bool} (hv : validR r = 0) (hq : ∀ s ∈ q, thereR r s = 0) (hp : ∀ s ∈ p, thereR r s = 0) (h : ∀ s, Rch r q b s ↔ Rch r p b s) : reachL r q b = reachL r p b :=
  uniq_sorted (reach_sorted r q b) (reach_sorted r p b) fun x => by rw [mem_reach hv hq, mem_reach hv hp]; exact h x
theorem parts_law {r : Rl} {a c : List Sp} {b : Bool} (hx : (reachR r a b).2 = 0) (hy : (reachR r c b).2 = 0) :
    (reachR r ([] ++ a ++ c) b).2 = 0 ∧ (reachR r (reachR r ([] ++ a ++ c) b).1 b).2 = 0 ∧ (reachR r ([] ++ (reachR r a b).1 ++ (reachR r c b).1) b).2 = 0 ∧
    (reachR r (reachR r ([] ++ a ++ c) b).1 b).1 = (reachR r ([] ++ a ++ c) b).1 ∧ (reachR r ([] ++ (reachR r a b).1 ++ (reachR r c b).1) b).1 = (reachR r ([] ++ a ++ c) b).1 ∧
    (reachR r ([] ++ a ++ c) b).1.length ≤ (reachR r a b).1.length + (reachR r c b).1.length := by
  rw [reach_snd] at hx hy
  have hx' := all_iff.1 hx
  have hy' := all_iff.1 hy
  obtain ⟨hv, ha⟩ := hx'
  have hc := hy'.2
  have hac : ∀ s ∈ [] ++ a ++ c, thereR r s = 0 := by
    intro s hs
    rw [List.nil_append] at hs
    rcases List.mem_append.1 hs with h | h
    · exact ha s h
    · exact hc s h
  rw [reach_ok hx, reach_ok hy, reach_ok (all_iff.2 ⟨hv, hac⟩)]
  have hz : ∀ s ∈ reachL r ([] ++ a ++ c) b, thereR r s = 0 := fun s hs => rch_there hv hac ((mem_reach hv hac).1 hs)
  have hxy : ∀ s ∈ [] ++ reachL r a b ++ reachL r c b, thereR r s = 0 := by
    intro s hs
    rw [List.nil_append] at hs
    rcases List.mem_append.1 hs with h | h
    · exact rch_there hv ha ((mem_reach hv ha).1 h)
    · exact rch_there hv hc ((mem_reach hv hc).1 h)
  show (0 : Int) = 0 ∧ (reachR r (reachL r ([] ++ a ++ c) b) b).2 = 0 ∧ (reachR r ([] ++ reachL r a b ++ reachL r c b) b).2 = 0 ∧ (reachR r (reachL r ([] ++ a ++ c) b) b).1 = reachL r ([] ++ a ++ c) b ∧ (reachR r ([] ++ reachL r a b ++ reachL r c b) b).1 = reachL r ([] ++ a ++ c) b ∧ (reachL r ([] ++ a ++ c) b).length ≤ (reachL r a b).length + (reachL r c b).length
  rw [reach_ok (all_iff.2 ⟨hv, hz⟩), reach_ok (all_iff.2 ⟨hv, hxy⟩)]
  have inl : ∀ s, Rch r a b s → Rch r ([] ++ a ++ c) b s := fun s h => rch_mono (fun s hs => by rw [List.nil_append]; exact List.mem_append_left _ hs) h
  have inr : ∀ s, Rch r c b s → Rch r ([] ++ a ++ c) b s := fun s h => rch_mono (fun s hs => by rw [List.nil_append]; exact List.mem_append_right _ hs) h
  refine ⟨rfl, rfl, rfl, same_reach hv hz hac fun s => ⟨fun h => ?_, fun h => .base ((mem_reach hv hac).2 h) h.ok⟩, same_reach hv hxy hac fun s => ⟨fun h => ?_, fun h => ?_⟩, ?_⟩
  · induction h with
    | base h _ => exact (mem_reach hv hac).1 h
    | step _ hn k ih => exact .step ih hn k
  · induction h with
    | base h _ =>
      rw [List.nil_append] at h
      rcases List.mem_append.1 h with h | h
      · exact inl _ ((mem_reach hv ha).1 h)
      · exact inr _ ((mem_reach hv hc).1 h)
    | step _ hn k ih => exact .step ih hn k
  · rcases rch_split h with g | g
    · exact .base (by rw [List.nil_append]; exact List.mem_append_left _ ((mem_reach hv ha).2 g)) h.ok
    · exact .base (by rw [List.nil_append]; exact List.mem_append_right _ ((mem_reach hv hc).2 g)) h.ok
  · have := len_of_sub (m := reachL r a b ++ reachL r c b) (reach_nodup r ([] ++ a ++ c) b) fun s hs => by
      rcases rch_split ((mem_reach hv hac).1 hs) with g | g
      · exact List.mem_append_left _ ((mem_reach hv ha).2 g)
      · exact List.mem_append_right _ ((mem_reach hv hc).2 g)
    rwa [List.length_append] at this
def K15 : Fn1 := ⟨.fld rlT (.fld (.sl spT) (.fld (.sl spT) (.one .bool))), .one .bool, fun _ => [], fun _ => true⟩
set_option maxHeartbeats 4000000 in
theorem k15 : FnOk Go.Proofs.Try.prog 15 K15 := by
  refine fn_ok (E := (⟨tab, [(16, K16), (17, K17), (39, K39), (33, K33)], ann0⟩ : Env)) (TOk.of tab_told) (AllOk.cons k16 (.cons k17 (.cons k39 (.cons k33 .nil)))).at_ mix Go.Proofs.Try.func15 rfl rfl (by kernel_rfl) K15 ?_
  rintro ⟨⟨(w : Int), (h : Int), (l : List Int), (wl : List Bool)⟩, (a : List Sp), (c : List Sp), (b : Bool)⟩ hp
  clear hp
  conv => whnf
  refine cond_intro (fun h1 => ?_) (fun h1 => ?_)
  · have h1 : (farR (w, h, l, wl)) = true := h1
    conv => whnf
    rfl
  have h1 : (farR (w, h, l, wl)) = false := h1
  conv => whnf
  refine cond_intro (fun h2 => ?_) (fun h2 => ?_)
  · have h2 : 50 < (a.length : Int) := @of_decide_eq_true _ _ h2
    conv => whnf
    rfl
  have h2 : ¬ (50 < (a.length : Int)) := @of_decide_eq_false _ _ h2
  conv => whnf
  refine cond_intro (fun h3 => ?_) (fun h3 => ?_)
  · have h3 : 50 < (c.length : Int) := @of_decide_eq_true _ _ h3
    conv => whnf
    rfl
  have h3 : ¬ (50 < (c.length : Int)) := @of_decide_eq_false _ _ h3
  have ha : a.length ≤ 1000000 := by omega
  have hc : c.length ≤ 1000000 := by omega
  have hf : l.length ≤ 3000 := far_len h1
  have hX0 : True := trivial
  have hX : (reachR (w, h, l, wl) a b).1.length ≤ 24 * l.length := reachR_len (w, h, l, wl) a b
  have hY : (reachR (w, h, l, wl) c b).1.length ≤ 24 * l.length := reachR_len (w, h, l, wl) c b
  have hZ : (reachR (w, h, l, wl) (([] : List Sp) ++ a ++ c) b).1.length ≤ 24 * l.length := reachR_len (w, h, l, wl) (([] : List Sp) ++ a ++ c) b
  have q1 : ((([] : List Sp) ++ a).length + c.length) * 24 ≤ 70368744177664 := by rw [List.nil_append]; omega
  have q2 : (([] : List Sp) ++ a).length + c.length ≤ 70368744177664 := by rw [List.nil_append]; omega
  have q4 : ((([] : List Sp) ++ (reachR (w, h, l, wl) a b).1).length + (reachR (w, h, l, wl) c b).1.length) * 24 ≤ 70368744177664 := by rw [List.nil_append]; omega
  have q5 : (([] : List Sp) ++ (reachR (w, h, l, wl) a b).1).length + (reachR (w, h, l, wl) c b).1.length ≤ 70368744177664 := by rw [List.nil_append]; omega
  have lac : (([] : List Sp) ++ a ++ c).length = a.length + c.length := by simp
  have lxy : (([] : List Sp) ++ (reachR (w, h, l, wl) a b).1 ++ (reachR (w, h, l, wl) c b).1).length = (reachR (w, h, l, wl) a b).1.length + (reachR (w, h, l, wl) c b).1.length := by simp
  have q3 : (([] : List Sp) ++ a ++ c).length ≤ 1000000 := by omega
  have q7 : (reachR (w, h, l, wl) (([] : List Sp) ++ a ++ c) b).1.length ≤ 1000000 := by omega
  have q8 : (0 + (reachR (w, h, l, wl) a b).1.length) * 24 ≤ 70368744177664 := by omega
  have q9 : 0 + (reachR (w, h, l, wl) a b).1.length ≤ 70368744177664 := by omega
  have q10 : (reachR (w, h, l, wl) (([] : List Sp) ++ a ++ c) b).1.length ≤ 100000 := by omega
  have q6 : (([] : List Sp) ++ (reachR (w, h, l, wl) a b).1 ++ (reachR (w, h, l, wl) c b).1).length ≤ 1000000 := by omega
  conv => whnf
  refine ⟨ha, ?_⟩
  conv => whnf
  refine ⟨hc, ?_⟩
  conv => whnf
  refine cond_intro (fun h4 => ?_) (fun h4 => ?_)
  · have h4 : (!decide ((reachR (w, h, l, wl) a b).2 = 0)) = true := h4
    have h4 : ¬ ((reachR (w, h, l, wl) a b).2 = 0) := fun e => absurd h4 (by rw [decide_eq_true e]; decide)
    conv => whnf
    rfl
  have h4 : (!decide ((reachR (w, h, l, wl) a b).2 = 0)) = false := h4
  have h4 : (reachR (w, h, l, wl) a b).2 = 0 := Decidable.byContradiction fun e => absurd h4 (by rw [decide_eq_false e]; decide)
  conv => whnf
  refine cond_intro (fun h5 => ?_) (fun h5 => ?_)
  · have h5 : (!decide ((reachR (w, h, l, wl) c b).2 = 0)) = true := h5
    have h5 : ¬ ((reachR (w, h, l, wl) c b).2 = 0) := fun e => absurd h5 (by rw [decide_eq_true e]; decide)
    conv => whnf
    rfl
  have h5 : (!decide ((reachR (w, h, l, wl) c b).2 = 0)) = false := h5
  have h5 : (reachR (w, h, l, wl) c b).2 = 0 := Decidable.byContradiction fun e => absurd h5 (by rw [decide_eq_false e]; decide)
  obtain ⟨hz, hag, hbo, s1, s2, s3⟩ := parts_law h4 h5
  conv => whnf
  refine ⟨show (0 + a.length) * 24 ≤ 70368744177664 by omega, ?_⟩
  conv => whnf
  refine ⟨show 0 + a.length ≤ 70368744177664 by omega, ?_⟩
  conv => whnf
  refine ⟨q1, ?_⟩
  conv => whnf
  refine ⟨q2, ?_⟩
  conv => whnf
  refine ⟨q3, ?_⟩
  conv => whnf
  refine ⟨q7, ?_⟩
  conv => whnf
  refine ⟨q8, ?_⟩
  conv => whnf
  refine ⟨q9, ?_⟩
  conv => whnf
  refine ⟨q4, ?_⟩
  conv => whnf
  refine ⟨q5, ?_⟩
  conv => whnf
  refine ⟨q6, ?_⟩
  conv => whnf
  refine cond_intro (fun g1 => ?_) (fun g1 => ?_)
  · have g1 : (reachR (w, h, l, wl) (([] : List Sp) ++ a ++ c) b).2 = 0 := @of_decide_eq_true _ _ g1
    conv => whnf
    refine cond_intro (fun g2 => ?_) (fun g2 => ?_)
    · have g2 : (reachR (w, h, l, wl) (reachR (w, h, l, wl) (([] : List Sp) ++ a ++ c) b).1 b).2 = 0 := @of_decide_eq_true _ _ g2
      conv => whnf
      refine cond_intro (fun g3 => ?_) (fun g3 => ?_)
      · have g3 : (reachR (w, h, l, wl) (([] : List Sp) ++ (reachR (w, h, l, wl) a b).1 ++ (reachR (w, h, l, wl) c b).1) b).2 = 0 := @of_decide_eq_true _ _ g3
        conv => whnf
        refine ⟨q10, ?_⟩
        conv => whnf
        refine cond_intro (fun g4 => ?_) (fun g4 => ?_)
        · have g4 : (eqSp (reachR (w, h, l, wl) (([] : List Sp) ++ a ++ c) b).1 (reachR (w, h, l, wl) (reachR (w, h, l, wl) (([] : List Sp) ++ a ++ c) b).1 b).1) = true := g4
          conv => whnf
          refine ⟨q10, ?_⟩
          conv => whnf
          refine cond_intro (fun g5 => ?_) (fun g5 => ?_)
          · have g5 : (eqSp (reachR (w, h, l, wl) (([] : List Sp) ++ a ++ c) b).1 (reachR (w, h, l, wl) (([] : List Sp) ++ (reachR (w, h, l, wl) a b).1 ++ (reachR (w, h, l, wl) c b).1) b).1) = true := g5
            have hw : IntKind.i64.wrap (((reachR (w, h, l, wl) a b).1.length : Int) + ((reachR (w, h, l, wl) c b).1.length : Int)) = ((reachR (w, h, l, wl) a b).1.length : Int) + ((reachR (w, h, l, wl) c b).1.length : Int) := wrap_eq (by omega) (by omega)
            conv => whnf
            refine cond_intro (fun g6 => ?_) (fun g6 => ?_)
            · have g6 : ((reachR (w, h, l, wl) (([] : List Sp) ++ a ++ c) b).1.length : Int) ≤ IntKind.i64.wrap (((reachR (w, h, l, wl) a b).1.length : Int) + ((reachR (w, h, l, wl) c b).1.length : Int)) := @of_decide_eq_true _ _ g6
              conv => whnf
              rfl
            have g6 : ¬ (((reachR (w, h, l, wl) (([] : List Sp) ++ a ++ c) b).1.length : Int) ≤ IntKind.i64.wrap (((reachR (w, h, l, wl) a b).1.length : Int) + ((reachR (w, h, l, wl) c b).1.length : Int))) := @of_decide_eq_false _ _ g6
            exact absurd (show ((reachR (w, h, l, wl) (([] : List Sp) ++ a ++ c) b).1.length : Int) ≤ IntKind.i64.wrap (((reachR (w, h, l, wl) a b).1.length : Int) + ((reachR (w, h, l, wl) c b).1.length : Int)) by rw [hw]; omega) g6
          have g5 : (eqSp (reachR (w, h, l, wl) (([] : List Sp) ++ a ++ c) b).1 (reachR (w, h, l, wl) (([] : List Sp) ++ (reachR (w, h, l, wl) a b).1 ++ (reachR (w, h, l, wl) c b).1) b).1) = false := g5
          exact absurd g5 (by unfold eqSp; rw [s2]; simp)
        have g4 : (eqSp (reachR (w, h, l, wl) (([] : List Sp) ++ a ++ c) b).1 (reachR (w, h, l, wl) (reachR (w, h, l, wl) (([] : List Sp) ++ a ++ c) b).1 b).1) = false := g4
        exact absurd g4 (by unfold eqSp; rw [s1]; simp)
      have g3 : ¬ ((reachR (w, h, l, wl) (([] : List Sp) ++ (reachR (w, h, l, wl) a b).1 ++ (reachR (w, h, l, wl) c b).1) b).2 = 0) := @of_decide_eq_false _ _ g3
      exact absurd hbo g3
    have g2 : ¬ ((reachR (w, h, l, wl) (reachR (w, h, l, wl) (([] : List Sp) ++ a ++ c) b).1 b).2 = 0) := @of_decide_eq_false _ _ g2
    exact absurd hag g2
  have g1 : ¬ ((reachR (w, h, l, wl) (([] : List Sp) ++ a ++ c) b).2 = 0) := @of_decide_eq_false _ _ g1
  exact absurd hz g1
end
end Go.Proofs.Ytbndaabjlfdfcaa.Eng
