/- What the functions that the law reaches answer, each for every input. -/
import Derived.Test.YtllgclopliegfaaDoorEngThree
import Derived.Lib.Strings
import Derived.Ground.NamesProg
import Derived.Shelf.Lay
import Derived.Shelf.Strings.Count
import Derived.Shelf.Strings.Search3
import Derived.Shelf.Strings.Prefix
set_option linter.unusedVariables false
set_option linter.unusedSimpArgs false
set_option linter.unusedVariables false
set_option linter.unusedSimpArgs false
namespace Go.Proofs.YtllgclopliegfaaDoor.Eng
open Go
set_option maxRecDepth 100000
noncomputable section
/-- Bytes parted at each line feed. -/
def splN : List UInt8 → List (List UInt8)
  | [] => [[]]
  | c :: r => if c = 10 then [] :: splN r else match splN r with
    | [] => [[c]]
    | h :: t => (c :: h) :: t
theorem splN_no : ∀ {l : List UInt8}, (∀ c ∈ l, c ≠ 10) → splN l = [l]
  | [], _ => rfl
  | c :: r, h => by
    have h1 : c ≠ 10 := h c List.mem_cons_self
    have h2 := splN_no (l := r) (fun x hx => h x (List.mem_cons_of_mem _ hx))
    simp only [splN, if_neg h1, h2]
theorem splN_cut : ∀ {a r : List UInt8}, (∀ c ∈ a, c ≠ 10) → splN (a ++ 10 :: r) = a :: splN r
  | [], r, _ => by simp [splN]
  | c :: a, r, h => by
    have h1 : c ≠ 10 := h c List.mem_cons_self
    have h2 := splN_cut (a := a) (r := r) (fun x hx => h x (List.mem_cons_of_mem _ hx))
    simp only [List.cons_append, splN, if_neg h1, h2]
theorem splN_ne : ∀ {l : List UInt8}, splN l ≠ []
  | [] => by simp [splN]
  | c :: r => by
    unfold splN
    split
    · simp
    · cases e : splN r <;> simp
theorem splN_end : ∀ {l : List UInt8}, splN (l ++ [10]) = splN l ++ [[]]
  | [] => by simp [splN]
  | c :: r => by
    have ih := splN_end (l := r)
    by_cases h : c = 10
    · simp only [List.cons_append, splN, if_pos h, ih]
    · simp only [List.cons_append, splN, if_neg h, ih]
      cases e : splN r with
      | nil => exact absurd e splN_ne
      | cons x y => rfl
/-- The first place from a on, of at most n, where p holds. -/
def fst (p : Nat → Bool) : Nat → Nat → Nat
  | 0, a => a
  | n + 1, a => match p a with | true => a | false => fst p n (a + 1)
theorem fst_eq {p : Nat → Bool} : ∀ {n a i : Nat}, a ≤ i → i ≤ a + n → (∀ j, a ≤ j → j < i → p j = false) → (i < a + n → p i = true) → fst p n a = i
  | 0, a, i, h1, h2, _, _ => by unfold fst; omega
  | n + 1, a, i, h1, h2, h3, h4 => by
    unfold fst
    by_cases e : a = i
    · subst e; rw [h4 (by omega)]
    · rw [h3 a (Nat.le_refl _) (by omega)]
      exact fst_eq (by omega) (by omega) (fun j hj hj2 => h3 j (by omega) hj2) (fun h => h4 (by omega))
def mkB (l : List UInt8) : ByteArray := ⟨l.toArray⟩
def bs (s : ByteArray) : List UInt8 := s.data.toList
theorem bs_mk (l : List UInt8) : bs (mkB l) = l := rfl
theorem mk_bs (s : ByteArray) : mkB (bs s) = s := Go.Lib.mk_data s
theorem bs_len (s : ByteArray) : (bs s).length = s.size := (Go.Lib.size_eq s).symm
theorem ex_mk (s : ByteArray) (a b : Nat) : s.extract a b = mkB (((bs s).drop a).take (b - a)) := Go.Lib.extract_eq s a b
theorem ex_bs (s : ByteArray) (a b : Nat) : bs (s.extract a b) = ((bs s).drop a).take (b - a) := by rw [ex_mk]; rfl
theorem tl_bs (s : ByteArray) : s.toList = bs s := Go.Lib.toList_data s
theorem byte10 {s : ByteArray} {i : Nat} : byteAt s i = 10 ↔ (bs s).getD i 0 = 10 := by
  show (((s.data.toList.getD i 0).toNat : Nat) : Int) = 10 ↔ s.data.toList.getD i 0 = 10
  constructor
  · intro h
    apply UInt8.toNat_inj.1
    have : (s.data.toList.getD i 0).toNat = 10 := by omega
    rw [this]; rfl
  · intro h; rw [h]; rfl
theorem byte_lt {s : ByteArray} {i : Nat} : 0 ≤ byteAt s i ∧ byteAt s i < 256 := by
  have := (s.data.toList.getD i 0).toNat_lt
  constructor
  · exact Int.natCast_nonneg _
  · show (((s.data.toList.getD i 0).toNat : Nat) : Int) < 256
    omega
/-- Without its line feed at the end. -/
def trimN (l : List UInt8) : List UInt8 := if l.getLast? = some 10 then l.dropLast else l
def linesB (s : ByteArray) : List ByteArray := if s.size = 0 then [] else (splN (trimN (bs s))).map mkB
def gS (l : List ByteArray) (i : Nat) : ByteArray := l.getD i ByteArray.empty
def setB (c : Int) : Bool := decide (48 ≤ c) && decide (c < 112)
def wireB (c : Int) : Bool := decide (c = 119) || decide (c = 46)
def goodN (p : Int → Bool) (s : ByteArray) : Nat → Bool
  | 0 => true
  | n + 1 => goodN p s n && p (byteAt s n)
def goodR (s : ByteArray) (w : Int) (p : Int → Bool) : Bool := decide ((s.size : Int) = w) && goodN p s s.size
theorem good_bad {p : Int → Bool} {s : ByteArray} : ∀ {n i : Nat}, i < n → p (byteAt s i) = false → goodN p s n = false
  | 0, i, h, _ => by omega
  | n + 1, i, h, e => by
    unfold goodN
    by_cases hi : i = n
    · subst hi; rw [e, Bool.and_false]
    · rw [good_bad (by omega) e, Bool.false_and]
theorem good_at {p : Int → Bool} {s : ByteArray} : ∀ {n i : Nat}, goodN p s n = true → i < n → p (byteAt s i) = true
  | 0, i, _, h => by omega
  | n + 1, i, h, e => by
    unfold goodN at h
    rw [Bool.and_eq_true] at h
    by_cases hi : i = n
    · subst hi; exact h.2
    · exact good_at h.1 (by omega)
def emp (s : ByteArray) : Bool := decide (s.size = 0)
theorem emp_iff {s t : ByteArray} (ht : t.size = 0) : (s.toList == t.toList) = emp s := by
  rw [tl_bs, tl_bs]
  have h1 := bs_len s
  have h2 := bs_len t
  rw [ht] at h2
  rw [List.length_eq_zero_iff.1 h2]
  unfold emp
  rw [← h1]
  cases bs s <;> simp
def stop1 (l : List ByteArray) (j : Nat) : Bool := emp (gS l j) || !goodR (gS l j) (gS l 0).size setB
def hR (l : List ByteArray) : Nat := fst (stop1 l) l.length 0
def stop2 (l : List ByteArray) (h : Nat) (k : Nat) : Bool := decide (2 * h < k) || !goodR (gS l k) (gS l 0).size wireB
def kR (l : List ByteArray) (h : Nat) : Nat := fst (stop2 l h) (l.length - (h + 1)) (h + 1)
def rowI (s : ByteArray) : Nat → List Int
  | 0 => []
  | n + 1 => rowI s n ++ [byteAt s n - 48]
def rowW (s : ByteArray) : Nat → List Bool
  | 0 => []
  | n + 1 => rowW s n ++ [decide (byteAt s n = 119)]
theorem rowI_len {s : ByteArray} : ∀ n, (rowI s n).length = n
  | 0 => rfl
  | n + 1 => by rw [rowI, List.length_append, rowI_len n]; rfl
theorem rowW_len {s : ByteArray} : ∀ n, (rowW s n).length = n
  | 0 => rfl
  | n + 1 => by rw [rowW, List.length_append, rowW_len n]; rfl
/-- The first rows' sets, w of each row. -/
def rowsI (l : List ByteArray) (w : Nat) : Nat → List Int
  | 0 => []
  | n + 1 => rowsI l w n ++ rowI (gS l n) w
def rowsW (l : List ByteArray) (w h : Nat) : Nat → List Bool
  | 0 => []
  | n + 1 => rowsW l w h n ++ rowW (gS l (h + 1 + n)) w
theorem rowsI_len {l : List ByteArray} {w : Nat} : ∀ n, (rowsI l w n).length = n * w
  | 0 => by simp [rowsI]
  | n + 1 => by rw [rowsI, List.length_append, rowsI_len n, rowI_len, Nat.succ_mul]
theorem rowsW_len {l : List ByteArray} {w h : Nat} : ∀ n, (rowsW l w h n).length = n * w
  | 0 => by simp [rowsW]
  | n + 1 => by rw [rowsW, List.length_append, rowsW_len n, rowW_len, Nat.succ_mul]
/-- All rows are no longer than the text. -/
theorem splN_size : ∀ {l : List UInt8}, ((splN l).map List.length).sum + (splN l).length = l.length + 1
  | [] => by simp [splN]
  | c :: r => by
    have ih := splN_size (l := r)
    unfold splN
    split
    · simp only [List.map_cons, List.sum_cons, List.length_cons, List.length_nil]; omega
    · cases e : splN r with
      | nil => exact absurd e splN_ne
      | cons x y =>
        rw [e] at ih
        simp only [List.map_cons, List.sum_cons, List.length_cons] at ih ⊢
        omega
end
end Go.Proofs.YtllgclopliegfaaDoor.Eng
set_option linter.unusedVariables false
set_option linter.unusedSimpArgs false
namespace Go.Proofs.YtllgclopliegfaaDoor.Eng
open Go
set_option maxRecDepth 100000
noncomputable section
theorem mem_getD {l : List UInt8} {c : UInt8} (h : c ∈ l) : ∃ j, j < l.length ∧ l.getD j 0 = c := by
  obtain ⟨j, hj, e⟩ := List.getElem_of_mem h
  exact ⟨j, hj, by rw [List.getD_eq_getElem?_getD, List.getElem?_eq_getElem hj, e]; rfl⟩
theorem cut_end {l : List UInt8} {f : Nat} (no : ∀ j, f ≤ j → j < l.length → l.getD j 0 ≠ 10) : splN (l.drop f) = [l.drop f] := by
  apply splN_no
  intro c hc e
  obtain ⟨j, hj, h⟩ := mem_getD hc
  rw [List.length_drop] at hj
  refine no (f + j) (by omega) (by omega) ?_
  rw [← e, ← h]
  simp [List.getD_eq_getElem?_getD, List.getElem?_drop]
theorem cut_at {l : List UInt8} {f i : Nat} (hf : f ≤ i) (hi : i < l.length) (h10 : l.getD i 0 = 10) (no : ∀ j, f ≤ j → j < i → l.getD j 0 ≠ 10) : splN (l.drop f) = (l.drop f).take (i - f) :: splN (l.drop (i + 1)) := by
  have e : l.drop f = (l.drop f).take (i - f) ++ 10 :: l.drop (i + 1) := by
    have h1 : l.drop f = (l.drop f).take (i - f) ++ (l.drop f).drop (i - f) := (List.take_append_drop _ _).symm
    have h2 : (l.drop f).drop (i - f) = 10 :: l.drop (i + 1) := by
      rw [List.drop_drop, show f + (i - f) = i by omega, List.drop_eq_getElem_cons hi]
      congr 1
      rw [← h10, List.getD_eq_getElem?_getD, List.getElem?_eq_getElem hi]; rfl
    rw [h2] at h1
    exact h1
  have hno : ∀ c ∈ (l.drop f).take (i - f), c ≠ 10 := by
    intro c hc e
    obtain ⟨j, hj, h⟩ := mem_getD hc
    rw [List.length_take, List.length_drop] at hj
    refine no (f + j) (by omega) (by omega) ?_
    rw [← e, ← h]
    simp [List.getD_eq_getElem?_getD, List.getElem?_drop, List.getElem?_take, show j < i - f by omega]
  have := splN_cut (r := l.drop (i + 1)) hno
  rw [← e] at this
  exact this
theorem splN_len : ∀ {l : List UInt8}, (splN l).length = l.count 10 + 1
  | [] => by simp [splN]
  | c :: r => by
    have ih := splN_len (l := r)
    unfold splN
    split
    · rename_i h; subst h; simp [ih]
    · rename_i h
      cases e : splN r with
      | nil => exact absurd e splN_ne
      | cons x y =>
        rw [e] at ih
        simp only [List.length_cons] at ih ⊢
        rw [List.count_cons_of_ne h]
        omega
/-- How often a byte is among the first n. -/
def cntN (s : ByteArray) (c : Int) : Nat → Int
  | 0 => 0
  | n + 1 => cntN s c n + (if byteAt s n = c then 1 else 0)
theorem cntN_le {s : ByteArray} {c : Int} : ∀ n, 0 ≤ cntN s c n ∧ cntN s c n ≤ n
  | 0 => by simp [cntN]
  | n + 1 => by
    have := cntN_le (s := s) (c := c) n
    unfold cntN
    split <;> omega
theorem cntN_take {s : ByteArray} : ∀ n, n ≤ s.size → cntN s 10 n = (((bs s).take n).count 10 : Nat)
  | 0, _ => by simp [cntN]
  | n + 1, h => by
    have ih := cntN_take (s := s) n (by omega)
    have hl := bs_len s
    have hn : n < (bs s).length := by omega
    rw [List.take_add_one, List.getElem?_eq_getElem hn, List.count_append, cntN, ih]
    have hb : byteAt s n = 10 ↔ (bs s)[n] = 10 := by
      rw [byte10, List.getD_eq_getElem?_getD, List.getElem?_eq_getElem hn]; rfl
    by_cases e : (bs s)[n] = 10
    · rw [if_pos (hb.2 e), e]; simp
    · rw [if_neg (fun q => e (hb.1 q))]; simp [e]
theorem cnt_len {s : ByteArray} : cntN s 10 s.size + 1 = ((splN (bs s)).length : Int) := by
  rw [cntN_take _ (Nat.le_refl _), splN_len, ← bs_len, List.take_length]
  omega
/-- The first place of a byte, -1: there is none. -/
def idxN (s : ByteArray) (c : Int) : Nat := fst (fun j => decide (byteAt s j = c)) s.size 0
def idxR (s : ByteArray) (c : Int) : Int := if idxN s c < s.size then (idxN s c : Int) else -1
theorem idx_at {s : ByteArray} {c : Int} {i : Nat} (h : i < s.size) (e : byteAt s i = c) (no : ∀ j, j < i → byteAt s j ≠ c) : idxR s c = i := by
  have : idxN s c = i := fst_eq (Nat.zero_le _) (by omega) (fun j _ hj => decide_eq_false (no j hj)) (fun _ => decide_eq_true e)
  unfold idxR
  rw [this, if_pos h]
theorem idx_none {s : ByteArray} {c : Int} (no : ∀ j, j < s.size → byteAt s j ≠ c) : idxR s c = -1 := by
  have : idxN s c = s.size := fst_eq (Nat.zero_le _) (by omega) (fun j _ hj => decide_eq_false (no j hj)) (fun h => by omega)
  unfold idxR
  rw [this, if_neg (by omega)]
theorem first_at {p : Nat → Prop} (n : Nat) (h : p n) : ∃ i, i ≤ n ∧ p i ∧ ∀ j, j < i → ¬ p j := by
  induction n using Nat.strongRecOn with
  | _ n ih =>
    by_cases e : ∃ j, j < n ∧ p j
    · obtain ⟨j, hj, hp⟩ := e
      obtain ⟨i, h1, h2, h3⟩ := ih j hj hp
      exact ⟨i, by omega, h2, h3⟩
    · exact ⟨n, Nat.le_refl _, h, fun j hj hp => e ⟨j, hj, hp⟩⟩
/-- Either there is no line feed, or the first one cuts. -/
theorem idx_cut (s : ByteArray) : (idxR s 10 = -1 ∧ splN (bs s) = [bs s]) ∨ (∃ i : Nat, i < s.size ∧ idxR s 10 = i ∧ splN (bs s) = (bs s).take i :: splN ((bs s).drop (i + 1))) := by
  by_cases e : ∃ j, j < s.size ∧ byteAt s j = 10
  · obtain ⟨j, hj, hb⟩ := e
    obtain ⟨i, h1, h2, h3⟩ := first_at (p := fun j => byteAt s j = 10) j hb
    right
    have hl := bs_len s
    refine ⟨i, by omega, idx_at (by omega) h2 h3, ?_⟩
    have := cut_at (l := bs s) (f := 0) (i := i) (Nat.zero_le _) (by omega) (byte10.1 h2) (fun j _ hj => fun q => h3 j hj (byte10.2 q))
    simpa using this
  · left
    refine ⟨idx_none (fun j hj q => e ⟨j, hj, q⟩), ?_⟩
    have hl := bs_len s
    have := cut_end (l := bs s) (f := 0) (fun j _ hj q => e ⟨j, by omega, byte10.2 q⟩)
    simpa using this
/-- The reference's loop: the lines so far, and where the next one begins. -/
structure LinR (s : ByteArray) (out : List ByteArray) (f i : Nat) : Prop where
  fi : f ≤ i
  is : i ≤ s.size
  all : out ++ (splN ((bs s).drop f)).map mkB = (splN (bs s)).map mkB
  no : ∀ j, f ≤ j → j < i → byteAt s j ≠ 10
  bef : f = 0 ∨ byteAt s (f - 1) = 10
theorem LinR.zero {s : ByteArray} : LinR s [] 0 0 := ⟨Nat.le_refl _, Nat.zero_le _, by simp, fun j _ h => by omega, .inl rfl⟩
theorem LinR.feed {s : ByteArray} {out : List ByteArray} {f i : Nat} (h : LinR s out f i) (hi : i < s.size) (e : byteAt s i = 10) : LinR s (out ++ [s.extract f i]) (i + 1) (i + 1) := by
  refine ⟨Nat.le_refl _, hi, ?_, fun j h1 h2 => by omega, .inr (by rw [Nat.add_sub_cancel]; exact e)⟩
  have hl := bs_len s
  rw [← h.all, cut_at (l := bs s) (f := f) (i := i) h.fi (by omega) (byte10.1 e) (fun j h1 h2 q => h.no j h1 h2 (byte10.2 q)), List.map_cons, ex_mk]
  simp
theorem LinR.skip {s : ByteArray} {out : List ByteArray} {f i : Nat} (h : LinR s out f i) (hi : i < s.size) (e : ¬ byteAt s i = 10) : LinR s out f (i + 1) :=
  ⟨Nat.le_succ_of_le h.fi, hi, h.all, fun j h1 h2 => by
    by_cases q : j = i
    · rw [q]; exact e
    · exact h.no j h1 (by omega), h.bef⟩
theorem last_at {l : List UInt8} (h : 0 < l.length) : l.getLast? = some (l.getD (l.length - 1) 0) := by
  rw [List.getLast?_eq_getElem?, List.getD_eq_getElem?_getD, List.getElem?_eq_getElem (by omega)]; rfl
theorem LinR.more {s : ByteArray} {out : List ByteArray} {f : Nat} (h : LinR s out f s.size) (hf : f < s.size) : out ++ [s.extract f s.size] = linesB s := by
  have hl := bs_len s
  have h1 := h.all
  rw [cut_end (l := bs s) (f := f) (fun j a b q => h.no j a (by omega) (byte10.2 q))] at h1
  unfold linesB
  rw [if_neg (by omega), trimN, last_at (by omega), if_neg, ← h1, ex_mk, List.take_of_length_le (by rw [List.length_drop]; omega)]
  · simp
  · intro q
    injection q with q
    exact h.no (s.size - 1) (by omega) (by omega) (byte10.2 (by rw [← hl]; exact q))
theorem LinR.done {s : ByteArray} {out : List ByteArray} {f : Nat} (h : LinR s out f s.size) (hf : ¬ f < s.size) : out = linesB s := by
  have hl := bs_len s
  have hfs : f = s.size := by have := h.fi; omega
  subst hfs
  have h1 := h.all
  rw [List.drop_eq_nil_of_le (by omega)] at h1
  unfold linesB
  by_cases z : s.size = 0
  · rw [if_pos z]
    rw [List.length_eq_zero_iff.1 (show (bs s).length = 0 by omega)] at h1
    have := congrArg List.length h1
    simp [splN] at this
    exact this
  · rw [if_neg z]
    have hb : byteAt s (s.size - 1) = 10 := by rcases h.bef with h | h; · exact absurd h z
                                               · exact h
    have hlast := last_at (l := bs s) (by omega)
    rw [hl, byte10.1 hb] at hlast
    have hd : (bs s).dropLast ++ [10] = bs s := by
      have := List.dropLast_concat_getLast (l := bs s) (by intro q; rw [q] at hl; simp at hl; omega)
      rw [List.getLast?_eq_some_getLast (by intro q; rw [q] at hl; simp at hl; omega)] at hlast
      injection hlast with hlast
      rw [hlast] at this
      exact this
    rw [trimN, if_pos hlast]
    rw [← hd, splN_end] at h1
    simp only [splN, List.map_append, List.map_cons, List.map_nil] at h1
    exact List.append_cancel_right h1
/-- The program's way: cut the last line feed off, then split. -/
theorem bs_trim {s : ByteArray} (h : ((s.extract (s.size - 1) s.size).toList == (mkB [10]).toList) = true) (h1 : 1 ≤ s.size) : bs (s.extract 0 (s.size - 1)) = trimN (bs s) := by
  have hl := bs_len s
  rw [tl_bs, tl_bs, ex_bs, bs_mk] at h
  have h2 : ((bs s).drop (s.size - 1)).take (s.size - (s.size - 1)) = [10] := by simpa using h
  have hlast := last_at (l := bs s) (by omega)
  rw [List.drop_eq_getElem_cons (by omega), List.drop_eq_nil_of_le (by omega), show s.size - (s.size - 1) = 1 by omega] at h2
  simp at h2
  have h3 : (bs s).getD ((bs s).length - 1) 0 = 10 := by
    rw [List.getD_eq_getElem?_getD, List.getElem?_eq_getElem (by omega)]
    simp only [hl, Option.getD_some]
    exact h2
  rw [h3] at hlast
  rw [trimN, if_pos hlast, ex_bs, List.drop_zero, List.dropLast_eq_take, hl, Nat.sub_zero]
theorem bs_keep {s : ByteArray} (h : ¬ (1 ≤ s.size ∧ ((s.extract (s.size - 1) s.size).toList == (mkB [10]).toList) = true)) : bs s = trimN (bs s) := by
  have hl := bs_len s
  unfold trimN
  by_cases z : s.size = 0
  · rw [List.length_eq_zero_iff.1 (show (bs s).length = 0 by omega)]; rfl
  · rw [last_at (by omega), if_neg]
    intro q
    injection q with q
    apply h
    refine ⟨by omega, ?_⟩
    rw [tl_bs, tl_bs, ex_bs, bs_mk, List.drop_eq_getElem_cons (by omega), List.drop_eq_nil_of_le (by omega), show s.size - (s.size - 1) = 1 by omega]
    rw [List.getD_eq_getElem?_getD, List.getElem?_eq_getElem (by omega)] at q
    simp only [hl, Option.getD_some] at q
    simp [q]
end
end Go.Proofs.YtllgclopliegfaaDoor.Eng
set_option linter.unusedVariables false
set_option linter.unusedSimpArgs false
namespace Go.Proofs
open Go.RowKit Go.Shelf Go.Lib
shelf_lay Lays.n138 Nm 138 at Tryd as Tryd.laysCount
shelf_lay Lays.n143 Nm 143 at Tryd as Tryd.laysIndex
shelf_lay Lays.n102 Nm 102 at Tryd as Tryd.laysTrim
end Go.Proofs
namespace Go.Proofs.YtllgclopliegfaaDoor.Eng
open Go Go.Lib
set_option maxRecDepth 100000
noncomputable section
abbrev I : Ty := .int .i64
abbrev rlT : Ty := .fld I (.fld I (.fld (.sl I) (.one (.sl .bool))))
abbrev Rl := Int × Int × List Int × List Bool
def NL : ByteArray := mkB [10]
theorem ib_none {c : UInt8} : ∀ {l : List UInt8}, (∀ j, j < l.length → l.getD j 0 ≠ c) → indexByte l c = -1
  | [], _ => rfl
  | b :: l, h => by
    have h0 : b ≠ c := by simpa using h 0 (by simp)
    have ih := ib_none (c := c) (l := l) (fun j hj => by simpa using h (j + 1) (by simpa using hj))
    unfold indexByte
    rw [if_neg (by simpa using h0), ih]
    rfl
theorem ib_at {c : UInt8} : ∀ {l : List UInt8} {i : Nat}, i < l.length → l.getD i 0 = c → (∀ j, j < i → l.getD j 0 ≠ c) → indexByte l c = i
  | [], i, h, _, _ => by simp at h
  | b :: l, 0, _, h, _ => by
    have : b = c := by simpa using h
    unfold indexByte
    rw [if_pos (by simpa using this)]; rfl
  | b :: l, i + 1, h, e, no => by
    have h0 : b ≠ c := by simpa using no 0 (by omega)
    have ih := ib_at (c := c) (l := l) (i := i) (by simpa using h) (by simpa using e) (fun j hj => by simpa using no (j + 1) (by omega))
    unfold indexByte
    rw [if_neg (by simpa using h0), ih, if_neg (by simp)]
    omega
theorem ib_idx (s : ByteArray) : indexByte (bs s) 10 = idxR s 10 := by
  have hl := bs_len s
  by_cases e : ∃ j, j < s.size ∧ byteAt s j = 10
  · obtain ⟨j, hj, hb⟩ := e
    obtain ⟨i, h1, h2, h3⟩ := first_at (p := fun j => byteAt s j = 10) j hb
    rw [idx_at (by omega) h2 h3]
    exact ib_at (by omega) (byte10.1 h2) (fun j hj q => h3 j hj (byte10.2 q))
  · rw [idx_none (fun j hj q => e ⟨j, hj, q⟩)]
    exact ib_none (fun j hj q => e ⟨j, by omega, byte10.2 q⟩)
def K31 : Fn1 := ⟨.fld .str (.one .str), .one I, fun (a : ByteArray × ByteArray) => [a.2 = NL], fun (a : ByteArray × ByteArray) => cntN a.1 10 a.1.size⟩
theorem k31 : FnOk Go.Proofs.Tryd.prog 31 K31 := by
  refine fn_same ⟨_, _, Go.Proofs.Tryd.func31, rfl, rfl⟩ (fun (a : ByteArray × ByteArray) => .int .i64 (cntN a.1 10 a.1.size)) (fun a base => rfl) ?_
  rintro w S0 vals ⟨(s : ByteArray), (t : ByteArray)⟩ hv hp
  have ht : t = NL := hp _ List.mem_cons_self
  subst ht
  rw [two_strs hv]
  refine ⟨.int .i64 (countByte (bs s) 10), Any.strings_Count_one Tryd.laysCount s 10 w, fun St μ => ?_⟩
  have : cntN s 10 s.size = (countByte (bs s) 10 : Int) := by
    rw [cntN_take _ (Nat.le_refl _), ← bs_len, List.take_length]; rfl
  show (Value.int .i64 _ : Value) = Value.int .i64 _
  rw [this]
def K32 : Fn1 := ⟨.fld .str (.one .str), .one I, fun (a : ByteArray × ByteArray) => [a.2 = NL], fun (a : ByteArray × ByteArray) => idxR a.1 10⟩
theorem k32 : FnOk Go.Proofs.Tryd.prog 32 K32 := by
  refine fn_same ⟨_, _, Go.Proofs.Tryd.func32, rfl, rfl⟩ (fun (a : ByteArray × ByteArray) => .int .i64 (idxR a.1 10)) (fun a base => rfl) ?_
  rintro w S0 vals ⟨(s : ByteArray), (t : ByteArray)⟩ hv hp
  have ht : t = NL := hp _ List.mem_cons_self
  subst ht
  rw [two_strs hv]
  refine ⟨.int .i64 (indexByte (bs s) 10), Any.strings_Index_one Tryd.laysIndex s 10 w, fun St μ => ?_⟩
  show (Value.int .i64 _ : Value) = Value.int .i64 _
  rw [ib_idx]
def K25 : Fn1 := ⟨.fld .str (.one .str), .one .str, fun (a : ByteArray × ByteArray) => [a.1.size ≤ 9223372036854775807, a.2 = NL], fun (a : ByteArray × ByteArray) => mkB (trimN (bs a.1))⟩
theorem k25 : FnOk Go.Proofs.Tryd.prog 25 K25 := by
  refine fn_same ⟨_, _, Go.Proofs.Tryd.func25, rfl, rfl⟩ (fun (a : ByteArray × ByteArray) => .str (mkB (trimN (bs a.1)))) (fun a base => rfl) ?_
  rintro w S0 vals ⟨(s : ByteArray), (t : ByteArray)⟩ hv hp
  have hs : s.size ≤ 9223372036854775807 := hp _ List.mem_cons_self
  have ht : t = NL := hp _ (List.mem_cons_of_mem _ List.mem_cons_self)
  subst ht
  rw [two_strs hv]
  refine ⟨.string ⟨(trimSuffix (bs s) (bs NL)).toArray⟩, Any.strings_TrimSuffix Tryd.laysTrim s NL w hs, fun St μ => ?_⟩
  have h1 : NL.size = 1 := rfl
  have : (⟨(trimSuffix (bs s) (bs NL)).toArray⟩ : ByteArray) = mkB (trimN (bs s)) := by
    by_cases h : 1 ≤ s.size ∧ ((s.extract (s.size - 1) s.size).toList == NL.toList) = true
    · have e := trimSuffix_hit s NL (by omega) h.2
      rw [show bs s = s.data.toList from rfl, show bs NL = NL.data.toList from rfl, e, h1, ← mk_bs (s.extract 0 (s.size - 1)), bs_trim h.2 h.1]
      rfl
    · have e := trimSuffix_miss s NL (by
        by_cases h2 : 1 ≤ s.size
        · have : ((s.extract (s.size - 1) s.size).toList == NL.toList) = false := by
            cases q : ((s.extract (s.size - 1) s.size).toList == NL.toList) with
            | false => rfl
            | true => exact absurd ⟨h2, q⟩ h
          rw [h1, this, Bool.and_false]
        · rw [h1, decide_eq_false h2, Bool.false_and])
      rw [show bs s = s.data.toList from rfl, show bs NL = NL.data.toList from rfl, e]
      have := bs_keep h
      rw [show s.data.toList = bs s from rfl, ← this, mk_bs]
  show (Value.string _ : Value) = Value.string _
  rw [this]
end
end Go.Proofs.YtllgclopliegfaaDoor.Eng
set_option linter.unusedVariables false
set_option linter.unusedSimpArgs false
namespace Go.Proofs.YtllgclopliegfaaDoor.Eng
open Go
set_option maxRecDepth 100000
noncomputable section
theorem mix : Go.Proofs.Tryd.prog.follows .mixedOrders = true := by kernel_rfl
def ann0 : Nat → Option (List Nat × List (Nat × Ty) × List (Nat × Nat × Ty)) := fun _ => none
def E0 : Env := ⟨tab, [], ann0⟩
theorem noK : ∀ f k, findK (E0).K f = some k → CtrOk Go.Proofs.Tryd.prog f k := fun f k h => by cases h
theorem wrap_eq {i : Int} (h : -9223372036854775808 ≤ i) (g : i ≤ 9223372036854775807) : IntKind.i64.wrap i = i := by
  rw [IntKind.wrap_i64]; omega
def endsR (p : Int) : Int × Int × Int := if p = 0 then (0, 2, 0) else if p = 1 then (1, 3, 0) else if p = 2 then (0, 1, 0) else if p = 3 then (1, 2, 0) else if p = 4 then (2, 3, 0) else if p = 5 then (3, 0, 0) else (0, 0, 1)
def K12 : Fn1 := ⟨.one I, .fld I (.fld I (.one I)), fun _ => [], fun (p : Int) => endsR p⟩
theorem k12 : FnOk Go.Proofs.Tryd.prog 12 K12 := by
  refine fn_ok (E := E0) (TOk.of tab_told) noK mix Go.Proofs.Tryd.func12 rfl rfl (by kernel_rfl) K12 ?_
  rintro (p : Int) hp
  clear hp
  have hc : p = 0 ∨ p = 1 ∨ p = 2 ∨ p = 3 ∨ p = 4 ∨ p = 5 ∨ (p < 0 ∨ 5 < p) := by omega
  rcases hc with rfl | rfl | rfl | rfl | rfl | rfl | hc
  · conv => whnf
    kernel_rfl
  · conv => whnf
    kernel_rfl
  · conv => whnf
    refine ⟨by decide, ?_⟩
    conv => whnf
    kernel_rfl
  · conv => whnf
    refine ⟨by decide, ?_⟩
    conv => whnf
    kernel_rfl
  · conv => whnf
    refine ⟨by decide, ?_⟩
    conv => whnf
    kernel_rfl
  · conv => whnf
    refine ⟨by decide, ?_⟩
    conv => whnf
    kernel_rfl
  iterate 14 (all_goals (conv => whnf); all_goals (try (refine cond_intro (fun h => ?_) (fun h => ?_))))
  all_goals (first | (exfalso; simp only [decide_eq_true_eq, decide_eq_false_iff_not] at *; omega) | skip)
  all_goals (show ((0 : Int), (0 : Int), (1 : Int)) = endsR p; unfold endsR; (repeat' split) <;> first | rfl | omega)
def farR (r : Rl) : Bool := decide (3000 < (r.2.2.1.length : Int)) || decide (3000 < (r.2.2.2.length : Int))
def K9 : Fn1 := ⟨.one rlT, .one .bool, fun _ => [], fun (r : Rl) => farR r⟩
theorem k9 : FnOk Go.Proofs.Tryd.prog 9 K9 := by
  refine fn_ok (E := E0) (TOk.of tab_told) noK mix Go.Proofs.Tryd.func9 rfl rfl (by kernel_rfl) K9 ?_
  rintro ⟨(w : Int), (h : Int), (l : List Int), (wl : List Bool)⟩ hp
  clear hp
  conv => whnf
  refine cond_intro (fun h0 => ?_) (fun h0 => ?_)
  · have h0 : 3000 < (l.length : Int) := @of_decide_eq_true _ _ h0
    conv => whnf
    show true = farR (w, h, l, wl)
    simp [farR, h0]
  have h0 : ¬ (3000 < (l.length : Int)) := @of_decide_eq_false _ _ h0
  conv => whnf
  show decide (3000 < (wl.length : Int)) = farR (w, h, l, wl)
  simp [farR, h0]
def K5 : Fn1 := ⟨.bool, .one .bool, fun _ => [], fun _ => true⟩
theorem k5 : FnOk Go.Proofs.Tryd.prog 5 K5 := by
  refine fn_ok (E := (⟨tab, [(12, K12)], ann0⟩ : Env)) (TOk.of tab_told) (AllOk.cons k12 .nil).at_ mix Go.Proofs.Tryd.func5 rfl rfl (by kernel_rfl) K5 ?_
  rintro (a : Bool) hp
  clear hp
  conv => whnf
  kernel_rfl
def gI (l : List Int) (n : Nat) : Int := l.getD n 0
theorem gI_eq {l : List Int} {n : Nat} (h : n < l.length) : gI l n = l[n] := by simp [gI, h]
def gB (l : List Bool) (n : Nat) : Bool := l.getD n false
theorem gB_eq {l : List Bool} {n : Nat} (h : n < l.length) : gB l n = l[n] := by simp [gB, h]
theorem any_range {n : Nat} {f : Nat → Bool} : (List.range n).any f = false ↔ ∀ j, j < n → f j = false := by
  rw [List.any_eq_false]
  exact ⟨fun h j hj => by simpa using h j (List.mem_range.2 hj), fun h j hj => by simpa using h j (List.mem_range.1 hj)⟩
def wrongR (r : Rl) : Prop := r.1 < 4 ∨ 32 < r.1 ∨ r.2.1 < 4 ∨ 32 < r.2.1 ∨ ¬ ((r.2.2.1.length : Int) = IntKind.i64.wrap (r.1 * r.2.1)) ∨ ¬ ((r.2.2.2.length : Int) = IntKind.i64.wrap (r.1 * r.2.1))
instance (r : Rl) : Decidable (wrongR r) := by unfold wrongR; infer_instance
def badT (l : List Int) (wl : List Bool) (i : Nat) : Bool := decide (gI l i < 0) || decide (63 < gI l i) || (decide (gI l i = 0) && gB wl i)
def validR (r : Rl) : Int := if wrongR r then 1 else if (List.range r.2.2.1.length).any (badT r.2.2.1 r.2.2.2) then 1 else 0
def S14 (w h : Int) (l : List Int) (wl : List Bool) (i : Int) : SL := ⟨[.undef, .ptr 0 0 0, .undef, .int .i64 i] ++ List.replicate 76 .undef, [(0, .box [.int .i64 w, .int .i64 h, .sl I l, .sl .bool wl])], 1⟩
def S19 (w h : Int) (l : List Int) (wl : List Bool) (i : Int) : SL := ⟨[.undef, .ptr 0 0 0] ++ List.replicate 44 .undef ++ [.sl I l, .int .i64 l.length, .int .i64 i] ++ List.replicate 22 .undef, [(0, .box [.int .i64 w, .int .i64 h, .sl I l, .sl .bool wl])], 1⟩
def E14 : Env := ⟨tab, [], fun n => match n with | 4 => some ([1, 3], [], []) | _ => none⟩
def K14 : Fn1 := ⟨.one rlT, .one I, fun _ => [], fun (r : Rl) => validR r⟩
theorem k14 : FnOk Go.Proofs.Tryd.prog 14 K14 := by
  refine fn_ok (E := E14) (TOk.of tab_told) (fun f k h => by cases h) mix Go.Proofs.Tryd.func14 rfl rfl (by kernel_rfl) K14 ?_
  rintro ⟨(w : Int), (h : Int), (l : List Int), (wl : List Bool)⟩ hp
  clear hp
  conv => whnf
  refine cond_intro (fun q1 => ?_) (fun q1 => ?_)
  · have q1 : w < 4 := @of_decide_eq_true _ _ q1
    conv => whnf
    show (1 : Int) = validR (w, h, l, wl)
    rw [validR, if_pos (show wrongR (w, h, l, wl) by unfold wrongR; simp only; omega)]
  have q1 : ¬ (w < 4) := @of_decide_eq_false _ _ q1
  conv => whnf
  refine cond_intro (fun q2 => ?_) (fun q2 => ?_)
  · have q2 : 32 < w := @of_decide_eq_true _ _ q2
    conv => whnf
    show (1 : Int) = validR (w, h, l, wl)
    rw [validR, if_pos (show wrongR (w, h, l, wl) by unfold wrongR; simp only; omega)]
  have q2 : ¬ (32 < w) := @of_decide_eq_false _ _ q2
  conv => whnf
  refine cond_intro (fun q3 => ?_) (fun q3 => ?_)
  · have q3 : h < 4 := @of_decide_eq_true _ _ q3
    conv => whnf
    show (1 : Int) = validR (w, h, l, wl)
    rw [validR, if_pos (show wrongR (w, h, l, wl) by unfold wrongR; simp only; omega)]
  have q3 : ¬ (h < 4) := @of_decide_eq_false _ _ q3
  conv => whnf
  refine cond_intro (fun q4 => ?_) (fun q4 => ?_)
  · have q4 : 32 < h := @of_decide_eq_true _ _ q4
    conv => whnf
    show (1 : Int) = validR (w, h, l, wl)
    rw [validR, if_pos (show wrongR (w, h, l, wl) by unfold wrongR; simp only; omega)]
  have q4 : ¬ (32 < h) := @of_decide_eq_false _ _ q4
  conv => whnf
  refine cond_intro (fun q5 => ?_) (fun q5 => ?_)
  · have q5 : (!decide ((l.length : Int) = IntKind.i64.wrap (w * h))) = true := q5
    have q5 : ¬ ((l.length : Int) = IntKind.i64.wrap (w * h)) := by simpa using q5
    conv => whnf
    show (1 : Int) = validR (w, h, l, wl)
    rw [validR, if_pos (show wrongR (w, h, l, wl) by unfold wrongR; simp only; omega)]
  have q5 : (!decide ((l.length : Int) = IntKind.i64.wrap (w * h))) = false := q5
  have q5 : (l.length : Int) = IntKind.i64.wrap (w * h) := by simpa using q5
  conv => whnf
  refine cond_intro (fun q6 => ?_) (fun q6 => ?_)
  · have q6 : (!decide ((wl.length : Int) = IntKind.i64.wrap (w * h))) = true := q6
    have q6 : ¬ ((wl.length : Int) = IntKind.i64.wrap (w * h)) := by simpa using q6
    conv => whnf
    show (1 : Int) = validR (w, h, l, wl)
    rw [validR, if_pos (show wrongR (w, h, l, wl) by unfold wrongR; simp only; omega)]
  have q6 : (!decide ((wl.length : Int) = IntKind.i64.wrap (w * h))) = false := q6
  have q6 : (wl.length : Int) = IntKind.i64.wrap (w * h) := by simpa using q6
  have hw : ¬ wrongR (w, h, l, wl) := by unfold wrongR; simp only; omega
  have hlen : (l.length : Int) = (wl.length : Int) := by omega
  have hb : (l.length : Int) ≤ 9223372036854775807 := by rw [q5, IntKind.wrap_i64]; omega
  conv => whnf
  refine loop_rule (fun i => S14 w h l wl i) (fun i => ((l.length : Int) - i).toNat) (fun i => 0 ≤ i ∧ i ≤ l.length ∧ ∀ j, j < i.toNat → badT l wl j = false) ?_ 0 (by kernel_rfl) ?_ ⟨by omega, by omega, fun j hj => by simp at hj⟩
  case refine_2 => rfl
  rintro i ⟨h0, h1, h2⟩
  conv => whnf
  refine cond_intro (fun hlt => ?_) (fun hlt => ?_)
  · have hlt : i < (l.length : Int) := @of_decide_eq_true _ _ hlt
    have hwi : IntKind.i64.wrap (i + 1) = i + 1 := wrap_eq (by omega) (by omega)
    conv => whnf
    refine ⟨h0, ?_⟩
    conv => whnf
    refine ⟨show i < (l.length : Int) by omega, ?_⟩
    conv => whnf
    refine cond_intro (fun c1 => ?_) (fun c1 => ?_)
    · have c1 : gI l i.toNat < 0 := @of_decide_eq_true _ _ c1
      conv => whnf
      show (1 : Int) = validR (w, h, l, wl)
      rw [validR, if_neg hw, if_pos (List.any_eq_true.2 ⟨i.toNat, List.mem_range.2 (by show i.toNat < l.length; omega), by simp [badT, *]⟩)]
    have c1 : ¬ (gI l i.toNat < 0) := @of_decide_eq_false _ _ c1
    conv => whnf
    refine ⟨h0, ?_⟩
    conv => whnf
    refine ⟨show i < (l.length : Int) by omega, ?_⟩
    conv => whnf
    refine cond_intro (fun c2 => ?_) (fun c2 => ?_)
    · have c2 : 63 < gI l i.toNat := @of_decide_eq_true _ _ c2
      conv => whnf
      show (1 : Int) = validR (w, h, l, wl)
      rw [validR, if_neg hw, if_pos (List.any_eq_true.2 ⟨i.toNat, List.mem_range.2 (by show i.toNat < l.length; omega), by simp [badT, *]⟩)]
    have c2 : ¬ (63 < gI l i.toNat) := @of_decide_eq_false _ _ c2
    conv => whnf
    refine ⟨h0, ?_⟩
    conv => whnf
    refine ⟨show i < (l.length : Int) by omega, ?_⟩
    conv => whnf
    refine cond_intro (fun c3 => ?_) (fun c3 => ?_)
    · have c3 : gI l i.toNat = 0 := @of_decide_eq_true _ _ c3
      conv => whnf
      refine ⟨h0, ?_⟩
      conv => whnf
      refine ⟨show i < (wl.length : Int) by omega, ?_⟩
      conv => whnf
      refine cond_intro (fun c4 => ?_) (fun c4 => ?_)
      · have c4 : (gB wl i.toNat) = true := c4
        conv => whnf
        show (1 : Int) = validR (w, h, l, wl)
        rw [validR, if_neg hw, if_pos (List.any_eq_true.2 ⟨i.toNat, List.mem_range.2 (by show i.toNat < l.length; omega), by simp [badT, *]⟩)]
      have c4 : (gB wl i.toNat) = false := c4
      conv => whnf
      refine ⟨i + 1, ?_, ⟨by omega, by omega, ?_⟩, by omega⟩
      · exact Eq.trans (b := S14 w h l wl (IntKind.i64.wrap (i + 1))) rfl (by rw [hwi])
      · intro j hj
        by_cases e : j = i.toNat
        · subst e; simp [badT, *]
        · exact h2 j (by omega)
    have c3 : ¬ (gI l i.toNat = 0) := @of_decide_eq_false _ _ c3
    conv => whnf
    refine ⟨i + 1, ?_, ⟨by omega, by omega, ?_⟩, by omega⟩
    · exact Eq.trans (b := S14 w h l wl (IntKind.i64.wrap (i + 1))) rfl (by rw [hwi])
    · intro j hj
      by_cases e : j = i.toNat
      · subst e; simp [badT, *]
      · exact h2 j (by omega)
  have hlt : ¬ (i < (l.length : Int)) := @of_decide_eq_false _ _ hlt
  conv => whnf
  show (0 : Int) = validR (w, h, l, wl)
  rw [validR, if_neg hw, if_neg (by rw [show (List.range l.length).any (badT l wl) = false from any_range.2 fun j hj => h2 j (by omega)]; simp)]
def E19 : Env := ⟨tab, [], fun n => match n with | 4 => some ([1, 46, 47, 48], [], []) | _ => none⟩
def K19 : Fn1 := ⟨.one rlT, .one I, fun _ => [], fun (r : Rl) => validR r⟩
theorem k19 : FnOk Go.Proofs.Tryd.prog 19 K19 := by
  refine fn_ok (E := E19) (TOk.of tab_told) (fun f k h => by cases h) mix Go.Proofs.Tryd.func19 rfl rfl (by kernel_rfl) K19 ?_
  rintro ⟨(w : Int), (h : Int), (l : List Int), (wl : List Bool)⟩ hp
  clear hp
  conv => whnf
  refine cond_intro (fun q1 => ?_) (fun q1 => ?_)
  · have q1 : w < 4 := @of_decide_eq_true _ _ q1
    conv => whnf
    show (1 : Int) = validR (w, h, l, wl)
    rw [validR, if_pos (show wrongR (w, h, l, wl) by unfold wrongR; simp only; omega)]
  have q1 : ¬ (w < 4) := @of_decide_eq_false _ _ q1
  conv => whnf
  refine cond_intro (fun q2 => ?_) (fun q2 => ?_)
  · have q2 : 32 < w := @of_decide_eq_true _ _ q2
    conv => whnf
    show (1 : Int) = validR (w, h, l, wl)
    rw [validR, if_pos (show wrongR (w, h, l, wl) by unfold wrongR; simp only; omega)]
  have q2 : ¬ (32 < w) := @of_decide_eq_false _ _ q2
  conv => whnf
  refine cond_intro (fun q3 => ?_) (fun q3 => ?_)
  · have q3 : h < 4 := @of_decide_eq_true _ _ q3
    conv => whnf
    show (1 : Int) = validR (w, h, l, wl)
    rw [validR, if_pos (show wrongR (w, h, l, wl) by unfold wrongR; simp only; omega)]
  have q3 : ¬ (h < 4) := @of_decide_eq_false _ _ q3
  conv => whnf
  refine cond_intro (fun q4 => ?_) (fun q4 => ?_)
  · have q4 : 32 < h := @of_decide_eq_true _ _ q4
    conv => whnf
    show (1 : Int) = validR (w, h, l, wl)
    rw [validR, if_pos (show wrongR (w, h, l, wl) by unfold wrongR; simp only; omega)]
  have q4 : ¬ (32 < h) := @of_decide_eq_false _ _ q4
  conv => whnf
  refine cond_intro (fun q5 => ?_) (fun q5 => ?_)
  · have q5 : (!decide ((l.length : Int) = IntKind.i64.wrap (w * h))) = true := q5
    have q5 : ¬ ((l.length : Int) = IntKind.i64.wrap (w * h)) := by simpa using q5
    conv => whnf
    show (1 : Int) = validR (w, h, l, wl)
    rw [validR, if_pos (show wrongR (w, h, l, wl) by unfold wrongR; simp only; omega)]
  have q5 : (!decide ((l.length : Int) = IntKind.i64.wrap (w * h))) = false := q5
  have q5 : (l.length : Int) = IntKind.i64.wrap (w * h) := by simpa using q5
  conv => whnf
  refine cond_intro (fun q6 => ?_) (fun q6 => ?_)
  · have q6 : (!decide ((wl.length : Int) = IntKind.i64.wrap (w * h))) = true := q6
    have q6 : ¬ ((wl.length : Int) = IntKind.i64.wrap (w * h)) := by simpa using q6
    conv => whnf
    show (1 : Int) = validR (w, h, l, wl)
    rw [validR, if_pos (show wrongR (w, h, l, wl) by unfold wrongR; simp only; omega)]
  have q6 : (!decide ((wl.length : Int) = IntKind.i64.wrap (w * h))) = false := q6
  have q6 : (wl.length : Int) = IntKind.i64.wrap (w * h) := by simpa using q6
  have hw : ¬ wrongR (w, h, l, wl) := by unfold wrongR; simp only; omega
  have hlen : (l.length : Int) = (wl.length : Int) := by omega
  have hb : (l.length : Int) ≤ 9223372036854775807 := by rw [q5, IntKind.wrap_i64]; omega
  conv => whnf
  refine loop_rule (fun i => S19 w h l wl i) (fun i => ((l.length : Int) - i).toNat) (fun i => 0 ≤ i ∧ i ≤ l.length ∧ ∀ j, j < i.toNat → badT l wl j = false) ?_ 0 (by kernel_rfl) ?_ ⟨by omega, by omega, fun j hj => by simp at hj⟩
  case refine_2 => rfl
  rintro i ⟨h0, h1, h2⟩
  conv => whnf
  refine cond_intro (fun hlt => ?_) (fun hlt => ?_)
  · have hlt : i < (l.length : Int) := @of_decide_eq_true _ _ hlt
    have hwi : IntKind.i64.wrap (i + 1) = i + 1 := wrap_eq (by omega) (by omega)
    conv => whnf
    refine ⟨h0, ?_⟩
    conv => whnf
    refine ⟨show i < (l.length : Int) by omega, ?_⟩
    conv => whnf
    refine cond_intro (fun c1 => ?_) (fun c1 => ?_)
    · have c1 : gI l i.toNat < 0 := @of_decide_eq_true _ _ c1
      conv => whnf
      show (1 : Int) = validR (w, h, l, wl)
      rw [validR, if_neg hw, if_pos (List.any_eq_true.2 ⟨i.toNat, List.mem_range.2 (by show i.toNat < l.length; omega), by simp [badT, *]⟩)]
    have c1 : ¬ (gI l i.toNat < 0) := @of_decide_eq_false _ _ c1
    conv => whnf
    refine cond_intro (fun c2 => ?_) (fun c2 => ?_)
    · have c2 : 64 ≤ gI l i.toNat := @of_decide_eq_true _ _ c2
      have c2 : 63 < gI l i.toNat := by omega
      conv => whnf
      show (1 : Int) = validR (w, h, l, wl)
      rw [validR, if_neg hw, if_pos (List.any_eq_true.2 ⟨i.toNat, List.mem_range.2 (by show i.toNat < l.length; omega), by simp [badT, *]⟩)]
    have c2 : ¬ (64 ≤ gI l i.toNat) := @of_decide_eq_false _ _ c2
    have c2 : ¬ 63 < gI l i.toNat := by omega
    conv => whnf
    refine cond_intro (fun c3 => ?_) (fun c3 => ?_)
    · have c3 : gI l i.toNat = 0 := @of_decide_eq_true _ _ c3
      conv => whnf
      refine ⟨h0, ?_⟩
      conv => whnf
      refine ⟨show i < (wl.length : Int) by omega, ?_⟩
      conv => whnf
      refine cond_intro (fun c4 => ?_) (fun c4 => ?_)
      · have c4 : (gB wl i.toNat) = true := c4
        conv => whnf
        show (1 : Int) = validR (w, h, l, wl)
        rw [validR, if_neg hw, if_pos (List.any_eq_true.2 ⟨i.toNat, List.mem_range.2 (by show i.toNat < l.length; omega), by simp [badT, *]⟩)]
      have c4 : (gB wl i.toNat) = false := c4
      conv => whnf
      refine ⟨i + 1, ?_, ⟨by omega, by omega, ?_⟩, by omega⟩
      · exact Eq.trans (b := S19 w h l wl (IntKind.i64.wrap (i + 1))) rfl (by rw [hwi])
      · intro j hj
        by_cases e : j = i.toNat
        · subst e; simp [badT, *]
        · exact h2 j (by omega)
    have c3 : ¬ (gI l i.toNat = 0) := @of_decide_eq_false _ _ c3
    conv => whnf
    refine ⟨i + 1, ?_, ⟨by omega, by omega, ?_⟩, by omega⟩
    · exact Eq.trans (b := S19 w h l wl (IntKind.i64.wrap (i + 1))) rfl (by rw [hwi])
    · intro j hj
      by_cases e : j = i.toNat
      · subst e; simp [badT, *]
      · exact h2 j (by omega)
  have hlt : ¬ (i < (l.length : Int)) := @of_decide_eq_false _ _ hlt
  conv => whnf
  show (0 : Int) = validR (w, h, l, wl)
  rw [validR, if_neg hw, if_neg (by rw [show (List.range l.length).any (badT l wl) = false from any_range.2 fun j hj => h2 j (by omega)]; simp)]
def eqI (l m : List Int) : Bool := decide (l = m)
def S20 (l m : List Int) (i : Int) : SL := ⟨[.sl I l] ++ [.sl I m] ++ List.replicate 3 .undef ++ [.int .i64 i] ++ List.replicate 20 .undef, [], 0⟩
def E20 : Env := ⟨tab, [], fun n => match n with | 4 => some ([0, 1, 5], [], []) | _ => none⟩
def K20 : Fn1 := ⟨.fld (.sl I) (.one (.sl I)), .one .bool, fun (a : List Int × List Int) => [a.1.length ≤ 1000000000], fun (a : List Int × List Int) => eqI a.1 a.2⟩
theorem k20 : FnOk Go.Proofs.Tryd.prog 20 K20 := by
  refine fn_ok (E := E20) (TOk.of tab_told) (fun f k h => by cases h) mix Go.Proofs.Tryd.func20 rfl rfl (by kernel_rfl) K20 ?_
  rintro ⟨(l : List Int), (m : List Int)⟩ hp
  have hl : l.length ≤ 1000000000 := hp _ (List.mem_cons_self ..)
  clear hp
  conv => whnf
  refine cond_intro (fun h => ?_) (fun h => ?_)
  · have h : (!decide ((l.length : Int) = (m.length : Int))) = true := h
    have h : ¬ ((l.length : Int) = (m.length : Int)) := fun e => absurd h (by rw [decide_eq_true e]; decide)
    conv => whnf
    show false = eqI l m
    symm
    simp only [eqI, decide_eq_false_iff_not]
    intro e; subst e; exact h rfl
  have h : (!decide ((l.length : Int) = (m.length : Int))) = false := h
  have h : (l.length : Int) = (m.length : Int) := Decidable.byContradiction fun e => absurd h (by rw [decide_eq_false e]; decide)
  have h : l.length = m.length := by omega
  conv => whnf
  refine loop_rule (S20 l m) (fun i => ((l.length : Int) - i).toNat) (fun i => 0 ≤ i ∧ i ≤ l.length ∧ l.take i.toNat = m.take i.toNat) ?_ 0 (by kernel_rfl) ?_ ⟨by omega, by omega, by simp⟩
  case refine_2 => rfl
  rintro i ⟨h0, i1, h2⟩
  conv => whnf
  refine cond_intro (fun hlt => ?_) (fun hlt => ?_)
  · have hlt : i < (l.length : Int) := @of_decide_eq_true _ _ hlt
    have wi : IntKind.i64.wrap (i + 1) = i + 1 := wrap_eq (by omega) (by omega)
    have ei : (i + 1).toNat = i.toNat + 1 := by omega
    have hlm : i < (m.length : Int) := by omega
    have ht : l.take (i.toNat + 1) = l.take i.toNat ++ [gI l i.toNat] := by rw [List.take_succ_eq_append_getElem (by omega), gI_eq (by omega)]
    have ht' : m.take (i.toNat + 1) = m.take i.toNat ++ [gI m i.toNat] := by rw [List.take_succ_eq_append_getElem (by omega), gI_eq (by omega)]
    conv => whnf
    refine ⟨h0, ?_⟩
    conv => whnf
    refine ⟨hlt, ?_⟩
    conv => whnf
    refine ⟨h0, ?_⟩
    conv => whnf
    refine ⟨hlm, ?_⟩
    conv => whnf
    refine cond_intro (fun hd => ?_) (fun hd => ?_)
    · have hd : (!decide (gI l i.toNat = gI m i.toNat)) = true := hd
      have hd : ¬ (gI l i.toNat = gI m i.toNat) := fun e => absurd hd (by rw [decide_eq_true e]; decide)
      conv => whnf
      show false = eqI l m
      symm
      simp only [eqI, decide_eq_false_iff_not]
      intro e; subst e; exact hd rfl
    have hd : (!decide (gI l i.toNat = gI m i.toNat)) = false := hd
    have hd : gI l i.toNat = gI m i.toNat := Decidable.byContradiction fun e => absurd hd (by rw [decide_eq_false e]; decide)
    conv => whnf
    refine ⟨i + 1, ?_, ⟨by omega, by omega, ?_⟩, by omega⟩
    · exact Eq.trans (b := S20 l m (IntKind.i64.wrap (i + 1))) rfl (by rw [wi])
    · rw [ei, ht, ht', h2, hd]
  have hlt : ¬ (i < (l.length : Int)) := @of_decide_eq_false _ _ hlt
  conv => whnf
  show true = eqI l m
  symm
  simp only [eqI, decide_eq_true_eq]
  rw [List.take_of_length_le (by omega), List.take_of_length_le (by omega)] at h2
  exact h2
def eqW (l m : List Bool) : Bool := decide (l = m)
def S21 (l m : List Bool) (i : Int) : SL := ⟨[.sl .bool l] ++ [.sl .bool m] ++ List.replicate 3 .undef ++ [.int .i64 i] ++ List.replicate 20 .undef, [], 0⟩
def E21 : Env := ⟨tab, [], fun n => match n with | 4 => some ([0, 1, 5], [], []) | _ => none⟩
def K21 : Fn1 := ⟨.fld (.sl .bool) (.one (.sl .bool)), .one .bool, fun (a : List Bool × List Bool) => [a.1.length ≤ 1000000000], fun (a : List Bool × List Bool) => eqW a.1 a.2⟩
theorem k21 : FnOk Go.Proofs.Tryd.prog 21 K21 := by
  refine fn_ok (E := E21) (TOk.of tab_told) (fun f k h => by cases h) mix Go.Proofs.Tryd.func21 rfl rfl (by kernel_rfl) K21 ?_
  rintro ⟨(l : List Bool), (m : List Bool)⟩ hp
  have hl : l.length ≤ 1000000000 := hp _ (List.mem_cons_self ..)
  clear hp
  conv => whnf
  refine cond_intro (fun h => ?_) (fun h => ?_)
  · have h : (!decide ((l.length : Int) = (m.length : Int))) = true := h
    have h : ¬ ((l.length : Int) = (m.length : Int)) := fun e => absurd h (by rw [decide_eq_true e]; decide)
    conv => whnf
    show false = eqW l m
    symm
    simp only [eqW, decide_eq_false_iff_not]
    intro e; subst e; exact h rfl
  have h : (!decide ((l.length : Int) = (m.length : Int))) = false := h
  have h : (l.length : Int) = (m.length : Int) := Decidable.byContradiction fun e => absurd h (by rw [decide_eq_false e]; decide)
  have h : l.length = m.length := by omega
  conv => whnf
  refine loop_rule (S21 l m) (fun i => ((l.length : Int) - i).toNat) (fun i => 0 ≤ i ∧ i ≤ l.length ∧ l.take i.toNat = m.take i.toNat) ?_ 0 (by kernel_rfl) ?_ ⟨by omega, by omega, by simp⟩
  case refine_2 => rfl
  rintro i ⟨h0, i1, h2⟩
  conv => whnf
  refine cond_intro (fun hlt => ?_) (fun hlt => ?_)
  · have hlt : i < (l.length : Int) := @of_decide_eq_true _ _ hlt
    have wi : IntKind.i64.wrap (i + 1) = i + 1 := wrap_eq (by omega) (by omega)
    have ei : (i + 1).toNat = i.toNat + 1 := by omega
    have hlm : i < (m.length : Int) := by omega
    have ht : l.take (i.toNat + 1) = l.take i.toNat ++ [gB l i.toNat] := by rw [List.take_succ_eq_append_getElem (by omega), gB_eq (by omega)]
    have ht' : m.take (i.toNat + 1) = m.take i.toNat ++ [gB m i.toNat] := by rw [List.take_succ_eq_append_getElem (by omega), gB_eq (by omega)]
    conv => whnf
    refine ⟨h0, ?_⟩
    conv => whnf
    refine ⟨hlt, ?_⟩
    conv => whnf
    refine ⟨h0, ?_⟩
    conv => whnf
    refine ⟨hlm, ?_⟩
    conv => whnf
    refine cond_intro (fun hd => ?_) (fun hd => ?_)
    · have hd : (!(gB l i.toNat == gB m i.toNat)) = true := hd
      have hd : (gB l i.toNat == gB m i.toNat) = false := by cases e : (gB l i.toNat == gB m i.toNat) with | false => rfl | true => exact absurd hd (by rw [e]; decide)
      conv => whnf
      show false = eqW l m
      symm
      simp only [eqW, decide_eq_false_iff_not]
      intro e; subst e; simp at hd
    have hd : (!(gB l i.toNat == gB m i.toNat)) = false := hd
    have hd : (gB l i.toNat == gB m i.toNat) = true := by cases e : (gB l i.toNat == gB m i.toNat) with | true => rfl | false => exact absurd hd (by rw [e]; decide)
    have hd : gB l i.toNat = gB m i.toNat := by simpa using hd
    conv => whnf
    refine ⟨i + 1, ?_, ⟨by omega, by omega, ?_⟩, by omega⟩
    · exact Eq.trans (b := S21 l m (IntKind.i64.wrap (i + 1))) rfl (by rw [wi])
    · rw [ei, ht, ht', h2, hd]
  have hlt : ¬ (i < (l.length : Int)) := @of_decide_eq_false _ _ hlt
  conv => whnf
  show true = eqW l m
  symm
  simp only [eqW, decide_eq_true_eq]
  rw [List.take_of_length_le (by omega), List.take_of_length_le (by omega)] at h2
  exact h2
def eqRl (a b : Rl) : Bool := decide (a = b)
def E8 : Env := ⟨tab, [(20, K20), (21, K21)], fun n => match n with  | _ => none⟩
def K8 : Fn1 := ⟨.fld rlT (.one rlT), .one .bool, fun (a : Rl × Rl) => [a.1.2.2.1.length ≤ 1000000000, a.1.2.2.2.length ≤ 1000000000], fun (a : Rl × Rl) => eqRl a.1 a.2⟩
theorem k8 : FnOk Go.Proofs.Tryd.prog 8 K8 := by
  refine fn_ok (E := E8) (TOk.of tab_told) (AllOk.cons k20 (.cons k21 .nil)).at_ mix Go.Proofs.Tryd.func8 rfl rfl (by kernel_rfl) K8 ?_
  rintro ⟨⟨(w1 : Int), (h1 : Int), (l1 : List Int), (b1 : List Bool)⟩, ⟨(w2 : Int), (h2 : Int), (l2 : List Int), (b2 : List Bool)⟩⟩ hp
  have g1 : l1.length ≤ 1000000000 := hp _ (List.mem_cons_self ..)
  have g2 : b1.length ≤ 1000000000 := hp _ (List.mem_cons_of_mem _ (List.mem_cons_self ..))
  clear hp
  conv => whnf
  refine cond_intro (fun q1 => ?_) (fun q1 => ?_)
  · have q1 : w1 = w2 := @of_decide_eq_true _ _ q1
    conv => whnf
    refine cond_intro (fun q2 => ?_) (fun q2 => ?_)
    · have q2 : h1 = h2 := @of_decide_eq_true _ _ q2
      conv => whnf
      refine ⟨g1, ?_⟩
      conv => whnf
      refine cond_intro (fun q3 => ?_) (fun q3 => ?_)
      · have q3 : (eqI l1 l2) = true := q3
        conv => whnf
        refine ⟨g2, ?_⟩
        conv => whnf
        show eqW b1 b2 = eqRl (w1, h1, l1, b1) (w2, h2, l2, b2)
        have q3 : l1 = l2 := of_decide_eq_true q3
        simp only [eqRl, eqW, q1, q2, q3, Prod.mk.injEq, true_and]
      have q3 : (eqI l1 l2) = false := q3
      conv => whnf
      show false = eqRl (w1, h1, l1, b1) (w2, h2, l2, b2)
      have q3 : ¬ l1 = l2 := of_decide_eq_false q3
      simp [eqRl, q3]
    have q2 : ¬ (h1 = h2) := @of_decide_eq_false _ _ q2
    conv => whnf
    show false = eqRl (w1, h1, l1, b1) (w2, h2, l2, b2)
    simp [eqRl, q2]
  have q1 : ¬ (w1 = w2) := @of_decide_eq_false _ _ q1
  conv => whnf
  show false = eqRl (w1, h1, l1, b1) (w2, h2, l2, b2)
  simp [eqRl, q1]
end
end Go.Proofs.YtllgclopliegfaaDoor.Eng
set_option linter.unusedVariables false
set_option linter.unusedSimpArgs false
namespace Go.Proofs.YtllgclopliegfaaDoor.Eng
open Go
set_option maxRecDepth 100000
noncomputable section
theorem NL_size : NL.size = 1 := rfl
theorem splN_le {l : List UInt8} : (splN l).length ≤ l.length + 1 := by
  rw [splN_len]
  have := List.count_le_length (a := (10 : UInt8)) (l := l)
  omega
theorem LinR.len {s : ByteArray} {out : List ByteArray} {f i : Nat} (h : LinR s out f i) : out.length ≤ s.size := by
  have h1 := congrArg List.length h.all
  rw [List.length_append, List.length_map, List.length_map, splN_len (l := (bs s).drop f)] at h1
  have h2 := splN_le (l := bs s)
  have := bs_len s
  omega
structure SplI (s : ByteArray) (a : List ByteArray) (r : ByteArray) (i : Nat) : Prop where
  le : i + (splN (bs r)).length = (splN (bs s)).length
  al : a.length = (splN (bs s)).length
  all : a.take i ++ (splN (bs r)).map mkB = (splN (bs s)).map mkB
  sz : r.size ≤ s.size
theorem SplI.zero {s : ByteArray} {n : Nat} (h : n = (splN (bs s)).length) : SplI s (List.replicate n ByteArray.empty) s 0 :=
  ⟨by omega, by rw [List.length_replicate, h], by simp, Nat.le_refl _⟩
theorem SplI.step {s r : ByteArray} {a : List ByteArray} {i m : Nat} (h : SplI s a r i) (hm : m < r.size) (hc : splN (bs r) = (bs r).take m :: splN ((bs r).drop (m + 1))) : SplI s (a.set i (r.extract 0 m)) (r.extract (m + 1) r.size) (i + 1) := by
  have hl := bs_len r
  have hb : bs (r.extract (m + 1) r.size) = (bs r).drop (m + 1) := by
    rw [ex_bs, List.take_of_length_le (by rw [List.length_drop]; omega)]
  have h1 := h.le
  rw [hc, List.length_cons] at h1
  have ha := h.al
  have hi : i < a.length := by omega
  refine ⟨by rw [hb]; omega, by rw [List.length_set, h.al], ?_, ?_⟩
  · rw [hb, ← h.all, hc, List.map_cons, List.take_succ_eq_append_getElem (by rw [List.length_set]; exact hi), List.take_set_of_le (Nat.le_refl _), List.getElem_set_self, ex_mk]
    simp
  · have h2 := h.sz
    rw [← bs_len, hb, List.length_drop]; omega
theorem SplI.fin {s r : ByteArray} {a : List ByteArray} {i : Nat} (h : SplI s a r i) (hi : i + 1 = (splN (bs s)).length) : (a.set i r).take (i + 1) = (splN (bs s)).map mkB := by
  have h1 := h.le
  have ha := h.al
  rw [List.take_succ_eq_append_getElem (by rw [List.length_set]; omega), List.take_set_of_le (Nat.le_refl _), List.getElem_set_self, ← h.all]
  congr 1
  rcases idx_cut r with ⟨_, e⟩ | ⟨m, _, _, e⟩
  · rw [e, List.map_cons, mk_bs]; rfl
  · rw [e, List.length_cons] at h1
    have := List.length_pos_iff.2 (splN_ne (l := (bs r).drop (m + 1)))
    omega
theorem SplI.more {s r : ByteArray} {a : List ByteArray} {i : Nat} (h : SplI s a r i) (hi : i + 1 < (splN (bs s)).length) : ∃ m : Nat, m < r.size ∧ idxR r 10 = m ∧ splN (bs r) = (bs r).take m :: splN ((bs r).drop (m + 1)) := by
  rcases idx_cut r with ⟨_, e⟩ | h2
  · have h1 := h.le
    rw [e, List.length_singleton] at h1
    omega
  · exact h2
end
end Go.Proofs.YtllgclopliegfaaDoor.Eng
set_option linter.unusedVariables false
set_option linter.unusedSimpArgs false
namespace Go.Proofs.YtllgclopliegfaaDoor.Eng
open Go
set_option maxRecDepth 100000
noncomputable section
abbrev U8 : Ty := .int .u8
def S13 (s : ByteArray) (out : List ByteArray) (f i : Int) : SL := ⟨[.str s] ++ List.replicate 2 .undef ++ [.own 0] ++ [.int .i64 f] ++ [.int .i64 i] ++ List.replicate 30 .undef, [(0, .arr .str out)], 1⟩
def E13 : Env := ⟨tab, [], fun n => match n with | 4 => some ([0, 3, 4, 5], [(3, .str)], []) | _ => none⟩
def K13 : Fn1 := ⟨.one .str, .one (.sl .str), fun (s : ByteArray) => [s.size ≤ 1000000], fun (s : ByteArray) => linesB s⟩
theorem k13 : FnOk Go.Proofs.Tryd.prog 13 K13 := by
  refine fn_ok (E := E13) (TOk.of tab_told) (fun f k h => by cases h) mix Go.Proofs.Tryd.func13 rfl rfl (by kernel_rfl) K13 ?_
  rintro (s : ByteArray) hp
  have hs : s.size ≤ 1000000 := hp _ (List.mem_cons_self ..)
  clear hp
  conv => whnf
  refine loop_rule (fun (x : List ByteArray × Int × Int) => S13 s x.1 x.2.1 x.2.2) (fun x => ((s.size : Int) - x.2.2).toNat) (fun x => 0 ≤ x.2.1 ∧ 0 ≤ x.2.2 ∧ LinR s x.1 x.2.1.toNat x.2.2.toNat) ?_ ([], 0, 0) (by kernel_rfl) ?_ ⟨Int.le_refl _, Int.le_refl _, LinR.zero⟩
  case refine_2 => rfl
  rintro ⟨out, f, i⟩ ⟨f0, i0, hL⟩
  have f0 : 0 ≤ f := f0
  have i0 : 0 ≤ i := i0
  have hL : LinR s out f.toNat i.toNat := hL
  have hfi := hL.fi
  have his := hL.is
  have hol := hL.len
  conv => whnf
  refine cond_intro (fun hlt => ?_) (fun hlt => ?_)
  · have hlt : i < (s.size : Int) := @of_decide_eq_true _ _ hlt
    have wi : IntKind.i64.wrap (i + 1) = i + 1 := wrap_eq (by omega) (by omega)
    have ei : (i + 1).toNat = i.toNat + 1 := by omega
    conv => whnf
    refine ⟨i0, ?_⟩
    conv => whnf
    refine ⟨hlt, ?_⟩
    conv => whnf
    refine cond_intro (fun h10 => ?_) (fun h10 => ?_)
    · have h10 : byteAt s i.toNat = 10 := @of_decide_eq_true _ _ h10
      conv => whnf
      refine ⟨f0, ?_⟩
      conv => whnf
      refine ⟨show f ≤ i by omega, ?_⟩
      conv => whnf
      refine ⟨show i ≤ (s.size : Int) by omega, ?_⟩
      conv => whnf
      refine ⟨show (out.length + 1) * 16 ≤ 70368744177664 by omega, ?_⟩
      conv => whnf
      refine ⟨show out.length + 1 ≤ 70368744177664 by omega, ?_⟩
      conv => whnf
      refine ⟨(out ++ [s.extract f.toNat i.toNat], i + 1, i + 1), ?_, ⟨by show 0 ≤ i + 1; omega, by show 0 ≤ i + 1; omega, ?_⟩, by show ((s.size : Int) - (i + 1)).toNat < ((s.size : Int) - i).toNat; omega⟩
      · exact Eq.trans (b := S13 s (out ++ [s.extract f.toNat i.toNat]) (IntKind.i64.wrap (i + 1)) (IntKind.i64.wrap (i + 1))) rfl (by rw [wi])
      · show LinR s _ (i + 1).toNat (i + 1).toNat
        rw [ei]
        exact hL.feed (by omega) h10
    have h10 : ¬ (byteAt s i.toNat = 10) := @of_decide_eq_false _ _ h10
    conv => whnf
    refine ⟨(out, f, i + 1), ?_, ⟨f0, by show 0 ≤ i + 1; omega, ?_⟩, by show ((s.size : Int) - (i + 1)).toNat < ((s.size : Int) - i).toNat; omega⟩
    · exact Eq.trans (b := S13 s out f (IntKind.i64.wrap (i + 1))) rfl (by rw [wi])
    · show LinR s out f.toNat (i + 1).toNat
      rw [ei]
      exact hL.skip (by omega) h10
  have hlt : ¬ (i < (s.size : Int)) := @of_decide_eq_false _ _ hlt
  have hL : LinR s out f.toNat s.size := by rw [show s.size = i.toNat by omega]; exact hL
  conv => whnf
  refine cond_intro (fun hf => ?_) (fun hf => ?_)
  · have hf : f < (s.size : Int) := @of_decide_eq_true _ _ hf
    conv => whnf
    refine ⟨f0, ?_⟩
    conv => whnf
    refine ⟨show f ≤ (s.size : Int) by omega, ?_⟩
    conv => whnf
    refine ⟨show (out.length + 1) * 16 ≤ 70368744177664 by omega, ?_⟩
    conv => whnf
    refine ⟨show out.length + 1 ≤ 70368744177664 by omega, ?_⟩
    conv => whnf
    show (out ++ [s.extract f.toNat s.size] : List ByteArray) = linesB s
    exact hL.more (by omega)
  have hf : ¬ (f < (s.size : Int)) := @of_decide_eq_false _ _ hf
  conv => whnf
  show out = linesB s
  exact hL.done (by omega)
def E17 : Env := ⟨tab, [], fun n => match n with  | _ => none⟩
def K17 : Fn1 := ⟨.one U8, .one .bool, fun _ => [], fun (c : Int) => setB c⟩
theorem k17 : FnOk Go.Proofs.Tryd.prog 17 K17 := by
  refine fn_ok (E := E17) (TOk.of tab_told) (fun f k h => by cases h) mix Go.Proofs.Tryd.func17 rfl rfl (by kernel_rfl) K17 ?_
  rintro (c : Int) hp
  clear hp
  conv => whnf
  refine cond_intro (fun q => ?_) (fun q => ?_)
  · have q : 48 ≤ c := @of_decide_eq_true _ _ q
    conv => whnf
    show decide (c < 112) = setB c
    simp [setB, q]
  have q : ¬ (48 ≤ c) := @of_decide_eq_false _ _ q
  conv => whnf
  show false = setB c
  simp [setB, q]
def E18 : Env := ⟨tab, [], fun n => match n with  | _ => none⟩
def K18 : Fn1 := ⟨.one U8, .one .bool, fun _ => [], fun (c : Int) => wireB c⟩
theorem k18 : FnOk Go.Proofs.Tryd.prog 18 K18 := by
  refine fn_ok (E := E18) (TOk.of tab_told) (fun f k h => by cases h) mix Go.Proofs.Tryd.func18 rfl rfl (by kernel_rfl) K18 ?_
  rintro (c : Int) hp
  clear hp
  conv => whnf
  refine cond_intro (fun q => ?_) (fun q => ?_)
  · have q : c = 119 := @of_decide_eq_true _ _ q
    conv => whnf
    show true = wireB c
    simp [wireB, q]
  have q : ¬ (c = 119) := @of_decide_eq_false _ _ q
  conv => whnf
  show decide (c = 46) = wireB c
  simp [wireB, q]
end
end Go.Proofs.YtllgclopliegfaaDoor.Eng
set_option linter.unusedVariables false
set_option linter.unusedSimpArgs false
namespace Go.Proofs.YtllgclopliegfaaDoor.Eng
open Go
set_option maxRecDepth 100000
noncomputable section
def S16s (s : ByteArray) (i : Int) : SL := ⟨[.str s] ++ List.replicate 1 .undef ++ [.fn 17 []] ++ List.replicate 10 .undef ++ [.int .i64 s.size] ++ [.int .i64 i] ++ List.replicate 9 .undef, [], 0⟩
def E16s : Env := ⟨tab, [(17, K17)], fun n => match n with | 4 => some ([0, 2, 13, 14], [], []) | _ => none⟩
def K16s : Fn1 := ⟨.fld .str (.one I), .one .bool, fun (a : ByteArray × Int) => [a.1.size ≤ 140737488351232], fun (a : ByteArray × Int) => goodR a.1 a.2 setB⟩
theorem k16s : FnOkF Go.Proofs.Tryd.prog 16 17 K16s := by
  refine fn_okF (E := E16s) (TOk.of tab_told) (AllOk.cons k17 .nil).at_ mix Go.Proofs.Tryd.func16 rfl rfl (by kernel_rfl) 17 K16s ?_
  rintro ⟨(s : ByteArray), (w : Int)⟩ hp
  have hs : s.size ≤ 140737488351232 := hp _ (List.mem_cons_self ..)
  clear hp
  conv => whnf
  refine cond_intro (fun h => ?_) (fun h => ?_)
  · have h : (!decide ((s.size : Int) = w)) = true := h
    have h : ¬ ((s.size : Int) = w) := fun e => absurd h (by rw [decide_eq_true e]; decide)
    conv => whnf
    show false = goodR s w setB
    simp [goodR, h]
  have h : (!decide ((s.size : Int) = w)) = false := h
  have h : (s.size : Int) = w := Decidable.byContradiction fun e => absurd h (by rw [decide_eq_false e]; decide)
  conv => whnf
  refine loop_rule (fun i => S16s s i) (fun i => ((s.size : Int) - i).toNat) (fun i => 0 ≤ i ∧ i ≤ s.size ∧ goodN setB s i.toNat = true) ?_ 0 (by kernel_rfl) ?_ ⟨by omega, by omega, rfl⟩
  case refine_2 => rfl
  rintro i ⟨i0, i1, hg⟩
  conv => whnf
  refine cond_intro (fun hlt => ?_) (fun hlt => ?_)
  · have hlt : i < (s.size : Int) := @of_decide_eq_true _ _ hlt
    have wi : IntKind.i64.wrap (i + 1) = i + 1 := wrap_eq (by omega) (by omega)
    have ei : (i + 1).toNat = i.toNat + 1 := by omega
    conv => whnf
    refine ⟨i0, ?_⟩
    conv => whnf
    refine ⟨hlt, ?_⟩
    conv => whnf
    refine cond_intro (fun hb => ?_) (fun hb => ?_)
    · have hb : (!(setB (byteAt s i.toNat))) = true := hb
      have hb : (setB (byteAt s i.toNat)) = false := by cases e : (setB (byteAt s i.toNat)) with | false => rfl | true => exact absurd hb (by rw [e]; decide)
      conv => whnf
      show false = goodR s w setB
      rw [goodR, good_bad (i := i.toNat) (by omega) hb, Bool.and_false]
    have hb : (!(setB (byteAt s i.toNat))) = false := hb
    have hb : (setB (byteAt s i.toNat)) = true := by cases e : (setB (byteAt s i.toNat)) with | true => rfl | false => exact absurd hb (by rw [e]; decide)
    conv => whnf
    refine ⟨i + 1, ?_, ⟨by omega, by omega, ?_⟩, by omega⟩
    · exact Eq.trans (b := S16s s (IntKind.i64.wrap (i + 1))) rfl (by rw [wi])
    · rw [ei]; unfold goodN; rw [hg, hb]; rfl
  have hlt : ¬ (i < (s.size : Int)) := @of_decide_eq_false _ _ hlt
  conv => whnf
  show true = goodR s w setB
  rw [goodR, h]
  simp only [decide_true, Bool.true_and]
  rw [show s.size = i.toNat by omega]
  exact hg.symm
def S16w (s : ByteArray) (i : Int) : SL := ⟨[.str s] ++ List.replicate 1 .undef ++ [.fn 18 []] ++ List.replicate 10 .undef ++ [.int .i64 s.size] ++ [.int .i64 i] ++ List.replicate 9 .undef, [], 0⟩
def E16w : Env := ⟨tab, [(18, K18)], fun n => match n with | 4 => some ([0, 2, 13, 14], [], []) | _ => none⟩
def K16w : Fn1 := ⟨.fld .str (.one I), .one .bool, fun (a : ByteArray × Int) => [a.1.size ≤ 140737488351232], fun (a : ByteArray × Int) => goodR a.1 a.2 wireB⟩
theorem k16w : FnOkF Go.Proofs.Tryd.prog 16 18 K16w := by
  refine fn_okF (E := E16w) (TOk.of tab_told) (AllOk.cons k18 .nil).at_ mix Go.Proofs.Tryd.func16 rfl rfl (by kernel_rfl) 18 K16w ?_
  rintro ⟨(s : ByteArray), (w : Int)⟩ hp
  have hs : s.size ≤ 140737488351232 := hp _ (List.mem_cons_self ..)
  clear hp
  conv => whnf
  refine cond_intro (fun h => ?_) (fun h => ?_)
  · have h : (!decide ((s.size : Int) = w)) = true := h
    have h : ¬ ((s.size : Int) = w) := fun e => absurd h (by rw [decide_eq_true e]; decide)
    conv => whnf
    show false = goodR s w wireB
    simp [goodR, h]
  have h : (!decide ((s.size : Int) = w)) = false := h
  have h : (s.size : Int) = w := Decidable.byContradiction fun e => absurd h (by rw [decide_eq_false e]; decide)
  conv => whnf
  refine loop_rule (fun i => S16w s i) (fun i => ((s.size : Int) - i).toNat) (fun i => 0 ≤ i ∧ i ≤ s.size ∧ goodN wireB s i.toNat = true) ?_ 0 (by kernel_rfl) ?_ ⟨by omega, by omega, rfl⟩
  case refine_2 => rfl
  rintro i ⟨i0, i1, hg⟩
  conv => whnf
  refine cond_intro (fun hlt => ?_) (fun hlt => ?_)
  · have hlt : i < (s.size : Int) := @of_decide_eq_true _ _ hlt
    have wi : IntKind.i64.wrap (i + 1) = i + 1 := wrap_eq (by omega) (by omega)
    have ei : (i + 1).toNat = i.toNat + 1 := by omega
    conv => whnf
    refine ⟨i0, ?_⟩
    conv => whnf
    refine ⟨hlt, ?_⟩
    conv => whnf
    refine cond_intro (fun hb => ?_) (fun hb => ?_)
    · have hb : (!(wireB (byteAt s i.toNat))) = true := hb
      have hb : (wireB (byteAt s i.toNat)) = false := by cases e : (wireB (byteAt s i.toNat)) with | false => rfl | true => exact absurd hb (by rw [e]; decide)
      conv => whnf
      show false = goodR s w wireB
      rw [goodR, good_bad (i := i.toNat) (by omega) hb, Bool.and_false]
    have hb : (!(wireB (byteAt s i.toNat))) = false := hb
    have hb : (wireB (byteAt s i.toNat)) = true := by cases e : (wireB (byteAt s i.toNat)) with | true => rfl | false => exact absurd hb (by rw [e]; decide)
    conv => whnf
    refine ⟨i + 1, ?_, ⟨by omega, by omega, ?_⟩, by omega⟩
    · exact Eq.trans (b := S16w s (IntKind.i64.wrap (i + 1))) rfl (by rw [wi])
    · rw [ei]; unfold goodN; rw [hg, hb]; rfl
  have hlt : ¬ (i < (s.size : Int)) := @of_decide_eq_false _ _ hlt
  conv => whnf
  show true = goodR s w wireB
  rw [goodR, h]
  simp only [decide_true, Bool.true_and]
  rw [show s.size = i.toNat by omega]
  exact hg.symm
def fn16 : Nat → Option Fn1 := fun g => match g with | 17 => some K16s | 18 => some K16w | _ => none
theorem k16 : FxOk Go.Proofs.Tryd.prog 16 (fnsX fn16) := by
  refine fx_fns ⟨_, _, Go.Proofs.Tryd.func16, rfl, rfl⟩ fun g kk h => ?_
  unfold fn16 at h
  split at h
  · cases h; exact k16s
  · cases h; exact k16w
  · cases h
end
end Go.Proofs.YtllgclopliegfaaDoor.Eng
set_option linter.unusedVariables false
set_option linter.unusedSimpArgs false
namespace Go.Proofs.YtllgclopliegfaaDoor.Eng
open Go
set_option maxRecDepth 100000
noncomputable section
def S27 (r sep : ByteArray) (sv n : Int) (a : List ByteArray) (i : Int) : SL := ⟨[.str r] ++ [.str sep] ++ [.int .i64 sv] ++ [.int .i64 n] ++ List.replicate 5 .undef ++ [.own 0] ++ [.int .i64 i] ++ List.replicate 55 .undef, [(0, .arr .str a)], 1⟩
def E27 : Env := ⟨tab, [(31, K31), (32, K32)], fun n => match n with | 11 => some ([0, 1, 2, 3, 9, 10], [], []) | 999999 => some ([], [], []) | _ => none⟩
def K27 : Fn1 := ⟨.fld .str (.fld .str (.fld I (.one I))), .one (.sl .str), fun (a : ByteArray × ByteArray × Int × Int) => [a.1.size ≤ 1000000, a.2.1 = NL, a.2.2.1 = 0, a.2.2.2 = -1], fun (a : ByteArray × ByteArray × Int × Int) => (splN (bs a.1)).map mkB⟩
theorem k27 : FnOk Go.Proofs.Tryd.prog 27 K27 := by
  refine fn_ok (E := E27) (TOk.of tab_told) (AllOk.cons k31 (.cons k32 .nil)).at_ mix Go.Proofs.Tryd.func27 rfl rfl (by kernel_rfl) K27 ?_
  rintro ⟨(s : ByteArray), (sep : ByteArray), (sv : Int), (n : Int)⟩ hp
  have hs : s.size ≤ 1000000 := hp _ (List.mem_cons_self ..)
  have hsep : sep = NL := hp _ (List.mem_cons_of_mem _ (List.mem_cons_self ..))
  have hsv : sv = 0 := hp _ (List.mem_cons_of_mem _ (List.mem_cons_of_mem _ (List.mem_cons_self ..)))
  have hn : n = -1 := hp _ (List.mem_cons_of_mem _ (List.mem_cons_of_mem _ (List.mem_cons_of_mem _ (List.mem_cons_self ..))))
  clear hp
  conv => whnf
  refine cond_intro (fun n0 => ?_) (fun n0 => ?_)
  · have n0 : n = 0 := @of_decide_eq_true _ _ n0
    exfalso
    omega
  have n0 : ¬ (n = 0) := @of_decide_eq_false _ _ n0
  conv => whnf
  refine cond_intro (fun e0 => ?_) (fun e0 => ?_)
  · have e0 : ((sep.toList == ByteArray.toList ⟨#[]⟩)) = true := e0
    exfalso
    rw [emp_iff rfl, hsep] at e0
    simp [emp, NL_size] at e0
  have e0 : ((sep.toList == ByteArray.toList ⟨#[]⟩)) = false := e0
  conv => whnf
  refine cond_intro (fun n1 => ?_) (fun n1 => ?_)
  · have n1 : n < 0 := @of_decide_eq_true _ _ n1
    have hc0 := cntN_le (s := s) (c := 10) s.size
    have hcl := cnt_len (s := s)
    conv => whnf
    refine ⟨hsep, ?_⟩
    have hN : (min2 (IntKind.i64.wrap ((cntN s 10 s.size) + 1)) (IntKind.i64.wrap ((s.size : Int) + 1))) = (cntN s 10 s.size) + 1 := by
      rw [wrap_eq (by omega) (by omega), wrap_eq (by omega) (by omega)]
      unfold min2
      split <;> omega
    have hM : IntKind.i64.wrap ((min2 (IntKind.i64.wrap ((cntN s 10 s.size) + 1)) (IntKind.i64.wrap ((s.size : Int) + 1))) - 1) = (cntN s 10 s.size) := by rw [hN, wrap_eq (by omega) (by omega)]; omega
    conv => whnf
    refine ⟨show 0 ≤ (min2 (IntKind.i64.wrap ((cntN s 10 s.size) + 1)) (IntKind.i64.wrap ((s.size : Int) + 1))) by omega, ?_⟩
    conv => whnf
    refine ⟨Int.le_refl _, ?_⟩
    conv => whnf
    refine ⟨show (min2 (IntKind.i64.wrap ((cntN s 10 s.size) + 1)) (IntKind.i64.wrap ((s.size : Int) + 1))) * 16 ≤ 70368744177664 by omega, ?_⟩
    conv => whnf
    refine ⟨show (min2 (IntKind.i64.wrap ((cntN s 10 s.size) + 1)) (IntKind.i64.wrap ((s.size : Int) + 1))) ≤ 70368744177664 by omega, ?_⟩
    conv => whnf
    refine loop_rule (fun (x : List ByteArray × ByteArray × Int) => S27 x.2.1 sep sv (cntN s 10 s.size) x.1 x.2.2) (fun x => ((cntN s 10 s.size) - x.2.2).toNat) (fun x => 0 ≤ x.2.2 ∧ x.2.2 ≤ (cntN s 10 s.size) ∧ SplI s x.1 x.2.1 x.2.2.toNat) ?_ (List.replicate ((cntN s 10 s.size) + 1).toNat ByteArray.empty, s, 0) (by kernel_rfl) ?_ ⟨Int.le_refl _, hc0.1, SplI.zero (by omega)⟩
    case refine_2 => exact Eq.trans (b := S27 s sep sv (IntKind.i64.wrap ((min2 (IntKind.i64.wrap ((cntN s 10 s.size) + 1)) (IntKind.i64.wrap ((s.size : Int) + 1))) - 1)) (List.replicate (min2 (IntKind.i64.wrap ((cntN s 10 s.size) + 1)) (IntKind.i64.wrap ((s.size : Int) + 1))).toNat ByteArray.empty) 0) rfl (by rw [hM, hN])
    rintro ⟨a, r, i⟩ ⟨i0, i1, hI⟩
    have i0 : 0 ≤ i := i0
    have i1 : i ≤ (cntN s 10 s.size) := i1
    have hI : SplI s a r i.toNat := hI
    conv => whnf
    refine cond_intro (fun hlt => ?_) (fun hlt => ?_)
    · have hlt : i < (cntN s 10 s.size) := @of_decide_eq_true _ _ hlt
      have wi : IntKind.i64.wrap (i + 1) = i + 1 := wrap_eq (by omega) (by omega)
      have ei : (i + 1).toNat = i.toNat + 1 := by omega
      obtain ⟨m, hm, hx, hc⟩ := hI.more (by omega)
      have hrs := hI.sz
      have hal := hI.al
      conv => whnf
      refine ⟨hsep, ?_⟩
      conv => whnf
      refine cond_intro (fun hneg => ?_) (fun hneg => ?_)
      · have hneg : idxR r 10 < 0 := @of_decide_eq_true _ _ hneg
        exfalso
        omega
      have hneg : ¬ (idxR r 10 < 0) := @of_decide_eq_false _ _ hneg
      have hh : (IntKind.i64.wrap (idxR r 10 + sv)) = (m : Int) := by rw [hx, hsv, Int.add_zero]; exact wrap_eq (by omega) (by omega)
      have hg : (IntKind.i64.wrap (idxR r 10 + (sep.size : Int))) = (m : Int) + 1 := by rw [hx, hsep, NL_size]; exact wrap_eq (by omega) (by omega)
      have hh' : (IntKind.i64.wrap (idxR r 10 + sv)).toNat = m := by omega
      have hg' : (IntKind.i64.wrap (idxR r 10 + (sep.size : Int))).toNat = m + 1 := by omega
      conv => whnf
      refine ⟨show 0 ≤ (IntKind.i64.wrap (idxR r 10 + sv)) by omega, ?_⟩
      conv => whnf
      refine ⟨show (IntKind.i64.wrap (idxR r 10 + sv)) ≤ (r.size : Int) by omega, ?_⟩
      conv => whnf
      refine ⟨i0, ?_⟩
      conv => whnf
      refine ⟨show i < (a.length : Int) by omega, ?_⟩
      conv => whnf
      refine ⟨show 0 ≤ (IntKind.i64.wrap (idxR r 10 + (sep.size : Int))) by omega, ?_⟩
      conv => whnf
      refine ⟨show (IntKind.i64.wrap (idxR r 10 + (sep.size : Int))) ≤ (r.size : Int) by omega, ?_⟩
      conv => whnf
      refine ⟨(a.set i.toNat (r.extract 0 m), r.extract (m + 1) r.size, i + 1), ?_, ⟨by show 0 ≤ i + 1; omega, by show i + 1 ≤ (cntN s 10 s.size); omega, ?_⟩, by show ((cntN s 10 s.size) - (i + 1)).toNat < ((cntN s 10 s.size) - i).toNat; omega⟩
      · exact Eq.trans (b := S27 (r.extract (IntKind.i64.wrap (idxR r 10 + (sep.size : Int))).toNat r.size) sep sv (cntN s 10 s.size) (a.set i.toNat (r.extract 0 (IntKind.i64.wrap (idxR r 10 + sv)).toNat)) (IntKind.i64.wrap (i + 1))) rfl (by rw [hh', hg', wi])
      · show SplI s _ _ (i + 1).toNat
        rw [ei]
        exact hI.step hm hc
    have hlt : ¬ (i < (cntN s 10 s.size)) := @of_decide_eq_false _ _ hlt
    have wi : IntKind.i64.wrap (i + 1) = i + 1 := wrap_eq (by omega) (by omega)
    have ei : (IntKind.i64.wrap (i + 1)).toNat = i.toNat + 1 := by omega
    have hal := hI.al
    conv => whnf
    refine ⟨i0, ?_⟩
    conv => whnf
    refine ⟨show i < (a.length : Int) by omega, ?_⟩
    conv => whnf
    refine ⟨show 0 ≤ IntKind.i64.wrap (i + 1) by omega, ?_⟩
    conv => whnf
    refine ⟨show IntKind.i64.wrap (i + 1) ≤ ((a.set i.toNat r).length : Int) by rw [List.length_set]; omega, ?_⟩
    conv => whnf
    show ((a.set i.toNat r).take (IntKind.i64.wrap (i + 1)).toNat : List ByteArray) = (splN (bs s)).map mkB
    rw [ei]
    exact hI.fin (by omega)
  have n1 : ¬ (n < 0) := @of_decide_eq_false _ _ n1
  exfalso
  omega
def E24 : Env := ⟨tab, [(27, K27)], fun n => match n with  | _ => none⟩
def K24 : Fn1 := ⟨.fld .str (.one .str), .one (.sl .str), fun (a : ByteArray × ByteArray) => [a.1.size ≤ 1000000, a.2 = NL], fun (a : ByteArray × ByteArray) => (splN (bs a.1)).map mkB⟩
theorem k24 : FnOk Go.Proofs.Tryd.prog 24 K24 := by
  refine fn_ok (E := E24) (TOk.of tab_told) (AllOk.cons k27 .nil).at_ mix Go.Proofs.Tryd.func24 rfl rfl (by kernel_rfl) K24 ?_
  rintro ⟨(s : ByteArray), (sep : ByteArray)⟩ hp
  have hs : s.size ≤ 1000000 := hp _ (List.mem_cons_self ..)
  have hsep : sep = NL := hp _ (List.mem_cons_of_mem _ (List.mem_cons_self ..))
  clear hp
  conv => whnf
  refine ⟨hs, ?_⟩
  conv => whnf
  refine ⟨hsep, ?_⟩
  conv => whnf
  refine ⟨rfl, ?_⟩
  conv => whnf
  refine ⟨rfl, ?_⟩
  conv => whnf
  show (splN (bs s)).map mkB = (splN (bs s)).map mkB
  rfl
theorem trimN_le {l : List UInt8} : (trimN l).length ≤ l.length := by
  unfold trimN
  split
  · rw [List.length_dropLast]; omega
  · exact Nat.le_refl _
def E15 : Env := ⟨tab, [(25, K25), (24, K24)], fun n => match n with  | _ => none⟩
def K15 : Fn1 := ⟨.one .str, .one (.sl .str), fun (s : ByteArray) => [s.size ≤ 1000000], fun (s : ByteArray) => linesB s⟩
theorem k15 : FnOk Go.Proofs.Tryd.prog 15 K15 := by
  refine fn_ok (E := E15) (TOk.of tab_told) (AllOk.cons k25 (.cons k24 .nil)).at_ mix Go.Proofs.Tryd.func15 rfl rfl (by kernel_rfl) K15 ?_
  rintro (s : ByteArray) hp
  have hs : s.size ≤ 1000000 := hp _ (List.mem_cons_self ..)
  clear hp
  conv => whnf
  refine cond_intro (fun e => ?_) (fun e => ?_)
  · have e : ((s.toList == ByteArray.toList ⟨#[]⟩)) = true := e
    rw [emp_iff rfl] at e
    have e : s.size = 0 := of_decide_eq_true e
    conv => whnf
    show ([] : List ByteArray) = linesB s
    rw [linesB, if_pos e]
  have e : ((s.toList == ByteArray.toList ⟨#[]⟩)) = false := e
  rw [emp_iff rfl] at e
  have e : ¬ s.size = 0 := of_decide_eq_false e
  have h1 : (mkB (trimN (bs s))).size ≤ 1000000 := by
    have := trimN_le (l := bs s)
    have := bs_len s
    rw [← bs_len, bs_mk]; omega
  conv => whnf
  refine ⟨show s.size ≤ 9223372036854775807 by omega, ?_⟩
  conv => whnf
  refine ⟨rfl, ?_⟩
  conv => whnf
  refine ⟨h1, ?_⟩
  conv => whnf
  refine ⟨rfl, ?_⟩
  conv => whnf
  show (splN (bs (mkB (trimN (bs s))))).map mkB = linesB s
  rw [linesB, if_neg e]
  rfl
end
end Go.Proofs.YtllgclopliegfaaDoor.Eng
set_option linter.unusedVariables false
set_option linter.unusedSimpArgs false
namespace Go.Proofs.YtllgclopliegfaaDoor.Eng
open Go
set_option maxRecDepth 100000
noncomputable section
def zR : Rl := (0, 0, [], [])
def railsL (l : List ByteArray) (h : Nat) : Rl := (((gS l 0).size : Int), (h : Int), rowsI l (gS l 0).size h, rowsW l (gS l 0).size h h)
/-- The tracks of lines, or the line that is at fault. -/
def parseL (l : List ByteArray) : Rl × Int × Int :=
  if hR l < l.length ∧ emp (gS l (hR l)) = false then (zR, (hR l : Int) + 1, 14)
  else if hR l = 0 ∨ hR l = l.length then (zR, (hR l : Int) + 1, 14)
  else if kR l (hR l) < l.length then (zR, (kR l (hR l) : Int) + 1, 14)
  else if l.length < 2 * hR l + 1 then (zR, (l.length : Int) + 1, 14)
  else if validR (railsL l (hR l)) = 0 then (railsL l (hR l), 0, 0) else (zR, 0, validR (railsL l (hR l)))
def B1 (l : List ByteArray) (h : Nat) : Prop := ∀ j, j < h → stop1 l j = false
def B2 (l : List ByteArray) (h k : Nat) : Prop := ∀ j, h + 1 ≤ j → j < k → stop2 l h j = false
theorem hR_at {l : List ByteArray} {h : Nat} (b : B1 l h) (hl : h ≤ l.length) (hs : h < l.length → stop1 l h = true) : hR l = h :=
  fst_eq (Nat.zero_le _) (by omega) (fun j _ hj => b j hj) (fun g => hs (by omega))
theorem kR_at {l : List ByteArray} {h k : Nat} (b : B2 l h k) (hk : h + 1 ≤ k) (hl : k ≤ l.length) (hs : k < l.length → stop2 l h k = true) : kR l h = k :=
  fst_eq hk (by omega) (fun j h1 h2 => b j h1 h2) (fun g => hs (by omega))
theorem B1.succ {l : List ByteArray} {h : Nat} (b : B1 l h) (he : emp (gS l h) = false) (hg : goodR (gS l h) (gS l 0).size setB = true) : B1 l (h + 1) := fun j hj => by
  by_cases e : j = h
  · subst e; unfold stop1; rw [he, hg]; rfl
  · exact b j (by omega)
theorem B2.succ {l : List ByteArray} {h k : Nat} (b : B2 l h k) (hk : ¬ 2 * h < k) (hg : goodR (gS l k) (gS l 0).size wireB = true) : B2 l h (k + 1) := fun j h1 h2 => by
  by_cases e : j = k
  · subst e; unfold stop2; rw [hg, decide_eq_false hk]; rfl
  · exact b j h1 (by omega)
theorem p_bad {l : List ByteArray} {h : Nat} (b : B1 l h) (hh : h < l.length) (he : emp (gS l h) = false) (hg : goodR (gS l h) (gS l 0).size setB = false) : parseL l = (zR, (h : Int) + 1, 14) := by
  have e := hR_at b (by omega) (fun _ => by unfold stop1; rw [he, hg]; rfl)
  rw [parseL, e, if_pos ⟨hh, he⟩]
theorem p_none {l : List ByteArray} {h : Nat} (b : B1 l h) (hh : h ≤ l.length) (hs : h < l.length → emp (gS l h) = true) (hz : h = 0 ∨ h = l.length) : parseL l = (zR, (h : Int) + 1, 14) := by
  have e := hR_at b hh (fun g => by unfold stop1; rw [hs g]; rfl)
  rw [parseL, e, if_neg (fun q => by rw [hs q.1] at q; cases q.2), if_pos hz]
/-- The first block ends at an empty line. -/
structure AtH (l : List ByteArray) (h : Nat) : Prop where
  b1 : B1 l h
  lt : h < l.length
  em : emp (gS l h) = true
  nz : h ≠ 0
theorem AtH.hr {l : List ByteArray} {h : Nat} (a : AtH l h) : hR l = h := hR_at a.b1 (Nat.le_of_lt a.lt) (fun _ => by unfold stop1; rw [a.em]; rfl)
theorem AtH.start {l : List ByteArray} {h : Nat} (a : AtH l h) : ¬ (h < l.length ∧ emp (gS l h) = false) ∧ ¬ (h = 0 ∨ h = l.length) :=
  ⟨fun q => (by rw [a.em] at q; cases q.2), fun q => (by have := a.nz; have := a.lt; omega)⟩
theorem p_k {l : List ByteArray} {h k : Nat} (a : AtH l h) (hk : h + 1 ≤ k) (hl : k < l.length) (b : B2 l h k) (hs : stop2 l h k = true) : parseL l = (zR, (k : Int) + 1, 14) := by
  rw [parseL, a.hr, if_neg a.start.1, if_neg a.start.2, kR_at b hk (by omega) (fun _ => hs), if_pos hl]
theorem kend {l : List ByteArray} {h : Nat} (a : AtH l h) (b : B2 l h l.length) : kR l h = l.length := kR_at b a.lt (Nat.le_refl _) (fun g => by omega)
theorem p_short {l : List ByteArray} {h : Nat} (a : AtH l h) (b : B2 l h l.length) (hs : l.length < 2 * h + 1) : parseL l = (zR, (l.length : Int) + 1, 14) := by
  rw [parseL, a.hr, if_neg a.start.1, if_neg a.start.2, kend a b, if_neg (by omega), if_pos hs]
theorem p_wrong {l : List ByteArray} {h : Nat} (a : AtH l h) (b : B2 l h l.length) (hs : ¬ l.length < 2 * h + 1) (hv : ¬ validR (railsL l h) = 0) : parseL l = (zR, 0, validR (railsL l h)) := by
  rw [parseL, a.hr, if_neg a.start.1, if_neg a.start.2, kend a b, if_neg (by omega), if_neg hs, if_neg hv]
theorem p_ok {l : List ByteArray} {h : Nat} (a : AtH l h) (b : B2 l h l.length) (hs : ¬ l.length < 2 * h + 1) (hv : validR (railsL l h) = 0) : parseL l = (railsL l h, 0, 0) := by
  rw [parseL, a.hr, if_neg a.start.1, if_neg a.start.2, kend a b, if_neg (by omega), if_neg hs, if_pos hv]
theorem full {l : List ByteArray} {h : Nat} (a : AtH l h) (b : B2 l h l.length) (hs : ¬ l.length < 2 * h + 1) : l.length = 2 * h + 1 := by
  by_cases e : 2 * h + 1 < l.length
  · have := b (2 * h + 1) (by omega) e
    unfold stop2 at this
    rw [decide_eq_true (by omega)] at this
    cases this
  · omega
theorem B1.good {l : List ByteArray} {h j : Nat} (b : B1 l h) (hj : j < h) : goodR (gS l j) (gS l 0).size setB = true := by
  have := b j hj
  unfold stop1 at this
  cases e : goodR (gS l j) (gS l 0).size setB with
  | true => rfl
  | false => rw [e] at this; simp at this
theorem B2.good {l : List ByteArray} {h k j : Nat} (b : B2 l h k) (h1 : h + 1 ≤ j) (hj : j < k) : goodR (gS l j) (gS l 0).size wireB = true := by
  have := b j h1 hj
  unfold stop2 at this
  cases e : goodR (gS l j) (gS l 0).size wireB with
  | true => rfl
  | false => rw [e] at this; simp at this
theorem good_size {s : ByteArray} {w : Int} {p : Int → Bool} (h : goodR s w p = true) : (s.size : Int) = w := by
  unfold goodR at h
  rw [Bool.and_eq_true] at h
  exact of_decide_eq_true h.1
theorem good_byte {s : ByteArray} {w : Int} {p : Int → Bool} (h : goodR s w p = true) {i : Nat} (hi : i < s.size) : p (byteAt s i) = true := by
  unfold goodR at h
  rw [Bool.and_eq_true] at h
  exact good_at h.2 hi
theorem good_not {s : ByteArray} {w : Int} {p : Int → Bool} {i : Nat} (hi : i < s.size) (h : p (byteAt s i) = false) : goodR s w p = false := by
  unfold goodR
  rw [good_bad hi h, Bool.and_false]
theorem good_all {s : ByteArray} {w : Int} {p : Int → Bool} (hw : (s.size : Int) = w) (h : goodN p s s.size = true) : goodR s w p = true := by
  unfold goodR
  rw [h, decide_eq_true hw]; rfl
theorem mem_le_sum : ∀ {l : List Nat} {n : Nat}, n ∈ l → n ≤ l.sum
  | [], n, h => by cases h
  | x :: l, n, h => by
    rw [List.sum_cons]
    rcases List.mem_cons.1 h with rfl | h
    · omega
    · have := mem_le_sum h; omega
theorem lines_bd {s : ByteArray} (hs : s.size ≤ 1000000) : (linesB s).length ≤ 1000001 ∧ ∀ j, (gS (linesB s) j).size ≤ 1000000 := by
  unfold linesB
  split
  · exact ⟨by simp, fun j => by simp [gS]⟩
  · have h1 := splN_size (l := trimN (bs s))
    have h2 := trimN_le (l := bs s)
    have h3 := bs_len s
    refine ⟨by rw [List.length_map]; omega, fun j => ?_⟩
    unfold gS
    by_cases hj : j < (splN (trimN (bs s))).length
    · rw [List.getD_eq_getElem?_getD, List.getElem?_eq_getElem (by rw [List.length_map]; exact hj), List.getElem_map]
      show (mkB _).size ≤ 1000000
      rw [← bs_len, bs_mk]
      have := mem_le_sum (List.mem_map.2 ⟨_, List.getElem_mem hj, rfl⟩ : (splN (trimN (bs s)))[j].length ∈ (splN (trimN (bs s))).map List.length)
      omega
    · rw [List.getD_eq_getElem?_getD, List.getElem?_eq_none (by rw [List.length_map]; omega)]
      simp
theorem prod_le {a b : Nat} (ha : a ≤ 1000001) (hb : b ≤ 1000000) : a * b ≤ 1000001000000 := Nat.le_trans (Nat.mul_le_mul ha hb) (by decide)
theorem setB_iff {c : Int} : setB c = true ↔ 48 ≤ c ∧ c < 112 := by simp [setB]
theorem wireB_iff {c : Int} : wireB c = true ↔ c = 119 ∨ c = 46 := by simp [wireB]
end
end Go.Proofs.YtllgclopliegfaaDoor.Eng
