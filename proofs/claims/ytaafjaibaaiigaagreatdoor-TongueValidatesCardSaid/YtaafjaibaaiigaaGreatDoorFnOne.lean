/- What the functions that the law reaches answer, each for every input. -/
import Derived.Test.YtaafjaibaaiigaaGreatDoorEngFour
import Derived.Test.YtaafjaibaaiigaaGreatDoorEngThree
import Derived.Lib.Strings
set_option linter.unusedVariables false
set_option linter.unusedSimpArgs false
set_option linter.unusedVariables false
set_option linter.unusedSimpArgs false
namespace Go.Proofs.YtaafjaibaaiigaaGreatDoor.Eng
open Go
set_option maxRecDepth 100000
noncomputable section
abbrev I : Ty := .int .i64
abbrev opT : Ty := .fld I (.one I)
abbrev ruT : Ty := .fld .str (.fld I (.one (.sl opT)))
abbrev cgT : Ty := .fld .str (.fld I (.fld I (.one I)))
abbrev plT : Ty := .fld .str (.fld (.sl I) (.one (.sl opT)))
abbrev moT : Ty := .fld .str (.fld I (.fld I (.fld I (.fld I (.fld I (.fld I (.fld I (.fld I (.fld I (.fld I (.fld I (.fld I (.one .bool)))))))))))))
abbrev coT : Ty := .fld (.sl ruT) (.fld (.sl cgT) (.fld (.sl plT) (.fld (.sl cgT) (.one (.sl moT)))))
abbrev Op2 := Int × Int
abbrev Ru := ByteArray × Int × List Op2
abbrev Cg := ByteArray × Int × Int × Int
abbrev Pl := ByteArray × List Int × List Op2
abbrev Mo := ByteArray × Int × Int × Int × Int × Int × Int × Int × Int × Int × Int × Int × Int × Bool
abbrev Co := List Ru × List Cg × List Pl × List Cg × List Mo
theorem mix : Go.Proofs.Tryz.prog.follows .mixedOrders = true := by kernel_rfl
theorem wrap_eq {i : Int} (h : -9223372036854775808 ≤ i) (g : i ≤ 9223372036854775807) : IntKind.i64.wrap i = i := by rw [IntKind.wrap_i64]; omega
def noE : Env := ⟨tab, [], fun _ => none⟩
def gI (l : List Int) (n : Nat) : Int := l.getD n 0
theorem gI_eq {l : List Int} {n : Nat} (h : n < l.length) : gI l n = l[n] := by simp [gI, h]
def zO : Op2 := (0, 0)
def gO (l : List Op2) (n : Nat) : Op2 := l.getD n zO
theorem gO_eq {l : List Op2} {n : Nat} (h : n < l.length) : gO l n = l[n] := by simp [gO, h]
theorem gO_mem {l : List Op2} {n : Nat} (h : n < l.length) : gO l n ∈ l := by rw [gO_eq h]; exact List.getElem_mem h
def zRu : Ru := (⟨#[]⟩, 0, [])
def gR (l : List Ru) (n : Nat) : Ru := l.getD n zRu
theorem gR_eq {l : List Ru} {n : Nat} (h : n < l.length) : gR l n = l[n] := by simp [gR, h]
theorem gR_mem {l : List Ru} {n : Nat} (h : n < l.length) : gR l n ∈ l := by rw [gR_eq h]; exact List.getElem_mem h
/-- The first place from a on, of at most n, where p holds. -/
def fst (p : Nat → Bool) : Nat → Nat → Nat
  | 0, a => a
  | n + 1, a => match p a with | true => a | false => fst p n (a + 1)
theorem fst_eq {p : Nat → Bool} : ∀ {n a i : Nat}, a ≤ i → i ≤ a + n → (∀ j, a ≤ j → j < i → p j = false) → (i < a + n → p i = true) → fst p n a = i
  | 0, a, i, h1, h2, _, _ => by unfold fst; omega
  | n + 1, a, i, h1, h2, h3, h4 => by
    unfold fst
    by_cases e : a = i
    · subst e; rw [h4 (by omega)]
    · rw [h3 a (Nat.le_refl _) (by omega)]
      exact fst_eq (by omega) (by omega) (fun j hj hj2 => h3 j (by omega) hj2) (fun h => h4 (by omega))
def mkB (l : List UInt8) : ByteArray := ⟨l.toArray⟩
def bs (s : ByteArray) : List UInt8 := s.data.toList
theorem bs_mk (l : List UInt8) : bs (mkB l) = l := rfl
theorem mk_bs (s : ByteArray) : mkB (bs s) = s := Go.Lib.mk_data s
theorem bs_len (s : ByteArray) : (bs s).length = s.size := (Go.Lib.size_eq s).symm
theorem tl_bs (s : ByteArray) : s.toList = bs s := Go.Lib.toList_data s
theorem tl_iff {s t : ByteArray} : (s.toList == t.toList) = decide (s = t) := by
  rw [tl_bs, tl_bs]
  by_cases h : s = t
  · subst h; simp
  · rw [decide_eq_false h]
    have : ¬ bs s = bs t := fun e => h (by rw [← mk_bs s, ← mk_bs t, e])
    simpa using this
def goodN (p : Int → Bool) (s : ByteArray) : Nat → Bool
  | 0 => true
  | n + 1 => goodN p s n && p (byteAt s n)
theorem good_bad {p : Int → Bool} {s : ByteArray} : ∀ {n i : Nat}, i < n → p (byteAt s i) = false → goodN p s n = false
  | 0, i, h, _ => by omega
  | n + 1, i, h, e => by
    unfold goodN
    by_cases hi : i = n
    · subst hi; rw [e, Bool.and_false]
    · rw [good_bad (by omega) e, Bool.false_and]
theorem good_at {p : Int → Bool} {s : ByteArray} : ∀ {n i : Nat}, goodN p s n = true → i < n → p (byteAt s i) = true
  | 0, i, _, h => by omega
  | n + 1, i, h, e => by
    unfold goodN at h
    rw [Bool.and_eq_true] at h
    by_cases hi : i = n
    · subst hi; exact h.2
    · exact good_at h.1 (by omega)
theorem good_succ {p : Int → Bool} {s : ByteArray} {n : Nat} (h : goodN p s n = true) (e : p (byteAt s n) = true) : goodN p s (n + 1) = true := by
  unfold goodN; rw [h, e]; rfl
/-- Small letters. -/
def lowB (c : Int) : Bool := decide (97 ≤ c) && decide (c ≤ 122)
theorem low_lo {c : Int} (h : c < 97) : lowB c = false := by unfold lowB; rw [decide_eq_false (by omega)]; rfl
theorem low_hi {c : Int} (h : 122 < c) : lowB c = false := by unfold lowB; rw [decide_eq_false (p := c ≤ 122) (by omega), Bool.and_false]
theorem low_ok {c : Int} (h : ¬ c < 97) (g : ¬ 122 < c) : lowB c = true := by unfold lowB; rw [decide_eq_true (by omega), decide_eq_true (by omega)]; rfl
def nameB (s : ByteArray) : Bool := decide (1 ≤ (s.size : Int)) && (decide ((s.size : Int) ≤ 12) && goodN lowB s s.size)
theorem name_bad {s : ByteArray} {i : Nat} (h : i < s.size) (e : lowB (byteAt s i) = false) : nameB s = false := by
  unfold nameB; rw [good_bad h e, Bool.and_false, Bool.and_false]
theorem name_good {s : ByteArray} (h : goodN lowB s s.size = true) : nameB s = (decide (1 ≤ (s.size : Int)) && decide ((s.size : Int) ≤ 12)) := by
  unfold nameB; rw [h, Bool.and_true]
theorem name_small {s : ByteArray} (h : ¬ 1 ≤ (s.size : Int)) : nameB s = false := by unfold nameB; rw [decide_eq_false h]; rfl
theorem name_large {s : ByteArray} (h : ¬ (s.size : Int) ≤ 12) : nameB s = false := by unfold nameB; rw [decide_eq_false h, Bool.false_and, Bool.and_false]
theorem byte_lt {s : ByteArray} {i : Nat} : 0 ≤ byteAt s i ∧ byteAt s i < 256 := by
  have := (s.data.toList.getD i 0).toNat_lt
  constructor
  · exact Int.natCast_nonneg _
  · show (((s.data.toList.getD i 0).toNat : Nat) : Int) < 256
    omega
/-- How many small letters a text begins with. -/
def lettersN (s : ByteArray) : Nat := fst (fun j => !lowB (byteAt s j)) s.size 0
theorem letters_at {s : ByteArray} {i : Nat} (h : i ≤ s.size) (g : goodN lowB s i = true) (e : i < s.size → lowB (byteAt s i) = false) : lettersN s = i :=
  fst_eq (Nat.zero_le _) (by omega) (fun j _ hj => by rw [good_at g hj]; rfl) (fun q => by rw [e (by omega)]; rfl)
theorem fst_le {p : Nat → Bool} : ∀ {n a : Nat}, a ≤ fst p n a ∧ fst p n a ≤ a + n
  | 0, a => ⟨Nat.le_refl _, Nat.le_refl _⟩
  | n + 1, a => by
    unfold fst
    split
    · omega
    · have := fst_le (p := p) (n := n) (a := a + 1); omega
theorem fst_before {p : Nat → Bool} : ∀ {n a j : Nat}, a ≤ j → j < fst p n a → p j = false
  | 0, a, j, h1, h2 => by unfold fst at h2; omega
  | n + 1, a, j, h1, h2 => by
    unfold fst at h2
    split at h2
    · omega
    · rename_i e
      by_cases hj : j = a
      · subst hj; exact e
      · exact fst_before (by omega) h2
theorem good_all {p : Int → Bool} {s : ByteArray} : ∀ {n : Nat}, (∀ i, i < n → p (byteAt s i) = true) → goodN p s n = true
  | 0, _ => rfl
  | n + 1, h => by
    unfold goodN
    rw [good_all (fun i hi => h i (by omega)), h n (by omega)]
    rfl
theorem letters_all {s : ByteArray} : decide ((lettersN s : Int) = (s.size : Int)) = goodN lowB s s.size := by
  by_cases h : goodN lowB s s.size = true
  · rw [h, decide_eq_true (by rw [letters_at (Nat.le_refl _) h (fun q => by omega)])]
  · have : ¬ lettersN s = s.size := by
      intro e
      refine h (good_all fun i hi => ?_)
      have := fst_before (p := fun j => !lowB (byteAt s j)) (n := s.size) (a := 0) (j := i) (Nat.zero_le _) (by show i < lettersN s; omega)
      simpa using this
    rw [decide_eq_false (by omega)]
    cases e : goodN lowB s s.size with
    | false => rfl
    | true => exact absurd e h
def wd (l : List UInt8) : ByteArray := ⟨l.toArray⟩
/-- Words that are no names: min, max, none, yes, no, takes, makes. -/
def resB (s : ByteArray) : Bool := decide (s = ⟨#[109, 105, 110]⟩) || (decide (s = ⟨#[109, 97, 120]⟩) || (decide (s = ⟨#[110, 111, 110, 101]⟩) || (decide (s = ⟨#[121, 101, 115]⟩) || (decide (s = ⟨#[110, 111]⟩) || (decide (s = ⟨#[116, 97, 107, 101, 115]⟩) || decide (s = ⟨#[109, 97, 107, 101, 115]⟩))))))
def namedB (s : ByteArray) : Bool := nameB s && !resB s
end
end Go.Proofs.YtaafjaibaaiigaaGreatDoor.Eng
set_option linter.unusedVariables false
set_option linter.unusedSimpArgs false
namespace Go.Proofs.YtaafjaibaaiigaaGreatDoor.Eng
open Go
set_option maxRecDepth 100000
noncomputable section
def E54 : Env := ⟨tab, [], fun n => match n with  | _ => none⟩
def K54 : Fn1 := ⟨.one .str, .one .bool, fun _ => [], fun (s : ByteArray) => resB s⟩
theorem k54 : FnOk Go.Proofs.Tryz.prog 54 K54 := by
  refine fn_ok (E := E54) (TOk.of tab_told) (fun f k h => by cases h) mix Go.Proofs.Tryz.func54 rfl rfl (by kernel_rfl) K54 ?_
  rintro (s : ByteArray) hp
  clear hp
  conv => whnf
  refine cond_intro (fun r0 => ?_) (fun r0 => ?_)
  · have r0 : ((s.toList == ByteArray.toList ⟨#[109, 105, 110]⟩)) = true := r0
    have z0 := r0
    rw [tl_iff] at r0
    have r0 := of_decide_eq_true r0
    conv => whnf
    refine cond_intro (fun q0 => ?_) (fun q0 => ?_)
    · have q0 : ((s.toList == ByteArray.toList ⟨#[109, 105, 110]⟩)) = true := q0
      conv => whnf
      show true = resB s
      unfold resB
      rw [decide_eq_true r0]
      rfl
    have q0 : ((s.toList == ByteArray.toList ⟨#[109, 105, 110]⟩)) = false := q0
    rw [z0] at q0
    cases q0
  have r0 : ((s.toList == ByteArray.toList ⟨#[109, 105, 110]⟩)) = false := r0
  have z0 := r0
  rw [tl_iff] at r0
  have r0 := of_decide_eq_false r0
  conv => whnf
  refine cond_intro (fun r1 => ?_) (fun r1 => ?_)
  · have r1 : ((s.toList == ByteArray.toList ⟨#[109, 97, 120]⟩)) = true := r1
    have z1 := r1
    rw [tl_iff] at r1
    have r1 := of_decide_eq_true r1
    conv => whnf
    refine cond_intro (fun q1 => ?_) (fun q1 => ?_)
    · have q1 : ((s.toList == ByteArray.toList ⟨#[109, 97, 120]⟩)) = true := q1
      conv => whnf
      show true = resB s
      unfold resB
      rw [decide_eq_false r0, decide_eq_true r1]
      rfl
    have q1 : ((s.toList == ByteArray.toList ⟨#[109, 97, 120]⟩)) = false := q1
    rw [z1] at q1
    cases q1
  have r1 : ((s.toList == ByteArray.toList ⟨#[109, 97, 120]⟩)) = false := r1
  have z1 := r1
  rw [tl_iff] at r1
  have r1 := of_decide_eq_false r1
  conv => whnf
  refine cond_intro (fun r2 => ?_) (fun r2 => ?_)
  · have r2 : ((s.toList == ByteArray.toList ⟨#[110, 111, 110, 101]⟩)) = true := r2
    have z2 := r2
    rw [tl_iff] at r2
    have r2 := of_decide_eq_true r2
    conv => whnf
    refine cond_intro (fun q2 => ?_) (fun q2 => ?_)
    · have q2 : ((s.toList == ByteArray.toList ⟨#[110, 111, 110, 101]⟩)) = true := q2
      conv => whnf
      show true = resB s
      unfold resB
      rw [decide_eq_false r0, decide_eq_false r1, decide_eq_true r2]
      rfl
    have q2 : ((s.toList == ByteArray.toList ⟨#[110, 111, 110, 101]⟩)) = false := q2
    rw [z2] at q2
    cases q2
  have r2 : ((s.toList == ByteArray.toList ⟨#[110, 111, 110, 101]⟩)) = false := r2
  have z2 := r2
  rw [tl_iff] at r2
  have r2 := of_decide_eq_false r2
  conv => whnf
  refine cond_intro (fun r3 => ?_) (fun r3 => ?_)
  · have r3 : ((s.toList == ByteArray.toList ⟨#[121, 101, 115]⟩)) = true := r3
    have z3 := r3
    rw [tl_iff] at r3
    have r3 := of_decide_eq_true r3
    conv => whnf
    refine cond_intro (fun q3 => ?_) (fun q3 => ?_)
    · have q3 : ((s.toList == ByteArray.toList ⟨#[121, 101, 115]⟩)) = true := q3
      conv => whnf
      show true = resB s
      unfold resB
      rw [decide_eq_false r0, decide_eq_false r1, decide_eq_false r2, decide_eq_true r3]
      rfl
    have q3 : ((s.toList == ByteArray.toList ⟨#[121, 101, 115]⟩)) = false := q3
    rw [z3] at q3
    cases q3
  have r3 : ((s.toList == ByteArray.toList ⟨#[121, 101, 115]⟩)) = false := r3
  have z3 := r3
  rw [tl_iff] at r3
  have r3 := of_decide_eq_false r3
  conv => whnf
  refine cond_intro (fun r4 => ?_) (fun r4 => ?_)
  · have r4 : ((s.toList == ByteArray.toList ⟨#[110, 111]⟩)) = true := r4
    have z4 := r4
    rw [tl_iff] at r4
    have r4 := of_decide_eq_true r4
    conv => whnf
    refine cond_intro (fun q4 => ?_) (fun q4 => ?_)
    · have q4 : ((s.toList == ByteArray.toList ⟨#[110, 111]⟩)) = true := q4
      conv => whnf
      show true = resB s
      unfold resB
      rw [decide_eq_false r0, decide_eq_false r1, decide_eq_false r2, decide_eq_false r3, decide_eq_true r4]
      rfl
    have q4 : ((s.toList == ByteArray.toList ⟨#[110, 111]⟩)) = false := q4
    rw [z4] at q4
    cases q4
  have r4 : ((s.toList == ByteArray.toList ⟨#[110, 111]⟩)) = false := r4
  have z4 := r4
  rw [tl_iff] at r4
  have r4 := of_decide_eq_false r4
  conv => whnf
  refine cond_intro (fun r5 => ?_) (fun r5 => ?_)
  · have r5 : ((s.toList == ByteArray.toList ⟨#[116, 97, 107, 101, 115]⟩)) = true := r5
    have z5 := r5
    rw [tl_iff] at r5
    have r5 := of_decide_eq_true r5
    conv => whnf
    refine cond_intro (fun q5 => ?_) (fun q5 => ?_)
    · have q5 : ((s.toList == ByteArray.toList ⟨#[116, 97, 107, 101, 115]⟩)) = true := q5
      conv => whnf
      show true = resB s
      unfold resB
      rw [decide_eq_false r0, decide_eq_false r1, decide_eq_false r2, decide_eq_false r3, decide_eq_false r4, decide_eq_true r5]
      rfl
    have q5 : ((s.toList == ByteArray.toList ⟨#[116, 97, 107, 101, 115]⟩)) = false := q5
    rw [z5] at q5
    cases q5
  have r5 : ((s.toList == ByteArray.toList ⟨#[116, 97, 107, 101, 115]⟩)) = false := r5
  have z5 := r5
  rw [tl_iff] at r5
  have r5 := of_decide_eq_false r5
  conv => whnf
  refine cond_intro (fun r6 => ?_) (fun r6 => ?_)
  · have r6 : ((s.toList == ByteArray.toList ⟨#[109, 97, 107, 101, 115]⟩)) = true := r6
    rw [tl_iff] at r6
    have r6 := of_decide_eq_true r6
    conv => whnf
    show true = resB s
    unfold resB
    rw [decide_eq_false r0, decide_eq_false r1, decide_eq_false r2, decide_eq_false r3, decide_eq_false r4, decide_eq_false r5, decide_eq_true r6]
    rfl
  have r6 : ((s.toList == ByteArray.toList ⟨#[109, 97, 107, 101, 115]⟩)) = false := r6
  have z6 := r6
  rw [tl_iff] at r6
  have r6 := of_decide_eq_false r6
  conv => whnf
  show false = resB s
  unfold resB
  rw [decide_eq_false r0, decide_eq_false r1, decide_eq_false r2, decide_eq_false r3, decide_eq_false r4, decide_eq_false r5, decide_eq_false r6]
  rfl
def E65 : Env := ⟨tab, [], fun n => match n with  | _ => none⟩
def K65 : Fn1 := ⟨.one .str, .one .bool, fun _ => [], fun (s : ByteArray) => resB s⟩
theorem k65 : FnOk Go.Proofs.Tryz.prog 65 K65 := by
  refine fn_ok (E := E65) (TOk.of tab_told) (fun f k h => by cases h) mix Go.Proofs.Tryz.func65 rfl rfl (by kernel_rfl) K65 ?_
  rintro (s : ByteArray) hp
  clear hp
  conv => whnf
  refine cond_intro (fun r0 => ?_) (fun r0 => ?_)
  · have r0 : ((s.toList == ByteArray.toList ⟨#[109, 105, 110]⟩)) = true := r0
    have z0 := r0
    rw [tl_iff] at r0
    have r0 := of_decide_eq_true r0
    conv => whnf
    refine cond_intro (fun q0 => ?_) (fun q0 => ?_)
    · have q0 : ((s.toList == ByteArray.toList ⟨#[109, 105, 110]⟩)) = true := q0
      conv => whnf
      show true = resB s
      unfold resB
      rw [decide_eq_true r0]
      rfl
    have q0 : ((s.toList == ByteArray.toList ⟨#[109, 105, 110]⟩)) = false := q0
    rw [z0] at q0
    cases q0
  have r0 : ((s.toList == ByteArray.toList ⟨#[109, 105, 110]⟩)) = false := r0
  have z0 := r0
  rw [tl_iff] at r0
  have r0 := of_decide_eq_false r0
  conv => whnf
  refine cond_intro (fun r1 => ?_) (fun r1 => ?_)
  · have r1 : ((s.toList == ByteArray.toList ⟨#[109, 97, 120]⟩)) = true := r1
    have z1 := r1
    rw [tl_iff] at r1
    have r1 := of_decide_eq_true r1
    conv => whnf
    refine cond_intro (fun q1 => ?_) (fun q1 => ?_)
    · have q1 : ((s.toList == ByteArray.toList ⟨#[109, 97, 120]⟩)) = true := q1
      conv => whnf
      show true = resB s
      unfold resB
      rw [decide_eq_false r0, decide_eq_true r1]
      rfl
    have q1 : ((s.toList == ByteArray.toList ⟨#[109, 97, 120]⟩)) = false := q1
    rw [z1] at q1
    cases q1
  have r1 : ((s.toList == ByteArray.toList ⟨#[109, 97, 120]⟩)) = false := r1
  have z1 := r1
  rw [tl_iff] at r1
  have r1 := of_decide_eq_false r1
  conv => whnf
  refine cond_intro (fun r2 => ?_) (fun r2 => ?_)
  · have r2 : ((s.toList == ByteArray.toList ⟨#[110, 111, 110, 101]⟩)) = true := r2
    have z2 := r2
    rw [tl_iff] at r2
    have r2 := of_decide_eq_true r2
    conv => whnf
    refine cond_intro (fun q2 => ?_) (fun q2 => ?_)
    · have q2 : ((s.toList == ByteArray.toList ⟨#[110, 111, 110, 101]⟩)) = true := q2
      conv => whnf
      show true = resB s
      unfold resB
      rw [decide_eq_false r0, decide_eq_false r1, decide_eq_true r2]
      rfl
    have q2 : ((s.toList == ByteArray.toList ⟨#[110, 111, 110, 101]⟩)) = false := q2
    rw [z2] at q2
    cases q2
  have r2 : ((s.toList == ByteArray.toList ⟨#[110, 111, 110, 101]⟩)) = false := r2
  have z2 := r2
  rw [tl_iff] at r2
  have r2 := of_decide_eq_false r2
  conv => whnf
  refine cond_intro (fun r3 => ?_) (fun r3 => ?_)
  · have r3 : ((s.toList == ByteArray.toList ⟨#[121, 101, 115]⟩)) = true := r3
    have z3 := r3
    rw [tl_iff] at r3
    have r3 := of_decide_eq_true r3
    conv => whnf
    refine cond_intro (fun q3 => ?_) (fun q3 => ?_)
    · have q3 : ((s.toList == ByteArray.toList ⟨#[121, 101, 115]⟩)) = true := q3
      conv => whnf
      show true = resB s
      unfold resB
      rw [decide_eq_false r0, decide_eq_false r1, decide_eq_false r2, decide_eq_true r3]
      rfl
    have q3 : ((s.toList == ByteArray.toList ⟨#[121, 101, 115]⟩)) = false := q3
    rw [z3] at q3
    cases q3
  have r3 : ((s.toList == ByteArray.toList ⟨#[121, 101, 115]⟩)) = false := r3
  have z3 := r3
  rw [tl_iff] at r3
  have r3 := of_decide_eq_false r3
  conv => whnf
  refine cond_intro (fun r4 => ?_) (fun r4 => ?_)
  · have r4 : ((s.toList == ByteArray.toList ⟨#[110, 111]⟩)) = true := r4
    have z4 := r4
    rw [tl_iff] at r4
    have r4 := of_decide_eq_true r4
    conv => whnf
    refine cond_intro (fun q4 => ?_) (fun q4 => ?_)
    · have q4 : ((s.toList == ByteArray.toList ⟨#[110, 111]⟩)) = true := q4
      conv => whnf
      show true = resB s
      unfold resB
      rw [decide_eq_false r0, decide_eq_false r1, decide_eq_false r2, decide_eq_false r3, decide_eq_true r4]
      rfl
    have q4 : ((s.toList == ByteArray.toList ⟨#[110, 111]⟩)) = false := q4
    rw [z4] at q4
    cases q4
  have r4 : ((s.toList == ByteArray.toList ⟨#[110, 111]⟩)) = false := r4
  have z4 := r4
  rw [tl_iff] at r4
  have r4 := of_decide_eq_false r4
  conv => whnf
  refine cond_intro (fun r5 => ?_) (fun r5 => ?_)
  · have r5 : ((s.toList == ByteArray.toList ⟨#[116, 97, 107, 101, 115]⟩)) = true := r5
    have z5 := r5
    rw [tl_iff] at r5
    have r5 := of_decide_eq_true r5
    conv => whnf
    refine cond_intro (fun q5 => ?_) (fun q5 => ?_)
    · have q5 : ((s.toList == ByteArray.toList ⟨#[116, 97, 107, 101, 115]⟩)) = true := q5
      conv => whnf
      show true = resB s
      unfold resB
      rw [decide_eq_false r0, decide_eq_false r1, decide_eq_false r2, decide_eq_false r3, decide_eq_false r4, decide_eq_true r5]
      rfl
    have q5 : ((s.toList == ByteArray.toList ⟨#[116, 97, 107, 101, 115]⟩)) = false := q5
    rw [z5] at q5
    cases q5
  have r5 : ((s.toList == ByteArray.toList ⟨#[116, 97, 107, 101, 115]⟩)) = false := r5
  have z5 := r5
  rw [tl_iff] at r5
  have r5 := of_decide_eq_false r5
  conv => whnf
  refine cond_intro (fun r6 => ?_) (fun r6 => ?_)
  · have r6 : ((s.toList == ByteArray.toList ⟨#[109, 97, 107, 101, 115]⟩)) = true := r6
    rw [tl_iff] at r6
    have r6 := of_decide_eq_true r6
    conv => whnf
    show true = resB s
    unfold resB
    rw [decide_eq_false r0, decide_eq_false r1, decide_eq_false r2, decide_eq_false r3, decide_eq_false r4, decide_eq_false r5, decide_eq_true r6]
    rfl
  have r6 : ((s.toList == ByteArray.toList ⟨#[109, 97, 107, 101, 115]⟩)) = false := r6
  have z6 := r6
  rw [tl_iff] at r6
  have r6 := of_decide_eq_false r6
  conv => whnf
  show false = resB s
  unfold resB
  rw [decide_eq_false r0, decide_eq_false r1, decide_eq_false r2, decide_eq_false r3, decide_eq_false r4, decide_eq_false r5, decide_eq_false r6]
  rfl
def S92 (s : ByteArray) (i : Int) : SL := ⟨[.str s, .undef, .undef, .int .i64 i, .undef, .undef, .undef, .undef, .undef, .undef, .undef, .undef, .undef, .undef, .undef, .undef, .undef, .undef, .undef, .undef, .undef, .undef, .undef], [], 0⟩
def E92 : Env := ⟨tab, [], fun n => match n with | 2 => some ([0, 3], [], []) | _ => none⟩
def K92 : Fn1 := ⟨.one .str, .one I, fun (s : ByteArray) => [s.size ≤ 140737488351232], fun (s : ByteArray) => (lettersN s : Int)⟩
theorem k92 : FnOk Go.Proofs.Tryz.prog 92 K92 := by
  refine fn_ok (E := E92) (TOk.of tab_told) (fun f k h => by cases h) mix Go.Proofs.Tryz.func92 rfl rfl (by kernel_rfl) K92 ?_
  rintro (s : ByteArray) hp
  have hs : s.size ≤ 140737488351232 := hp _ (List.mem_cons_self ..)
  clear hp
  conv => whnf
  refine loop_rule (S92 s) (fun i => ((s.size : Int) - i).toNat) (fun i => 0 ≤ i ∧ i ≤ (s.size : Int) ∧ goodN lowB s i.toNat = true) ?_ 0 (by kernel_rfl) ?_ ⟨by omega, by omega, rfl⟩
  case refine_2 => rfl
  rintro i ⟨i0, i1, i2⟩
  have ii : ((i.toNat : Nat) : Int) = i := by omega
  conv => whnf
  refine cond_intro (fun h1 => ?_) (fun h1 => ?_)
  · have h1 : i < (s.size : Int) := @of_decide_eq_true _ _ h1
    conv => whnf
    refine ⟨i0, ?_⟩
    conv => whnf
    refine ⟨h1, ?_⟩
    conv => whnf
    refine cond_intro (fun h2 => ?_) (fun h2 => ?_)
    · have h2 : 97 ≤ byteAt s i.toNat := @of_decide_eq_true _ _ h2
      conv => whnf
      refine ⟨i0, ?_⟩
      conv => whnf
      refine ⟨h1, ?_⟩
      conv => whnf
      refine cond_intro (fun h3 => ?_) (fun h3 => ?_)
      · have h3 : byteAt s i.toNat ≤ 122 := @of_decide_eq_true _ _ h3
        have wi : IntKind.i64.wrap (i + 1) = i + 1 := wrap_eq (by omega) (by omega)
        have ei : (i + 1).toNat = i.toNat + 1 := by omega
        conv => whnf
        refine ⟨i + 1, ?_, ⟨by omega, by omega, ?_⟩, by omega⟩
        · exact Eq.trans (b := S92 s (IntKind.i64.wrap (i + 1))) rfl (by rw [wi])
        · rw [ei]; exact good_succ i2 (low_ok (by omega) (by omega))
      have h3 : ¬ (byteAt s i.toNat ≤ 122) := @of_decide_eq_false _ _ h3
      conv => whnf
      show i = (lettersN s : Int)
      rw [letters_at (by omega) i2 (fun _ => low_hi (by omega))]
      exact ii.symm
    have h2 : ¬ (97 ≤ byteAt s i.toNat) := @of_decide_eq_false _ _ h2
    conv => whnf
    show i = (lettersN s : Int)
    rw [letters_at (by omega) i2 (fun _ => low_lo (by omega))]
    exact ii.symm
  have h1 : ¬ (i < (s.size : Int)) := @of_decide_eq_false _ _ h1
  conv => whnf
  show i = (lettersN s : Int)
  rw [letters_at (by omega) i2 (fun _ => by omega)]
  exact ii.symm
def S57 (s : ByteArray) (i : Int) : SL := ⟨[.str s, .undef, .undef, .undef, .undef, .int .i64 s.size, .int .i64 i, .undef, .undef, .undef, .undef, .undef, .undef, .undef, .undef, .undef, .undef, .undef, .undef, .undef, .undef, .undef, .undef, .undef, .undef, .undef, .undef, .undef], [], 0⟩
def E57 : Env := ⟨tab, [], fun n => match n with | 2 => some ([0, 5, 6], [], []) | _ => none⟩
def K57 : Fn1 := ⟨.one .str, .one .bool, fun (s : ByteArray) => [s.size ≤ 140737488351232], fun (s : ByteArray) => nameB s⟩
theorem k57 : FnOk Go.Proofs.Tryz.prog 57 K57 := by
  refine fn_ok (E := E57) (TOk.of tab_told) (fun f k h => by cases h) mix Go.Proofs.Tryz.func57 rfl rfl (by kernel_rfl) K57 ?_
  rintro (s : ByteArray) hp
  have hs : s.size ≤ 140737488351232 := hp _ (List.mem_cons_self ..)
  clear hp
  conv => whnf
  refine loop_rule (S57 s) (fun i => ((s.size : Int) - i).toNat) (fun i => 0 ≤ i ∧ i ≤ (s.size : Int) ∧ goodN lowB s i.toNat = true) ?_ 0 (by kernel_rfl) ?_ ⟨by omega, by omega, rfl⟩
  case refine_2 => rfl
  rintro i ⟨i0, i1, i2⟩
  conv => whnf
  refine cond_intro (fun h1 => ?_) (fun h1 => ?_)
  · have h1 : i < (s.size : Int) := @of_decide_eq_true _ _ h1
    conv => whnf
    refine ⟨i0, ?_⟩
    conv => whnf
    refine ⟨h1, ?_⟩
    conv => whnf
    refine cond_intro (fun h2 => ?_) (fun h2 => ?_)
    · have h2 : byteAt s i.toNat < 97 := @of_decide_eq_true _ _ h2
      conv => whnf
      show false = nameB s
      rw [name_bad (i := i.toNat) (by omega) (low_lo h2)]
    have h2 : ¬ (byteAt s i.toNat < 97) := @of_decide_eq_false _ _ h2
    conv => whnf
    refine ⟨i0, ?_⟩
    conv => whnf
    refine ⟨h1, ?_⟩
    conv => whnf
    refine cond_intro (fun h3 => ?_) (fun h3 => ?_)
    · have h3 : 122 < byteAt s i.toNat := @of_decide_eq_true _ _ h3
      conv => whnf
      show false = nameB s
      rw [name_bad (i := i.toNat) (by omega) (low_hi h3)]
    have h3 : ¬ (122 < byteAt s i.toNat) := @of_decide_eq_false _ _ h3
    have wi : IntKind.i64.wrap (i + 1) = i + 1 := wrap_eq (by omega) (by omega)
    have ei : (i + 1).toNat = i.toNat + 1 := by omega
    conv => whnf
    refine ⟨i + 1, ?_, ⟨by omega, by omega, ?_⟩, by omega⟩
    · exact Eq.trans (b := S57 s (IntKind.i64.wrap (i + 1))) rfl (by rw [wi])
    · rw [ei]; exact good_succ i2 (low_ok h2 h3)
  have h1 : ¬ (i < (s.size : Int)) := @of_decide_eq_false _ _ h1
  conv => whnf
  refine cond_intro (fun e1 => ?_) (fun e1 => ?_)
  · have e1 : 1 ≤ (s.size : Int) := @of_decide_eq_true _ _ e1
    conv => whnf
    show decide ((s.size : Int) ≤ 12) = nameB s
    rw [show i.toNat = s.size by omega] at i2
    rw [name_good i2, decide_eq_true e1]
    rfl
  have e1 : ¬ (1 ≤ (s.size : Int)) := @of_decide_eq_false _ _ e1
  conv => whnf
  show false = nameB s
  rw [name_small e1]
def S60 (s : ByteArray) (i : Int) : SL := ⟨[.str s, .undef, .undef, .undef, .undef, .int .i64 s.size, .int .i64 i, .undef, .undef, .undef, .undef, .undef, .undef, .undef, .undef, .undef, .undef, .undef, .undef, .undef, .undef, .undef, .undef, .undef, .undef, .undef, .undef, .undef], [], 0⟩
def E60 : Env := ⟨tab, [], fun n => match n with | 2 => some ([0, 5, 6], [], []) | _ => none⟩
def K60 : Fn1 := ⟨.one .str, .one .bool, fun (s : ByteArray) => [s.size ≤ 140737488351232], fun (s : ByteArray) => nameB s⟩
theorem k60 : FnOk Go.Proofs.Tryz.prog 60 K60 := by
  refine fn_ok (E := E60) (TOk.of tab_told) (fun f k h => by cases h) mix Go.Proofs.Tryz.func60 rfl rfl (by kernel_rfl) K60 ?_
  rintro (s : ByteArray) hp
  have hs : s.size ≤ 140737488351232 := hp _ (List.mem_cons_self ..)
  clear hp
  conv => whnf
  refine loop_rule (S60 s) (fun i => ((s.size : Int) - i).toNat) (fun i => 0 ≤ i ∧ i ≤ (s.size : Int) ∧ goodN lowB s i.toNat = true) ?_ 0 (by kernel_rfl) ?_ ⟨by omega, by omega, rfl⟩
  case refine_2 => rfl
  rintro i ⟨i0, i1, i2⟩
  conv => whnf
  refine cond_intro (fun h1 => ?_) (fun h1 => ?_)
  · have h1 : i < (s.size : Int) := @of_decide_eq_true _ _ h1
    conv => whnf
    refine ⟨i0, ?_⟩
    conv => whnf
    refine ⟨h1, ?_⟩
    conv => whnf
    refine cond_intro (fun h2 => ?_) (fun h2 => ?_)
    · have h2 : byteAt s i.toNat < 97 := @of_decide_eq_true _ _ h2
      conv => whnf
      show false = nameB s
      rw [name_bad (i := i.toNat) (by omega) (low_lo h2)]
    have h2 : ¬ (byteAt s i.toNat < 97) := @of_decide_eq_false _ _ h2
    conv => whnf
    refine ⟨i0, ?_⟩
    conv => whnf
    refine ⟨h1, ?_⟩
    conv => whnf
    refine cond_intro (fun h3 => ?_) (fun h3 => ?_)
    · have h3 : 122 < byteAt s i.toNat := @of_decide_eq_true _ _ h3
      conv => whnf
      show false = nameB s
      rw [name_bad (i := i.toNat) (by omega) (low_hi h3)]
    have h3 : ¬ (122 < byteAt s i.toNat) := @of_decide_eq_false _ _ h3
    have wi : IntKind.i64.wrap (i + 1) = i + 1 := wrap_eq (by omega) (by omega)
    have ei : (i + 1).toNat = i.toNat + 1 := by omega
    conv => whnf
    refine ⟨i + 1, ?_, ⟨by omega, by omega, ?_⟩, by omega⟩
    · exact Eq.trans (b := S60 s (IntKind.i64.wrap (i + 1))) rfl (by rw [wi])
    · rw [ei]; exact good_succ i2 (low_ok h2 h3)
  have h1 : ¬ (i < (s.size : Int)) := @of_decide_eq_false _ _ h1
  conv => whnf
  refine cond_intro (fun e1 => ?_) (fun e1 => ?_)
  · have e1 : 1 ≤ (s.size : Int) := @of_decide_eq_true _ _ e1
    conv => whnf
    show decide ((s.size : Int) ≤ 12) = nameB s
    rw [show i.toNat = s.size by omega] at i2
    rw [name_good i2, decide_eq_true e1]
    rfl
  have e1 : ¬ (1 ≤ (s.size : Int)) := @of_decide_eq_false _ _ e1
  conv => whnf
  show false = nameB s
  rw [name_small e1]
def S95 (s : ByteArray) (i : Int) : SL := ⟨[.str s, .undef, .undef, .undef, .undef, .int .i64 s.size, .int .i64 i, .undef, .undef, .undef, .undef, .undef, .undef, .undef, .undef, .undef, .undef, .undef, .undef, .undef, .undef, .undef, .undef, .undef, .undef, .undef, .undef], [], 0⟩
def E95 : Env := ⟨tab, [], fun n => match n with | 2 => some ([0, 5, 6], [], []) | _ => none⟩
def K95 : Fn1 := ⟨.one .str, .one .bool, fun (s : ByteArray) => [s.size ≤ 140737488351232], fun (s : ByteArray) => nameB s⟩
theorem k95 : FnOk Go.Proofs.Tryz.prog 95 K95 := by
  refine fn_ok (E := E95) (TOk.of tab_told) (fun f k h => by cases h) mix Go.Proofs.Tryz.func95 rfl rfl (by kernel_rfl) K95 ?_
  rintro (s : ByteArray) hp
  have hs : s.size ≤ 140737488351232 := hp _ (List.mem_cons_self ..)
  clear hp
  conv => whnf
  refine loop_rule (S95 s) (fun i => ((s.size : Int) - i).toNat) (fun i => 0 ≤ i ∧ i ≤ (s.size : Int) ∧ goodN lowB s i.toNat = true) ?_ 0 (by kernel_rfl) ?_ ⟨by omega, by omega, rfl⟩
  case refine_2 => rfl
  rintro i ⟨i0, i1, i2⟩
  conv => whnf
  refine cond_intro (fun h1 => ?_) (fun h1 => ?_)
  · have h1 : i < (s.size : Int) := @of_decide_eq_true _ _ h1
    conv => whnf
    refine ⟨i0, ?_⟩
    conv => whnf
    refine ⟨h1, ?_⟩
    conv => whnf
    refine cond_intro (fun h2 => ?_) (fun h2 => ?_)
    · have h2 : byteAt s i.toNat < 97 := @of_decide_eq_true _ _ h2
      conv => whnf
      show false = nameB s
      rw [name_bad (i := i.toNat) (by omega) (low_lo h2)]
    have h2 : ¬ (byteAt s i.toNat < 97) := @of_decide_eq_false _ _ h2
    conv => whnf
    refine ⟨i0, ?_⟩
    conv => whnf
    refine ⟨h1, ?_⟩
    conv => whnf
    refine cond_intro (fun h3 => ?_) (fun h3 => ?_)
    · have h3 : 122 < byteAt s i.toNat := @of_decide_eq_true _ _ h3
      conv => whnf
      show false = nameB s
      rw [name_bad (i := i.toNat) (by omega) (low_hi h3)]
    have h3 : ¬ (122 < byteAt s i.toNat) := @of_decide_eq_false _ _ h3
    have wi : IntKind.i64.wrap (i + 1) = i + 1 := wrap_eq (by omega) (by omega)
    have ei : (i + 1).toNat = i.toNat + 1 := by omega
    conv => whnf
    refine ⟨i + 1, ?_, ⟨by omega, by omega, ?_⟩, by omega⟩
    · exact Eq.trans (b := S95 s (IntKind.i64.wrap (i + 1))) rfl (by rw [wi])
    · rw [ei]; exact good_succ i2 (low_ok h2 h3)
  have h1 : ¬ (i < (s.size : Int)) := @of_decide_eq_false _ _ h1
  conv => whnf
  refine cond_intro (fun e1 => ?_) (fun e1 => ?_)
  · have e1 : (!((s.toList == ByteArray.toList ⟨#[]⟩))) = true := e1
    have e1 : ((s.toList == ByteArray.toList ⟨#[]⟩)) = false := by cases e : ((s.toList == ByteArray.toList ⟨#[]⟩)) with | false => rfl | true => exact absurd e1 (by rw [e]; decide)
    rw [tl_iff] at e1
    have e1 := of_decide_eq_false e1
    have e0 : 1 ≤ (s.size : Int) := by
      rcases Nat.eq_zero_or_pos s.size with h | h
      · exact absurd (by rw [← mk_bs s, show bs s = [] from List.length_eq_zero_iff.1 (by rw [bs_len]; exact h)]; rfl) e1
      · omega
    conv => whnf
    show decide ((s.size : Int) ≤ 12) = nameB s
    rw [show i.toNat = s.size by omega] at i2
    rw [name_good i2, decide_eq_true e0]
    rfl
  have e1 : (!((s.toList == ByteArray.toList ⟨#[]⟩))) = false := e1
  have e1 : ((s.toList == ByteArray.toList ⟨#[]⟩)) = true := by cases e : ((s.toList == ByteArray.toList ⟨#[]⟩)) with | true => rfl | false => exact absurd e1 (by rw [e]; decide)
  rw [tl_iff] at e1
  have e1 := of_decide_eq_true e1
  conv => whnf
  show false = nameB s
  subst e1
  rfl
def S96 (s : ByteArray) (i : Int) : SL := ⟨[.str s, .undef, .undef, .undef, .undef, .int .i64 s.size, .int .i64 i, .undef, .undef, .undef, .undef, .undef, .undef, .undef, .undef, .undef, .undef, .undef, .undef, .undef, .undef, .undef, .undef, .undef, .undef, .undef, .undef], [], 0⟩
def E96 : Env := ⟨tab, [], fun n => match n with | 2 => some ([0, 5, 6], [], []) | _ => none⟩
def K96 : Fn1 := ⟨.one .str, .one .bool, fun (s : ByteArray) => [s.size ≤ 140737488351232], fun (s : ByteArray) => nameB s⟩
theorem k96 : FnOk Go.Proofs.Tryz.prog 96 K96 := by
  refine fn_ok (E := E96) (TOk.of tab_told) (fun f k h => by cases h) mix Go.Proofs.Tryz.func96 rfl rfl (by kernel_rfl) K96 ?_
  rintro (s : ByteArray) hp
  have hs : s.size ≤ 140737488351232 := hp _ (List.mem_cons_self ..)
  clear hp
  conv => whnf
  refine loop_rule (S96 s) (fun i => ((s.size : Int) - i).toNat) (fun i => 0 ≤ i ∧ i ≤ (s.size : Int) ∧ goodN lowB s i.toNat = true) ?_ 0 (by kernel_rfl) ?_ ⟨by omega, by omega, rfl⟩
  case refine_2 => rfl
  rintro i ⟨i0, i1, i2⟩
  conv => whnf
  refine cond_intro (fun h1 => ?_) (fun h1 => ?_)
  · have h1 : i < (s.size : Int) := @of_decide_eq_true _ _ h1
    conv => whnf
    refine ⟨i0, ?_⟩
    conv => whnf
    refine ⟨h1, ?_⟩
    conv => whnf
    refine cond_intro (fun h2 => ?_) (fun h2 => ?_)
    · have h2 : byteAt s i.toNat < 97 := @of_decide_eq_true _ _ h2
      conv => whnf
      show false = nameB s
      rw [name_bad (i := i.toNat) (by omega) (low_lo h2)]
    have h2 : ¬ (byteAt s i.toNat < 97) := @of_decide_eq_false _ _ h2
    conv => whnf
    refine ⟨i0, ?_⟩
    conv => whnf
    refine ⟨h1, ?_⟩
    conv => whnf
    refine cond_intro (fun h3 => ?_) (fun h3 => ?_)
    · have h3 : 122 < byteAt s i.toNat := @of_decide_eq_true _ _ h3
      conv => whnf
      show false = nameB s
      rw [name_bad (i := i.toNat) (by omega) (low_hi h3)]
    have h3 : ¬ (122 < byteAt s i.toNat) := @of_decide_eq_false _ _ h3
    have wi : IntKind.i64.wrap (i + 1) = i + 1 := wrap_eq (by omega) (by omega)
    have ei : (i + 1).toNat = i.toNat + 1 := by omega
    conv => whnf
    refine ⟨i + 1, ?_, ⟨by omega, by omega, ?_⟩, by omega⟩
    · exact Eq.trans (b := S96 s (IntKind.i64.wrap (i + 1))) rfl (by rw [wi])
    · rw [ei]; exact good_succ i2 (low_ok h2 h3)
  have h1 : ¬ (i < (s.size : Int)) := @of_decide_eq_false _ _ h1
  conv => whnf
  refine cond_intro (fun e1 => ?_) (fun e1 => ?_)
  · have e1 : (!((s.toList == ByteArray.toList ⟨#[]⟩))) = true := e1
    have e1 : ((s.toList == ByteArray.toList ⟨#[]⟩)) = false := by cases e : ((s.toList == ByteArray.toList ⟨#[]⟩)) with | false => rfl | true => exact absurd e1 (by rw [e]; decide)
    rw [tl_iff] at e1
    have e1 := of_decide_eq_false e1
    have e0 : 1 ≤ (s.size : Int) := by
      rcases Nat.eq_zero_or_pos s.size with h | h
      · exact absurd (by rw [← mk_bs s, show bs s = [] from List.length_eq_zero_iff.1 (by rw [bs_len]; exact h)]; rfl) e1
      · omega
    conv => whnf
    show decide ((s.size : Int) ≤ 12) = nameB s
    rw [show i.toNat = s.size by omega] at i2
    rw [name_good i2, decide_eq_true e0]
    rfl
  have e1 : (!((s.toList == ByteArray.toList ⟨#[]⟩))) = false := e1
  have e1 : ((s.toList == ByteArray.toList ⟨#[]⟩)) = true := by cases e : ((s.toList == ByteArray.toList ⟨#[]⟩)) with | true => rfl | false => exact absurd e1 (by rw [e]; decide)
  rw [tl_iff] at e1
  have e1 := of_decide_eq_true e1
  conv => whnf
  show false = nameB s
  subst e1
  rfl
def S66 (s : ByteArray) (i : Int) : SL := ⟨[.str s, .undef, .undef, .int .i64 i, .undef, .undef, .undef, .undef, .undef, .undef, .undef, .undef, .undef, .undef, .undef, .undef, .undef, .undef, .undef, .undef, .undef, .undef, .undef, .undef, .undef, .undef, .undef, .undef], [], 0⟩
def E66 : Env := ⟨tab, [], fun n => match n with | 4 => some ([0, 3], [], []) | _ => none⟩
def K66 : Fn1 := ⟨.one .str, .one .bool, fun _ => [], fun (s : ByteArray) => nameB s⟩
theorem k66 : FnOk Go.Proofs.Tryz.prog 66 K66 := by
  refine fn_ok (E := E66) (TOk.of tab_told) (fun f k h => by cases h) mix Go.Proofs.Tryz.func66 rfl rfl (by kernel_rfl) K66 ?_
  rintro (s : ByteArray) hp
  clear hp
  conv => whnf
  refine cond_intro (fun e1 => ?_) (fun e1 => ?_)
  · have e1 : (s.size : Int) < 1 := @of_decide_eq_true _ _ e1
    conv => whnf
    show false = nameB s
    rw [name_small (by omega)]
  have e1 : ¬ ((s.size : Int) < 1) := @of_decide_eq_false _ _ e1
  conv => whnf
  refine cond_intro (fun e2 => ?_) (fun e2 => ?_)
  · have e2 : 12 < (s.size : Int) := @of_decide_eq_true _ _ e2
    conv => whnf
    show false = nameB s
    rw [name_large (by omega)]
  have e2 : ¬ (12 < (s.size : Int)) := @of_decide_eq_false _ _ e2
  conv => whnf
  refine loop_rule (S66 s) (fun i => ((s.size : Int) - i).toNat) (fun i => 0 ≤ i ∧ i ≤ (s.size : Int) ∧ goodN lowB s i.toNat = true) ?_ 0 (by kernel_rfl) ?_ ⟨by omega, by omega, rfl⟩
  case refine_2 => rfl
  rintro i ⟨i0, i1, i2⟩
  conv => whnf
  refine cond_intro (fun h1 => ?_) (fun h1 => ?_)
  · have h1 : i < (s.size : Int) := @of_decide_eq_true _ _ h1
    conv => whnf
    refine ⟨i0, ?_⟩
    conv => whnf
    refine ⟨h1, ?_⟩
    conv => whnf
    refine cond_intro (fun h2 => ?_) (fun h2 => ?_)
    · have h2 : byteAt s i.toNat < 97 := @of_decide_eq_true _ _ h2
      conv => whnf
      show false = nameB s
      rw [name_bad (i := i.toNat) (by omega) (low_lo h2)]
    have h2 : ¬ (byteAt s i.toNat < 97) := @of_decide_eq_false _ _ h2
    conv => whnf
    refine ⟨i0, ?_⟩
    conv => whnf
    refine ⟨h1, ?_⟩
    conv => whnf
    refine cond_intro (fun h3 => ?_) (fun h3 => ?_)
    · have h3 : 122 < byteAt s i.toNat := @of_decide_eq_true _ _ h3
      conv => whnf
      show false = nameB s
      rw [name_bad (i := i.toNat) (by omega) (low_hi h3)]
    have h3 : ¬ (122 < byteAt s i.toNat) := @of_decide_eq_false _ _ h3
    have wi : IntKind.i64.wrap (i + 1) = i + 1 := wrap_eq (by omega) (by omega)
    have ei : (i + 1).toNat = i.toNat + 1 := by omega
    conv => whnf
    refine ⟨i + 1, ?_, ⟨by omega, by omega, ?_⟩, by omega⟩
    · exact Eq.trans (b := S66 s (IntKind.i64.wrap (i + 1))) rfl (by rw [wi])
    · rw [ei]; exact good_succ i2 (low_ok h2 h3)
  have h1 : ¬ (i < (s.size : Int)) := @of_decide_eq_false _ _ h1
  conv => whnf
  show true = nameB s
  rw [show i.toNat = s.size by omega] at i2
  rw [name_good i2, decide_eq_true (by omega), decide_eq_true (by omega)]
  rfl
def S98 (s : ByteArray) (i : Int) : SL := ⟨[.str s, .undef, .undef, .int .i64 i, .undef, .undef, .undef, .undef, .undef, .undef, .undef, .undef, .undef, .undef, .undef, .undef, .undef, .undef, .undef, .undef, .undef, .undef, .undef, .undef, .undef, .undef, .undef, .undef], [], 0⟩
def E98 : Env := ⟨tab, [], fun n => match n with | 4 => some ([0, 3], [], []) | _ => none⟩
def K98 : Fn1 := ⟨.one .str, .one .bool, fun _ => [], fun (s : ByteArray) => nameB s⟩
theorem k98 : FnOk Go.Proofs.Tryz.prog 98 K98 := by
  refine fn_ok (E := E98) (TOk.of tab_told) (fun f k h => by cases h) mix Go.Proofs.Tryz.func98 rfl rfl (by kernel_rfl) K98 ?_
  rintro (s : ByteArray) hp
  clear hp
  conv => whnf
  refine cond_intro (fun e1 => ?_) (fun e1 => ?_)
  · have e1 : (s.size : Int) < 1 := @of_decide_eq_true _ _ e1
    conv => whnf
    show false = nameB s
    rw [name_small (by omega)]
  have e1 : ¬ ((s.size : Int) < 1) := @of_decide_eq_false _ _ e1
  conv => whnf
  refine cond_intro (fun e2 => ?_) (fun e2 => ?_)
  · have e2 : 12 < (s.size : Int) := @of_decide_eq_true _ _ e2
    conv => whnf
    show false = nameB s
    rw [name_large (by omega)]
  have e2 : ¬ (12 < (s.size : Int)) := @of_decide_eq_false _ _ e2
  conv => whnf
  refine loop_rule (S98 s) (fun i => ((s.size : Int) - i).toNat) (fun i => 0 ≤ i ∧ i ≤ (s.size : Int) ∧ goodN lowB s i.toNat = true) ?_ 0 (by kernel_rfl) ?_ ⟨by omega, by omega, rfl⟩
  case refine_2 => rfl
  rintro i ⟨i0, i1, i2⟩
  conv => whnf
  refine cond_intro (fun h1 => ?_) (fun h1 => ?_)
  · have h1 : i < (s.size : Int) := @of_decide_eq_true _ _ h1
    conv => whnf
    refine ⟨i0, ?_⟩
    conv => whnf
    refine ⟨h1, ?_⟩
    conv => whnf
    refine cond_intro (fun h2 => ?_) (fun h2 => ?_)
    · have h2 : byteAt s i.toNat < 97 := @of_decide_eq_true _ _ h2
      conv => whnf
      show false = nameB s
      rw [name_bad (i := i.toNat) (by omega) (low_lo h2)]
    have h2 : ¬ (byteAt s i.toNat < 97) := @of_decide_eq_false _ _ h2
    conv => whnf
    refine ⟨i0, ?_⟩
    conv => whnf
    refine ⟨h1, ?_⟩
    conv => whnf
    refine cond_intro (fun h3 => ?_) (fun h3 => ?_)
    · have h3 : 122 < byteAt s i.toNat := @of_decide_eq_true _ _ h3
      conv => whnf
      show false = nameB s
      rw [name_bad (i := i.toNat) (by omega) (low_hi h3)]
    have h3 : ¬ (122 < byteAt s i.toNat) := @of_decide_eq_false _ _ h3
    have wi : IntKind.i64.wrap (i + 1) = i + 1 := wrap_eq (by omega) (by omega)
    have ei : (i + 1).toNat = i.toNat + 1 := by omega
    conv => whnf
    refine ⟨i + 1, ?_, ⟨by omega, by omega, ?_⟩, by omega⟩
    · exact Eq.trans (b := S98 s (IntKind.i64.wrap (i + 1))) rfl (by rw [wi])
    · rw [ei]; exact good_succ i2 (low_ok h2 h3)
  have h1 : ¬ (i < (s.size : Int)) := @of_decide_eq_false _ _ h1
  conv => whnf
  show true = nameB s
  rw [show i.toNat = s.size by omega] at i2
  rw [name_good i2, decide_eq_true (by omega), decide_eq_true (by omega)]
  rfl
def E51 : Env := ⟨tab, [(54, K54), (92, K92)], fun n => match n with  | _ => none⟩
def K51 : Fn1 := ⟨.one .str, .one .bool, fun (s : ByteArray) => [s.size ≤ 140737488351232], fun (s : ByteArray) => namedB s⟩
theorem k51 : FnOk Go.Proofs.Tryz.prog 51 K51 := by
  refine fn_ok (E := E51) (TOk.of tab_told) (AllOk.cons k54 (.cons k92 .nil)).at_ mix Go.Proofs.Tryz.func51 rfl rfl (by kernel_rfl) K51 ?_
  rintro (s : ByteArray) hp
  have hs : s.size ≤ 140737488351232 := hp _ (List.mem_cons_self ..)
  clear hp
  conv => whnf
  refine cond_intro (fun e1 => ?_) (fun e1 => ?_)
  · have e1 : 1 ≤ (s.size : Int) := @of_decide_eq_true _ _ e1
    conv => whnf
    refine cond_intro (fun e2 => ?_) (fun e2 => ?_)
    · have e2 : (s.size : Int) ≤ 12 := @of_decide_eq_true _ _ e2
      conv => whnf
      refine ⟨hs, ?_⟩
      conv => whnf
      refine cond_intro (fun e3 => ?_) (fun e3 => ?_)
      · have e3 : (lettersN s : Int) = (s.size : Int) := @of_decide_eq_true _ _ e3
        have hg := letters_all (s := s)
        rw [decide_eq_true e3] at hg
        conv => whnf
        show (!resB s) = namedB s
        unfold namedB
        rw [name_good hg.symm, decide_eq_true e1, decide_eq_true e2]
        rfl
      have e3 : ¬ ((lettersN s : Int) = (s.size : Int)) := @of_decide_eq_false _ _ e3
      have hg := letters_all (s := s)
      rw [decide_eq_false e3] at hg
      conv => whnf
      show false = namedB s
      unfold namedB nameB
      rw [← hg]
      simp
    have e2 : ¬ ((s.size : Int) ≤ 12) := @of_decide_eq_false _ _ e2
    conv => whnf
    show false = namedB s
    unfold namedB
    rw [name_large e2]
    rfl
  have e1 : ¬ (1 ≤ (s.size : Int)) := @of_decide_eq_false _ _ e1
  conv => whnf
  show false = namedB s
  unfold namedB
  rw [name_small e1]
  rfl
def E64 : Env := ⟨tab, [(98, K98), (65, K65)], fun n => match n with  | _ => none⟩
def K64 : Fn1 := ⟨.one .str, .one .bool, fun _ => [], fun (s : ByteArray) => namedB s⟩
theorem k64 : FnOk Go.Proofs.Tryz.prog 64 K64 := by
  refine fn_ok (E := E64) (TOk.of tab_told) (AllOk.cons k98 (.cons k65 .nil)).at_ mix Go.Proofs.Tryz.func64 rfl rfl (by kernel_rfl) K64 ?_
  rintro (s : ByteArray) hp
  clear hp
  conv => whnf
  refine cond_intro (fun e1 => ?_) (fun e1 => ?_)
  · have e1 : (nameB s) = true := e1
    conv => whnf
    show (!resB s) = namedB s
    unfold namedB
    rw [e1]
    rfl
  have e1 : (nameB s) = false := e1
  conv => whnf
  show false = namedB s
  unfold namedB
  rw [e1]
  rfl
end
end Go.Proofs.YtaafjaibaaiigaaGreatDoor.Eng
set_option linter.unusedVariables false
set_option linter.unusedSimpArgs false
namespace Go.Proofs.YtaafjaibaaiigaaGreatDoor.Eng
open Go
set_option maxRecDepth 100000
noncomputable section
/-- Within bounds. -/
def inB (n a b : Int) : Bool := decide (a ≤ n) && decide (n ≤ b)
theorem in_lo {n a b : Int} (h : ¬ a ≤ n) : inB n a b = false := by unfold inB; rw [decide_eq_false h]; rfl
theorem in_hi {n a b : Int} (h : ¬ n ≤ b) : inB n a b = false := by unfold inB; rw [decide_eq_false h, Bool.and_false]
theorem in_ok {n a b : Int} (h : a ≤ n) (g : n ≤ b) : inB n a b = true := by unfold inB; rw [decide_eq_true h, decide_eq_true g]; rfl
theorem in_iff {n a b : Int} : inB n a b = true ↔ a ≤ n ∧ n ≤ b := by unfold inB; simp
def allIn (a b : Int) (l : List Int) : Nat → Bool
  | 0 => true
  | n + 1 => allIn a b l n && inB (gI l n) a b
theorem allIn_bad {a b : Int} {l : List Int} : ∀ {n i : Nat}, i < n → inB (gI l i) a b = false → allIn a b l n = false
  | 0, i, h, _ => by omega
  | n + 1, i, h, e => by
    unfold allIn
    by_cases hi : i = n
    · subst hi; rw [e, Bool.and_false]
    · rw [allIn_bad (by omega) e, Bool.false_and]
theorem allIn_succ {a b : Int} {l : List Int} {n : Nat} (h : allIn a b l n = true) (e : inB (gI l n) a b = true) : allIn a b l (n + 1) = true := by unfold allIn; rw [h, e]; rfl
theorem allIn_at {a b : Int} {l : List Int} : ∀ {n i : Nat}, allIn a b l n = true → i < n → inB (gI l i) a b = true
  | 0, i, _, h => by omega
  | n + 1, i, h, e => by
    unfold allIn at h
    rw [Bool.and_eq_true] at h
    by_cases hi : i = n
    · subst hi; exact h.2
    · exact allIn_at h.1 (by omega)
def MV : Int := 2147483647
/-- Kept within the bounds of values. -/
def keptR (n : Int) : Int := max2 (-2147483647) (min2 n 2147483647)
theorem kept_eq {n : Int} (h : -2147483647 ≤ n ∧ n ≤ 2147483647) : keptR n = n := by unfold keptR max2 min2; split <;> split <;> omega
theorem kept_in (n : Int) : -2147483647 ≤ keptR n ∧ keptR n ≤ 2147483647 := by unfold keptR max2 min2; split <;> split <;> omega
theorem kept_same (n : Int) : min2 (max2 n (-2147483647)) 2147483647 = keptR n := by unfold keptR max2 min2; repeat' split <;> omega
theorem kept_iff (n : Int) : n = keptR n ↔ -2147483647 ≤ n ∧ n ≤ 2147483647 := ⟨fun h => by have := kept_in n; omega, fun h => (kept_eq h).symm⟩
def trR (b : Bool) : Int := match b with | true => 1 | false => 0
/-- What a step makes of two numbers, as the program reckons. -/
def twoP (k a b : Int) : Int := if k = 2 then a + b else if k = 3 then a - b else if k = 4 then a * b else if k = 7 then trR (decide (a < b)) else if k = 8 then trR (decide (a = b)) else if k = 11 then min2 a b else if k = 12 then max2 a b else if b = 0 then 0 else if k = 5 then a.tdiv b else a.tmod b
def twoK (k a b : Int) : Int := if k = 2 then keptR (a + b) else if k = 3 then keptR (a - b) else if k = 4 then keptR (a * b) else if k = 5 then (if b = 0 then 0 else a.tdiv b) else if k = 6 then (if b = 0 then 0 else a.tmod b) else if k = 7 then trR (decide (a < b)) else if k = 8 then trR (decide (a = b)) else if k = 11 then min2 a b else max2 a b
def isV (n : Int) : Prop := -2147483647 ≤ n ∧ n ≤ 2147483647
theorem mul_bd {a b : Int} (ha : isV a) (hb : isV b) : -4611686014132420609 ≤ a * b ∧ a * b ≤ 4611686014132420609 := by
  have h1 : (a * b).natAbs = a.natAbs * b.natAbs := Int.natAbs_mul a b
  have h2 : a.natAbs ≤ 2147483647 := by unfold isV at ha; omega
  have h3 : b.natAbs ≤ 2147483647 := by unfold isV at hb; omega
  have h4 : a.natAbs * b.natAbs ≤ 2147483647 * 2147483647 := Nat.mul_le_mul h2 h3
  omega
theorem tdiv_bd {a b : Int} (ha : isV a) : isV (a.tdiv b) := by
  have h1 : (a.tdiv b).natAbs = a.natAbs / b.natAbs := Int.natAbs_tdiv a b
  have h2 : a.natAbs / b.natAbs ≤ a.natAbs := Nat.div_le_self _ _
  unfold isV at *
  omega
theorem tmod_bd {a b : Int} (ha : isV a) : isV (a.tmod b) := by
  have h1 : (a.tmod b).natAbs = a.natAbs % b.natAbs := Int.natAbs_tmod a b
  have h2 : a.natAbs % b.natAbs ≤ a.natAbs := Nat.mod_le _ _
  unfold isV at *
  omega
theorem tr_bd (b : Bool) : isV (trR b) := by
  cases b
  · exact (⟨by decide, by decide⟩ : -2147483647 ≤ (0 : Int) ∧ (0 : Int) ≤ 2147483647)
  · exact (⟨by decide, by decide⟩ : -2147483647 ≤ (1 : Int) ∧ (1 : Int) ≤ 2147483647)
theorem min_bd {a b : Int} (ha : isV a) (hb : isV b) : isV (min2 a b) := by unfold min2; split <;> assumption
theorem max_bd {a b : Int} (ha : isV a) (hb : isV b) : isV (max2 a b) := by unfold max2; split <;> assumption
theorem isV0 : isV 0 := by unfold isV; omega
theorem two_same {k a b : Int} (hk : (2 ≤ k ∧ k ≤ 8) ∨ k = 11 ∨ k = 12) (ha : isV a) (hb : isV b) : keptR (twoP k a b) = twoK k a b := by
  have ke : ∀ n, isV n → keptR n = n := fun n h => kept_eq h
  have h : k = 2 ∨ k = 3 ∨ k = 4 ∨ k = 5 ∨ k = 6 ∨ k = 7 ∨ k = 8 ∨ k = 11 ∨ k = 12 := by omega
  rcases h with rfl | rfl | rfl | rfl | rfl | rfl | rfl | rfl | rfl
  · rfl
  · rfl
  · rfl
  · show keptR (if b = 0 then 0 else a.tdiv b) = if b = 0 then 0 else a.tdiv b
    split
    · exact ke _ isV0
    · exact ke _ (tdiv_bd ha)
  · show keptR (if b = 0 then 0 else a.tmod b) = if b = 0 then 0 else a.tmod b
    split
    · exact ke _ isV0
    · exact ke _ (tmod_bd ha)
  · exact ke _ (tr_bd _)
  · exact ke _ (tr_bd _)
  · exact ke _ (min_bd ha hb)
  · exact ke _ (max_bd ha hb)
theorem twoK_bd {k a b : Int} (ha : isV a) (hb : isV b) : isV (twoK k a b) := by
  unfold twoK
  repeat' split
  all_goals first | exact kept_in _ | exact isV0 | exact tdiv_bd ha | exact tmod_bd ha | exact tr_bd _ | exact min_bd ha hb | exact max_bd ha hb
/-- How many numbers a step takes. -/
def popR (r : List Ru) (o : Op2) : Int := if o.1 = 0 ∨ o.1 = 1 then 0 else if o.1 = 9 then 3 else if o.1 = 10 then (gR r o.2.toNat).2.1 else 2
def popOk (r : List Ru) (o : Op2) : Prop := o.1 = 10 → 0 ≤ o.2 ∧ o.2 < (r.length : Int)
/-- Is it a step, where some rules may be called and there are some arguments? -/
def knB (o : Op2) (before args : Int) : Bool := if o.1 = 0 then inB o.2 (-2147483647) 2147483647 else if o.1 = 1 then decide (0 ≤ o.2) && decide (o.2 < args) else if o.1 = 10 then decide (0 ≤ o.2) && decide (o.2 < before) else decide (0 < o.1) && (decide (o.1 < 13) && decide (o.2 = 0))
def E58 : Env := ⟨tab, [], fun n => match n with  | _ => none⟩
def K58 : Fn1 := ⟨.fld I (.one I), .one .bool, fun _ => [], fun (a : Int × Int) => inB a.1 0 a.2⟩
theorem k58 : FnOk Go.Proofs.Tryz.prog 58 K58 := by
  refine fn_ok (E := E58) (TOk.of tab_told) (fun f k h => by cases h) mix Go.Proofs.Tryz.func58 rfl rfl (by kernel_rfl) K58 ?_
  rintro ⟨(n : Int), (m : Int)⟩ hp
  clear hp
  conv => whnf
  refine cond_intro (fun h1 => ?_) (fun h1 => ?_)
  · have h1 : 0 ≤ n := @of_decide_eq_true _ _ h1
    conv => whnf
    show decide (n ≤ m) = inB n 0 m
    unfold inB
    rw [decide_eq_true h1]
    rfl
  have h1 : ¬ (0 ≤ n) := @of_decide_eq_false _ _ h1
  conv => whnf
  show false = inB n 0 m
  rw [in_lo h1]
def E61 : Env := ⟨tab, [], fun n => match n with  | _ => none⟩
def K61 : Fn1 := ⟨.fld I (.one I), .one .bool, fun _ => [], fun (a : Int × Int) => inB a.1 0 a.2⟩
theorem k61 : FnOk Go.Proofs.Tryz.prog 61 K61 := by
  refine fn_ok (E := E61) (TOk.of tab_told) (fun f k h => by cases h) mix Go.Proofs.Tryz.func61 rfl rfl (by kernel_rfl) K61 ?_
  rintro ⟨(n : Int), (m : Int)⟩ hp
  clear hp
  conv => whnf
  refine cond_intro (fun h1 => ?_) (fun h1 => ?_)
  · have h1 : 0 ≤ n := @of_decide_eq_true _ _ h1
    conv => whnf
    show decide (n ≤ m) = inB n 0 m
    unfold inB
    rw [decide_eq_true h1]
    rfl
  have h1 : ¬ (0 ≤ n) := @of_decide_eq_false _ _ h1
  conv => whnf
  show false = inB n 0 m
  rw [in_lo h1]
def E67 : Env := ⟨tab, [], fun n => match n with  | _ => none⟩
def K67 : Fn1 := ⟨.fld I (.one I), .one .bool, fun _ => [], fun (a : Int × Int) => !(inB a.1 0 a.2)⟩
theorem k67 : FnOk Go.Proofs.Tryz.prog 67 K67 := by
  refine fn_ok (E := E67) (TOk.of tab_told) (fun f k h => by cases h) mix Go.Proofs.Tryz.func67 rfl rfl (by kernel_rfl) K67 ?_
  rintro ⟨(n : Int), (m : Int)⟩ hp
  clear hp
  conv => whnf
  refine cond_intro (fun h1 => ?_) (fun h1 => ?_)
  · have h1 : n < 0 := @of_decide_eq_true _ _ h1
    conv => whnf
    show true = !(inB n 0 m)
    rw [in_lo (by omega)]
    rfl
  have h1 : ¬ (n < 0) := @of_decide_eq_false _ _ h1
  conv => whnf
  show decide (m < n) = !(inB n 0 m)
  by_cases h2 : n ≤ m
  · rw [in_ok (by omega) h2, decide_eq_false (by omega)]; rfl
  · rw [in_hi h2, decide_eq_true (by omega)]; rfl
def E99 : Env := ⟨tab, [], fun n => match n with  | _ => none⟩
def K99 : Fn1 := ⟨.fld I (.fld I (.one I)), .one .bool, fun _ => [], fun (a : Int × Int × Int) => inB a.1 a.2.1 a.2.2⟩
theorem k99 : FnOk Go.Proofs.Tryz.prog 99 K99 := by
  refine fn_ok (E := E99) (TOk.of tab_told) (fun f k h => by cases h) mix Go.Proofs.Tryz.func99 rfl rfl (by kernel_rfl) K99 ?_
  rintro ⟨(n : Int), (a : Int), (b : Int)⟩ hp
  clear hp
  conv => whnf
  refine cond_intro (fun h1 => ?_) (fun h1 => ?_)
  · have h1 : a ≤ n := @of_decide_eq_true _ _ h1
    conv => whnf
    show decide (n ≤ b) = inB n a b
    unfold inB
    rw [decide_eq_true h1]
    rfl
  have h1 : ¬ (a ≤ n) := @of_decide_eq_false _ _ h1
  conv => whnf
  show false = inB n a b
  rw [in_lo h1]
def E100 : Env := ⟨tab, [], fun n => match n with  | _ => none⟩
def K100 : Fn1 := ⟨.fld I (.fld I (.one I)), .one .bool, fun _ => [], fun (a : Int × Int × Int) => inB a.1 a.2.1 a.2.2⟩
theorem k100 : FnOk Go.Proofs.Tryz.prog 100 K100 := by
  refine fn_ok (E := E100) (TOk.of tab_told) (fun f k h => by cases h) mix Go.Proofs.Tryz.func100 rfl rfl (by kernel_rfl) K100 ?_
  rintro ⟨(n : Int), (a : Int), (b : Int)⟩ hp
  clear hp
  conv => whnf
  refine cond_intro (fun h1 => ?_) (fun h1 => ?_)
  · have h1 : a ≤ n := @of_decide_eq_true _ _ h1
    conv => whnf
    show decide (n ≤ b) = inB n a b
    unfold inB
    rw [decide_eq_true h1]
    rfl
  have h1 : ¬ (a ≤ n) := @of_decide_eq_false _ _ h1
  conv => whnf
  show false = inB n a b
  rw [in_lo h1]
def S97 (a b : Int) (l : List Int) (i : Int) : SL := ⟨[.int .i64 a, .int .i64 b, .undef, .undef, .undef, .undef, .undef, .undef, .undef, .sl I l, .int .i64 l.length, .int .i64 i, .undef, .undef, .undef, .undef, .undef, .undef, .undef, .undef, .undef, .undef, .undef, .undef], [], 0⟩
def E97 : Env := ⟨tab, [], fun n => match n with | 2 => some ([0, 1, 9, 10, 11], [], []) | _ => none⟩
def K97 : Fn1 := ⟨.fld I (.fld I (.one (.sl I))), .one .bool, fun (a : Int × Int × List Int) => [a.2.2.length ≤ 140737488351232], fun (a : Int × Int × List Int) => allIn a.1 a.2.1 a.2.2 a.2.2.length⟩
theorem k97 : FnOk Go.Proofs.Tryz.prog 97 K97 := by
  refine fn_ok (E := E97) (TOk.of tab_told) (fun f k h => by cases h) mix Go.Proofs.Tryz.func97 rfl rfl (by kernel_rfl) K97 ?_
  rintro ⟨(a : Int), (b : Int), (l : List Int)⟩ hp
  have hl : l.length ≤ 140737488351232 := hp _ (List.mem_cons_self ..)
  clear hp
  conv => whnf
  refine loop_rule (S97 a b l) (fun i => ((l.length : Int) - i).toNat) (fun i => 0 ≤ i ∧ i ≤ (l.length : Int) ∧ allIn a b l i.toNat = true) ?_ 0 (by kernel_rfl) ?_ ⟨by omega, by omega, rfl⟩
  case refine_2 => rfl
  rintro i ⟨i0, i1, i2⟩
  conv => whnf
  refine cond_intro (fun h1 => ?_) (fun h1 => ?_)
  · have h1 : i < (l.length : Int) := @of_decide_eq_true _ _ h1
    conv => whnf
    refine ⟨i0, ?_⟩
    conv => whnf
    refine ⟨h1, ?_⟩
    conv => whnf
    refine cond_intro (fun h2 => ?_) (fun h2 => ?_)
    · have h2 : gI l i.toNat < a := @of_decide_eq_true _ _ h2
      conv => whnf
      show false = allIn a b l l.length
      rw [allIn_bad (i := i.toNat) (by omega) (in_lo (by omega))]
    have h2 : ¬ (gI l i.toNat < a) := @of_decide_eq_false _ _ h2
    conv => whnf
    refine cond_intro (fun h3 => ?_) (fun h3 => ?_)
    · have h3 : b < gI l i.toNat := @of_decide_eq_true _ _ h3
      conv => whnf
      show false = allIn a b l l.length
      rw [allIn_bad (i := i.toNat) (by omega) (in_hi (by omega))]
    have h3 : ¬ (b < gI l i.toNat) := @of_decide_eq_false _ _ h3
    have wi : IntKind.i64.wrap (i + 1) = i + 1 := wrap_eq (by omega) (by omega)
    have ei : (i + 1).toNat = i.toNat + 1 := by omega
    conv => whnf
    refine ⟨i + 1, ?_, ⟨by omega, by omega, ?_⟩, by omega⟩
    · exact Eq.trans (b := S97 a b l (IntKind.i64.wrap (i + 1))) rfl (by rw [wi])
    · rw [ei]; exact allIn_succ i2 (in_ok (by omega) (by omega))
  have h1 : ¬ (i < (l.length : Int)) := @of_decide_eq_false _ _ h1
  conv => whnf
  show true = allIn a b l l.length
  rw [show i.toNat = l.length by omega] at i2
  exact i2.symm
def E72 : Env := ⟨tab, [], fun n => match n with  | _ => none⟩
def K72 : Fn1 := ⟨.one I, .one I, fun _ => [], fun (n : Int) => keptR n⟩
theorem k72 : FnOk Go.Proofs.Tryz.prog 72 K72 := by
  refine fn_ok (E := E72) (TOk.of tab_told) (fun f k h => by cases h) mix Go.Proofs.Tryz.func72 rfl rfl (by kernel_rfl) K72 ?_
  rintro (n : Int) hp
  clear hp
  conv => whnf
  show keptR n = keptR n
  rfl
def E102 : Env := ⟨tab, [], fun n => match n with  | _ => none⟩
def K102 : Fn1 := ⟨.one I, .one I, fun _ => [], fun (n : Int) => keptR n⟩
theorem k102 : FnOk Go.Proofs.Tryz.prog 102 K102 := by
  refine fn_ok (E := E102) (TOk.of tab_told) (fun f k h => by cases h) mix Go.Proofs.Tryz.func102 rfl rfl (by kernel_rfl) K102 ?_
  rintro (n : Int) hp
  clear hp
  conv => whnf
  show min2 (max2 n (-2147483647)) 2147483647 = keptR n
  exact kept_same n
def E80 : Env := ⟨tab, [], fun n => match n with  | _ => none⟩
def K80 : Fn1 := ⟨.one .bool, .one I, fun _ => [], fun (b : Bool) => trR b⟩
theorem k80 : FnOk Go.Proofs.Tryz.prog 80 K80 := by
  refine fn_ok (E := E80) (TOk.of tab_told) (fun f k h => by cases h) mix Go.Proofs.Tryz.func80 rfl rfl (by kernel_rfl) K80 ?_
  rintro (b : Bool) hp
  clear hp
  conv => whnf
  refine cond_intro (fun h1 => ?_) (fun h1 => ?_)
  · have h1 : (b) = true := h1
    conv => whnf
    show (1 : Int) = trR b
    rw [h1]
    rfl
  have h1 : (b) = false := h1
  conv => whnf
  show (0 : Int) = trR b
  rw [h1]
  rfl
def E103 : Env := ⟨tab, [], fun n => match n with  | _ => none⟩
def K103 : Fn1 := ⟨.one .bool, .one I, fun _ => [], fun (b : Bool) => trR b⟩
theorem k103 : FnOk Go.Proofs.Tryz.prog 103 K103 := by
  refine fn_ok (E := E103) (TOk.of tab_told) (fun f k h => by cases h) mix Go.Proofs.Tryz.func103 rfl rfl (by kernel_rfl) K103 ?_
  rintro (b : Bool) hp
  clear hp
  conv => whnf
  refine cond_intro (fun h1 => ?_) (fun h1 => ?_)
  · have h1 : (b) = true := h1
    conv => whnf
    show (1 : Int) = trR b
    rw [h1]
    rfl
  have h1 : (b) = false := h1
  conv => whnf
  show (0 : Int) = trR b
  rw [h1]
  rfl
def E81 : Env := ⟨tab, [(80, K80)], fun n => match n with  | _ => none⟩
def K81 : Fn1 := ⟨.fld I (.fld I (.one I)), .one I, fun (x : Int × Int × Int) => [isV x.2.1, isV x.2.2], fun (x : Int × Int × Int) => twoP x.1 x.2.1 x.2.2⟩
theorem k81 : FnOk Go.Proofs.Tryz.prog 81 K81 := by
  refine fn_ok (E := E81) (TOk.of tab_told) (AllOk.cons k80 .nil).at_ mix Go.Proofs.Tryz.func81 rfl rfl (by kernel_rfl) K81 ?_
  rintro ⟨(k : Int), (a : Int), (b : Int)⟩ hp
  have ha : isV a := hp _ (List.mem_cons_self ..)
  have hb : isV b := hp _ (List.mem_cons_of_mem _ (List.mem_cons_self ..))
  clear hp
  have hm := mul_bd ha hb
  have ha' := ha
  have hb' := hb
  unfold isV at ha' hb'
  conv => whnf
  refine cond_intro (fun k2 => ?_) (fun k2 => ?_)
  · have k2 : k = 2 := @of_decide_eq_true _ _ k2
    conv => whnf
    show IntKind.i64.wrap (a + b) = twoP k a b
    unfold twoP
    rw [if_pos k2]
    exact wrap_eq (by omega) (by omega)
  have k2 : ¬ (k = 2) := @of_decide_eq_false _ _ k2
  conv => whnf
  refine cond_intro (fun k3 => ?_) (fun k3 => ?_)
  · have k3 : k = 3 := @of_decide_eq_true _ _ k3
    conv => whnf
    show IntKind.i64.wrap (a - b) = twoP k a b
    unfold twoP
    rw [if_neg k2, if_pos k3]
    exact wrap_eq (by omega) (by omega)
  have k3 : ¬ (k = 3) := @of_decide_eq_false _ _ k3
  conv => whnf
  refine cond_intro (fun k4 => ?_) (fun k4 => ?_)
  · have k4 : k = 4 := @of_decide_eq_true _ _ k4
    conv => whnf
    show IntKind.i64.wrap (a * b) = twoP k a b
    unfold twoP
    rw [if_neg k2, if_neg k3, if_pos k4]
    exact wrap_eq (by omega) (by omega)
  have k4 : ¬ (k = 4) := @of_decide_eq_false _ _ k4
  conv => whnf
  refine cond_intro (fun k7 => ?_) (fun k7 => ?_)
  · have k7 : k = 7 := @of_decide_eq_true _ _ k7
    conv => whnf
    show trR (decide (a < b)) = twoP k a b
    unfold twoP
    rw [if_neg k2, if_neg k3, if_neg k4, if_pos k7]
  have k7 : ¬ (k = 7) := @of_decide_eq_false _ _ k7
  conv => whnf
  refine cond_intro (fun k8 => ?_) (fun k8 => ?_)
  · have k8 : k = 8 := @of_decide_eq_true _ _ k8
    conv => whnf
    show trR (decide (a = b)) = twoP k a b
    unfold twoP
    rw [if_neg k2, if_neg k3, if_neg k4, if_neg k7, if_pos k8]
  have k8 : ¬ (k = 8) := @of_decide_eq_false _ _ k8
  conv => whnf
  refine cond_intro (fun k11 => ?_) (fun k11 => ?_)
  · have k11 : k = 11 := @of_decide_eq_true _ _ k11
    conv => whnf
    show min2 a b = twoP k a b
    unfold twoP
    rw [if_neg k2, if_neg k3, if_neg k4, if_neg k7, if_neg k8, if_pos k11]
  have k11 : ¬ (k = 11) := @of_decide_eq_false _ _ k11
  conv => whnf
  refine cond_intro (fun k12 => ?_) (fun k12 => ?_)
  · have k12 : k = 12 := @of_decide_eq_true _ _ k12
    conv => whnf
    show max2 a b = twoP k a b
    unfold twoP
    rw [if_neg k2, if_neg k3, if_neg k4, if_neg k7, if_neg k8, if_neg k11, if_pos k12]
  have k12 : ¬ (k = 12) := @of_decide_eq_false _ _ k12
  conv => whnf
  refine cond_intro (fun b0 => ?_) (fun b0 => ?_)
  · have b0 : b = 0 := @of_decide_eq_true _ _ b0
    conv => whnf
    show (0 : Int) = twoP k a b
    unfold twoP
    rw [if_neg k2, if_neg k3, if_neg k4, if_neg k7, if_neg k8, if_neg k11, if_neg k12, if_pos b0]
  have b0 : ¬ (b = 0) := @of_decide_eq_false _ _ b0
  conv => whnf
  refine cond_intro (fun k5 => ?_) (fun k5 => ?_)
  · have k5 : k = 5 := @of_decide_eq_true _ _ k5
    conv => whnf
    refine ⟨b0, ?_⟩
    conv => whnf
    show IntKind.i64.wrap (a.tdiv b) = twoP k a b
    unfold twoP
    rw [if_neg k2, if_neg k3, if_neg k4, if_neg k7, if_neg k8, if_neg k11, if_neg k12, if_neg b0, if_pos k5]
    have := tdiv_bd (b := b) ha
    unfold isV at this
    exact wrap_eq (by omega) (by omega)
  have k5 : ¬ (k = 5) := @of_decide_eq_false _ _ k5
  conv => whnf
  refine ⟨b0, ?_⟩
  conv => whnf
  show a.tmod b = twoP k a b
  unfold twoP
  rw [if_neg k2, if_neg k3, if_neg k4, if_neg k7, if_neg k8, if_neg k11, if_neg k12, if_neg b0, if_neg k5]
def E75 : Env := ⟨tab, [(102, K102), (103, K103)], fun n => match n with  | _ => none⟩
def K75 : Fn1 := ⟨.fld I (.fld I (.one I)), .one I, fun (x : Int × Int × Int) => [isV x.2.1, isV x.2.2], fun (x : Int × Int × Int) => twoK x.1 x.2.1 x.2.2⟩
theorem k75 : FnOk Go.Proofs.Tryz.prog 75 K75 := by
  refine fn_ok (E := E75) (TOk.of tab_told) (AllOk.cons k102 (.cons k103 .nil)).at_ mix Go.Proofs.Tryz.func75 rfl rfl (by kernel_rfl) K75 ?_
  rintro ⟨(k : Int), (a : Int), (b : Int)⟩ hp
  have ha : isV a := hp _ (List.mem_cons_self ..)
  have hb : isV b := hp _ (List.mem_cons_of_mem _ (List.mem_cons_self ..))
  clear hp
  have hm := mul_bd ha hb
  have ha' := ha
  have hb' := hb
  unfold isV at ha' hb'
  conv => whnf
  refine cond_intro (fun k2 => ?_) (fun k2 => ?_)
  · have k2 : k = 2 := @of_decide_eq_true _ _ k2
    conv => whnf
    show keptR (IntKind.i64.wrap (a + b)) = twoK k a b
    unfold twoK
    rw [if_pos k2]
    rw [wrap_eq (by omega) (by omega)]
  have k2 : ¬ (k = 2) := @of_decide_eq_false _ _ k2
  conv => whnf
  refine cond_intro (fun k3 => ?_) (fun k3 => ?_)
  · have k3 : k = 3 := @of_decide_eq_true _ _ k3
    conv => whnf
    show keptR (IntKind.i64.wrap (a - b)) = twoK k a b
    unfold twoK
    rw [if_neg k2, if_pos k3]
    rw [wrap_eq (by omega) (by omega)]
  have k3 : ¬ (k = 3) := @of_decide_eq_false _ _ k3
  conv => whnf
  refine cond_intro (fun k4 => ?_) (fun k4 => ?_)
  · have k4 : k = 4 := @of_decide_eq_true _ _ k4
    conv => whnf
    show keptR (IntKind.i64.wrap (a * b)) = twoK k a b
    unfold twoK
    rw [if_neg k2, if_neg k3, if_pos k4]
    rw [wrap_eq (by omega) (by omega)]
  have k4 : ¬ (k = 4) := @of_decide_eq_false _ _ k4
  conv => whnf
  refine cond_intro (fun k5 => ?_) (fun k5 => ?_)
  · have k5 : k = 5 := @of_decide_eq_true _ _ k5
    conv => whnf
    refine cond_intro (fun b0 => ?_) (fun b0 => ?_)
    · have b0 : b = 0 := @of_decide_eq_true _ _ b0
      conv => whnf
      show (0 : Int) = twoK k a b
      unfold twoK
      rw [if_neg k2, if_neg k3, if_neg k4, if_pos k5]
      rw [if_pos b0]
    have b0 : ¬ (b = 0) := @of_decide_eq_false _ _ b0
    conv => whnf
    refine ⟨b0, ?_⟩
    conv => whnf
    show IntKind.i64.wrap (a.tdiv b) = twoK k a b
    unfold twoK
    rw [if_neg k2, if_neg k3, if_neg k4, if_pos k5]
    rw [if_neg b0]
    have := tdiv_bd (b := b) ha
    unfold isV at this
    exact wrap_eq (by omega) (by omega)
  have k5 : ¬ (k = 5) := @of_decide_eq_false _ _ k5
  conv => whnf
  refine cond_intro (fun k6 => ?_) (fun k6 => ?_)
  · have k6 : k = 6 := @of_decide_eq_true _ _ k6
    conv => whnf
    refine cond_intro (fun b0 => ?_) (fun b0 => ?_)
    · have b0 : b = 0 := @of_decide_eq_true _ _ b0
      conv => whnf
      show (0 : Int) = twoK k a b
      unfold twoK
      rw [if_neg k2, if_neg k3, if_neg k4, if_neg k5, if_pos k6]
      rw [if_pos b0]
    have b0 : ¬ (b = 0) := @of_decide_eq_false _ _ b0
    conv => whnf
    refine ⟨b0, ?_⟩
    conv => whnf
    show a.tmod b = twoK k a b
    unfold twoK
    rw [if_neg k2, if_neg k3, if_neg k4, if_neg k5, if_pos k6]
    rw [if_neg b0]
  have k6 : ¬ (k = 6) := @of_decide_eq_false _ _ k6
  conv => whnf
  refine cond_intro (fun k7 => ?_) (fun k7 => ?_)
  · have k7 : k = 7 := @of_decide_eq_true _ _ k7
    conv => whnf
    show trR (decide (a < b)) = twoK k a b
    unfold twoK
    rw [if_neg k2, if_neg k3, if_neg k4, if_neg k5, if_neg k6, if_pos k7]
  have k7 : ¬ (k = 7) := @of_decide_eq_false _ _ k7
  conv => whnf
  refine cond_intro (fun k8 => ?_) (fun k8 => ?_)
  · have k8 : k = 8 := @of_decide_eq_true _ _ k8
    conv => whnf
    show trR (decide (a = b)) = twoK k a b
    unfold twoK
    rw [if_neg k2, if_neg k3, if_neg k4, if_neg k5, if_neg k6, if_neg k7, if_pos k8]
  have k8 : ¬ (k = 8) := @of_decide_eq_false _ _ k8
  conv => whnf
  refine cond_intro (fun k11 => ?_) (fun k11 => ?_)
  · have k11 : k = 11 := @of_decide_eq_true _ _ k11
    conv => whnf
    show min2 a b = twoK k a b
    unfold twoK
    rw [if_neg k2, if_neg k3, if_neg k4, if_neg k5, if_neg k6, if_neg k7, if_neg k8, if_pos k11]
  have k11 : ¬ (k = 11) := @of_decide_eq_false _ _ k11
  conv => whnf
  show max2 a b = twoK k a b
  unfold twoK
  rw [if_neg k2, if_neg k3, if_neg k4, if_neg k5, if_neg k6, if_neg k7, if_neg k8, if_neg k11]
def E77 : Env := ⟨tab, [], fun n => match n with  | _ => none⟩
def K77 : Fn1 := ⟨.fld (.sl ruT) (.one opT), .one I, fun (x : List Ru × Op2) => [popOk x.1 x.2], fun (x : List Ru × Op2) => popR x.1 x.2⟩
theorem k77 : FnOk Go.Proofs.Tryz.prog 77 K77 := by
  refine fn_ok (E := E77) (TOk.of tab_told) (fun f k h => by cases h) mix Go.Proofs.Tryz.func77 rfl rfl (by kernel_rfl) K77 ?_
  rintro ⟨(r : List Ru), (ok : Int), (on : Int)⟩ hp
  have hk : popOk r (ok, on) := hp _ (List.mem_cons_self ..)
  clear hp
  conv => whnf
  refine cond_intro (fun e0 => ?_) (fun e0 => ?_)
  · have e0 : ok = 0 := @of_decide_eq_true _ _ e0
    conv => whnf
    refine cond_intro (fun e0b => ?_) (fun e0b => ?_)
    · have e0b : ok = 0 := @of_decide_eq_true _ _ e0b
      conv => whnf
      show (0 : Int) = popR r (ok, on)
      unfold popR
      rw [if_pos (.inl e0)]
    have e0b : ¬ (ok = 0) := @of_decide_eq_false _ _ e0b
    exact absurd e0 e0b
  have e0 : ¬ (ok = 0) := @of_decide_eq_false _ _ e0
  conv => whnf
  refine cond_intro (fun e1 => ?_) (fun e1 => ?_)
  · have e1 : ok = 1 := @of_decide_eq_true _ _ e1
    conv => whnf
    show (0 : Int) = popR r (ok, on)
    unfold popR
    rw [if_pos (.inr e1)]
  have e1 : ¬ (ok = 1) := @of_decide_eq_false _ _ e1
  have en : ¬ (ok = 0 ∨ ok = 1) := fun q => q.elim e0 e1
  conv => whnf
  refine cond_intro (fun e9 => ?_) (fun e9 => ?_)
  · have e9 : ok = 9 := @of_decide_eq_true _ _ e9
    conv => whnf
    show (3 : Int) = popR r (ok, on)
    unfold popR
    rw [if_neg en, if_pos e9]
  have e9 : ¬ (ok = 9) := @of_decide_eq_false _ _ e9
  conv => whnf
  refine cond_intro (fun e10 => ?_) (fun e10 => ?_)
  · have e10 : ok = 10 := @of_decide_eq_true _ _ e10
    have hq := hk e10
    have hq1 : 0 ≤ on := hq.1
    have hq2 : on < (r.length : Int) := hq.2
    conv => whnf
    refine ⟨hq1, ?_⟩
    conv => whnf
    refine ⟨hq2, ?_⟩
    conv => whnf
    show (gR r on.toNat).2.1 = popR r (ok, on)
    unfold popR
    rw [if_neg en, if_neg e9, if_pos e10]
  have e10 : ¬ (ok = 10) := @of_decide_eq_false _ _ e10
  conv => whnf
  show (2 : Int) = popR r (ok, on)
  unfold popR
  rw [if_neg en, if_neg e9, if_neg e10]
def E74 : Env := ⟨tab, [], fun n => match n with  | _ => none⟩
def K74 : Fn1 := ⟨.fld (.sl ruT) (.one opT), .one I, fun (x : List Ru × Op2) => [popOk x.1 x.2], fun (x : List Ru × Op2) => popR x.1 x.2⟩
theorem k74 : FnOk Go.Proofs.Tryz.prog 74 K74 := by
  refine fn_ok (E := E74) (TOk.of tab_told) (fun f k h => by cases h) mix Go.Proofs.Tryz.func74 rfl rfl (by kernel_rfl) K74 ?_
  rintro ⟨(r : List Ru), (ok : Int), (on : Int)⟩ hp
  have hk : popOk r (ok, on) := hp _ (List.mem_cons_self ..)
  clear hp
  conv => whnf
  refine cond_intro (fun e0 => ?_) (fun e0 => ?_)
  · have e0 : ok = 0 := @of_decide_eq_true _ _ e0
    conv => whnf
    refine cond_intro (fun e0b => ?_) (fun e0b => ?_)
    · have e0b : ok = 0 := @of_decide_eq_true _ _ e0b
      conv => whnf
      show (0 : Int) = popR r (ok, on)
      unfold popR
      rw [if_pos (.inl e0)]
    have e0b : ¬ (ok = 0) := @of_decide_eq_false _ _ e0b
    exact absurd e0 e0b
  have e0 : ¬ (ok = 0) := @of_decide_eq_false _ _ e0
  conv => whnf
  refine cond_intro (fun e1 => ?_) (fun e1 => ?_)
  · have e1 : ok = 1 := @of_decide_eq_true _ _ e1
    conv => whnf
    show (0 : Int) = popR r (ok, on)
    unfold popR
    rw [if_pos (.inr e1)]
  have e1 : ¬ (ok = 1) := @of_decide_eq_false _ _ e1
  have en : ¬ (ok = 0 ∨ ok = 1) := fun q => q.elim e0 e1
  conv => whnf
  refine cond_intro (fun e9 => ?_) (fun e9 => ?_)
  · have e9 : ok = 9 := @of_decide_eq_true _ _ e9
    conv => whnf
    show (3 : Int) = popR r (ok, on)
    unfold popR
    rw [if_neg en, if_pos e9]
  have e9 : ¬ (ok = 9) := @of_decide_eq_false _ _ e9
  conv => whnf
  refine cond_intro (fun e10 => ?_) (fun e10 => ?_)
  · have e10 : ok = 10 := @of_decide_eq_true _ _ e10
    have hq := hk e10
    have hq1 : 0 ≤ on := hq.1
    have hq2 : on < (r.length : Int) := hq.2
    conv => whnf
    refine ⟨hq1, ?_⟩
    conv => whnf
    refine ⟨hq2, ?_⟩
    conv => whnf
    show (gR r on.toNat).2.1 = popR r (ok, on)
    unfold popR
    rw [if_neg en, if_neg e9, if_pos e10]
  have e10 : ¬ (ok = 10) := @of_decide_eq_false _ _ e10
  conv => whnf
  show (2 : Int) = popR r (ok, on)
  unfold popR
  rw [if_neg en, if_neg e9, if_neg e10]
def E76 : Env := ⟨tab, [], fun n => match n with  | _ => none⟩
def K76 : Fn1 := ⟨.fld opT (.fld I (.one I)), .one .bool, fun _ => [], fun (x : Op2 × Int × Int) => knB x.1 x.2.1 x.2.2⟩
theorem k76 : FnOk Go.Proofs.Tryz.prog 76 K76 := by
  refine fn_ok (E := E76) (TOk.of tab_told) (fun f k h => by cases h) mix Go.Proofs.Tryz.func76 rfl rfl (by kernel_rfl) K76 ?_
  rintro ⟨⟨(ok : Int), (on : Int)⟩, (bf : Int), (ar : Int)⟩ hp
  clear hp
  conv => whnf
  refine cond_intro (fun e0 => ?_) (fun e0 => ?_)
  · have e0 : ok = 0 := @of_decide_eq_true _ _ e0
    conv => whnf
    refine cond_intro (fun q1 => ?_) (fun q1 => ?_)
    · have q1 : -2147483647 ≤ on := @of_decide_eq_true _ _ q1
      conv => whnf
      show decide (on ≤ 2147483647) = knB (ok, on) bf ar
      unfold knB
      rw [if_pos e0]
      show _ = inB on _ _
      unfold inB
      rw [decide_eq_true q1]
      rfl
    have q1 : ¬ (-2147483647 ≤ on) := @of_decide_eq_false _ _ q1
    conv => whnf
    show false = knB (ok, on) bf ar
    unfold knB
    rw [if_pos e0]
    exact (in_lo q1).symm
  have e0 : ¬ (ok = 0) := @of_decide_eq_false _ _ e0
  conv => whnf
  refine cond_intro (fun e1 => ?_) (fun e1 => ?_)
  · have e1 : ok = 1 := @of_decide_eq_true _ _ e1
    conv => whnf
    refine cond_intro (fun q1 => ?_) (fun q1 => ?_)
    · have q1 : 0 ≤ on := @of_decide_eq_true _ _ q1
      conv => whnf
      show decide (on < ar) = knB (ok, on) bf ar
      unfold knB
      rw [if_neg e0, if_pos e1]
      show _ = (decide (0 ≤ on) && _)
      rw [decide_eq_true q1]
      rfl
    have q1 : ¬ (0 ≤ on) := @of_decide_eq_false _ _ q1
    conv => whnf
    show false = knB (ok, on) bf ar
    unfold knB
    rw [if_neg e0, if_pos e1]
    show _ = (decide (0 ≤ on) && _)
    rw [decide_eq_false q1]
    rfl
  have e1 : ¬ (ok = 1) := @of_decide_eq_false _ _ e1
  conv => whnf
  refine cond_intro (fun e10 => ?_) (fun e10 => ?_)
  · have e10 : ok = 10 := @of_decide_eq_true _ _ e10
    conv => whnf
    refine cond_intro (fun q1 => ?_) (fun q1 => ?_)
    · have q1 : 0 ≤ on := @of_decide_eq_true _ _ q1
      conv => whnf
      show decide (on < bf) = knB (ok, on) bf ar
      unfold knB
      rw [if_neg e0, if_neg e1, if_pos e10]
      show _ = (decide (0 ≤ on) && _)
      rw [decide_eq_true q1]
      rfl
    have q1 : ¬ (0 ≤ on) := @of_decide_eq_false _ _ q1
    conv => whnf
    show false = knB (ok, on) bf ar
    unfold knB
    rw [if_neg e0, if_neg e1, if_pos e10]
    show _ = (decide (0 ≤ on) && _)
    rw [decide_eq_false q1]
    rfl
  have e10 : ¬ (ok = 10) := @of_decide_eq_false _ _ e10
  conv => whnf
  refine cond_intro (fun q1 => ?_) (fun q1 => ?_)
  · have q1 : 0 < ok := @of_decide_eq_true _ _ q1
    conv => whnf
    refine cond_intro (fun q2 => ?_) (fun q2 => ?_)
    · have q2 : ok < 13 := @of_decide_eq_true _ _ q2
      conv => whnf
      show decide (on = 0) = knB (ok, on) bf ar
      unfold knB
      rw [if_neg e0, if_neg e1, if_neg e10]
      show _ = (decide (0 < ok) && (decide (ok < 13) && _))
      rw [decide_eq_true q1, decide_eq_true q2]
      rfl
    have q2 : ¬ (ok < 13) := @of_decide_eq_false _ _ q2
    conv => whnf
    show false = knB (ok, on) bf ar
    unfold knB
    rw [if_neg e0, if_neg e1, if_neg e10]
    show _ = (decide (0 < ok) && (decide (ok < 13) && _))
    rw [decide_eq_true q1, decide_eq_false q2]
    rfl
  have q1 : ¬ (0 < ok) := @of_decide_eq_false _ _ q1
  conv => whnf
  show false = knB (ok, on) bf ar
  unfold knB
  rw [if_neg e0, if_neg e1, if_neg e10]
  show _ = (decide (0 < ok) && (decide (ok < 13) && _))
  rw [decide_eq_false q1]
  rfl
end
end Go.Proofs.YtaafjaibaaiigaaGreatDoor.Eng
set_option linter.unusedVariables false
set_option linter.unusedSimpArgs false
namespace Go.Proofs.YtaafjaibaaiigaaGreatDoor.Eng
open Go
set_option maxRecDepth 100000
noncomputable section
/-- All rules have so many arguments as they may. -/
def argsOk (r : List Ru) : Prop := ∀ x ∈ r, 0 ≤ x.2.1 ∧ x.2.1 ≤ 4
theorem pop_in {r : List Ru} {o : Op2} (h : argsOk r) (k : popOk r o) : 0 ≤ popR r o ∧ popR r o ≤ 4 := by
  unfold popR
  split
  · omega
  split
  · omega
  split
  · rename_i e
    obtain ⟨h1, h2⟩ := k e
    exact h _ (gR_mem (by omega))
  · omega
theorem kn_pop {r : List Ru} {o : Op2} {bf ar : Int} (h : knB o bf ar = true) (hb : bf ≤ (r.length : Int)) : popOk r o := by
  intro e
  unfold knB at h
  rw [if_neg (by omega), if_neg (by omega), if_pos e] at h
  simp only [Bool.and_eq_true, decide_eq_true_eq] at h
  omega
/-- The height behind the first steps; none: no expression. -/
def hJ (r : List Ru) (bf ar : Int) (b : List Op2) : Nat → Option Int
  | 0 => some 0
  | n + 1 => match hJ r bf ar b n with
    | none => none
    | some h => if knB (gO b n) bf ar = true ∧ popR r (gO b n) ≤ h then some (h + 1 - popR r (gO b n)) else none
theorem hJ_none {r : List Ru} {bf ar : Int} {b : List Op2} : ∀ {n m : Nat}, n ≤ m → hJ r bf ar b n = none → hJ r bf ar b m = none
  | n, 0, h, e => by rw [show n = 0 by omega] at e; exact e
  | n, m + 1, h, e => by
    by_cases hh : n = m + 1
    · rw [← hh]; exact e
    · unfold hJ; rw [hJ_none (n := n) (m := m) (by omega) e]
theorem hJ_bad {r : List Ru} {bf ar : Int} {b : List Op2} {n m : Nat} {h : Int} (e : hJ r bf ar b n = some h) (hn : n < m) (q : ¬ (knB (gO b n) bf ar = true ∧ popR r (gO b n) ≤ h)) : hJ r bf ar b m = none :=
  hJ_none (n := n + 1) hn (by unfold hJ; rw [e]; exact if_neg q)
theorem hJ_ok {r : List Ru} {bf ar : Int} {b : List Op2} {n : Nat} {h : Int} (e : hJ r bf ar b n = some h) (q : knB (gO b n) bf ar = true) (p : popR r (gO b n) ≤ h) : hJ r bf ar b (n + 1) = some (h + 1 - popR r (gO b n)) := by
  unfold hJ; rw [e]; exact if_pos ⟨q, p⟩
/-- Is it an expression? -/
def soundB (r : List Ru) (bf ar : Int) (b : List Op2) : Bool := decide (hJ r bf ar b b.length = some 1) && decide ((b.length : Int) ≤ 60)
theorem sound_bad {r : List Ru} {bf ar : Int} {b : List Op2} (h : hJ r bf ar b b.length = none) : soundB r bf ar b = false := by
  unfold soundB; rw [h]; rfl
theorem sound_end {r : List Ru} {bf ar : Int} {b : List Op2} {h : Int} (e : hJ r bf ar b b.length = some h) : soundB r bf ar b = (decide (h = 1) && decide ((b.length : Int) ≤ 60)) := by
  unfold soundB; rw [e]; congr 1; simp
theorem pop_take {r : List Ru} {o : Op2} {i : Nat} {ar : Int} (h : knB o i ar = true) (hi : i ≤ r.length) : popR (r.take i) o = popR r o := by
  have k := kn_pop (r := r.take i) h (by rw [List.length_take]; omega)
  unfold popR
  split
  · rfl
  split
  · rfl
  split
  · rename_i e
    obtain ⟨h1, h2⟩ := k e
    rw [List.length_take] at h2
    unfold gR
    rw [List.getD_eq_getElem?_getD, List.getD_eq_getElem?_getD, List.getElem?_take, if_pos (by omega)]
  · rfl
theorem hJ_take {r : List Ru} {i : Nat} {ar : Int} {b : List Op2} (hi : i ≤ r.length) : ∀ n, hJ (r.take i) i ar b n = hJ r i ar b n
  | 0 => rfl
  | n + 1 => by
    unfold hJ
    rw [hJ_take hi n]
    cases hJ r i ar b n with
    | none => rfl
    | some h =>
      show (if _ then _ else _) = (if _ then _ else _)
      by_cases k : knB (gO b n) i ar = true
      · rw [pop_take k hi]
      · rw [if_neg (fun q => k q.1), if_neg (fun q => k q.1)]
theorem sound_take {r : List Ru} {i : Nat} {ar : Int} {b : List Op2} (hi : i ≤ r.length) : soundB (r.take i) i ar b = soundB r i ar b := by
  unfold soundB; rw [hJ_take hi]
theorem kn_lo {o : Op2} {bf ar : Int} (h : o.1 < 0 ∨ 12 < o.1) : knB o bf ar = false := by
  unfold knB
  rw [if_neg (by omega), if_neg (by omega), if_neg (by omega)]
  rcases h with h | h
  · rw [decide_eq_false (by omega)]; rfl
  · rw [decide_eq_false (p := o.1 < 13) (by omega)]; simp
theorem kn_0 {o : Op2} {bf ar : Int} (h : o.1 = 0) : knB o bf ar = inB o.2 (-2147483647) 2147483647 := by unfold knB; rw [if_pos h]
theorem kn_1 {o : Op2} {bf ar : Int} (h : o.1 = 1) : knB o bf ar = (decide (0 ≤ o.2) && decide (o.2 < ar)) := by unfold knB; rw [if_neg (by omega), if_pos h]
theorem kn_10 {o : Op2} {bf ar : Int} (h : o.1 = 10) : knB o bf ar = (decide (0 ≤ o.2) && decide (o.2 < bf)) := by unfold knB; rw [if_neg (by omega), if_neg (by omega), if_pos h]
theorem kn_2 {o : Op2} {bf ar : Int} (h : 0 ≤ o.1 ∧ o.1 ≤ 12) (h0 : ¬ o.1 = 0) (h1 : ¬ o.1 = 1) (h2 : ¬ o.1 = 10) : knB o bf ar = decide (o.2 = 0) := by
  unfold knB; rw [if_neg h0, if_neg h1, if_neg h2, decide_eq_true (by omega), decide_eq_true (p := o.1 < 13) (by omega)]; simp
def S43 (r : List Ru) (bf ar : Int) (b : List Op2) (h i : Int) : SL := ⟨[.sl ruT r, .int .i64 bf, .int .i64 ar, .sl opT b, .undef, .undef, .undef, .undef, .undef, .int .i64 h, .undef, .undef, .sl opT b, .int .i64 b.length, .int .i64 i, .undef, .undef, .undef, .undef, .undef, .undef, .undef, .undef, .undef, .undef, .undef, .undef, .undef, .undef, .undef, .undef, .undef, .undef, .undef, .undef, .undef, .undef, .undef, .undef, .undef, .undef, .undef, .undef, .undef], [], 0⟩
def S45 (r : List Ru) (ar : Int) (b : List Op2) (h i : Int) : SL := ⟨[.sl ruT r, .undef, .int .i64 ar, .undef, .undef, .undef, .undef, .int .i64 h, .undef, .undef, .undef, .undef, .undef, .undef, .sl opT b, .int .i64 b.length, .int .i64 i, .undef, .undef, .undef, .undef, .undef, .undef, .undef, .undef, .undef, .undef, .undef, .undef, .undef, .undef, .undef, .undef, .undef, .undef, .undef, .undef, .undef, .undef, .undef, .undef, .undef, .undef, .undef, .undef, .undef, .undef, .undef, .undef, .undef, .undef, .undef, .undef, .undef, .undef, .undef, .undef, .undef, .undef, .undef, .undef, .undef, .undef, .undef, .undef, .undef, .undef, .undef, .undef, .undef, .undef, .undef, .undef, .undef, .undef, .undef, .undef, .undef, .undef, .undef, .undef, .undef, .undef, .undef, .undef, .undef, .undef, .undef, .undef, .undef, .undef, .undef, .undef, .undef, .undef, .undef, .undef, .undef, .undef, .undef, .undef, .undef, .undef, .undef, .undef, .undef], [], 0⟩
def E43 : Env := ⟨tab, [(76, K76), (77, K77)], fun n => match n with | 3 => some ([0, 1, 2, 3, 9, 12, 13, 14], [], []) | _ => none⟩
def K43 : Fn1 := ⟨.fld (.sl ruT) (.fld I (.fld I (.one (.sl opT)))), .one .bool, fun (x : List Ru × Int × Int × List Op2) => [argsOk x.1, 0 ≤ x.2.1, x.2.1 ≤ (x.1.length : Int), x.2.2.2.length ≤ 140737488351232], fun (x : List Ru × Int × Int × List Op2) => soundB x.1 x.2.1 x.2.2.1 x.2.2.2⟩
theorem k43 : FnOk Go.Proofs.Tryz.prog 43 K43 := by
  refine fn_ok (E := E43) (TOk.of tab_told) (AllOk.cons k76 (.cons k77 .nil)).at_ mix Go.Proofs.Tryz.func43 rfl rfl (by kernel_rfl) K43 ?_
  rintro ⟨(r : List Ru), (bf : Int), (ar : Int), (b : List Op2)⟩ hp
  have ha : argsOk r := hp _ (List.mem_cons_self ..)
  have b0 : 0 ≤ bf := hp _ (List.mem_cons_of_mem _ (List.mem_cons_self ..))
  have b1 : bf ≤ (r.length : Int) := hp _ (List.mem_cons_of_mem _ (List.mem_cons_of_mem _ (List.mem_cons_self ..)))
  have hl : b.length ≤ 140737488351232 := hp _ (List.mem_cons_of_mem _ (List.mem_cons_of_mem _ (List.mem_cons_of_mem _ (List.mem_cons_self ..))))
  clear hp
  conv => whnf
  refine loop_rule (fun (x : Int × Int) => S43 r bf ar b x.1 x.2) (fun x => ((b.length : Int) - x.2).toNat) (fun x => 0 ≤ x.2 ∧ x.2 ≤ (b.length : Int) ∧ (0 ≤ x.1 ∧ x.1 ≤ x.2) ∧ hJ r bf ar b x.2.toNat = some x.1) ?_ (0, 0) (by kernel_rfl) ?_ ⟨by show (0 : Int) ≤ 0; omega, by show (0 : Int) ≤ _; omega, by show (0 : Int) ≤ 0 ∧ (0 : Int) ≤ 0; omega, rfl⟩
  case refine_2 => rfl
  rintro ⟨h, i⟩ hy
  have i0 : 0 ≤ i := hy.1
  have i1 : i ≤ (b.length : Int) := hy.2.1
  have hb : 0 ≤ h ∧ h ≤ i := hy.2.2.1
  have h2 : hJ r bf ar b i.toNat = some h := hy.2.2.2
  clear hy
  conv => whnf
  refine cond_intro (fun hi => ?_) (fun hi => ?_)
  · have hi : i < (b.length : Int) := @of_decide_eq_true _ _ hi
    have wi : IntKind.i64.wrap (i + 1) = i + 1 := wrap_eq (by omega) (by omega)
    have ei : (i + 1).toNat = i.toNat + 1 := by omega
    conv => whnf
    refine ⟨i0, ?_⟩
    conv => whnf
    refine ⟨hi, ?_⟩
    conv => whnf
    refine cond_intro (fun hk => ?_) (fun hk => ?_)
    · have hk : (!(knB (gO b i.toNat) bf ar)) = true := hk
      have hk : (knB (gO b i.toNat) bf ar) = false := by cases e : (knB (gO b i.toNat) bf ar) with | false => rfl | true => exact absurd hk (by rw [e]; decide)
      conv => whnf
      show false = soundB r bf ar b
      exact (sound_bad (hJ_bad h2 (by omega) (fun q => (by rw [hk] at q; cases q.1)))).symm
    have hk : (!(knB (gO b i.toNat) bf ar)) = false := hk
    have hk : (knB (gO b i.toNat) bf ar) = true := by cases e : (knB (gO b i.toNat) bf ar) with | true => rfl | false => exact absurd hk (by rw [e]; decide)
    have hpk := kn_pop (r := r) hk b1
    have hpi := pop_in ha hpk
    conv => whnf
    refine ⟨hpk, ?_⟩
    conv => whnf
    refine cond_intro (fun hp => ?_) (fun hp => ?_)
    · have hp : h < popR r (gO b i.toNat) := @of_decide_eq_true _ _ hp
      conv => whnf
      show false = soundB r bf ar b
      exact (sound_bad (hJ_bad h2 (by omega) (fun q => absurd q.2 (by omega)))).symm
    have hp : ¬ (h < popR r (gO b i.toNat)) := @of_decide_eq_false _ _ hp
    conv => whnf
    refine ⟨hpk, ?_⟩
    have w1 : IntKind.i64.wrap (1 - popR r (gO b i.toNat)) = 1 - popR r (gO b i.toNat) := wrap_eq (by omega) (by omega)
    have w2 : IntKind.i64.wrap (h + IntKind.i64.wrap (1 - popR r (gO b i.toNat))) = h + 1 - popR r (gO b i.toNat) := by rw [w1, wrap_eq (by omega) (by omega)]; omega
    conv => whnf
    refine ⟨(h + 1 - popR r (gO b i.toNat), i + 1), ?_, ⟨by show 0 ≤ i + 1; omega, by show i + 1 ≤ (b.length : Int); omega, by show 0 ≤ h + 1 - popR r (gO b i.toNat) ∧ h + 1 - popR r (gO b i.toNat) ≤ i + 1; omega, ?_⟩, by show ((b.length : Int) - (i + 1)).toNat < ((b.length : Int) - i).toNat; omega⟩
    · exact Eq.trans (b := S43 r bf ar b (IntKind.i64.wrap (h + IntKind.i64.wrap (1 - popR r (gO b i.toNat)))) (IntKind.i64.wrap (i + 1))) rfl (by rw [w2, wi])
    · show hJ r bf ar b (i + 1).toNat = _
      rw [ei]
      exact hJ_ok h2 hk (by omega)
  have hi : ¬ (i < (b.length : Int)) := @of_decide_eq_false _ _ hi
  rw [show i.toNat = b.length by omega] at h2
  conv => whnf
  refine cond_intro (fun h1 => ?_) (fun h1 => ?_)
  · have h1 : h = 1 := @of_decide_eq_true _ _ h1
    conv => whnf
    show decide ((b.length : Int) ≤ 60) = soundB r bf ar b
    rw [sound_end h2, decide_eq_true h1]
    rfl
  have h1 : ¬ (h = 1) := @of_decide_eq_false _ _ h1
  conv => whnf
  show false = soundB r bf ar b
  rw [sound_end h2, decide_eq_false h1]
  rfl
def E45 : Env := ⟨tab, [(74, K74)], fun n => match n with | 5 => some ([0, 2, 7, 14, 15, 16], [], []) | _ => none⟩
def K45 : Fn1 := ⟨.fld (.sl ruT) (.fld (.sl opT) (.one I)), .one .bool, fun (x : List Ru × List Op2 × Int) => [argsOk x.1], fun (x : List Ru × List Op2 × Int) => soundB x.1 x.1.length x.2.2 x.2.1⟩
set_option maxHeartbeats 1000000 in
theorem k45 : FnOk Go.Proofs.Tryz.prog 45 K45 := by
  refine fn_ok (E := E45) (TOk.of tab_told) (AllOk.cons k74 .nil).at_ mix Go.Proofs.Tryz.func45 rfl rfl (by kernel_rfl) K45 ?_
  rintro ⟨(r : List Ru), (b : List Op2), (ar : Int)⟩ hp
  have ha : argsOk r := hp _ (List.mem_cons_self ..)
  clear hp
  conv => whnf
  refine cond_intro (fun g1 => ?_) (fun g1 => ?_)
  · have g1 : 60 < (b.length : Int) := @of_decide_eq_true _ _ g1
    conv => whnf
    show false = soundB r r.length ar b
    unfold soundB
    rw [decide_eq_false (p := (b.length : Int) ≤ 60) (by omega), Bool.and_false]
  have g1 : ¬ (60 < (b.length : Int)) := @of_decide_eq_false _ _ g1
  conv => whnf
  refine loop_rule (fun (x : Int × Int) => S45 r ar b x.1 x.2) (fun x => ((b.length : Int) - x.2).toNat) (fun x => 0 ≤ x.2 ∧ x.2 ≤ (b.length : Int) ∧ (0 ≤ x.1 ∧ x.1 ≤ x.2) ∧ hJ r r.length ar b x.2.toNat = some x.1) ?_ (0, 0) (by kernel_rfl) ?_ ⟨by show (0 : Int) ≤ 0; omega, by show (0 : Int) ≤ _; omega, by show (0 : Int) ≤ 0 ∧ (0 : Int) ≤ 0; omega, rfl⟩
  case refine_2 => rfl
  rintro ⟨h, i⟩ hy
  have i0 : 0 ≤ i := hy.1
  have i1 : i ≤ (b.length : Int) := hy.2.1
  have hb : 0 ≤ h ∧ h ≤ i := hy.2.2.1
  have h2 : hJ r r.length ar b i.toNat = some h := hy.2.2.2
  clear hy
  conv => whnf
  refine cond_intro (fun hi => ?_) (fun hi => ?_)
  · have hi : i < (b.length : Int) := @of_decide_eq_true _ _ hi
    have wi : IntKind.i64.wrap (i + 1) = i + 1 := wrap_eq (by omega) (by omega)
    have ei : (i + 1).toNat = i.toNat + 1 := by omega
    have hc : (gO b i.toNat).1 < 0 ∨ 12 < (gO b i.toNat).1 ∨ (gO b i.toNat).1 = 0 ∨ (gO b i.toNat).1 = 1 ∨ (gO b i.toNat).1 = 10 ∨ ((0 ≤ (gO b i.toNat).1 ∧ (gO b i.toNat).1 ≤ 12) ∧ ¬ (gO b i.toNat).1 = 0 ∧ ¬ (gO b i.toNat).1 = 1 ∧ ¬ (gO b i.toNat).1 = 10) := by omega
    conv => whnf
    refine ⟨i0, ?_⟩
    conv => whnf
    refine ⟨hi, ?_⟩
    rcases hc with hc | hc | hc | hc | hc | hc
    · conv => whnf
      refine cond_intro (fun a1 => ?_) (fun a1 => ?_)
      · have a1 : (gO b i.toNat).1 < 0 := @of_decide_eq_true _ _ a1
        conv => whnf
        show false = soundB r r.length ar b
        exact (sound_bad (hJ_bad h2 (by omega) (fun q => (by rw [kn_lo (.inl a1)] at q; cases q.1)))).symm
      have a1 : ¬ ((gO b i.toNat).1 < 0) := @of_decide_eq_false _ _ a1
      exfalso
      omega
    · conv => whnf
      refine cond_intro (fun a1 => ?_) (fun a1 => ?_)
      · have a1 : (gO b i.toNat).1 < 0 := @of_decide_eq_true _ _ a1
        exfalso
        omega
      have a1 : ¬ ((gO b i.toNat).1 < 0) := @of_decide_eq_false _ _ a1
      conv => whnf
      refine cond_intro (fun a2 => ?_) (fun a2 => ?_)
      · have a2 : 12 < (gO b i.toNat).1 := @of_decide_eq_true _ _ a2
        conv => whnf
        show false = soundB r r.length ar b
        exact (sound_bad (hJ_bad h2 (by omega) (fun q => (by rw [kn_lo (.inr a2)] at q; cases q.1)))).symm
      have a2 : ¬ (12 < (gO b i.toNat).1) := @of_decide_eq_false _ _ a2
      exfalso
      omega
    · conv => whnf
      refine cond_intro (fun a1 => ?_) (fun a1 => ?_)
      · have a1 : (gO b i.toNat).1 < 0 := @of_decide_eq_true _ _ a1
        exfalso
        omega
      have a1 : ¬ ((gO b i.toNat).1 < 0) := @of_decide_eq_false _ _ a1
      conv => whnf
      refine cond_intro (fun a2 => ?_) (fun a2 => ?_)
      · have a2 : 12 < (gO b i.toNat).1 := @of_decide_eq_true _ _ a2
        exfalso
        omega
      have a2 : ¬ (12 < (gO b i.toNat).1) := @of_decide_eq_false _ _ a2
      conv => whnf
      refine cond_intro (fun b1 => ?_) (fun b1 => ?_)
      · have b1 : (gO b i.toNat).1 = 0 := @of_decide_eq_true _ _ b1
        conv => whnf
        refine cond_intro (fun b2 => ?_) (fun b2 => ?_)
        · have b2 : (gO b i.toNat).2 < -2147483647 := @of_decide_eq_true _ _ b2
          conv => whnf
          show false = soundB r r.length ar b
          exact (sound_bad (hJ_bad h2 (by omega) (fun q => (by rw [kn_0 b1, in_lo (by omega)] at q; cases q.1)))).symm
        have b2 : ¬ ((gO b i.toNat).2 < -2147483647) := @of_decide_eq_false _ _ b2
        conv => whnf
        refine cond_intro (fun b3 => ?_) (fun b3 => ?_)
        · have b3 : 2147483647 < (gO b i.toNat).2 := @of_decide_eq_true _ _ b3
          conv => whnf
          show false = soundB r r.length ar b
          exact (sound_bad (hJ_bad h2 (by omega) (fun q => (by rw [kn_0 b1, in_hi (by omega)] at q; cases q.1)))).symm
        have b3 : ¬ (2147483647 < (gO b i.toNat).2) := @of_decide_eq_false _ _ b3
        conv => whnf
        refine cond_intro (fun c1 => ?_) (fun c1 => ?_)
        · have c1 : (gO b i.toNat).1 = 1 := @of_decide_eq_true _ _ c1
          exfalso
          omega
        have c1 : ¬ ((gO b i.toNat).1 = 1) := @of_decide_eq_false _ _ c1
        conv => whnf
        refine cond_intro (fun d1 => ?_) (fun d1 => ?_)
        · have d1 : (gO b i.toNat).1 = 10 := @of_decide_eq_true _ _ d1
          exfalso
          omega
        have d1 : ¬ ((gO b i.toNat).1 = 10) := @of_decide_eq_false _ _ d1
        conv => whnf
        refine cond_intro (fun e1 => ?_) (fun e1 => ?_)
        · have e1 : (!decide ((gO b i.toNat).1 = 0)) = true := e1
          have e1 : ¬ ((gO b i.toNat).1 = 0) := fun e => absurd e1 (by rw [decide_eq_true e]; decide)
          exfalso
          omega
        have e1 : (!decide ((gO b i.toNat).1 = 0)) = false := e1
        have e1 : (gO b i.toNat).1 = 0 := Decidable.byContradiction fun e => absurd e1 (by rw [decide_eq_false e]; decide)
        have hk : knB (gO b i.toNat) r.length ar = true := by rw [kn_0 b1, in_ok (by omega) (by omega)]
        have hpk := kn_pop (r := r) hk (Int.le_refl _)
        have hpi := pop_in ha hpk
        conv => whnf
        refine ⟨hpk, ?_⟩
        conv => whnf
        refine cond_intro (fun hp => ?_) (fun hp => ?_)
        · have hp : h < popR r (gO b i.toNat) := @of_decide_eq_true _ _ hp
          conv => whnf
          show false = soundB r r.length ar b
          exact (sound_bad (hJ_bad h2 (by omega) (fun q => absurd q.2 (by omega)))).symm
        have hp : ¬ (h < popR r (gO b i.toNat)) := @of_decide_eq_false _ _ hp
        have w1 : IntKind.i64.wrap (1 - popR r (gO b i.toNat)) = 1 - popR r (gO b i.toNat) := wrap_eq (by omega) (by omega)
        have w2 : IntKind.i64.wrap (h + IntKind.i64.wrap (1 - popR r (gO b i.toNat))) = h + 1 - popR r (gO b i.toNat) := by rw [w1, wrap_eq (by omega) (by omega)]; omega
        conv => whnf
        refine ⟨(h + 1 - popR r (gO b i.toNat), i + 1), ?_, ⟨by show 0 ≤ i + 1; omega, by show i + 1 ≤ (b.length : Int); omega, by show 0 ≤ h + 1 - popR r (gO b i.toNat) ∧ h + 1 - popR r (gO b i.toNat) ≤ i + 1; omega, ?_⟩, by show ((b.length : Int) - (i + 1)).toNat < ((b.length : Int) - i).toNat; omega⟩
        · exact Eq.trans (b := S45 r ar b (IntKind.i64.wrap (h + IntKind.i64.wrap (1 - popR r (gO b i.toNat)))) (IntKind.i64.wrap (i + 1))) rfl (by rw [w2, wi])
        · show hJ r r.length ar b (i + 1).toNat = _
          rw [ei]
          exact hJ_ok h2 hk (by omega)
      have b1 : ¬ ((gO b i.toNat).1 = 0) := @of_decide_eq_false _ _ b1
      exfalso
      omega
    · conv => whnf
      refine cond_intro (fun a1 => ?_) (fun a1 => ?_)
      · have a1 : (gO b i.toNat).1 < 0 := @of_decide_eq_true _ _ a1
        exfalso
        omega
      have a1 : ¬ ((gO b i.toNat).1 < 0) := @of_decide_eq_false _ _ a1
      conv => whnf
      refine cond_intro (fun a2 => ?_) (fun a2 => ?_)
      · have a2 : 12 < (gO b i.toNat).1 := @of_decide_eq_true _ _ a2
        exfalso
        omega
      have a2 : ¬ (12 < (gO b i.toNat).1) := @of_decide_eq_false _ _ a2
      conv => whnf
      refine cond_intro (fun b1 => ?_) (fun b1 => ?_)
      · have b1 : (gO b i.toNat).1 = 0 := @of_decide_eq_true _ _ b1
        exfalso
        omega
      have b1 : ¬ ((gO b i.toNat).1 = 0) := @of_decide_eq_false _ _ b1
      conv => whnf
      refine cond_intro (fun c1 => ?_) (fun c1 => ?_)
      · have c1 : (gO b i.toNat).1 = 1 := @of_decide_eq_true _ _ c1
        conv => whnf
        refine cond_intro (fun c2 => ?_) (fun c2 => ?_)
        · have c2 : (gO b i.toNat).2 < 0 := @of_decide_eq_true _ _ c2
          conv => whnf
          show false = soundB r r.length ar b
          exact (sound_bad (hJ_bad h2 (by omega) (fun q => (by rw [kn_1 c1, decide_eq_false (by omega)] at q; cases q.1)))).symm
        have c2 : ¬ ((gO b i.toNat).2 < 0) := @of_decide_eq_false _ _ c2
        conv => whnf
        refine cond_intro (fun c3 => ?_) (fun c3 => ?_)
        · have c3 : ar ≤ (gO b i.toNat).2 := @of_decide_eq_true _ _ c3
          conv => whnf
          show false = soundB r r.length ar b
          exact (sound_bad (hJ_bad h2 (by omega) (fun q => (by rw [kn_1 c1, decide_eq_false (p := _ < ar) (by omega), Bool.and_false] at q; cases q.1)))).symm
        have c3 : ¬ (ar ≤ (gO b i.toNat).2) := @of_decide_eq_false _ _ c3
        conv => whnf
        refine cond_intro (fun d1 => ?_) (fun d1 => ?_)
        · have d1 : (gO b i.toNat).1 = 10 := @of_decide_eq_true _ _ d1
          exfalso
          omega
        have d1 : ¬ ((gO b i.toNat).1 = 10) := @of_decide_eq_false _ _ d1
        conv => whnf
        refine cond_intro (fun e1 => ?_) (fun e1 => ?_)
        · have e1 : (!decide ((gO b i.toNat).1 = 0)) = true := e1
          have e1 : ¬ ((gO b i.toNat).1 = 0) := fun e => absurd e1 (by rw [decide_eq_true e]; decide)
          conv => whnf
          refine cond_intro (fun e2 => ?_) (fun e2 => ?_)
          · have e2 : (!decide ((gO b i.toNat).1 = 1)) = true := e2
            have e2 : ¬ ((gO b i.toNat).1 = 1) := fun e => absurd e2 (by rw [decide_eq_true e]; decide)
            exfalso
            omega
          have e2 : (!decide ((gO b i.toNat).1 = 1)) = false := e2
          have e2 : (gO b i.toNat).1 = 1 := Decidable.byContradiction fun e => absurd e2 (by rw [decide_eq_false e]; decide)
          have hk : knB (gO b i.toNat) r.length ar = true := by rw [kn_1 c1, decide_eq_true (by omega), decide_eq_true (by omega)]; rfl
          have hpk := kn_pop (r := r) hk (Int.le_refl _)
          have hpi := pop_in ha hpk
          conv => whnf
          refine ⟨hpk, ?_⟩
          conv => whnf
          refine cond_intro (fun hp => ?_) (fun hp => ?_)
          · have hp : h < popR r (gO b i.toNat) := @of_decide_eq_true _ _ hp
            conv => whnf
            show false = soundB r r.length ar b
            exact (sound_bad (hJ_bad h2 (by omega) (fun q => absurd q.2 (by omega)))).symm
          have hp : ¬ (h < popR r (gO b i.toNat)) := @of_decide_eq_false _ _ hp
          have w1 : IntKind.i64.wrap (1 - popR r (gO b i.toNat)) = 1 - popR r (gO b i.toNat) := wrap_eq (by omega) (by omega)
          have w2 : IntKind.i64.wrap (h + IntKind.i64.wrap (1 - popR r (gO b i.toNat))) = h + 1 - popR r (gO b i.toNat) := by rw [w1, wrap_eq (by omega) (by omega)]; omega
          conv => whnf
          refine ⟨(h + 1 - popR r (gO b i.toNat), i + 1), ?_, ⟨by show 0 ≤ i + 1; omega, by show i + 1 ≤ (b.length : Int); omega, by show 0 ≤ h + 1 - popR r (gO b i.toNat) ∧ h + 1 - popR r (gO b i.toNat) ≤ i + 1; omega, ?_⟩, by show ((b.length : Int) - (i + 1)).toNat < ((b.length : Int) - i).toNat; omega⟩
          · exact Eq.trans (b := S45 r ar b (IntKind.i64.wrap (h + IntKind.i64.wrap (1 - popR r (gO b i.toNat)))) (IntKind.i64.wrap (i + 1))) rfl (by rw [w2, wi])
          · show hJ r r.length ar b (i + 1).toNat = _
            rw [ei]
            exact hJ_ok h2 hk (by omega)
        have e1 : (!decide ((gO b i.toNat).1 = 0)) = false := e1
        have e1 : (gO b i.toNat).1 = 0 := Decidable.byContradiction fun e => absurd e1 (by rw [decide_eq_false e]; decide)
        exfalso
        omega
      have c1 : ¬ ((gO b i.toNat).1 = 1) := @of_decide_eq_false _ _ c1
      exfalso
      omega
    · conv => whnf
      refine cond_intro (fun a1 => ?_) (fun a1 => ?_)
      · have a1 : (gO b i.toNat).1 < 0 := @of_decide_eq_true _ _ a1
        exfalso
        omega
      have a1 : ¬ ((gO b i.toNat).1 < 0) := @of_decide_eq_false _ _ a1
      conv => whnf
      refine cond_intro (fun a2 => ?_) (fun a2 => ?_)
      · have a2 : 12 < (gO b i.toNat).1 := @of_decide_eq_true _ _ a2
        exfalso
        omega
      have a2 : ¬ (12 < (gO b i.toNat).1) := @of_decide_eq_false _ _ a2
      conv => whnf
      refine cond_intro (fun b1 => ?_) (fun b1 => ?_)
      · have b1 : (gO b i.toNat).1 = 0 := @of_decide_eq_true _ _ b1
        exfalso
        omega
      have b1 : ¬ ((gO b i.toNat).1 = 0) := @of_decide_eq_false _ _ b1
      conv => whnf
      refine cond_intro (fun c1 => ?_) (fun c1 => ?_)
      · have c1 : (gO b i.toNat).1 = 1 := @of_decide_eq_true _ _ c1
        exfalso
        omega
      have c1 : ¬ ((gO b i.toNat).1 = 1) := @of_decide_eq_false _ _ c1
      conv => whnf
      refine cond_intro (fun d1 => ?_) (fun d1 => ?_)
      · have d1 : (gO b i.toNat).1 = 10 := @of_decide_eq_true _ _ d1
        conv => whnf
        refine cond_intro (fun d2 => ?_) (fun d2 => ?_)
        · have d2 : (gO b i.toNat).2 < 0 := @of_decide_eq_true _ _ d2
          conv => whnf
          show false = soundB r r.length ar b
          exact (sound_bad (hJ_bad h2 (by omega) (fun q => (by rw [kn_10 d1, decide_eq_false (by omega)] at q; cases q.1)))).symm
        have d2 : ¬ ((gO b i.toNat).2 < 0) := @of_decide_eq_false _ _ d2
        conv => whnf
        refine cond_intro (fun d3 => ?_) (fun d3 => ?_)
        · have d3 : (r.length : Int) ≤ (gO b i.toNat).2 := @of_decide_eq_true _ _ d3
          conv => whnf
          show false = soundB r r.length ar b
          exact (sound_bad (hJ_bad h2 (by omega) (fun q => (by rw [kn_10 d1, decide_eq_false (p := _ < (r.length : Int)) (by omega), Bool.and_false] at q; cases q.1)))).symm
        have d3 : ¬ ((r.length : Int) ≤ (gO b i.toNat).2) := @of_decide_eq_false _ _ d3
        conv => whnf
        refine cond_intro (fun e1 => ?_) (fun e1 => ?_)
        · have e1 : (!decide ((gO b i.toNat).1 = 0)) = true := e1
          have e1 : ¬ ((gO b i.toNat).1 = 0) := fun e => absurd e1 (by rw [decide_eq_true e]; decide)
          conv => whnf
          refine cond_intro (fun e2 => ?_) (fun e2 => ?_)
          · have e2 : (!decide ((gO b i.toNat).1 = 1)) = true := e2
            have e2 : ¬ ((gO b i.toNat).1 = 1) := fun e => absurd e2 (by rw [decide_eq_true e]; decide)
            conv => whnf
            refine cond_intro (fun e3 => ?_) (fun e3 => ?_)
            · have e3 : (!decide ((gO b i.toNat).1 = 10)) = true := e3
              have e3 : ¬ ((gO b i.toNat).1 = 10) := fun e => absurd e3 (by rw [decide_eq_true e]; decide)
              exfalso
              omega
            have e3 : (!decide ((gO b i.toNat).1 = 10)) = false := e3
            have e3 : (gO b i.toNat).1 = 10 := Decidable.byContradiction fun e => absurd e3 (by rw [decide_eq_false e]; decide)
            have hk : knB (gO b i.toNat) r.length ar = true := by rw [kn_10 d1, decide_eq_true (by omega), decide_eq_true (by omega)]; rfl
            have hpk := kn_pop (r := r) hk (Int.le_refl _)
            have hpi := pop_in ha hpk
            conv => whnf
            refine ⟨hpk, ?_⟩
            conv => whnf
            refine cond_intro (fun hp => ?_) (fun hp => ?_)
            · have hp : h < popR r (gO b i.toNat) := @of_decide_eq_true _ _ hp
              conv => whnf
              show false = soundB r r.length ar b
              exact (sound_bad (hJ_bad h2 (by omega) (fun q => absurd q.2 (by omega)))).symm
            have hp : ¬ (h < popR r (gO b i.toNat)) := @of_decide_eq_false _ _ hp
            have w1 : IntKind.i64.wrap (1 - popR r (gO b i.toNat)) = 1 - popR r (gO b i.toNat) := wrap_eq (by omega) (by omega)
            have w2 : IntKind.i64.wrap (h + IntKind.i64.wrap (1 - popR r (gO b i.toNat))) = h + 1 - popR r (gO b i.toNat) := by rw [w1, wrap_eq (by omega) (by omega)]; omega
            conv => whnf
            refine ⟨(h + 1 - popR r (gO b i.toNat), i + 1), ?_, ⟨by show 0 ≤ i + 1; omega, by show i + 1 ≤ (b.length : Int); omega, by show 0 ≤ h + 1 - popR r (gO b i.toNat) ∧ h + 1 - popR r (gO b i.toNat) ≤ i + 1; omega, ?_⟩, by show ((b.length : Int) - (i + 1)).toNat < ((b.length : Int) - i).toNat; omega⟩
            · exact Eq.trans (b := S45 r ar b (IntKind.i64.wrap (h + IntKind.i64.wrap (1 - popR r (gO b i.toNat)))) (IntKind.i64.wrap (i + 1))) rfl (by rw [w2, wi])
            · show hJ r r.length ar b (i + 1).toNat = _
              rw [ei]
              exact hJ_ok h2 hk (by omega)
          have e2 : (!decide ((gO b i.toNat).1 = 1)) = false := e2
          have e2 : (gO b i.toNat).1 = 1 := Decidable.byContradiction fun e => absurd e2 (by rw [decide_eq_false e]; decide)
          exfalso
          omega
        have e1 : (!decide ((gO b i.toNat).1 = 0)) = false := e1
        have e1 : (gO b i.toNat).1 = 0 := Decidable.byContradiction fun e => absurd e1 (by rw [decide_eq_false e]; decide)
        exfalso
        omega
      have d1 : ¬ ((gO b i.toNat).1 = 10) := @of_decide_eq_false _ _ d1
      exfalso
      omega
    conv => whnf
    refine cond_intro (fun a1 => ?_) (fun a1 => ?_)
    · have a1 : (gO b i.toNat).1 < 0 := @of_decide_eq_true _ _ a1
      exfalso
      omega
    have a1 : ¬ ((gO b i.toNat).1 < 0) := @of_decide_eq_false _ _ a1
    conv => whnf
    refine cond_intro (fun a2 => ?_) (fun a2 => ?_)
    · have a2 : 12 < (gO b i.toNat).1 := @of_decide_eq_true _ _ a2
      exfalso
      omega
    have a2 : ¬ (12 < (gO b i.toNat).1) := @of_decide_eq_false _ _ a2
    conv => whnf
    refine cond_intro (fun b1 => ?_) (fun b1 => ?_)
    · have b1 : (gO b i.toNat).1 = 0 := @of_decide_eq_true _ _ b1
      exfalso
      omega
    have b1 : ¬ ((gO b i.toNat).1 = 0) := @of_decide_eq_false _ _ b1
    conv => whnf
    refine cond_intro (fun c1 => ?_) (fun c1 => ?_)
    · have c1 : (gO b i.toNat).1 = 1 := @of_decide_eq_true _ _ c1
      exfalso
      omega
    have c1 : ¬ ((gO b i.toNat).1 = 1) := @of_decide_eq_false _ _ c1
    conv => whnf
    refine cond_intro (fun d1 => ?_) (fun d1 => ?_)
    · have d1 : (gO b i.toNat).1 = 10 := @of_decide_eq_true _ _ d1
      exfalso
      omega
    have d1 : ¬ ((gO b i.toNat).1 = 10) := @of_decide_eq_false _ _ d1
    conv => whnf
    refine cond_intro (fun e1 => ?_) (fun e1 => ?_)
    · have e1 : (!decide ((gO b i.toNat).1 = 0)) = true := e1
      have e1 : ¬ ((gO b i.toNat).1 = 0) := fun e => absurd e1 (by rw [decide_eq_true e]; decide)
      conv => whnf
      refine cond_intro (fun e2 => ?_) (fun e2 => ?_)
      · have e2 : (!decide ((gO b i.toNat).1 = 1)) = true := e2
        have e2 : ¬ ((gO b i.toNat).1 = 1) := fun e => absurd e2 (by rw [decide_eq_true e]; decide)
        conv => whnf
        refine cond_intro (fun e3 => ?_) (fun e3 => ?_)
        · have e3 : (!decide ((gO b i.toNat).1 = 10)) = true := e3
          have e3 : ¬ ((gO b i.toNat).1 = 10) := fun e => absurd e3 (by rw [decide_eq_true e]; decide)
          conv => whnf
          refine cond_intro (fun e4 => ?_) (fun e4 => ?_)
          · have e4 : (!decide ((gO b i.toNat).2 = 0)) = true := e4
            have e4 : ¬ ((gO b i.toNat).2 = 0) := fun e => absurd e4 (by rw [decide_eq_true e]; decide)
            conv => whnf
            show false = soundB r r.length ar b
            exact (sound_bad (hJ_bad h2 (by omega) (fun q => (by rw [kn_2 hc.1 hc.2.1 hc.2.2.1 hc.2.2.2, decide_eq_false e4] at q; cases q.1)))).symm
          have e4 : (!decide ((gO b i.toNat).2 = 0)) = false := e4
          have e4 : (gO b i.toNat).2 = 0 := Decidable.byContradiction fun e => absurd e4 (by rw [decide_eq_false e]; decide)
          have hk : knB (gO b i.toNat) r.length ar = true := by rw [kn_2 hc.1 hc.2.1 hc.2.2.1 hc.2.2.2, decide_eq_true e4]
          have hpk := kn_pop (r := r) hk (Int.le_refl _)
          have hpi := pop_in ha hpk
          conv => whnf
          refine ⟨hpk, ?_⟩
          conv => whnf
          refine cond_intro (fun hp => ?_) (fun hp => ?_)
          · have hp : h < popR r (gO b i.toNat) := @of_decide_eq_true _ _ hp
            conv => whnf
            show false = soundB r r.length ar b
            exact (sound_bad (hJ_bad h2 (by omega) (fun q => absurd q.2 (by omega)))).symm
          have hp : ¬ (h < popR r (gO b i.toNat)) := @of_decide_eq_false _ _ hp
          have w1 : IntKind.i64.wrap (1 - popR r (gO b i.toNat)) = 1 - popR r (gO b i.toNat) := wrap_eq (by omega) (by omega)
          have w2 : IntKind.i64.wrap (h + IntKind.i64.wrap (1 - popR r (gO b i.toNat))) = h + 1 - popR r (gO b i.toNat) := by rw [w1, wrap_eq (by omega) (by omega)]; omega
          conv => whnf
          refine ⟨(h + 1 - popR r (gO b i.toNat), i + 1), ?_, ⟨by show 0 ≤ i + 1; omega, by show i + 1 ≤ (b.length : Int); omega, by show 0 ≤ h + 1 - popR r (gO b i.toNat) ∧ h + 1 - popR r (gO b i.toNat) ≤ i + 1; omega, ?_⟩, by show ((b.length : Int) - (i + 1)).toNat < ((b.length : Int) - i).toNat; omega⟩
          · exact Eq.trans (b := S45 r ar b (IntKind.i64.wrap (h + IntKind.i64.wrap (1 - popR r (gO b i.toNat)))) (IntKind.i64.wrap (i + 1))) rfl (by rw [w2, wi])
          · show hJ r r.length ar b (i + 1).toNat = _
            rw [ei]
            exact hJ_ok h2 hk (by omega)
        have e3 : (!decide ((gO b i.toNat).1 = 10)) = false := e3
        have e3 : (gO b i.toNat).1 = 10 := Decidable.byContradiction fun e => absurd e3 (by rw [decide_eq_false e]; decide)
        exfalso
        omega
      have e2 : (!decide ((gO b i.toNat).1 = 1)) = false := e2
      have e2 : (gO b i.toNat).1 = 1 := Decidable.byContradiction fun e => absurd e2 (by rw [decide_eq_false e]; decide)
      exfalso
      omega
    have e1 : (!decide ((gO b i.toNat).1 = 0)) = false := e1
    have e1 : (gO b i.toNat).1 = 0 := Decidable.byContradiction fun e => absurd e1 (by rw [decide_eq_false e]; decide)
    exfalso
    omega
  have hi : ¬ (i < (b.length : Int)) := @of_decide_eq_false _ _ hi
  rw [show i.toNat = b.length by omega] at h2
  conv => whnf
  show decide (h = 1) = soundB r r.length ar b
  rw [sound_end h2, decide_eq_true (p := (b.length : Int) ≤ 60) (by omega), Bool.and_true]
end
end Go.Proofs.YtaafjaibaaiigaaGreatDoor.Eng
set_option linter.unusedVariables false
set_option linter.unusedSimpArgs false
namespace Go.Proofs.YtaafjaibaaiigaaGreatDoor.Eng
open Go
set_option maxRecDepth 100000
noncomputable section
/-- A step that calls a rule whose cost is told. -/
def callOk (c : List Int) (o : Op2) : Prop := o.1 = 10 ∧ 0 ≤ o.2 ∧ o.2 < (c.length : Int)
instance (c : List Int) (o : Op2) : Decidable (callOk c o) := by unfold callOk; infer_instance
def addJ (c : List Int) (b : List Op2) : Nat → Int
  | 0 => 0
  | n + 1 => addJ c b n + (if callOk c (gO b n) then gI c (gO b n).2.toNat else 0)
theorem addJ_yes {c : List Int} {b : List Op2} {n : Nat} (h : callOk c (gO b n)) : addJ c b (n + 1) = addJ c b n + gI c (gO b n).2.toNat := by rw [addJ, if_pos h]
theorem addJ_no {c : List Int} {b : List Op2} {n : Nat} (h : ¬ callOk c (gO b n)) : addJ c b (n + 1) = addJ c b n := by
  rw [addJ, if_neg h]; omega
def costOk (c : List Int) : Prop := ∀ i, 0 ≤ gI c i ∧ gI c i ≤ 100001
theorem addJ_nn {c : List Int} {b : List Op2} (h : costOk c) : ∀ n, 0 ≤ addJ c b n
  | 0 => Int.le_refl _
  | n + 1 => by
    have ih := addJ_nn (b := b) h n
    unfold addJ
    split
    · have := h (gO b n).2.toNat; omega
    · omega
/-- What a body costs, at most one more than may be. -/
def priceR (c : List Int) (b : List Op2) : Int := min2 ((b.length : Int) + addJ c b b.length) 100001
theorem price_in {c : List Int} {b : List Op2} (h : costOk c) : 0 ≤ priceR c b ∧ priceR c b ≤ 100001 := by
  have := addJ_nn (b := b) h b.length
  unfold priceR min2; split <;> omega
def bodyOk (r : List Ru) : Prop := ∀ x ∈ r, x.2.2.length ≤ 140737488351232
/-- What the first rules cost. -/
def costsJ (r : List Ru) : Nat → List Int
  | 0 => []
  | n + 1 => costsJ r n ++ [priceR (costsJ r n) (gR r n).2.2]
theorem costsJ_len (r : List Ru) : ∀ n, (costsJ r n).length = n
  | 0 => rfl
  | n + 1 => by rw [costsJ, List.length_append, costsJ_len r n]; rfl
theorem gI_app {a b : List Int} {i : Nat} : gI (a ++ b) i = if i < a.length then gI a i else gI b (i - a.length) := by
  unfold gI
  rw [List.getD_eq_getElem?_getD, List.getElem?_append]
  split
  · rw [List.getD_eq_getElem?_getD]
  · rw [List.getD_eq_getElem?_getD]
theorem gI_out {l : List Int} {i : Nat} (h : l.length ≤ i) : gI l i = 0 := by
  unfold gI; rw [List.getD_eq_getElem?_getD, List.getElem?_eq_none h]; rfl
theorem costsJ_ok (r : List Ru) : ∀ n, costOk (costsJ r n)
  | 0 => fun i => by rw [gI_out (by simp [costsJ])]; omega
  | n + 1 => fun i => by
    have ih := costsJ_ok r n
    rw [costsJ, gI_app]
    split
    · exact ih i
    · cases h : i - (costsJ r n).length with
      | zero => exact price_in ih
      | succ k => rw [gI_out (by simp)]; omega
def costsR (r : List Ru) : List Int := costsJ r r.length
theorem costs_len (r : List Ru) : (costsR r).length = r.length := costsJ_len r _
theorem costs_ok (r : List Ru) : costOk (costsR r) := costsJ_ok r _
theorem set_mid {a : List Int} {v x : Int} {z : List Int} : (a ++ x :: z).set a.length v = (a ++ [v]) ++ z := by
  rw [List.set_append, if_neg (Nat.lt_irrefl _), Nat.sub_self]
  simp
/-- The largest. -/
def maxJ (l : List Int) : Nat → Int
  | 0 => gI l 0
  | n + 1 => max2 (maxJ l n) (gI l n)
theorem maxJ_gt {l : List Int} {b : Int} : ∀ n, 0 < n → (b < maxJ l n ↔ ∃ i, i < n ∧ b < gI l i)
  | 0, h => by omega
  | 1, _ => by
    have e : maxJ l 1 = gI l 0 := by unfold maxJ max2; rw [maxJ]; split <;> rfl
    rw [e]
    exact ⟨fun h => ⟨0, by omega, h⟩, fun ⟨i, h1, h2⟩ => by rw [show i = 0 by omega] at h2; exact h2⟩
  | n + 2, _ => by
    have ih := maxJ_gt (l := l) (b := b) (n + 1) (by omega)
    rw [maxJ]
    constructor
    · intro h
      unfold max2 at h
      split at h
      · exact ⟨n + 1, by omega, h⟩
      · obtain ⟨i, h1, h2⟩ := ih.1 h
        exact ⟨i, by omega, h2⟩
    · rintro ⟨i, h1, h2⟩
      by_cases e : i = n + 1
      · subst e
        unfold max2
        split <;> omega
      · have := ih.2 ⟨i, by omega, h2⟩
        unfold max2
        split <;> omega
def allV (l : List Int) : Bool := allIn (-2147483647) 2147483647 l l.length
def ixV (l : List Int) : Int := if allV l = true then -1 else (fst (fun j => !inB (gI l j) (-2147483647) 2147483647) l.length 0 : Int)
theorem ixV_at {l : List Int} {i : Nat} (hi : i < l.length) (h : allIn (-2147483647) 2147483647 l i = true) (e : inB (gI l i) (-2147483647) 2147483647 = false) : ixV l = i := by
  unfold ixV allV
  rw [allIn_bad hi e, if_neg (by decide), fst_eq (i := i) (Nat.zero_le _) (by omega) (fun j _ hj => by rw [allIn_at h hj]; rfl) (fun _ => by rw [e]; rfl)]
theorem ixV_iff (l : List Int) : decide (0 ≤ ixV l) = !allV l := by
  unfold ixV
  cases allV l
  · rw [if_neg (by decide), decide_eq_true (by omega)]; rfl
  · rw [if_pos rfl]; rfl
def S73 (c : List Int) (b : List Op2) (s i : Int) : SL := ⟨[.sl I c, .undef, .undef, .undef, .undef, .int .i64 s, .undef, .undef, .undef, .undef, .sl opT b, .int .i64 b.length, .int .i64 i, .undef, .undef, .undef, .undef, .undef, .undef, .undef, .undef, .undef, .undef, .undef, .undef, .undef, .undef, .undef, .undef, .undef, .undef, .undef, .undef, .undef, .undef, .undef, .undef, .undef, .undef, .undef, .undef, .undef], [], 0⟩
def S46 (c : List Int) (b : List Op2) (s i : Int) : SL := ⟨[.sl I c, .undef, .undef, .undef, .undef, .int .i64 s, .undef, .undef, .sl opT b, .int .i64 b.length, .int .i64 i, .undef, .undef, .undef, .undef, .undef, .undef, .undef, .undef, .undef, .undef, .undef, .undef, .undef, .undef, .undef, .undef, .undef, .undef, .undef, .undef, .undef, .undef, .undef, .undef, .undef, .undef, .undef, .undef, .undef, .undef, .undef], [], 0⟩
def E73 : Env := ⟨tab, [], fun n => match n with | 3 => some ([0, 5, 10, 11, 12], [], []) | _ => none⟩
def K73 : Fn1 := ⟨.fld (.sl I) (.one (.sl opT)), .one I, fun (x : List Int × List Op2) => [costOk x.1, x.2.length ≤ 140737488351232], fun (x : List Int × List Op2) => priceR x.1 x.2⟩
set_option maxHeartbeats 1000000 in
theorem k73 : FnOk Go.Proofs.Tryz.prog 73 K73 := by
  refine fn_ok (E := E73) (TOk.of tab_told) (fun f k h => by cases h) mix Go.Proofs.Tryz.func73 rfl rfl (by kernel_rfl) K73 ?_
  rintro ⟨(c : List Int), (b : List Op2)⟩ hp
  have hc : costOk c := hp _ (List.mem_cons_self ..)
  have hl : b.length ≤ 140737488351232 := hp _ (List.mem_cons_of_mem _ (List.mem_cons_self ..))
  clear hp
  conv => whnf
  refine loop_rule (fun (x : Int × Int) => S73 c b x.1 x.2) (fun x => ((b.length : Int) - x.2).toNat) (fun x => 0 ≤ x.2 ∧ x.2 ≤ (b.length : Int) ∧ ((0 ≤ x.1 ∧ x.1 ≤ (b.length : Int) + 100001) ∧ min2 x.1 100001 = min2 ((b.length : Int) + addJ c b x.2.toNat) 100001)) ?_ ((b.length : Int), 0) (by kernel_rfl) ?_ ⟨by show (0 : Int) ≤ 0; omega, by show (0 : Int) ≤ _; omega, ⟨by show 0 ≤ (b.length : Int); omega, by show (b.length : Int) ≤ _; omega⟩, by show min2 (b.length : Int) 100001 = min2 ((b.length : Int) + 0) 100001; rw [Int.add_zero]⟩
  case refine_2 => rfl
  rintro ⟨s, i⟩ hy
  have i0 : 0 ≤ i := hy.1
  have i1 : i ≤ (b.length : Int) := hy.2.1
  have hs := hy.2.2
  clear hy
  have hn := addJ_nn (b := b) hc i.toNat
  have ii : ((i.toNat : Nat) : Int) = i := by omega
  have hs : (0 ≤ s ∧ s ≤ (b.length : Int) + 100001) ∧ min2 s 100001 = min2 ((b.length : Int) + addJ c b i.toNat) 100001 := hs
  conv => whnf
  refine cond_intro (fun hi => ?_) (fun hi => ?_)
  · have hi : i < (b.length : Int) := @of_decide_eq_true _ _ hi
    have wi : IntKind.i64.wrap (i + 1) = i + 1 := wrap_eq (by omega) (by omega)
    have ei : (i + 1).toNat = i.toNat + 1 := by omega
    conv => whnf
    refine ⟨i0, ?_⟩
    conv => whnf
    refine ⟨hi, ?_⟩
    conv => whnf
    refine cond_intro (fun k1 => ?_) (fun k1 => ?_)
    · have k1 : (gO b i.toNat).1 = 10 := @of_decide_eq_true _ _ k1
      conv => whnf
      refine cond_intro (fun k2 => ?_) (fun k2 => ?_)
      · have k2 : 0 ≤ (gO b i.toNat).2 := @of_decide_eq_true _ _ k2
        conv => whnf
        refine cond_intro (fun k3 => ?_) (fun k3 => ?_)
        · have k3 : (gO b i.toNat).2 < (c.length : Int) := @of_decide_eq_true _ _ k3
          have hcall : callOk c (gO b i.toNat) := ⟨k1, k2, k3⟩
          have hci := hc (gO b i.toNat).2.toNat
          have w1 : (IntKind.i64.wrap (s + gI c (gO b i.toNat).2.toNat)) = s + gI c (gO b i.toNat).2.toNat := wrap_eq (by omega) (by omega)
          conv => whnf
          refine ⟨k2, ?_⟩
          conv => whnf
          refine ⟨k3, ?_⟩
          conv => whnf
          refine ⟨(min2 (IntKind.i64.wrap (s + gI c (gO b i.toNat).2.toNat)) 100001, i + 1), ?_, ⟨by show 0 ≤ i + 1; omega, by show i + 1 ≤ (b.length : Int); omega, ?_⟩, by show ((b.length : Int) - (i + 1)).toNat < ((b.length : Int) - i).toNat; omega⟩
          · exact Eq.trans (b := S73 c b (min2 (IntKind.i64.wrap (s + gI c (gO b i.toNat).2.toNat)) 100001) (IntKind.i64.wrap (i + 1))) rfl (by rw [wi])
          · show (0 ≤ min2 (IntKind.i64.wrap (s + gI c (gO b i.toNat).2.toNat)) 100001 ∧ min2 (IntKind.i64.wrap (s + gI c (gO b i.toNat).2.toNat)) 100001 ≤ (b.length : Int) + 100001) ∧ min2 (min2 (IntKind.i64.wrap (s + gI c (gO b i.toNat).2.toNat)) 100001) 100001 = min2 ((b.length : Int) + addJ c b (i + 1).toNat) 100001
            rw [ei, addJ_yes hcall, w1]
            have hs2 := hs.2
            unfold min2 at hs2 ⊢
            refine ⟨?_, ?_⟩
            · split <;> omega
            · split at hs2 <;> split at hs2 <;> repeat' split
              all_goals omega
        have k3 : ¬ ((gO b i.toNat).2 < (c.length : Int)) := @of_decide_eq_false _ _ k3
        have hcall : ¬ callOk c (gO b i.toNat) := fun q => absurd q.2.2 k3
        conv => whnf
        refine ⟨(s, i + 1), ?_, ⟨by show 0 ≤ i + 1; omega, by show i + 1 ≤ (b.length : Int); omega, ?_⟩, by show ((b.length : Int) - (i + 1)).toNat < ((b.length : Int) - i).toNat; omega⟩
        · exact Eq.trans (b := S73 c b s (IntKind.i64.wrap (i + 1))) rfl (by rw [wi])
        · show (0 ≤ s ∧ s ≤ (b.length : Int) + 100001) ∧ min2 s 100001 = min2 ((b.length : Int) + addJ c b (i + 1).toNat) 100001
          rw [ei, addJ_no hcall]
          exact hs
      have k2 : ¬ (0 ≤ (gO b i.toNat).2) := @of_decide_eq_false _ _ k2
      have hcall : ¬ callOk c (gO b i.toNat) := fun q => absurd q.2.1 k2
      conv => whnf
      refine ⟨(s, i + 1), ?_, ⟨by show 0 ≤ i + 1; omega, by show i + 1 ≤ (b.length : Int); omega, ?_⟩, by show ((b.length : Int) - (i + 1)).toNat < ((b.length : Int) - i).toNat; omega⟩
      · exact Eq.trans (b := S73 c b s (IntKind.i64.wrap (i + 1))) rfl (by rw [wi])
      · show (0 ≤ s ∧ s ≤ (b.length : Int) + 100001) ∧ min2 s 100001 = min2 ((b.length : Int) + addJ c b (i + 1).toNat) 100001
        rw [ei, addJ_no hcall]
        exact hs
    have k1 : ¬ ((gO b i.toNat).1 = 10) := @of_decide_eq_false _ _ k1
    have hcall : ¬ callOk c (gO b i.toNat) := fun q => absurd q.1 k1
    conv => whnf
    refine ⟨(s, i + 1), ?_, ⟨by show 0 ≤ i + 1; omega, by show i + 1 ≤ (b.length : Int); omega, ?_⟩, by show ((b.length : Int) - (i + 1)).toNat < ((b.length : Int) - i).toNat; omega⟩
    · exact Eq.trans (b := S73 c b s (IntKind.i64.wrap (i + 1))) rfl (by rw [wi])
    · show (0 ≤ s ∧ s ≤ (b.length : Int) + 100001) ∧ min2 s 100001 = min2 ((b.length : Int) + addJ c b (i + 1).toNat) 100001
      rw [ei, addJ_no hcall]
      exact hs
  have hi : ¬ (i < (b.length : Int)) := @of_decide_eq_false _ _ hi
  rw [show i.toNat = b.length by omega] at hs
  conv => whnf
  show min2 s 100001 = priceR c b
  exact hs.2
def E46 : Env := ⟨tab, [], fun n => match n with | 3 => some ([0, 5, 8, 9, 10], [], []) | _ => none⟩
def K46 : Fn1 := ⟨.fld (.sl I) (.one (.sl opT)), .one I, fun (x : List Int × List Op2) => [costOk x.1, x.2.length ≤ 140737488351232], fun (x : List Int × List Op2) => priceR x.1 x.2⟩
set_option maxHeartbeats 1000000 in
theorem k46 : FnOk Go.Proofs.Tryz.prog 46 K46 := by
  refine fn_ok (E := E46) (TOk.of tab_told) (fun f k h => by cases h) mix Go.Proofs.Tryz.func46 rfl rfl (by kernel_rfl) K46 ?_
  rintro ⟨(c : List Int), (b : List Op2)⟩ hp
  have hc : costOk c := hp _ (List.mem_cons_self ..)
  have hl : b.length ≤ 140737488351232 := hp _ (List.mem_cons_of_mem _ (List.mem_cons_self ..))
  clear hp
  conv => whnf
  refine loop_rule (fun (x : Int × Int) => S46 c b x.1 x.2) (fun x => ((b.length : Int) - x.2).toNat) (fun x => 0 ≤ x.2 ∧ x.2 ≤ (b.length : Int) ∧ (x.1 = min2 (x.2 + addJ c b x.2.toNat) 100001)) ?_ (0, 0) (by kernel_rfl) ?_ ⟨by show (0 : Int) ≤ 0; omega, by show (0 : Int) ≤ _; omega, by show (0 : Int) = min2 (0 + 0) 100001; rfl⟩
  case refine_2 => rfl
  rintro ⟨s, i⟩ hy
  have i0 : 0 ≤ i := hy.1
  have i1 : i ≤ (b.length : Int) := hy.2.1
  have hs := hy.2.2
  clear hy
  have hn := addJ_nn (b := b) hc i.toNat
  have ii : ((i.toNat : Nat) : Int) = i := by omega
  have hs : s = min2 (i + addJ c b i.toNat) 100001 := hs
  have sb : 0 ≤ s ∧ s ≤ 100001 := by rw [hs]; unfold min2; split <;> omega
  conv => whnf
  refine cond_intro (fun hi => ?_) (fun hi => ?_)
  · have hi : i < (b.length : Int) := @of_decide_eq_true _ _ hi
    have wi : IntKind.i64.wrap (i + 1) = i + 1 := wrap_eq (by omega) (by omega)
    have ei : (i + 1).toNat = i.toNat + 1 := by omega
    have w0 : (IntKind.i64.wrap (s + 1)) = s + 1 := wrap_eq (by omega) (by omega)
    conv => whnf
    refine ⟨i0, ?_⟩
    conv => whnf
    refine ⟨hi, ?_⟩
    conv => whnf
    refine cond_intro (fun k1 => ?_) (fun k1 => ?_)
    · have k1 : (gO b i.toNat).1 = 10 := @of_decide_eq_true _ _ k1
      conv => whnf
      refine cond_intro (fun k2 => ?_) (fun k2 => ?_)
      · have k2 : 0 ≤ (gO b i.toNat).2 := @of_decide_eq_true _ _ k2
        conv => whnf
        refine cond_intro (fun k3 => ?_) (fun k3 => ?_)
        · have k3 : (gO b i.toNat).2 < (c.length : Int) := @of_decide_eq_true _ _ k3
          have hcall : callOk c (gO b i.toNat) := ⟨k1, k2, k3⟩
          have hci := hc (gO b i.toNat).2.toNat
          have w1 : (IntKind.i64.wrap ((IntKind.i64.wrap (s + 1)) + gI c (gO b i.toNat).2.toNat)) = s + 1 + gI c (gO b i.toNat).2.toNat := by rw [w0]; exact wrap_eq (by omega) (by omega)
          conv => whnf
          refine ⟨k2, ?_⟩
          conv => whnf
          refine ⟨k3, ?_⟩
          conv => whnf
          refine ⟨(min2 (IntKind.i64.wrap ((IntKind.i64.wrap (s + 1)) + gI c (gO b i.toNat).2.toNat)) 100001, i + 1), ?_, ⟨by show 0 ≤ i + 1; omega, by show i + 1 ≤ (b.length : Int); omega, ?_⟩, by show ((b.length : Int) - (i + 1)).toNat < ((b.length : Int) - i).toNat; omega⟩
          · exact Eq.trans (b := S46 c b (min2 (IntKind.i64.wrap ((IntKind.i64.wrap (s + 1)) + gI c (gO b i.toNat).2.toNat)) 100001) (IntKind.i64.wrap (i + 1))) rfl (by rw [wi])
          · show min2 (IntKind.i64.wrap ((IntKind.i64.wrap (s + 1)) + gI c (gO b i.toNat).2.toNat)) 100001 = min2 (i + 1 + addJ c b (i + 1).toNat) 100001
            rw [ei, addJ_yes hcall, w1]
            unfold min2 at hs ⊢
            split at hs <;> repeat' split
            all_goals omega
        have k3 : ¬ ((gO b i.toNat).2 < (c.length : Int)) := @of_decide_eq_false _ _ k3
        have hcall : ¬ callOk c (gO b i.toNat) := fun q => absurd q.2.2 k3
        conv => whnf
        refine ⟨(min2 (IntKind.i64.wrap (s + 1)) 100001, i + 1), ?_, ⟨by show 0 ≤ i + 1; omega, by show i + 1 ≤ (b.length : Int); omega, ?_⟩, by show ((b.length : Int) - (i + 1)).toNat < ((b.length : Int) - i).toNat; omega⟩
        · exact Eq.trans (b := S46 c b (min2 (IntKind.i64.wrap (s + 1)) 100001) (IntKind.i64.wrap (i + 1))) rfl (by rw [wi])
        · show min2 (IntKind.i64.wrap (s + 1)) 100001 = min2 (i + 1 + addJ c b (i + 1).toNat) 100001
          rw [ei, addJ_no hcall, w0]
          unfold min2 at hs ⊢
          split at hs <;> repeat' split
          all_goals omega
      have k2 : ¬ (0 ≤ (gO b i.toNat).2) := @of_decide_eq_false _ _ k2
      have hcall : ¬ callOk c (gO b i.toNat) := fun q => absurd q.2.1 k2
      conv => whnf
      refine ⟨(min2 (IntKind.i64.wrap (s + 1)) 100001, i + 1), ?_, ⟨by show 0 ≤ i + 1; omega, by show i + 1 ≤ (b.length : Int); omega, ?_⟩, by show ((b.length : Int) - (i + 1)).toNat < ((b.length : Int) - i).toNat; omega⟩
      · exact Eq.trans (b := S46 c b (min2 (IntKind.i64.wrap (s + 1)) 100001) (IntKind.i64.wrap (i + 1))) rfl (by rw [wi])
      · show min2 (IntKind.i64.wrap (s + 1)) 100001 = min2 (i + 1 + addJ c b (i + 1).toNat) 100001
        rw [ei, addJ_no hcall, w0]
        unfold min2 at hs ⊢
        split at hs <;> repeat' split
        all_goals omega
    have k1 : ¬ ((gO b i.toNat).1 = 10) := @of_decide_eq_false _ _ k1
    have hcall : ¬ callOk c (gO b i.toNat) := fun q => absurd q.1 k1
    conv => whnf
    refine ⟨(min2 (IntKind.i64.wrap (s + 1)) 100001, i + 1), ?_, ⟨by show 0 ≤ i + 1; omega, by show i + 1 ≤ (b.length : Int); omega, ?_⟩, by show ((b.length : Int) - (i + 1)).toNat < ((b.length : Int) - i).toNat; omega⟩
    · exact Eq.trans (b := S46 c b (min2 (IntKind.i64.wrap (s + 1)) 100001) (IntKind.i64.wrap (i + 1))) rfl (by rw [wi])
    · show min2 (IntKind.i64.wrap (s + 1)) 100001 = min2 (i + 1 + addJ c b (i + 1).toNat) 100001
      rw [ei, addJ_no hcall, w0]
      unfold min2 at hs ⊢
      split at hs <;> repeat' split
      all_goals omega
  have hi : ¬ (i < (b.length : Int)) := @of_decide_eq_false _ _ hi
  rw [show i.toNat = b.length by omega, show i = (b.length : Int) by omega] at hs
  conv => whnf
  show s = priceR c b
  exact hs
def S37 (r : List Ru) (o : List Int) (i : Int) : SL := ⟨[.undef, .undef, .undef, .own 0, .undef, .undef, .undef, .undef, .undef, .sl ruT r, .int .i64 r.length, .int .i64 i, .undef, .undef, .undef, .undef, .undef, .undef, .undef, .undef, .undef, .undef, .undef, .undef, .undef, .undef, .undef], [(0, .arr I o)], 1⟩
def S42 (r : List Ru) (o : List Int) (i : Int) : SL := ⟨[.undef, .undef, .undef, .own 0, .undef, .undef, .sl ruT r, .int .i64 r.length, .int .i64 i, .undef, .undef, .undef, .undef, .undef, .undef, .undef, .undef, .undef, .undef, .undef, .undef], [(0, .arr I o)], 1⟩
def E37 : Env := ⟨tab, [(73, K73)], fun n => match n with | 3 => some ([3, 9, 10, 11], [], []) | _ => none⟩
def K37 : Fn1 := ⟨.one (.sl ruT), .one (.sl I), fun (r : List Ru) => [r.length ≤ 1000, bodyOk r], fun (r : List Ru) => costsR r⟩
set_option maxHeartbeats 1000000 in
theorem k37 : FnOk Go.Proofs.Tryz.prog 37 K37 := by
  refine fn_ok (E := E37) (TOk.of tab_told) (AllOk.cons k73 .nil).at_ mix Go.Proofs.Tryz.func37 rfl rfl (by kernel_rfl) K37 ?_
  rintro (r : List Ru) hp
  have hl : r.length ≤ 1000 := hp _ (List.mem_cons_self ..)
  have hb : bodyOk r := hp _ (List.mem_cons_of_mem _ (List.mem_cons_self ..))
  clear hp
  conv => whnf
  refine ⟨show 0 ≤ (r.length : Int) by omega, ?_⟩
  conv => whnf
  refine ⟨show (r.length : Int) ≤ (r.length : Int) by omega, ?_⟩
  conv => whnf
  refine ⟨show (r.length : Int) * 8 ≤ 70368744177664 by omega, ?_⟩
  conv => whnf
  refine ⟨show (r.length : Int) ≤ 70368744177664 by omega, ?_⟩
  conv => whnf
  refine loop_rule (fun i => S37 r ((costsJ r i.toNat) ++ List.replicate (r.length - i.toNat) 0) i) (fun i => ((r.length : Int) - i).toNat) (fun i => 0 ≤ i ∧ i ≤ (r.length : Int)) ?_ 0 (by kernel_rfl) ?_ ⟨by omega, by omega⟩
  case refine_2 => rfl
  rintro i ⟨i0, i1⟩
  have hol : ((costsJ r i.toNat) ++ List.replicate (r.length - i.toNat) 0).length = r.length := by rw [List.length_append, costsJ_len, List.length_replicate]; omega
  have htk : ((costsJ r i.toNat) ++ List.replicate (r.length - i.toNat) 0).take i.toNat = (costsJ r i.toNat) := by rw [List.take_append_of_le_length (by rw [costsJ_len]; exact Nat.le_refl _), List.take_of_length_le (by rw [costsJ_len]; exact Nat.le_refl _)]
  conv => whnf
  refine cond_intro (fun hi => ?_) (fun hi => ?_)
  · have hi : i < (r.length : Int) := @of_decide_eq_true _ _ hi
    have wi : IntKind.i64.wrap (i + 1) = i + 1 := wrap_eq (by omega) (by omega)
    have ei : (i + 1).toNat = i.toNat + 1 := by omega
    conv => whnf
    refine ⟨i0, ?_⟩
    conv => whnf
    refine ⟨hi, ?_⟩
    conv => whnf
    refine ⟨i0, ?_⟩
    conv => whnf
    refine ⟨show i ≤ (((costsJ r i.toNat) ++ List.replicate (r.length - i.toNat) 0).length : Int) by omega, ?_⟩
    conv => whnf
    refine ⟨show costOk (((costsJ r i.toNat) ++ List.replicate (r.length - i.toNat) 0).take i.toNat) by rw [htk]; exact costsJ_ok r _, ?_⟩
    conv => whnf
    refine ⟨show (gR r i.toNat).2.2.length ≤ 140737488351232 from hb _ (gR_mem (by omega)), ?_⟩
    conv => whnf
    refine ⟨i0, ?_⟩
    conv => whnf
    refine ⟨show i < (((costsJ r i.toNat) ++ List.replicate (r.length - i.toNat) 0).length : Int) by omega, ?_⟩
    conv => whnf
    refine ⟨i + 1, ?_, ⟨by omega, by omega⟩, by omega⟩
    exact Eq.trans (b := S37 r (((costsJ r i.toNat) ++ List.replicate (r.length - i.toNat) 0).set i.toNat (priceR (((costsJ r i.toNat) ++ List.replicate (r.length - i.toNat) 0).take i.toNat) (gR r i.toNat).2.2)) (IntKind.i64.wrap (i + 1))) rfl (by rw [wi, htk, ei, costsJ, show r.length - i.toNat = (r.length - (i.toNat + 1)) + 1 by omega, List.replicate_succ]; congr 1; have := set_mid (a := (costsJ r i.toNat)) (v := priceR (costsJ r i.toNat) (gR r i.toNat).2.2) (x := 0) (z := List.replicate (r.length - (i.toNat + 1)) 0); rw [costsJ_len] at this; exact this)
  have hi : ¬ (i < (r.length : Int)) := @of_decide_eq_false _ _ hi
  conv => whnf
  show ((costsJ r i.toNat) ++ List.replicate (r.length - i.toNat) 0) = costsR r
  rw [show i.toNat = r.length by omega, Nat.sub_self]
  exact List.append_nil _
def E42 : Env := ⟨tab, [(46, K46)], fun n => match n with | 3 => some ([3, 6, 7, 8], [(3, I)], []) | _ => none⟩
def K42 : Fn1 := ⟨.one (.sl ruT), .one (.sl I), fun (r : List Ru) => [r.length ≤ 1000, bodyOk r], fun (r : List Ru) => costsR r⟩
set_option maxHeartbeats 1000000 in
theorem k42 : FnOk Go.Proofs.Tryz.prog 42 K42 := by
  refine fn_ok (E := E42) (TOk.of tab_told) (AllOk.cons k46 .nil).at_ mix Go.Proofs.Tryz.func42 rfl rfl (by kernel_rfl) K42 ?_
  rintro (r : List Ru) hp
  have hl : r.length ≤ 1000 := hp _ (List.mem_cons_self ..)
  have hb : bodyOk r := hp _ (List.mem_cons_of_mem _ (List.mem_cons_self ..))
  clear hp
  conv => whnf
  refine loop_rule (fun i => S42 r (costsJ r i.toNat) i) (fun i => ((r.length : Int) - i).toNat) (fun i => 0 ≤ i ∧ i ≤ (r.length : Int)) ?_ 0 (by kernel_rfl) ?_ ⟨by omega, by omega⟩
  case refine_2 => rfl
  rintro i ⟨i0, i1⟩
  have hol : (costsJ r i.toNat).length = i.toNat := costsJ_len r _
  conv => whnf
  refine cond_intro (fun hi => ?_) (fun hi => ?_)
  · have hi : i < (r.length : Int) := @of_decide_eq_true _ _ hi
    have wi : IntKind.i64.wrap (i + 1) = i + 1 := wrap_eq (by omega) (by omega)
    have ei : (i + 1).toNat = i.toNat + 1 := by omega
    conv => whnf
    refine ⟨i0, ?_⟩
    conv => whnf
    refine ⟨hi, ?_⟩
    conv => whnf
    refine ⟨show costOk (costsJ r i.toNat) from costsJ_ok r _, ?_⟩
    conv => whnf
    refine ⟨show (gR r i.toNat).2.2.length ≤ 140737488351232 from hb _ (gR_mem (by omega)), ?_⟩
    conv => whnf
    refine ⟨show ((costsJ r i.toNat).length + 1) * 8 ≤ 70368744177664 by omega, ?_⟩
    conv => whnf
    refine ⟨show (costsJ r i.toNat).length + 1 ≤ 70368744177664 by omega, ?_⟩
    conv => whnf
    refine ⟨i + 1, ?_, ⟨by omega, by omega⟩, by omega⟩
    exact Eq.trans (b := S42 r ((costsJ r i.toNat) ++ [priceR (costsJ r i.toNat) (gR r i.toNat).2.2]) (IntKind.i64.wrap (i + 1))) rfl (by rw [wi, ei, costsJ])
  have hi : ¬ (i < (r.length : Int)) := @of_decide_eq_false _ _ hi
  conv => whnf
  show (costsJ r i.toNat) = costsR r
  rw [show i.toNat = r.length by omega]
  rfl
def S50 (l : List Int) (m i : Int) : SL := ⟨[.sl I l, .undef, .undef, .int .i64 m, .int .i64 i, .undef, .undef, .undef, .undef, .undef, .undef, .undef, .undef, .undef, .undef, .undef, .undef, .undef, .undef, .undef, .undef, .undef, .undef, .undef, .undef], [], 0⟩
def E50 : Env := ⟨tab, [], fun n => match n with | 5 => some ([0, 3, 4], [], []) | _ => none⟩
def K50 : Fn1 := ⟨.one (.sl I), .one I, fun (l : List Int) => [0 < l.length, l.length ≤ 140737488351232], fun (l : List Int) => maxJ l l.length⟩
theorem k50 : FnOk Go.Proofs.Tryz.prog 50 K50 := by
  refine fn_ok (E := E50) (TOk.of tab_told) (fun f k h => by cases h) mix Go.Proofs.Tryz.func50 rfl rfl (by kernel_rfl) K50 ?_
  rintro (l : List Int) hp
  have h0 : 0 < l.length := hp _ (List.mem_cons_self ..)
  have hl : l.length ≤ 140737488351232 := hp _ (List.mem_cons_of_mem _ (List.mem_cons_self ..))
  clear hp
  conv => whnf
  refine cond_intro (fun e0 => ?_) (fun e0 => ?_)
  · have e0 : (l.length : Int) < 1 := @of_decide_eq_true _ _ e0
    exfalso
    omega
  have e0 : ¬ ((l.length : Int) < 1) := @of_decide_eq_false _ _ e0
  conv => whnf
  refine ⟨Int.le_refl _, ?_⟩
  conv => whnf
  refine ⟨show 0 < (l.length : Int) by omega, ?_⟩
  conv => whnf
  refine loop_rule (fun i => S50 l (maxJ l i.toNat) i) (fun i => ((l.length : Int) - i).toNat) (fun i => 1 ≤ i ∧ i ≤ (l.length : Int)) ?_ 1 (by kernel_rfl) ?_ ⟨by omega, by omega⟩
  case refine_2 => exact Eq.trans (b := S50 l (gI l 0) 1) rfl (by rw [show maxJ l (1 : Int).toNat = gI l 0 by show max2 (gI l 0) (gI l 0) = _; unfold max2; split <;> rfl])
  rintro i ⟨i0, i1⟩
  have i00 : 0 ≤ i := by omega
  conv => whnf
  refine cond_intro (fun hi => ?_) (fun hi => ?_)
  · have hi : i < (l.length : Int) := @of_decide_eq_true _ _ hi
    have wi : IntKind.i64.wrap (i + 1) = i + 1 := wrap_eq (by omega) (by omega)
    have ei : (i + 1).toNat = i.toNat + 1 := by omega
    conv => whnf
    refine ⟨i00, ?_⟩
    conv => whnf
    refine ⟨hi, ?_⟩
    conv => whnf
    refine ⟨i + 1, ?_, ⟨by omega, by omega⟩, by omega⟩
    exact Eq.trans (b := S50 l (max2 (maxJ l i.toNat) (gI l i.toNat)) (IntKind.i64.wrap (i + 1))) rfl (by rw [wi, ei, maxJ])
  have hi : ¬ (i < (l.length : Int)) := @of_decide_eq_false _ _ hi
  conv => whnf
  show maxJ l i.toNat = maxJ l l.length
  rw [show i.toNat = l.length by omega]
def E71 : Env := ⟨tab, [(72, K72)], fun n => match n with  | _ => none⟩
def K71 : Fn1 := ⟨.one I, .one .bool, fun _ => [], fun (n : Int) => !decide (n = keptR n)⟩
theorem k71 : FnOk Go.Proofs.Tryz.prog 71 K71 := by
  refine fn_ok (E := E71) (TOk.of tab_told) (AllOk.cons k72 .nil).at_ mix Go.Proofs.Tryz.func71 rfl rfl (by kernel_rfl) K71 ?_
  rintro (n : Int) hp
  clear hp
  conv => whnf
  show (!decide (n = keptR n)) = !decide (n = keptR n)
  rfl
def S101 (l : List Int) (i : Int) : SL := ⟨[.sl I l, .fn 71 [], .undef, .undef, .undef, .undef, .undef, .int .i64 l.length, .int .i64 i, .undef, .undef, .undef, .undef, .undef, .undef, .undef, .undef, .undef, .undef], [], 0⟩
def E101 : Env := ⟨tab, [(71, K71)], fun n => match n with | 2 => some ([0, 1, 7, 8], [], []) | _ => none⟩
def K101 : Fn1 := ⟨.one (.sl I), .one I, fun (l : List Int) => [l.length ≤ 140737488351232], fun (l : List Int) => ixV l⟩
theorem k101 : FnOkF Go.Proofs.Tryz.prog 101 71 K101 := by
  refine fn_okF (E := E101) (TOk.of tab_told) (AllOk.cons k71 .nil).at_ mix Go.Proofs.Tryz.func101 rfl rfl (by kernel_rfl) 71 K101 ?_
  rintro (l : List Int) hp
  have hl : l.length ≤ 140737488351232 := hp _ (List.mem_cons_self ..)
  clear hp
  conv => whnf
  refine loop_rule (fun i => S101 l i) (fun i => ((l.length : Int) - i).toNat) (fun i => 0 ≤ i ∧ i ≤ (l.length : Int) ∧ allIn (-2147483647) 2147483647 l i.toNat = true) ?_ 0 (by kernel_rfl) ?_ ⟨by omega, by omega, rfl⟩
  case refine_2 => rfl
  rintro i ⟨i0, i1, i2⟩
  conv => whnf
  refine cond_intro (fun hi => ?_) (fun hi => ?_)
  · have hi : i < (l.length : Int) := @of_decide_eq_true _ _ hi
    have wi : IntKind.i64.wrap (i + 1) = i + 1 := wrap_eq (by omega) (by omega)
    have ei : (i + 1).toNat = i.toNat + 1 := by omega
    conv => whnf
    refine ⟨i0, ?_⟩
    conv => whnf
    refine ⟨hi, ?_⟩
    conv => whnf
    refine cond_intro (fun c => ?_) (fun c => ?_)
    · have c : (!decide (gI l i.toNat = keptR (gI l i.toNat))) = true := c
      have c : ¬ (gI l i.toNat = keptR (gI l i.toNat)) := fun e => absurd c (by rw [decide_eq_true e]; decide)
      have e : inB (gI l i.toNat) (-2147483647) 2147483647 = false := by
        cases q : inB (gI l i.toNat) (-2147483647) 2147483647 with
        | false => rfl
        | true => exact absurd ((kept_iff _).2 (in_iff.1 q)) c
      conv => whnf
      show i = ixV l
      rw [ixV_at (by omega) i2 e]
      omega
    have c : (!decide (gI l i.toNat = keptR (gI l i.toNat))) = false := c
    have c : gI l i.toNat = keptR (gI l i.toNat) := Decidable.byContradiction fun e => absurd c (by rw [decide_eq_false e]; decide)
    conv => whnf
    refine ⟨i + 1, ?_, ⟨by omega, by omega, ?_⟩, by omega⟩
    · exact Eq.trans (b := S101 l (IntKind.i64.wrap (i + 1))) rfl (by rw [wi])
    · rw [ei]; exact allIn_succ i2 (in_iff.2 ((kept_iff _).1 c))
  have hi : ¬ (i < (l.length : Int)) := @of_decide_eq_false _ _ hi
  conv => whnf
  show (-1 : Int) = ixV l
  unfold ixV allV
  rw [show i.toNat = l.length by omega] at i2
  rw [if_pos i2]
def E70 : Env := ⟨tab, [(101, .fixd 71 K101)], fun n => match n with  | _ => none⟩
def K70 : Fn1 := ⟨.one (.sl I), .one .bool, fun (l : List Int) => [l.length ≤ 140737488351232], fun (l : List Int) => !allV l⟩
theorem k70 : FnOkF Go.Proofs.Tryz.prog 70 71 K70 := by
  refine fn_okF (E := E70) (TOk.of tab_told) (AllOk.consF k101 .nil).at_ mix Go.Proofs.Tryz.func70 rfl rfl (by kernel_rfl) 71 K70 ?_
  rintro (l : List Int) hp
  have hl : l.length ≤ 140737488351232 := hp _ (List.mem_cons_self ..)
  clear hp
  conv => whnf
  refine ⟨hl, ?_⟩
  conv => whnf
  show decide (0 ≤ ixV l) = !allV l
  exact ixV_iff l
def E36 : Env := ⟨tab, [(70, .fixd 71 K70)], fun n => match n with  | _ => none⟩
def K36 : Fn1 := ⟨.one (.sl I), .one .bool, fun (l : List Int) => [l.length ≤ 140737488351232], fun (l : List Int) => allV l⟩
theorem k36 : FnOk Go.Proofs.Tryz.prog 36 K36 := by
  refine fn_ok (E := E36) (TOk.of tab_told) (AllOk.consF k70 .nil).at_ mix Go.Proofs.Tryz.func36 rfl rfl (by kernel_rfl) K36 ?_
  rintro (l : List Int) hp
  have hl : l.length ≤ 140737488351232 := hp _ (List.mem_cons_self ..)
  clear hp
  conv => whnf
  refine ⟨hl, ?_⟩
  conv => whnf
  show (!!allV l) = allV l
  exact Bool.not_not _
def S40 (l : List Int) (i : Int) : SL := ⟨[.undef, .undef, .undef, .undef, .undef, .sl I l, .int .i64 l.length, .int .i64 i, .undef, .undef, .undef, .undef, .undef, .undef, .undef, .undef, .undef, .undef], [], 0⟩
def E40 : Env := ⟨tab, [], fun n => match n with | 2 => some ([5, 6, 7], [], []) | _ => none⟩
def K40 : Fn1 := ⟨.one (.sl I), .one .bool, fun (l : List Int) => [l.length ≤ 140737488351232], fun (l : List Int) => allV l⟩
theorem k40 : FnOk Go.Proofs.Tryz.prog 40 K40 := by
  refine fn_ok (E := E40) (TOk.of tab_told) (fun f k h => by cases h) mix Go.Proofs.Tryz.func40 rfl rfl (by kernel_rfl) K40 ?_
  rintro (l : List Int) hp
  have hl : l.length ≤ 140737488351232 := hp _ (List.mem_cons_self ..)
  clear hp
  conv => whnf
  refine loop_rule (fun i => S40 l i) (fun i => ((l.length : Int) - i).toNat) (fun i => 0 ≤ i ∧ i ≤ (l.length : Int) ∧ allIn (-2147483647) 2147483647 l i.toNat = true) ?_ 0 (by kernel_rfl) ?_ ⟨by omega, by omega, rfl⟩
  case refine_2 => rfl
  rintro i ⟨i0, i1, i2⟩
  conv => whnf
  refine cond_intro (fun hi => ?_) (fun hi => ?_)
  · have hi : i < (l.length : Int) := @of_decide_eq_true _ _ hi
    have wi : IntKind.i64.wrap (i + 1) = i + 1 := wrap_eq (by omega) (by omega)
    have ei : (i + 1).toNat = i.toNat + 1 := by omega
    conv => whnf
    refine ⟨i0, ?_⟩
    conv => whnf
    refine ⟨hi, ?_⟩
    conv => whnf
    refine cond_intro (fun c1 => ?_) (fun c1 => ?_)
    · have c1 : gI l i.toNat < -2147483647 := @of_decide_eq_true _ _ c1
      conv => whnf
      show false = allV l
      exact (allIn_bad (i := i.toNat) (by omega) (in_lo (by omega))).symm
    have c1 : ¬ (gI l i.toNat < -2147483647) := @of_decide_eq_false _ _ c1
    conv => whnf
    refine cond_intro (fun c2 => ?_) (fun c2 => ?_)
    · have c2 : 2147483647 < gI l i.toNat := @of_decide_eq_true _ _ c2
      conv => whnf
      show false = allV l
      exact (allIn_bad (i := i.toNat) (by omega) (in_hi (by omega))).symm
    have c2 : ¬ (2147483647 < gI l i.toNat) := @of_decide_eq_false _ _ c2
    conv => whnf
    refine ⟨i + 1, ?_, ⟨by omega, by omega, ?_⟩, by omega⟩
    · exact Eq.trans (b := S40 l (IntKind.i64.wrap (i + 1))) rfl (by rw [wi])
    · rw [ei]; exact allIn_succ i2 (in_ok (by omega) (by omega))
  have hi : ¬ (i < (l.length : Int)) := @of_decide_eq_false _ _ hi
  conv => whnf
  show true = allV l
  rw [show i.toNat = l.length by omega] at i2
  exact i2.symm
end
end Go.Proofs.YtaafjaibaaiigaaGreatDoor.Eng
