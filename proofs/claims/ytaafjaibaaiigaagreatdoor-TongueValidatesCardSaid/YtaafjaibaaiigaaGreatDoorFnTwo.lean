/- What the functions that the law reaches answer, each for every input. -/
import Derived.Test.YtaafjaibaaiigaaGreatDoorFnOne
import Derived.Test.YtaafjaibaaiigaaGreatDoorEngFour
import Derived.Recover
import Derived.Ground.NamesProg
import Derived.Shelf.Lay
import Derived.Shelf.Strings.Count
import Derived.Shelf.Strings.Search3
import Derived.Shelf.Strings.Prefix
set_option linter.unusedVariables false
set_option linter.unusedSimpArgs false
set_option linter.unusedVariables false
set_option linter.unusedSimpArgs false
namespace Go.Proofs.YtaafjaibaaiigaaGreatDoor.Eng
open Go
set_option maxRecDepth 100000
noncomputable section
def allG (p : Nat → Bool) : Nat → Bool
  | 0 => true
  | n + 1 => allG p n && p n
theorem allG_bad {p : Nat → Bool} : ∀ {n i : Nat}, i < n → p i = false → allG p n = false
  | 0, i, h, _ => by omega
  | n + 1, i, h, e => by
    unfold allG
    by_cases hi : i = n
    · subst hi; rw [e, Bool.and_false]
    · rw [allG_bad (by omega) e, Bool.false_and]
theorem allG_at {p : Nat → Bool} : ∀ {n i : Nat}, allG p n = true → i < n → p i = true
  | 0, i, _, h => by omega
  | n + 1, i, h, e => by
    unfold allG at h
    rw [Bool.and_eq_true] at h
    by_cases hi : i = n
    · subst hi; exact h.2
    · exact allG_at h.1 (by omega)
theorem allG_succ {p : Nat → Bool} {n : Nat} (h : allG p n = true) (e : p n = true) : allG p (n + 1) = true := by unfold allG; rw [h, e]; rfl
theorem allG_all {p : Nat → Bool} : ∀ {n : Nat}, (∀ i, i < n → p i = true) → allG p n = true
  | 0, _ => rfl
  | n + 1, h => allG_succ (allG_all fun i hi => h i (by omega)) (h n (by omega))
/-- No earlier one has this one's name. -/
def freshG (nm : Nat → ByteArray) (i n : Nat) : Bool := allG (fun k => !decide (nm k = nm i)) n
def uniqG (nm : Nat → ByteArray) (n : Nat) : Bool := allG (fun i => freshG nm i i) n
/-- The first error of a list of things with names. -/
def validG (nm : Nat → ByteArray) (ok : Nat → Bool) (M : Int) (n : Nat) : Int := if M < (n : Int) then 4 else if allG ok n = true then (if uniqG nm n = true then 0 else 3) else 1
theorem valid_large {nm : Nat → ByteArray} {ok : Nat → Bool} {M : Int} {n : Nat} (h : M < (n : Int)) : validG nm ok M n = 4 := by unfold validG; rw [if_pos h]
theorem valid_bad {nm : Nat → ByteArray} {ok : Nat → Bool} {M : Int} {n i : Nat} (h : ¬ M < (n : Int)) (hi : i < n) (e : ok i = false) : validG nm ok M n = 1 := by
  unfold validG; rw [if_neg h, if_neg (by rw [allG_bad hi e]; decide)]
theorem valid_dup {nm : Nat → ByteArray} {ok : Nat → Bool} {M : Int} {n i k : Nat} (h : ¬ M < (n : Int)) (ha : allG ok n = true) (hi : i < n) (hk : k < i) (e : nm k = nm i) : validG nm ok M n = 3 := by
  unfold validG; rw [if_neg h, if_pos ha, if_neg]
  intro q
  have q1 : freshG nm i i = true := allG_at (p := fun i => freshG nm i i) q hi
  have q2 : (!decide (nm k = nm i)) = true := allG_at (p := fun k => !decide (nm k = nm i)) q1 hk
  rw [decide_eq_true e] at q2
  cases q2
theorem valid_ok {nm : Nat → ByteArray} {ok : Nat → Bool} {M : Int} {n : Nat} (h : ¬ M < (n : Int)) (ha : allG ok n = true) (hu : uniqG nm n = true) : validG nm ok M n = 0 := by
  unfold validG; rw [if_neg h, if_pos ha, if_pos hu]
theorem valid_0 {nm : Nat → ByteArray} {ok : Nat → Bool} {M : Int} {n : Nat} (h : validG nm ok M n = 0) : ¬ M < (n : Int) ∧ allG ok n = true ∧ uniqG nm n = true := by
  unfold validG at h
  split at h
  · cases h
  · rename_i h1
    split at h
    · rename_i h2
      split at h
      · rename_i h3; exact ⟨h1, h2, h3⟩
      · cases h
    · cases h
theorem gd_eq {α : Type} {l : List α} {d : α} {n : Nat} (h : n < l.length) : l.getD n d = l[n] := by simp [h]
theorem gd_take {α : Type} {l : List α} {d : α} {k i : Nat} (h : k < i) : (l.take i).getD k d = l.getD k d := by
  rw [List.getD_eq_getElem?_getD, List.getD_eq_getElem?_getD, List.getElem?_take, if_pos h]
def zCg : Cg := (⟨#[]⟩, 0, 0, 0)
def gC (l : List Cg) (n : Nat) : Cg := l.getD n zCg
def zMo : Mo := (⟨#[]⟩, 0, 0, 0, 0, 0, 0, 0, 0, 0, 0, 0, 0, false)
def gM (l : List Mo) (n : Nat) : Mo := l.getD n zMo
def okCg (a b c : Int) (x : Cg) : Bool := nameB x.1 && (inB x.2.1 0 a && (inB x.2.2.1 0 b && inB x.2.2.2 0 c))
def okMo (m : Mo) : Bool := match m with
  | (s, k, sp, po, we, pu, ca, ro, lo, pr, ru, li, tr, _) => nameB s && (inB k 0 3 && (inB sp 0 600 && (inB po 0 20000 && (inB we 1 1000 && (inB pu 0 2000 && (inB ca (-1) 15 && (inB ro 0 1000 && (inB lo 1 16 && ((inB pr 0 10000000 && inB ru 0 10000000) && (inB li 1 100 && inB tr 0 1000))))))))))
def cgR (l : List Cg) : Int := validG (fun i => (gC l i).1) (fun i => okCg 1000 255 255 (gC l i)) 16 l.length
def hoR (l : List Cg) : Int := validG (fun i => (gC l i).1) (fun i => okCg 1000 1000 1048576 (gC l i)) 16 l.length
def moR (l : List Mo) : Int := validG (fun i => (gM l i).1) (fun i => okMo (gM l i)) 40 l.length
def nmC (l : List Cg) : Prop := ∀ i, (gC l i).1.size ≤ 140737488351232
def nmM (l : List Mo) : Prop := ∀ i, (gM l i).1.size ≤ 140737488351232
theorem all1 (x a b : Int) : allIn a b [x] 1 = inB x a b := by
  show (true && inB x a b) = _
  exact Bool.true_and _
theorem all2 (x y a b : Int) : allIn a b [x, y] 2 = (inB x a b && inB y a b) := by
  show ((true && inB x a b) && inB y a b) = _
  rw [Bool.true_and]
def E62 : Env := ⟨tab, [(96, K96), (97, K97)], fun n => match n with  | _ => none⟩
def K62 : Fn1 := ⟨.one moT, .one .bool, fun (m : Mo) => [m.1.size ≤ 140737488351232], fun (m : Mo) => okMo m⟩
set_option maxHeartbeats 2000000 in
theorem k62 : FnOk Go.Proofs.Tryz.prog 62 K62 := by
  refine fn_ok (E := E62) (TOk.of tab_told) (AllOk.cons k96 (.cons k97 .nil)).at_ mix Go.Proofs.Tryz.func62 rfl rfl (by kernel_rfl) K62 ?_
  rintro ⟨(s : ByteArray), (k : Int), (sp : Int), (po : Int), (we : Int), (pu : Int), (ca : Int), (ro : Int), (lo : Int), (pr : Int), (ru : Int), (li : Int), (tr : Int), (wi : Bool)⟩ hp
  have hs : s.size ≤ 140737488351232 := hp _ (List.mem_cons_self ..)
  clear hp
  conv => whnf
  refine ⟨hs, ?_⟩
  conv => whnf
  refine cond_intro (fun n0 => ?_) (fun n0 => ?_)
  · have n0 : (nameB s) = true := n0
    conv => whnf
    refine ⟨show 1 ≤ 140737488351232 by omega, ?_⟩
    conv => whnf
    refine cond_intro (fun t0 => ?_) (fun t0 => ?_)
    · have t0 : (allIn 0 3 [k] [k].length) = true := t0
      have t0 := (all1 k 0 3).symm.trans t0
      conv => whnf
      refine ⟨show 1 ≤ 140737488351232 by omega, ?_⟩
      conv => whnf
      refine cond_intro (fun t1 => ?_) (fun t1 => ?_)
      · have t1 : (allIn 0 600 [sp] [sp].length) = true := t1
        have t1 := (all1 sp 0 600).symm.trans t1
        conv => whnf
        refine ⟨show 1 ≤ 140737488351232 by omega, ?_⟩
        conv => whnf
        refine cond_intro (fun t2 => ?_) (fun t2 => ?_)
        · have t2 : (allIn 0 20000 [po] [po].length) = true := t2
          have t2 := (all1 po 0 20000).symm.trans t2
          conv => whnf
          refine ⟨show 1 ≤ 140737488351232 by omega, ?_⟩
          conv => whnf
          refine cond_intro (fun t3 => ?_) (fun t3 => ?_)
          · have t3 : (allIn 1 1000 [we] [we].length) = true := t3
            have t3 := (all1 we 1 1000).symm.trans t3
            conv => whnf
            refine ⟨show 1 ≤ 140737488351232 by omega, ?_⟩
            conv => whnf
            refine cond_intro (fun t4 => ?_) (fun t4 => ?_)
            · have t4 : (allIn 0 2000 [pu] [pu].length) = true := t4
              have t4 := (all1 pu 0 2000).symm.trans t4
              conv => whnf
              refine ⟨show 1 ≤ 140737488351232 by omega, ?_⟩
              conv => whnf
              refine cond_intro (fun t5 => ?_) (fun t5 => ?_)
              · have t5 : (allIn (-1) 15 [ca] [ca].length) = true := t5
                have t5 := (all1 ca (-1) 15).symm.trans t5
                conv => whnf
                refine ⟨show 1 ≤ 140737488351232 by omega, ?_⟩
                conv => whnf
                refine cond_intro (fun t6 => ?_) (fun t6 => ?_)
                · have t6 : (allIn 0 1000 [ro] [ro].length) = true := t6
                  have t6 := (all1 ro 0 1000).symm.trans t6
                  conv => whnf
                  refine ⟨show 1 ≤ 140737488351232 by omega, ?_⟩
                  conv => whnf
                  refine cond_intro (fun t7 => ?_) (fun t7 => ?_)
                  · have t7 : (allIn 1 16 [lo] [lo].length) = true := t7
                    have t7 := (all1 lo 1 16).symm.trans t7
                    conv => whnf
                    refine ⟨show 2 ≤ 140737488351232 by omega, ?_⟩
                    conv => whnf
                    refine cond_intro (fun t8 => ?_) (fun t8 => ?_)
                    · have t8 : (allIn 0 10000000 [pr, ru] [pr, ru].length) = true := t8
                      have t8 := (all2 pr ru 0 10000000).symm.trans t8
                      conv => whnf
                      refine ⟨show 1 ≤ 140737488351232 by omega, ?_⟩
                      conv => whnf
                      refine cond_intro (fun t9 => ?_) (fun t9 => ?_)
                      · have t9 : (allIn 1 100 [li] [li].length) = true := t9
                        have t9 := (all1 li 1 100).symm.trans t9
                        conv => whnf
                        refine ⟨show 1 ≤ 140737488351232 by omega, ?_⟩
                        conv => whnf
                        show allIn 0 1000 [tr] [tr].length = okMo (s, k, sp, po, we, pu, ca, ro, lo, pr, ru, li, tr, wi)
                        rw [show [tr].length = 1 from rfl, all1]
                        unfold okMo
                        simp only [n0, t0, t1, t2, t3, t4, t5, t6, t7, t8, t9, Bool.true_and]
                      have t9 : (allIn 1 100 [li] [li].length) = false := t9
                      have t9 := (all1 li 1 100).symm.trans t9
                      conv => whnf
                      show false = okMo (s, k, sp, po, we, pu, ca, ro, lo, pr, ru, li, tr, wi)
                      unfold okMo
                      simp only [n0, t0, t1, t2, t3, t4, t5, t6, t7, t8, t9, Bool.true_and, Bool.false_and, Bool.and_false]
                    have t8 : (allIn 0 10000000 [pr, ru] [pr, ru].length) = false := t8
                    have t8 := (all2 pr ru 0 10000000).symm.trans t8
                    conv => whnf
                    show false = okMo (s, k, sp, po, we, pu, ca, ro, lo, pr, ru, li, tr, wi)
                    unfold okMo
                    simp only [n0, t0, t1, t2, t3, t4, t5, t6, t7, t8, Bool.true_and, Bool.false_and, Bool.and_false]
                  have t7 : (allIn 1 16 [lo] [lo].length) = false := t7
                  have t7 := (all1 lo 1 16).symm.trans t7
                  conv => whnf
                  show false = okMo (s, k, sp, po, we, pu, ca, ro, lo, pr, ru, li, tr, wi)
                  unfold okMo
                  simp only [n0, t0, t1, t2, t3, t4, t5, t6, t7, Bool.true_and, Bool.false_and, Bool.and_false]
                have t6 : (allIn 0 1000 [ro] [ro].length) = false := t6
                have t6 := (all1 ro 0 1000).symm.trans t6
                conv => whnf
                show false = okMo (s, k, sp, po, we, pu, ca, ro, lo, pr, ru, li, tr, wi)
                unfold okMo
                simp only [n0, t0, t1, t2, t3, t4, t5, t6, Bool.true_and, Bool.false_and, Bool.and_false]
              have t5 : (allIn (-1) 15 [ca] [ca].length) = false := t5
              have t5 := (all1 ca (-1) 15).symm.trans t5
              conv => whnf
              show false = okMo (s, k, sp, po, we, pu, ca, ro, lo, pr, ru, li, tr, wi)
              unfold okMo
              simp only [n0, t0, t1, t2, t3, t4, t5, Bool.true_and, Bool.false_and, Bool.and_false]
            have t4 : (allIn 0 2000 [pu] [pu].length) = false := t4
            have t4 := (all1 pu 0 2000).symm.trans t4
            conv => whnf
            show false = okMo (s, k, sp, po, we, pu, ca, ro, lo, pr, ru, li, tr, wi)
            unfold okMo
            simp only [n0, t0, t1, t2, t3, t4, Bool.true_and, Bool.false_and, Bool.and_false]
          have t3 : (allIn 1 1000 [we] [we].length) = false := t3
          have t3 := (all1 we 1 1000).symm.trans t3
          conv => whnf
          show false = okMo (s, k, sp, po, we, pu, ca, ro, lo, pr, ru, li, tr, wi)
          unfold okMo
          simp only [n0, t0, t1, t2, t3, Bool.true_and, Bool.false_and, Bool.and_false]
        have t2 : (allIn 0 20000 [po] [po].length) = false := t2
        have t2 := (all1 po 0 20000).symm.trans t2
        conv => whnf
        show false = okMo (s, k, sp, po, we, pu, ca, ro, lo, pr, ru, li, tr, wi)
        unfold okMo
        simp only [n0, t0, t1, t2, Bool.true_and, Bool.false_and, Bool.and_false]
      have t1 : (allIn 0 600 [sp] [sp].length) = false := t1
      have t1 := (all1 sp 0 600).symm.trans t1
      conv => whnf
      show false = okMo (s, k, sp, po, we, pu, ca, ro, lo, pr, ru, li, tr, wi)
      unfold okMo
      simp only [n0, t0, t1, Bool.true_and, Bool.false_and, Bool.and_false]
    have t0 : (allIn 0 3 [k] [k].length) = false := t0
    have t0 := (all1 k 0 3).symm.trans t0
    conv => whnf
    show false = okMo (s, k, sp, po, we, pu, ca, ro, lo, pr, ru, li, tr, wi)
    unfold okMo
    simp only [n0, t0, Bool.true_and, Bool.false_and, Bool.and_false]
  have n0 : (nameB s) = false := n0
  conv => whnf
  show false = okMo (s, k, sp, po, we, pu, ca, ro, lo, pr, ru, li, tr, wi)
  unfold okMo
  simp only [n0, Bool.false_and]
def E69 : Env := ⟨tab, [(98, K98), (100, K100)], fun n => match n with  | _ => none⟩
def K69 : Fn1 := ⟨.one moT, .one .bool, fun _ => [], fun (m : Mo) => okMo m⟩
set_option maxHeartbeats 2000000 in
theorem k69 : FnOk Go.Proofs.Tryz.prog 69 K69 := by
  refine fn_ok (E := E69) (TOk.of tab_told) (AllOk.cons k98 (.cons k100 .nil)).at_ mix Go.Proofs.Tryz.func69 rfl rfl (by kernel_rfl) K69 ?_
  rintro ⟨(s : ByteArray), (k : Int), (sp : Int), (po : Int), (we : Int), (pu : Int), (ca : Int), (ro : Int), (lo : Int), (pr : Int), (ru : Int), (li : Int), (tr : Int), (wi : Bool)⟩ hp
  clear hp
  conv => whnf
  refine cond_intro (fun n0 => ?_) (fun n0 => ?_)
  · have n0 : (nameB s) = true := n0
    conv => whnf
    refine cond_intro (fun t0 => ?_) (fun t0 => ?_)
    · have t0 : (inB k 0 3) = true := t0
      conv => whnf
      refine cond_intro (fun t1 => ?_) (fun t1 => ?_)
      · have t1 : (inB sp 0 600) = true := t1
        conv => whnf
        refine cond_intro (fun t2 => ?_) (fun t2 => ?_)
        · have t2 : (inB po 0 20000) = true := t2
          conv => whnf
          refine cond_intro (fun t3 => ?_) (fun t3 => ?_)
          · have t3 : (inB we 1 1000) = true := t3
            conv => whnf
            refine cond_intro (fun t4 => ?_) (fun t4 => ?_)
            · have t4 : (inB pu 0 2000) = true := t4
              conv => whnf
              refine cond_intro (fun t5 => ?_) (fun t5 => ?_)
              · have t5 : (inB ca (-1) 15) = true := t5
                conv => whnf
                refine cond_intro (fun t6 => ?_) (fun t6 => ?_)
                · have t6 : (inB ro 0 1000) = true := t6
                  conv => whnf
                  refine cond_intro (fun t7 => ?_) (fun t7 => ?_)
                  · have t7 : (inB lo 1 16) = true := t7
                    conv => whnf
                    refine cond_intro (fun t8 => ?_) (fun t8 => ?_)
                    · have t8 : (inB pr 0 10000000) = true := t8
                      conv => whnf
                      refine cond_intro (fun t9 => ?_) (fun t9 => ?_)
                      · have t9 : (inB ru 0 10000000) = true := t9
                        conv => whnf
                        refine cond_intro (fun t10 => ?_) (fun t10 => ?_)
                        · have t10 : (inB li 1 100) = true := t10
                          conv => whnf
                          show inB tr 0 1000 = okMo (s, k, sp, po, we, pu, ca, ro, lo, pr, ru, li, tr, wi)
                          unfold okMo
                          simp only [n0, t0, t1, t2, t3, t4, t5, t6, t7, t8, t9, t10, Bool.true_and]
                        have t10 : (inB li 1 100) = false := t10
                        conv => whnf
                        show false = okMo (s, k, sp, po, we, pu, ca, ro, lo, pr, ru, li, tr, wi)
                        unfold okMo
                        simp only [n0, t0, t1, t2, t3, t4, t5, t6, t7, t8, t9, t10, Bool.true_and, Bool.false_and, Bool.and_false]
                      have t9 : (inB ru 0 10000000) = false := t9
                      conv => whnf
                      show false = okMo (s, k, sp, po, we, pu, ca, ro, lo, pr, ru, li, tr, wi)
                      unfold okMo
                      simp only [n0, t0, t1, t2, t3, t4, t5, t6, t7, t8, t9, Bool.true_and, Bool.false_and, Bool.and_false]
                    have t8 : (inB pr 0 10000000) = false := t8
                    conv => whnf
                    show false = okMo (s, k, sp, po, we, pu, ca, ro, lo, pr, ru, li, tr, wi)
                    unfold okMo
                    simp only [n0, t0, t1, t2, t3, t4, t5, t6, t7, t8, Bool.true_and, Bool.false_and, Bool.and_false]
                  have t7 : (inB lo 1 16) = false := t7
                  conv => whnf
                  show false = okMo (s, k, sp, po, we, pu, ca, ro, lo, pr, ru, li, tr, wi)
                  unfold okMo
                  simp only [n0, t0, t1, t2, t3, t4, t5, t6, t7, Bool.true_and, Bool.false_and, Bool.and_false]
                have t6 : (inB ro 0 1000) = false := t6
                conv => whnf
                show false = okMo (s, k, sp, po, we, pu, ca, ro, lo, pr, ru, li, tr, wi)
                unfold okMo
                simp only [n0, t0, t1, t2, t3, t4, t5, t6, Bool.true_and, Bool.false_and, Bool.and_false]
              have t5 : (inB ca (-1) 15) = false := t5
              conv => whnf
              show false = okMo (s, k, sp, po, we, pu, ca, ro, lo, pr, ru, li, tr, wi)
              unfold okMo
              simp only [n0, t0, t1, t2, t3, t4, t5, Bool.true_and, Bool.false_and, Bool.and_false]
            have t4 : (inB pu 0 2000) = false := t4
            conv => whnf
            show false = okMo (s, k, sp, po, we, pu, ca, ro, lo, pr, ru, li, tr, wi)
            unfold okMo
            simp only [n0, t0, t1, t2, t3, t4, Bool.true_and, Bool.false_and, Bool.and_false]
          have t3 : (inB we 1 1000) = false := t3
          conv => whnf
          show false = okMo (s, k, sp, po, we, pu, ca, ro, lo, pr, ru, li, tr, wi)
          unfold okMo
          simp only [n0, t0, t1, t2, t3, Bool.true_and, Bool.false_and, Bool.and_false]
        have t2 : (inB po 0 20000) = false := t2
        conv => whnf
        show false = okMo (s, k, sp, po, we, pu, ca, ro, lo, pr, ru, li, tr, wi)
        unfold okMo
        simp only [n0, t0, t1, t2, Bool.true_and, Bool.false_and, Bool.and_false]
      have t1 : (inB sp 0 600) = false := t1
      conv => whnf
      show false = okMo (s, k, sp, po, we, pu, ca, ro, lo, pr, ru, li, tr, wi)
      unfold okMo
      simp only [n0, t0, t1, Bool.true_and, Bool.false_and, Bool.and_false]
    have t0 : (inB k 0 3) = false := t0
    conv => whnf
    show false = okMo (s, k, sp, po, we, pu, ca, ro, lo, pr, ru, li, tr, wi)
    unfold okMo
    simp only [n0, t0, Bool.true_and, Bool.false_and, Bool.and_false]
  have n0 : (nameB s) = false := n0
  conv => whnf
  show false = okMo (s, k, sp, po, we, pu, ca, ro, lo, pr, ru, li, tr, wi)
  unfold okMo
  simp only [n0, Bool.false_and]
def S23a (l : List Cg) (i : Int) : SL := ⟨[.sl cgT l, .undef, .undef, .undef, .undef, .undef, .undef, .undef, .undef, .undef, .undef, .undef, .sl cgT l, .int .i64 l.length, .int .i64 i, .undef, .undef, .undef, .undef, .undef, .undef, .undef, .undef, .undef, .undef, .undef, .undef, .undef, .undef, .undef, .undef, .undef, .undef, .undef, .undef, .undef, .undef, .undef, .undef, .undef, .undef, .undef, .undef, .undef, .undef, .undef, .undef, .undef, .undef, .undef, .undef, .undef, .undef, .undef, .undef, .undef, .undef, .undef, .undef, .undef, .undef, .undef, .undef], [], 0⟩
def S23b (l : List Cg) (i : Int) : SL := ⟨[.sl cgT l, .undef, .undef, .undef, .undef, .undef, .undef, .undef, .undef, .undef, .undef, .undef, .undef, .undef, .undef, .undef, .undef, .undef, .undef, .undef, .undef, .undef, .undef, .undef, .undef, .undef, .undef, .undef, .undef, .undef, .undef, .undef, .undef, .undef, .undef, .undef, .undef, .undef, .undef, .undef, .undef, .sl cgT l, .int .i64 l.length, .int .i64 i, .undef, .undef, .undef, .undef, .undef, .undef, .undef, .undef, .undef, .undef, .undef, .undef, .undef, .undef, .undef, .undef, .undef, .undef, .undef], [], 0⟩
def S23c (l : List Cg) (x : Cg) (i k : Int) : SL := ⟨[.sl cgT l, .undef, .undef, .undef, .undef, .undef, .ptr 0 0 0, .undef, .undef, .undef, .undef, .undef, .undef, .undef, .undef, .undef, .undef, .undef, .undef, .undef, .undef, .undef, .undef, .undef, .undef, .undef, .undef, .undef, .undef, .undef, .undef, .undef, .undef, .undef, .undef, .undef, .undef, .undef, .undef, .undef, .undef, .sl cgT l, .int .i64 l.length, .int .i64 i, .undef, .undef, .undef, .undef, .undef, .undef, .sl cgT (l.take i.toNat), .int .i64 (l.take i.toNat).length, .int .i64 k, .undef, .undef, .undef, .undef, .undef, .undef, .undef, .undef, .undef, .undef], [(0, .box [.str x.1, .int .i64 x.2.1, .int .i64 x.2.2.1, .int .i64 x.2.2.2])], 1⟩
def E23 : Env := ⟨tab, [(57, K57), (58, K58)], fun n => match n with | 4 => some ([0, 12, 13, 14], [], []) | 10 => some ([0, 41, 42, 43], [], []) | 13 => some ([0, 6, 41, 42, 43, 50, 51, 52], [], []) | _ => none⟩
def K23 : Fn1 := ⟨.one (.sl cgT), .one I, fun (l : List Cg) => [nmC l], fun (l : List Cg) => cgR l⟩
set_option maxHeartbeats 1000000 in
theorem k23 : FnOk Go.Proofs.Tryz.prog 23 K23 := by
  refine fn_ok (E := E23) (TOk.of tab_told) (AllOk.cons k57 (.cons k58 .nil)).at_ mix Go.Proofs.Tryz.func23 rfl rfl (by kernel_rfl) K23 ?_
  rintro (l : List Cg) hp
  have hn : nmC l := hp _ (List.mem_cons_self ..)
  clear hp
  conv => whnf
  refine cond_intro (fun hM => ?_) (fun hM => ?_)
  · have hM : 16 < (l.length : Int) := @of_decide_eq_true _ _ hM
    conv => whnf
    show (4 : Int) = cgR l
    exact (valid_large hM).symm
  have hM : ¬ (16 < (l.length : Int)) := @of_decide_eq_false _ _ hM
  conv => whnf
  refine loop_rule (S23a l) (fun i => ((l.length : Int) - i).toNat) (fun i => 0 ≤ i ∧ i ≤ (l.length : Int) ∧ allG (fun i => okCg 1000 255 255 (gC l i)) i.toNat = true) ?_ 0 (by kernel_rfl) ?_ ⟨by omega, by omega, rfl⟩
  case refine_2 => rfl
  rintro i ⟨i0, i1, i2⟩
  conv => whnf
  refine cond_intro (fun hi => ?_) (fun hi => ?_)
  · have hi : i < (l.length : Int) := @of_decide_eq_true _ _ hi
    have wi : IntKind.i64.wrap (i + 1) = i + 1 := wrap_eq (by omega) (by omega)
    have ei : (i + 1).toNat = i.toNat + 1 := by omega
    conv => whnf
    refine ⟨i0, ?_⟩
    conv => whnf
    refine ⟨hi, ?_⟩
    conv => whnf
    refine ⟨hn i.toNat, ?_⟩
    conv => whnf
    refine cond_intro (fun t0 => ?_) (fun t0 => ?_)
    · have t0 : (!(nameB (gC l i.toNat).1)) = true := t0
      have t0 : (nameB (gC l i.toNat).1) = false := by cases e : (nameB (gC l i.toNat).1) with | false => rfl | true => exact absurd t0 (by rw [e]; decide)
      conv => whnf
      show (1 : Int) = cgR l
      exact (valid_bad (i := i.toNat) hM (by omega) (by show okCg 1000 255 255 (gC l i.toNat) = false; unfold okCg; simp [t0])).symm
    have t0 : (!(nameB (gC l i.toNat).1)) = false := t0
    have t0 : (nameB (gC l i.toNat).1) = true := by cases e : (nameB (gC l i.toNat).1) with | true => rfl | false => exact absurd t0 (by rw [e]; decide)
    conv => whnf
    refine cond_intro (fun t1 => ?_) (fun t1 => ?_)
    · have t1 : (!(inB (gC l i.toNat).2.1 0 1000)) = true := t1
      have t1 : (inB (gC l i.toNat).2.1 0 1000) = false := by cases e : (inB (gC l i.toNat).2.1 0 1000) with | false => rfl | true => exact absurd t1 (by rw [e]; decide)
      conv => whnf
      show (1 : Int) = cgR l
      exact (valid_bad (i := i.toNat) hM (by omega) (by show okCg 1000 255 255 (gC l i.toNat) = false; unfold okCg; simp [t0, t1])).symm
    have t1 : (!(inB (gC l i.toNat).2.1 0 1000)) = false := t1
    have t1 : (inB (gC l i.toNat).2.1 0 1000) = true := by cases e : (inB (gC l i.toNat).2.1 0 1000) with | true => rfl | false => exact absurd t1 (by rw [e]; decide)
    conv => whnf
    refine cond_intro (fun t2 => ?_) (fun t2 => ?_)
    · have t2 : (!(inB (gC l i.toNat).2.2.1 0 255)) = true := t2
      have t2 : (inB (gC l i.toNat).2.2.1 0 255) = false := by cases e : (inB (gC l i.toNat).2.2.1 0 255) with | false => rfl | true => exact absurd t2 (by rw [e]; decide)
      conv => whnf
      show (1 : Int) = cgR l
      exact (valid_bad (i := i.toNat) hM (by omega) (by show okCg 1000 255 255 (gC l i.toNat) = false; unfold okCg; simp [t0, t1, t2])).symm
    have t2 : (!(inB (gC l i.toNat).2.2.1 0 255)) = false := t2
    have t2 : (inB (gC l i.toNat).2.2.1 0 255) = true := by cases e : (inB (gC l i.toNat).2.2.1 0 255) with | true => rfl | false => exact absurd t2 (by rw [e]; decide)
    conv => whnf
    refine cond_intro (fun t3 => ?_) (fun t3 => ?_)
    · have t3 : (!(inB (gC l i.toNat).2.2.2 0 255)) = true := t3
      have t3 : (inB (gC l i.toNat).2.2.2 0 255) = false := by cases e : (inB (gC l i.toNat).2.2.2 0 255) with | false => rfl | true => exact absurd t3 (by rw [e]; decide)
      conv => whnf
      show (1 : Int) = cgR l
      exact (valid_bad (i := i.toNat) hM (by omega) (by show okCg 1000 255 255 (gC l i.toNat) = false; unfold okCg; simp [t0, t1, t2, t3])).symm
    have t3 : (!(inB (gC l i.toNat).2.2.2 0 255)) = false := t3
    have t3 : (inB (gC l i.toNat).2.2.2 0 255) = true := by cases e : (inB (gC l i.toNat).2.2.2 0 255) with | true => rfl | false => exact absurd t3 (by rw [e]; decide)
    conv => whnf
    refine ⟨i + 1, ?_, ⟨by omega, by omega, ?_⟩, by omega⟩
    · exact Eq.trans (b := S23a l (IntKind.i64.wrap (i + 1))) rfl (by rw [wi])
    · rw [ei]; exact allG_succ i2 (by show okCg 1000 255 255 (gC l i.toNat) = true; unfold okCg; simp [t0, t1, t2, t3])
  have hi : ¬ (i < (l.length : Int)) := @of_decide_eq_false _ _ hi
  rw [show i.toNat = l.length by omega] at i2
  have hall := i2
  clear i2
  conv => whnf
  refine loop_rule (S23b l) (fun i => ((l.length : Int) - i).toNat) (fun i => 0 ≤ i ∧ i ≤ (l.length : Int) ∧ uniqG (fun i => (gC l i).1) i.toNat = true) ?_ 0 (by kernel_rfl) ?_ ⟨by omega, by omega, rfl⟩
  case refine_2 => rfl
  rintro i ⟨i0, i1, j2⟩
  conv => whnf
  refine cond_intro (fun hi => ?_) (fun hi => ?_)
  · have hi : i < (l.length : Int) := @of_decide_eq_true _ _ hi
    have wi : IntKind.i64.wrap (i + 1) = i + 1 := wrap_eq (by omega) (by omega)
    have ei : (i + 1).toNat = i.toNat + 1 := by omega
    conv => whnf
    refine ⟨i0, ?_⟩
    conv => whnf
    refine ⟨hi, ?_⟩
    conv => whnf
    refine ⟨i0, ?_⟩
    conv => whnf
    refine ⟨show i ≤ (l.length : Int) by omega, ?_⟩
    conv => whnf
    refine loop_rule (S23c l (gC l i.toNat) i) (fun k => (i - k).toNat) (fun k => 0 ≤ k ∧ k ≤ i ∧ freshG (fun i => (gC l i).1) i.toNat k.toNat = true) ?_ 0 (by kernel_rfl) ?_ ⟨by omega, by omega, rfl⟩
    case refine_2 => rfl
    rintro k ⟨k0, k1, k2⟩
    have htl : (l.take i.toNat).length = i.toNat := by rw [List.length_take]; omega
    conv => whnf
    refine cond_intro (fun hk => ?_) (fun hk => ?_)
    · have hk : k < ((l.take i.toNat).length : Int) := @of_decide_eq_true _ _ hk
      have wk : IntKind.i64.wrap (k + 1) = k + 1 := wrap_eq (by omega) (by omega)
      have ek : (k + 1).toNat = k.toNat + 1 := by omega
      conv => whnf
      refine ⟨k0, ?_⟩
      conv => whnf
      refine ⟨hk, ?_⟩
      conv => whnf
      refine cond_intro (fun e1 => ?_) (fun e1 => ?_)
      · have e1 : (((gC l i.toNat).1.toList == ByteArray.toList ((l.take i.toNat).getD k.toNat zCg).1)) = true := e1
        rw [gd_take (by omega), tl_iff] at e1
        have e1 := of_decide_eq_true e1
        conv => whnf
        show (3 : Int) = cgR l
        exact (valid_dup (i := i.toNat) (k := k.toNat) hM hall (by omega) (by omega) e1.symm).symm
      have e1 : (((gC l i.toNat).1.toList == ByteArray.toList ((l.take i.toNat).getD k.toNat zCg).1)) = false := e1
      rw [gd_take (by omega), tl_iff] at e1
      have e1 := of_decide_eq_false e1
      have e1 : ¬ (gC l k.toNat).1 = (gC l i.toNat).1 := fun e => e1 e.symm
      conv => whnf
      refine ⟨k + 1, ?_, ⟨by omega, by omega, ?_⟩, by omega⟩
      · exact Eq.trans (b := S23c l (gC l i.toNat) i (IntKind.i64.wrap (k + 1))) rfl (by rw [wk])
      · rw [ek]; exact allG_succ k2 (by show (!decide ((gC l k.toNat).1 = (gC l i.toNat).1)) = true; rw [decide_eq_false e1]; rfl)
    have hk : ¬ (k < ((l.take i.toNat).length : Int)) := @of_decide_eq_false _ _ hk
    rw [show k.toNat = i.toNat by omega] at k2
    conv => whnf
    refine ⟨i + 1, ?_, ⟨by omega, by omega, ?_⟩, by omega⟩
    · exact Eq.trans (b := S23b l (IntKind.i64.wrap (i + 1))) rfl (by rw [wi])
    · rw [ei]; exact allG_succ j2 k2
  have hi : ¬ (i < (l.length : Int)) := @of_decide_eq_false _ _ hi
  rw [show i.toNat = l.length by omega] at j2
  conv => whnf
  show (0 : Int) = cgR l
  exact (valid_ok hM hall j2).symm
def S25a (l : List Cg) (i : Int) : SL := ⟨[.sl cgT l, .undef, .undef, .undef, .undef, .undef, .undef, .undef, .undef, .undef, .undef, .undef, .sl cgT l, .int .i64 l.length, .int .i64 i, .undef, .undef, .undef, .undef, .undef, .undef, .undef, .undef, .undef, .undef, .undef, .undef, .undef, .undef, .undef, .undef, .undef, .undef, .undef, .undef, .undef, .undef, .undef, .undef, .undef, .undef, .undef, .undef, .undef, .undef, .undef, .undef, .undef, .undef, .undef, .undef, .undef, .undef, .undef, .undef, .undef, .undef, .undef, .undef, .undef, .undef, .undef, .undef], [], 0⟩
def S25b (l : List Cg) (i : Int) : SL := ⟨[.sl cgT l, .undef, .undef, .undef, .undef, .undef, .undef, .undef, .undef, .undef, .undef, .undef, .undef, .undef, .undef, .undef, .undef, .undef, .undef, .undef, .undef, .undef, .undef, .undef, .undef, .undef, .undef, .undef, .undef, .undef, .undef, .undef, .undef, .undef, .undef, .undef, .undef, .undef, .undef, .undef, .undef, .sl cgT l, .int .i64 l.length, .int .i64 i, .undef, .undef, .undef, .undef, .undef, .undef, .undef, .undef, .undef, .undef, .undef, .undef, .undef, .undef, .undef, .undef, .undef, .undef, .undef], [], 0⟩
def S25c (l : List Cg) (x : Cg) (i k : Int) : SL := ⟨[.sl cgT l, .undef, .undef, .undef, .undef, .undef, .ptr 0 0 0, .undef, .undef, .undef, .undef, .undef, .undef, .undef, .undef, .undef, .undef, .undef, .undef, .undef, .undef, .undef, .undef, .undef, .undef, .undef, .undef, .undef, .undef, .undef, .undef, .undef, .undef, .undef, .undef, .undef, .undef, .undef, .undef, .undef, .undef, .sl cgT l, .int .i64 l.length, .int .i64 i, .undef, .undef, .undef, .undef, .undef, .undef, .sl cgT (l.take i.toNat), .int .i64 (l.take i.toNat).length, .int .i64 k, .undef, .undef, .undef, .undef, .undef, .undef, .undef, .undef, .undef, .undef], [(0, .box [.str x.1, .int .i64 x.2.1, .int .i64 x.2.2.1, .int .i64 x.2.2.2])], 1⟩
def E25 : Env := ⟨tab, [(60, K60), (61, K61)], fun n => match n with | 4 => some ([0, 12, 13, 14], [], []) | 10 => some ([0, 41, 42, 43], [], []) | 13 => some ([0, 6, 41, 42, 43, 50, 51, 52], [], []) | _ => none⟩
def K25 : Fn1 := ⟨.one (.sl cgT), .one I, fun (l : List Cg) => [nmC l], fun (l : List Cg) => hoR l⟩
set_option maxHeartbeats 1000000 in
theorem k25 : FnOk Go.Proofs.Tryz.prog 25 K25 := by
  refine fn_ok (E := E25) (TOk.of tab_told) (AllOk.cons k60 (.cons k61 .nil)).at_ mix Go.Proofs.Tryz.func25 rfl rfl (by kernel_rfl) K25 ?_
  rintro (l : List Cg) hp
  have hn : nmC l := hp _ (List.mem_cons_self ..)
  clear hp
  conv => whnf
  refine cond_intro (fun hM => ?_) (fun hM => ?_)
  · have hM : 16 < (l.length : Int) := @of_decide_eq_true _ _ hM
    conv => whnf
    show (4 : Int) = hoR l
    exact (valid_large hM).symm
  have hM : ¬ (16 < (l.length : Int)) := @of_decide_eq_false _ _ hM
  conv => whnf
  refine loop_rule (S25a l) (fun i => ((l.length : Int) - i).toNat) (fun i => 0 ≤ i ∧ i ≤ (l.length : Int) ∧ allG (fun i => okCg 1000 1000 1048576 (gC l i)) i.toNat = true) ?_ 0 (by kernel_rfl) ?_ ⟨by omega, by omega, rfl⟩
  case refine_2 => rfl
  rintro i ⟨i0, i1, i2⟩
  conv => whnf
  refine cond_intro (fun hi => ?_) (fun hi => ?_)
  · have hi : i < (l.length : Int) := @of_decide_eq_true _ _ hi
    have wi : IntKind.i64.wrap (i + 1) = i + 1 := wrap_eq (by omega) (by omega)
    have ei : (i + 1).toNat = i.toNat + 1 := by omega
    conv => whnf
    refine ⟨i0, ?_⟩
    conv => whnf
    refine ⟨hi, ?_⟩
    conv => whnf
    refine ⟨hn i.toNat, ?_⟩
    conv => whnf
    refine cond_intro (fun t0 => ?_) (fun t0 => ?_)
    · have t0 : (!(nameB (gC l i.toNat).1)) = true := t0
      have t0 : (nameB (gC l i.toNat).1) = false := by cases e : (nameB (gC l i.toNat).1) with | false => rfl | true => exact absurd t0 (by rw [e]; decide)
      conv => whnf
      show (1 : Int) = hoR l
      exact (valid_bad (i := i.toNat) hM (by omega) (by show okCg 1000 1000 1048576 (gC l i.toNat) = false; unfold okCg; simp [t0])).symm
    have t0 : (!(nameB (gC l i.toNat).1)) = false := t0
    have t0 : (nameB (gC l i.toNat).1) = true := by cases e : (nameB (gC l i.toNat).1) with | true => rfl | false => exact absurd t0 (by rw [e]; decide)
    conv => whnf
    refine cond_intro (fun t1 => ?_) (fun t1 => ?_)
    · have t1 : (!(inB (gC l i.toNat).2.1 0 1000)) = true := t1
      have t1 : (inB (gC l i.toNat).2.1 0 1000) = false := by cases e : (inB (gC l i.toNat).2.1 0 1000) with | false => rfl | true => exact absurd t1 (by rw [e]; decide)
      conv => whnf
      show (1 : Int) = hoR l
      exact (valid_bad (i := i.toNat) hM (by omega) (by show okCg 1000 1000 1048576 (gC l i.toNat) = false; unfold okCg; simp [t0, t1])).symm
    have t1 : (!(inB (gC l i.toNat).2.1 0 1000)) = false := t1
    have t1 : (inB (gC l i.toNat).2.1 0 1000) = true := by cases e : (inB (gC l i.toNat).2.1 0 1000) with | true => rfl | false => exact absurd t1 (by rw [e]; decide)
    conv => whnf
    refine cond_intro (fun t2 => ?_) (fun t2 => ?_)
    · have t2 : (!(inB (gC l i.toNat).2.2.1 0 1000)) = true := t2
      have t2 : (inB (gC l i.toNat).2.2.1 0 1000) = false := by cases e : (inB (gC l i.toNat).2.2.1 0 1000) with | false => rfl | true => exact absurd t2 (by rw [e]; decide)
      conv => whnf
      show (1 : Int) = hoR l
      exact (valid_bad (i := i.toNat) hM (by omega) (by show okCg 1000 1000 1048576 (gC l i.toNat) = false; unfold okCg; simp [t0, t1, t2])).symm
    have t2 : (!(inB (gC l i.toNat).2.2.1 0 1000)) = false := t2
    have t2 : (inB (gC l i.toNat).2.2.1 0 1000) = true := by cases e : (inB (gC l i.toNat).2.2.1 0 1000) with | true => rfl | false => exact absurd t2 (by rw [e]; decide)
    conv => whnf
    refine cond_intro (fun t3 => ?_) (fun t3 => ?_)
    · have t3 : (!(inB (gC l i.toNat).2.2.2 0 1048576)) = true := t3
      have t3 : (inB (gC l i.toNat).2.2.2 0 1048576) = false := by cases e : (inB (gC l i.toNat).2.2.2 0 1048576) with | false => rfl | true => exact absurd t3 (by rw [e]; decide)
      conv => whnf
      show (1 : Int) = hoR l
      exact (valid_bad (i := i.toNat) hM (by omega) (by show okCg 1000 1000 1048576 (gC l i.toNat) = false; unfold okCg; simp [t0, t1, t2, t3])).symm
    have t3 : (!(inB (gC l i.toNat).2.2.2 0 1048576)) = false := t3
    have t3 : (inB (gC l i.toNat).2.2.2 0 1048576) = true := by cases e : (inB (gC l i.toNat).2.2.2 0 1048576) with | true => rfl | false => exact absurd t3 (by rw [e]; decide)
    conv => whnf
    refine ⟨i + 1, ?_, ⟨by omega, by omega, ?_⟩, by omega⟩
    · exact Eq.trans (b := S25a l (IntKind.i64.wrap (i + 1))) rfl (by rw [wi])
    · rw [ei]; exact allG_succ i2 (by show okCg 1000 1000 1048576 (gC l i.toNat) = true; unfold okCg; simp [t0, t1, t2, t3])
  have hi : ¬ (i < (l.length : Int)) := @of_decide_eq_false _ _ hi
  rw [show i.toNat = l.length by omega] at i2
  have hall := i2
  clear i2
  conv => whnf
  refine loop_rule (S25b l) (fun i => ((l.length : Int) - i).toNat) (fun i => 0 ≤ i ∧ i ≤ (l.length : Int) ∧ uniqG (fun i => (gC l i).1) i.toNat = true) ?_ 0 (by kernel_rfl) ?_ ⟨by omega, by omega, rfl⟩
  case refine_2 => rfl
  rintro i ⟨i0, i1, j2⟩
  conv => whnf
  refine cond_intro (fun hi => ?_) (fun hi => ?_)
  · have hi : i < (l.length : Int) := @of_decide_eq_true _ _ hi
    have wi : IntKind.i64.wrap (i + 1) = i + 1 := wrap_eq (by omega) (by omega)
    have ei : (i + 1).toNat = i.toNat + 1 := by omega
    conv => whnf
    refine ⟨i0, ?_⟩
    conv => whnf
    refine ⟨hi, ?_⟩
    conv => whnf
    refine ⟨i0, ?_⟩
    conv => whnf
    refine ⟨show i ≤ (l.length : Int) by omega, ?_⟩
    conv => whnf
    refine loop_rule (S25c l (gC l i.toNat) i) (fun k => (i - k).toNat) (fun k => 0 ≤ k ∧ k ≤ i ∧ freshG (fun i => (gC l i).1) i.toNat k.toNat = true) ?_ 0 (by kernel_rfl) ?_ ⟨by omega, by omega, rfl⟩
    case refine_2 => rfl
    rintro k ⟨k0, k1, k2⟩
    have htl : (l.take i.toNat).length = i.toNat := by rw [List.length_take]; omega
    conv => whnf
    refine cond_intro (fun hk => ?_) (fun hk => ?_)
    · have hk : k < ((l.take i.toNat).length : Int) := @of_decide_eq_true _ _ hk
      have wk : IntKind.i64.wrap (k + 1) = k + 1 := wrap_eq (by omega) (by omega)
      have ek : (k + 1).toNat = k.toNat + 1 := by omega
      conv => whnf
      refine ⟨k0, ?_⟩
      conv => whnf
      refine ⟨hk, ?_⟩
      conv => whnf
      refine cond_intro (fun e1 => ?_) (fun e1 => ?_)
      · have e1 : (((gC l i.toNat).1.toList == ByteArray.toList ((l.take i.toNat).getD k.toNat zCg).1)) = true := e1
        rw [gd_take (by omega), tl_iff] at e1
        have e1 := of_decide_eq_true e1
        conv => whnf
        show (3 : Int) = hoR l
        exact (valid_dup (i := i.toNat) (k := k.toNat) hM hall (by omega) (by omega) e1.symm).symm
      have e1 : (((gC l i.toNat).1.toList == ByteArray.toList ((l.take i.toNat).getD k.toNat zCg).1)) = false := e1
      rw [gd_take (by omega), tl_iff] at e1
      have e1 := of_decide_eq_false e1
      have e1 : ¬ (gC l k.toNat).1 = (gC l i.toNat).1 := fun e => e1 e.symm
      conv => whnf
      refine ⟨k + 1, ?_, ⟨by omega, by omega, ?_⟩, by omega⟩
      · exact Eq.trans (b := S25c l (gC l i.toNat) i (IntKind.i64.wrap (k + 1))) rfl (by rw [wk])
      · rw [ek]; exact allG_succ k2 (by show (!decide ((gC l k.toNat).1 = (gC l i.toNat).1)) = true; rw [decide_eq_false e1]; rfl)
    have hk : ¬ (k < ((l.take i.toNat).length : Int)) := @of_decide_eq_false _ _ hk
    rw [show k.toNat = i.toNat by omega] at k2
    conv => whnf
    refine ⟨i + 1, ?_, ⟨by omega, by omega, ?_⟩, by omega⟩
    · exact Eq.trans (b := S25b l (IntKind.i64.wrap (i + 1))) rfl (by rw [wi])
    · rw [ei]; exact allG_succ j2 k2
  have hi : ¬ (i < (l.length : Int)) := @of_decide_eq_false _ _ hi
  rw [show i.toNat = l.length by omega] at j2
  conv => whnf
  show (0 : Int) = hoR l
  exact (valid_ok hM hall j2).symm
def S26a (l : List Mo) (i : Int) : SL := ⟨[.sl moT l, .undef, .undef, .undef, .undef, .undef, .undef, .undef, .undef, .undef, .undef, .undef, .sl moT l, .int .i64 l.length, .int .i64 i, .undef, .undef, .undef, .undef, .undef, .undef, .undef, .undef, .undef, .undef, .undef, .undef, .undef, .undef, .undef, .undef, .undef, .undef, .undef, .undef, .undef, .undef, .undef, .undef, .undef, .undef, .undef, .undef, .undef], [], 0⟩
def S26b (l : List Mo) (i : Int) : SL := ⟨[.sl moT l, .undef, .undef, .undef, .undef, .undef, .undef, .undef, .undef, .undef, .undef, .undef, .undef, .undef, .undef, .undef, .undef, .undef, .undef, .undef, .undef, .undef, .sl moT l, .int .i64 l.length, .int .i64 i, .undef, .undef, .undef, .undef, .undef, .undef, .undef, .undef, .undef, .undef, .undef, .undef, .undef, .undef, .undef, .undef, .undef, .undef, .undef], [], 0⟩
def S26c (l : List Mo) (x : Mo) (i k : Int) : SL := ⟨[.sl moT l, .undef, .undef, .undef, .undef, .undef, .ptr 0 0 0, .undef, .undef, .undef, .undef, .undef, .undef, .undef, .undef, .undef, .undef, .undef, .undef, .undef, .undef, .undef, .sl moT l, .int .i64 l.length, .int .i64 i, .undef, .undef, .undef, .undef, .undef, .undef, .sl moT (l.take i.toNat), .int .i64 (l.take i.toNat).length, .int .i64 k, .undef, .undef, .undef, .undef, .undef, .undef, .undef, .undef, .undef, .undef], [(0, .box [.str x.1, .int .i64 x.2.1, .int .i64 x.2.2.1, .int .i64 x.2.2.2.1, .int .i64 x.2.2.2.2.1, .int .i64 x.2.2.2.2.2.1, .int .i64 x.2.2.2.2.2.2.1, .int .i64 x.2.2.2.2.2.2.2.1, .int .i64 x.2.2.2.2.2.2.2.2.1, .int .i64 x.2.2.2.2.2.2.2.2.2.1, .int .i64 x.2.2.2.2.2.2.2.2.2.2.1, .int .i64 x.2.2.2.2.2.2.2.2.2.2.2.1, .int .i64 x.2.2.2.2.2.2.2.2.2.2.2.2.1, .bool x.2.2.2.2.2.2.2.2.2.2.2.2.2])], 1⟩
def E26 : Env := ⟨tab, [(62, K62)], fun n => match n with | 4 => some ([0, 12, 13, 14], [], []) | 10 => some ([0, 22, 23, 24], [], []) | 13 => some ([0, 6, 22, 23, 24, 31, 32, 33], [], []) | _ => none⟩
def K26 : Fn1 := ⟨.one (.sl moT), .one I, fun (l : List Mo) => [nmM l], fun (l : List Mo) => moR l⟩
set_option maxHeartbeats 1000000 in
theorem k26 : FnOk Go.Proofs.Tryz.prog 26 K26 := by
  refine fn_ok (E := E26) (TOk.of tab_told) (AllOk.cons k62 .nil).at_ mix Go.Proofs.Tryz.func26 rfl rfl (by kernel_rfl) K26 ?_
  rintro (l : List Mo) hp
  have hn : nmM l := hp _ (List.mem_cons_self ..)
  clear hp
  conv => whnf
  refine cond_intro (fun hM => ?_) (fun hM => ?_)
  · have hM : 40 < (l.length : Int) := @of_decide_eq_true _ _ hM
    conv => whnf
    show (4 : Int) = moR l
    exact (valid_large hM).symm
  have hM : ¬ (40 < (l.length : Int)) := @of_decide_eq_false _ _ hM
  conv => whnf
  refine loop_rule (S26a l) (fun i => ((l.length : Int) - i).toNat) (fun i => 0 ≤ i ∧ i ≤ (l.length : Int) ∧ allG (fun i => okMo (gM l i)) i.toNat = true) ?_ 0 (by kernel_rfl) ?_ ⟨by omega, by omega, rfl⟩
  case refine_2 => rfl
  rintro i ⟨i0, i1, i2⟩
  conv => whnf
  refine cond_intro (fun hi => ?_) (fun hi => ?_)
  · have hi : i < (l.length : Int) := @of_decide_eq_true _ _ hi
    have wi : IntKind.i64.wrap (i + 1) = i + 1 := wrap_eq (by omega) (by omega)
    have ei : (i + 1).toNat = i.toNat + 1 := by omega
    conv => whnf
    refine ⟨i0, ?_⟩
    conv => whnf
    refine ⟨hi, ?_⟩
    conv => whnf
    refine ⟨hn i.toNat, ?_⟩
    conv => whnf
    refine cond_intro (fun t0 => ?_) (fun t0 => ?_)
    · have t0 : (!(okMo (gM l i.toNat))) = true := t0
      have t0 : (okMo (gM l i.toNat)) = false := by cases e : (okMo (gM l i.toNat)) with | false => rfl | true => exact absurd t0 (by rw [e]; decide)
      conv => whnf
      show (1 : Int) = moR l
      exact (valid_bad (i := i.toNat) hM (by omega) t0).symm
    have t0 : (!(okMo (gM l i.toNat))) = false := t0
    have t0 : (okMo (gM l i.toNat)) = true := by cases e : (okMo (gM l i.toNat)) with | true => rfl | false => exact absurd t0 (by rw [e]; decide)
    conv => whnf
    refine ⟨i + 1, ?_, ⟨by omega, by omega, ?_⟩, by omega⟩
    · exact Eq.trans (b := S26a l (IntKind.i64.wrap (i + 1))) rfl (by rw [wi])
    · rw [ei]; exact allG_succ i2 (by show okMo (gM l i.toNat) = true; exact t0)
  have hi : ¬ (i < (l.length : Int)) := @of_decide_eq_false _ _ hi
  rw [show i.toNat = l.length by omega] at i2
  have hall := i2
  clear i2
  conv => whnf
  refine loop_rule (S26b l) (fun i => ((l.length : Int) - i).toNat) (fun i => 0 ≤ i ∧ i ≤ (l.length : Int) ∧ uniqG (fun i => (gM l i).1) i.toNat = true) ?_ 0 (by kernel_rfl) ?_ ⟨by omega, by omega, rfl⟩
  case refine_2 => rfl
  rintro i ⟨i0, i1, j2⟩
  conv => whnf
  refine cond_intro (fun hi => ?_) (fun hi => ?_)
  · have hi : i < (l.length : Int) := @of_decide_eq_true _ _ hi
    have wi : IntKind.i64.wrap (i + 1) = i + 1 := wrap_eq (by omega) (by omega)
    have ei : (i + 1).toNat = i.toNat + 1 := by omega
    conv => whnf
    refine ⟨i0, ?_⟩
    conv => whnf
    refine ⟨hi, ?_⟩
    conv => whnf
    refine ⟨i0, ?_⟩
    conv => whnf
    refine ⟨show i ≤ (l.length : Int) by omega, ?_⟩
    conv => whnf
    refine loop_rule (S26c l (gM l i.toNat) i) (fun k => (i - k).toNat) (fun k => 0 ≤ k ∧ k ≤ i ∧ freshG (fun i => (gM l i).1) i.toNat k.toNat = true) ?_ 0 (by kernel_rfl) ?_ ⟨by omega, by omega, rfl⟩
    case refine_2 => rfl
    rintro k ⟨k0, k1, k2⟩
    have htl : (l.take i.toNat).length = i.toNat := by rw [List.length_take]; omega
    conv => whnf
    refine cond_intro (fun hk => ?_) (fun hk => ?_)
    · have hk : k < ((l.take i.toNat).length : Int) := @of_decide_eq_true _ _ hk
      have wk : IntKind.i64.wrap (k + 1) = k + 1 := wrap_eq (by omega) (by omega)
      have ek : (k + 1).toNat = k.toNat + 1 := by omega
      conv => whnf
      refine ⟨k0, ?_⟩
      conv => whnf
      refine ⟨hk, ?_⟩
      conv => whnf
      refine cond_intro (fun e1 => ?_) (fun e1 => ?_)
      · have e1 : ((((l.take i.toNat).getD k.toNat zMo).1.toList == ByteArray.toList (gM l i.toNat).1)) = true := e1
        rw [gd_take (by omega), tl_iff] at e1
        have e1 := of_decide_eq_true e1
        conv => whnf
        show (3 : Int) = moR l
        exact (valid_dup (i := i.toNat) (k := k.toNat) hM hall (by omega) (by omega) e1).symm
      have e1 : ((((l.take i.toNat).getD k.toNat zMo).1.toList == ByteArray.toList (gM l i.toNat).1)) = false := e1
      rw [gd_take (by omega), tl_iff] at e1
      have e1 := of_decide_eq_false e1
      have e1 : ¬ (gM l k.toNat).1 = (gM l i.toNat).1 := e1
      conv => whnf
      refine ⟨k + 1, ?_, ⟨by omega, by omega, ?_⟩, by omega⟩
      · exact Eq.trans (b := S26c l (gM l i.toNat) i (IntKind.i64.wrap (k + 1))) rfl (by rw [wk])
      · rw [ek]; exact allG_succ k2 (by show (!decide ((gM l k.toNat).1 = (gM l i.toNat).1)) = true; rw [decide_eq_false e1]; rfl)
    have hk : ¬ (k < ((l.take i.toNat).length : Int)) := @of_decide_eq_false _ _ hk
    rw [show k.toNat = i.toNat by omega] at k2
    conv => whnf
    refine ⟨i + 1, ?_, ⟨by omega, by omega, ?_⟩, by omega⟩
    · exact Eq.trans (b := S26b l (IntKind.i64.wrap (i + 1))) rfl (by rw [wi])
    · rw [ei]; exact allG_succ j2 k2
  have hi : ¬ (i < (l.length : Int)) := @of_decide_eq_false _ _ hi
  rw [show i.toNat = l.length by omega] at j2
  conv => whnf
  show (0 : Int) = moR l
  exact (valid_ok hM hall j2).symm
def S33a (l : List Mo) (i : Int) : SL := ⟨[.sl moT l, .undef, .undef, .undef, .undef, .undef, .undef, .undef, .undef, .undef, .undef, .undef, .sl moT l, .int .i64 l.length, .int .i64 i, .undef, .undef, .undef, .undef, .undef, .undef, .undef, .undef, .undef, .undef, .undef, .undef, .undef, .undef, .undef, .undef, .undef, .undef, .undef, .undef, .undef, .undef, .undef, .undef, .undef, .undef, .undef, .undef, .undef], [], 0⟩
def S33b (l : List Mo) (i : Int) : SL := ⟨[.sl moT l, .undef, .undef, .undef, .undef, .undef, .undef, .undef, .undef, .undef, .undef, .undef, .undef, .undef, .undef, .undef, .undef, .undef, .undef, .undef, .undef, .undef, .sl moT l, .int .i64 l.length, .int .i64 i, .undef, .undef, .undef, .undef, .undef, .undef, .undef, .undef, .undef, .undef, .undef, .undef, .undef, .undef, .undef, .undef, .undef, .undef, .undef], [], 0⟩
def S33c (l : List Mo) (x : Mo) (i k : Int) : SL := ⟨[.sl moT l, .undef, .undef, .undef, .undef, .undef, .ptr 0 0 0, .undef, .undef, .undef, .undef, .undef, .undef, .undef, .undef, .undef, .undef, .undef, .undef, .undef, .undef, .undef, .sl moT l, .int .i64 l.length, .int .i64 i, .undef, .undef, .undef, .undef, .undef, .undef, .sl moT (l.take i.toNat), .int .i64 (l.take i.toNat).length, .int .i64 k, .undef, .undef, .undef, .undef, .undef, .undef, .undef, .undef, .undef, .undef], [(0, .box [.str x.1, .int .i64 x.2.1, .int .i64 x.2.2.1, .int .i64 x.2.2.2.1, .int .i64 x.2.2.2.2.1, .int .i64 x.2.2.2.2.2.1, .int .i64 x.2.2.2.2.2.2.1, .int .i64 x.2.2.2.2.2.2.2.1, .int .i64 x.2.2.2.2.2.2.2.2.1, .int .i64 x.2.2.2.2.2.2.2.2.2.1, .int .i64 x.2.2.2.2.2.2.2.2.2.2.1, .int .i64 x.2.2.2.2.2.2.2.2.2.2.2.1, .int .i64 x.2.2.2.2.2.2.2.2.2.2.2.2.1, .bool x.2.2.2.2.2.2.2.2.2.2.2.2.2])], 1⟩
def E33 : Env := ⟨tab, [(69, K69)], fun n => match n with | 4 => some ([0, 12, 13, 14], [], []) | 10 => some ([0, 22, 23, 24], [], []) | 13 => some ([0, 6, 22, 23, 24, 31, 32, 33], [], []) | _ => none⟩
def K33 : Fn1 := ⟨.one (.sl moT), .one I, fun _ => [], fun (l : List Mo) => moR l⟩
set_option maxHeartbeats 1000000 in
theorem k33 : FnOk Go.Proofs.Tryz.prog 33 K33 := by
  refine fn_ok (E := E33) (TOk.of tab_told) (AllOk.cons k69 .nil).at_ mix Go.Proofs.Tryz.func33 rfl rfl (by kernel_rfl) K33 ?_
  rintro (l : List Mo) hp
  clear hp
  conv => whnf
  refine cond_intro (fun hM => ?_) (fun hM => ?_)
  · have hM : 40 < (l.length : Int) := @of_decide_eq_true _ _ hM
    conv => whnf
    show (4 : Int) = moR l
    exact (valid_large hM).symm
  have hM : ¬ (40 < (l.length : Int)) := @of_decide_eq_false _ _ hM
  conv => whnf
  refine loop_rule (S33a l) (fun i => ((l.length : Int) - i).toNat) (fun i => 0 ≤ i ∧ i ≤ (l.length : Int) ∧ allG (fun i => okMo (gM l i)) i.toNat = true) ?_ 0 (by kernel_rfl) ?_ ⟨by omega, by omega, rfl⟩
  case refine_2 => rfl
  rintro i ⟨i0, i1, i2⟩
  conv => whnf
  refine cond_intro (fun hi => ?_) (fun hi => ?_)
  · have hi : i < (l.length : Int) := @of_decide_eq_true _ _ hi
    have wi : IntKind.i64.wrap (i + 1) = i + 1 := wrap_eq (by omega) (by omega)
    have ei : (i + 1).toNat = i.toNat + 1 := by omega
    conv => whnf
    refine ⟨i0, ?_⟩
    conv => whnf
    refine ⟨hi, ?_⟩
    conv => whnf
    refine cond_intro (fun t0 => ?_) (fun t0 => ?_)
    · have t0 : (!(okMo (gM l i.toNat))) = true := t0
      have t0 : (okMo (gM l i.toNat)) = false := by cases e : (okMo (gM l i.toNat)) with | false => rfl | true => exact absurd t0 (by rw [e]; decide)
      conv => whnf
      show (1 : Int) = moR l
      exact (valid_bad (i := i.toNat) hM (by omega) t0).symm
    have t0 : (!(okMo (gM l i.toNat))) = false := t0
    have t0 : (okMo (gM l i.toNat)) = true := by cases e : (okMo (gM l i.toNat)) with | true => rfl | false => exact absurd t0 (by rw [e]; decide)
    conv => whnf
    refine ⟨i + 1, ?_, ⟨by omega, by omega, ?_⟩, by omega⟩
    · exact Eq.trans (b := S33a l (IntKind.i64.wrap (i + 1))) rfl (by rw [wi])
    · rw [ei]; exact allG_succ i2 (by show okMo (gM l i.toNat) = true; exact t0)
  have hi : ¬ (i < (l.length : Int)) := @of_decide_eq_false _ _ hi
  rw [show i.toNat = l.length by omega] at i2
  have hall := i2
  clear i2
  conv => whnf
  refine loop_rule (S33b l) (fun i => ((l.length : Int) - i).toNat) (fun i => 0 ≤ i ∧ i ≤ (l.length : Int) ∧ uniqG (fun i => (gM l i).1) i.toNat = true) ?_ 0 (by kernel_rfl) ?_ ⟨by omega, by omega, rfl⟩
  case refine_2 => rfl
  rintro i ⟨i0, i1, j2⟩
  conv => whnf
  refine cond_intro (fun hi => ?_) (fun hi => ?_)
  · have hi : i < (l.length : Int) := @of_decide_eq_true _ _ hi
    have wi : IntKind.i64.wrap (i + 1) = i + 1 := wrap_eq (by omega) (by omega)
    have ei : (i + 1).toNat = i.toNat + 1 := by omega
    conv => whnf
    refine ⟨i0, ?_⟩
    conv => whnf
    refine ⟨hi, ?_⟩
    conv => whnf
    refine ⟨i0, ?_⟩
    conv => whnf
    refine ⟨show i ≤ (l.length : Int) by omega, ?_⟩
    conv => whnf
    refine loop_rule (S33c l (gM l i.toNat) i) (fun k => (i - k).toNat) (fun k => 0 ≤ k ∧ k ≤ i ∧ freshG (fun i => (gM l i).1) i.toNat k.toNat = true) ?_ 0 (by kernel_rfl) ?_ ⟨by omega, by omega, rfl⟩
    case refine_2 => rfl
    rintro k ⟨k0, k1, k2⟩
    have htl : (l.take i.toNat).length = i.toNat := by rw [List.length_take]; omega
    conv => whnf
    refine cond_intro (fun hk => ?_) (fun hk => ?_)
    · have hk : k < ((l.take i.toNat).length : Int) := @of_decide_eq_true _ _ hk
      have wk : IntKind.i64.wrap (k + 1) = k + 1 := wrap_eq (by omega) (by omega)
      have ek : (k + 1).toNat = k.toNat + 1 := by omega
      conv => whnf
      refine ⟨k0, ?_⟩
      conv => whnf
      refine ⟨hk, ?_⟩
      conv => whnf
      refine cond_intro (fun e1 => ?_) (fun e1 => ?_)
      · have e1 : ((((l.take i.toNat).getD k.toNat zMo).1.toList == ByteArray.toList (gM l i.toNat).1)) = true := e1
        rw [gd_take (by omega), tl_iff] at e1
        have e1 := of_decide_eq_true e1
        conv => whnf
        show (3 : Int) = moR l
        exact (valid_dup (i := i.toNat) (k := k.toNat) hM hall (by omega) (by omega) e1).symm
      have e1 : ((((l.take i.toNat).getD k.toNat zMo).1.toList == ByteArray.toList (gM l i.toNat).1)) = false := e1
      rw [gd_take (by omega), tl_iff] at e1
      have e1 := of_decide_eq_false e1
      have e1 : ¬ (gM l k.toNat).1 = (gM l i.toNat).1 := e1
      conv => whnf
      refine ⟨k + 1, ?_, ⟨by omega, by omega, ?_⟩, by omega⟩
      · exact Eq.trans (b := S33c l (gM l i.toNat) i (IntKind.i64.wrap (k + 1))) rfl (by rw [wk])
      · rw [ek]; exact allG_succ k2 (by show (!decide ((gM l k.toNat).1 = (gM l i.toNat).1)) = true; rw [decide_eq_false e1]; rfl)
    have hk : ¬ (k < ((l.take i.toNat).length : Int)) := @of_decide_eq_false _ _ hk
    rw [show k.toNat = i.toNat by omega] at k2
    conv => whnf
    refine ⟨i + 1, ?_, ⟨by omega, by omega, ?_⟩, by omega⟩
    · exact Eq.trans (b := S33b l (IntKind.i64.wrap (i + 1))) rfl (by rw [wi])
    · rw [ei]; exact allG_succ j2 k2
  have hi : ¬ (i < (l.length : Int)) := @of_decide_eq_false _ _ hi
  rw [show i.toNat = l.length by omega] at j2
  conv => whnf
  show (0 : Int) = moR l
  exact (valid_ok hM hall j2).symm
def S30a (l : List Cg) (i : Int) : SL := ⟨[.sl cgT l, .undef, .undef, .int .i64 i, .undef, .undef, .undef, .undef, .undef, .undef, .undef, .undef, .undef, .undef, .undef, .undef, .undef, .undef, .undef, .undef, .undef, .undef, .undef, .undef, .undef, .undef, .undef, .undef, .undef, .undef, .undef, .undef, .undef, .undef, .undef, .undef, .undef, .undef, .undef, .undef, .undef, .undef, .undef, .undef, .undef, .undef, .undef, .undef, .undef, .undef, .undef, .undef, .undef, .undef, .undef, .undef, .undef, .undef, .undef, .undef, .undef, .undef, .undef, .undef, .undef, .undef, .undef, .undef], [], 0⟩
def S30b (l : List Cg) (i : Int) : SL := ⟨[.sl cgT l, .undef, .undef, .undef, .int .i64 i, .undef, .undef, .undef, .undef, .undef, .undef, .undef, .undef, .undef, .undef, .undef, .undef, .undef, .undef, .undef, .undef, .undef, .undef, .undef, .undef, .undef, .undef, .undef, .undef, .undef, .undef, .undef, .undef, .undef, .undef, .undef, .undef, .undef, .undef, .undef, .undef, .undef, .undef, .undef, .undef, .undef, .undef, .undef, .undef, .undef, .undef, .undef, .undef, .undef, .undef, .undef, .undef, .undef, .undef, .undef, .undef, .undef, .undef, .undef, .undef, .undef, .undef, .undef], [], 0⟩
def S30c (l : List Cg) (i k : Int) : SL := ⟨[.sl cgT l, .undef, .undef, .undef, .int .i64 i, .int .i64 k, .undef, .undef, .undef, .undef, .undef, .undef, .undef, .undef, .undef, .undef, .undef, .undef, .undef, .undef, .undef, .undef, .undef, .undef, .undef, .undef, .undef, .undef, .undef, .undef, .undef, .undef, .undef, .undef, .undef, .undef, .undef, .undef, .undef, .undef, .undef, .undef, .undef, .undef, .undef, .undef, .undef, .undef, .undef, .undef, .undef, .undef, .undef, .undef, .undef, .undef, .undef, .undef, .undef, .undef, .undef, .undef, .undef, .undef, .undef, .undef, .undef, .undef], [], 0⟩
def E30 : Env := ⟨tab, [(66, K66), (67, K67)], fun n => match n with | 4 => some ([0, 3], [], []) | 9 => some ([0, 4], [], []) | 12 => some ([0, 4, 5], [], []) | _ => none⟩
def K30 : Fn1 := ⟨.one (.sl cgT), .one I, fun _ => [], fun (l : List Cg) => cgR l⟩
set_option maxHeartbeats 1000000 in
theorem k30 : FnOk Go.Proofs.Tryz.prog 30 K30 := by
  refine fn_ok (E := E30) (TOk.of tab_told) (AllOk.cons k66 (.cons k67 .nil)).at_ mix Go.Proofs.Tryz.func30 rfl rfl (by kernel_rfl) K30 ?_
  rintro (l : List Cg) hp
  clear hp
  conv => whnf
  refine cond_intro (fun hM => ?_) (fun hM => ?_)
  · have hM : 16 < (l.length : Int) := @of_decide_eq_true _ _ hM
    conv => whnf
    show (4 : Int) = cgR l
    exact (valid_large hM).symm
  have hM : ¬ (16 < (l.length : Int)) := @of_decide_eq_false _ _ hM
  conv => whnf
  refine loop_rule (S30a l) (fun i => ((l.length : Int) - i).toNat) (fun i => 0 ≤ i ∧ i ≤ (l.length : Int) ∧ allG (fun i => okCg 1000 255 255 (gC l i)) i.toNat = true) ?_ 0 (by kernel_rfl) ?_ ⟨by omega, by omega, rfl⟩
  case refine_2 => rfl
  rintro i ⟨i0, i1, i2⟩
  conv => whnf
  refine cond_intro (fun hi => ?_) (fun hi => ?_)
  · have hi : i < (l.length : Int) := @of_decide_eq_true _ _ hi
    have wi : IntKind.i64.wrap (i + 1) = i + 1 := wrap_eq (by omega) (by omega)
    have ei : (i + 1).toNat = i.toNat + 1 := by omega
    conv => whnf
    refine ⟨i0, ?_⟩
    conv => whnf
    refine ⟨hi, ?_⟩
    conv => whnf
    refine cond_intro (fun t0 => ?_) (fun t0 => ?_)
    · have t0 : (!(nameB (gC l i.toNat).1)) = true := t0
      have t0 : (nameB (gC l i.toNat).1) = false := by cases e : (nameB (gC l i.toNat).1) with | false => rfl | true => exact absurd t0 (by rw [e]; decide)
      conv => whnf
      show (1 : Int) = cgR l
      exact (valid_bad (i := i.toNat) hM (by omega) (by show okCg 1000 255 255 (gC l i.toNat) = false; unfold okCg; simp [t0])).symm
    have t0 : (!(nameB (gC l i.toNat).1)) = false := t0
    have t0 : (nameB (gC l i.toNat).1) = true := by cases e : (nameB (gC l i.toNat).1) with | true => rfl | false => exact absurd t0 (by rw [e]; decide)
    conv => whnf
    refine ⟨i0, ?_⟩
    conv => whnf
    refine ⟨hi, ?_⟩
    conv => whnf
    refine cond_intro (fun t1 => ?_) (fun t1 => ?_)
    · have t1 : (!(inB (gC l i.toNat).2.1 0 1000)) = true := t1
      have t1 : (inB (gC l i.toNat).2.1 0 1000) = false := by cases e : (inB (gC l i.toNat).2.1 0 1000) with | false => rfl | true => exact absurd t1 (by rw [e]; decide)
      conv => whnf
      show (1 : Int) = cgR l
      exact (valid_bad (i := i.toNat) hM (by omega) (by show okCg 1000 255 255 (gC l i.toNat) = false; unfold okCg; simp [t0, t1])).symm
    have t1 : (!(inB (gC l i.toNat).2.1 0 1000)) = false := t1
    have t1 : (inB (gC l i.toNat).2.1 0 1000) = true := by cases e : (inB (gC l i.toNat).2.1 0 1000) with | true => rfl | false => exact absurd t1 (by rw [e]; decide)
    conv => whnf
    refine ⟨i0, ?_⟩
    conv => whnf
    refine ⟨hi, ?_⟩
    conv => whnf
    refine cond_intro (fun t2 => ?_) (fun t2 => ?_)
    · have t2 : (!(inB (gC l i.toNat).2.2.1 0 255)) = true := t2
      have t2 : (inB (gC l i.toNat).2.2.1 0 255) = false := by cases e : (inB (gC l i.toNat).2.2.1 0 255) with | false => rfl | true => exact absurd t2 (by rw [e]; decide)
      conv => whnf
      show (1 : Int) = cgR l
      exact (valid_bad (i := i.toNat) hM (by omega) (by show okCg 1000 255 255 (gC l i.toNat) = false; unfold okCg; simp [t0, t1, t2])).symm
    have t2 : (!(inB (gC l i.toNat).2.2.1 0 255)) = false := t2
    have t2 : (inB (gC l i.toNat).2.2.1 0 255) = true := by cases e : (inB (gC l i.toNat).2.2.1 0 255) with | true => rfl | false => exact absurd t2 (by rw [e]; decide)
    conv => whnf
    refine ⟨i0, ?_⟩
    conv => whnf
    refine ⟨hi, ?_⟩
    conv => whnf
    refine cond_intro (fun t3 => ?_) (fun t3 => ?_)
    · have t3 : (!(inB (gC l i.toNat).2.2.2 0 255)) = true := t3
      have t3 : (inB (gC l i.toNat).2.2.2 0 255) = false := by cases e : (inB (gC l i.toNat).2.2.2 0 255) with | false => rfl | true => exact absurd t3 (by rw [e]; decide)
      conv => whnf
      show (1 : Int) = cgR l
      exact (valid_bad (i := i.toNat) hM (by omega) (by show okCg 1000 255 255 (gC l i.toNat) = false; unfold okCg; simp [t0, t1, t2, t3])).symm
    have t3 : (!(inB (gC l i.toNat).2.2.2 0 255)) = false := t3
    have t3 : (inB (gC l i.toNat).2.2.2 0 255) = true := by cases e : (inB (gC l i.toNat).2.2.2 0 255) with | true => rfl | false => exact absurd t3 (by rw [e]; decide)
    conv => whnf
    refine ⟨i + 1, ?_, ⟨by omega, by omega, ?_⟩, by omega⟩
    · exact Eq.trans (b := S30a l (IntKind.i64.wrap (i + 1))) rfl (by rw [wi])
    · rw [ei]; exact allG_succ i2 (by show okCg 1000 255 255 (gC l i.toNat) = true; unfold okCg; simp [t0, t1, t2, t3])
  have hi : ¬ (i < (l.length : Int)) := @of_decide_eq_false _ _ hi
  rw [show i.toNat = l.length by omega] at i2
  have hall := i2
  clear i2
  conv => whnf
  refine loop_rule (S30b l) (fun i => ((l.length : Int) - i).toNat) (fun i => 0 ≤ i ∧ i ≤ (l.length : Int) ∧ uniqG (fun i => (gC l i).1) i.toNat = true) ?_ 0 (by kernel_rfl) ?_ ⟨by omega, by omega, rfl⟩
  case refine_2 => rfl
  rintro i ⟨i0, i1, j2⟩
  conv => whnf
  refine cond_intro (fun hi => ?_) (fun hi => ?_)
  · have hi : i < (l.length : Int) := @of_decide_eq_true _ _ hi
    have wi : IntKind.i64.wrap (i + 1) = i + 1 := wrap_eq (by omega) (by omega)
    have ei : (i + 1).toNat = i.toNat + 1 := by omega
    conv => whnf
    refine loop_rule (S30c l i) (fun k => (i - k).toNat) (fun k => 0 ≤ k ∧ k ≤ i ∧ freshG (fun i => (gC l i).1) i.toNat k.toNat = true) ?_ 0 (by kernel_rfl) ?_ ⟨by omega, by omega, rfl⟩
    case refine_2 => rfl
    rintro k ⟨k0, k1, k2⟩
    conv => whnf
    refine cond_intro (fun hk => ?_) (fun hk => ?_)
    · have hk : k < i := @of_decide_eq_true _ _ hk
      have wk : IntKind.i64.wrap (k + 1) = k + 1 := wrap_eq (by omega) (by omega)
      have ek : (k + 1).toNat = k.toNat + 1 := by omega
      have hkl : k < (l.length : Int) := by omega
      conv => whnf
      refine ⟨i0, ?_⟩
      conv => whnf
      refine ⟨hi, ?_⟩
      conv => whnf
      refine ⟨k0, ?_⟩
      conv => whnf
      refine ⟨hkl, ?_⟩
      conv => whnf
      refine cond_intro (fun e1 => ?_) (fun e1 => ?_)
      · have e1 : (((gC l i.toNat).1.toList == ByteArray.toList (gC l k.toNat).1)) = true := e1
        rw [tl_iff] at e1
        have e1 := of_decide_eq_true e1
        conv => whnf
        show (3 : Int) = cgR l
        exact (valid_dup (i := i.toNat) (k := k.toNat) hM hall (by omega) (by omega) e1.symm).symm
      have e1 : (((gC l i.toNat).1.toList == ByteArray.toList (gC l k.toNat).1)) = false := e1
      rw [tl_iff] at e1
      have e1 := of_decide_eq_false e1
      conv => whnf
      refine ⟨k + 1, ?_, ⟨by omega, by omega, ?_⟩, by omega⟩
      · exact Eq.trans (b := S30c l i (IntKind.i64.wrap (k + 1))) rfl (by rw [wk])
      · rw [ek]; exact allG_succ k2 (by show (!decide ((gC l k.toNat).1 = (gC l i.toNat).1)) = true; rw [decide_eq_false (fun e => e1 e.symm)]; rfl)
    have hk : ¬ (k < i) := @of_decide_eq_false _ _ hk
    rw [show k.toNat = i.toNat by omega] at k2
    conv => whnf
    refine ⟨i + 1, ?_, ⟨by omega, by omega, ?_⟩, by omega⟩
    · exact Eq.trans (b := S30b l (IntKind.i64.wrap (i + 1))) rfl (by rw [wi])
    · rw [ei]; exact allG_succ j2 k2
  have hi : ¬ (i < (l.length : Int)) := @of_decide_eq_false _ _ hi
  rw [show i.toNat = l.length by omega] at j2
  conv => whnf
  show (0 : Int) = cgR l
  exact (valid_ok hM hall j2).symm
def S32a (l : List Cg) (i : Int) : SL := ⟨[.sl cgT l, .undef, .undef, .int .i64 i, .undef, .undef, .undef, .undef, .undef, .undef, .undef, .undef, .undef, .undef, .undef, .undef, .undef, .undef, .undef, .undef, .undef, .undef, .undef, .undef, .undef, .undef, .undef, .undef, .undef, .undef, .undef, .undef, .undef, .undef, .undef, .undef, .undef, .undef, .undef, .undef, .undef, .undef, .undef, .undef, .undef, .undef, .undef, .undef, .undef, .undef, .undef, .undef, .undef, .undef, .undef, .undef, .undef, .undef, .undef, .undef, .undef], [], 0⟩
def S32b (l : List Cg) (i : Int) : SL := ⟨[.sl cgT l, .undef, .undef, .undef, .undef, .int .i64 i, .undef, .undef, .undef, .undef, .undef, .undef, .undef, .undef, .undef, .undef, .undef, .undef, .undef, .undef, .undef, .undef, .undef, .undef, .undef, .undef, .undef, .undef, .undef, .undef, .undef, .undef, .undef, .undef, .undef, .undef, .undef, .undef, .undef, .undef, .undef, .undef, .undef, .undef, .undef, .undef, .undef, .undef, .undef, .undef, .undef, .undef, .undef, .undef, .undef, .undef, .undef, .undef, .undef, .undef, .undef], [], 0⟩
def S32c (l : List Cg) (i k : Int) : SL := ⟨[.sl cgT l, .undef, .undef, .undef, .undef, .int .i64 i, .int .i64 k, .undef, .undef, .undef, .undef, .undef, .undef, .undef, .undef, .undef, .undef, .undef, .undef, .undef, .undef, .undef, .undef, .undef, .undef, .undef, .undef, .undef, .undef, .undef, .undef, .undef, .undef, .undef, .undef, .undef, .undef, .undef, .undef, .undef, .undef, .undef, .undef, .undef, .undef, .undef, .undef, .undef, .undef, .undef, .undef, .undef, .undef, .undef, .undef, .undef, .undef, .undef, .undef, .undef, .undef], [], 0⟩
def E32 : Env := ⟨tab, [(66, K66), (67, K67)], fun n => match n with | 4 => some ([0, 3], [], []) | 10 => some ([0, 5], [], []) | 13 => some ([0, 5, 6], [], []) | _ => none⟩
def K32 : Fn1 := ⟨.one (.sl cgT), .one I, fun _ => [], fun (l : List Cg) => hoR l⟩
set_option maxHeartbeats 1000000 in
theorem k32 : FnOk Go.Proofs.Tryz.prog 32 K32 := by
  refine fn_ok (E := E32) (TOk.of tab_told) (AllOk.cons k66 (.cons k67 .nil)).at_ mix Go.Proofs.Tryz.func32 rfl rfl (by kernel_rfl) K32 ?_
  rintro (l : List Cg) hp
  clear hp
  conv => whnf
  refine cond_intro (fun hM => ?_) (fun hM => ?_)
  · have hM : 16 < (l.length : Int) := @of_decide_eq_true _ _ hM
    conv => whnf
    show (4 : Int) = hoR l
    exact (valid_large hM).symm
  have hM : ¬ (16 < (l.length : Int)) := @of_decide_eq_false _ _ hM
  conv => whnf
  refine loop_rule (S32a l) (fun i => ((l.length : Int) - i).toNat) (fun i => 0 ≤ i ∧ i ≤ (l.length : Int) ∧ allG (fun i => okCg 1000 1000 1048576 (gC l i)) i.toNat = true) ?_ 0 (by kernel_rfl) ?_ ⟨by omega, by omega, rfl⟩
  case refine_2 => rfl
  rintro i ⟨i0, i1, i2⟩
  conv => whnf
  refine cond_intro (fun hi => ?_) (fun hi => ?_)
  · have hi : i < (l.length : Int) := @of_decide_eq_true _ _ hi
    have wi : IntKind.i64.wrap (i + 1) = i + 1 := wrap_eq (by omega) (by omega)
    have ei : (i + 1).toNat = i.toNat + 1 := by omega
    conv => whnf
    refine ⟨i0, ?_⟩
    conv => whnf
    refine ⟨hi, ?_⟩
    conv => whnf
    refine cond_intro (fun t0 => ?_) (fun t0 => ?_)
    · have t0 : (!(nameB (gC l i.toNat).1)) = true := t0
      have t0 : (nameB (gC l i.toNat).1) = false := by cases e : (nameB (gC l i.toNat).1) with | false => rfl | true => exact absurd t0 (by rw [e]; decide)
      conv => whnf
      show (1 : Int) = hoR l
      exact (valid_bad (i := i.toNat) hM (by omega) (by show okCg 1000 1000 1048576 (gC l i.toNat) = false; unfold okCg; simp [t0])).symm
    have t0 : (!(nameB (gC l i.toNat).1)) = false := t0
    have t0 : (nameB (gC l i.toNat).1) = true := by cases e : (nameB (gC l i.toNat).1) with | true => rfl | false => exact absurd t0 (by rw [e]; decide)
    conv => whnf
    refine cond_intro (fun t1 => ?_) (fun t1 => ?_)
    · have t1 : (!(inB (gC l i.toNat).2.1 0 1000)) = true := t1
      have t1 : (inB (gC l i.toNat).2.1 0 1000) = false := by cases e : (inB (gC l i.toNat).2.1 0 1000) with | false => rfl | true => exact absurd t1 (by rw [e]; decide)
      conv => whnf
      show (1 : Int) = hoR l
      exact (valid_bad (i := i.toNat) hM (by omega) (by show okCg 1000 1000 1048576 (gC l i.toNat) = false; unfold okCg; simp [t0, t1])).symm
    have t1 : (!(inB (gC l i.toNat).2.1 0 1000)) = false := t1
    have t1 : (inB (gC l i.toNat).2.1 0 1000) = true := by cases e : (inB (gC l i.toNat).2.1 0 1000) with | true => rfl | false => exact absurd t1 (by rw [e]; decide)
    conv => whnf
    refine cond_intro (fun t2 => ?_) (fun t2 => ?_)
    · have t2 : (!(inB (gC l i.toNat).2.2.1 0 1000)) = true := t2
      have t2 : (inB (gC l i.toNat).2.2.1 0 1000) = false := by cases e : (inB (gC l i.toNat).2.2.1 0 1000) with | false => rfl | true => exact absurd t2 (by rw [e]; decide)
      conv => whnf
      show (1 : Int) = hoR l
      exact (valid_bad (i := i.toNat) hM (by omega) (by show okCg 1000 1000 1048576 (gC l i.toNat) = false; unfold okCg; simp [t0, t1, t2])).symm
    have t2 : (!(inB (gC l i.toNat).2.2.1 0 1000)) = false := t2
    have t2 : (inB (gC l i.toNat).2.2.1 0 1000) = true := by cases e : (inB (gC l i.toNat).2.2.1 0 1000) with | true => rfl | false => exact absurd t2 (by rw [e]; decide)
    conv => whnf
    refine cond_intro (fun t3 => ?_) (fun t3 => ?_)
    · have t3 : (!(inB (gC l i.toNat).2.2.2 0 1048576)) = true := t3
      have t3 : (inB (gC l i.toNat).2.2.2 0 1048576) = false := by cases e : (inB (gC l i.toNat).2.2.2 0 1048576) with | false => rfl | true => exact absurd t3 (by rw [e]; decide)
      conv => whnf
      show (1 : Int) = hoR l
      exact (valid_bad (i := i.toNat) hM (by omega) (by show okCg 1000 1000 1048576 (gC l i.toNat) = false; unfold okCg; simp [t0, t1, t2, t3])).symm
    have t3 : (!(inB (gC l i.toNat).2.2.2 0 1048576)) = false := t3
    have t3 : (inB (gC l i.toNat).2.2.2 0 1048576) = true := by cases e : (inB (gC l i.toNat).2.2.2 0 1048576) with | true => rfl | false => exact absurd t3 (by rw [e]; decide)
    conv => whnf
    refine ⟨i + 1, ?_, ⟨by omega, by omega, ?_⟩, by omega⟩
    · exact Eq.trans (b := S32a l (IntKind.i64.wrap (i + 1))) rfl (by rw [wi])
    · rw [ei]; exact allG_succ i2 (by show okCg 1000 1000 1048576 (gC l i.toNat) = true; unfold okCg; simp [t0, t1, t2, t3])
  have hi : ¬ (i < (l.length : Int)) := @of_decide_eq_false _ _ hi
  rw [show i.toNat = l.length by omega] at i2
  have hall := i2
  clear i2
  conv => whnf
  refine loop_rule (S32b l) (fun i => ((l.length : Int) - i).toNat) (fun i => 0 ≤ i ∧ i ≤ (l.length : Int) ∧ uniqG (fun i => (gC l i).1) i.toNat = true) ?_ 0 (by kernel_rfl) ?_ ⟨by omega, by omega, rfl⟩
  case refine_2 => rfl
  rintro i ⟨i0, i1, j2⟩
  conv => whnf
  refine cond_intro (fun hi => ?_) (fun hi => ?_)
  · have hi : i < (l.length : Int) := @of_decide_eq_true _ _ hi
    have wi : IntKind.i64.wrap (i + 1) = i + 1 := wrap_eq (by omega) (by omega)
    have ei : (i + 1).toNat = i.toNat + 1 := by omega
    conv => whnf
    refine loop_rule (S32c l i) (fun k => (i - k).toNat) (fun k => 0 ≤ k ∧ k ≤ i ∧ freshG (fun i => (gC l i).1) i.toNat k.toNat = true) ?_ 0 (by kernel_rfl) ?_ ⟨by omega, by omega, rfl⟩
    case refine_2 => rfl
    rintro k ⟨k0, k1, k2⟩
    conv => whnf
    refine cond_intro (fun hk => ?_) (fun hk => ?_)
    · have hk : k < i := @of_decide_eq_true _ _ hk
      have wk : IntKind.i64.wrap (k + 1) = k + 1 := wrap_eq (by omega) (by omega)
      have ek : (k + 1).toNat = k.toNat + 1 := by omega
      have hkl : k < (l.length : Int) := by omega
      conv => whnf
      refine ⟨i0, ?_⟩
      conv => whnf
      refine ⟨hi, ?_⟩
      conv => whnf
      refine ⟨k0, ?_⟩
      conv => whnf
      refine ⟨hkl, ?_⟩
      conv => whnf
      refine cond_intro (fun e1 => ?_) (fun e1 => ?_)
      · have e1 : (((gC l i.toNat).1.toList == ByteArray.toList (gC l k.toNat).1)) = true := e1
        rw [tl_iff] at e1
        have e1 := of_decide_eq_true e1
        conv => whnf
        show (3 : Int) = hoR l
        exact (valid_dup (i := i.toNat) (k := k.toNat) hM hall (by omega) (by omega) e1.symm).symm
      have e1 : (((gC l i.toNat).1.toList == ByteArray.toList (gC l k.toNat).1)) = false := e1
      rw [tl_iff] at e1
      have e1 := of_decide_eq_false e1
      conv => whnf
      refine ⟨k + 1, ?_, ⟨by omega, by omega, ?_⟩, by omega⟩
      · exact Eq.trans (b := S32c l i (IntKind.i64.wrap (k + 1))) rfl (by rw [wk])
      · rw [ek]; exact allG_succ k2 (by show (!decide ((gC l k.toNat).1 = (gC l i.toNat).1)) = true; rw [decide_eq_false (fun e => e1 e.symm)]; rfl)
    have hk : ¬ (k < i) := @of_decide_eq_false _ _ hk
    rw [show k.toNat = i.toNat by omega] at k2
    conv => whnf
    refine ⟨i + 1, ?_, ⟨by omega, by omega, ?_⟩, by omega⟩
    · exact Eq.trans (b := S32b l (IntKind.i64.wrap (i + 1))) rfl (by rw [wi])
    · rw [ei]; exact allG_succ j2 k2
  have hi : ¬ (i < (l.length : Int)) := @of_decide_eq_false _ _ hi
  rw [show i.toNat = l.length by omega] at j2
  conv => whnf
  show (0 : Int) = hoR l
  exact (valid_ok hM hall j2).symm
end
end Go.Proofs.YtaafjaibaaiigaaGreatDoor.Eng
set_option linter.unusedVariables false
set_option linter.unusedSimpArgs false
namespace Go.Proofs.YtaafjaibaaiigaaGreatDoor.Eng
open Go
set_option maxRecDepth 100000
noncomputable section
def lnB : ByteArray := ⟨#[114, 117, 108, 101, 32, 116, 119, 105, 99, 101, 32, 120, 32, 61, 32, 40, 120, 32, 43, 32, 120, 41]⟩
def rdrA (at_ : Int) : Ob := .box [.str lnB, .int .i64 at_, .nilsl, .nilmp, .nilsl, .int .i64 0, .int .i64 0]
def rdrB (at_ : Int) (m : Nat) (body : AV) (d e : Int) : Ob := .box [.str lnB, .int .i64 at_, .nilsl, .mp m, body, .int .i64 d, .int .i64 e]
def mpX : Ob := .mp .str I [(⟨#[120]⟩, (0 : Int))]
def bodyX (l : List Op2) : Ob := .arr opT l
def op1 : List Op2 := [(1, 0)]
def op2 : List Op2 := [(1, 0), (1, 0)]
def op3 : List Op2 := [(1, 0), (1, 0), (2, 0)]
def atOf (hp : List (Nat × Ob)) : Nat := match hp with | (_, .box (_ :: .int _ n :: _)) :: _ => n.toNat | _ => 999
def keyAt : List AV → List (Nat × Ob) → Nat := fun _ hp => atOf hp
def keyPut : List AV → List (Nat × Ob) → Nat := fun args hp => match args with | [_, .int _ k, _] => atOf hp + 100 * k.toNat | _ => 999
def AllP {α : Type} (p : α → Prop) (l : List α) : Prop := List.rec (motive := fun _ => Prop) True (fun a _ ih => p a ∧ ih) l
theorem AllP.at_ {α : Type} {p : α → Prop} : ∀ {l : List α}, AllP p l → ∀ a ∈ l, p a
  | [], _, a, h => by cases h
  | b :: l, h, a, ha => by
    rcases List.mem_cons.1 ha with rfl | ha
    · exact h.1
    · exact AllP.at_ (l := l) h.2 a ha
theorem EndR.nl {E : Env} {c : Code} {rvs : List ResultVar} {row : Row} {e : Exit} {s : SL} (ex : e = .ret ∨ e = .normal) (rs : resOf E s.slots s.heap rvs = some row.vals) (ob : AllP (fun p => hget s.heap p.1 = some p.2) row.oh) (hl : noL c = true) (K : AllP (fun p => p.1 = p.2) row.K) : EndR E c rvs row e s :=
  ⟨ex, rs, ob.at_, fun p hp => Or.inl ⟨hl, K.at_ p hp⟩⟩
theorem EndR.lo {E : Env} {c : Code} {rvs : List ResultVar} {row : Row} {e : Exit} {s : SL} (ex : e = .ret ∨ e = .normal) (rs : resOf E s.slots s.heap rvs = some row.vals) (ob : AllP (fun p => hget s.heap p.1 = some p.2) row.oh)
    (K : AllP (fun p => ∃ i fcs cs, noW i c = true ∧ lget s.slots i = some (.ptr p.1 0 0) ∧ lget row.ia i = some (.ptr p.2 0 0) ∧ hget s.heap p.1 = some (.box fcs) ∧ hget row.ih p.2 = some (.box cs) ∧ fcs.length = cs.length) row.K) : EndR E c rvs row e s :=
  ⟨ex, rs, ob.at_, fun p hp => Or.inr (Or.inl (K.at_ p hp))⟩
def E112 : Env := ⟨tab, [], fun n => match n with  | _ => none⟩
def T112 : List (Nat × Row) := [(11, ⟨[.ptr 0 0 0], [(0, rdrA 11)], [.int .u8 120], [(0, rdrA 11)], [], [(0, 0)]⟩),
  (13, ⟨[.ptr 0 0 0], [(0, rdrA 13)], [.int .u8 61], [(0, rdrA 13)], [], [(0, 0)]⟩),
  (15, ⟨[.ptr 0 0 0], [(0, rdrB 15 1 .nilsl 0 0), (1, mpX)], [.int .u8 40], [(0, rdrB 15 1 .nilsl 0 0), (1, mpX)], [], [(0, 0), (1, 1)]⟩),
  (16, ⟨[.ptr 0 0 0], [(0, rdrB 16 1 .nilsl 1 1), (1, mpX)], [.int .u8 120], [(0, rdrB 16 1 .nilsl 1 1), (1, mpX)], [], [(0, 0), (1, 1)]⟩),
  (17, ⟨[.ptr 0 0 0], [(0, rdrB 17 1 .nilsl 1 1), (1, mpX)], [.int .u8 32], [(0, rdrB 17 1 .nilsl 1 1), (1, mpX)], [], [(0, 0), (1, 1)]⟩),
  (18, ⟨[.ptr 0 0 0], [(0, rdrB 18 1 (.own 2) 1 1), (1, mpX), (2, bodyX op1)], [.int .u8 43], [(0, rdrB 18 1 (.own 2) 1 1), (1, mpX), (2, bodyX op1)], [], [(0, 0), (1, 1), (2, 2)]⟩),
  (20, ⟨[.ptr 0 0 0], [(0, rdrB 20 1 (.own 2) 1 1), (1, mpX), (2, bodyX op1)], [.int .u8 120], [(0, rdrB 20 1 (.own 2) 1 1), (1, mpX), (2, bodyX op1)], [], [(0, 0), (1, 1), (2, 2)]⟩),
  (21, ⟨[.ptr 0 0 0], [(0, rdrB 21 1 (.own 2) 1 1), (1, mpX), (2, bodyX op1)], [.int .u8 41], [(0, rdrB 21 1 (.own 2) 1 1), (1, mpX), (2, bodyX op1)], [], [(0, 0), (1, 1), (2, 2)]⟩)]
def X112 : List AV → Nat → Rd Res := stX 0 (stF keyAt (T112))
set_option maxHeartbeats 1000000 in
theorem k112 : FxOk Go.Proofs.Tryz.prog 112 (X112) := by
  refine fx_all (E := E112) (TOk.of tab_told) (fun f k h => by cases h) mix Go.Proofs.Tryz.func112 rfl rfl (by kernel_rfl) (stF_ok fun p hp => ?_)
  revert p hp
  refine AllP.at_ ?_
  refine ⟨?_, ?_, ?_, ?_, ?_, ?_, ?_, ?_, trivial⟩
  · conv => whnf
    repeat (first | (refine ⟨⟨14, ?_⟩⟩; conv => whnf) | (refine cond_intro (fun h => absurd h (by first | decide +kernel | (rw [tl_iff]; decide +kernel) | (subst hx; first | decide +kernel | (rw [tl_iff]; decide +kernel)))) (fun h => ?_); try rw [h]; conv => whnf) | (refine cond_intro (fun h => ?_) (fun h => absurd h (by first | decide +kernel | (rw [tl_iff]; decide +kernel) | (subst hx; first | decide +kernel | (rw [tl_iff]; decide +kernel)))); try rw [h]; conv => whnf) | (refine ⟨by first | decide | (subst hx; first | decide +kernel | kernel_rfl) | kernel_rfl | decide +kernel, ?_⟩; conv => whnf))
    refine EndR.nl (by first | exact Or.inl rfl | exact Or.inr rfl) ?_ ?_ ?_ ?_
    · kernel_rfl
    · exact ⟨rfl, trivial⟩
    · kernel_rfl
    · exact ⟨rfl, trivial⟩
  · conv => whnf
    repeat (first | (refine ⟨⟨14, ?_⟩⟩; conv => whnf) | (refine cond_intro (fun h => absurd h (by first | decide +kernel | (rw [tl_iff]; decide +kernel) | (subst hx; first | decide +kernel | (rw [tl_iff]; decide +kernel)))) (fun h => ?_); try rw [h]; conv => whnf) | (refine cond_intro (fun h => ?_) (fun h => absurd h (by first | decide +kernel | (rw [tl_iff]; decide +kernel) | (subst hx; first | decide +kernel | (rw [tl_iff]; decide +kernel)))); try rw [h]; conv => whnf) | (refine ⟨by first | decide | (subst hx; first | decide +kernel | kernel_rfl) | kernel_rfl | decide +kernel, ?_⟩; conv => whnf))
    refine EndR.nl (by first | exact Or.inl rfl | exact Or.inr rfl) ?_ ?_ ?_ ?_
    · kernel_rfl
    · exact ⟨rfl, trivial⟩
    · kernel_rfl
    · exact ⟨rfl, trivial⟩
  · conv => whnf
    repeat (first | (refine ⟨⟨14, ?_⟩⟩; conv => whnf) | (refine cond_intro (fun h => absurd h (by first | decide +kernel | (rw [tl_iff]; decide +kernel) | (subst hx; first | decide +kernel | (rw [tl_iff]; decide +kernel)))) (fun h => ?_); try rw [h]; conv => whnf) | (refine cond_intro (fun h => ?_) (fun h => absurd h (by first | decide +kernel | (rw [tl_iff]; decide +kernel) | (subst hx; first | decide +kernel | (rw [tl_iff]; decide +kernel)))); try rw [h]; conv => whnf) | (refine ⟨by first | decide | (subst hx; first | decide +kernel | kernel_rfl) | kernel_rfl | decide +kernel, ?_⟩; conv => whnf))
    refine EndR.nl (by first | exact Or.inl rfl | exact Or.inr rfl) ?_ ?_ ?_ ?_
    · kernel_rfl
    · exact ⟨rfl, rfl, trivial⟩
    · kernel_rfl
    · exact ⟨rfl, rfl, trivial⟩
  · conv => whnf
    repeat (first | (refine ⟨⟨14, ?_⟩⟩; conv => whnf) | (refine cond_intro (fun h => absurd h (by first | decide +kernel | (rw [tl_iff]; decide +kernel) | (subst hx; first | decide +kernel | (rw [tl_iff]; decide +kernel)))) (fun h => ?_); try rw [h]; conv => whnf) | (refine cond_intro (fun h => ?_) (fun h => absurd h (by first | decide +kernel | (rw [tl_iff]; decide +kernel) | (subst hx; first | decide +kernel | (rw [tl_iff]; decide +kernel)))); try rw [h]; conv => whnf) | (refine ⟨by first | decide | (subst hx; first | decide +kernel | kernel_rfl) | kernel_rfl | decide +kernel, ?_⟩; conv => whnf))
    refine EndR.nl (by first | exact Or.inl rfl | exact Or.inr rfl) ?_ ?_ ?_ ?_
    · kernel_rfl
    · exact ⟨rfl, rfl, trivial⟩
    · kernel_rfl
    · exact ⟨rfl, rfl, trivial⟩
  · conv => whnf
    repeat (first | (refine ⟨⟨14, ?_⟩⟩; conv => whnf) | (refine cond_intro (fun h => absurd h (by first | decide +kernel | (rw [tl_iff]; decide +kernel) | (subst hx; first | decide +kernel | (rw [tl_iff]; decide +kernel)))) (fun h => ?_); try rw [h]; conv => whnf) | (refine cond_intro (fun h => ?_) (fun h => absurd h (by first | decide +kernel | (rw [tl_iff]; decide +kernel) | (subst hx; first | decide +kernel | (rw [tl_iff]; decide +kernel)))); try rw [h]; conv => whnf) | (refine ⟨by first | decide | (subst hx; first | decide +kernel | kernel_rfl) | kernel_rfl | decide +kernel, ?_⟩; conv => whnf))
    refine EndR.nl (by first | exact Or.inl rfl | exact Or.inr rfl) ?_ ?_ ?_ ?_
    · kernel_rfl
    · exact ⟨rfl, rfl, trivial⟩
    · kernel_rfl
    · exact ⟨rfl, rfl, trivial⟩
  · conv => whnf
    repeat (first | (refine ⟨⟨14, ?_⟩⟩; conv => whnf) | (refine cond_intro (fun h => absurd h (by first | decide +kernel | (rw [tl_iff]; decide +kernel) | (subst hx; first | decide +kernel | (rw [tl_iff]; decide +kernel)))) (fun h => ?_); try rw [h]; conv => whnf) | (refine cond_intro (fun h => ?_) (fun h => absurd h (by first | decide +kernel | (rw [tl_iff]; decide +kernel) | (subst hx; first | decide +kernel | (rw [tl_iff]; decide +kernel)))); try rw [h]; conv => whnf) | (refine ⟨by first | decide | (subst hx; first | decide +kernel | kernel_rfl) | kernel_rfl | decide +kernel, ?_⟩; conv => whnf))
    refine EndR.nl (by first | exact Or.inl rfl | exact Or.inr rfl) ?_ ?_ ?_ ?_
    · kernel_rfl
    · exact ⟨rfl, rfl, rfl, trivial⟩
    · kernel_rfl
    · exact ⟨rfl, rfl, rfl, trivial⟩
  · conv => whnf
    repeat (first | (refine ⟨⟨14, ?_⟩⟩; conv => whnf) | (refine cond_intro (fun h => absurd h (by first | decide +kernel | (rw [tl_iff]; decide +kernel) | (subst hx; first | decide +kernel | (rw [tl_iff]; decide +kernel)))) (fun h => ?_); try rw [h]; conv => whnf) | (refine cond_intro (fun h => ?_) (fun h => absurd h (by first | decide +kernel | (rw [tl_iff]; decide +kernel) | (subst hx; first | decide +kernel | (rw [tl_iff]; decide +kernel)))); try rw [h]; conv => whnf) | (refine ⟨by first | decide | (subst hx; first | decide +kernel | kernel_rfl) | kernel_rfl | decide +kernel, ?_⟩; conv => whnf))
    refine EndR.nl (by first | exact Or.inl rfl | exact Or.inr rfl) ?_ ?_ ?_ ?_
    · kernel_rfl
    · exact ⟨rfl, rfl, rfl, trivial⟩
    · kernel_rfl
    · exact ⟨rfl, rfl, rfl, trivial⟩
  · conv => whnf
    repeat (first | (refine ⟨⟨14, ?_⟩⟩; conv => whnf) | (refine cond_intro (fun h => absurd h (by first | decide +kernel | (rw [tl_iff]; decide +kernel) | (subst hx; first | decide +kernel | (rw [tl_iff]; decide +kernel)))) (fun h => ?_); try rw [h]; conv => whnf) | (refine cond_intro (fun h => ?_) (fun h => absurd h (by first | decide +kernel | (rw [tl_iff]; decide +kernel) | (subst hx; first | decide +kernel | (rw [tl_iff]; decide +kernel)))); try rw [h]; conv => whnf) | (refine ⟨by first | decide | (subst hx; first | decide +kernel | kernel_rfl) | kernel_rfl | decide +kernel, ?_⟩; conv => whnf))
    refine EndR.nl (by first | exact Or.inl rfl | exact Or.inr rfl) ?_ ?_ ?_ ?_
    · kernel_rfl
    · exact ⟨rfl, rfl, rfl, trivial⟩
    · kernel_rfl
    · exact ⟨rfl, rfl, rfl, trivial⟩
def E111 : Env := ⟨tab, [], fun n => match n with  | _ => none⟩
def T111 : List (Nat × Row) := [(4, ⟨[.ptr 0 0 0, .str ⟨#[32]⟩], [(0, rdrA 4)], [], [(0, rdrA 5)], [], [(0, 0)]⟩),
  (10, ⟨[.ptr 0 0 0, .str ⟨#[32]⟩], [(0, rdrA 10)], [], [(0, rdrA 11)], [], [(0, 0)]⟩),
  (12, ⟨[.ptr 0 0 0, .str ⟨#[32]⟩], [(0, rdrA 12)], [], [(0, rdrA 13)], [], [(0, 0)]⟩),
  (13, ⟨[.ptr 0 0 0, .str ⟨#[61, 32]⟩], [(0, rdrA 13)], [], [(0, rdrA 15)], [], [(0, 0)]⟩),
  (15, ⟨[.ptr 0 0 0, .str ⟨#[40]⟩], [(0, rdrB 15 1 .nilsl 0 0), (1, mpX)], [], [(0, rdrB 16 1 .nilsl 0 0), (1, mpX)], [], [(0, 0), (1, 1)]⟩),
  (17, ⟨[.ptr 0 0 0, .str ⟨#[32]⟩], [(0, rdrB 17 1 (.own 2) 1 1), (1, mpX), (2, bodyX op1)], [], [(0, rdrB 18 1 (.own 2) 1 1), (1, mpX), (2, bodyX op1)], [], [(0, 0), (1, 1), (2, 2)]⟩),
  (19, ⟨[.ptr 0 0 0, .str ⟨#[32]⟩], [(0, rdrB 19 1 (.own 2) 1 1), (1, mpX), (2, bodyX op1)], [], [(0, rdrB 20 1 (.own 2) 1 1), (1, mpX), (2, bodyX op1)], [], [(0, 0), (1, 1), (2, 2)]⟩),
  (21, ⟨[.ptr 0 0 0, .str ⟨#[41]⟩], [(0, rdrB 21 1 (.own 2) 1 1), (1, mpX), (2, bodyX op3)], [], [(0, rdrB 22 1 (.own 2) 1 1), (1, mpX), (2, bodyX op3)], [], [(0, 0), (1, 1), (2, 2)]⟩)]
def X111 : List AV → Nat → Rd Res := stX 0 (stF keyAt (T111))
set_option maxHeartbeats 1000000 in
theorem k111 : FxOk Go.Proofs.Tryz.prog 111 (X111) := by
  refine fx_all (E := E111) (TOk.of tab_told) (fun f k h => by cases h) mix Go.Proofs.Tryz.func111 rfl rfl (by kernel_rfl) (stF_ok fun p hp => ?_)
  revert p hp
  refine AllP.at_ ?_
  refine ⟨?_, ?_, ?_, ?_, ?_, ?_, ?_, ?_, trivial⟩
  · conv => whnf
    repeat (first | (refine ⟨⟨14, ?_⟩⟩; conv => whnf) | (refine cond_intro (fun h => absurd h (by first | decide +kernel | (rw [tl_iff]; decide +kernel) | (subst hx; first | decide +kernel | (rw [tl_iff]; decide +kernel)))) (fun h => ?_); try rw [h]; conv => whnf) | (refine cond_intro (fun h => ?_) (fun h => absurd h (by first | decide +kernel | (rw [tl_iff]; decide +kernel) | (subst hx; first | decide +kernel | (rw [tl_iff]; decide +kernel)))); try rw [h]; conv => whnf) | (refine ⟨by first | decide | (subst hx; first | decide +kernel | kernel_rfl) | kernel_rfl | decide +kernel, ?_⟩; conv => whnf))
    refine EndR.nl (by first | exact Or.inl rfl | exact Or.inr rfl) ?_ ?_ ?_ ?_
    · kernel_rfl
    · exact ⟨rfl, trivial⟩
    · kernel_rfl
    · exact ⟨rfl, trivial⟩
  · conv => whnf
    repeat (first | (refine ⟨⟨14, ?_⟩⟩; conv => whnf) | (refine cond_intro (fun h => absurd h (by first | decide +kernel | (rw [tl_iff]; decide +kernel) | (subst hx; first | decide +kernel | (rw [tl_iff]; decide +kernel)))) (fun h => ?_); try rw [h]; conv => whnf) | (refine cond_intro (fun h => ?_) (fun h => absurd h (by first | decide +kernel | (rw [tl_iff]; decide +kernel) | (subst hx; first | decide +kernel | (rw [tl_iff]; decide +kernel)))); try rw [h]; conv => whnf) | (refine ⟨by first | decide | (subst hx; first | decide +kernel | kernel_rfl) | kernel_rfl | decide +kernel, ?_⟩; conv => whnf))
    refine EndR.nl (by first | exact Or.inl rfl | exact Or.inr rfl) ?_ ?_ ?_ ?_
    · kernel_rfl
    · exact ⟨rfl, trivial⟩
    · kernel_rfl
    · exact ⟨rfl, trivial⟩
  · conv => whnf
    repeat (first | (refine ⟨⟨14, ?_⟩⟩; conv => whnf) | (refine cond_intro (fun h => absurd h (by first | decide +kernel | (rw [tl_iff]; decide +kernel) | (subst hx; first | decide +kernel | (rw [tl_iff]; decide +kernel)))) (fun h => ?_); try rw [h]; conv => whnf) | (refine cond_intro (fun h => ?_) (fun h => absurd h (by first | decide +kernel | (rw [tl_iff]; decide +kernel) | (subst hx; first | decide +kernel | (rw [tl_iff]; decide +kernel)))); try rw [h]; conv => whnf) | (refine ⟨by first | decide | (subst hx; first | decide +kernel | kernel_rfl) | kernel_rfl | decide +kernel, ?_⟩; conv => whnf))
    refine EndR.nl (by first | exact Or.inl rfl | exact Or.inr rfl) ?_ ?_ ?_ ?_
    · kernel_rfl
    · exact ⟨rfl, trivial⟩
    · kernel_rfl
    · exact ⟨rfl, trivial⟩
  · conv => whnf
    repeat (first | (refine ⟨⟨14, ?_⟩⟩; conv => whnf) | (refine cond_intro (fun h => absurd h (by first | decide +kernel | (rw [tl_iff]; decide +kernel) | (subst hx; first | decide +kernel | (rw [tl_iff]; decide +kernel)))) (fun h => ?_); try rw [h]; conv => whnf) | (refine cond_intro (fun h => ?_) (fun h => absurd h (by first | decide +kernel | (rw [tl_iff]; decide +kernel) | (subst hx; first | decide +kernel | (rw [tl_iff]; decide +kernel)))); try rw [h]; conv => whnf) | (refine ⟨by first | decide | (subst hx; first | decide +kernel | kernel_rfl) | kernel_rfl | decide +kernel, ?_⟩; conv => whnf))
    refine EndR.nl (by first | exact Or.inl rfl | exact Or.inr rfl) ?_ ?_ ?_ ?_
    · kernel_rfl
    · exact ⟨rfl, trivial⟩
    · kernel_rfl
    · exact ⟨rfl, trivial⟩
  · conv => whnf
    repeat (first | (refine ⟨⟨14, ?_⟩⟩; conv => whnf) | (refine cond_intro (fun h => absurd h (by first | decide +kernel | (rw [tl_iff]; decide +kernel) | (subst hx; first | decide +kernel | (rw [tl_iff]; decide +kernel)))) (fun h => ?_); try rw [h]; conv => whnf) | (refine cond_intro (fun h => ?_) (fun h => absurd h (by first | decide +kernel | (rw [tl_iff]; decide +kernel) | (subst hx; first | decide +kernel | (rw [tl_iff]; decide +kernel)))); try rw [h]; conv => whnf) | (refine ⟨by first | decide | (subst hx; first | decide +kernel | kernel_rfl) | kernel_rfl | decide +kernel, ?_⟩; conv => whnf))
    refine EndR.nl (by first | exact Or.inl rfl | exact Or.inr rfl) ?_ ?_ ?_ ?_
    · kernel_rfl
    · exact ⟨rfl, rfl, trivial⟩
    · kernel_rfl
    · exact ⟨rfl, rfl, trivial⟩
  · conv => whnf
    repeat (first | (refine ⟨⟨14, ?_⟩⟩; conv => whnf) | (refine cond_intro (fun h => absurd h (by first | decide +kernel | (rw [tl_iff]; decide +kernel) | (subst hx; first | decide +kernel | (rw [tl_iff]; decide +kernel)))) (fun h => ?_); try rw [h]; conv => whnf) | (refine cond_intro (fun h => ?_) (fun h => absurd h (by first | decide +kernel | (rw [tl_iff]; decide +kernel) | (subst hx; first | decide +kernel | (rw [tl_iff]; decide +kernel)))); try rw [h]; conv => whnf) | (refine ⟨by first | decide | (subst hx; first | decide +kernel | kernel_rfl) | kernel_rfl | decide +kernel, ?_⟩; conv => whnf))
    refine EndR.nl (by first | exact Or.inl rfl | exact Or.inr rfl) ?_ ?_ ?_ ?_
    · kernel_rfl
    · exact ⟨rfl, rfl, rfl, trivial⟩
    · kernel_rfl
    · exact ⟨rfl, rfl, rfl, trivial⟩
  · conv => whnf
    repeat (first | (refine ⟨⟨14, ?_⟩⟩; conv => whnf) | (refine cond_intro (fun h => absurd h (by first | decide +kernel | (rw [tl_iff]; decide +kernel) | (subst hx; first | decide +kernel | (rw [tl_iff]; decide +kernel)))) (fun h => ?_); try rw [h]; conv => whnf) | (refine cond_intro (fun h => ?_) (fun h => absurd h (by first | decide +kernel | (rw [tl_iff]; decide +kernel) | (subst hx; first | decide +kernel | (rw [tl_iff]; decide +kernel)))); try rw [h]; conv => whnf) | (refine ⟨by first | decide | (subst hx; first | decide +kernel | kernel_rfl) | kernel_rfl | decide +kernel, ?_⟩; conv => whnf))
    refine EndR.nl (by first | exact Or.inl rfl | exact Or.inr rfl) ?_ ?_ ?_ ?_
    · kernel_rfl
    · exact ⟨rfl, rfl, rfl, trivial⟩
    · kernel_rfl
    · exact ⟨rfl, rfl, rfl, trivial⟩
  · conv => whnf
    repeat (first | (refine ⟨⟨14, ?_⟩⟩; conv => whnf) | (refine cond_intro (fun h => absurd h (by first | decide +kernel | (rw [tl_iff]; decide +kernel) | (subst hx; first | decide +kernel | (rw [tl_iff]; decide +kernel)))) (fun h => ?_); try rw [h]; conv => whnf) | (refine cond_intro (fun h => ?_) (fun h => absurd h (by first | decide +kernel | (rw [tl_iff]; decide +kernel) | (subst hx; first | decide +kernel | (rw [tl_iff]; decide +kernel)))); try rw [h]; conv => whnf) | (refine ⟨by first | decide | (subst hx; first | decide +kernel | kernel_rfl) | kernel_rfl | decide +kernel, ?_⟩; conv => whnf))
    refine EndR.nl (by first | exact Or.inl rfl | exact Or.inr rfl) ?_ ?_ ?_ ?_
    · kernel_rfl
    · exact ⟨rfl, rfl, rfl, trivial⟩
    · kernel_rfl
    · exact ⟨rfl, rfl, rfl, trivial⟩
end
end Go.Proofs.YtaafjaibaaiigaaGreatDoor.Eng
set_option linter.unusedVariables false
set_option linter.unusedSimpArgs false
namespace Go.Proofs.YtaafjaibaaiigaaGreatDoor.Eng
open Go
set_option maxRecDepth 100000
noncomputable section
theorem EndR.so {E : Env} {c : Code} {rvs : List ResultVar} {row : Row} {e : Exit} {s : SL} (ex : e = .ret ∨ e = .normal) (rs : resOf E s.slots s.heap rvs = some row.vals) (ob : AllP (fun p => hget s.heap p.1 = some p.2) row.oh)
    (K : AllP (fun p => ∃ i t xs ys, noW i c = true ∧ lget s.slots i = some (.own p.1) ∧ lget row.ia i = some (.own p.2) ∧ hget s.heap p.1 = some (.arr t xs) ∧ hget row.ih p.2 = some (.arr t ys)) row.K) : EndR E c rvs row e s :=
  ⟨ex, rs, ob.at_, fun p hp => Or.inr (Or.inr (K.at_ p hp))⟩
def keyC : List AV → List (Nat × Ob) → Nat := fun _ _ => 0
def E85 (x : ByteArray) : Env := ⟨tab, [(92, K92)], fun n => match n with | 2 => some ([0, 3], [], []) | _ => none⟩
def T85 (x : ByteArray) : List (Nat × Row) := [(0, ⟨[.ptr 0 0 0], [(0, rdrA 0)], [.str x], [(0, rdrA 4)], [], [(0, 0)]⟩),
  (5, ⟨[.ptr 0 0 0], [(0, rdrA 5)], [.str ⟨#[116, 119, 105, 99, 101]⟩], [(0, rdrA 10)], [], [(0, 0)]⟩),
  (11, ⟨[.ptr 0 0 0], [(0, rdrA 11)], [.str ⟨#[120]⟩], [(0, rdrA 12)], [], [(0, 0)]⟩)]
def X85 (x : ByteArray) : List AV → Nat → Rd Res := stX 0 (stF keyAt (T85 x))
set_option maxHeartbeats 1000000 in
theorem k85 (x : ByteArray) (hx : x = ⟨#[114, 117, 108, 101]⟩) : FxOk Go.Proofs.Tryz.prog 85 (X85 x) := by
  refine fx_all (E := E85 x) (TOk.of tab_told) (AllOk.cons k92 .nil).at_ mix Go.Proofs.Tryz.func85 rfl rfl (by kernel_rfl) (stF_ok fun p hp => ?_)
  revert p hp
  refine AllP.at_ ?_
  refine ⟨?_, ?_, ?_, trivial⟩
  · conv => whnf
    repeat (first | (refine ⟨⟨14, ?_⟩⟩; conv => whnf) | (refine cond_intro (fun h => absurd h (by first | decide +kernel | (rw [tl_iff]; decide +kernel) | (subst hx; first | decide +kernel | (rw [tl_iff]; decide +kernel)))) (fun h => ?_); try rw [h]; conv => whnf) | (refine cond_intro (fun h => ?_) (fun h => absurd h (by first | decide +kernel | (rw [tl_iff]; decide +kernel) | (subst hx; first | decide +kernel | (rw [tl_iff]; decide +kernel)))); try rw [h]; conv => whnf) | (refine ⟨by first | decide | (subst hx; first | decide +kernel | kernel_rfl) | kernel_rfl | decide +kernel, ?_⟩; conv => whnf))
    subst hx
    refine EndR.lo (by first | exact Or.inl rfl | exact Or.inr rfl) ?_ ?_ ?_
    · kernel_rfl
    · exact ⟨rfl, trivial⟩
    · exact ⟨⟨0, _, _, by kernel_rfl, rfl, rfl, rfl, rfl, rfl⟩, trivial⟩
  · conv => whnf
    repeat (first | (refine ⟨⟨14, ?_⟩⟩; conv => whnf) | (refine cond_intro (fun h => absurd h (by first | decide +kernel | (rw [tl_iff]; decide +kernel) | (subst hx; first | decide +kernel | (rw [tl_iff]; decide +kernel)))) (fun h => ?_); try rw [h]; conv => whnf) | (refine cond_intro (fun h => ?_) (fun h => absurd h (by first | decide +kernel | (rw [tl_iff]; decide +kernel) | (subst hx; first | decide +kernel | (rw [tl_iff]; decide +kernel)))); try rw [h]; conv => whnf) | (refine ⟨by first | decide | (subst hx; first | decide +kernel | kernel_rfl) | kernel_rfl | decide +kernel, ?_⟩; conv => whnf))
    subst hx
    refine EndR.lo (by first | exact Or.inl rfl | exact Or.inr rfl) ?_ ?_ ?_
    · kernel_rfl
    · exact ⟨rfl, trivial⟩
    · exact ⟨⟨0, _, _, by kernel_rfl, rfl, rfl, rfl, rfl, rfl⟩, trivial⟩
  · conv => whnf
    repeat (first | (refine ⟨⟨14, ?_⟩⟩; conv => whnf) | (refine cond_intro (fun h => absurd h (by first | decide +kernel | (rw [tl_iff]; decide +kernel) | (subst hx; first | decide +kernel | (rw [tl_iff]; decide +kernel)))) (fun h => ?_); try rw [h]; conv => whnf) | (refine cond_intro (fun h => ?_) (fun h => absurd h (by first | decide +kernel | (rw [tl_iff]; decide +kernel) | (subst hx; first | decide +kernel | (rw [tl_iff]; decide +kernel)))); try rw [h]; conv => whnf) | (refine ⟨by first | decide | (subst hx; first | decide +kernel | kernel_rfl) | kernel_rfl | decide +kernel, ?_⟩; conv => whnf))
    subst hx
    refine EndR.lo (by first | exact Or.inl rfl | exact Or.inr rfl) ?_ ?_ ?_
    · kernel_rfl
    · exact ⟨rfl, trivial⟩
    · exact ⟨⟨0, _, _, by kernel_rfl, rfl, rfl, rfl, rfl, rfl⟩, trivial⟩
def E167 : Env := ⟨tab, [(111, .eff X111)], fun n => match n with  | _ => none⟩
def T167 : List (Nat × Row) := [(15, ⟨[.ptr 0 0 0], [(0, rdrB 15 1 .nilsl 0 0), (1, mpX)], [], [(0, rdrB 16 1 .nilsl 1 1), (1, mpX)], [], [(0, 0), (1, 1)]⟩)]
def X167 : List AV → Nat → Rd Res := stX 0 (stF keyAt (T167))
set_option maxHeartbeats 1000000 in
theorem k167 : FxOk Go.Proofs.Tryz.prog 167 (X167) := by
  refine fx_all (E := E167) (TOk.of tab_told) (AllOk.consX k111 .nil).at_ mix Go.Proofs.Tryz.func167 rfl rfl (by kernel_rfl) (stF_ok fun p hp => ?_)
  revert p hp
  refine AllP.at_ ?_
  refine ⟨?_, trivial⟩
  · conv => whnf
    repeat (first | (refine ⟨⟨14, ?_⟩⟩; conv => whnf) | (refine cond_intro (fun h => absurd h (by first | decide +kernel | (rw [tl_iff]; decide +kernel) | (subst hx; first | decide +kernel | (rw [tl_iff]; decide +kernel)))) (fun h => ?_); try rw [h]; conv => whnf) | (refine cond_intro (fun h => ?_) (fun h => absurd h (by first | decide +kernel | (rw [tl_iff]; decide +kernel) | (subst hx; first | decide +kernel | (rw [tl_iff]; decide +kernel)))); try rw [h]; conv => whnf) | (refine ⟨by first | decide | (subst hx; first | decide +kernel | kernel_rfl) | kernel_rfl | decide +kernel, ?_⟩; conv => whnf))
    refine EndR.nl (by first | exact Or.inl rfl | exact Or.inr rfl) ?_ ?_ ?_ ?_
    · kernel_rfl
    · exact ⟨rfl, rfl, trivial⟩
    · kernel_rfl
    · exact ⟨rfl, rfl, trivial⟩
def E168 : Env := ⟨tab, [(111, .eff X111)], fun n => match n with  | _ => none⟩
def T168 : List (Nat × Row) := [(21, ⟨[.ptr 0 0 0], [(0, rdrB 21 1 (.own 2) 1 1), (1, mpX), (2, bodyX op3)], [], [(0, rdrB 22 1 (.own 2) 0 1), (1, mpX), (2, bodyX op3)], [], [(0, 0), (1, 1), (2, 2)]⟩)]
def X168 : List AV → Nat → Rd Res := stX 0 (stF keyAt (T168))
set_option maxHeartbeats 1000000 in
theorem k168 : FxOk Go.Proofs.Tryz.prog 168 (X168) := by
  refine fx_all (E := E168) (TOk.of tab_told) (AllOk.consX k111 .nil).at_ mix Go.Proofs.Tryz.func168 rfl rfl (by kernel_rfl) (stF_ok fun p hp => ?_)
  revert p hp
  refine AllP.at_ ?_
  refine ⟨?_, trivial⟩
  · conv => whnf
    repeat (first | (refine ⟨⟨14, ?_⟩⟩; conv => whnf) | (refine cond_intro (fun h => absurd h (by first | decide +kernel | (rw [tl_iff]; decide +kernel) | (subst hx; first | decide +kernel | (rw [tl_iff]; decide +kernel)))) (fun h => ?_); try rw [h]; conv => whnf) | (refine cond_intro (fun h => ?_) (fun h => absurd h (by first | decide +kernel | (rw [tl_iff]; decide +kernel) | (subst hx; first | decide +kernel | (rw [tl_iff]; decide +kernel)))); try rw [h]; conv => whnf) | (refine ⟨by first | decide | (subst hx; first | decide +kernel | kernel_rfl) | kernel_rfl | decide +kernel, ?_⟩; conv => whnf))
    refine EndR.nl (by first | exact Or.inl rfl | exact Or.inr rfl) ?_ ?_ ?_ ?_
    · kernel_rfl
    · exact ⟨rfl, rfl, rfl, trivial⟩
    · kernel_rfl
    · exact ⟨rfl, rfl, rfl, trivial⟩
def E116 : Env := ⟨tab, [], fun n => match n with  | _ => none⟩
def T116 : List (Nat × Row) := [(22, ⟨[.ptr 0 0 0, .int .i64 15], [(0, rdrB 22 1 (.own 2) 0 1), (1, mpX), (2, bodyX op3)], [], [(0, rdrB 22 1 (.own 2) 0 1), (1, mpX), (2, bodyX op3)], [], [(0, 0), (1, 1), (2, 2)]⟩)]
def X116 : List AV → Nat → Rd Res := stX 0 (stF keyAt (T116))
set_option maxHeartbeats 1000000 in
theorem k116 : FxOk Go.Proofs.Tryz.prog 116 (X116) := by
  refine fx_all (E := E116) (TOk.of tab_told) (fun f k h => by cases h) mix Go.Proofs.Tryz.func116 rfl rfl (by kernel_rfl) (stF_ok fun p hp => ?_)
  revert p hp
  refine AllP.at_ ?_
  refine ⟨?_, trivial⟩
  · conv => whnf
    repeat (first | (refine ⟨⟨14, ?_⟩⟩; conv => whnf) | (refine cond_intro (fun h => absurd h (by first | decide +kernel | (rw [tl_iff]; decide +kernel) | (subst hx; first | decide +kernel | (rw [tl_iff]; decide +kernel)))) (fun h => ?_); try rw [h]; conv => whnf) | (refine cond_intro (fun h => ?_) (fun h => absurd h (by first | decide +kernel | (rw [tl_iff]; decide +kernel) | (subst hx; first | decide +kernel | (rw [tl_iff]; decide +kernel)))); try rw [h]; conv => whnf) | (refine ⟨by first | decide | (subst hx; first | decide +kernel | kernel_rfl) | kernel_rfl | decide +kernel, ?_⟩; conv => whnf))
    refine EndR.nl (by first | exact Or.inl rfl | exact Or.inr rfl) ?_ ?_ ?_ ?_
    · kernel_rfl
    · exact ⟨rfl, rfl, rfl, trivial⟩
    · kernel_rfl
    · exact ⟨rfl, rfl, rfl, trivial⟩
def E117 : Env := ⟨tab, [], fun n => match n with  | _ => none⟩
def T117 : List (Nat × Row) := [(22, ⟨[.ptr 0 0 0], [(0, rdrB 22 1 (.own 2) 0 1), (1, mpX), (2, bodyX op3)], [], [(0, rdrB 22 1 (.own 2) 0 1), (1, mpX), (2, bodyX op3)], [], [(0, 0), (1, 1), (2, 2)]⟩)]
def X117 : List AV → Nat → Rd Res := stX 0 (stF keyAt (T117))
set_option maxHeartbeats 1000000 in
theorem k117 : FxOk Go.Proofs.Tryz.prog 117 (X117) := by
  refine fx_all (E := E117) (TOk.of tab_told) (fun f k h => by cases h) mix Go.Proofs.Tryz.func117 rfl rfl (by kernel_rfl) (stF_ok fun p hp => ?_)
  revert p hp
  refine AllP.at_ ?_
  refine ⟨?_, trivial⟩
  · conv => whnf
    repeat (first | (refine ⟨⟨14, ?_⟩⟩; conv => whnf) | (refine cond_intro (fun h => absurd h (by first | decide +kernel | (rw [tl_iff]; decide +kernel) | (subst hx; first | decide +kernel | (rw [tl_iff]; decide +kernel)))) (fun h => ?_); try rw [h]; conv => whnf) | (refine cond_intro (fun h => ?_) (fun h => absurd h (by first | decide +kernel | (rw [tl_iff]; decide +kernel) | (subst hx; first | decide +kernel | (rw [tl_iff]; decide +kernel)))); try rw [h]; conv => whnf) | (refine ⟨by first | decide | (subst hx; first | decide +kernel | kernel_rfl) | kernel_rfl | decide +kernel, ?_⟩; conv => whnf))
    refine EndR.nl (by first | exact Or.inl rfl | exact Or.inr rfl) ?_ ?_ ?_ ?_
    · kernel_rfl
    · exact ⟨rfl, rfl, rfl, trivial⟩
    · kernel_rfl
    · exact ⟨rfl, rfl, rfl, trivial⟩
def E170 (x : ByteArray) : Env := ⟨tab, [(92, K92)], fun n => match n with  | _ => none⟩
def T170 (x : ByteArray) : List (Nat × Row) := [(16, ⟨[.ptr 0 0 0], [(0, rdrB 16 1 .nilsl 1 1), (1, mpX)], [.str x], [(0, rdrB 17 1 .nilsl 1 1), (1, mpX)], [], [(0, 0), (1, 1)]⟩),
  (20, ⟨[.ptr 0 0 0], [(0, rdrB 20 1 (.own 2) 1 1), (1, mpX), (2, bodyX op1)], [.str x], [(0, rdrB 21 1 (.own 2) 1 1), (1, mpX), (2, bodyX op1)], [], [(0, 0), (1, 1), (2, 2)]⟩)]
def X170 (x : ByteArray) : List AV → Nat → Rd Res := stX 0 (stF keyAt (T170 x))
set_option maxHeartbeats 1000000 in
theorem k170 (x : ByteArray) (hx : x = ⟨#[120]⟩) : FxOk Go.Proofs.Tryz.prog 170 (X170 x) := by
  refine fx_all (E := E170 x) (TOk.of tab_told) (AllOk.cons k92 .nil).at_ mix Go.Proofs.Tryz.func170 rfl rfl (by kernel_rfl) (stF_ok fun p hp => ?_)
  revert p hp
  refine AllP.at_ ?_
  refine ⟨?_, ?_, trivial⟩
  · conv => whnf
    repeat (first | (refine ⟨⟨14, ?_⟩⟩; conv => whnf) | (refine cond_intro (fun h => absurd h (by first | decide +kernel | (rw [tl_iff]; decide +kernel) | (subst hx; first | decide +kernel | (rw [tl_iff]; decide +kernel)))) (fun h => ?_); try rw [h]; conv => whnf) | (refine cond_intro (fun h => ?_) (fun h => absurd h (by first | decide +kernel | (rw [tl_iff]; decide +kernel) | (subst hx; first | decide +kernel | (rw [tl_iff]; decide +kernel)))); try rw [h]; conv => whnf) | (refine ⟨by first | decide | (subst hx; first | decide +kernel | kernel_rfl) | kernel_rfl | decide +kernel, ?_⟩; conv => whnf))
    subst hx
    refine EndR.nl (by first | exact Or.inl rfl | exact Or.inr rfl) ?_ ?_ ?_ ?_
    · kernel_rfl
    · exact ⟨rfl, rfl, trivial⟩
    · kernel_rfl
    · exact ⟨rfl, rfl, trivial⟩
  · conv => whnf
    repeat (first | (refine ⟨⟨14, ?_⟩⟩; conv => whnf) | (refine cond_intro (fun h => absurd h (by first | decide +kernel | (rw [tl_iff]; decide +kernel) | (subst hx; first | decide +kernel | (rw [tl_iff]; decide +kernel)))) (fun h => ?_); try rw [h]; conv => whnf) | (refine cond_intro (fun h => ?_) (fun h => absurd h (by first | decide +kernel | (rw [tl_iff]; decide +kernel) | (subst hx; first | decide +kernel | (rw [tl_iff]; decide +kernel)))); try rw [h]; conv => whnf) | (refine ⟨by first | decide | (subst hx; first | decide +kernel | kernel_rfl) | kernel_rfl | decide +kernel, ?_⟩; conv => whnf))
    subst hx
    refine EndR.nl (by first | exact Or.inl rfl | exact Or.inr rfl) ?_ ?_ ?_ ?_
    · kernel_rfl
    · exact ⟨rfl, rfl, rfl, trivial⟩
    · kernel_rfl
    · exact ⟨rfl, rfl, rfl, trivial⟩
def E149 : Env := ⟨tab, [], fun n => match n with  | _ => none⟩
def T149 : List (Nat × Row) := [(117, ⟨[.ptr 0 0 0, .int .i64 1, .int .i64 0], [(0, rdrB 17 1 .nilsl 1 1), (1, mpX)], [], [(0, rdrB 17 1 (.own 74) 1 1), (1, mpX), (74, bodyX op1)], [74], [(0, 0), (1, 1)]⟩),
  (121, ⟨[.ptr 0 0 0, .int .i64 1, .int .i64 0], [(0, rdrB 21 1 (.own 2) 1 1), (1, mpX), (2, bodyX op1)], [], [(0, rdrB 21 1 (.own 75) 1 1), (1, mpX), (75, bodyX op2)], [75], [(0, 0), (1, 1)]⟩),
  (221, ⟨[.ptr 0 0 0, .int .i64 2, .int .i64 0], [(0, rdrB 21 1 (.own 2) 1 1), (1, mpX), (2, bodyX op2)], [], [(0, rdrB 21 1 (.own 75) 1 1), (1, mpX), (75, bodyX op3)], [75], [(0, 0), (1, 1)]⟩)]
def X149 : List AV → Nat → Rd Res := stX 0 (stF keyPut (T149))
set_option maxHeartbeats 1000000 in
theorem k149 : FxOk Go.Proofs.Tryz.prog 149 (X149) := by
  refine fx_all (E := E149) (TOk.of tab_told) (fun f k h => by cases h) mix Go.Proofs.Tryz.func149 rfl rfl (by kernel_rfl) (stF_ok fun p hp => ?_)
  revert p hp
  refine AllP.at_ ?_
  refine ⟨?_, ?_, ?_, trivial⟩
  · conv => whnf
    repeat (first | (refine ⟨⟨14, ?_⟩⟩; conv => whnf) | (refine cond_intro (fun h => absurd h (by first | decide +kernel | (rw [tl_iff]; decide +kernel) | (subst hx; first | decide +kernel | (rw [tl_iff]; decide +kernel)))) (fun h => ?_); try rw [h]; conv => whnf) | (refine cond_intro (fun h => ?_) (fun h => absurd h (by first | decide +kernel | (rw [tl_iff]; decide +kernel) | (subst hx; first | decide +kernel | (rw [tl_iff]; decide +kernel)))); try rw [h]; conv => whnf) | (refine ⟨by first | decide | (subst hx; first | decide +kernel | kernel_rfl) | kernel_rfl | decide +kernel, ?_⟩; conv => whnf))
    refine EndR.nl (by first | exact Or.inl rfl | exact Or.inr rfl) ?_ ?_ ?_ ?_
    · kernel_rfl
    · exact ⟨rfl, rfl, rfl, trivial⟩
    · kernel_rfl
    · exact ⟨rfl, rfl, trivial⟩
  · conv => whnf
    repeat (first | (refine ⟨⟨14, ?_⟩⟩; conv => whnf) | (refine cond_intro (fun h => absurd h (by first | decide +kernel | (rw [tl_iff]; decide +kernel) | (subst hx; first | decide +kernel | (rw [tl_iff]; decide +kernel)))) (fun h => ?_); try rw [h]; conv => whnf) | (refine cond_intro (fun h => ?_) (fun h => absurd h (by first | decide +kernel | (rw [tl_iff]; decide +kernel) | (subst hx; first | decide +kernel | (rw [tl_iff]; decide +kernel)))); try rw [h]; conv => whnf) | (refine ⟨by first | decide | (subst hx; first | decide +kernel | kernel_rfl) | kernel_rfl | decide +kernel, ?_⟩; conv => whnf))
    refine EndR.nl (by first | exact Or.inl rfl | exact Or.inr rfl) ?_ ?_ ?_ ?_
    · kernel_rfl
    · exact ⟨rfl, rfl, rfl, trivial⟩
    · kernel_rfl
    · exact ⟨rfl, rfl, trivial⟩
  · conv => whnf
    repeat (first | (refine ⟨⟨14, ?_⟩⟩; conv => whnf) | (refine cond_intro (fun h => absurd h (by first | decide +kernel | (rw [tl_iff]; decide +kernel) | (subst hx; first | decide +kernel | (rw [tl_iff]; decide +kernel)))) (fun h => ?_); try rw [h]; conv => whnf) | (refine cond_intro (fun h => ?_) (fun h => absurd h (by first | decide +kernel | (rw [tl_iff]; decide +kernel) | (subst hx; first | decide +kernel | (rw [tl_iff]; decide +kernel)))); try rw [h]; conv => whnf) | (refine ⟨by first | decide | (subst hx; first | decide +kernel | kernel_rfl) | kernel_rfl | decide +kernel, ?_⟩; conv => whnf))
    refine EndR.nl (by first | exact Or.inl rfl | exact Or.inr rfl) ?_ ?_ ?_ ?_
    · kernel_rfl
    · exact ⟨rfl, rfl, rfl, trivial⟩
    · kernel_rfl
    · exact ⟨rfl, rfl, trivial⟩
end
end Go.Proofs.YtaafjaibaaiigaaGreatDoor.Eng
set_option linter.unusedVariables false
set_option linter.unusedSimpArgs false
namespace Go.Proofs.YtaafjaibaaiigaaGreatDoor.Eng
open Go
set_option maxRecDepth 100000
noncomputable section
def E94 : Env := ⟨tab, [], fun n => match n with | 2 => some ([0, 1, 7, 8], [], []) | _ => none⟩
def T94 : List (Nat × Row) := [(0, ⟨[.nilsl, .fn 110 [.ptr 0 0 0]], [(0, .box [.str ⟨#[116, 119, 105, 99, 101]⟩])], [.int .i64 (-1)], [], [], []⟩)]
def X94 : List AV → Nat → Rd Res := stX 0 (stF keyC (T94))
set_option maxHeartbeats 1000000 in
theorem k94 : FxOk Go.Proofs.Tryz.prog 94 (X94) := by
  refine fx_all (E := E94) (TOk.of tab_told) (fun f k h => by cases h) mix Go.Proofs.Tryz.func94 rfl rfl (by kernel_rfl) (stF_ok fun p hp => ?_)
  revert p hp
  refine AllP.at_ ?_
  refine ⟨?_, trivial⟩
  · conv => whnf
    repeat (first | (refine ⟨⟨14, ?_⟩⟩; conv => whnf) | (refine cond_intro (fun h => absurd h (by first | decide +kernel | (rw [tl_iff]; decide +kernel) | (subst hx; first | decide +kernel | (rw [tl_iff]; decide +kernel)))) (fun h => ?_); try rw [h]; conv => whnf) | (refine cond_intro (fun h => ?_) (fun h => absurd h (by first | decide +kernel | (rw [tl_iff]; decide +kernel) | (subst hx; first | decide +kernel | (rw [tl_iff]; decide +kernel)))); try rw [h]; conv => whnf) | (refine ⟨by first | decide | (subst hx; first | decide +kernel | kernel_rfl) | kernel_rfl | decide +kernel, ?_⟩; conv => whnf))
    refine EndR.lo (by first | exact Or.inl rfl | exact Or.inr rfl) ?_ ?_ ?_
    · kernel_rfl
    · trivial
    · trivial
def E55 : Env := ⟨tab, [(94, .eff X94)], fun n => match n with  | _ => none⟩
def T55 : List (Nat × Row) := [(0, ⟨[.nilsl, .fn 110 [.ptr 0 0 0]], [(0, .box [.str ⟨#[116, 119, 105, 99, 101]⟩])], [.bool false], [], [], []⟩)]
def X55 : List AV → Nat → Rd Res := stX 0 (stF keyC (T55))
set_option maxHeartbeats 1000000 in
theorem k55 : FxOk Go.Proofs.Tryz.prog 55 (X55) := by
  refine fx_all (E := E55) (TOk.of tab_told) (AllOk.consX k94 .nil).at_ mix Go.Proofs.Tryz.func55 rfl rfl (by kernel_rfl) (stF_ok fun p hp => ?_)
  revert p hp
  refine AllP.at_ ?_
  refine ⟨?_, trivial⟩
  · conv => whnf
    repeat (first | (refine ⟨⟨14, ?_⟩⟩; conv => whnf) | (refine cond_intro (fun h => absurd h (by first | decide +kernel | (rw [tl_iff]; decide +kernel) | (subst hx; first | decide +kernel | (rw [tl_iff]; decide +kernel)))) (fun h => ?_); try rw [h]; conv => whnf) | (refine cond_intro (fun h => ?_) (fun h => absurd h (by first | decide +kernel | (rw [tl_iff]; decide +kernel) | (subst hx; first | decide +kernel | (rw [tl_iff]; decide +kernel)))); try rw [h]; conv => whnf) | (refine ⟨by first | decide | (subst hx; first | decide +kernel | kernel_rfl) | kernel_rfl | decide +kernel, ?_⟩; conv => whnf))
    refine EndR.nl (by first | exact Or.inl rfl | exact Or.inr rfl) ?_ ?_ ?_ ?_
    · kernel_rfl
    · trivial
    · kernel_rfl
    · trivial
def E109 : Env := ⟨tab, [(55, .eff X55)], fun n => match n with  | _ => none⟩
def T109 : List (Nat × Row) := [(0, ⟨[.str ⟨#[116, 119, 105, 99, 101]⟩, .ptr 0 0 0], [(0, .box [.ptr 1 0 0]), (1, .box [.nilsl, .nilsl, .nilsl, .nilsl, .nilsl])], [.bool false], [(0, .box [.ptr 1 0 0]), (1, .box [.nilsl, .nilsl, .nilsl, .nilsl, .nilsl])], [], [(0, 0), (1, 1)]⟩)]
def X109 : List AV → Nat → Rd Res := stX 0 (stF keyC (T109))
set_option maxHeartbeats 1000000 in
theorem k109 : FxOk Go.Proofs.Tryz.prog 109 (X109) := by
  refine fx_all (E := E109) (TOk.of tab_told) (AllOk.consX k55 .nil).at_ mix Go.Proofs.Tryz.func109 rfl rfl (by kernel_rfl) (stF_ok fun p hp => ?_)
  revert p hp
  refine AllP.at_ ?_
  refine ⟨?_, trivial⟩
  · conv => whnf
    repeat (first | (refine ⟨⟨14, ?_⟩⟩; conv => whnf) | (refine cond_intro (fun h => absurd h (by first | decide +kernel | (rw [tl_iff]; decide +kernel) | (subst hx; first | decide +kernel | (rw [tl_iff]; decide +kernel)))) (fun h => ?_); try rw [h]; conv => whnf) | (refine cond_intro (fun h => ?_) (fun h => absurd h (by first | decide +kernel | (rw [tl_iff]; decide +kernel) | (subst hx; first | decide +kernel | (rw [tl_iff]; decide +kernel)))); try rw [h]; conv => whnf) | (refine ⟨by first | decide | (subst hx; first | decide +kernel | kernel_rfl) | kernel_rfl | decide +kernel, ?_⟩; conv => whnf))
    refine EndR.nl (by first | exact Or.inl rfl | exact Or.inr rfl) ?_ ?_ ?_ ?_
    · kernel_rfl
    · exact ⟨rfl, rfl, trivial⟩
    · kernel_rfl
    · exact ⟨rfl, rfl, trivial⟩
def E108 : Env := ⟨tab, [(111, .eff X111), (85, .eff (X85 ⟨#[114, 117, 108, 101]⟩)), (51, K51), (109, .eff X109)], fun n => match n with  | _ => none⟩
def T108 : List (Nat × Row) := [(0, ⟨[.ptr 0 0 0, .fn 109 [.ptr 1 0 0]], [(0, rdrA 4), (1, .box [.ptr 2 0 0]), (2, .box [.nilsl, .nilsl, .nilsl, .nilsl, .nilsl])], [.str ⟨#[116, 119, 105, 99, 101]⟩], [(0, rdrA 10), (1, .box [.ptr 2 0 0]), (2, .box [.nilsl, .nilsl, .nilsl, .nilsl, .nilsl])], [], [(0, 0), (1, 1), (2, 2)]⟩)]
def X108 : List AV → Nat → Rd Res := stX 0 (stF keyC (T108))
set_option maxHeartbeats 1000000 in
theorem k108 : FxOk Go.Proofs.Tryz.prog 108 (X108) := by
  refine fx_all (E := E108) (TOk.of tab_told) (AllOk.consX k111 (.consX (k85 ⟨#[114, 117, 108, 101]⟩ rfl) (.cons k51 (.consX k109 .nil)))).at_ mix Go.Proofs.Tryz.func108 rfl rfl (by kernel_rfl) (stF_ok fun p hp => ?_)
  revert p hp
  refine AllP.at_ ?_
  refine ⟨?_, trivial⟩
  · conv => whnf
    repeat (first | (refine ⟨⟨14, ?_⟩⟩; conv => whnf) | (refine cond_intro (fun h => absurd h (by first | decide +kernel | (rw [tl_iff]; decide +kernel) | (subst hx; first | decide +kernel | (rw [tl_iff]; decide +kernel)))) (fun h => ?_); try rw [h]; conv => whnf) | (refine cond_intro (fun h => ?_) (fun h => absurd h (by first | decide +kernel | (rw [tl_iff]; decide +kernel) | (subst hx; first | decide +kernel | (rw [tl_iff]; decide +kernel)))); try rw [h]; conv => whnf) | (refine ⟨by first | decide | (subst hx; first | decide +kernel | kernel_rfl) | kernel_rfl | decide +kernel, ?_⟩; conv => whnf))
    refine EndR.nl (by first | exact Or.inl rfl | exact Or.inr rfl) ?_ ?_ ?_ ?_
    · kernel_rfl
    · exact ⟨rfl, rfl, rfl, trivial⟩
    · kernel_rfl
    · exact ⟨rfl, rfl, rfl, trivial⟩
def E146 : Env := ⟨tab, [], fun n => match n with | 3 => some ([0, 3, 7, 8, 9], [], []) | _ => none⟩
def T146 : List (Nat × Row) := [(0, ⟨[.own 0], [(0, .arr .str [⟨#[120]⟩])], [.mp 1], [(0, .arr .str [⟨#[120]⟩]), (1, mpX)], [1], [(0, 0)]⟩)]
def X146 : List AV → Nat → Rd Res := stX 0 (stF keyC (T146))
set_option maxHeartbeats 1000000 in
theorem k146 : FxOk Go.Proofs.Tryz.prog 146 (X146) := by
  refine fx_all (E := E146) (TOk.of tab_told) (fun f k h => by cases h) mix Go.Proofs.Tryz.func146 rfl rfl (by kernel_rfl) (stF_ok fun p hp => ?_)
  revert p hp
  refine AllP.at_ ?_
  refine ⟨?_, trivial⟩
  · conv => whnf
    repeat (first | (refine ⟨⟨14, ?_⟩⟩; conv => whnf) | (refine cond_intro (fun h => absurd h (by first | decide +kernel | (rw [tl_iff]; decide +kernel) | (subst hx; first | decide +kernel | (rw [tl_iff]; decide +kernel)))) (fun h => ?_); try rw [h]; conv => whnf) | (refine cond_intro (fun h => ?_) (fun h => absurd h (by first | decide +kernel | (rw [tl_iff]; decide +kernel) | (subst hx; first | decide +kernel | (rw [tl_iff]; decide +kernel)))); try rw [h]; conv => whnf) | (refine ⟨by first | decide | (subst hx; first | decide +kernel | kernel_rfl) | kernel_rfl | decide +kernel, ?_⟩; conv => whnf))
    refine EndR.so (by first | exact Or.inl rfl | exact Or.inr rfl) ?_ ?_ ?_
    · kernel_rfl
    · exact ⟨rfl, rfl, trivial⟩
    · exact ⟨⟨0, _, _, _, by kernel_rfl, rfl, rfl, rfl, rfl⟩, trivial⟩
def E114 : Env := ⟨tab, [(146, .eff X146)], fun n => match n with  | _ => none⟩
def T114 : List (Nat × Row) := [(0, ⟨[.ptr 0 0 0, .nilsl, .own 1], [(0, rdrA 15), (1, .arr .str [⟨#[120]⟩])], [.int .i64 15], [(0, rdrB 15 66 .nilsl 0 0), (66, mpX), (1, .arr .str [⟨#[120]⟩])], [66], [(0, 0), (1, 1)]⟩)]
def X114 : List AV → Nat → Rd Res := stX 0 (stF keyC (T114))
set_option maxHeartbeats 1000000 in
theorem k114 : FxOk Go.Proofs.Tryz.prog 114 (X114) := by
  refine fx_all (E := E114) (TOk.of tab_told) (AllOk.consX k146 .nil).at_ mix Go.Proofs.Tryz.func114 rfl rfl (by kernel_rfl) (stF_ok fun p hp => ?_)
  revert p hp
  refine AllP.at_ ?_
  refine ⟨?_, trivial⟩
  · conv => whnf
    repeat (first | (refine ⟨⟨14, ?_⟩⟩; conv => whnf) | (refine cond_intro (fun h => absurd h (by first | decide +kernel | (rw [tl_iff]; decide +kernel) | (subst hx; first | decide +kernel | (rw [tl_iff]; decide +kernel)))) (fun h => ?_); try rw [h]; conv => whnf) | (refine cond_intro (fun h => ?_) (fun h => absurd h (by first | decide +kernel | (rw [tl_iff]; decide +kernel) | (subst hx; first | decide +kernel | (rw [tl_iff]; decide +kernel)))); try rw [h]; conv => whnf) | (refine ⟨by first | decide | (subst hx; first | decide +kernel | kernel_rfl) | kernel_rfl | decide +kernel, ?_⟩; conv => whnf))
    refine EndR.nl (by first | exact Or.inl rfl | exact Or.inr rfl) ?_ ?_ ?_ ?_
    · kernel_rfl
    · exact ⟨rfl, rfl, rfl, trivial⟩
    · kernel_rfl
    · exact ⟨rfl, rfl, trivial⟩
end
end Go.Proofs.YtaafjaibaaiigaaGreatDoor.Eng
set_option linter.unusedVariables false
set_option linter.unusedSimpArgs false
namespace Go.Proofs.YtaafjaibaaiigaaGreatDoor.Eng
open Go
set_option maxRecDepth 100000
noncomputable section
def E150 (x : ByteArray) : Env := ⟨tab, [(170, .eff (X170 x)), (112, .eff X112), (149, .eff X149)], fun n => match n with  | _ => none⟩
def T150 (x : ByteArray) : List (Nat × Row) := [(16, ⟨[.ptr 0 0 0], [(0, rdrB 16 1 .nilsl 1 1), (1, mpX)], [], [(0, rdrB 17 1 (.own 282) 1 1), (1, mpX), (282, bodyX op1)], [282], [(0, 0), (1, 1)]⟩),
  (20, ⟨[.ptr 0 0 0], [(0, rdrB 20 1 (.own 2) 1 1), (1, mpX), (2, bodyX op1)], [], [(0, rdrB 21 1 (.own 283) 1 1), (1, mpX), (283, bodyX op2)], [283], [(0, 0), (1, 1)]⟩)]
def X150 (x : ByteArray) : List AV → Nat → Rd Res := stX 0 (stF keyAt (T150 x))
set_option maxHeartbeats 1000000 in
theorem k150 (x : ByteArray) (hx : x = ⟨#[120]⟩) : FxOk Go.Proofs.Tryz.prog 150 (X150 x) := by
  refine fx_all (E := E150 x) (TOk.of tab_told) (AllOk.consX (k170 x hx) (.consX k112 (.consX k149 .nil))).at_ mix Go.Proofs.Tryz.func150 rfl rfl (by kernel_rfl) (stF_ok fun p hp => ?_)
  revert p hp
  refine AllP.at_ ?_
  refine ⟨?_, ?_, trivial⟩
  · conv => whnf
    repeat (first | (refine ⟨⟨14, ?_⟩⟩; conv => whnf) | (refine cond_intro (fun h => absurd h (by first | decide +kernel | (rw [tl_iff]; decide +kernel) | (subst hx; first | decide +kernel | (rw [tl_iff]; decide +kernel)))) (fun h => ?_); try rw [h]; conv => whnf) | (refine cond_intro (fun h => ?_) (fun h => absurd h (by first | decide +kernel | (rw [tl_iff]; decide +kernel) | (subst hx; first | decide +kernel | (rw [tl_iff]; decide +kernel)))); try rw [h]; conv => whnf) | (refine ⟨by first | decide | (subst hx; first | decide +kernel | kernel_rfl) | kernel_rfl | decide +kernel, ?_⟩; conv => whnf))
    refine EndR.nl (by first | exact Or.inl rfl | exact Or.inr rfl) ?_ ?_ ?_ ?_
    · kernel_rfl
    · exact ⟨rfl, rfl, rfl, trivial⟩
    · kernel_rfl
    · exact ⟨rfl, rfl, trivial⟩
  · conv => whnf
    repeat (first | (refine ⟨⟨14, ?_⟩⟩; conv => whnf) | (refine cond_intro (fun h => absurd h (by first | decide +kernel | (rw [tl_iff]; decide +kernel) | (subst hx; first | decide +kernel | (rw [tl_iff]; decide +kernel)))) (fun h => ?_); try rw [h]; conv => whnf) | (refine cond_intro (fun h => ?_) (fun h => absurd h (by first | decide +kernel | (rw [tl_iff]; decide +kernel) | (subst hx; first | decide +kernel | (rw [tl_iff]; decide +kernel)))); try rw [h]; conv => whnf) | (refine ⟨by first | decide | (subst hx; first | decide +kernel | kernel_rfl) | kernel_rfl | decide +kernel, ?_⟩; conv => whnf))
    refine EndR.nl (by first | exact Or.inl rfl | exact Or.inr rfl) ?_ ?_ ?_ ?_
    · kernel_rfl
    · exact ⟨rfl, rfl, rfl, trivial⟩
    · kernel_rfl
    · exact ⟨rfl, rfl, trivial⟩
end
end Go.Proofs.YtaafjaibaaiigaaGreatDoor.Eng
set_option linter.unusedVariables false
set_option linter.unusedSimpArgs false
namespace Go.Proofs.YtaafjaibaaiigaaGreatDoor.Eng
open Go
set_option maxRecDepth 100000
noncomputable section
def E115 : Env := ⟨tab, [(112, .eff X112), (150, .eff (X150 ⟨#[120]⟩))], fun n => match n with  | _ => none⟩
def T115 : List (Nat × Row) := [(16, ⟨[.ptr 0 0 0], [(0, rdrB 16 1 .nilsl 1 1), (1, mpX)], [], [(0, rdrB 17 1 (.own 138) 1 1), (1, mpX), (138, bodyX op1)], [138], [(0, 0), (1, 1)]⟩),
  (20, ⟨[.ptr 0 0 0], [(0, rdrB 20 1 (.own 2) 1 1), (1, mpX), (2, bodyX op1)], [], [(0, rdrB 21 1 (.own 139) 1 1), (1, mpX), (139, bodyX op2)], [139], [(0, 0), (1, 1)]⟩)]
def X115 : List AV → Nat → Rd Res := stX 0 (stF keyAt (T115))
set_option maxHeartbeats 1000000 in
theorem k115 : FxOk Go.Proofs.Tryz.prog 115 (X115) := by
  refine fx_all (E := E115) (TOk.of tab_told) (AllOk.consX k112 (.consX (k150 ⟨#[120]⟩ rfl) .nil)).at_ mix Go.Proofs.Tryz.func115 rfl rfl (by kernel_rfl) (stF_ok fun p hp => ?_)
  revert p hp
  refine AllP.at_ ?_
  refine ⟨?_, ?_, trivial⟩
  · conv => whnf
    repeat (first | (refine ⟨⟨14, ?_⟩⟩; conv => whnf) | (refine cond_intro (fun h => absurd h (by first | decide +kernel | (rw [tl_iff]; decide +kernel) | (subst hx; first | decide +kernel | (rw [tl_iff]; decide +kernel)))) (fun h => ?_); try rw [h]; conv => whnf) | (refine cond_intro (fun h => ?_) (fun h => absurd h (by first | decide +kernel | (rw [tl_iff]; decide +kernel) | (subst hx; first | decide +kernel | (rw [tl_iff]; decide +kernel)))); try rw [h]; conv => whnf) | (refine ⟨by first | decide | (subst hx; first | decide +kernel | kernel_rfl) | kernel_rfl | decide +kernel, ?_⟩; conv => whnf))
    refine EndR.nl (by first | exact Or.inl rfl | exact Or.inr rfl) ?_ ?_ ?_ ?_
    · kernel_rfl
    · exact ⟨rfl, rfl, rfl, trivial⟩
    · kernel_rfl
    · exact ⟨rfl, rfl, trivial⟩
  · conv => whnf
    repeat (first | (refine ⟨⟨14, ?_⟩⟩; conv => whnf) | (refine cond_intro (fun h => absurd h (by first | decide +kernel | (rw [tl_iff]; decide +kernel) | (subst hx; first | decide +kernel | (rw [tl_iff]; decide +kernel)))) (fun h => ?_); try rw [h]; conv => whnf) | (refine cond_intro (fun h => ?_) (fun h => absurd h (by first | decide +kernel | (rw [tl_iff]; decide +kernel) | (subst hx; first | decide +kernel | (rw [tl_iff]; decide +kernel)))); try rw [h]; conv => whnf) | (refine ⟨by first | decide | (subst hx; first | decide +kernel | kernel_rfl) | kernel_rfl | decide +kernel, ?_⟩; conv => whnf))
    refine EndR.nl (by first | exact Or.inl rfl | exact Or.inr rfl) ?_ ?_ ?_ ?_
    · kernel_rfl
    · exact ⟨rfl, rfl, rfl, trivial⟩
    · kernel_rfl
    · exact ⟨rfl, rfl, trivial⟩
end
end Go.Proofs.YtaafjaibaaiigaaGreatDoor.Eng
set_option linter.unusedVariables false
set_option linter.unusedSimpArgs false
namespace Go.Proofs.YtaafjaibaaiigaaGreatDoor.Eng
open Go
set_option maxRecDepth 100000
noncomputable section
def E147 : Env := ⟨tab, [(167, .eff X167), (115, .eff X115), (111, .eff X111), (112, .eff X112), (149, .eff X149), (168, .eff X168)], fun n => match n with  | _ => none⟩
def T147 : List (Nat × Row) := [(15, ⟨[.ptr 0 0 0], [(0, rdrB 15 1 .nilsl 0 0), (1, mpX)], [], [(0, rdrB 22 1 (.own 234) 0 1), (1, mpX), (234, bodyX op3)], [234], [(0, 0), (1, 1)]⟩)]
def X147 : List AV → Nat → Rd Res := stX 0 (stF keyAt (T147))
set_option maxHeartbeats 1000000 in
theorem k147 : FxOk Go.Proofs.Tryz.prog 147 (X147) := by
  refine fx_all (E := E147) (TOk.of tab_told) (AllOk.consX k167 (.consX k115 (.consX k111 (.consX k112 (.consX k149 (.consX k168 .nil)))))).at_ mix Go.Proofs.Tryz.func147 rfl rfl (by kernel_rfl) (stF_ok fun p hp => ?_)
  revert p hp
  refine AllP.at_ ?_
  refine ⟨?_, trivial⟩
  · conv => whnf
    repeat (first | (refine ⟨⟨14, ?_⟩⟩; conv => whnf) | (refine cond_intro (fun h => absurd h (by first | decide +kernel | (rw [tl_iff]; decide +kernel) | (subst hx; first | decide +kernel | (rw [tl_iff]; decide +kernel)))) (fun h => ?_); try rw [h]; conv => whnf) | (refine cond_intro (fun h => ?_) (fun h => absurd h (by first | decide +kernel | (rw [tl_iff]; decide +kernel) | (subst hx; first | decide +kernel | (rw [tl_iff]; decide +kernel)))); try rw [h]; conv => whnf) | (refine ⟨by first | decide | (subst hx; first | decide +kernel | kernel_rfl) | kernel_rfl | decide +kernel, ?_⟩; conv => whnf))
    refine EndR.nl (by first | exact Or.inl rfl | exact Or.inr rfl) ?_ ?_ ?_ ?_
    · kernel_rfl
    · exact ⟨rfl, rfl, rfl, trivial⟩
    · kernel_rfl
    · exact ⟨rfl, rfl, trivial⟩
def E115b : Env := ⟨tab, [(112, .eff X112), (147, .eff X147)], fun n => match n with  | _ => none⟩
def T115b : List (Nat × Row) := [(15, ⟨[.ptr 0 0 0], [(0, rdrB 15 1 .nilsl 0 0), (1, mpX)], [], [(0, rdrB 22 1 (.own 58) 0 1), (1, mpX), (58, bodyX op3)], [58], [(0, 0), (1, 1)]⟩)]
def X115b : List AV → Nat → Rd Res := stX 0 (stF keyAt (T115b))
set_option maxHeartbeats 1000000 in
theorem k115b : FxOk Go.Proofs.Tryz.prog 115 (X115b) := by
  refine fx_all (E := E115b) (TOk.of tab_told) (AllOk.consX k112 (.consX k147 .nil)).at_ mix Go.Proofs.Tryz.func115 rfl rfl (by kernel_rfl) (stF_ok fun p hp => ?_)
  revert p hp
  refine AllP.at_ ?_
  refine ⟨?_, trivial⟩
  · conv => whnf
    repeat (first | (refine ⟨⟨14, ?_⟩⟩; conv => whnf) | (refine cond_intro (fun h => absurd h (by first | decide +kernel | (rw [tl_iff]; decide +kernel) | (subst hx; first | decide +kernel | (rw [tl_iff]; decide +kernel)))) (fun h => ?_); try rw [h]; conv => whnf) | (refine cond_intro (fun h => ?_) (fun h => absurd h (by first | decide +kernel | (rw [tl_iff]; decide +kernel) | (subst hx; first | decide +kernel | (rw [tl_iff]; decide +kernel)))); try rw [h]; conv => whnf) | (refine ⟨by first | decide | (subst hx; first | decide +kernel | kernel_rfl) | kernel_rfl | decide +kernel, ?_⟩; conv => whnf))
    refine EndR.nl (by first | exact Or.inl rfl | exact Or.inr rfl) ?_ ?_ ?_ ?_
    · kernel_rfl
    · exact ⟨rfl, rfl, rfl, trivial⟩
    · kernel_rfl
    · exact ⟨rfl, rfl, trivial⟩
end
end Go.Proofs.YtaafjaibaaiigaaGreatDoor.Eng
set_option linter.unusedVariables false
set_option linter.unusedSimpArgs false
namespace Go.Proofs.YtaafjaibaaiigaaGreatDoor.Eng
open Go
set_option maxRecDepth 100000
noncomputable section
def E140 : Env := ⟨tab, [], fun n => match n with | 2 => some ([0, 1, 6, 7, 8], [], []) | _ => none⟩
def K140 : Fn1 := ⟨.fld (.sl .str) (.one .str), .one I, fun (x : List ByteArray × ByteArray) => [x.1 = []], fun _ => (-1 : Int)⟩
theorem k140 : FnOk Go.Proofs.Tryz.prog 140 K140 := by
  refine fn_ok (E := E140) (TOk.of tab_told) (fun f k h => by cases h) mix Go.Proofs.Tryz.func140 rfl rfl (by kernel_rfl) K140 ?_
  rintro ⟨(l : List ByteArray), (s : ByteArray)⟩ hp
  have hl : l = [] := hp _ (List.mem_cons_self ..)
  clear hp
  subst hl
  conv => whnf
  repeat (first | (refine ⟨⟨14, ?_⟩⟩; conv => whnf) | (refine cond_intro (fun h => absurd h (by first | decide +kernel | (rw [tl_iff]; decide +kernel) | (subst hx; first | decide +kernel | (rw [tl_iff]; decide +kernel)))) (fun h => ?_); try rw [h]; conv => whnf) | (refine cond_intro (fun h => ?_) (fun h => absurd h (by first | decide +kernel | (rw [tl_iff]; decide +kernel) | (subst hx; first | decide +kernel | (rw [tl_iff]; decide +kernel)))); try rw [h]; conv => whnf) | (refine ⟨by first | decide | (subst hx; first | decide +kernel | kernel_rfl) | kernel_rfl | decide +kernel, ?_⟩; conv => whnf))
  conv => whnf
  show (-1 : Int) = -1
  rfl
def E145 : Env := ⟨tab, [(140, K140)], fun n => match n with  | _ => none⟩
def K145 : Fn1 := ⟨.fld (.sl .str) (.one .str), .one .bool, fun (x : List ByteArray × ByteArray) => [x.1 = []], fun _ => false⟩
theorem k145 : FnOk Go.Proofs.Tryz.prog 145 K145 := by
  refine fn_ok (E := E145) (TOk.of tab_told) (AllOk.cons k140 .nil).at_ mix Go.Proofs.Tryz.func145 rfl rfl (by kernel_rfl) K145 ?_
  rintro ⟨(l : List ByteArray), (s : ByteArray)⟩ hp
  have hl : l = [] := hp _ (List.mem_cons_self ..)
  clear hp
  subst hl
  conv => whnf
  repeat (first | (refine ⟨⟨14, ?_⟩⟩; conv => whnf) | (refine cond_intro (fun h => absurd h (by first | decide +kernel | (rw [tl_iff]; decide +kernel) | (subst hx; first | decide +kernel | (rw [tl_iff]; decide +kernel)))) (fun h => ?_); try rw [h]; conv => whnf) | (refine cond_intro (fun h => ?_) (fun h => absurd h (by first | decide +kernel | (rw [tl_iff]; decide +kernel) | (subst hx; first | decide +kernel | (rw [tl_iff]; decide +kernel)))); try rw [h]; conv => whnf) | (refine ⟨by first | decide | (subst hx; first | decide +kernel | kernel_rfl) | kernel_rfl | decide +kernel, ?_⟩; conv => whnf))
  conv => whnf
  show false = false
  rfl
def K113 (x : ByteArray) : Fn1 := ⟨.one (.sl .str), .one .bool, fun (l : List ByteArray) => [l = [x]], fun _ => true⟩
def E113 : Env := ⟨tab, [(51, K51), (145, K145)], fun n => match n with | 2 => some ([0, 5, 6, 7], [], []) | _ => none⟩
theorem k113 (x : ByteArray) (hx : x = ⟨#[120]⟩) : FnOk Go.Proofs.Tryz.prog 113 (K113 x) := by
  refine fn_ok (E := E113) (TOk.of tab_told) (AllOk.cons k51 (.cons k145 .nil)).at_ mix Go.Proofs.Tryz.func113 rfl rfl (by kernel_rfl) (K113 x) ?_
  rintro (l : List ByteArray) hp
  have hl : l = [x] := hp _ (List.mem_cons_self ..)
  clear hp
  subst hl
  conv => whnf
  repeat (first | (refine ⟨⟨14, ?_⟩⟩; conv => whnf) | (refine cond_intro (fun h => absurd h (by first | decide +kernel | (rw [tl_iff]; decide +kernel) | (subst hx; first | decide +kernel | (rw [tl_iff]; decide +kernel)))) (fun h => ?_); try rw [h]; conv => whnf) | (refine cond_intro (fun h => ?_) (fun h => absurd h (by first | decide +kernel | (rw [tl_iff]; decide +kernel) | (subst hx; first | decide +kernel | (rw [tl_iff]; decide +kernel)))); try rw [h]; conv => whnf) | (refine ⟨by first | decide | (subst hx; first | decide +kernel | kernel_rfl) | kernel_rfl | decide +kernel, ?_⟩; conv => whnf))
  conv => whnf
  show true = true
  rfl
end
end Go.Proofs.YtaafjaibaaiigaaGreatDoor.Eng
set_option linter.unusedVariables false
set_option linter.unusedSimpArgs false
namespace Go.Proofs.YtaafjaibaaiigaaGreatDoor.Eng
open Go
set_option maxRecDepth 100000
noncomputable section
def E86 : Env := ⟨tab, [(108, .eff X108), (111, .eff X111), (112, .eff X112), (85, .eff (X85 ⟨#[114, 117, 108, 101]⟩)), (113, K113 ⟨#[120]⟩), (114, .eff X114), (115, .eff X115b), (116, .eff X116), (117, .eff X117)], fun n => match n with | 4 => some ([0, 1, 3, 4, 5], [], []) | _ => none⟩
def T86 : List (Nat × Row) := [(4, ⟨[.ptr 0 0 0, .ptr 1 0 0], [(0, rdrA 4), (1, .box [.nilsl, .nilsl, .nilsl, .nilsl, .nilsl])], [], [(1, .box [.own 301, .nilsl, .nilsl, .nilsl, .nilsl]), (301, .arr ruT [(⟨#[116, 119, 105, 99, 101]⟩, (1 : Int), op3)])], [301], [(1, 1)]⟩)]
def X86 : List AV → Nat → Rd Res := stX 0 (stF keyAt (T86))
set_option maxHeartbeats 1000000 in
theorem k86 : FxOk Go.Proofs.Tryz.prog 86 (X86) := by
  refine fx_all (E := E86) (TOk.of tab_told) (AllOk.consX k108 (.consX k111 (.consX k112 (.consX (k85 ⟨#[114, 117, 108, 101]⟩ rfl) (.cons (k113 ⟨#[120]⟩ rfl) (.consX k114 (.consX k115b (.consX k116 (.consX k117 .nil))))))))).at_ mix Go.Proofs.Tryz.func86 rfl rfl (by kernel_rfl) (stF_ok fun p hp => ?_)
  revert p hp
  refine AllP.at_ ?_
  refine ⟨?_, trivial⟩
  · conv => whnf
    repeat (first | (refine ⟨⟨14, ?_⟩⟩; conv => whnf) | (refine cond_intro (fun h => absurd h (by first | decide +kernel | (rw [tl_iff]; decide +kernel) | (subst hx; first | decide +kernel | (rw [tl_iff]; decide +kernel)))) (fun h => ?_); try rw [h]; conv => whnf) | (refine cond_intro (fun h => ?_) (fun h => absurd h (by first | decide +kernel | (rw [tl_iff]; decide +kernel) | (subst hx; first | decide +kernel | (rw [tl_iff]; decide +kernel)))); try rw [h]; conv => whnf) | (refine ⟨by first | decide | (subst hx; first | decide +kernel | kernel_rfl) | kernel_rfl | decide +kernel, ?_⟩; conv => whnf))
    refine EndR.lo (by first | exact Or.inl rfl | exact Or.inr rfl) ?_ ?_ ?_
    · kernel_rfl
    · exact ⟨rfl, rfl, trivial⟩
    · exact ⟨⟨1, _, _, by kernel_rfl, rfl, rfl, rfl, rfl, rfl⟩, trivial⟩
end
end Go.Proofs.YtaafjaibaaiigaaGreatDoor.Eng
set_option linter.unusedVariables false
set_option linter.unusedSimpArgs false
namespace Go.Proofs.YtaafjaibaaiigaaGreatDoor.Eng
open Go
set_option maxRecDepth 100000
noncomputable section
noncomputable def rest49 : Code := match Go.Proofs.Tryz.f49.body with | some (.seq _ (.seq _ c)) => c | _ => .skip
noncomputable def E49 (x : ByteArray) : Env := ⟨tab, [(85, .eff (X85 x)), (86, .eff X86)], fun _ => none⟩
noncomputable def ruX : List Ru := [(⟨#[116, 119, 105, 99, 101]⟩, (1 : Int), op3)]
noncomputable def row49 : Row := ⟨[.ptr 0 0 0, .str lnB, .undef, .undef, .ptr 1 0 0, .undef, .undef], [(0, .box [.nilsl, .nilsl, .nilsl, .nilsl, .nilsl]), (1, .box [.int .i64 0])], [.int .i64 0], [(0, .box [.own 82, .nilsl, .nilsl, .nilsl, .nilsl]), (82, .arr ruT ruX)], [82], [(0, 0)]⟩
theorem den49 (x : ByteArray) (hx : x = ⟨#[114, 117, 108, 101]⟩) : den (E49 x) rest49 ⟨lapp row49.ia (repl [AV.undef] (38 - llen row49.ia)), row49.ih, llen row49.ih⟩ (EndR (E49 x) rest49 Go.Proofs.Tryz.f49.results.toList row49) := by
  conv => whnf
  repeat (first | (refine ⟨⟨14, ?_⟩⟩; conv => whnf) | (refine cond_intro (fun h => absurd h (by first | decide +kernel | (rw [tl_iff]; decide +kernel) | (subst hx; first | decide +kernel | (rw [tl_iff]; decide +kernel)))) (fun h => ?_); try rw [h]; conv => whnf) | (refine cond_intro (fun h => ?_) (fun h => absurd h (by first | decide +kernel | (rw [tl_iff]; decide +kernel) | (subst hx; first | decide +kernel | (rw [tl_iff]; decide +kernel)))); try rw [h]; conv => whnf) | (refine ⟨by first | decide | (subst hx; first | decide +kernel | kernel_rfl) | kernel_rfl | decide +kernel, ?_⟩; conv => whnf))
  subst hx
  refine EndR.nl (by first | exact Or.inl rfl | exact Or.inr rfl) ?_ ?_ ?_ ?_
  · kernel_rfl
  · exact ⟨rfl, rfl, trivial⟩
  · kernel_rfl
  · exact ⟨rfl, trivial⟩
end
end Go.Proofs.YtaafjaibaaiigaaGreatDoor.Eng
set_option linter.unusedVariables false
set_option linter.unusedSimpArgs false
namespace Go.Proofs.YtaafjaibaaiigaaGreatDoor.Eng
open Go Go.RowKit
set_option maxRecDepth 100000
theorem k84 (p : Value) (w : World) : CallsD Go.Proofs.Tryz.prog 84 #[p] .returning w (fun e u' w' => u' = .returning ∧ e = .returned (.tuple #[]) ∧ w' = w) := by
  refine callsD_of_wpS Go.Proofs.Tryz.func84 rfl fun c₀ cs hu => ?_
  apply wpS_seq
  apply wpS_region
  simp [wpOpsS, go_sem, recoverD, hu, Exit.thenS]
  refine wpS_of_wp ?_
  refine wp_block ?_
  refine wp_seq ?_
  refine wp_region ?_
  simp [wpOps, Oper.wp, go_sem]
  refine Or.inl ?_
  refine wp_cond (t := true) ?_ ?_
  · rfl
  refine wp_region ?_
  simp [wpOps, Oper.wp, go_sem]
  refine Or.inl ⟨rfl, .returning, ?_, .tuple #[], ?_, rfl, rfl, rfl⟩
  · rw [← hu]
  · simp [results, Go.Proofs.Tryz.f84, Sem.run_bind, Sem.run_pure]
theorem wpOp_go {P : Program} {ops : Array Oper} {Q : Exit → Act → World → Prop} {i : Nat} {next : Act → World → Prop} {a : Act} {w : World} {o : Oper} (ho : ops[i]? = some o) (hg : o.guard = none) (h : o.wp P a w next Q) : wpOp P ops Q i next a w := by
  have hw : Region.wanted o (yielded ops a.tmps) = true := by simp [Region.wanted, hg]
  unfold wpOp
  rw [ho]
  simp only
  rw [if_pos hw]
  exact Or.inl h
section
open Go.RowKit
variable {P : Program} {E : Env} {B : Zn} {S0 : Nat → Prop} {μ : Nat → Option Wh} {H : Nat → Option Ob} {w : World}
theorem alloc1 (hT : TOk P E) (hs : HS B S0 μ H w) {base e : Nat} (hm : μ base = none) {z : AV} {zs : List AV} (hk : (E.ti e).kind ≠ 0) (hz : (E.ti e).zero = z :: zs) :
    ∃ v w' μ', (Instr.alloc e true (.tuple #[])).run P w = .ok v w' ∧ Done B S0 μ H w base (upd H base (some (.box (z :: zs)))) (.ptr base 0 0) v μ' w' ∧ ∀ q, q ≠ base → μ' q = μ q := by
  obtain ⟨f, zv, h1, h2, h3, h4, h5⟩ := hT.zero hk (by rw [hz]; simp)
  have hv : RVs (Stb B S0 μ H w) w μ (z :: zs) zv.cells.toList := by rw [← hz, h5]; exact RVs_ofCell _
  obtain ⟨hs', k⟩ := hs.alloc hm ⟨some ⟨w.heap.size, 0, none⟩, (z :: zs).length, 1, 1⟩ (.cells zv.cells e) (.box (z :: zs)) rfl fun k =>
    ⟨w.heap.size, zv.cells.toList, e, more_same _ _, hs.bsz.new, by rw [Array.toArray_toList]; exact heap_alloc_new w _, RVs.mono k (more_ext _ hm) _ _ hv⟩
  refine ⟨.pointer (some ⟨w.heap.size, 0, none⟩), _, _, ?_, ⟨more_ext _ hm, fun q hq => more_other _ (pow8 hq), hs', k, ⟨_, w.heap.size, 0, more_same _ _, rfl, Nat.one_pos, by simp⟩, (Bel.refl _ _).alloc hs.bsz _⟩, fun q hq => more_other _ hq⟩
  simp only [Instr.alloc, zeroValue, typeInfo, Sem.run_bind, run_program, Result.andThen_ok, h1, h4, Sem.run_pure, newVar, newRow, run_newObj]
  rfl
end
theorem wp_defer' {P : Program} {o : Oper} {a : Act} {w w' : World} {next : Act → World → Prop} {Q : Exit → Act → World → Prop} {d : Deferred} (h : (execOp a.eval o).run P w = .ok (.defer d) w') (hn : next ({ a with defers := d :: a.defers }.put o.dst undef) w') : o.wp P a w next Q := by
  unfold Oper.wp
  rw [h]
  exact hn
theorem reg49 {P : Program} {R : Exit → Act → World → Prop} {w : World} {v0 v1 v4 : Value} (h : R .normal { tmps := [v0, v1, undef, undef, v4, undef, .func (.func 84) #[] #[v4]].toArray ++ Array.replicate 31 undef, defers := [⟨.fn (.func 84) #[v4], #[]⟩] } w) :
    (Code.region 1 #[⟨some 6, .makeFunc (.func 84) #[] #[.tmp 4], 1, "source.go:198", #[], none⟩, ⟨none, .defer ⟨.value (.tmp 6), #[], #[]⟩, 0, "source.go:198", #[⟨0, .data⟩], none⟩] false).wp P R { tmps := (#[v0, v1] ++ Array.replicate 36 undef).setIfInBounds 4 v4, defers := [] } w := by
  refine wp_region ?_
  have e : (#[v0, v1] ++ Array.replicate 36 undef).setIfInBounds 4 v4 = [v0, v1, undef, undef, v4].toArray ++ Array.replicate 33 undef := by kernel_rfl
  have e2 : ([v0, v1, undef, undef, v4].toArray ++ (Array.replicate 33 undef).setIfInBounds 1 (Value.func (.func 84) #[] #[v4])) = [v0, v1, undef, undef, v4, undef, .func (.func 84) #[] #[v4]].toArray ++ Array.replicate 31 undef := by kernel_rfl
  rw [e]
  simp [wpOps, Oper.wp, go_sem, Instr.makeFunc]
  refine Or.inl (Or.inl ?_)
  rw [e2]
  exact h
theorem ok49 : codeOk rest49 = true := by kernel_rfl
def box5 : Ob := .box [.nilsl, .nilsl, .nilsl, .nilsl, .nilsl]
noncomputable def X49 : List AV → Nat → Rd Res := fun args base => match args with
  | [.ptr h 0 0, .str s] => .get h fun o => match o with
    | some (.box [.nilsl, .nilsl, .nilsl, .nilsl, .nilsl]) => .ok ⟨[s = lnB], .int .i64 0, [(h, some (.box [.own (base + 1), .nilsl, .nilsl, .nilsl, .nilsl])), (base + 1, some (.arr ruT ruX))]⟩
    | _ => .bad
  | _ => .bad
theorem X49_run {args : List AV} {base : Nat} {H : Nat → Option Ob} {r : Res} (h : (X49 args base).run H = some r) : ∃ g s, args = [.ptr g 0 0, .str s] ∧ H g = some box5 ∧ r = ⟨[s = lnB], .int .i64 0, [(g, some (.box [.own (base + 1), .nilsl, .nilsl, .nilsl, .nilsl])), (base + 1, some (.arr ruT ruX))]⟩ := by
  unfold X49 at h
  split at h
  · rename_i g s
    refine ⟨g, s, rfl, ?_⟩
    have h' : (match H g with
      | some (.box [.nilsl, .nilsl, .nilsl, .nilsl, .nilsl]) => .ok ⟨[s = lnB], .int .i64 0, [(g, some (.box [.own (base + 1), .nilsl, .nilsl, .nilsl, .nilsl])), (base + 1, some (.arr ruT ruX))]⟩
      | _ => .bad : Rd Res).run H = some r := h
    split at h'
    · rename_i hg
      cases h'
      exact ⟨hg, rfl⟩
    · cases h'
  · cases h
set_option maxHeartbeats 400000 in
theorem k49 : FxOk Go.Proofs.Tryz.prog 49 X49 := by
  refine ⟨⟨Go.Proofs.Tryz.f49, _, Go.Proofs.Tryz.func49, rfl, rfl⟩, ?_⟩
  intro B S0 μ H w base args vals r hs hm hv hr hp
  obtain ⟨g, s, rfl, hg, rfl⟩ := X49_run hr
  have hsl : s = lnB := hp _ (List.mem_cons_self ..)
  subst hsl
  refine calls_of_wp_defers Go.Proofs.Tryz.func49 rfl ?_
  obtain ⟨v0, vs0, rfl, r0, v1, vs1, rfl, r1, hnil⟩ := hv
  simp only [RVs] at hnil
  subst hnil
  have hT := TOk.of (P := Go.Proofs.Tryz.prog) (E := E49 ⟨#[114, 117, 108, 101]⟩) tab_told
  have hK : ∀ f k, findK (E49 ⟨#[114, 117, 108, 101]⟩).K f = some k → CtrOk Go.Proofs.Tryz.prog f k := (AllOk.consX (k85 ⟨#[114, 117, 108, 101]⟩ rfl) (.consX k86 .nil)).at_
  refine wp_seq (wp_region ?_)
  show wpOps _ _ _ [0] _ _
  rw [wpOps_cons]
  refine wpOp_go (o := ⟨some 4, .alloc 31, 0, "source.go:197", #[], none⟩) rfl rfl ?_
  obtain ⟨v4, w1, μ1, e4, d1, n1⟩ := alloc1 hT hs (base := base) (e := 31) (hm base (Nat.le_refl _) (by omega)) (z := .int .i64 0) (zs := []) (by decide) rfl
  refine wp_value' (v := v4) (w' := w1) (by rw [show execOp _ _ = (do pure (.value (← Instr.alloc 31 true (.tuple #[])))) from rfl]; exact run_v e4) ?_
  refine (?_ : Code.wp _ _ _ _ _)
  refine wp_seq (reg49 ?_)
  show Code.wp _ rest49 _ { tmps := [v0, v1, undef, undef, v4, undef, .func (.func 84) #[] #[v4]].toArray ++ Array.replicate (Go.Proofs.Tryz.f49.ntmps - 7) undef, defers := [⟨.fn (.func 84) #[v4], #[]⟩] } w1
  have hgb : g ≠ base := by
    intro e
    obtain ⟨m, hm1⟩ := (hs.obj g _ hg).told
    rw [e, hm base (Nat.le_refl _) (by omega)] at hm1
    cases hm1
  have hnd : [g, base].Nodup := by simp [hgb]
  have i0 : idx g [g, base] = some 0 := idx_at hnd rfl
  have i1 : idx base [g, base] = some 1 := idx_at hnd rfl
  have H1g : upds H [(base, some (Ob.box [.int .i64 0]))] g = some box5 := by
    show upd H base (some (Ob.box [.int .i64 0])) g = some box5
    rw [upd_other _ hgb]; exact hg
  have H1b : upds H [(base, some (Ob.box [.int .i64 0]))] base = some (.box [.int .i64 0]) := by
    show upd H base (some (Ob.box [.int .i64 0])) base = _
    rw [upd_same]
  have hHb : ∀ q, base ≤ q → q < base + 8 → H q = none := by
    intro q h1 h2
    cases ho : H q with
    | none => rfl
    | some o =>
      obtain ⟨m, hm1⟩ := (hs.obj q o ho).told
      rw [hm q h1 h2] at hm1
      cases hm1
  generalize hA : ascOf [g, base] row49 (base + 1) = A
  have a0 : asc 0 A = some g := by rw [← hA]; exact forceN_eq g
  have a1 : asc 82 A = some (base + 1) := by rw [← hA]; exact forceN_eq (base + 1)
  have hU : upsB A row49.oh = [(g, some (.box [.own (base + 1), .nilsl, .nilsl, .nilsl, .nilsl])), (base + 1, some (.arr ruT ruX))] := by
    show (match asc 0 A with
      | some q => (q, some (Ob.box [(match asc 82 A with | some q => AV.own q | none => .undef), .nilsl, .nilsl, .nilsl, .nilsl])) :: (match asc 82 A with | some q => [(q, some (Ob.arr ruT ruX))] | none => [])
      | none => (match asc 82 A with | some q => [(q, some (Ob.arr ruT ruX))] | none => [])) = _
    rw [a0, a1]
  have hUU : upds (upds H [(base, some (Ob.box [.int .i64 0]))]) (lapp [(g, none), (base, none)] (upsB A row49.oh)) = upds H [(g, some (.box [.own (base + 1), .nilsl, .nilsl, .nilsl, .nilsl])), (base + 1, some (.arr ruT ruX))] := by
    rw [hU]
    funext q
    show upd (upd (upd (upd (upd H base (some (Ob.box [.int .i64 0]))) g none) base none) g _) (base + 1) _ q = upd (upd H g _) (base + 1) _ q
    by_cases q1 : q = base + 1
    · subst q1; rw [upd_same, upd_same]
    · rw [upd_other _ q1, upd_other _ q1]
      by_cases q2 : q = g
      · subst q2; rw [upd_same, upd_same]
      · rw [upd_other _ q2, upd_other _ q2]
        by_cases q3 : q = base
        · subst q3; rw [upd_same, hHb q (Nat.le_refl _) (by omega)]
        · rw [upd_other _ q3, upd_other _ q2, upd_other _ q3]
  refine al_core (off := 1) (base := base) (obs := [(g, box5), (base, .box [.int .i64 0])]) (row := row49) (args := [.ptr g 0 0, .str lnB, .undef, .undef, .ptr base 0 0, .undef, .undef]) (vals := [v0, v1, undef, undef, v4, undef, .func (.func 84) #[] #[v4]]) (fn := Go.Proofs.Tryz.f49) hT hK mix ok49 d1.hs ?_ ?_ ?_ hnd rfl rfl ?_ ?_ (den49 _ rfl) ?_
  · intro q h1 h2
    rw [n1 q (by omega)]
    exact hm q (by omega) h2
  · exact ⟨_, _, rfl, RV.mono d1.keep d1.ext _ _ r0, _, _, rfl, RV.mono d1.keep d1.ext _ _ r1, _, _, rfl, trivial, _, _, rfl, trivial, _, _, rfl, d1.val, _, _, rfl, trivial, _, _, rfl, trivial, rfl⟩
  · intro p hp
    rcases List.mem_cons.1 hp with rfl | hp
    · exact H1g
    · rw [List.mem_singleton.1 hp]; exact H1b
  · show [(match idx g [g, base] with | some j => AV.ptr j 0 0 | none => .undef), .str lnB, .undef, .undef, (match idx base [g, base] with | some j => AV.ptr j 0 0 | none => .undef), .undef, .undef] = _
    rw [i0, i1]
    rfl
  · rfl
  · rintro e ac w' he hd ⟨v, μ', g1, g2, g3, g4, g5, g6, g7⟩
    have key : Leaves Go.Proofs.Tryz.prog Go.Proofs.Tryz.f49 ac.tmps (fun e w' => ∃ v μ', e = .returned v ∧ Done B S0 μ H w base (upds H [(g, some (.box [.own (base + 1), .nilsl, .nilsl, .nilsl, .nilsl])), (base + 1, some (.arr ruT ruX))]) (.int .i64 0) v μ' w') ac.defers .returning w' := by
      rw [hd]
      refine leaves_cons (f := 84) (args := #[v4]) (by simp) (by simp [go_sem]) ?_
      refine (k84 v4 w').mono ?_
      rintro e u' w'' ⟨rfl, rfl, rfl⟩
      refine ⟨v, g1, v, μ', rfl, fun h m hh => g2 h m (d1.ext h m hh), fun q hq => ?_, ?_, ?_, ?_, d1.bel.trans g7⟩
      · rw [g3 q (by omega), d1.new q hq]
      · rw [← hUU, ← hA]; exact g4
      · rw [← hUU, ← hA]; exact d1.keep.trans g5
      · rw [← hUU, ← hA]; exact g6
    rcases he with rfl | rfl
    · exact key
    · exact key
end Go.Proofs.YtaafjaibaaiigaaGreatDoor.Eng
set_option linter.unusedVariables false
set_option linter.unusedSimpArgs false
namespace Go.Proofs
open Go.RowKit Go.Shelf Go.Lib
shelf_lay Lays.n138 Nm 138 at Tryz as Tryz.laysCount
shelf_lay Lays.n102 Nm 102 at Tryz as Tryz.laysTrim
end Go.Proofs
namespace Go.Proofs.YtaafjaibaaiigaaGreatDoor.Eng
open Go Go.Lib
set_option maxRecDepth 100000
noncomputable section
def NL : ByteArray := mkB [10]
def txB : ByteArray := mkB (bs lnB ++ [10])
def K105 : Fn1 := ⟨.fld .str (.one .str), .one I, fun (a : ByteArray × ByteArray) => [a.1 = lnB, a.2 = NL], fun _ => (0 : Int)⟩
theorem k105 : FnOk Go.Proofs.Tryz.prog 105 K105 := by
  refine fn_same ⟨_, _, Go.Proofs.Tryz.func105, rfl, rfl⟩ (fun (a : ByteArray × ByteArray) => .int .i64 0) (fun a base => rfl) ?_
  rintro w S0 vals ⟨(s : ByteArray), (t : ByteArray)⟩ hv hp
  have hs : s = lnB := hp _ List.mem_cons_self
  have ht : t = NL := hp _ (List.mem_cons_of_mem _ List.mem_cons_self)
  subst hs ht
  rw [two_strs hv]
  refine ⟨.int .i64 (countByte (bs lnB) 10), Any.strings_Count_one Tryz.laysCount lnB 10 w, fun St μ => ?_⟩
  show (Value.int .i64 _ : Value) = Value.int .i64 _
  rw [show countByte (bs lnB) 10 = 0 by decide +kernel]
  rfl
def K48 : Fn1 := ⟨.fld .str (.one .str), .one .str, fun (a : ByteArray × ByteArray) => [a.1 = txB, a.2 = NL], fun _ => lnB⟩
theorem k48 : FnOk Go.Proofs.Tryz.prog 48 K48 := by
  refine fn_same ⟨_, _, Go.Proofs.Tryz.func48, rfl, rfl⟩ (fun (a : ByteArray × ByteArray) => .str lnB) (fun a base => rfl) ?_
  rintro w S0 vals ⟨(s : ByteArray), (t : ByteArray)⟩ hv hp
  have hs : s = txB := hp _ List.mem_cons_self
  have ht : t = NL := hp _ (List.mem_cons_of_mem _ List.mem_cons_self)
  subst hs ht
  rw [two_strs hv]
  refine ⟨.string ⟨(trimSuffix (bs txB) (bs NL)).toArray⟩, Any.strings_TrimSuffix Tryz.laysTrim txB NL w (by decide +kernel), fun St μ => ?_⟩
  have : (⟨(trimSuffix (bs txB) (bs NL)).toArray⟩ : ByteArray) = lnB := by decide +kernel
  rw [this]
  rfl
end
end Go.Proofs.YtaafjaibaaiigaaGreatDoor.Eng
