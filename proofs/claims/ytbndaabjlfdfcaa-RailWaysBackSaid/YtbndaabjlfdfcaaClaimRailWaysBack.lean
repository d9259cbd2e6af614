/- The law RailWaysBack: it answers true for every input, and its arguments read afterwards as they did. The row, out of the contract of the law's function (written by row.py, a program of these sessions). -/
import Derived.Test.YtbndaabjlfdfcaaFnOne
import Derived.Test.YtbndaabjlfdfcaaRows
import Derived.WalkKit
import Derived.ProofKit
import Derived.OpenShut
import Derived.ShutString
import Derived.ChangeOld
import Derived.Below
import Derived.SizedLaws
set_option linter.unusedVariables false
set_option linter.unusedSimpArgs false
set_option linter.unusedVariables false
set_option linter.unusedSimpArgs false
namespace Go.Proofs.Ytbndaabjlfdfcaa.Eng
open Go
set_option maxRecDepth 100000
noncomputable section
def K12 : Fn1 := ⟨.fld rlT (.one (.sl spT)), .one .bool, fun _ => [], fun _ => true⟩
theorem k12 : FnOk Go.Proofs.Try.prog 12 K12 := by
  refine fn_ok (E := (⟨tab, [(16, K16), (17, K17), (36, K36), (37, K37)], ann0⟩ : Env)) (TOk.of tab_told) (AllOk.cons k16 (.cons k17 (.cons k36 (.cons k37 .nil)))).at_ mix Go.Proofs.Try.func12 rfl rfl (by kernel_rfl) K12 ?_
  rintro ⟨⟨(w : Int), (h : Int), (l : List Int), (wl : List Bool)⟩, (q : List Sp)⟩ hp
  clear hp
  conv => whnf
  refine cond_intro (fun h1 => ?_) (fun h1 => ?_)
  · have h1 : (farR (w, h, l, wl)) = true := h1
    conv => whnf
    rfl
  have h1 : (farR (w, h, l, wl)) = false := h1
  conv => whnf
  refine cond_intro (fun h2 => ?_) (fun h2 => ?_)
  · have h2 : 3000 < (q.length : Int) := @of_decide_eq_true _ _ h2
    conv => whnf
    rfl
  have h2 : ¬ (3000 < (q.length : Int)) := @of_decide_eq_false _ _ h2
  have hq : q.length ≤ 140737488351232 := by omega
  conv => whnf
  refine ⟨hq, ?_⟩
  conv => whnf
  refine ⟨hq, ?_⟩
  conv => whnf
  refine cond_intro (fun h3 => ?_) (fun h3 => ?_)
  · have h3 : wayRefR (w, h, l, wl) q = wayR (w, h, l, wl) q := @of_decide_eq_true _ _ h3
    conv => whnf
    rfl
  have h3 : ¬ (wayRefR (w, h, l, wl) q = wayR (w, h, l, wl) q) := @of_decide_eq_false _ _ h3
  exact absurd (ways_same (w, h, l, wl) q) h3
end
end Go.Proofs.Ytbndaabjlfdfcaa.Eng
set_option linter.unusedVariables false
set_option linter.unusedSimpArgs false
namespace Go.Proofs.Ytbndaabjlfdfcaa.Eng
open Go
set_option maxRecDepth 100000
noncomputable section
theorem ends_cases {p : Int} (h : (endsR p).2.2 = 0) : ∃ a b, endsR p = (a, b, 0) ∧ (0 ≤ a ∧ a ≤ 3) ∧ (0 ≤ b ∧ b ≤ 3) ∧ a ≠ b := by
  have hp := ends_ok h
  have hc : p = 0 ∨ p = 1 ∨ p = 2 ∨ p = 3 ∨ p = 4 ∨ p = 5 := by omega
  rcases hc with rfl | rfl | rfl | rfl | rfl | rfl
  · exact ⟨0, 2, rfl, by omega, by omega, by omega⟩
  · exact ⟨1, 3, rfl, by omega, by omega, by omega⟩
  · exact ⟨0, 1, rfl, by omega, by omega, by omega⟩
  · exact ⟨1, 2, rfl, by omega, by omega, by omega⟩
  · exact ⟨2, 3, rfl, by omega, by omega, by omega⟩
  · exact ⟨3, 0, rfl, by omega, by omega, by omega⟩
theorem other_back {p s v : Int} (h : otherR p s = (v, true)) : otherR p v = (s, true) ∧ (0 ≤ s ∧ s ≤ 3) ∧ (0 ≤ v ∧ v ≤ 3) := by
  unfold otherR at h ⊢
  by_cases e : (endsR p).2.2 = 0
  · obtain ⟨a, b, h1, ha, hb, hab⟩ := ends_cases e
    rw [h1] at h ⊢
    simp only [ne_eq, not_true_eq_false, if_false] at h ⊢
    by_cases c1 : s = a
    · rw [if_pos c1] at h
      cases h
      rw [if_neg (fun q => hab q.symm), if_pos rfl, c1]
      exact ⟨rfl, ha, hb⟩
    · rw [if_neg c1] at h
      by_cases c2 : s = b
      · rw [if_pos c2] at h
        cases h
        rw [if_pos rfl, c2]
        exact ⟨rfl, hb, ha⟩
      · rw [if_neg c2] at h
        cases h
  · rw [if_pos e] at h
    cases h
theorem turnT_eq {s : Int} (h : 0 ≤ s ∧ s ≤ 3) : (s = 0 ∧ turnT s = 2) ∨ (s = 1 ∧ turnT s = 3) ∨ (s = 2 ∧ turnT s = 0) ∨ (s = 3 ∧ turnT s = 1) := by
  have hc : s = 0 ∨ s = 1 ∨ s = 2 ∨ s = 3 := by omega
  rcases hc with rfl | rfl | rfl | rfl
  · exact Or.inl ⟨rfl, rfl⟩
  · exact Or.inr (Or.inl ⟨rfl, rfl⟩)
  · exact Or.inr (Or.inr (Or.inl ⟨rfl, rfl⟩))
  · exact Or.inr (Or.inr (Or.inr ⟨rfl, rfl⟩))
theorem turn_turn {s : Int} (h : 0 ≤ s ∧ s ≤ 3) : turnT (turnT s) = s := by
  rcases turnT_eq h with ⟨rfl, e⟩ | ⟨rfl, e⟩ | ⟨rfl, e⟩ | ⟨rfl, e⟩ <;> rw [e] <;> rfl
theorem xy_of {w x y : Int} (hw : 0 < w) (hx : 0 ≤ x ∧ x < w) (hy : 0 ≤ y) : Int.tmod (y * w + x) w = x ∧ Int.tdiv (y * w + x) w = y := by
  have h0 : 0 ≤ y * w + x := by
    have := Int.mul_nonneg hy (Int.le_of_lt hw)
    omega
  rw [Int.tmod_eq_emod_of_nonneg h0, Int.tdiv_eq_ediv_of_nonneg h0, Int.add_comm, Int.add_mul_emod_self_right, Int.emod_eq_of_lt hx.1 hx.2, Int.add_mul_ediv_right _ _ (by omega), Int.ediv_eq_zero_of_lt hx.1 hx.2]
  exact ⟨rfl, by omega⟩
theorem beside_at {w h x y n s dx dy : Int} (hw : 4 ≤ w ∧ w ≤ 32) (hh : 4 ≤ h ∧ h ≤ 32) (hx : 0 ≤ x ∧ x < w) (hy : 0 ≤ y ∧ y < h) (hn : n = y * w + x)
    (hs : (s = 0 ∧ dx = 1 ∧ dy = 0) ∨ (s = 1 ∧ dx = 0 ∧ dy = 1) ∨ (s = 2 ∧ dx = -1 ∧ dy = 0) ∨ (s = 3 ∧ dx = 0 ∧ dy = -1)) : bx w n s = x + dx ∧ byy w n s = y + dy := by
  obtain ⟨e1, e2⟩ := xy_of (by omega) hx hy.1
  have e2' : IntKind.i64.wrap y = y := wrap_eq (by omega) (by omega)
  unfold bx byy
  rw [hn, e1, e2, e2']
  rcases hs with ⟨rfl, rfl, rfl⟩ | ⟨rfl, rfl, rfl⟩ | ⟨rfl, rfl, rfl⟩ | ⟨rfl, rfl, rfl⟩
  · refine ⟨?_, by simp⟩
    rw [if_pos (by simp)]
    exact wrap_eq (i := x + 1) (by omega) (by omega)
  · refine ⟨by simp, ?_⟩
    rw [if_pos (by simp)]
    exact wrap_eq (i := y + 1) (by omega) (by omega)
  · refine ⟨?_, by simp⟩
    rw [if_pos (by simp)]
    exact wrap_eq (i := x + -1) (by omega) (by omega)
  · refine ⟨by simp, ?_⟩
    rw [if_pos (by simp)]
    exact wrap_eq (i := y + -1) (by omega) (by omega)
theorem beside_back {w h t s n : Int} (hw : 4 ≤ w ∧ w ≤ 32) (hh : 4 ≤ h ∧ h ≤ 32) (ht : 0 ≤ t ∧ t < w * h) (hs : 0 ≤ s ∧ s ≤ 3) (hb : besideR w h t s = (n, true)) : besideR w h n (turnT s) = (t, true) := by
  have hx0 := Int.emod_nonneg t (show w ≠ 0 by omega)
  have hx1 := Int.emod_lt_of_pos t (show 0 < w by omega)
  have hy0 : 0 ≤ t / w := Int.ediv_nonneg ht.1 (by omega)
  have hy1 : t / w < h := Int.ediv_lt_of_lt_mul (by omega) (by rw [Int.mul_comm]; exact ht.2)
  have htx : t = t / w * w + t % w := by have := Int.mul_ediv_add_emod t w; rw [Int.mul_comm] at this; omega
  generalize t % w = x at *
  generalize t / w = y at *
  obtain ⟨dx, dy, hd, hd'⟩ : ∃ dx dy, ((s = 0 ∧ dx = 1 ∧ dy = 0) ∨ (s = 1 ∧ dx = 0 ∧ dy = 1) ∨ (s = 2 ∧ dx = -1 ∧ dy = 0) ∨ (s = 3 ∧ dx = 0 ∧ dy = -1)) ∧
      ((turnT s = 0 ∧ -dx = 1 ∧ -dy = 0) ∨ (turnT s = 1 ∧ -dx = 0 ∧ -dy = 1) ∨ (turnT s = 2 ∧ -dx = -1 ∧ -dy = 0) ∨ (turnT s = 3 ∧ -dx = 0 ∧ -dy = (-1 : Int))) := by
    rcases turnT_eq hs with ⟨rfl, e⟩ | ⟨rfl, e⟩ | ⟨rfl, e⟩ | ⟨rfl, e⟩
    · exact ⟨1, 0, by omega, by omega⟩
    · exact ⟨0, 1, by omega, by omega⟩
    · exact ⟨-1, 0, by omega, by omega⟩
    · exact ⟨0, -1, by omega, by omega⟩
  obtain ⟨b1, b2⟩ := beside_at hw hh ⟨hx0, hx1⟩ ⟨hy0, hy1⟩ htx hd
  unfold besideR at hb
  rw [b1, b2] at hb
  have hi : inR (x + dx) (y + dy) w h = true := congrArg Prod.snd hb
  have hn : IntKind.i64.wrap (IntKind.i64.wrap ((y + dy) * w) + (x + dx)) = n := congrArg Prod.fst hb
  simp only [inR, Bool.and_eq_true, decide_eq_true_eq] at hi
  obtain ⟨c1, _, _⟩ := byW hw hh ⟨hi.1.1.1, hi.1.1.2⟩ ⟨hi.1.2, hi.2⟩
  rw [c1] at hn
  obtain ⟨b3, b4⟩ := beside_at hw hh ⟨hi.1.1.1, hi.1.1.2⟩ ⟨hi.1.2, hi.2⟩ hn.symm hd'
  obtain ⟨c2, _, _⟩ := byW hw hh ⟨hx0, hx1⟩ ⟨hy0, hy1⟩
  unfold besideR
  rw [b3, b4, show x + dx + -dx = x by omega, show y + dy + -dy = y by omega, c2, ← htx]
  simp [inR, hx0, hx1, hy0, hy1]
def turned (s : Sp) : Sp := (backR s).1
theorem back_ok {r : Rl} {s : Sp} (hv : validR r = 0) (h : thereR r s = 0) : ∃ v, otherR s.2.1 s.2.2 = (v, true) ∧ turned s = (s.1, s.2.1, v) ∧ (0 ≤ s.1 ∧ s.1 < r.1 * r.2.1) ∧ bitR (gI r.2.2.1 s.1.toNat) s.2.1 ≠ 0 := by
  obtain ⟨_, e1, _, e2, _⟩ := valid_len hv
  unfold thereR at h
  by_cases ho : (otherR s.2.1 s.2.2).2 = true
  · have hb0 : (backR s).2 = 0 := by unfold backR; rw [if_neg (by simp [ho])]
    rw [if_neg (by simp [hb0])] at h
    by_cases ht : tileR r s.1 = false
    · rw [if_pos ht] at h; cases h
    rw [if_neg ht] at h
    by_cases hb : bitR (gI r.2.2.1 s.1.toNat) s.2.1 = 0
    · rw [if_pos hb] at h; cases h
    refine ⟨(otherR s.2.1 s.2.2).1, by rw [← ho], by unfold turned backR; rw [if_neg (by simp [ho])], ?_, hb⟩
    have ht : tileR r s.1 = true := by simpa using ht
    simp only [tileR, Bool.and_eq_true, decide_eq_true_eq, e2] at ht
    exact ht
  · have hb0 : (backR s).2 = 1 := by unfold backR; rw [if_pos (by simpa using ho)]
    rw [hb0, if_pos (by omega)] at h
    cases h
theorem there_turned {r : Rl} {s : Sp} (hv : validR r = 0) (h : thereR r s = 0) : thereR r (turned s) = 0 := by
  obtain ⟨_, e1, _, e2, _⟩ := valid_len hv
  obtain ⟨v, h1, h2, h3, h4⟩ := back_ok hv h
  obtain ⟨h5, _, _⟩ := other_back h1
  rw [h2]
  unfold thereR
  have hb0 : (backR (s.1, s.2.1, v)).2 = 0 := by unfold backR; simp only; rw [h5]; rfl
  have ht : tileR r s.1 = true := by simp only [tileR, Bool.and_eq_true, decide_eq_true_eq, e2]; exact h3
  rw [if_neg (by simp [hb0])]
  simp only
  rw [if_neg (by simp [ht]), if_neg h4]
theorem mem_next {r : Rl} {s x : Sp} : x ∈ nextR r s ↔ (besideR r.1 r.2.1 s.1 s.2.2).2 = true ∧ ∃ p : Nat, p < 6 ∧ stepP r (besideR r.1 r.2.1 s.1 s.2.2).1 s.2.2 p = some x := by
  unfold nextR
  cases hb : (besideR r.1 r.2.1 s.1 s.2.2).2 with
  | false => simp
  | true =>
    rw [if_neg (by simp), List.mem_filterMap]
    constructor
    · rintro ⟨p, hp, e⟩
      exact ⟨rfl, p, List.mem_range.1 hp, e⟩
    · rintro ⟨_, p, hp, e⟩
      exact ⟨p, List.mem_range.2 hp, e⟩
theorem next_turned {r : Rl} {x y : Sp} (hv : validR r = 0) (hx : thereR r x = 0) (hy : thereR r y = 0) (h : y ∈ nextR r x) : turned x ∈ nextR r (turned y) := by
  obtain ⟨⟨hw, hh⟩, _, _, _, _⟩ := valid_len hv
  obtain ⟨f, o1, t1, ht1, bit1⟩ := back_ok hv hx
  obtain ⟨e, o2, t2, ht2, bit2⟩ := back_ok hv hy
  obtain ⟨hb, p, hp, hs⟩ := mem_next.1 h
  obtain ⟨o1', s1, s2⟩ := other_back o1
  unfold stepP at hs
  by_cases hz : bitR (gI r.2.2.1 (besideR r.1 r.2.1 x.1 x.2.2).1.toNat) p = 0
  · rw [if_pos hz] at hs; cases hs
  rw [if_neg hz] at hs
  by_cases hq : ¬ (otherR p (turnT x.2.2)).2 = true
  · rw [if_neg hq] at hs; cases hs
  have hq : (otherR p (turnT x.2.2)).2 = true := Classical.not_not.1 hq
  rw [if_pos hq] at hs
  have hs := (Option.some.inj hs).symm
  subst hs
  simp only at o2 t2 ht2 bit2
  have hpair : otherR (p : Int) (turnT x.2.2) = ((otherR p (turnT x.2.2)).1, true) := by rw [← hq]
  obtain ⟨o3, s3, s4⟩ := other_back hpair
  rw [o3] at o2
  have he : turnT x.2.2 = e := congrArg Prod.fst o2
  subst he
  have hbp : besideR r.1 r.2.1 x.1 x.2.2 = ((besideR r.1 r.2.1 x.1 x.2.2).1, true) := by rw [← hb]
  have hback := beside_back hw hh ht1 s1 hbp
  rw [t1, t2, mem_next]
  simp only
  rw [hback]
  refine ⟨rfl, x.2.1.toNat, ?_, ?_⟩
  · have := other_ok (p := x.2.1) (s := x.2.2) (by rw [o1])
    omega
  · have hxp : ((x.2.1.toNat : Nat) : Int) = x.2.1 := by
      have := other_ok (p := x.2.1) (s := x.2.2) (by rw [o1])
      omega
    unfold stepP
    rw [hxp, if_neg bit1, turn_turn s1, o1]
    rfl
end
end Go.Proofs.Ytbndaabjlfdfcaa.Eng
set_option linter.unusedVariables false
set_option linter.unusedSimpArgs false
namespace Go.Proofs.Ytbndaabjlfdfcaa.Eng
open Go
set_option maxRecDepth 100000
noncomputable section
def apartK (a b : Sp) : Prop := ¬ (b.1 = a.1 ∧ b.2.1 = a.2.1)
theorem dup_iff {q : List Sp} : (∀ j, j < q.length → dupR q j = false) ↔ q.Pairwise apartK := by
  rw [List.pairwise_iff_getElem]
  constructor
  · intro h i j hi hj hij
    have h1 := h j hj
    unfold dupR at h1
    have h2 := List.any_eq_false.1 h1 q[i] (by rw [List.mem_take_iff_getElem]; exact ⟨i, by omega, rfl⟩)
    rw [gSp_eq hj] at h2
    simp only [sameK, Bool.and_eq_true, decide_eq_true_eq] at h2
    exact h2
  · intro h j hj
    unfold dupR
    rw [List.any_eq_false]
    intro s hs
    obtain ⟨i, hi, e⟩ := List.mem_take_iff_getElem.1 hs
    have := h i j (by omega) hj (by omega)
    rw [e] at this
    rw [gSp_eq hj]
    simp only [sameK, Bool.and_eq_true, decide_eq_true_eq]
    exact this
theorem firstErr_iff {f : Sp → Int} : ∀ {l : List Sp}, firstErr f l = 0 ↔ ∀ x ∈ l, f x = 0
  | [] => by simp [firstErr]
  | y :: r => by
    rw [firstErr]
    by_cases e : f y = 0
    · rw [if_neg (by simp [e]), firstErr_iff]; simp [e]
    · rw [if_pos e]
      constructor
      · intro h; exact absurd h e
      · intro h; exact h y (by simp)
theorem way_iff {r : Rl} {q : List Sp} : wayR r q = 0 ↔ validR r = 0 ∧ (∀ s ∈ q, thereR r s = 0) ∧ (∀ i, i + 1 < q.length → gSp q (i + 1) ∈ nextR r (gSp q i)) ∧ q.Pairwise apartK := by
  rw [← dup_iff]
  unfold wayR allR
  by_cases hv : ¬ validR r = 0
  · rw [if_pos (by rw [if_pos hv]; exact hv), if_pos hv]
    exact ⟨fun h => absurd h hv, fun h => absurd h.1 hv⟩
  have hv := Classical.not_not.1 hv
  rw [if_neg (show ¬ (validR r ≠ 0) by simp [hv])]
  by_cases hf : ¬ firstErr (thereR r) q = 0
  · rw [if_pos hf]
    exact ⟨fun h => absurd h hf, fun h => absurd (firstErr_iff.2 h.2.1) hf⟩
  have hf := Classical.not_not.1 hf
  rw [if_neg (show ¬ (firstErr (thereR r) q ≠ 0) by simp [hf])]
  have hgap : (List.range q.length).any (gapR r q) = false ↔ ∀ i, i + 1 < q.length → gSp q (i + 1) ∈ nextR r (gSp q i) := by
    rw [any_range]
    constructor
    · intro h i hi
      have := h (i + 1) hi
      unfold gapR at this
      rw [has_any] at this
      simp only [show decide (0 < i + 1) = true by simp, Bool.true_and, Bool.not_eq_false', show i + 1 - 1 = i by omega] at this
      obtain ⟨x, hx, e⟩ := List.any_eq_true.1 this
      have e : x = gSp q (i + 1) := by simpa using e
      rw [← e]
      exact hx
    · intro h j hj
      unfold gapR
      rw [has_any]
      cases j with
      | zero => rfl
      | succ i =>
        have := h i hj
        have : (nextR r (gSp q i)).any (fun x => decide (x = gSp q (i + 1))) = true := List.any_eq_true.2 ⟨_, this, by simp⟩
        simp only [show i + 1 - 1 = i by omega, this]
        simp
  cases hg : (List.range q.length).any (gapR r q) with
  | true =>
    rw [if_pos rfl]
    constructor
    · intro h; cases h
    · rintro ⟨_, _, h, _⟩
      rw [hgap.2 h] at hg
      cases hg
  | false =>
    rw [if_neg (by simp)]
    cases hd : (List.range q.length).any (dupR q) with
    | true =>
      rw [if_pos rfl]
      constructor
      · intro h; cases h
      · rintro ⟨_, _, _, h⟩
        rw [any_range.2 h] at hd
        cases hd
    | false =>
      rw [if_neg (by simp)]
      exact ⟨fun _ => ⟨hv, firstErr_iff.1 hf, hgap.1 hg, any_range.1 hd⟩, fun _ => rfl⟩
def backL (q : List Sp) : List Sp := q.reverse.map turned
theorem way_back {r : Rl} {q : List Sp} (h : wayR r q = 0) : wayR r (backL q) = 0 := by
  obtain ⟨hv, h1, h2, h3⟩ := way_iff.1 h
  rw [way_iff]
  have hl : (backL q).length = q.length := by simp [backL]
  have hg : ∀ i, i < q.length → gSp (backL q) i = turned (gSp q (q.length - 1 - i)) := by
    intro i hi
    rw [gSp_eq (by omega), gSp_eq (by omega)]
    simp [backL]
  refine ⟨hv, fun s hs => ?_, fun i hi => ?_, ?_⟩
  · obtain ⟨x, hx, rfl⟩ := List.mem_map.1 hs
    exact there_turned hv (h1 x (List.mem_reverse.1 hx))
  · rw [hl] at hi
    rw [hg i (by omega), hg (i + 1) hi]
    have := h2 (q.length - 1 - (i + 1)) (by omega)
    rw [show q.length - 1 - (i + 1) + 1 = q.length - 1 - i by omega] at this
    exact next_turned hv (h1 _ (by rw [gSp_eq (by omega)]; exact List.getElem_mem _)) (h1 _ (by rw [gSp_eq (by omega)]; exact List.getElem_mem _)) this
  · unfold backL
    rw [List.pairwise_map, List.pairwise_reverse]
    refine List.Pairwise.imp_of_mem ?_ h3
    intro a b ha hb hab
    obtain ⟨_, _, t1, _⟩ := back_ok hv (h1 a ha)
    obtain ⟨_, _, t2, _⟩ := back_ok hv (h1 b hb)
    rw [t1, t2]
    unfold apartK at hab ⊢
    simp only
    intro c
    exact hab ⟨c.1.symm, c.2.symm⟩
end
end Go.Proofs.Ytbndaabjlfdfcaa.Eng
set_option linter.unusedVariables false
set_option linter.unusedSimpArgs false
namespace Go.Proofs.Ytbndaabjlfdfcaa.Eng
open Go
set_option maxRecDepth 100000
noncomputable section
def S13 (w h : Int) (l : List Int) (wl : List Bool) (q out : List Sp) (i : Int) : SL := ⟨[.undef, .sl spT q, .ptr 0 0 0, .undef, .undef, .own 1, .int .i64 i] ++ List.replicate 44 .undef, [(0, .box [.int .i64 w, .int .i64 h, .sl I l, .sl .bool wl]), (1, .arr spT out)], 2⟩
theorem back_snoc {q : List Sp} {i : Nat} (hi : i < q.length) : backL (q.drop i) = backL (q.drop (i + 1)) ++ [turned (gSp q i)] := by
  unfold backL
  rw [List.drop_eq_getElem_cons hi, List.reverse_cons, List.map_append, gSp_eq hi]
  rfl
def E13 : Env := ⟨tab, [(16, K16), (37, K37), (17, K17), (23, K23)], fun n => match n with | 5 => some ([1, 2, 5, 6], [(5, spT)], []) | _ => none⟩
def K13 : Fn1 := ⟨.fld rlT (.one (.sl spT)), .one .bool, fun _ => [], fun _ => true⟩
theorem k13 : FnOk Go.Proofs.Try.prog 13 K13 := by
  refine fn_ok (E := E13) (TOk.of tab_told) (AllOk.cons k16 (.cons k37 (.cons k17 (.cons k23 .nil)))).at_ mix Go.Proofs.Try.func13 rfl rfl (by kernel_rfl) K13 ?_
  rintro ⟨⟨(w : Int), (h : Int), (l : List Int), (wl : List Bool)⟩, (q : List Sp)⟩ hp
  clear hp
  conv => whnf
  refine cond_intro (fun h1 => ?_) (fun h1 => ?_)
  · have h1 : (farR (w, h, l, wl)) = true := h1
    conv => whnf
    rfl
  have h1 : (farR (w, h, l, wl)) = false := h1
  conv => whnf
  refine cond_intro (fun h2 => ?_) (fun h2 => ?_)
  · have h2 : 3000 < (q.length : Int) := @of_decide_eq_true _ _ h2
    conv => whnf
    rfl
  have h2 : ¬ (3000 < (q.length : Int)) := @of_decide_eq_false _ _ h2
  have hq : q.length ≤ 140737488351232 := by omega
  conv => whnf
  refine ⟨hq, ?_⟩
  conv => whnf
  refine cond_intro (fun h3 => ?_) (fun h3 => ?_)
  · have h3 : (!decide (wayR (w, h, l, wl) q = 0)) = true := h3
    have h3 : ¬ (wayR (w, h, l, wl) q = 0) := by simpa using h3
    conv => whnf
    rfl
  have h3 : (!decide (wayR (w, h, l, wl) q = 0)) = false := h3
  have h3 : wayR (w, h, l, wl) q = 0 := by simpa using h3
  obtain ⟨hv, hth, _, _⟩ := way_iff.1 h3
  have hwl : IntKind.i64.wrap ((q.length : Int) - 1) = (q.length : Int) - 1 := wrap_eq (by omega) (by omega)
  conv => whnf
  refine loop_rule (fun i => S13 w h l wl q (backL (q.drop (i + 1).toNat)) i) (fun i => (i + 1).toNat) (fun i => -1 ≤ i ∧ i < q.length) ?_ ((q.length : Int) - 1) (by kernel_rfl) ?_ ⟨by omega, by omega⟩
  case refine_2 => exact Eq.trans (b := S13 w h l wl q [] (IntKind.i64.wrap ((q.length : Int) - 1))) rfl (by rw [hwl, show ((q.length : Int) - 1 + 1).toNat = q.length by omega, List.drop_length]; rfl)
  rintro i ⟨h0, h4⟩
  have hbl : (backL (q.drop (i + 1).toNat)).length ≤ 3000 := by simp only [backL, List.length_map, List.length_reverse, List.length_drop]; omega
  conv => whnf
  refine cond_intro (fun hge => ?_) (fun hge => ?_)
  · have hge : 0 ≤ i := @of_decide_eq_true _ _ hge
    have hwi : IntKind.i64.wrap (i - 1) = i - 1 := wrap_eq (by omega) (by omega)
    have en : (i + 1).toNat = i.toNat + 1 := by omega
    have em : (i - 1 + 1).toNat = i.toNat := by omega
    have e : gSp q i.toNat = q[i.toNat]'(by omega) := gSp_eq _
    have ht := hth (gSp q i.toNat) (by rw [e]; exact List.getElem_mem _)
    obtain ⟨v, o1, t1, _, _⟩ := back_ok hv ht
    have hb : (backR (gSp q i.toNat)).2 = 0 := by unfold backR; rw [o1]; rfl
    conv => whnf
    refine ⟨hge, ?_⟩
    conv => whnf
    refine ⟨h4, ?_⟩
    conv => whnf
    refine cond_intro (fun h5 => ?_) (fun h5 => ?_)
    · have h5 : (!decide ((backR (gSp q i.toNat)).2 = 0)) = true := h5
      have h5 : ¬ ((backR (gSp q i.toNat)).2 = 0) := by simpa using h5
      exact absurd hb h5
    have h5 : (!decide ((backR (gSp q i.toNat)).2 = 0)) = false := h5
    have h5 : (backR (gSp q i.toNat)).2 = 0 := by simpa using h5
    conv => whnf
    refine ⟨show ((backL (q.drop (i + 1).toNat)).length + 1) * 24 ≤ 70368744177664 by omega, ?_⟩
    conv => whnf
    refine ⟨show (backL (q.drop (i + 1).toNat)).length + 1 ≤ 70368744177664 by omega, ?_⟩
    conv => whnf
    refine ⟨i - 1, ?_, ⟨by omega, by omega⟩, by omega⟩
    exact Eq.trans (b := S13 w h l wl q ((backL (q.drop (i + 1).toNat)) ++ [turned (gSp q i.toNat)]) (IntKind.i64.wrap (i - 1))) rfl (by rw [hwi, em, en, ← back_snoc (by omega)])
  have hge : ¬ (0 ≤ i) := @of_decide_eq_false _ _ hge
  have ei : (i + 1).toNat = 0 := by omega
  rw [ei, List.drop_zero] at hbl ⊢
  conv => whnf
  refine ⟨show (backL q).length ≤ 140737488351232 by omega, ?_⟩
  conv => whnf
  refine cond_intro (fun h6 => ?_) (fun h6 => ?_)
  · have h6 : wayR (w, h, l, wl) (backL q) = 0 := @of_decide_eq_true _ _ h6
    conv => whnf
    rfl
  have h6 : ¬ (wayR (w, h, l, wl) (backL q) = 0) := @of_decide_eq_false _ _ h6
  exact absurd (way_back h3) h6
end
end Go.Proofs.Ytbndaabjlfdfcaa.Eng
/- The law RailWaysBack: it answers true for every input, and its arguments read afterwards as they did. The row, out of the contract of the law's function (written by row.py, a program of these sessions). -/
namespace Go.Proofs.Ytbndaabjlfdfcaa.railWaysBack
open Go.ChangeShapes Go.WideShapes Go.ChangeAt Go.RowKit Go.Proofs.Ytbndaabjlfdfcaa Go.Proofs.Ytbndaabjlfdfcaa.Eng
open Go.ChangeMaps (open_string shut_string)
set_option linter.unusedVariables false
theorem own : ownKnob Try.prog.godebug = none := by kernel_rfl
theorem laidOut : laidOutB Try.prog = true := by kernel_rfl
set_option maxRecDepth 100000 in
set_option maxHeartbeats 1000000 in
theorem lifted (os : Os) (started : os.Started) (H : Type) (enc : TypeId × Value → H) :
    ReturnsInHanded {} Try.checked os 13 .any (Rows.railWaysBackSpec.pre6 enc Try.prog Try.f13 Rows.railWaysBackRow.domain false) (Rows.railWaysBackSpec.post enc Try.prog Try.f13 false true false false) := by
  refine returnsInHanded_of_change_sized (C := Try.checked) own started (by kernel_rfl) Try.func13
    (ChangeSpec.witness6 (enc := enc) (C := Try.checked) false ⟨#[], #[.agg #[.int .i64 0, .int .i64 0, .slice none 0 0, .slice none 0 0], .slice none 0 0], []⟩ 8 (by kernel_rfl) (by kernel_rfl) (by kernel_rfl) (by kernel_rfl)) ?_
  intro W base args ds gs before hval0 hW hcnd hsz0 _
  have hsz : (DataW.weightsEach Try.prog (Try.f13.params.toList ++ Rows.railWaysBackSpec.plain.varTypes Try.prog) (ds ++ gs)).all (· ≤ reachBytes) = true := hsz0
  have hval : ∀ (j : Nat) t v, Try.f13.params[j]? = some t → args[j]? = some v → Value.okWide Try.prog W .any base t v := hval0
  have hW' := hW
  obtain ⟨p, q, hA0, hV, rfl, hfz, hnd⟩ := hW
  have hA : DataW.TrodAll enc Try.prog W 0 (fun _ => true) true Try.f13.params.toList args.toList ds p := hA0
  rw [Try.params13] at hA hval hsz
  obtain ⟨v0, vs0, d0, ds0, p0, q0, hargs, rfl, rfl, h0, r0⟩ := trodAll_cons hA
  obtain ⟨v1, vs1, d1, ds1, p1, q1, rfl, rfl, rfl, h1, r1⟩ := trodAll_cons r0
  obtain ⟨rfl, rfl, rfl⟩ := trodAll_nil r1
  obtain rfl : args = #[v0, v1] := by cases args; simp_all
  obtain ⟨rfl, rfl⟩ := trodVars_none hV
  have k0 := h0
  have lt0 : ∀ x ∈ p0, x.block < W.heap.size := by obtain ⟨m, hm⟩ := k0; exact DataW.trod_lt m _ _ _ hm
  obtain ⟨x0, R0, g0⟩ := open_agg (ty := rlT) Try.underlying25 (by kernel_rfl) (hval 0 25 v0 rfl rfl) h0 hsz (j := 0) rfl rfl
  have k1 := h1
  have lt1 : ∀ x ∈ p1, x.block < W.heap.size := by obtain ⟨m, hm⟩ := k1; exact DataW.trod_lt m _ _ _ hm
  obtain ⟨x1, R1, g1⟩ := open_row (ty := spT) Try.underlying46 (by kernel_rfl) (hval 1 46 v1 rfl rfl) h1 hsz (j := 1) rfl rfl
  clear hA0 hval0 hsz0 hsz
  have hrv : RVs (St0 W) W (fun _ => none) (allRes K13.ins (x0, x1)) [_, _] := ⟨_, _, rfl, R0, ⟨_, _, rfl, R1, rfl⟩⟩
  refine (law_calls k13 hrv (fun p hp => by cases hp) rfl).mono fun e W' ⟨he, bel⟩ => ?_
  subst he
  exact ⟨_, rfl, _, _, _, [], _, [], hW', trodAll_mk1 (shut_bool Try.underlying4 _), (trodAll_cons_mk (Below.trod laidOut (by kernel_rfl) (of_decide_eq_true (by kernel_rfl)) k0 bel lt0) (trodAll_cons_mk (Below.trod laidOut (by kernel_rfl) (of_decide_eq_true (by kernel_rfl)) k1 bel lt1) trodAll_mk0)), rfl, bel.frame _, fun h => by cases h⟩
theorem over : Rows.railWaysBackRow.holds Try.pinned (OpenSpec.ofChange Rows.railWaysBackSpec) :=
  OpenClaim.holds_of_wide 13 Try.f13 rfl rfl rfl rfl rfl rfl rfl ⟨rfl, rfl, rfl, rfl, rfl⟩ rfl rfl rfl rfl rfl (by kernel_rfl) Try.func13 (by kernel_rfl)
    (of_decide_eq_true (by kernel_rfl)) (by unfold Func.isWrapper; first | (rw [if_pos (by decide +kernel)]; kernel_rfl) | (rw [if_neg (by decide +kernel)]; exact ⟨rfl, rfl⟩))
    (fun os started H enc _ => lifted os started H enc)
theorem proved : Rows.RailWaysBackSaid := over
#print axioms proved
end Go.Proofs.Ytbndaabjlfdfcaa.railWaysBack
namespace Go.Proofs.Ytbndaabjlfdfcaa
/-- The row, under a short name, for the claim. -/
theorem railWaysBack_holds : Rows.RailWaysBackSaid := railWaysBack.proved
end Go.Proofs.Ytbndaabjlfdfcaa
