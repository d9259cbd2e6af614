/- What the small functions of rails tell: a piece's ends, a spot turned round, what is known. -/
import Derived.Test.YtbndaabjlfdfcaaPRailxF20
import Derived.Test.YtbndaabjlfdfcaaPRailxF21
import Derived.Test.YtbndaabjlfdfcaaPRailxF23
import Derived.Test.YtbndaabjlfdfcaaPRailxF17
import Derived.Test.YtbndaabjlfdfcaaEvt
namespace Go.Proofs.Ytbndaabjlfdfcaa.PRail
open Go.RowKit Go.Proofs.YtbndaabjlfdfcaaW.PrintWords Go.Proofs.YtbndaabjlfdfcaaW.PrintLast Go.Proofs.YtbndaabjlfdfcaaW.Evt
def ends (p : Int) : Int × Int × Int := if p = 0 then (0, 2, 0) else if p = 1 then (1, 3, 0) else if p = 2 then (0, 1, 0) else if p = 3 then (1, 2, 0) else if p = 4 then (2, 3, 0) else if p = 5 then (3, 0, 0) else (0, 0, 1)
theorem rail_Ends_ev (p : Int) : Evt (fun k => rail_Ends.f k p) (ends p) := by
  refine Evt.succ (h := fun _ => some (ends p)) (fun k => ?_) (Evt.const _)
  by_cases h0 : p = 0
  · subst h0; simp only [rail_Ends.f, rail_Ends.j0]; decide +kernel
  by_cases h1 : p = 1
  · subst h1; simp only [rail_Ends.f, rail_Ends.j0]; decide +kernel
  by_cases h2 : p = 2
  · subst h2; simp only [rail_Ends.f, rail_Ends.j0]; decide +kernel
  by_cases h3 : p = 3
  · subst h3; simp only [rail_Ends.f, rail_Ends.j0]; decide +kernel
  by_cases h4 : p = 4
  · subst h4; simp only [rail_Ends.f, rail_Ends.j0]; decide +kernel
  by_cases h5 : p = 5
  · subst h5; simp only [rail_Ends.f, rail_Ends.j0]; decide +kernel
  simp [rail_Ends.f, rail_Ends.j0, ends, *]
theorem known_ev : Evt (fun k => hinterlandlaw03_known.f k) true := by
  refine Evt.bind (h := fun _ bt101 => (if bt101.1 = 0 then (if bt101.2.1 = 2 then (some (bt101.2.2 == 0)) else (some false)) else (some false))) (rail_Ends_ev 0) ?_
  exact Evt.of fun _ => by decide
def fst' (p : Int) : Int := if p = 0 then 0 else if p = 1 then 1 else if p = 2 then 0 else if p = 3 then 1 else if p = 4 then 2 else if p = 5 then 3 else -1
def snd' (p : Int) : Int := if p = 0 then 2 else if p = 1 then 3 else if p = 2 then 1 else if p = 3 then 2 else if p = 4 then 3 else if p = 5 then 0 else -1
theorem first_ev (p : Int) : Evt (fun k => hinterlandref03_first.f k p) (fst' p) := by
  refine Evt.succ (h := fun k => hinterlandref03_first.f (k + 1) p) (fun k => rfl) (Evt.succ (h := fun _ => some (fst' p)) (fun k => ?_) (Evt.const _))
  by_cases h0 : p = 0
  · subst h0; rfl
  by_cases h1 : p = 1
  · subst h1; rfl
  by_cases h2 : p = 2
  · subst h2; rfl
  by_cases h3 : p = 3
  · subst h3; rfl
  by_cases h4 : p = 4
  · subst h4; rfl
  by_cases h5 : p = 5
  · subst h5; rfl
  simp [hinterlandref03_first.f, hinterlandref03_first.j0, hinterlandref03_first.j1, fst', *]
theorem second_ev (p : Int) : Evt (fun k => hinterlandref03_second.f k p) (snd' p) := by
  refine Evt.succ (h := fun k => hinterlandref03_second.f (k + 1) p) (fun k => rfl) (Evt.succ (h := fun _ => some (snd' p)) (fun k => ?_) (Evt.const _))
  by_cases h0 : p = 0
  · subst h0; rfl
  by_cases h1 : p = 1
  · subst h1; rfl
  by_cases h2 : p = 2
  · subst h2; rfl
  by_cases h3 : p = 3
  · subst h3; rfl
  by_cases h4 : p = 4
  · subst h4; rfl
  by_cases h5 : p = 5
  · subst h5; rfl
  simp [hinterlandref03_second.f, hinterlandref03_second.j0, hinterlandref03_second.j1, snd', *]
theorem piece_cases (p : Int) : (p = 0 ∨ p = 1 ∨ p = 2 ∨ p = 3 ∨ p = 4 ∨ p = 5) ∨ (ends p = (0, 0, 1) ∧ fst' p = -1 ∧ snd' p = -1 ∧ ¬ (0 ≤ p ∧ p < 6)) := by
  by_cases h : 0 ≤ p ∧ p < 6
  · left; omega
  · right
    refine ⟨?_, ?_, ?_, h⟩ <;> simp only [ends, fst', snd'] <;> (repeat rw [if_neg (by omega)])
theorem ref_Ends_ev (p : Int) : Evt (fun k => hinterlandref03_Ends.f k p) (ends p) := by
  refine Evt.bind (h := fun k t => (if t < 0 then (some (0, 0, 1)) else ((hinterlandref03_first.f k p).bind fun t105 => ((hinterlandref03_second.f k p).bind fun t106 => (some (t105, t106, 0)))))) (first_ev p) ?_
  refine Evt.ite (fun h => ?_) (fun h => Evt.bind (h := fun k t105 => ((hinterlandref03_second.f k p).bind fun t106 => (some (t105, t106, 0)))) (first_ev p) (Evt.bind (h := fun _ t106 => some (fst' p, t106, 0)) (second_ev p) (Evt.of fun _ => ?_)))
  · rcases piece_cases p with (rfl | rfl | rfl | rfl | rfl | rfl) | ⟨h1, h2, h3, _⟩
    all_goals first | (exact absurd h (by decide)) | skip
    rw [h1]; exact Evt.const _
  · rcases piece_cases p with (rfl | rfl | rfl | rfl | rfl | rfl) | ⟨h1, h2, h3, _⟩
    all_goals first | rfl | skip
    exact absurd h (by rw [h2]; decide)
/-- The other end of a piece: -1 if the side is none of its ends. -/
def oth (p s : Int) : Int := if s < 0 then -1 else if fst' p = s then snd' p else if snd' p = s then fst' p else -1
theorem ref_Other_ev (p s : Int) : Evt (fun k => hinterlandref03_Other.f k p s) (oth p s) := by
  unfold oth
  refine Evt.ite (fun h => ?_) (fun h => ?_)
  · rw [if_pos h]; exact Evt.const _
  rw [if_neg h]
  refine Evt.bind (h := fun k t107 => (if t107 = s then ((hinterlandref03_second.f k p).bind fun t108 => (some t108)) else ((hinterlandref03_second.f k p).bind fun t109 => (if t109 = s then ((hinterlandref03_first.f k p).bind fun t110 => (some t110)) else (some (-1)))))) (first_ev p) ?_
  refine Evt.ite (fun h => ?_) (fun h => ?_)
  · rw [if_pos h]; exact Evt.bind (h := fun _ t => some t) (second_ev p) (Evt.const _)
  rw [if_neg h]
  refine Evt.bind (h := fun k t109 => (if t109 = s then ((hinterlandref03_first.f k p).bind fun t110 => (some t110)) else (some (-1)))) (second_ev p) ?_
  refine Evt.ite (fun h => ?_) (fun h => ?_)
  · rw [if_pos h]; exact Evt.bind (h := fun _ t => some t) (first_ev p) (Evt.const _)
  rw [if_neg h]; exact Evt.const _
def othB (p s : Int) : Int × Bool := if 0 ≤ oth p s then (oth p s, true) else (0, false)
theorem oth_none {p s : Int} (h : ¬ (0 ≤ p ∧ p < 6)) : oth p s = -1 := by
  rcases piece_cases p with (rfl | rfl | rfl | rfl | rfl | rfl) | ⟨_, h2, h3, _⟩
  all_goals first | (exact absurd (by decide) h) | skip
  unfold oth; rw [h2, h3]
  split
  · rfl
  · rw [if_neg (by omega), if_neg (by omega)]
theorem rail_other_ev (p s : Int) : Evt (fun k => rail_other.f k p s) (othB p s) := by
  refine Evt.bind (h := fun _ bt => (if bt.2.2 = 0 then (if s = bt.1 then (some (bt.2.1, true)) else (if s = bt.2.1 then (some (bt.1, true)) else (some (0, false)))) else (some (0, false)))) (rail_Ends_ev p) (Evt.of fun _ => ?_)
  unfold othB
  rcases piece_cases p with (rfl | rfl | rfl | rfl | rfl | rfl) | ⟨h1, h2, h3, h4⟩
  case inr => rw [oth_none h4, h1]; rfl
  all_goals
    by_cases hs : s < 0
    · have e0 : ¬ s = 0 := by omega
      have e1 : ¬ s = 1 := by omega
      have e2 : ¬ s = 2 := by omega
      have e3 : ¬ s = 3 := by omega
      simp [ends, oth, hs, e0, e1, e2, e3]
    by_cases e0 : s = 0
    · subst e0; decide
    by_cases e1 : s = 1
    · subst e1; decide
    by_cases e2 : s = 2
    · subst e2; decide
    by_cases e3 : s = 3
    · subst e3; decide
    · simp [ends, oth, fst', snd', hs, e0, e1, e2, e3, Ne.symm e0, Ne.symm e1, Ne.symm e2, Ne.symm e3]
/-- A spot turned round. -/
def backOf (t p s : Int) : Int × Int × Int × Int := if 0 ≤ oth p s then (t, p, oth p s, 0) else (0, 0, 0, 1)
theorem ref_Back_ev (t p s : Int) : Evt (fun k => hinterlandref03_Back.f k t p s) (backOf t p s) := by
  refine Evt.bind (h := fun _ o => (if o < 0 then (some (0, 0, 0, 1)) else (some (t, p, o, 0)))) (ref_Other_ev p s) (Evt.of fun _ => ?_)
  unfold backOf
  by_cases h : 0 ≤ oth p s
  · rw [if_neg (by omega), if_pos h]
  · rw [if_pos (by omega), if_neg h]
theorem rail_Back_ev (t p s : Int) : Evt (fun k => rail_Back.f k t p s) (backOf t p s) := by
  unfold rail_Back.f
  refine Evt.bind (rail_other_ev p s) (Evt.of fun _ => ?_)
  unfold backOf othB
  by_cases h : 0 ≤ oth p s
  · rw [if_pos h, if_pos h]; rfl
  · rw [if_neg h, if_neg h]; rfl
theorem oth_oth {p s : Int} (h : 0 ≤ oth p s) : oth p (oth p s) = s ∧ 0 ≤ s ∧ s < 4 ∧ oth p s < 4 ∧ 0 ≤ p ∧ p < 6 := by
  rcases piece_cases p with hp | ⟨_, _, _, h4⟩
  case inr => rw [oth_none h4] at h; omega
  by_cases hs : s < 0
  · exfalso; simp [oth, hs] at h
  by_cases h3 : 3 < s
  · exfalso
    rcases hp with rfl | rfl | rfl | rfl | rfl | rfl <;> simp [oth, fst', snd'] at h <;> (repeat split at h) <;> omega
  have : s = 0 ∨ s = 1 ∨ s = 2 ∨ s = 3 := by omega
  rcases hp with rfl | rfl | rfl | rfl | rfl | rfl <;> rcases this with rfl | rfl | rfl | rfl <;> first | decide | exact absurd h (by decide)
end Go.Proofs.Ytbndaabjlfdfcaa.PRail
