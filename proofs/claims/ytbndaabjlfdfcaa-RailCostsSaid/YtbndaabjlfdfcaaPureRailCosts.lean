/- RailCosts: what a set of pieces costs on a slope: for every slope and set. -/
import Derived.Test.YtbndaabjlfdfcaaPRailxWalkRailCosts
import Derived.Test.YtbndaabjlfdfcaaRailA
namespace Go.Proofs.Ytbndaabjlfdfcaa.Pure
open Go.RowKit Go.Proofs.Ytbndaabjlfdfcaa.PRail Go.Proofs.YtbndaabjlfdfcaaW.Opening Go.Proofs.YtbndaabjlfdfcaaW.PrintWords Go.Proofs.YtbndaabjlfdfcaaW.PrintLast Go.Proofs.YtbndaabjlfdfcaaW.Evt
theorem small : ∀ (s : Fin 32) (t : Fin 64), hinterlandref03_Cost.f 20 ((s.val : Nat) : Int) ((t.val : Nat) : Int) = rail_Cost.f 20 ((s.val : Nat) : Int) ((t.val : Nat) : Int) ∧ (rail_Cost.f 20 ((s.val : Nat) : Int) ((t.val : Nat) : Int)).isSome = true := by decide +kernel
theorem RailCosts : hinterlandlaw03_RailCosts.Pure := by
  intro s t _ _
  by_cases h : (0 ≤ s ∧ s < 32) ∧ (0 ≤ t ∧ t < 64)
  · obtain ⟨⟨h1, h2⟩, h3, h4⟩ := h
    obtain ⟨s, rfl⟩ := Int.eq_ofNat_of_zero_le h1
    obtain ⟨t, rfl⟩ := Int.eq_ofNat_of_zero_le h3
    have h5 := small ⟨s, by omega⟩ ⟨t, by omega⟩
    obtain ⟨n, hn⟩ := known_ev
    obtain ⟨h6, h7⟩ := h5
    obtain ⟨r, hr⟩ := Option.isSome_iff_exists.1 h7
    simp only at hr h6
    have mono : ∀ m, rail_Cost.f (20 + m) (s : Int) (t : Int) = some r := by
      intro m
      induction m with
      | zero => exact hr
      | succ m ih => exact rail_Cost.mono _ _ _ _ ih
    have mono' : ∀ m, hinterlandref03_Cost.f (20 + m) (s : Int) (t : Int) = some r := by
      intro m
      induction m with
      | zero => exact h6.trans hr
      | succ m ih => exact hinterlandref03_Cost.mono _ _ _ _ ih
    refine ⟨20 + n, ?_⟩
    unfold hinterlandlaw03_RailCosts.f
    rw [mono n, mono' n]
    simp only [Option.bind_some, if_true]
    have h8 : hinterlandlaw03_known.f (20 + n) = some true := hn (20 + n) (by omega)
    rw [h8]
    rfl
  · have e1 : Evt (fun k => hinterlandref03_Cost.f k s t) (0, 1) := by
      refine Evt.succ (h := fun _ => some (0, 1)) (fun k => ?_) (Evt.const _)
      simp only [hinterlandref03_Cost.f, hinterlandref03_Cost.j0]
      split
      · rfl
      split
      · rfl
      split
      · rfl
      · rw [if_pos (by simp; omega)]
    have e2 : Evt (fun k => rail_Cost.f k s t) (0, 1) := by
      refine Evt.succ (h := fun _ => some (0, 1)) (fun k => ?_) (Evt.const _)
      simp only [rail_Cost.f, rail_Cost.j0]
      split
      · rfl
      split
      · rfl
      split
      · rfl
      · rw [if_pos (by simp; omega)]
    apply Evt.some_
    unfold hinterlandlaw03_RailCosts.f
    exact Evt.bind e1 (Evt.bind e2 (Evt.pos rfl (Evt.pos rfl (Evt.bind known_ev (Evt.const _)))))
end Go.Proofs.Ytbndaabjlfdfcaa.Pure
