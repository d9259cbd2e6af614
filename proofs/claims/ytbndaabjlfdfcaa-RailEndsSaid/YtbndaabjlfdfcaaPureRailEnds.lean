/- RailEnds: the ends of pieces, and that a spot turned round twice is the spot: for every piece and every spot. -/
import Derived.Test.YtbndaabjlfdfcaaPRailxWalkRailEnds
import Derived.Test.YtbndaabjlfdfcaaRailA
namespace Go.Proofs.Ytbndaabjlfdfcaa.Pure
open Go.RowKit Go.Proofs.Ytbndaabjlfdfcaa.PRail Go.Proofs.YtbndaabjlfdfcaaW.Opening Go.Proofs.YtbndaabjlfdfcaaW.PrintWords Go.Proofs.YtbndaabjlfdfcaaW.PrintLast Go.Proofs.YtbndaabjlfdfcaaW.Evt
theorem RailEnds : hinterlandlaw03_RailEnds.Pure := by
  intro a0 t p s _ _ _ _
  apply Evt.some_
  unfold hinterlandlaw03_RailEnds.f
  refine Evt.bind (ref_Ends_ev a0) (Evt.bind (ref_Back_ev t p s) (Evt.bind (rail_Ends_ev a0) (Evt.bind (rail_Back_ev t p s) ?_)))
  refine Evt.pos rfl (Evt.pos rfl (Evt.pos rfl (Evt.neg (by simp) ?_)))
  refine Evt.succ (h := _) (fun k => by rw [hinterlandlaw03_RailEnds.j0]) ?_
  refine Evt.neg (by simp) ?_
  by_cases h : 0 ≤ oth p s
  · have hb : backOf t p s = (t, p, oth p s, 0) := if_pos h
    have h2 := oth_oth h
    have hb2 : backOf t p (oth p s) = (t, p, s, 0) := by
      unfold backOf
      rw [h2.1, if_pos h2.2.1]
    rw [hb]
    refine Evt.bind (rail_Back_ev t p (oth p s)) ?_
    rw [hb2]
    refine Evt.pos rfl (Evt.pos (by simp) (Evt.pos rfl (Evt.bind known_ev (Evt.const _))))
  · have hb : backOf t p s = (0, 0, 0, 1) := if_neg h
    rw [hb]
    exact Evt.bind (rail_Back_ev _ _ _) (Evt.neg (by decide) (Evt.bind known_ev (Evt.const _)))
end Go.Proofs.Ytbndaabjlfdfcaa.Pure
