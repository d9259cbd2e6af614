/- RailValidates: which rails are right: for all rails. -/
import Derived.Test.YtbndaabjlfdfcaaPRailxWalkRailValidates
import Derived.Test.YtbndaabjlfdfcaaRailB
namespace Go.Proofs.Ytbndaabjlfdfcaa.Pure
open Go.RowKit Go.Proofs.Ytbndaabjlfdfcaa.PRail Go.Proofs.YtbndaabjlfdfcaaW.Opening Go.Proofs.YtbndaabjlfdfcaaW.PrintWords Go.Proofs.YtbndaabjlfdfcaaW.PrintLast Go.Proofs.YtbndaabjlfdfcaaW.Evt
theorem RailValidates : hinterlandlaw03_RailValidates.Pure := by
  intro W H S D _ _ _ _
  apply Evt.some_
  unfold hinterlandlaw03_RailValidates.f
  rw [far_ev]
  refine Evt.ite (fun _ => Evt.bind known_ev (Evt.pos rfl (Evt.const _))) (fun _ => ?_)
  exact Evt.bind (ref_Validate_ev W H S D) (Evt.bind (rail_Validate_ev W H S D) (Evt.pos rfl (Evt.bind known_ev (Evt.const _))))
end Go.Proofs.Ytbndaabjlfdfcaa.Pure
