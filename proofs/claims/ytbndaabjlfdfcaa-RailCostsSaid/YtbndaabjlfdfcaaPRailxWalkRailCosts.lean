/- The law RailCosts: its pure statement, and that out of it the Go code answers true (written by a program of this session's: mylaw.py). -/
import Derived.Test.YtbndaabjlfdfcaaPRailxOpens
import Derived.Test.YtbndaabjlfdfcaaPRailxF5
namespace Go.Proofs.Ytbndaabjlfdfcaa.PRail
open Go.RowKit Go.Proofs.YtbndaabjlfdfcaaW.Opening Go.Proofs.YtbndaabjlfdfcaaW.PrintWords Go.Proofs.YtbndaabjlfdfcaaW.PrintLast

/-- THE PURE STATEMENT of hinterlandlaw03_RailCosts. -/
def hinterlandlaw03_RailCosts.Pure : Prop := ∀ (a0 : Int) (a1 : Int), GInt .i64 a0 → GInt .i64 a1 → ∃ k, hinterlandlaw03_RailCosts.f k a0 a1 = some true
theorem hinterlandlaw03_RailCosts.walk (P : hinterlandlaw03_RailCosts.Pure) (a0 : Int) (a1 : Int) (w : World) (g0 : GInt .i64 a0) (g1 : GInt .i64 a1) :
    Calls Try.prog 5 #[.int .i64 a0, .int .i64 a1] w fun e w' => e = .returned (.bool true) ∧ Below w.heap.size w w' := by
  obtain ⟨k, h⟩ := P a0 a1 g0 g1
  refine (hinterlandlaw03_RailCosts.calls k a0 a1 true w h).mono ?_
  rintro e w' ⟨rfl, hd⟩
  exact ⟨rfl, hd.below⟩
end Go.Proofs.Ytbndaabjlfdfcaa.PRail
