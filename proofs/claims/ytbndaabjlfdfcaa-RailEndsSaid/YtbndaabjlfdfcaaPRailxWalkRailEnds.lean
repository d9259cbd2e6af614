/- The law RailEnds: its pure statement, and that out of it the Go code answers true (written by a program of this session's: mylaw.py). -/
import Derived.Test.YtbndaabjlfdfcaaPRailxOpens
import Derived.Test.YtbndaabjlfdfcaaPRailxF4
namespace Go.Proofs.Ytbndaabjlfdfcaa.PRail
open Go.RowKit Go.Proofs.YtbndaabjlfdfcaaW.Opening Go.Proofs.YtbndaabjlfdfcaaW.PrintWords Go.Proofs.YtbndaabjlfdfcaaW.PrintLast

/-- THE PURE STATEMENT of hinterlandlaw03_RailEnds. -/
def hinterlandlaw03_RailEnds.Pure : Prop := ∀ (a0 : Int) (a1_0 : Int) (a1_1 : Int) (a1_2 : Int), GInt .i64 a0 → GInt .i64 a1_0 → GInt .i64 a1_1 → GInt .i64 a1_2 → ∃ k, hinterlandlaw03_RailEnds.f k a0 a1_0 a1_1 a1_2 = some true
theorem hinterlandlaw03_RailEnds.walk (P : hinterlandlaw03_RailEnds.Pure) (a0 : Int) (a1_0 : Int) (a1_1 : Int) (a1_2 : Int) (w : World) (g0 : GInt .i64 a0) (g1_0 : GInt .i64 a1_0) (g1_1 : GInt .i64 a1_1) (g1_2 : GInt .i64 a1_2) :
    Calls Try.prog 4 #[.int .i64 a0, .agg #[.int .i64 a1_0, .int .i64 a1_1, .int .i64 a1_2]] w fun e w' => e = .returned (.bool true) ∧ Below w.heap.size w w' := by
  obtain ⟨k, h⟩ := P a0 a1_0 a1_1 a1_2 g0 g1_0 g1_1 g1_2
  refine (hinterlandlaw03_RailEnds.calls k a0 a1_0 a1_1 a1_2 true w h).mono ?_
  rintro e w' ⟨rfl, hd⟩
  exact ⟨rfl, hd⟩
end Go.Proofs.Ytbndaabjlfdfcaa.PRail
