/- The law RailValidates: its pure statement, and that out of it the Go code answers true (written by a program of this session's: mylaw.py). -/
import Derived.Test.YtbndaabjlfdfcaaPRailxOpens
import Derived.Test.YtbndaabjlfdfcaaPRailxF3
namespace Go.Proofs.Ytbndaabjlfdfcaa.PRail
open Go.RowKit Go.Proofs.YtbndaabjlfdfcaaW.Opening Go.Proofs.YtbndaabjlfdfcaaW.PrintWords Go.Proofs.YtbndaabjlfdfcaaW.PrintLast

/-- THE PURE STATEMENT of hinterlandlaw03_RailValidates. -/
def hinterlandlaw03_RailValidates.Pure : Prop := ∀ (a0_0 : Int) (a0_1 : Int) (l0_2 : List Int) (l0_3 : List Bool), GInt .i64 a0_0 → GInt .i64 a0_1 → GSlice 8 (GInt .i64) l0_2 → GSlice 1 GBool l0_3 → ∃ k, hinterlandlaw03_RailValidates.f k a0_0 a0_1 l0_2 l0_3 = some true
theorem hinterlandlaw03_RailValidates.walk (P : hinterlandlaw03_RailValidates.Pure) (a0_0 : Int) (a0_1 : Int) (A0_2 : Option Addr) (c0_2 : Nat) (l0_2 : List Int) (A0_3 : Option Addr) (c0_3 : Nat) (l0_3 : List Bool) (w : World) (hr0_2 : Kd.C (Kd.int .i64) w A0_2 l0_2.length l0_2) (hc0_2 : l0_2.length ≤ c0_2) (hr0_3 : Kd.C Kd.bool w A0_3 l0_3.length l0_3) (hc0_3 : l0_3.length ≤ c0_3) (g0_0 : GInt .i64 a0_0) (g0_1 : GInt .i64 a0_1) (g0_2 : GSlice 8 (GInt .i64) l0_2) (g0_3 : GSlice 1 GBool l0_3) :
    Calls Try.prog 3 #[.agg #[.int .i64 a0_0, .int .i64 a0_1, .slice A0_2 l0_2.length c0_2, .slice A0_3 l0_3.length c0_3]] w fun e w' => e = .returned (.bool true) ∧ Below w.heap.size w w' := by
  obtain ⟨k, h⟩ := P a0_0 a0_1 l0_2 l0_3 g0_0 g0_1 g0_2 g0_3
  refine (hinterlandlaw03_RailValidates.calls k a0_0 a0_1 A0_2 c0_2 l0_2 A0_3 c0_3 l0_3 true w hr0_2 hc0_2 hr0_3 hc0_3 h).mono ?_
  rintro e w' ⟨rfl, hd⟩
  exact ⟨rfl, hd⟩
end Go.Proofs.Ytbndaabjlfdfcaa.PRail
