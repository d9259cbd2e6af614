/-
  No cell of these rows narrows 'for every input' (looked for: loops, veiled, ifaces, maps, wideKeys, modest, calm, conditions, laid).
  DERIVED. THE GIVEN ROWS OF THIS SEAT. 9 by the template 'for every input the law returns true; each argument reads behind the call as it read before'; 0 by the template 'total and deterministic' (their statements: YteidanhfkaljaaaTotals.lean).
  GIVEN WITH THE SEED: the statements are not yours to turn. If you find one false, say at which input.
  Laid BY PROGRAM, IN A SANDBOX (cutbox-rows.mjs): the forced cells as the released guide's own fill.sh prints them over the translation f2aae88743b2ad6e… (all of the seat's roots in one cut). By AI agents, Wed Nov 11 2026. No macro, syntax, notation, axiom, sorry.
-/
import Derived.Test.YteidanhfkaljaaaChecked
import GoSem.Claim
import GoSem.ClaimJoined
import GoSem.ClaimMapViews
import Derived.JoinedTies
import Derived.KernelRfl
namespace Go.Proofs.Yteidanhfkaljaaa
/- THE CELL 'sum', in the pinned program and in every row, IS THE sha256 OF THE DUMP (.gsa) THAT YteidanhfkaljaaaProg.lean LOADS. Nothing in Lean hashes anything: it is a label: what it is worth is what the hold of that sum in a sandbox is worth. -/
noncomputable def Try.pinned : Pinned := { name := "yteidanhfkaljaaa", sum := "f2aae88743b2ad6e225f8e1fbf74099ea4d8fcaf1257d11a9c2e55b1a10443eb", checked := Try.checked }
namespace Rows
def none {H : Type} : Left H := { results := [], args := [] }

/-- 'hinterlandlaw12.StopSplits': WHATEVER THE INPUT: true; the input reads as it did. -/
def stopSplitsSpec : ChangeSpec := { name := "stopSplits", fn := fun _ => fun
  | [d1, d2] => { results := [.lit (.bool true)], args := [d1, d2] }
  | _ => none }
def stopSplitsRow : OpenClaim := { program := "yteidanhfkaljaaa", sum := "f2aae88743b2ad6e225f8e1fbf74099ea4d8fcaf1257d11a9c2e55b1a10443eb", func := "hinterland/hinterlandlaw12.StopSplits", spec := "stopSplits", plainKeys := false, apart := false }
def StopSplitsSaid : Prop := stopSplitsRow.holds Try.pinned (OpenSpec.ofChange stopSplitsSpec)

/-- ITS FALSE NEIGHBOUR: 'it returns false'. Refute it at one input. -/
def stopSplitsWrong : ChangeSpec := { name := "stopSplits", fn := fun _ => fun
  | [d1, d2] => { results := [.lit (.bool false)], args := [d1, d2] }
  | _ => none }
def StopSplitsWrongFalsely : Prop := stopSplitsRow.holds Try.pinned (OpenSpec.ofChange stopSplitsWrong)

/-- 'hinterlandlaw12.StopSplitsFair': WHATEVER THE INPUT: true; the input reads as it did. -/
def stopSplitsFairSpec : ChangeSpec := { name := "stopSplitsFair", fn := fun _ => fun
  | [d1, d2] => { results := [.lit (.bool true)], args := [d1, d2] }
  | _ => none }
def stopSplitsFairRow : OpenClaim := { program := "yteidanhfkaljaaa", sum := "f2aae88743b2ad6e225f8e1fbf74099ea4d8fcaf1257d11a9c2e55b1a10443eb", func := "hinterland/hinterlandlaw12.StopSplitsFair", spec := "stopSplitsFair", plainKeys := false, apart := false }
def StopSplitsFairSaid : Prop := stopSplitsFairRow.holds Try.pinned (OpenSpec.ofChange stopSplitsFairSpec)

/-- ITS FALSE NEIGHBOUR: 'it returns false'. Refute it at one input. -/
def stopSplitsFairWrong : ChangeSpec := { name := "stopSplitsFair", fn := fun _ => fun
  | [d1, d2] => { results := [.lit (.bool false)], args := [d1, d2] }
  | _ => none }
def StopSplitsFairWrongFalsely : Prop := stopSplitsFairRow.holds Try.pinned (OpenSpec.ofChange stopSplitsFairWrong)

/-- 'hinterlandlaw12.StopCovers': WHATEVER THE INPUT: true; the input reads as it did. -/
def stopCoversSpec : ChangeSpec := { name := "stopCovers", fn := fun _ => fun
  | [d1, d2, d3, d4] => { results := [.lit (.bool true)], args := [d1, d2, d3, d4] }
  | _ => none }
def stopCoversRow : OpenClaim := { program := "yteidanhfkaljaaa", sum := "f2aae88743b2ad6e225f8e1fbf74099ea4d8fcaf1257d11a9c2e55b1a10443eb", func := "hinterland/hinterlandlaw12.StopCovers", spec := "stopCovers", plainKeys := false, apart := false }
def StopCoversSaid : Prop := stopCoversRow.holds Try.pinned (OpenSpec.ofChange stopCoversSpec)

/-- ITS FALSE NEIGHBOUR: 'it returns false'. Refute it at one input. -/
def stopCoversWrong : ChangeSpec := { name := "stopCovers", fn := fun _ => fun
  | [d1, d2, d3, d4] => { results := [.lit (.bool false)], args := [d1, d2, d3, d4] }
  | _ => none }
def StopCoversWrongFalsely : Prop := stopCoversRow.holds Try.pinned (OpenSpec.ofChange stopCoversWrong)

/-- 'hinterlandlaw12.StopScoresFall': WHATEVER THE INPUT: true; the input reads as it did. -/
def stopScoresFallSpec : ChangeSpec := { name := "stopScoresFall", fn := fun _ => fun
  | [d1, d2, d3, d4] => { results := [.lit (.bool true)], args := [d1, d2, d3, d4] }
  | _ => none }
def stopScoresFallRow : OpenClaim := { program := "yteidanhfkaljaaa", sum := "f2aae88743b2ad6e225f8e1fbf74099ea4d8fcaf1257d11a9c2e55b1a10443eb", func := "hinterland/hinterlandlaw12.StopScoresFall", spec := "stopScoresFall", plainKeys := false, apart := false }
def StopScoresFallSaid : Prop := stopScoresFallRow.holds Try.pinned (OpenSpec.ofChange stopScoresFallSpec)

/-- ITS FALSE NEIGHBOUR: 'it returns false'. Refute it at one input. -/
def stopScoresFallWrong : ChangeSpec := { name := "stopScoresFall", fn := fun _ => fun
  | [d1, d2, d3, d4] => { results := [.lit (.bool false)], args := [d1, d2, d3, d4] }
  | _ => none }
def StopScoresFallWrongFalsely : Prop := stopScoresFallRow.holds Try.pinned (OpenSpec.ofChange stopScoresFallWrong)

/-- 'hinterlandlaw12.StopLeaves': WHATEVER THE INPUT: true; the input reads as it did. -/
def stopLeavesSpec : ChangeSpec := { name := "stopLeaves", fn := fun _ => fun
  | [d1, d2, d3, d4] => { results := [.lit (.bool true)], args := [d1, d2, d3, d4] }
  | _ => none }
def stopLeavesRow : OpenClaim := { program := "yteidanhfkaljaaa", sum := "f2aae88743b2ad6e225f8e1fbf74099ea4d8fcaf1257d11a9c2e55b1a10443eb", func := "hinterland/hinterlandlaw12.StopLeaves", spec := "stopLeaves", plainKeys := false, apart := false }
def StopLeavesSaid : Prop := stopLeavesRow.holds Try.pinned (OpenSpec.ofChange stopLeavesSpec)

/-- ITS FALSE NEIGHBOUR: 'it returns false'. Refute it at one input. -/
def stopLeavesWrong : ChangeSpec := { name := "stopLeaves", fn := fun _ => fun
  | [d1, d2, d3, d4] => { results := [.lit (.bool false)], args := [d1, d2, d3, d4] }
  | _ => none }
def StopLeavesWrongFalsely : Prop := stopLeavesRow.holds Try.pinned (OpenSpec.ofChange stopLeavesWrong)

/-- 'hinterlandlaw12.StopJoinsBack': WHATEVER THE INPUT: true; the input reads as it did. -/
def stopJoinsBackSpec : ChangeSpec := { name := "stopJoinsBack", fn := fun _ => fun
  | [d1, d2, d3, d4] => { results := [.lit (.bool true)], args := [d1, d2, d3, d4] }
  | _ => none }
def stopJoinsBackRow : OpenClaim := { program := "yteidanhfkaljaaa", sum := "f2aae88743b2ad6e225f8e1fbf74099ea4d8fcaf1257d11a9c2e55b1a10443eb", func := "hinterland/hinterlandlaw12.StopJoinsBack", spec := "stopJoinsBack", plainKeys := false, apart := false }
def StopJoinsBackSaid : Prop := stopJoinsBackRow.holds Try.pinned (OpenSpec.ofChange stopJoinsBackSpec)

/-- ITS FALSE NEIGHBOUR: 'it returns false'. Refute it at one input. -/
def stopJoinsBackWrong : ChangeSpec := { name := "stopJoinsBack", fn := fun _ => fun
  | [d1, d2, d3, d4] => { results := [.lit (.bool false)], args := [d1, d2, d3, d4] }
  | _ => none }
def StopJoinsBackWrongFalsely : Prop := stopJoinsBackRow.holds Try.pinned (OpenSpec.ofChange stopJoinsBackWrong)

/-- 'hinterlandlaw12.StopLoads': WHATEVER THE INPUT: true; the input reads as it did. -/
def stopLoadsSpec : ChangeSpec := { name := "stopLoads", fn := fun _ => fun
  | [d1, d2, d3, d4, d5] => { results := [.lit (.bool true)], args := [d1, d2, d3, d4, d5] }
  | _ => none }
def stopLoadsRow : OpenClaim := { program := "yteidanhfkaljaaa", sum := "f2aae88743b2ad6e225f8e1fbf74099ea4d8fcaf1257d11a9c2e55b1a10443eb", func := "hinterland/hinterlandlaw12.StopLoads", spec := "stopLoads", unfollowed := true, recurses := true, named := ["math/bits.divideError", "math/bits.overflowError"], plainKeys := false, apart := false }
def StopLoadsSaid : Prop := stopLoadsRow.holds Try.pinned (OpenSpec.ofChange stopLoadsSpec)

/-- ITS FALSE NEIGHBOUR: 'it returns false'. Refute it at one input. -/
def stopLoadsWrong : ChangeSpec := { name := "stopLoads", fn := fun _ => fun
  | [d1, d2, d3, d4, d5] => { results := [.lit (.bool false)], args := [d1, d2, d3, d4, d5] }
  | _ => none }
def StopLoadsWrongFalsely : Prop := stopLoadsRow.holds Try.pinned (OpenSpec.ofChange stopLoadsWrong)

/-- 'hinterlandlaw12.StopGivesUnits': WHATEVER THE INPUT: true; the input reads as it did. -/
def stopGivesUnitsSpec : ChangeSpec := { name := "stopGivesUnits", fn := fun _ => fun
  | [d1, d2, d3, d4, d5, d6] => { results := [.lit (.bool true)], args := [d1, d2, d3, d4, d5, d6] }
  | _ => none }
def stopGivesUnitsRow : OpenClaim := { program := "yteidanhfkaljaaa", sum := "f2aae88743b2ad6e225f8e1fbf74099ea4d8fcaf1257d11a9c2e55b1a10443eb", func := "hinterland/hinterlandlaw12.StopGivesUnits", spec := "stopGivesUnits", unfollowed := true, recurses := true, plainKeys := false, apart := false }
def StopGivesUnitsSaid : Prop := stopGivesUnitsRow.holds Try.pinned (OpenSpec.ofChange stopGivesUnitsSpec)

/-- ITS FALSE NEIGHBOUR: 'it returns false'. Refute it at one input. -/
def stopGivesUnitsWrong : ChangeSpec := { name := "stopGivesUnits", fn := fun _ => fun
  | [d1, d2, d3, d4, d5, d6] => { results := [.lit (.bool false)], args := [d1, d2, d3, d4, d5, d6] }
  | _ => none }
def StopGivesUnitsWrongFalsely : Prop := stopGivesUnitsRow.holds Try.pinned (OpenSpec.ofChange stopGivesUnitsWrong)

/-- 'hinterlandlaw12.StopDaysMany': WHATEVER THE INPUT: true; the input reads as it did. -/
def stopDaysManySpec : ChangeSpec := { name := "stopDaysMany", fn := fun _ => fun
  | [d1, d2] => { results := [.lit (.bool true)], args := [d1, d2] }
  | _ => none }
def stopDaysManyRow : OpenClaim := { program := "yteidanhfkaljaaa", sum := "f2aae88743b2ad6e225f8e1fbf74099ea4d8fcaf1257d11a9c2e55b1a10443eb", func := "hinterland/hinterlandlaw12.StopDaysMany", spec := "stopDaysMany", unfollowed := true, recurses := true, named := ["math/bits.divideError", "math/bits.overflowError"], plainKeys := false, apart := false }
def StopDaysManySaid : Prop := stopDaysManyRow.holds Try.pinned (OpenSpec.ofChange stopDaysManySpec)

/-- ITS FALSE NEIGHBOUR: 'it returns false'. Refute it at one input. -/
def stopDaysManyWrong : ChangeSpec := { name := "stopDaysMany", fn := fun _ => fun
  | [d1, d2] => { results := [.lit (.bool false)], args := [d1, d2] }
  | _ => none }
def StopDaysManyWrongFalsely : Prop := stopDaysManyRow.holds Try.pinned (OpenSpec.ofChange stopDaysManyWrong)

/- THE SECOND FORM. 'bulk': how many values and letters a reading holds, each counted each time it is reached (what is shared counts as often as it is met; a slice's spare places count too). A statement '..UptoSaid' is the law's where the arguments, and the package variables that the reading takes, are together of bulk at most 1048576: NARROWER than '..Said'. Prove '..Said' where nothing that the law and all that it calls make is longer than what came in: it says more and counts as full. Else prove '..UptoSaid'. A law counts once. -/
mutual
def uptoBulk {H : Type} : DataW H → Nat
  | .lit (.string bytes) => bytes.length + 1
  | .lit _ => 1
  | .nil => 1
  | .ptr d => uptoBulk d + 1
  | .slice elems spare => uptoBulkAll elems + uptoBulkAll spare + 1
  | .agg parts => uptoBulkAll parts + 1
  | .iface _ d => uptoBulk d + 1
  | .map entries => uptoBulkEntries entries + 1
  | .held _ => 1
def uptoBulkAll {H : Type} : List (DataW H) → Nat
  | [] => 0
  | d :: r => uptoBulk d + uptoBulkAll r
def uptoBulkEntries {H : Type} : List (Lit × DataW H) → Nat
  | [] => 0
  | x :: r => uptoBulkEntry x + uptoBulkEntries r
def uptoBulkEntry {H : Type} : Lit × DataW H → Nat
  | (.string bytes, d) => bytes.length + uptoBulk d + 1
  | (_, d) => uptoBulk d + 1
 end
def uptoSmall : (H : Type) → List (DataW H) → Bool := fun _ ds => decide (uptoBulkAll ds ≤ 1048576)
def OpenSpec.upto (s : _root_.Go.ChangeSpec) : _root_.Go.OpenSpec := { _root_.Go.OpenSpec.ofChange s with cond := some uptoSmall }

/-- 'hinterlandlaw12.StopSplits', WHERE WHAT IT READS IS OF BULK AT MOST 1048576: true; the input reads as it did. -/
def stopSplitsUptoRow : OpenClaim := { program := "yteidanhfkaljaaa", sum := "f2aae88743b2ad6e225f8e1fbf74099ea4d8fcaf1257d11a9c2e55b1a10443eb", func := "hinterland/hinterlandlaw12.StopSplits", spec := "stopSplits", plainKeys := false, apart := false, narrowed := true }
def StopSplitsUptoSaid : Prop := stopSplitsUptoRow.holds Try.pinned (OpenSpec.upto stopSplitsSpec)

/-- 'hinterlandlaw12.StopSplitsFair', WHERE WHAT IT READS IS OF BULK AT MOST 1048576: true; the input reads as it did. -/
def stopSplitsFairUptoRow : OpenClaim := { program := "yteidanhfkaljaaa", sum := "f2aae88743b2ad6e225f8e1fbf74099ea4d8fcaf1257d11a9c2e55b1a10443eb", func := "hinterland/hinterlandlaw12.StopSplitsFair", spec := "stopSplitsFair", plainKeys := false, apart := false, narrowed := true }
def StopSplitsFairUptoSaid : Prop := stopSplitsFairUptoRow.holds Try.pinned (OpenSpec.upto stopSplitsFairSpec)

/-- 'hinterlandlaw12.StopCovers', WHERE WHAT IT READS IS OF BULK AT MOST 1048576: true; the input reads as it did. -/
def stopCoversUptoRow : OpenClaim := { program := "yteidanhfkaljaaa", sum := "f2aae88743b2ad6e225f8e1fbf74099ea4d8fcaf1257d11a9c2e55b1a10443eb", func := "hinterland/hinterlandlaw12.StopCovers", spec := "stopCovers", plainKeys := false, apart := false, narrowed := true }
def StopCoversUptoSaid : Prop := stopCoversUptoRow.holds Try.pinned (OpenSpec.upto stopCoversSpec)

/-- 'hinterlandlaw12.StopScoresFall', WHERE WHAT IT READS IS OF BULK AT MOST 1048576: true; the input reads as it did. -/
def stopScoresFallUptoRow : OpenClaim := { program := "yteidanhfkaljaaa", sum := "f2aae88743b2ad6e225f8e1fbf74099ea4d8fcaf1257d11a9c2e55b1a10443eb", func := "hinterland/hinterlandlaw12.StopScoresFall", spec := "stopScoresFall", plainKeys := false, apart := false, narrowed := true }
def StopScoresFallUptoSaid : Prop := stopScoresFallUptoRow.holds Try.pinned (OpenSpec.upto stopScoresFallSpec)

/-- 'hinterlandlaw12.StopLeaves', WHERE WHAT IT READS IS OF BULK AT MOST 1048576: true; the input reads as it did. -/
def stopLeavesUptoRow : OpenClaim := { program := "yteidanhfkaljaaa", sum := "f2aae88743b2ad6e225f8e1fbf74099ea4d8fcaf1257d11a9c2e55b1a10443eb", func := "hinterland/hinterlandlaw12.StopLeaves", spec := "stopLeaves", plainKeys := false, apart := false, narrowed := true }
def StopLeavesUptoSaid : Prop := stopLeavesUptoRow.holds Try.pinned (OpenSpec.upto stopLeavesSpec)

/-- 'hinterlandlaw12.StopJoinsBack', WHERE WHAT IT READS IS OF BULK AT MOST 1048576: true; the input reads as it did. -/
def stopJoinsBackUptoRow : OpenClaim := { program := "yteidanhfkaljaaa", sum := "f2aae88743b2ad6e225f8e1fbf74099ea4d8fcaf1257d11a9c2e55b1a10443eb", func := "hinterland/hinterlandlaw12.StopJoinsBack", spec := "stopJoinsBack", plainKeys := false, apart := false, narrowed := true }
def StopJoinsBackUptoSaid : Prop := stopJoinsBackUptoRow.holds Try.pinned (OpenSpec.upto stopJoinsBackSpec)

/-- 'hinterlandlaw12.StopLoads', WHERE WHAT IT READS IS OF BULK AT MOST 1048576: true; the input reads as it did. -/
def stopLoadsUptoRow : OpenClaim := { program := "yteidanhfkaljaaa", sum := "f2aae88743b2ad6e225f8e1fbf74099ea4d8fcaf1257d11a9c2e55b1a10443eb", func := "hinterland/hinterlandlaw12.StopLoads", spec := "stopLoads", unfollowed := true, recurses := true, named := ["math/bits.divideError", "math/bits.overflowError"], plainKeys := false, apart := false, narrowed := true }
def StopLoadsUptoSaid : Prop := stopLoadsUptoRow.holds Try.pinned (OpenSpec.upto stopLoadsSpec)

/-- 'hinterlandlaw12.StopGivesUnits', WHERE WHAT IT READS IS OF BULK AT MOST 1048576: true; the input reads as it did. -/
def stopGivesUnitsUptoRow : OpenClaim := { program := "yteidanhfkaljaaa", sum := "f2aae88743b2ad6e225f8e1fbf74099ea4d8fcaf1257d11a9c2e55b1a10443eb", func := "hinterland/hinterlandlaw12.StopGivesUnits", spec := "stopGivesUnits", unfollowed := true, recurses := true, plainKeys := false, apart := false, narrowed := true }
def StopGivesUnitsUptoSaid : Prop := stopGivesUnitsUptoRow.holds Try.pinned (OpenSpec.upto stopGivesUnitsSpec)

/-- 'hinterlandlaw12.StopDaysMany', WHERE WHAT IT READS IS OF BULK AT MOST 1048576: true; the input reads as it did. -/
def stopDaysManyUptoRow : OpenClaim := { program := "yteidanhfkaljaaa", sum := "f2aae88743b2ad6e225f8e1fbf74099ea4d8fcaf1257d11a9c2e55b1a10443eb", func := "hinterland/hinterlandlaw12.StopDaysMany", spec := "stopDaysMany", unfollowed := true, recurses := true, named := ["math/bits.divideError", "math/bits.overflowError"], plainKeys := false, apart := false, narrowed := true }
def StopDaysManyUptoSaid : Prop := stopDaysManyUptoRow.holds Try.pinned (OpenSpec.upto stopDaysManySpec)

end Rows
end Go.Proofs.Yteidanhfkaljaaa
