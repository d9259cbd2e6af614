/-
  No cell of these rows narrows 'for every input' (looked for: loops, veiled, ifaces, maps, wideKeys, modest, calm, conditions, laid).
  DERIVED. THE GIVEN ROWS OF THIS SEAT. 13 by the template 'for every input the law returns true; each argument reads behind the call as it read before'; 0 by the template 'total and deterministic' (their statements: YthgclbohlcgdgaaTotals.lean).
  GIVEN WITH THE SEED: the statements are not yours to turn. If you find one false, say at which input.
  Laid BY PROGRAM, IN A SANDBOX (cutbox-rows.mjs): the forced cells as the released guide's own fill.sh prints them over the translation 1704bd11c5decf37… (all of the seat's roots in one cut). By AI agents, Wed Nov 11 2026. No macro, syntax, notation, axiom, sorry.
-/
import Derived.Test.YthgclbohlcgdgaaChecked
import GoSem.Claim
import GoSem.ClaimJoined
import GoSem.ClaimMapViews
import Derived.JoinedTies
import Derived.KernelRfl
namespace Go.Proofs.Ythgclbohlcgdgaa
/- THE CELL 'sum', in the pinned program and in every row, IS THE sha256 OF THE DUMP (.gsa) THAT YthgclbohlcgdgaaProg.lean LOADS. Nothing in Lean hashes anything: it is a label: what it is worth is what the hold of that sum in a sandbox is worth. -/
noncomputable def Try.pinned : Pinned := { name := "ythgclbohlcgdgaa", sum := "1704bd11c5decf37f37bfdbe31e440b63fd3de9b087b960e5bd24d6ece2196e5", checked := Try.checked }
namespace Rows
def none {H : Type} : Left H := { results := [], args := [] }

/-- 'hinterlandlaw08.RouteValidates': WHATEVER THE INPUT: true; the input reads as it did. -/
def routeValidatesSpec : ChangeSpec := { name := "routeValidates", fn := fun _ => fun
  | [d1, d2] => { results := [.lit (.bool true)], args := [d1, d2] }
  | _ => none }
def routeValidatesRow : OpenClaim := { program := "ythgclbohlcgdgaa", sum := "1704bd11c5decf37f37bfdbe31e440b63fd3de9b087b960e5bd24d6ece2196e5", func := "hinterland/hinterlandlaw08.RouteValidates", spec := "routeValidates", unfollowed := true, recurses := true, apart := false }
def RouteValidatesSaid : Prop := routeValidatesRow.holds Try.pinned (OpenSpec.ofChange routeValidatesSpec)

/-- ITS FALSE NEIGHBOUR: 'it returns false'. Refute it at one input. -/
def routeValidatesWrong : ChangeSpec := { name := "routeValidates", fn := fun _ => fun
  | [d1, d2] => { results := [.lit (.bool false)], args := [d1, d2] }
  | _ => none }
def RouteValidatesWrongFalsely : Prop := routeValidatesRow.holds Try.pinned (OpenSpec.ofChange routeValidatesWrong)

/-- 'hinterlandlaw08.RouteLeast': WHATEVER THE INPUT: true; the input reads as it did. -/
def routeLeastSpec : ChangeSpec := { name := "routeLeast", fn := fun _ => fun
  | [d1, d2, d3, d4] => { results := [.lit (.bool true)], args := [d1, d2, d3, d4] }
  | _ => none }
def routeLeastRow : OpenClaim := { program := "ythgclbohlcgdgaa", sum := "1704bd11c5decf37f37bfdbe31e440b63fd3de9b087b960e5bd24d6ece2196e5", func := "hinterland/hinterlandlaw08.RouteLeast", spec := "routeLeast", unfollowed := true, recurses := true, apart := false }
def RouteLeastSaid : Prop := routeLeastRow.holds Try.pinned (OpenSpec.ofChange routeLeastSpec)

/-- ITS FALSE NEIGHBOUR: 'it returns false'. Refute it at one input. -/
def routeLeastWrong : ChangeSpec := { name := "routeLeast", fn := fun _ => fun
  | [d1, d2, d3, d4] => { results := [.lit (.bool false)], args := [d1, d2, d3, d4] }
  | _ => none }
def RouteLeastWrongFalsely : Prop := routeLeastRow.holds Try.pinned (OpenSpec.ofChange routeLeastWrong)

/-- 'hinterlandlaw08.RouteLeastOf': WHATEVER THE INPUT: true; the input reads as it did. -/
def routeLeastOfSpec : ChangeSpec := { name := "routeLeastOf", fn := fun _ => fun
  | [d1, d2, d3, d4, d5] => { results := [.lit (.bool true)], args := [d1, d2, d3, d4, d5] }
  | _ => none }
def routeLeastOfRow : OpenClaim := { program := "ythgclbohlcgdgaa", sum := "1704bd11c5decf37f37bfdbe31e440b63fd3de9b087b960e5bd24d6ece2196e5", func := "hinterland/hinterlandlaw08.RouteLeastOf", spec := "routeLeastOf", unfollowed := true, recurses := true, apart := false }
def RouteLeastOfSaid : Prop := routeLeastOfRow.holds Try.pinned (OpenSpec.ofChange routeLeastOfSpec)

/-- ITS FALSE NEIGHBOUR: 'it returns false'. Refute it at one input. -/
def routeLeastOfWrong : ChangeSpec := { name := "routeLeastOf", fn := fun _ => fun
  | [d1, d2, d3, d4, d5] => { results := [.lit (.bool false)], args := [d1, d2, d3, d4, d5] }
  | _ => none }
def RouteLeastOfWrongFalsely : Prop := routeLeastOfRow.holds Try.pinned (OpenSpec.ofChange routeLeastOfWrong)

/-- 'hinterlandlaw08.RouteNexts': WHATEVER THE INPUT: true; the input reads as it did. -/
def routeNextsSpec : ChangeSpec := { name := "routeNexts", fn := fun _ => fun
  | [d1, d2, d3, d4] => { results := [.lit (.bool true)], args := [d1, d2, d3, d4] }
  | _ => none }
def routeNextsRow : OpenClaim := { program := "ythgclbohlcgdgaa", sum := "1704bd11c5decf37f37bfdbe31e440b63fd3de9b087b960e5bd24d6ece2196e5", func := "hinterland/hinterlandlaw08.RouteNexts", spec := "routeNexts", unfollowed := true, recurses := true, apart := false }
def RouteNextsSaid : Prop := routeNextsRow.holds Try.pinned (OpenSpec.ofChange routeNextsSpec)

/-- ITS FALSE NEIGHBOUR: 'it returns false'. Refute it at one input. -/
def routeNextsWrong : ChangeSpec := { name := "routeNexts", fn := fun _ => fun
  | [d1, d2, d3, d4] => { results := [.lit (.bool false)], args := [d1, d2, d3, d4] }
  | _ => none }
def RouteNextsWrongFalsely : Prop := routeNextsRow.holds Try.pinned (OpenSpec.ofChange routeNextsWrong)

/-- 'hinterlandlaw08.RouteAll': WHATEVER THE INPUT: true; the input reads as it did. -/
def routeAllSpec : ChangeSpec := { name := "routeAll", fn := fun _ => fun
  | [d1, d2, d3] => { results := [.lit (.bool true)], args := [d1, d2, d3] }
  | _ => none }
def routeAllRow : OpenClaim := { program := "ythgclbohlcgdgaa", sum := "1704bd11c5decf37f37bfdbe31e440b63fd3de9b087b960e5bd24d6ece2196e5", func := "hinterland/hinterlandlaw08.RouteAll", spec := "routeAll", unfollowed := true, recurses := true, apart := false }
def RouteAllSaid : Prop := routeAllRow.holds Try.pinned (OpenSpec.ofChange routeAllSpec)

/-- ITS FALSE NEIGHBOUR: 'it returns false'. Refute it at one input. -/
def routeAllWrong : ChangeSpec := { name := "routeAll", fn := fun _ => fun
  | [d1, d2, d3] => { results := [.lit (.bool false)], args := [d1, d2, d3] }
  | _ => none }
def RouteAllWrongFalsely : Prop := routeAllRow.holds Try.pinned (OpenSpec.ofChange routeAllWrong)

/-- 'hinterlandlaw08.RouteAllEdges': WHATEVER THE INPUT: true; the input reads as it did. -/
def routeAllEdgesSpec : ChangeSpec := { name := "routeAllEdges", fn := fun _ => fun
  | [d1, d2, d3] => { results := [.lit (.bool true)], args := [d1, d2, d3] }
  | _ => none }
def routeAllEdgesRow : OpenClaim := { program := "ythgclbohlcgdgaa", sum := "1704bd11c5decf37f37bfdbe31e440b63fd3de9b087b960e5bd24d6ece2196e5", func := "hinterland/hinterlandlaw08.RouteAllEdges", spec := "routeAllEdges", unfollowed := true, recurses := true, apart := false }
def RouteAllEdgesSaid : Prop := routeAllEdgesRow.holds Try.pinned (OpenSpec.ofChange routeAllEdgesSpec)

/-- ITS FALSE NEIGHBOUR: 'it returns false'. Refute it at one input. -/
def routeAllEdgesWrong : ChangeSpec := { name := "routeAllEdges", fn := fun _ => fun
  | [d1, d2, d3] => { results := [.lit (.bool false)], args := [d1, d2, d3] }
  | _ => none }
def RouteAllEdgesWrongFalsely : Prop := routeAllEdgesRow.holds Try.pinned (OpenSpec.ofChange routeAllEdgesWrong)

/-- 'hinterlandlaw08.RouteSounds': WHATEVER THE INPUT: true; the input reads as it did. -/
def routeSoundsSpec : ChangeSpec := { name := "routeSounds", fn := fun _ => fun
  | [d1, d2, d3, d4] => { results := [.lit (.bool true)], args := [d1, d2, d3, d4] }
  | _ => none }
def routeSoundsRow : OpenClaim := { program := "ythgclbohlcgdgaa", sum := "1704bd11c5decf37f37bfdbe31e440b63fd3de9b087b960e5bd24d6ece2196e5", func := "hinterland/hinterlandlaw08.RouteSounds", spec := "routeSounds", unfollowed := true, recurses := true, apart := false }
def RouteSoundsSaid : Prop := routeSoundsRow.holds Try.pinned (OpenSpec.ofChange routeSoundsSpec)

/-- ITS FALSE NEIGHBOUR: 'it returns false'. Refute it at one input. -/
def routeSoundsWrong : ChangeSpec := { name := "routeSounds", fn := fun _ => fun
  | [d1, d2, d3, d4] => { results := [.lit (.bool false)], args := [d1, d2, d3, d4] }
  | _ => none }
def RouteSoundsWrongFalsely : Prop := routeSoundsRow.holds Try.pinned (OpenSpec.ofChange routeSoundsWrong)

/-- 'hinterlandlaw08.RouteStrong': WHATEVER THE INPUT: true; the input reads as it did. -/
def routeStrongSpec : ChangeSpec := { name := "routeStrong", fn := fun _ => fun
  | [d1, d2] => { results := [.lit (.bool true)], args := [d1, d2] }
  | _ => none }
def routeStrongRow : OpenClaim := { program := "ythgclbohlcgdgaa", sum := "1704bd11c5decf37f37bfdbe31e440b63fd3de9b087b960e5bd24d6ece2196e5", func := "hinterland/hinterlandlaw08.RouteStrong", spec := "routeStrong", unfollowed := true, recurses := true, apart := false }
def RouteStrongSaid : Prop := routeStrongRow.holds Try.pinned (OpenSpec.ofChange routeStrongSpec)

/-- ITS FALSE NEIGHBOUR: 'it returns false'. Refute it at one input. -/
def routeStrongWrong : ChangeSpec := { name := "routeStrong", fn := fun _ => fun
  | [d1, d2] => { results := [.lit (.bool false)], args := [d1, d2] }
  | _ => none }
def RouteStrongWrongFalsely : Prop := routeStrongRow.holds Try.pinned (OpenSpec.ofChange routeStrongWrong)

/-- 'hinterlandlaw08.RouteRegions': WHATEVER THE INPUT: true; the input reads as it did. -/
def routeRegionsSpec : ChangeSpec := { name := "routeRegions", fn := fun _ => fun
  | [d1, d2, d3, d4, d5] => { results := [.lit (.bool true)], args := [d1, d2, d3, d4, d5] }
  | _ => none }
def routeRegionsRow : OpenClaim := { program := "ythgclbohlcgdgaa", sum := "1704bd11c5decf37f37bfdbe31e440b63fd3de9b087b960e5bd24d6ece2196e5", func := "hinterland/hinterlandlaw08.RouteRegions", spec := "routeRegions", unfollowed := true, recurses := true, apart := false }
def RouteRegionsSaid : Prop := routeRegionsRow.holds Try.pinned (OpenSpec.ofChange routeRegionsSpec)

/-- ITS FALSE NEIGHBOUR: 'it returns false'. Refute it at one input. -/
def routeRegionsWrong : ChangeSpec := { name := "routeRegions", fn := fun _ => fun
  | [d1, d2, d3, d4, d5] => { results := [.lit (.bool false)], args := [d1, d2, d3, d4, d5] }
  | _ => none }
def RouteRegionsWrongFalsely : Prop := routeRegionsRow.holds Try.pinned (OpenSpec.ofChange routeRegionsWrong)

/-- 'hinterlandlaw08.RouteRegionsLeast': WHATEVER THE INPUT: true; the input reads as it did. -/
def routeRegionsLeastSpec : ChangeSpec := { name := "routeRegionsLeast", fn := fun _ => fun
  | [d1, d2, d3, d4, d5] => { results := [.lit (.bool true)], args := [d1, d2, d3, d4, d5] }
  | _ => none }
def routeRegionsLeastRow : OpenClaim := { program := "ythgclbohlcgdgaa", sum := "1704bd11c5decf37f37bfdbe31e440b63fd3de9b087b960e5bd24d6ece2196e5", func := "hinterland/hinterlandlaw08.RouteRegionsLeast", spec := "routeRegionsLeast", unfollowed := true, recurses := true, apart := false }
def RouteRegionsLeastSaid : Prop := routeRegionsLeastRow.holds Try.pinned (OpenSpec.ofChange routeRegionsLeastSpec)

/-- ITS FALSE NEIGHBOUR: 'it returns false'. Refute it at one input. -/
def routeRegionsLeastWrong : ChangeSpec := { name := "routeRegionsLeast", fn := fun _ => fun
  | [d1, d2, d3, d4, d5] => { results := [.lit (.bool false)], args := [d1, d2, d3, d4, d5] }
  | _ => none }
def RouteRegionsLeastWrongFalsely : Prop := routeRegionsLeastRow.holds Try.pinned (OpenSpec.ofChange routeRegionsLeastWrong)

/-- 'hinterlandlaw08.RouteGuides': WHATEVER THE INPUT: true; the input reads as it did. -/
def routeGuidesSpec : ChangeSpec := { name := "routeGuides", fn := fun _ => fun
  | [d1, d2, d3, d4, d5] => { results := [.lit (.bool true)], args := [d1, d2, d3, d4, d5] }
  | _ => none }
def routeGuidesRow : OpenClaim := { program := "ythgclbohlcgdgaa", sum := "1704bd11c5decf37f37bfdbe31e440b63fd3de9b087b960e5bd24d6ece2196e5", func := "hinterland/hinterlandlaw08.RouteGuides", spec := "routeGuides", unfollowed := true, recurses := true, apart := false }
def RouteGuidesSaid : Prop := routeGuidesRow.holds Try.pinned (OpenSpec.ofChange routeGuidesSpec)

/-- ITS FALSE NEIGHBOUR: 'it returns false'. Refute it at one input. -/
def routeGuidesWrong : ChangeSpec := { name := "routeGuides", fn := fun _ => fun
  | [d1, d2, d3, d4, d5] => { results := [.lit (.bool false)], args := [d1, d2, d3, d4, d5] }
  | _ => none }
def RouteGuidesWrongFalsely : Prop := routeGuidesRow.holds Try.pinned (OpenSpec.ofChange routeGuidesWrong)

/-- 'hinterlandlaw08.RouteStrongAll': WHATEVER THE INPUT: true; the input reads as it did. -/
def routeStrongAllSpec : ChangeSpec := { name := "routeStrongAll", fn := fun _ => fun
  | [d1, d2, d3, d4] => { results := [.lit (.bool true)], args := [d1, d2, d3, d4] }
  | _ => none }
def routeStrongAllRow : OpenClaim := { program := "ythgclbohlcgdgaa", sum := "1704bd11c5decf37f37bfdbe31e440b63fd3de9b087b960e5bd24d6ece2196e5", func := "hinterland/hinterlandlaw08.RouteStrongAll", spec := "routeStrongAll", unfollowed := true, recurses := true, apart := false }
def RouteStrongAllSaid : Prop := routeStrongAllRow.holds Try.pinned (OpenSpec.ofChange routeStrongAllSpec)

/-- ITS FALSE NEIGHBOUR: 'it returns false'. Refute it at one input. -/
def routeStrongAllWrong : ChangeSpec := { name := "routeStrongAll", fn := fun _ => fun
  | [d1, d2, d3, d4] => { results := [.lit (.bool false)], args := [d1, d2, d3, d4] }
  | _ => none }
def RouteStrongAllWrongFalsely : Prop := routeStrongAllRow.holds Try.pinned (OpenSpec.ofChange routeStrongAllWrong)

/-- 'hinterlandlaw08.RouteGuidesSound': WHATEVER THE INPUT: true; the input reads as it did. -/
def routeGuidesSoundSpec : ChangeSpec := { name := "routeGuidesSound", fn := fun _ => fun
  | [d1, d2, d3, d4, d5] => { results := [.lit (.bool true)], args := [d1, d2, d3, d4, d5] }
  | _ => none }
def routeGuidesSoundRow : OpenClaim := { program := "ythgclbohlcgdgaa", sum := "1704bd11c5decf37f37bfdbe31e440b63fd3de9b087b960e5bd24d6ece2196e5", func := "hinterland/hinterlandlaw08.RouteGuidesSound", spec := "routeGuidesSound", unfollowed := true, recurses := true, apart := false }
def RouteGuidesSoundSaid : Prop := routeGuidesSoundRow.holds Try.pinned (OpenSpec.ofChange routeGuidesSoundSpec)

/-- ITS FALSE NEIGHBOUR: 'it returns false'. Refute it at one input. -/
def routeGuidesSoundWrong : ChangeSpec := { name := "routeGuidesSound", fn := fun _ => fun
  | [d1, d2, d3, d4, d5] => { results := [.lit (.bool false)], args := [d1, d2, d3, d4, d5] }
  | _ => none }
def RouteGuidesSoundWrongFalsely : Prop := routeGuidesSoundRow.holds Try.pinned (OpenSpec.ofChange routeGuidesSoundWrong)

/- THE SECOND FORM. 'bulk': how many values and letters a reading holds, each counted each time it is reached (what is shared counts as often as it is met; a slice's spare places count too). A statement '..UptoSaid' is the law's where the arguments, and the package variables that the reading takes, are together of bulk at most 1048576: NARROWER than '..Said'. Prove '..Said' where nothing that the law and all that it calls make is longer than what came in: it says more and counts as full. Else prove '..UptoSaid'. A law counts once. -/
mutual
def uptoBulk {H : Type} : DataW H → Nat
  | .lit (.string bytes) => bytes.length + 1
  | .lit _ => 1
  | .nil => 1
  | .ptr d => uptoBulk d + 1
  | .slice elems spare => uptoBulkAll elems + uptoBulkAll spare + 1
  | .agg parts => uptoBulkAll parts + 1
  | .iface _ d => uptoBulk d + 1
  | .map entries => uptoBulkEntries entries + 1
  | .held _ => 1
def uptoBulkAll {H : Type} : List (DataW H) → Nat
  | [] => 0
  | d :: r => uptoBulk d + uptoBulkAll r
def uptoBulkEntries {H : Type} : List (Lit × DataW H) → Nat
  | [] => 0
  | x :: r => uptoBulkEntry x + uptoBulkEntries r
def uptoBulkEntry {H : Type} : Lit × DataW H → Nat
  | (.string bytes, d) => bytes.length + uptoBulk d + 1
  | (_, d) => uptoBulk d + 1
 end
def uptoSmall : (H : Type) → List (DataW H) → Bool := fun _ ds => decide (uptoBulkAll ds ≤ 1048576)
def OpenSpec.upto (s : _root_.Go.ChangeSpec) : _root_.Go.OpenSpec := { _root_.Go.OpenSpec.ofChange s with cond := some uptoSmall }

/-- 'hinterlandlaw08.RouteValidates', WHERE WHAT IT READS IS OF BULK AT MOST 1048576: true; the input reads as it did. -/
def routeValidatesUptoRow : OpenClaim := { program := "ythgclbohlcgdgaa", sum := "1704bd11c5decf37f37bfdbe31e440b63fd3de9b087b960e5bd24d6ece2196e5", func := "hinterland/hinterlandlaw08.RouteValidates", spec := "routeValidates", unfollowed := true, recurses := true, apart := false, narrowed := true }
def RouteValidatesUptoSaid : Prop := routeValidatesUptoRow.holds Try.pinned (OpenSpec.upto routeValidatesSpec)

/-- 'hinterlandlaw08.RouteLeast', WHERE WHAT IT READS IS OF BULK AT MOST 1048576: true; the input reads as it did. -/
def routeLeastUptoRow : OpenClaim := { program := "ythgclbohlcgdgaa", sum := "1704bd11c5decf37f37bfdbe31e440b63fd3de9b087b960e5bd24d6ece2196e5", func := "hinterland/hinterlandlaw08.RouteLeast", spec := "routeLeast", unfollowed := true, recurses := true, apart := false, narrowed := true }
def RouteLeastUptoSaid : Prop := routeLeastUptoRow.holds Try.pinned (OpenSpec.upto routeLeastSpec)

/-- 'hinterlandlaw08.RouteLeastOf', WHERE WHAT IT READS IS OF BULK AT MOST 1048576: true; the input reads as it did. -/
def routeLeastOfUptoRow : OpenClaim := { program := "ythgclbohlcgdgaa", sum := "1704bd11c5decf37f37bfdbe31e440b63fd3de9b087b960e5bd24d6ece2196e5", func := "hinterland/hinterlandlaw08.RouteLeastOf", spec := "routeLeastOf", unfollowed := true, recurses := true, apart := false, narrowed := true }
def RouteLeastOfUptoSaid : Prop := routeLeastOfUptoRow.holds Try.pinned (OpenSpec.upto routeLeastOfSpec)

/-- 'hinterlandlaw08.RouteNexts', WHERE WHAT IT READS IS OF BULK AT MOST 1048576: true; the input reads as it did. -/
def routeNextsUptoRow : OpenClaim := { program := "ythgclbohlcgdgaa", sum := "1704bd11c5decf37f37bfdbe31e440b63fd3de9b087b960e5bd24d6ece2196e5", func := "hinterland/hinterlandlaw08.RouteNexts", spec := "routeNexts", unfollowed := true, recurses := true, apart := false, narrowed := true }
def RouteNextsUptoSaid : Prop := routeNextsUptoRow.holds Try.pinned (OpenSpec.upto routeNextsSpec)

/-- 'hinterlandlaw08.RouteAll', WHERE WHAT IT READS IS OF BULK AT MOST 1048576: true; the input reads as it did. -/
def routeAllUptoRow : OpenClaim := { program := "ythgclbohlcgdgaa", sum := "1704bd11c5decf37f37bfdbe31e440b63fd3de9b087b960e5bd24d6ece2196e5", func := "hinterland/hinterlandlaw08.RouteAll", spec := "routeAll", unfollowed := true, recurses := true, apart := false, narrowed := true }
def RouteAllUptoSaid : Prop := routeAllUptoRow.holds Try.pinned (OpenSpec.upto routeAllSpec)

/-- 'hinterlandlaw08.RouteAllEdges', WHERE WHAT IT READS IS OF BULK AT MOST 1048576: true; the input reads as it did. -/
def routeAllEdgesUptoRow : OpenClaim := { program := "ythgclbohlcgdgaa", sum := "1704bd11c5decf37f37bfdbe31e440b63fd3de9b087b960e5bd24d6ece2196e5", func := "hinterland/hinterlandlaw08.RouteAllEdges", spec := "routeAllEdges", unfollowed := true, recurses := true, apart := false, narrowed := true }
def RouteAllEdgesUptoSaid : Prop := routeAllEdgesUptoRow.holds Try.pinned (OpenSpec.upto routeAllEdgesSpec)

/-- 'hinterlandlaw08.RouteSounds', WHERE WHAT IT READS IS OF BULK AT MOST 1048576: true; the input reads as it did. -/
def routeSoundsUptoRow : OpenClaim := { program := "ythgclbohlcgdgaa", sum := "1704bd11c5decf37f37bfdbe31e440b63fd3de9b087b960e5bd24d6ece2196e5", func := "hinterland/hinterlandlaw08.RouteSounds", spec := "routeSounds", unfollowed := true, recurses := true, apart := false, narrowed := true }
def RouteSoundsUptoSaid : Prop := routeSoundsUptoRow.holds Try.pinned (OpenSpec.upto routeSoundsSpec)

/-- 'hinterlandlaw08.RouteStrong', WHERE WHAT IT READS IS OF BULK AT MOST 1048576: true; the input reads as it did. -/
def routeStrongUptoRow : OpenClaim := { program := "ythgclbohlcgdgaa", sum := "1704bd11c5decf37f37bfdbe31e440b63fd3de9b087b960e5bd24d6ece2196e5", func := "hinterland/hinterlandlaw08.RouteStrong", spec := "routeStrong", unfollowed := true, recurses := true, apart := false, narrowed := true }
def RouteStrongUptoSaid : Prop := routeStrongUptoRow.holds Try.pinned (OpenSpec.upto routeStrongSpec)

/-- 'hinterlandlaw08.RouteRegions', WHERE WHAT IT READS IS OF BULK AT MOST 1048576: true; the input reads as it did. -/
def routeRegionsUptoRow : OpenClaim := { program := "ythgclbohlcgdgaa", sum := "1704bd11c5decf37f37bfdbe31e440b63fd3de9b087b960e5bd24d6ece2196e5", func := "hinterland/hinterlandlaw08.RouteRegions", spec := "routeRegions", unfollowed := true, recurses := true, apart := false, narrowed := true }
def RouteRegionsUptoSaid : Prop := routeRegionsUptoRow.holds Try.pinned (OpenSpec.upto routeRegionsSpec)

/-- 'hinterlandlaw08.RouteRegionsLeast', WHERE WHAT IT READS IS OF BULK AT MOST 1048576: true; the input reads as it did. -/
def routeRegionsLeastUptoRow : OpenClaim := { program := "ythgclbohlcgdgaa", sum := "1704bd11c5decf37f37bfdbe31e440b63fd3de9b087b960e5bd24d6ece2196e5", func := "hinterland/hinterlandlaw08.RouteRegionsLeast", spec := "routeRegionsLeast", unfollowed := true, recurses := true, apart := false, narrowed := true }
def RouteRegionsLeastUptoSaid : Prop := routeRegionsLeastUptoRow.holds Try.pinned (OpenSpec.upto routeRegionsLeastSpec)

/-- 'hinterlandlaw08.RouteGuides', WHERE WHAT IT READS IS OF BULK AT MOST 1048576: true; the input reads as it did. -/
def routeGuidesUptoRow : OpenClaim := { program := "ythgclbohlcgdgaa", sum := "1704bd11c5decf37f37bfdbe31e440b63fd3de9b087b960e5bd24d6ece2196e5", func := "hinterland/hinterlandlaw08.RouteGuides", spec := "routeGuides", unfollowed := true, recurses := true, apart := false, narrowed := true }
def RouteGuidesUptoSaid : Prop := routeGuidesUptoRow.holds Try.pinned (OpenSpec.upto routeGuidesSpec)

/-- 'hinterlandlaw08.RouteStrongAll', WHERE WHAT IT READS IS OF BULK AT MOST 1048576: true; the input reads as it did. -/
def routeStrongAllUptoRow : OpenClaim := { program := "ythgclbohlcgdgaa", sum := "1704bd11c5decf37f37bfdbe31e440b63fd3de9b087b960e5bd24d6ece2196e5", func := "hinterland/hinterlandlaw08.RouteStrongAll", spec := "routeStrongAll", unfollowed := true, recurses := true, apart := false, narrowed := true }
def RouteStrongAllUptoSaid : Prop := routeStrongAllUptoRow.holds Try.pinned (OpenSpec.upto routeStrongAllSpec)

/-- 'hinterlandlaw08.RouteGuidesSound', WHERE WHAT IT READS IS OF BULK AT MOST 1048576: true; the input reads as it did. -/
def routeGuidesSoundUptoRow : OpenClaim := { program := "ythgclbohlcgdgaa", sum := "1704bd11c5decf37f37bfdbe31e440b63fd3de9b087b960e5bd24d6ece2196e5", func := "hinterland/hinterlandlaw08.RouteGuidesSound", spec := "routeGuidesSound", unfollowed := true, recurses := true, apart := false, narrowed := true }
def RouteGuidesSoundUptoSaid : Prop := routeGuidesSoundUptoRow.holds Try.pinned (OpenSpec.upto routeGuidesSoundSpec)

end Rows
end Go.Proofs.Ythgclbohlcgdgaa
