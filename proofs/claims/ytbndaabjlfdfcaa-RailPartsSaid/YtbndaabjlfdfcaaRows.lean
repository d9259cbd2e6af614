/-
  No cell of these rows narrows 'for every input' (looked for: loops, veiled, ifaces, maps, wideKeys, modest, calm, conditions, laid).
  DERIVED. THE GIVEN ROWS OF THIS SEAT. 13 by the template 'for every input the law returns true; each argument reads behind the call as it read before'; 0 by the template 'total and deterministic' (their statements: YtbndaabjlfdfcaaTotals.lean).
  GIVEN WITH THE SEED: the statements are not yours to turn. If you find one false, say at which input.
  Laid BY PROGRAM, IN A SANDBOX (cutbox-rows.mjs): the forced cells as the released guide's own fill.sh prints them over the translation 3e5c5389c31cdcdb… (all of the seat's roots in one cut). By AI agents, Wed Nov 11 2026. No macro, syntax, notation, axiom, sorry.
-/
import Derived.Test.YtbndaabjlfdfcaaChecked
import GoSem.Claim
import GoSem.ClaimJoined
import GoSem.ClaimMapViews
import Derived.JoinedTies
import Derived.KernelRfl
namespace Go.Proofs.Ytbndaabjlfdfcaa
/- THE CELL 'sum', in the pinned program and in every row, IS THE sha256 OF THE DUMP (.gsa) THAT YtbndaabjlfdfcaaProg.lean LOADS. Nothing in Lean hashes anything: it is a label: what it is worth is what the hold of that sum in a sandbox is worth. -/
noncomputable def Try.pinned : Pinned := { name := "ytbndaabjlfdfcaa", sum := "3e5c5389c31cdcdbcf7051eab1f3bbc79322970d5ae808189ed3e71243a6462b", checked := Try.checked }
namespace Rows
def none {H : Type} : Left H := { results := [], args := [] }

/-- 'hinterlandlaw03.RailValidates': WHATEVER THE INPUT: true; the input reads as it did. -/
def railValidatesSpec : ChangeSpec := { name := "railValidates", fn := fun _ => fun
  | [d] => { results := [.lit (.bool true)], args := [d] }
  | _ => none }
def railValidatesRow : OpenClaim := { program := "ytbndaabjlfdfcaa", sum := "3e5c5389c31cdcdbcf7051eab1f3bbc79322970d5ae808189ed3e71243a6462b", func := "hinterland/hinterlandlaw03.RailValidates", spec := "railValidates", plainKeys := false, apart := false }
def RailValidatesSaid : Prop := railValidatesRow.holds Try.pinned (OpenSpec.ofChange railValidatesSpec)

/-- ITS FALSE NEIGHBOUR: 'it returns false'. Refute it at one input. -/
def railValidatesWrong : ChangeSpec := { name := "railValidates", fn := fun _ => fun
  | [d] => { results := [.lit (.bool false)], args := [d] }
  | _ => none }
def RailValidatesWrongFalsely : Prop := railValidatesRow.holds Try.pinned (OpenSpec.ofChange railValidatesWrong)

/-- 'hinterlandlaw03.RailEnds': WHATEVER THE INPUT: true; the input reads as it did. -/
def railEndsSpec : ChangeSpec := { name := "railEnds", fn := fun _ => fun
  | [d1, d2] => { results := [.lit (.bool true)], args := [d1, d2] }
  | _ => none }
def railEndsRow : OpenClaim := { program := "ytbndaabjlfdfcaa", sum := "3e5c5389c31cdcdbcf7051eab1f3bbc79322970d5ae808189ed3e71243a6462b", func := "hinterland/hinterlandlaw03.RailEnds", spec := "railEnds", plainKeys := false, apart := false }
def RailEndsSaid : Prop := railEndsRow.holds Try.pinned (OpenSpec.ofChange railEndsSpec)

/-- ITS FALSE NEIGHBOUR: 'it returns false'. Refute it at one input. -/
def railEndsWrong : ChangeSpec := { name := "railEnds", fn := fun _ => fun
  | [d1, d2] => { results := [.lit (.bool false)], args := [d1, d2] }
  | _ => none }
def RailEndsWrongFalsely : Prop := railEndsRow.holds Try.pinned (OpenSpec.ofChange railEndsWrong)

/-- 'hinterlandlaw03.RailCosts': WHATEVER THE INPUT: true; the input reads as it did. -/
def railCostsSpec : ChangeSpec := { name := "railCosts", fn := fun _ => fun
  | [d1, d2] => { results := [.lit (.bool true)], args := [d1, d2] }
  | _ => none }
def railCostsRow : OpenClaim := { program := "ytbndaabjlfdfcaa", sum := "3e5c5389c31cdcdbcf7051eab1f3bbc79322970d5ae808189ed3e71243a6462b", func := "hinterland/hinterlandlaw03.RailCosts", spec := "railCosts", plainKeys := false, apart := false }
def RailCostsSaid : Prop := railCostsRow.holds Try.pinned (OpenSpec.ofChange railCostsSpec)

/-- ITS FALSE NEIGHBOUR: 'it returns false'. Refute it at one input. -/
def railCostsWrong : ChangeSpec := { name := "railCosts", fn := fun _ => fun
  | [d1, d2] => { results := [.lit (.bool false)], args := [d1, d2] }
  | _ => none }
def RailCostsWrongFalsely : Prop := railCostsRow.holds Try.pinned (OpenSpec.ofChange railCostsWrong)

/-- 'hinterlandlaw03.RailLifts': WHATEVER THE INPUT: true; the input reads as it did. -/
def railLiftsSpec : ChangeSpec := { name := "railLifts", fn := fun _ => fun
  | [d1, d2, d3] => { results := [.lit (.bool true)], args := [d1, d2, d3] }
  | _ => none }
def railLiftsRow : OpenClaim := { program := "ytbndaabjlfdfcaa", sum := "3e5c5389c31cdcdbcf7051eab1f3bbc79322970d5ae808189ed3e71243a6462b", func := "hinterland/hinterlandlaw03.RailLifts", spec := "railLifts", plainKeys := false, apart := false }
def RailLiftsSaid : Prop := railLiftsRow.holds Try.pinned (OpenSpec.ofChange railLiftsSpec)

/-- ITS FALSE NEIGHBOUR: 'it returns false'. Refute it at one input. -/
def railLiftsWrong : ChangeSpec := { name := "railLifts", fn := fun _ => fun
  | [d1, d2, d3] => { results := [.lit (.bool false)], args := [d1, d2, d3] }
  | _ => none }
def RailLiftsWrongFalsely : Prop := railLiftsRow.holds Try.pinned (OpenSpec.ofChange railLiftsWrong)

/-- 'hinterlandlaw03.RailLays': WHATEVER THE INPUT: true; the input reads as it did. -/
def railLaysSpec : ChangeSpec := { name := "railLays", fn := fun _ => fun
  | [d1, d2, d3, d4] => { results := [.lit (.bool true)], args := [d1, d2, d3, d4] }
  | _ => none }
def railLaysRow : OpenClaim := { program := "ytbndaabjlfdfcaa", sum := "3e5c5389c31cdcdbcf7051eab1f3bbc79322970d5ae808189ed3e71243a6462b", func := "hinterland/hinterlandlaw03.RailLays", spec := "railLays", plainKeys := false, apart := false }
def RailLaysSaid : Prop := railLaysRow.holds Try.pinned (OpenSpec.ofChange railLaysSpec)

/-- ITS FALSE NEIGHBOUR: 'it returns false'. Refute it at one input. -/
def railLaysWrong : ChangeSpec := { name := "railLays", fn := fun _ => fun
  | [d1, d2, d3, d4] => { results := [.lit (.bool false)], args := [d1, d2, d3, d4] }
  | _ => none }
def RailLaysWrongFalsely : Prop := railLaysRow.holds Try.pinned (OpenSpec.ofChange railLaysWrong)

/-- 'hinterlandlaw03.RailUndone': WHATEVER THE INPUT: true; the input reads as it did. -/
def railUndoneSpec : ChangeSpec := { name := "railUndone", fn := fun _ => fun
  | [d1, d2, d3] => { results := [.lit (.bool true)], args := [d1, d2, d3] }
  | _ => none }
def railUndoneRow : OpenClaim := { program := "ytbndaabjlfdfcaa", sum := "3e5c5389c31cdcdbcf7051eab1f3bbc79322970d5ae808189ed3e71243a6462b", func := "hinterland/hinterlandlaw03.RailUndone", spec := "railUndone", plainKeys := false, apart := false }
def RailUndoneSaid : Prop := railUndoneRow.holds Try.pinned (OpenSpec.ofChange railUndoneSpec)

/-- ITS FALSE NEIGHBOUR: 'it returns false'. Refute it at one input. -/
def railUndoneWrong : ChangeSpec := { name := "railUndone", fn := fun _ => fun
  | [d1, d2, d3] => { results := [.lit (.bool false)], args := [d1, d2, d3] }
  | _ => none }
def RailUndoneWrongFalsely : Prop := railUndoneRow.holds Try.pinned (OpenSpec.ofChange railUndoneWrong)

/-- 'hinterlandlaw03.RailLoose': WHATEVER THE INPUT: true; the input reads as it did. -/
def railLooseSpec : ChangeSpec := { name := "railLoose", fn := fun _ => fun
  | [d] => { results := [.lit (.bool true)], args := [d] }
  | _ => none }
def railLooseRow : OpenClaim := { program := "ytbndaabjlfdfcaa", sum := "3e5c5389c31cdcdbcf7051eab1f3bbc79322970d5ae808189ed3e71243a6462b", func := "hinterland/hinterlandlaw03.RailLoose", spec := "railLoose", plainKeys := false, apart := false }
def RailLooseSaid : Prop := railLooseRow.holds Try.pinned (OpenSpec.ofChange railLooseSpec)

/-- ITS FALSE NEIGHBOUR: 'it returns false'. Refute it at one input. -/
def railLooseWrong : ChangeSpec := { name := "railLoose", fn := fun _ => fun
  | [d] => { results := [.lit (.bool false)], args := [d] }
  | _ => none }
def RailLooseWrongFalsely : Prop := railLooseRow.holds Try.pinned (OpenSpec.ofChange railLooseWrong)

/-- 'hinterlandlaw03.RailNexts': WHATEVER THE INPUT: true; the input reads as it did. -/
def railNextsSpec : ChangeSpec := { name := "railNexts", fn := fun _ => fun
  | [d1, d2] => { results := [.lit (.bool true)], args := [d1, d2] }
  | _ => none }
def railNextsRow : OpenClaim := { program := "ytbndaabjlfdfcaa", sum := "3e5c5389c31cdcdbcf7051eab1f3bbc79322970d5ae808189ed3e71243a6462b", func := "hinterland/hinterlandlaw03.RailNexts", spec := "railNexts", plainKeys := false, apart := false }
def RailNextsSaid : Prop := railNextsRow.holds Try.pinned (OpenSpec.ofChange railNextsSpec)

/-- ITS FALSE NEIGHBOUR: 'it returns false'. Refute it at one input. -/
def railNextsWrong : ChangeSpec := { name := "railNexts", fn := fun _ => fun
  | [d1, d2] => { results := [.lit (.bool false)], args := [d1, d2] }
  | _ => none }
def RailNextsWrongFalsely : Prop := railNextsRow.holds Try.pinned (OpenSpec.ofChange railNextsWrong)

/-- 'hinterlandlaw03.RailTurned': WHATEVER THE INPUT: true; the input reads as it did. -/
def railTurnedSpec : ChangeSpec := { name := "railTurned", fn := fun _ => fun
  | [d1, d2] => { results := [.lit (.bool true)], args := [d1, d2] }
  | _ => none }
def railTurnedRow : OpenClaim := { program := "ytbndaabjlfdfcaa", sum := "3e5c5389c31cdcdbcf7051eab1f3bbc79322970d5ae808189ed3e71243a6462b", func := "hinterland/hinterlandlaw03.RailTurned", spec := "railTurned", plainKeys := false, apart := false }
def RailTurnedSaid : Prop := railTurnedRow.holds Try.pinned (OpenSpec.ofChange railTurnedSpec)

/-- ITS FALSE NEIGHBOUR: 'it returns false'. Refute it at one input. -/
def railTurnedWrong : ChangeSpec := { name := "railTurned", fn := fun _ => fun
  | [d1, d2] => { results := [.lit (.bool false)], args := [d1, d2] }
  | _ => none }
def RailTurnedWrongFalsely : Prop := railTurnedRow.holds Try.pinned (OpenSpec.ofChange railTurnedWrong)

/-- 'hinterlandlaw03.RailWays': WHATEVER THE INPUT: true; the input reads as it did. -/
def railWaysSpec : ChangeSpec := { name := "railWays", fn := fun _ => fun
  | [d1, d2] => { results := [.lit (.bool true)], args := [d1, d2] }
  | _ => none }
def railWaysRow : OpenClaim := { program := "ytbndaabjlfdfcaa", sum := "3e5c5389c31cdcdbcf7051eab1f3bbc79322970d5ae808189ed3e71243a6462b", func := "hinterland/hinterlandlaw03.RailWays", spec := "railWays", plainKeys := false, apart := false }
def RailWaysSaid : Prop := railWaysRow.holds Try.pinned (OpenSpec.ofChange railWaysSpec)

/-- ITS FALSE NEIGHBOUR: 'it returns false'. Refute it at one input. -/
def railWaysWrong : ChangeSpec := { name := "railWays", fn := fun _ => fun
  | [d1, d2] => { results := [.lit (.bool false)], args := [d1, d2] }
  | _ => none }
def RailWaysWrongFalsely : Prop := railWaysRow.holds Try.pinned (OpenSpec.ofChange railWaysWrong)

/-- 'hinterlandlaw03.RailWaysBack': WHATEVER THE INPUT: true; the input reads as it did. -/
def railWaysBackSpec : ChangeSpec := { name := "railWaysBack", fn := fun _ => fun
  | [d1, d2] => { results := [.lit (.bool true)], args := [d1, d2] }
  | _ => none }
def railWaysBackRow : OpenClaim := { program := "ytbndaabjlfdfcaa", sum := "3e5c5389c31cdcdbcf7051eab1f3bbc79322970d5ae808189ed3e71243a6462b", func := "hinterland/hinterlandlaw03.RailWaysBack", spec := "railWaysBack", plainKeys := false, apart := false }
def RailWaysBackSaid : Prop := railWaysBackRow.holds Try.pinned (OpenSpec.ofChange railWaysBackSpec)

/-- ITS FALSE NEIGHBOUR: 'it returns false'. Refute it at one input. -/
def railWaysBackWrong : ChangeSpec := { name := "railWaysBack", fn := fun _ => fun
  | [d1, d2] => { results := [.lit (.bool false)], args := [d1, d2] }
  | _ => none }
def RailWaysBackWrongFalsely : Prop := railWaysBackRow.holds Try.pinned (OpenSpec.ofChange railWaysBackWrong)

/-- 'hinterlandlaw03.RailReaches': WHATEVER THE INPUT: true; the input reads as it did. -/
def railReachesSpec : ChangeSpec := { name := "railReaches", fn := fun _ => fun
  | [d1, d2, d3] => { results := [.lit (.bool true)], args := [d1, d2, d3] }
  | _ => none }
def railReachesRow : OpenClaim := { program := "ytbndaabjlfdfcaa", sum := "3e5c5389c31cdcdbcf7051eab1f3bbc79322970d5ae808189ed3e71243a6462b", func := "hinterland/hinterlandlaw03.RailReaches", spec := "railReaches", unfollowed := true, recurses := true, plainKeys := false, apart := false }
def RailReachesSaid : Prop := railReachesRow.holds Try.pinned (OpenSpec.ofChange railReachesSpec)

/-- ITS FALSE NEIGHBOUR: 'it returns false'. Refute it at one input. -/
def railReachesWrong : ChangeSpec := { name := "railReaches", fn := fun _ => fun
  | [d1, d2, d3] => { results := [.lit (.bool false)], args := [d1, d2, d3] }
  | _ => none }
def RailReachesWrongFalsely : Prop := railReachesRow.holds Try.pinned (OpenSpec.ofChange railReachesWrong)

/-- 'hinterlandlaw03.RailParts': WHATEVER THE INPUT: true; the input reads as it did. -/
def railPartsSpec : ChangeSpec := { name := "railParts", fn := fun _ => fun
  | [d1, d2, d3, d4] => { results := [.lit (.bool true)], args := [d1, d2, d3, d4] }
  | _ => none }
def railPartsRow : OpenClaim := { program := "ytbndaabjlfdfcaa", sum := "3e5c5389c31cdcdbcf7051eab1f3bbc79322970d5ae808189ed3e71243a6462b", func := "hinterland/hinterlandlaw03.RailParts", spec := "railParts", unfollowed := true, recurses := true, plainKeys := false, apart := false }
def RailPartsSaid : Prop := railPartsRow.holds Try.pinned (OpenSpec.ofChange railPartsSpec)

/-- ITS FALSE NEIGHBOUR: 'it returns false'. Refute it at one input. -/
def railPartsWrong : ChangeSpec := { name := "railParts", fn := fun _ => fun
  | [d1, d2, d3, d4] => { results := [.lit (.bool false)], args := [d1, d2, d3, d4] }
  | _ => none }
def RailPartsWrongFalsely : Prop := railPartsRow.holds Try.pinned (OpenSpec.ofChange railPartsWrong)

/- THE SECOND FORM. 'bulk': how many values and letters a reading holds, each counted each time it is reached (what is shared counts as often as it is met; a slice's spare places count too). A statement '..UptoSaid' is the law's where the arguments, and the package variables that the reading takes, are together of bulk at most 1048576: NARROWER than '..Said'. Prove '..Said' where nothing that the law and all that it calls make is longer than what came in: it says more and counts as full. Else prove '..UptoSaid'. A law counts once. -/
mutual
def uptoBulk {H : Type} : DataW H → Nat
  | .lit (.string bytes) => bytes.length + 1
  | .lit _ => 1
  | .nil => 1
  | .ptr d => uptoBulk d + 1
  | .slice elems spare => uptoBulkAll elems + uptoBulkAll spare + 1
  | .agg parts => uptoBulkAll parts + 1
  | .iface _ d => uptoBulk d + 1
  | .map entries => uptoBulkEntries entries + 1
  | .held _ => 1
def uptoBulkAll {H : Type} : List (DataW H) → Nat
  | [] => 0
  | d :: r => uptoBulk d + uptoBulkAll r
def uptoBulkEntries {H : Type} : List (Lit × DataW H) → Nat
  | [] => 0
  | x :: r => uptoBulkEntry x + uptoBulkEntries r
def uptoBulkEntry {H : Type} : Lit × DataW H → Nat
  | (.string bytes, d) => bytes.length + uptoBulk d + 1
  | (_, d) => uptoBulk d + 1
 end
def uptoSmall : (H : Type) → List (DataW H) → Bool := fun _ ds => decide (uptoBulkAll ds ≤ 1048576)
def OpenSpec.upto (s : _root_.Go.ChangeSpec) : _root_.Go.OpenSpec := { _root_.Go.OpenSpec.ofChange s with cond := some uptoSmall }

/-- 'hinterlandlaw03.RailValidates', WHERE WHAT IT READS IS OF BULK AT MOST 1048576: true; the input reads as it did. -/
def railValidatesUptoRow : OpenClaim := { program := "ytbndaabjlfdfcaa", sum := "3e5c5389c31cdcdbcf7051eab1f3bbc79322970d5ae808189ed3e71243a6462b", func := "hinterland/hinterlandlaw03.RailValidates", spec := "railValidates", plainKeys := false, apart := false, narrowed := true }
def RailValidatesUptoSaid : Prop := railValidatesUptoRow.holds Try.pinned (OpenSpec.upto railValidatesSpec)

/-- 'hinterlandlaw03.RailEnds', WHERE WHAT IT READS IS OF BULK AT MOST 1048576: true; the input reads as it did. -/
def railEndsUptoRow : OpenClaim := { program := "ytbndaabjlfdfcaa", sum := "3e5c5389c31cdcdbcf7051eab1f3bbc79322970d5ae808189ed3e71243a6462b", func := "hinterland/hinterlandlaw03.RailEnds", spec := "railEnds", plainKeys := false, apart := false, narrowed := true }
def RailEndsUptoSaid : Prop := railEndsUptoRow.holds Try.pinned (OpenSpec.upto railEndsSpec)

/-- 'hinterlandlaw03.RailCosts', WHERE WHAT IT READS IS OF BULK AT MOST 1048576: true; the input reads as it did. -/
def railCostsUptoRow : OpenClaim := { program := "ytbndaabjlfdfcaa", sum := "3e5c5389c31cdcdbcf7051eab1f3bbc79322970d5ae808189ed3e71243a6462b", func := "hinterland/hinterlandlaw03.RailCosts", spec := "railCosts", plainKeys := false, apart := false, narrowed := true }
def RailCostsUptoSaid : Prop := railCostsUptoRow.holds Try.pinned (OpenSpec.upto railCostsSpec)

/-- 'hinterlandlaw03.RailLifts', WHERE WHAT IT READS IS OF BULK AT MOST 1048576: true; the input reads as it did. -/
def railLiftsUptoRow : OpenClaim := { program := "ytbndaabjlfdfcaa", sum := "3e5c5389c31cdcdbcf7051eab1f3bbc79322970d5ae808189ed3e71243a6462b", func := "hinterland/hinterlandlaw03.RailLifts", spec := "railLifts", plainKeys := false, apart := false, narrowed := true }
def RailLiftsUptoSaid : Prop := railLiftsUptoRow.holds Try.pinned (OpenSpec.upto railLiftsSpec)

/-- 'hinterlandlaw03.RailLays', WHERE WHAT IT READS IS OF BULK AT MOST 1048576: true; the input reads as it did. -/
def railLaysUptoRow : OpenClaim := { program := "ytbndaabjlfdfcaa", sum := "3e5c5389c31cdcdbcf7051eab1f3bbc79322970d5ae808189ed3e71243a6462b", func := "hinterland/hinterlandlaw03.RailLays", spec := "railLays", plainKeys := false, apart := false, narrowed := true }
def RailLaysUptoSaid : Prop := railLaysUptoRow.holds Try.pinned (OpenSpec.upto railLaysSpec)

/-- 'hinterlandlaw03.RailUndone', WHERE WHAT IT READS IS OF BULK AT MOST 1048576: true; the input reads as it did. -/
def railUndoneUptoRow : OpenClaim := { program := "ytbndaabjlfdfcaa", sum := "3e5c5389c31cdcdbcf7051eab1f3bbc79322970d5ae808189ed3e71243a6462b", func := "hinterland/hinterlandlaw03.RailUndone", spec := "railUndone", plainKeys := false, apart := false, narrowed := true }
def RailUndoneUptoSaid : Prop := railUndoneUptoRow.holds Try.pinned (OpenSpec.upto railUndoneSpec)

/-- 'hinterlandlaw03.RailLoose', WHERE WHAT IT READS IS OF BULK AT MOST 1048576: true; the input reads as it did. -/
def railLooseUptoRow : OpenClaim := { program := "ytbndaabjlfdfcaa", sum := "3e5c5389c31cdcdbcf7051eab1f3bbc79322970d5ae808189ed3e71243a6462b", func := "hinterland/hinterlandlaw03.RailLoose", spec := "railLoose", plainKeys := false, apart := false, narrowed := true }
def RailLooseUptoSaid : Prop := railLooseUptoRow.holds Try.pinned (OpenSpec.upto railLooseSpec)

/-- 'hinterlandlaw03.RailNexts', WHERE WHAT IT READS IS OF BULK AT MOST 1048576: true; the input reads as it did. -/
def railNextsUptoRow : OpenClaim := { program := "ytbndaabjlfdfcaa", sum := "3e5c5389c31cdcdbcf7051eab1f3bbc79322970d5ae808189ed3e71243a6462b", func := "hinterland/hinterlandlaw03.RailNexts", spec := "railNexts", plainKeys := false, apart := false, narrowed := true }
def RailNextsUptoSaid : Prop := railNextsUptoRow.holds Try.pinned (OpenSpec.upto railNextsSpec)

/-- 'hinterlandlaw03.RailTurned', WHERE WHAT IT READS IS OF BULK AT MOST 1048576: true; the input reads as it did. -/
def railTurnedUptoRow : OpenClaim := { program := "ytbndaabjlfdfcaa", sum := "3e5c5389c31cdcdbcf7051eab1f3bbc79322970d5ae808189ed3e71243a6462b", func := "hinterland/hinterlandlaw03.RailTurned", spec := "railTurned", plainKeys := false, apart := false, narrowed := true }
def RailTurnedUptoSaid : Prop := railTurnedUptoRow.holds Try.pinned (OpenSpec.upto railTurnedSpec)

/-- 'hinterlandlaw03.RailWays', WHERE WHAT IT READS IS OF BULK AT MOST 1048576: true; the input reads as it did. -/
def railWaysUptoRow : OpenClaim := { program := "ytbndaabjlfdfcaa", sum := "3e5c5389c31cdcdbcf7051eab1f3bbc79322970d5ae808189ed3e71243a6462b", func := "hinterland/hinterlandlaw03.RailWays", spec := "railWays", plainKeys := false, apart := false, narrowed := true }
def RailWaysUptoSaid : Prop := railWaysUptoRow.holds Try.pinned (OpenSpec.upto railWaysSpec)

/-- 'hinterlandlaw03.RailWaysBack', WHERE WHAT IT READS IS OF BULK AT MOST 1048576: true; the input reads as it did. -/
def railWaysBackUptoRow : OpenClaim := { program := "ytbndaabjlfdfcaa", sum := "3e5c5389c31cdcdbcf7051eab1f3bbc79322970d5ae808189ed3e71243a6462b", func := "hinterland/hinterlandlaw03.RailWaysBack", spec := "railWaysBack", plainKeys := false, apart := false, narrowed := true }
def RailWaysBackUptoSaid : Prop := railWaysBackUptoRow.holds Try.pinned (OpenSpec.upto railWaysBackSpec)

/-- 'hinterlandlaw03.RailReaches', WHERE WHAT IT READS IS OF BULK AT MOST 1048576: true; the input reads as it did. -/
def railReachesUptoRow : OpenClaim := { program := "ytbndaabjlfdfcaa", sum := "3e5c5389c31cdcdbcf7051eab1f3bbc79322970d5ae808189ed3e71243a6462b", func := "hinterland/hinterlandlaw03.RailReaches", spec := "railReaches", unfollowed := true, recurses := true, plainKeys := false, apart := false, narrowed := true }
def RailReachesUptoSaid : Prop := railReachesUptoRow.holds Try.pinned (OpenSpec.upto railReachesSpec)

/-- 'hinterlandlaw03.RailParts', WHERE WHAT IT READS IS OF BULK AT MOST 1048576: true; the input reads as it did. -/
def railPartsUptoRow : OpenClaim := { program := "ytbndaabjlfdfcaa", sum := "3e5c5389c31cdcdbcf7051eab1f3bbc79322970d5ae808189ed3e71243a6462b", func := "hinterland/hinterlandlaw03.RailParts", spec := "railParts", unfollowed := true, recurses := true, plainKeys := false, apart := false, narrowed := true }
def RailPartsUptoSaid : Prop := railPartsUptoRow.holds Try.pinned (OpenSpec.upto railPartsSpec)

end Rows
end Go.Proofs.Ytbndaabjlfdfcaa
