/-
  No cell of these rows narrows 'for every input' (looked for: loops, veiled, ifaces, maps, wideKeys, modest, calm, conditions, laid).
  DERIVED. THE GIVEN ROWS OF THIS SEAT. 14 by the template 'for every input the law returns true; each argument reads behind the call as it read before'; 0 by the template 'total and deterministic' (their statements: YtmphplpfgjcpiaaTotals.lean).
  GIVEN WITH THE SEED: the statements are not yours to turn. If you find one false, say at which input.
  Laid BY PROGRAM, IN A SANDBOX (cutbox-rows.mjs): the forced cells as the released guide's own fill.sh prints them over the translation 4e0251d633b54b02… (all of the seat's roots in one cut). By AI agents, Wed Nov 11 2026. No macro, syntax, notation, axiom, sorry.
-/
import Derived.Test.YtmphplpfgjcpiaaChecked
import GoSem.Claim
import GoSem.ClaimJoined
import GoSem.ClaimMapViews
import Derived.JoinedTies
import Derived.KernelRfl
namespace Go.Proofs.Ytmphplpfgjcpiaa
/- THE CELL 'sum', in the pinned program and in every row, IS THE sha256 OF THE DUMP (.gsa) THAT YtmphplpfgjcpiaaProg.lean LOADS. Nothing in Lean hashes anything: it is a label: what it is worth is what the hold of that sum in a sandbox is worth. -/
noncomputable def Try.pinned : Pinned := { name := "ytmphplpfgjcpiaa", sum := "4e0251d633b54b02ee4e8d4cc7af0b1f8e2133f3db73a80ed28efe31b7857338", checked := Try.checked }
namespace Rows
def none {H : Type} : Left H := { results := [], args := [] }

/-- 'hinterlandlaw09.CargoPays': WHATEVER THE INPUT: true; the input reads as it did. -/
def cargoPaysSpec : ChangeSpec := { name := "cargoPays", fn := fun _ => fun
  | [d1, d2, d3, d4] => { results := [.lit (.bool true)], args := [d1, d2, d3, d4] }
  | _ => none }
def cargoPaysRow : OpenClaim := { program := "ytmphplpfgjcpiaa", sum := "4e0251d633b54b02ee4e8d4cc7af0b1f8e2133f3db73a80ed28efe31b7857338", func := "hinterland/hinterlandlaw09.CargoPays", spec := "cargoPays", named := ["math/bits.divideError", "math/bits.overflowError"], plainKeys := false, apart := false }
def CargoPaysSaid : Prop := cargoPaysRow.holds Try.pinned (OpenSpec.ofChange cargoPaysSpec)

/-- ITS FALSE NEIGHBOUR: 'it returns false'. Refute it at one input. -/
def cargoPaysWrong : ChangeSpec := { name := "cargoPays", fn := fun _ => fun
  | [d1, d2, d3, d4] => { results := [.lit (.bool false)], args := [d1, d2, d3, d4] }
  | _ => none }
def CargoPaysWrongFalsely : Prop := cargoPaysRow.holds Try.pinned (OpenSpec.ofChange cargoPaysWrong)

/-- 'hinterlandlaw09.CargoSlower': WHATEVER THE INPUT: true; the input reads as it did. -/
def cargoSlowerSpec : ChangeSpec := { name := "cargoSlower", fn := fun _ => fun
  | [d1, d2, d3, d4, d5, d6, d7] => { results := [.lit (.bool true)], args := [d1, d2, d3, d4, d5, d6, d7] }
  | _ => none }
def cargoSlowerRow : OpenClaim := { program := "ytmphplpfgjcpiaa", sum := "4e0251d633b54b02ee4e8d4cc7af0b1f8e2133f3db73a80ed28efe31b7857338", func := "hinterland/hinterlandlaw09.CargoSlower", spec := "cargoSlower", named := ["math/bits.divideError", "math/bits.overflowError"], plainKeys := false, apart := false }
def CargoSlowerSaid : Prop := cargoSlowerRow.holds Try.pinned (OpenSpec.ofChange cargoSlowerSpec)

/-- ITS FALSE NEIGHBOUR: 'it returns false'. Refute it at one input. -/
def cargoSlowerWrong : ChangeSpec := { name := "cargoSlower", fn := fun _ => fun
  | [d1, d2, d3, d4, d5, d6, d7] => { results := [.lit (.bool false)], args := [d1, d2, d3, d4, d5, d6, d7] }
  | _ => none }
def CargoSlowerWrongFalsely : Prop := cargoSlowerRow.holds Try.pinned (OpenSpec.ofChange cargoSlowerWrong)

/-- 'hinterlandlaw09.CargoValidates': WHATEVER THE INPUT: true; the input reads as it did. -/
def cargoValidatesSpec : ChangeSpec := { name := "cargoValidates", fn := fun _ => fun
  | [d1, d2] => { results := [.lit (.bool true)], args := [d1, d2] }
  | _ => none }
def cargoValidatesRow : OpenClaim := { program := "ytmphplpfgjcpiaa", sum := "4e0251d633b54b02ee4e8d4cc7af0b1f8e2133f3db73a80ed28efe31b7857338", func := "hinterland/hinterlandlaw09.CargoValidates", spec := "cargoValidates", named := ["math/bits.divideError", "math/bits.overflowError"], plainKeys := false, apart := false }
def CargoValidatesSaid : Prop := cargoValidatesRow.holds Try.pinned (OpenSpec.ofChange cargoValidatesSpec)

/-- ITS FALSE NEIGHBOUR: 'it returns false'. Refute it at one input. -/
def cargoValidatesWrong : ChangeSpec := { name := "cargoValidates", fn := fun _ => fun
  | [d1, d2] => { results := [.lit (.bool false)], args := [d1, d2] }
  | _ => none }
def CargoValidatesWrongFalsely : Prop := cargoValidatesRow.holds Try.pinned (OpenSpec.ofChange cargoValidatesWrong)

/-- 'hinterlandlaw09.CargoSums': WHATEVER THE INPUT: true; the input reads as it did. -/
def cargoSumsSpec : ChangeSpec := { name := "cargoSums", fn := fun _ => fun
  | [d1, d2] => { results := [.lit (.bool true)], args := [d1, d2] }
  | _ => none }
def cargoSumsRow : OpenClaim := { program := "ytmphplpfgjcpiaa", sum := "4e0251d633b54b02ee4e8d4cc7af0b1f8e2133f3db73a80ed28efe31b7857338", func := "hinterland/hinterlandlaw09.CargoSums", spec := "cargoSums", named := ["math/bits.divideError", "math/bits.overflowError"], plainKeys := false, apart := false }
def CargoSumsSaid : Prop := cargoSumsRow.holds Try.pinned (OpenSpec.ofChange cargoSumsSpec)

/-- ITS FALSE NEIGHBOUR: 'it returns false'. Refute it at one input. -/
def cargoSumsWrong : ChangeSpec := { name := "cargoSums", fn := fun _ => fun
  | [d1, d2] => { results := [.lit (.bool false)], args := [d1, d2] }
  | _ => none }
def CargoSumsWrongFalsely : Prop := cargoSumsRow.holds Try.pinned (OpenSpec.ofChange cargoSumsWrong)

/-- 'hinterlandlaw09.CargoDelivers': WHATEVER THE INPUT: true; the input reads as it did. -/
def cargoDeliversSpec : ChangeSpec := { name := "cargoDelivers", fn := fun _ => fun
  | [d1, d2, d3, d4] => { results := [.lit (.bool true)], args := [d1, d2, d3, d4] }
  | _ => none }
def cargoDeliversRow : OpenClaim := { program := "ytmphplpfgjcpiaa", sum := "4e0251d633b54b02ee4e8d4cc7af0b1f8e2133f3db73a80ed28efe31b7857338", func := "hinterland/hinterlandlaw09.CargoDelivers", spec := "cargoDelivers", named := ["math/bits.divideError", "math/bits.overflowError"], plainKeys := false, apart := false }
def CargoDeliversSaid : Prop := cargoDeliversRow.holds Try.pinned (OpenSpec.ofChange cargoDeliversSpec)

/-- ITS FALSE NEIGHBOUR: 'it returns false'. Refute it at one input. -/
def cargoDeliversWrong : ChangeSpec := { name := "cargoDelivers", fn := fun _ => fun
  | [d1, d2, d3, d4] => { results := [.lit (.bool false)], args := [d1, d2, d3, d4] }
  | _ => none }
def CargoDeliversWrongFalsely : Prop := cargoDeliversRow.holds Try.pinned (OpenSpec.ofChange cargoDeliversWrong)

/-- 'hinterlandlaw09.CargoTransfers': WHATEVER THE INPUT: true; the input reads as it did. -/
def cargoTransfersSpec : ChangeSpec := { name := "cargoTransfers", fn := fun _ => fun
  | [d1, d2, d3, d4] => { results := [.lit (.bool true)], args := [d1, d2, d3, d4] }
  | _ => none }
def cargoTransfersRow : OpenClaim := { program := "ytmphplpfgjcpiaa", sum := "4e0251d633b54b02ee4e8d4cc7af0b1f8e2133f3db73a80ed28efe31b7857338", func := "hinterland/hinterlandlaw09.CargoTransfers", spec := "cargoTransfers", named := ["math/bits.divideError", "math/bits.overflowError"], plainKeys := false, apart := false }
def CargoTransfersSaid : Prop := cargoTransfersRow.holds Try.pinned (OpenSpec.ofChange cargoTransfersSpec)

/-- ITS FALSE NEIGHBOUR: 'it returns false'. Refute it at one input. -/
def cargoTransfersWrong : ChangeSpec := { name := "cargoTransfers", fn := fun _ => fun
  | [d1, d2, d3, d4] => { results := [.lit (.bool false)], args := [d1, d2, d3, d4] }
  | _ => none }
def CargoTransfersWrongFalsely : Prop := cargoTransfersRow.holds Try.pinned (OpenSpec.ofChange cargoTransfersWrong)

/-- 'hinterlandlaw09.CargoTwice': WHATEVER THE INPUT: true; the input reads as it did. -/
def cargoTwiceSpec : ChangeSpec := { name := "cargoTwice", fn := fun _ => fun
  | [d1, d2, d3, d4] => { results := [.lit (.bool true)], args := [d1, d2, d3, d4] }
  | _ => none }
def cargoTwiceRow : OpenClaim := { program := "ytmphplpfgjcpiaa", sum := "4e0251d633b54b02ee4e8d4cc7af0b1f8e2133f3db73a80ed28efe31b7857338", func := "hinterland/hinterlandlaw09.CargoTwice", spec := "cargoTwice", named := ["math/bits.divideError", "math/bits.overflowError"], plainKeys := false, apart := false }
def CargoTwiceSaid : Prop := cargoTwiceRow.holds Try.pinned (OpenSpec.ofChange cargoTwiceSpec)

/-- ITS FALSE NEIGHBOUR: 'it returns false'. Refute it at one input. -/
def cargoTwiceWrong : ChangeSpec := { name := "cargoTwice", fn := fun _ => fun
  | [d1, d2, d3, d4] => { results := [.lit (.bool false)], args := [d1, d2, d3, d4] }
  | _ => none }
def CargoTwiceWrongFalsely : Prop := cargoTwiceRow.holds Try.pinned (OpenSpec.ofChange cargoTwiceWrong)

/-- 'hinterlandlaw09.CargoTakes': WHATEVER THE INPUT: true; the input reads as it did. -/
def cargoTakesSpec : ChangeSpec := { name := "cargoTakes", fn := fun _ => fun
  | [d1, d2, d3] => { results := [.lit (.bool true)], args := [d1, d2, d3] }
  | _ => none }
def cargoTakesRow : OpenClaim := { program := "ytmphplpfgjcpiaa", sum := "4e0251d633b54b02ee4e8d4cc7af0b1f8e2133f3db73a80ed28efe31b7857338", func := "hinterland/hinterlandlaw09.CargoTakes", spec := "cargoTakes", unfollowed := true, recurses := true, named := ["math/bits.divideError", "math/bits.overflowError"], plainKeys := false, apart := false }
def CargoTakesSaid : Prop := cargoTakesRow.holds Try.pinned (OpenSpec.ofChange cargoTakesSpec)

/-- ITS FALSE NEIGHBOUR: 'it returns false'. Refute it at one input. -/
def cargoTakesWrong : ChangeSpec := { name := "cargoTakes", fn := fun _ => fun
  | [d1, d2, d3] => { results := [.lit (.bool false)], args := [d1, d2, d3] }
  | _ => none }
def CargoTakesWrongFalsely : Prop := cargoTakesRow.holds Try.pinned (OpenSpec.ofChange cargoTakesWrong)

/-- 'hinterlandlaw09.CargoAges': WHATEVER THE INPUT: true; the input reads as it did. -/
def cargoAgesSpec : ChangeSpec := { name := "cargoAges", fn := fun _ => fun
  | [d1, d2] => { results := [.lit (.bool true)], args := [d1, d2] }
  | _ => none }
def cargoAgesRow : OpenClaim := { program := "ytmphplpfgjcpiaa", sum := "4e0251d633b54b02ee4e8d4cc7af0b1f8e2133f3db73a80ed28efe31b7857338", func := "hinterland/hinterlandlaw09.CargoAges", spec := "cargoAges", unfollowed := true, recurses := true, named := ["math/bits.divideError", "math/bits.overflowError"], plainKeys := false, apart := false }
def CargoAgesSaid : Prop := cargoAgesRow.holds Try.pinned (OpenSpec.ofChange cargoAgesSpec)

/-- ITS FALSE NEIGHBOUR: 'it returns false'. Refute it at one input. -/
def cargoAgesWrong : ChangeSpec := { name := "cargoAges", fn := fun _ => fun
  | [d1, d2] => { results := [.lit (.bool false)], args := [d1, d2] }
  | _ => none }
def CargoAgesWrongFalsely : Prop := cargoAgesRow.holds Try.pinned (OpenSpec.ofChange cargoAgesWrong)

/-- 'hinterlandlaw09.CargoAgesAdd': WHATEVER THE INPUT: true; the input reads as it did. -/
def cargoAgesAddSpec : ChangeSpec := { name := "cargoAgesAdd", fn := fun _ => fun
  | [d1, d2, d3] => { results := [.lit (.bool true)], args := [d1, d2, d3] }
  | _ => none }
def cargoAgesAddRow : OpenClaim := { program := "ytmphplpfgjcpiaa", sum := "4e0251d633b54b02ee4e8d4cc7af0b1f8e2133f3db73a80ed28efe31b7857338", func := "hinterland/hinterlandlaw09.CargoAgesAdd", spec := "cargoAgesAdd", unfollowed := true, recurses := true, named := ["math/bits.divideError", "math/bits.overflowError"], plainKeys := false, apart := false }
def CargoAgesAddSaid : Prop := cargoAgesAddRow.holds Try.pinned (OpenSpec.ofChange cargoAgesAddSpec)

/-- ITS FALSE NEIGHBOUR: 'it returns false'. Refute it at one input. -/
def cargoAgesAddWrong : ChangeSpec := { name := "cargoAgesAdd", fn := fun _ => fun
  | [d1, d2, d3] => { results := [.lit (.bool false)], args := [d1, d2, d3] }
  | _ => none }
def CargoAgesAddWrongFalsely : Prop := cargoAgesAddRow.holds Try.pinned (OpenSpec.ofChange cargoAgesAddWrong)

/-- 'hinterlandlaw09.CargoJoins': WHATEVER THE INPUT: true; the input reads as it did. -/
def cargoJoinsSpec : ChangeSpec := { name := "cargoJoins", fn := fun _ => fun
  | [d1, d2] => { results := [.lit (.bool true)], args := [d1, d2] }
  | _ => none }
def cargoJoinsRow : OpenClaim := { program := "ytmphplpfgjcpiaa", sum := "4e0251d633b54b02ee4e8d4cc7af0b1f8e2133f3db73a80ed28efe31b7857338", func := "hinterland/hinterlandlaw09.CargoJoins", spec := "cargoJoins", unfollowed := true, recurses := true, named := ["math/bits.divideError", "math/bits.overflowError"], plainKeys := false, apart := false }
def CargoJoinsSaid : Prop := cargoJoinsRow.holds Try.pinned (OpenSpec.ofChange cargoJoinsSpec)

/-- ITS FALSE NEIGHBOUR: 'it returns false'. Refute it at one input. -/
def cargoJoinsWrong : ChangeSpec := { name := "cargoJoins", fn := fun _ => fun
  | [d1, d2] => { results := [.lit (.bool false)], args := [d1, d2] }
  | _ => none }
def CargoJoinsWrongFalsely : Prop := cargoJoinsRow.holds Try.pinned (OpenSpec.ofChange cargoJoinsWrong)

/-- 'hinterlandlaw09.CargoTogether': WHATEVER THE INPUT: true; the input reads as it did. -/
def cargoTogetherSpec : ChangeSpec := { name := "cargoTogether", fn := fun _ => fun
  | [d1, d2, d3] => { results := [.lit (.bool true)], args := [d1, d2, d3] }
  | _ => none }
def cargoTogetherRow : OpenClaim := { program := "ytmphplpfgjcpiaa", sum := "4e0251d633b54b02ee4e8d4cc7af0b1f8e2133f3db73a80ed28efe31b7857338", func := "hinterland/hinterlandlaw09.CargoTogether", spec := "cargoTogether", unfollowed := true, recurses := true, named := ["math/bits.divideError", "math/bits.overflowError"], plainKeys := false, apart := false }
def CargoTogetherSaid : Prop := cargoTogetherRow.holds Try.pinned (OpenSpec.ofChange cargoTogetherSpec)

/-- ITS FALSE NEIGHBOUR: 'it returns false'. Refute it at one input. -/
def cargoTogetherWrong : ChangeSpec := { name := "cargoTogether", fn := fun _ => fun
  | [d1, d2, d3] => { results := [.lit (.bool false)], args := [d1, d2, d3] }
  | _ => none }
def CargoTogetherWrongFalsely : Prop := cargoTogetherRow.holds Try.pinned (OpenSpec.ofChange cargoTogetherWrong)

/-- 'hinterlandlaw09.CargoTrims': WHATEVER THE INPUT: true; the input reads as it did. -/
def cargoTrimsSpec : ChangeSpec := { name := "cargoTrims", fn := fun _ => fun
  | [d1, d2, d3] => { results := [.lit (.bool true)], args := [d1, d2, d3] }
  | _ => none }
def cargoTrimsRow : OpenClaim := { program := "ytmphplpfgjcpiaa", sum := "4e0251d633b54b02ee4e8d4cc7af0b1f8e2133f3db73a80ed28efe31b7857338", func := "hinterland/hinterlandlaw09.CargoTrims", spec := "cargoTrims", unfollowed := true, recurses := true, named := ["math/bits.divideError", "math/bits.overflowError"], plainKeys := false, apart := false }
def CargoTrimsSaid : Prop := cargoTrimsRow.holds Try.pinned (OpenSpec.ofChange cargoTrimsSpec)

/-- ITS FALSE NEIGHBOUR: 'it returns false'. Refute it at one input. -/
def cargoTrimsWrong : ChangeSpec := { name := "cargoTrims", fn := fun _ => fun
  | [d1, d2, d3] => { results := [.lit (.bool false)], args := [d1, d2, d3] }
  | _ => none }
def CargoTrimsWrongFalsely : Prop := cargoTrimsRow.holds Try.pinned (OpenSpec.ofChange cargoTrimsWrong)

/-- 'hinterlandlaw09.CargoParts': WHATEVER THE INPUT: true; the input reads as it did. -/
def cargoPartsSpec : ChangeSpec := { name := "cargoParts", fn := fun _ => fun
  | [d1, d2, d3, d4] => { results := [.lit (.bool true)], args := [d1, d2, d3, d4] }
  | _ => none }
def cargoPartsRow : OpenClaim := { program := "ytmphplpfgjcpiaa", sum := "4e0251d633b54b02ee4e8d4cc7af0b1f8e2133f3db73a80ed28efe31b7857338", func := "hinterland/hinterlandlaw09.CargoParts", spec := "cargoParts", unfollowed := true, recurses := true, named := ["math/bits.divideError", "math/bits.overflowError"], plainKeys := false, apart := false }
def CargoPartsSaid : Prop := cargoPartsRow.holds Try.pinned (OpenSpec.ofChange cargoPartsSpec)

/-- ITS FALSE NEIGHBOUR: 'it returns false'. Refute it at one input. -/
def cargoPartsWrong : ChangeSpec := { name := "cargoParts", fn := fun _ => fun
  | [d1, d2, d3, d4] => { results := [.lit (.bool false)], args := [d1, d2, d3, d4] }
  | _ => none }
def CargoPartsWrongFalsely : Prop := cargoPartsRow.holds Try.pinned (OpenSpec.ofChange cargoPartsWrong)

/- THE SECOND FORM. 'bulk': how many values and letters a reading holds, each counted each time it is reached (what is shared counts as often as it is met; a slice's spare places count too). A statement '..UptoSaid' is the law's where the arguments, and the package variables that the reading takes, are together of bulk at most 1048576: NARROWER than '..Said'. Prove '..Said' where nothing that the law and all that it calls make is longer than what came in: it says more and counts as full. Else prove '..UptoSaid'. A law counts once. -/
mutual
def uptoBulk {H : Type} : DataW H → Nat
  | .lit (.string bytes) => bytes.length + 1
  | .lit _ => 1
  | .nil => 1
  | .ptr d => uptoBulk d + 1
  | .slice elems spare => uptoBulkAll elems + uptoBulkAll spare + 1
  | .agg parts => uptoBulkAll parts + 1
  | .iface _ d => uptoBulk d + 1
  | .map entries => uptoBulkEntries entries + 1
  | .held _ => 1
def uptoBulkAll {H : Type} : List (DataW H) → Nat
  | [] => 0
  | d :: r => uptoBulk d + uptoBulkAll r
def uptoBulkEntries {H : Type} : List (Lit × DataW H) → Nat
  | [] => 0
  | x :: r => uptoBulkEntry x + uptoBulkEntries r
def uptoBulkEntry {H : Type} : Lit × DataW H → Nat
  | (.string bytes, d) => bytes.length + uptoBulk d + 1
  | (_, d) => uptoBulk d + 1
 end
def uptoSmall : (H : Type) → List (DataW H) → Bool := fun _ ds => decide (uptoBulkAll ds ≤ 1048576)
def OpenSpec.upto (s : _root_.Go.ChangeSpec) : _root_.Go.OpenSpec := { _root_.Go.OpenSpec.ofChange s with cond := some uptoSmall }

/-- 'hinterlandlaw09.CargoPays', WHERE WHAT IT READS IS OF BULK AT MOST 1048576: true; the input reads as it did. -/
def cargoPaysUptoRow : OpenClaim := { program := "ytmphplpfgjcpiaa", sum := "4e0251d633b54b02ee4e8d4cc7af0b1f8e2133f3db73a80ed28efe31b7857338", func := "hinterland/hinterlandlaw09.CargoPays", spec := "cargoPays", named := ["math/bits.divideError", "math/bits.overflowError"], plainKeys := false, apart := false, narrowed := true }
def CargoPaysUptoSaid : Prop := cargoPaysUptoRow.holds Try.pinned (OpenSpec.upto cargoPaysSpec)

/-- 'hinterlandlaw09.CargoSlower', WHERE WHAT IT READS IS OF BULK AT MOST 1048576: true; the input reads as it did. -/
def cargoSlowerUptoRow : OpenClaim := { program := "ytmphplpfgjcpiaa", sum := "4e0251d633b54b02ee4e8d4cc7af0b1f8e2133f3db73a80ed28efe31b7857338", func := "hinterland/hinterlandlaw09.CargoSlower", spec := "cargoSlower", named := ["math/bits.divideError", "math/bits.overflowError"], plainKeys := false, apart := false, narrowed := true }
def CargoSlowerUptoSaid : Prop := cargoSlowerUptoRow.holds Try.pinned (OpenSpec.upto cargoSlowerSpec)

/-- 'hinterlandlaw09.CargoValidates', WHERE WHAT IT READS IS OF BULK AT MOST 1048576: true; the input reads as it did. -/
def cargoValidatesUptoRow : OpenClaim := { program := "ytmphplpfgjcpiaa", sum := "4e0251d633b54b02ee4e8d4cc7af0b1f8e2133f3db73a80ed28efe31b7857338", func := "hinterland/hinterlandlaw09.CargoValidates", spec := "cargoValidates", named := ["math/bits.divideError", "math/bits.overflowError"], plainKeys := false, apart := false, narrowed := true }
def CargoValidatesUptoSaid : Prop := cargoValidatesUptoRow.holds Try.pinned (OpenSpec.upto cargoValidatesSpec)

/-- 'hinterlandlaw09.CargoSums', WHERE WHAT IT READS IS OF BULK AT MOST 1048576: true; the input reads as it did. -/
def cargoSumsUptoRow : OpenClaim := { program := "ytmphplpfgjcpiaa", sum := "4e0251d633b54b02ee4e8d4cc7af0b1f8e2133f3db73a80ed28efe31b7857338", func := "hinterland/hinterlandlaw09.CargoSums", spec := "cargoSums", named := ["math/bits.divideError", "math/bits.overflowError"], plainKeys := false, apart := false, narrowed := true }
def CargoSumsUptoSaid : Prop := cargoSumsUptoRow.holds Try.pinned (OpenSpec.upto cargoSumsSpec)

/-- 'hinterlandlaw09.CargoDelivers', WHERE WHAT IT READS IS OF BULK AT MOST 1048576: true; the input reads as it did. -/
def cargoDeliversUptoRow : OpenClaim := { program := "ytmphplpfgjcpiaa", sum := "4e0251d633b54b02ee4e8d4cc7af0b1f8e2133f3db73a80ed28efe31b7857338", func := "hinterland/hinterlandlaw09.CargoDelivers", spec := "cargoDelivers", named := ["math/bits.divideError", "math/bits.overflowError"], plainKeys := false, apart := false, narrowed := true }
def CargoDeliversUptoSaid : Prop := cargoDeliversUptoRow.holds Try.pinned (OpenSpec.upto cargoDeliversSpec)

/-- 'hinterlandlaw09.CargoTransfers', WHERE WHAT IT READS IS OF BULK AT MOST 1048576: true; the input reads as it did. -/
def cargoTransfersUptoRow : OpenClaim := { program := "ytmphplpfgjcpiaa", sum := "4e0251d633b54b02ee4e8d4cc7af0b1f8e2133f3db73a80ed28efe31b7857338", func := "hinterland/hinterlandlaw09.CargoTransfers", spec := "cargoTransfers", named := ["math/bits.divideError", "math/bits.overflowError"], plainKeys := false, apart := false, narrowed := true }
def CargoTransfersUptoSaid : Prop := cargoTransfersUptoRow.holds Try.pinned (OpenSpec.upto cargoTransfersSpec)

/-- 'hinterlandlaw09.CargoTwice', WHERE WHAT IT READS IS OF BULK AT MOST 1048576: true; the input reads as it did. -/
def cargoTwiceUptoRow : OpenClaim := { program := "ytmphplpfgjcpiaa", sum := "4e0251d633b54b02ee4e8d4cc7af0b1f8e2133f3db73a80ed28efe31b7857338", func := "hinterland/hinterlandlaw09.CargoTwice", spec := "cargoTwice", named := ["math/bits.divideError", "math/bits.overflowError"], plainKeys := false, apart := false, narrowed := true }
def CargoTwiceUptoSaid : Prop := cargoTwiceUptoRow.holds Try.pinned (OpenSpec.upto cargoTwiceSpec)

/-- 'hinterlandlaw09.CargoTakes', WHERE WHAT IT READS IS OF BULK AT MOST 1048576: true; the input reads as it did. -/
def cargoTakesUptoRow : OpenClaim := { program := "ytmphplpfgjcpiaa", sum := "4e0251d633b54b02ee4e8d4cc7af0b1f8e2133f3db73a80ed28efe31b7857338", func := "hinterland/hinterlandlaw09.CargoTakes", spec := "cargoTakes", unfollowed := true, recurses := true, named := ["math/bits.divideError", "math/bits.overflowError"], plainKeys := false, apart := false, narrowed := true }
def CargoTakesUptoSaid : Prop := cargoTakesUptoRow.holds Try.pinned (OpenSpec.upto cargoTakesSpec)

/-- 'hinterlandlaw09.CargoAges', WHERE WHAT IT READS IS OF BULK AT MOST 1048576: true; the input reads as it did. -/
def cargoAgesUptoRow : OpenClaim := { program := "ytmphplpfgjcpiaa", sum := "4e0251d633b54b02ee4e8d4cc7af0b1f8e2133f3db73a80ed28efe31b7857338", func := "hinterland/hinterlandlaw09.CargoAges", spec := "cargoAges", unfollowed := true, recurses := true, named := ["math/bits.divideError", "math/bits.overflowError"], plainKeys := false, apart := false, narrowed := true }
def CargoAgesUptoSaid : Prop := cargoAgesUptoRow.holds Try.pinned (OpenSpec.upto cargoAgesSpec)

/-- 'hinterlandlaw09.CargoAgesAdd', WHERE WHAT IT READS IS OF BULK AT MOST 1048576: true; the input reads as it did. -/
def cargoAgesAddUptoRow : OpenClaim := { program := "ytmphplpfgjcpiaa", sum := "4e0251d633b54b02ee4e8d4cc7af0b1f8e2133f3db73a80ed28efe31b7857338", func := "hinterland/hinterlandlaw09.CargoAgesAdd", spec := "cargoAgesAdd", unfollowed := true, recurses := true, named := ["math/bits.divideError", "math/bits.overflowError"], plainKeys := false, apart := false, narrowed := true }
def CargoAgesAddUptoSaid : Prop := cargoAgesAddUptoRow.holds Try.pinned (OpenSpec.upto cargoAgesAddSpec)

/-- 'hinterlandlaw09.CargoJoins', WHERE WHAT IT READS IS OF BULK AT MOST 1048576: true; the input reads as it did. -/
def cargoJoinsUptoRow : OpenClaim := { program := "ytmphplpfgjcpiaa", sum := "4e0251d633b54b02ee4e8d4cc7af0b1f8e2133f3db73a80ed28efe31b7857338", func := "hinterland/hinterlandlaw09.CargoJoins", spec := "cargoJoins", unfollowed := true, recurses := true, named := ["math/bits.divideError", "math/bits.overflowError"], plainKeys := false, apart := false, narrowed := true }
def CargoJoinsUptoSaid : Prop := cargoJoinsUptoRow.holds Try.pinned (OpenSpec.upto cargoJoinsSpec)

/-- 'hinterlandlaw09.CargoTogether', WHERE WHAT IT READS IS OF BULK AT MOST 1048576: true; the input reads as it did. -/
def cargoTogetherUptoRow : OpenClaim := { program := "ytmphplpfgjcpiaa", sum := "4e0251d633b54b02ee4e8d4cc7af0b1f8e2133f3db73a80ed28efe31b7857338", func := "hinterland/hinterlandlaw09.CargoTogether", spec := "cargoTogether", unfollowed := true, recurses := true, named := ["math/bits.divideError", "math/bits.overflowError"], plainKeys := false, apart := false, narrowed := true }
def CargoTogetherUptoSaid : Prop := cargoTogetherUptoRow.holds Try.pinned (OpenSpec.upto cargoTogetherSpec)

/-- 'hinterlandlaw09.CargoTrims', WHERE WHAT IT READS IS OF BULK AT MOST 1048576: true; the input reads as it did. -/
def cargoTrimsUptoRow : OpenClaim := { program := "ytmphplpfgjcpiaa", sum := "4e0251d633b54b02ee4e8d4cc7af0b1f8e2133f3db73a80ed28efe31b7857338", func := "hinterland/hinterlandlaw09.CargoTrims", spec := "cargoTrims", unfollowed := true, recurses := true, named := ["math/bits.divideError", "math/bits.overflowError"], plainKeys := false, apart := false, narrowed := true }
def CargoTrimsUptoSaid : Prop := cargoTrimsUptoRow.holds Try.pinned (OpenSpec.upto cargoTrimsSpec)

/-- 'hinterlandlaw09.CargoParts', WHERE WHAT IT READS IS OF BULK AT MOST 1048576: true; the input reads as it did. -/
def cargoPartsUptoRow : OpenClaim := { program := "ytmphplpfgjcpiaa", sum := "4e0251d633b54b02ee4e8d4cc7af0b1f8e2133f3db73a80ed28efe31b7857338", func := "hinterland/hinterlandlaw09.CargoParts", spec := "cargoParts", unfollowed := true, recurses := true, named := ["math/bits.divideError", "math/bits.overflowError"], plainKeys := false, apart := false, narrowed := true }
def CargoPartsUptoSaid : Prop := cargoPartsUptoRow.holds Try.pinned (OpenSpec.upto cargoPartsSpec)

end Rows
end Go.Proofs.Ytmphplpfgjcpiaa
