/-
  No cell of these rows narrows 'for every input' (looked for: loops, veiled, ifaces, maps, wideKeys, modest, calm, conditions, laid).
  DERIVED. THE GIVEN ROWS OF THIS SEAT. 12 by the template 'for every input the law returns true; each argument reads behind the call as it read before'; 0 by the template 'total and deterministic' (their statements: YtojjoinjabogbaaTotals.lean).
  GIVEN WITH THE SEED: the statements are not yours to turn. If you find one false, say at which input.
  Laid BY PROGRAM, IN A SANDBOX (cutbox-rows.mjs): the forced cells as the released guide's own fill.sh prints them over the translation 8ab18279344ca95b… (all of the seat's roots in one cut). By AI agents, Wed Nov 11 2026. No macro, syntax, notation, axiom, sorry.
-/
import Derived.Test.YtojjoinjabogbaaChecked
import GoSem.Claim
import GoSem.ClaimJoined
import GoSem.ClaimMapViews
import Derived.JoinedTies
import Derived.KernelRfl
namespace Go.Proofs.Ytojjoinjabogbaa
/- THE CELL 'sum', in the pinned program and in every row, IS THE sha256 OF THE DUMP (.gsa) THAT YtojjoinjabogbaaProg.lean LOADS. Nothing in Lean hashes anything: it is a label: what it is worth is what the hold of that sum in a sandbox is worth. -/
noncomputable def Try.pinned : Pinned := { name := "ytojjoinjabogbaa", sum := "8ab18279344ca95b31b029bda0fc81ef6cbf67e3166810cc6ff1758a779bedf8", checked := Try.checked }
namespace Rows
def none {H : Type} : Left H := { results := [], args := [] }

/-- 'laws.FnExactShifts': WHATEVER THE INPUT: true; the input reads as it did. -/
def fnExactShiftsSpec : ChangeSpec := { name := "fnExactShifts", fn := fun _ => fun
  | [d1, d2] => { results := [.lit (.bool true)], args := [d1, d2] }
  | _ => none }
def fnExactShiftsRow : OpenClaim := { program := "ytojjoinjabogbaa", sum := "8ab18279344ca95b31b029bda0fc81ef6cbf67e3166810cc6ff1758a779bedf8", func := "loop.example/g00059/laws.FnExactShifts", spec := "fnExactShifts", apart := false }
def FnExactShiftsSaid : Prop := fnExactShiftsRow.holds Try.pinned (OpenSpec.ofChange fnExactShiftsSpec)

/-- ITS FALSE NEIGHBOUR: 'it returns false'. Refute it at one input. -/
def fnExactShiftsWrong : ChangeSpec := { name := "fnExactShifts", fn := fun _ => fun
  | [d1, d2] => { results := [.lit (.bool false)], args := [d1, d2] }
  | _ => none }
def FnExactShiftsWrongFalsely : Prop := fnExactShiftsRow.holds Try.pinned (OpenSpec.ofChange fnExactShiftsWrong)

/-- 'laws.FnExactLoad22': WHATEVER THE INPUT: true; the input reads as it did. -/
def fnExactLoad22Spec : ChangeSpec := { name := "fnExactLoad22", fn := fun _ => fun
  | [d1, d2, d3] => { results := [.lit (.bool true)], args := [d1, d2, d3] }
  | _ => none }
def fnExactLoad22Row : OpenClaim := { program := "ytojjoinjabogbaa", sum := "8ab18279344ca95b31b029bda0fc81ef6cbf67e3166810cc6ff1758a779bedf8", func := "loop.example/g00059/laws.FnExactLoad22", spec := "fnExactLoad22", apart := false }
def FnExactLoad22Said : Prop := fnExactLoad22Row.holds Try.pinned (OpenSpec.ofChange fnExactLoad22Spec)

/-- ITS FALSE NEIGHBOUR: 'it returns false'. Refute it at one input. -/
def fnExactLoad22Wrong : ChangeSpec := { name := "fnExactLoad22", fn := fun _ => fun
  | [d1, d2, d3] => { results := [.lit (.bool false)], args := [d1, d2, d3] }
  | _ => none }
def FnExactLoad22WrongFalsely : Prop := fnExactLoad22Row.holds Try.pinned (OpenSpec.ofChange fnExactLoad22Wrong)

/-- 'laws.FnExactReadSegs': WHATEVER THE INPUT: true; the input reads as it did. -/
def fnExactReadSegsSpec : ChangeSpec := { name := "fnExactReadSegs", fn := fun _ => fun
  | [d] => { results := [.lit (.bool true)], args := [d] }
  | _ => none }
def fnExactReadSegsRow : OpenClaim := { program := "ytojjoinjabogbaa", sum := "8ab18279344ca95b31b029bda0fc81ef6cbf67e3166810cc6ff1758a779bedf8", func := "loop.example/g00059/laws.FnExactReadSegs", spec := "fnExactReadSegs", unfollowed := true, recurses := true, apart := false }
def FnExactReadSegsSaid : Prop := fnExactReadSegsRow.holds Try.pinned (OpenSpec.ofChange fnExactReadSegsSpec)

/-- ITS FALSE NEIGHBOUR: 'it returns false'. Refute it at one input. -/
def fnExactReadSegsWrong : ChangeSpec := { name := "fnExactReadSegs", fn := fun _ => fun
  | [d] => { results := [.lit (.bool false)], args := [d] }
  | _ => none }
def FnExactReadSegsWrongFalsely : Prop := fnExactReadSegsRow.holds Try.pinned (OpenSpec.ofChange fnExactReadSegsWrong)

/-- 'laws.FnExactRunSignals': WHATEVER THE INPUT: true; the input reads as it did. -/
def fnExactRunSignalsSpec : ChangeSpec := { name := "fnExactRunSignals", fn := fun _ => fun
  | [d1, d2] => { results := [.lit (.bool true)], args := [d1, d2] }
  | _ => none }
def fnExactRunSignalsRow : OpenClaim := { program := "ytojjoinjabogbaa", sum := "8ab18279344ca95b31b029bda0fc81ef6cbf67e3166810cc6ff1758a779bedf8", func := "loop.example/g00059/laws.FnExactRunSignals", spec := "fnExactRunSignals", apart := false }
def FnExactRunSignalsSaid : Prop := fnExactRunSignalsRow.holds Try.pinned (OpenSpec.ofChange fnExactRunSignalsSpec)

/-- ITS FALSE NEIGHBOUR: 'it returns false'. Refute it at one input. -/
def fnExactRunSignalsWrong : ChangeSpec := { name := "fnExactRunSignals", fn := fun _ => fun
  | [d1, d2] => { results := [.lit (.bool false)], args := [d1, d2] }
  | _ => none }
def FnExactRunSignalsWrongFalsely : Prop := fnExactRunSignalsRow.holds Try.pinned (OpenSpec.ofChange fnExactRunSignalsWrong)

/-- 'laws.FnExactPumpAll': WHATEVER THE INPUT: true; the input reads as it did. -/
def fnExactPumpAllSpec : ChangeSpec := { name := "fnExactPumpAll", fn := fun _ => fun
  | [d1, d2] => { results := [.lit (.bool true)], args := [d1, d2] }
  | _ => none }
def fnExactPumpAllRow : OpenClaim := { program := "ytojjoinjabogbaa", sum := "8ab18279344ca95b31b029bda0fc81ef6cbf67e3166810cc6ff1758a779bedf8", func := "loop.example/g00059/laws.FnExactPumpAll", spec := "fnExactPumpAll", unfollowed := true, recurses := true, apart := false }
def FnExactPumpAllSaid : Prop := fnExactPumpAllRow.holds Try.pinned (OpenSpec.ofChange fnExactPumpAllSpec)

/-- ITS FALSE NEIGHBOUR: 'it returns false'. Refute it at one input. -/
def fnExactPumpAllWrong : ChangeSpec := { name := "fnExactPumpAll", fn := fun _ => fun
  | [d1, d2] => { results := [.lit (.bool false)], args := [d1, d2] }
  | _ => none }
def FnExactPumpAllWrongFalsely : Prop := fnExactPumpAllRow.holds Try.pinned (OpenSpec.ofChange fnExactPumpAllWrong)

/-- 'laws.FnExactCargoStep': WHATEVER THE INPUT: true; the input reads as it did. -/
def fnExactCargoStepSpec : ChangeSpec := { name := "fnExactCargoStep", fn := fun _ => fun
  | [d1, d2, d3] => { results := [.lit (.bool true)], args := [d1, d2, d3] }
  | _ => none }
def fnExactCargoStepRow : OpenClaim := { program := "ytojjoinjabogbaa", sum := "8ab18279344ca95b31b029bda0fc81ef6cbf67e3166810cc6ff1758a779bedf8", func := "loop.example/g00059/laws.FnExactCargoStep", spec := "fnExactCargoStep", unfollowed := true, recurses := true, apart := false }
def FnExactCargoStepSaid : Prop := fnExactCargoStepRow.holds Try.pinned (OpenSpec.ofChange fnExactCargoStepSpec)

/-- ITS FALSE NEIGHBOUR: 'it returns false'. Refute it at one input. -/
def fnExactCargoStepWrong : ChangeSpec := { name := "fnExactCargoStep", fn := fun _ => fun
  | [d1, d2, d3] => { results := [.lit (.bool false)], args := [d1, d2, d3] }
  | _ => none }
def FnExactCargoStepWrongFalsely : Prop := fnExactCargoStepRow.holds Try.pinned (OpenSpec.ofChange fnExactCargoStepWrong)

/-- 'laws.FnExactCargoRun': WHATEVER THE INPUT: true; the input reads as it did. -/
def fnExactCargoRunSpec : ChangeSpec := { name := "fnExactCargoRun", fn := fun _ => fun
  | [d1, d2, d3] => { results := [.lit (.bool true)], args := [d1, d2, d3] }
  | _ => none }
def fnExactCargoRunRow : OpenClaim := { program := "ytojjoinjabogbaa", sum := "8ab18279344ca95b31b029bda0fc81ef6cbf67e3166810cc6ff1758a779bedf8", func := "loop.example/g00059/laws.FnExactCargoRun", spec := "fnExactCargoRun", unfollowed := true, recurses := true, apart := false }
def FnExactCargoRunSaid : Prop := fnExactCargoRunRow.holds Try.pinned (OpenSpec.ofChange fnExactCargoRunSpec)

/-- ITS FALSE NEIGHBOUR: 'it returns false'. Refute it at one input. -/
def fnExactCargoRunWrong : ChangeSpec := { name := "fnExactCargoRun", fn := fun _ => fun
  | [d1, d2, d3] => { results := [.lit (.bool false)], args := [d1, d2, d3] }
  | _ => none }
def FnExactCargoRunWrongFalsely : Prop := fnExactCargoRunRow.holds Try.pinned (OpenSpec.ofChange fnExactCargoRunWrong)

/-- 'laws.FnExactSettle21': WHATEVER THE INPUT: true; the input reads as it did. -/
def fnExactSettle21Spec : ChangeSpec := { name := "fnExactSettle21", fn := fun _ => fun
  | [d1, d2, d3, d4] => { results := [.lit (.bool true)], args := [d1, d2, d3, d4] }
  | _ => none }
def fnExactSettle21Row : OpenClaim := { program := "ytojjoinjabogbaa", sum := "8ab18279344ca95b31b029bda0fc81ef6cbf67e3166810cc6ff1758a779bedf8", func := "loop.example/g00059/laws.FnExactSettle21", spec := "fnExactSettle21", unfollowed := true, recurses := true, apart := false }
def FnExactSettle21Said : Prop := fnExactSettle21Row.holds Try.pinned (OpenSpec.ofChange fnExactSettle21Spec)

/-- ITS FALSE NEIGHBOUR: 'it returns false'. Refute it at one input. -/
def fnExactSettle21Wrong : ChangeSpec := { name := "fnExactSettle21", fn := fun _ => fun
  | [d1, d2, d3, d4] => { results := [.lit (.bool false)], args := [d1, d2, d3, d4] }
  | _ => none }
def FnExactSettle21WrongFalsely : Prop := fnExactSettle21Row.holds Try.pinned (OpenSpec.ofChange fnExactSettle21Wrong)

/-- 'laws.FnSegments': WHATEVER THE INPUT: true; the input reads as it did. -/
def fnSegmentsSpec : ChangeSpec := { name := "fnSegments", fn := fun _ => fun
  | [d] => { results := [.lit (.bool true)], args := [d] }
  | _ => none }
def fnSegmentsRow : OpenClaim := { program := "ytojjoinjabogbaa", sum := "8ab18279344ca95b31b029bda0fc81ef6cbf67e3166810cc6ff1758a779bedf8", func := "loop.example/g00059/laws.FnSegments", spec := "fnSegments", inPlace := ["internal/abi.NoEscape"], unfollowed := true, recurses := true, apart := false }
def FnSegmentsSaid : Prop := fnSegmentsRow.holds Try.pinned (OpenSpec.ofChange fnSegmentsSpec)

/-- ITS FALSE NEIGHBOUR: 'it returns false'. Refute it at one input. -/
def fnSegmentsWrong : ChangeSpec := { name := "fnSegments", fn := fun _ => fun
  | [d] => { results := [.lit (.bool false)], args := [d] }
  | _ => none }
def FnSegmentsWrongFalsely : Prop := fnSegmentsRow.holds Try.pinned (OpenSpec.ofChange fnSegmentsWrong)

/-- 'laws.FnTravel': WHATEVER THE INPUT: true; the input reads as it did. -/
def fnTravelSpec : ChangeSpec := { name := "fnTravel", fn := fun _ => fun
  | [d] => { results := [.lit (.bool true)], args := [d] }
  | _ => none }
def fnTravelRow : OpenClaim := { program := "ytojjoinjabogbaa", sum := "8ab18279344ca95b31b029bda0fc81ef6cbf67e3166810cc6ff1758a779bedf8", func := "loop.example/g00059/laws.FnTravel", spec := "fnTravel", unfollowed := true, recurses := true, apart := false }
def FnTravelSaid : Prop := fnTravelRow.holds Try.pinned (OpenSpec.ofChange fnTravelSpec)

/-- ITS FALSE NEIGHBOUR: 'it returns false'. Refute it at one input. -/
def fnTravelWrong : ChangeSpec := { name := "fnTravel", fn := fun _ => fun
  | [d] => { results := [.lit (.bool false)], args := [d] }
  | _ => none }
def FnTravelWrongFalsely : Prop := fnTravelRow.holds Try.pinned (OpenSpec.ofChange fnTravelWrong)

/-- 'laws.FnExactTravel': WHATEVER THE INPUT: true; the input reads as it did. -/
def fnExactTravelSpec : ChangeSpec := { name := "fnExactTravel", fn := fun _ => fun
  | [d1, d2, d3, d4, d5] => { results := [.lit (.bool true)], args := [d1, d2, d3, d4, d5] }
  | _ => none }
def fnExactTravelRow : OpenClaim := { program := "ytojjoinjabogbaa", sum := "8ab18279344ca95b31b029bda0fc81ef6cbf67e3166810cc6ff1758a779bedf8", func := "loop.example/g00059/laws.FnExactTravel", spec := "fnExactTravel", unfollowed := true, recurses := true, apart := false }
def FnExactTravelSaid : Prop := fnExactTravelRow.holds Try.pinned (OpenSpec.ofChange fnExactTravelSpec)

/-- ITS FALSE NEIGHBOUR: 'it returns false'. Refute it at one input. -/
def fnExactTravelWrong : ChangeSpec := { name := "fnExactTravel", fn := fun _ => fun
  | [d1, d2, d3, d4, d5] => { results := [.lit (.bool false)], args := [d1, d2, d3, d4, d5] }
  | _ => none }
def FnExactTravelWrongFalsely : Prop := fnExactTravelRow.holds Try.pinned (OpenSpec.ofChange fnExactTravelWrong)

/-- 'laws.FnExactSettle': WHATEVER THE INPUT: true; the input reads as it did. -/
def fnExactSettleSpec : ChangeSpec := { name := "fnExactSettle", fn := fun _ => fun
  | [d1, d2] => { results := [.lit (.bool true)], args := [d1, d2] }
  | _ => none }
def fnExactSettleRow : OpenClaim := { program := "ytojjoinjabogbaa", sum := "8ab18279344ca95b31b029bda0fc81ef6cbf67e3166810cc6ff1758a779bedf8", func := "loop.example/g00059/laws.FnExactSettle", spec := "fnExactSettle", unfollowed := true, recurses := true, apart := false }
def FnExactSettleSaid : Prop := fnExactSettleRow.holds Try.pinned (OpenSpec.ofChange fnExactSettleSpec)

/-- ITS FALSE NEIGHBOUR: 'it returns false'. Refute it at one input. -/
def fnExactSettleWrong : ChangeSpec := { name := "fnExactSettle", fn := fun _ => fun
  | [d1, d2] => { results := [.lit (.bool false)], args := [d1, d2] }
  | _ => none }
def FnExactSettleWrongFalsely : Prop := fnExactSettleRow.holds Try.pinned (OpenSpec.ofChange fnExactSettleWrong)

/- THE SECOND FORM. 'bulk': how many values and letters a reading holds, each counted each time it is reached (what is shared counts as often as it is met; a slice's spare places count too). A statement '..UptoSaid' is the law's where the arguments, and the package variables that the reading takes, are together of bulk at most 1048576: NARROWER than '..Said'. Prove '..Said' where nothing that the law and all that it calls make is longer than what came in: it says more and counts as full. Else prove '..UptoSaid'. A law counts once. -/
mutual
def uptoBulk {H : Type} : DataW H → Nat
  | .lit (.string bytes) => bytes.length + 1
  | .lit _ => 1
  | .nil => 1
  | .ptr d => uptoBulk d + 1
  | .slice elems spare => uptoBulkAll elems + uptoBulkAll spare + 1
  | .agg parts => uptoBulkAll parts + 1
  | .iface _ d => uptoBulk d + 1
  | .map entries => uptoBulkEntries entries + 1
  | .held _ => 1
def uptoBulkAll {H : Type} : List (DataW H) → Nat
  | [] => 0
  | d :: r => uptoBulk d + uptoBulkAll r
def uptoBulkEntries {H : Type} : List (Lit × DataW H) → Nat
  | [] => 0
  | x :: r => uptoBulkEntry x + uptoBulkEntries r
def uptoBulkEntry {H : Type} : Lit × DataW H → Nat
  | (.string bytes, d) => bytes.length + uptoBulk d + 1
  | (_, d) => uptoBulk d + 1
 end
def uptoSmall : (H : Type) → List (DataW H) → Bool := fun _ ds => decide (uptoBulkAll ds ≤ 1048576)
def OpenSpec.upto (s : _root_.Go.ChangeSpec) : _root_.Go.OpenSpec := { _root_.Go.OpenSpec.ofChange s with cond := some uptoSmall }

/-- 'laws.FnExactShifts', WHERE WHAT IT READS IS OF BULK AT MOST 1048576: true; the input reads as it did. -/
def fnExactShiftsUptoRow : OpenClaim := { program := "ytojjoinjabogbaa", sum := "8ab18279344ca95b31b029bda0fc81ef6cbf67e3166810cc6ff1758a779bedf8", func := "loop.example/g00059/laws.FnExactShifts", spec := "fnExactShifts", apart := false, narrowed := true }
def FnExactShiftsUptoSaid : Prop := fnExactShiftsUptoRow.holds Try.pinned (OpenSpec.upto fnExactShiftsSpec)

/-- 'laws.FnExactLoad22', WHERE WHAT IT READS IS OF BULK AT MOST 1048576: true; the input reads as it did. -/
def fnExactLoad22UptoRow : OpenClaim := { program := "ytojjoinjabogbaa", sum := "8ab18279344ca95b31b029bda0fc81ef6cbf67e3166810cc6ff1758a779bedf8", func := "loop.example/g00059/laws.FnExactLoad22", spec := "fnExactLoad22", apart := false, narrowed := true }
def FnExactLoad22UptoSaid : Prop := fnExactLoad22UptoRow.holds Try.pinned (OpenSpec.upto fnExactLoad22Spec)

/-- 'laws.FnExactReadSegs', WHERE WHAT IT READS IS OF BULK AT MOST 1048576: true; the input reads as it did. -/
def fnExactReadSegsUptoRow : OpenClaim := { program := "ytojjoinjabogbaa", sum := "8ab18279344ca95b31b029bda0fc81ef6cbf67e3166810cc6ff1758a779bedf8", func := "loop.example/g00059/laws.FnExactReadSegs", spec := "fnExactReadSegs", unfollowed := true, recurses := true, apart := false, narrowed := true }
def FnExactReadSegsUptoSaid : Prop := fnExactReadSegsUptoRow.holds Try.pinned (OpenSpec.upto fnExactReadSegsSpec)

/-- 'laws.FnExactRunSignals', WHERE WHAT IT READS IS OF BULK AT MOST 1048576: true; the input reads as it did. -/
def fnExactRunSignalsUptoRow : OpenClaim := { program := "ytojjoinjabogbaa", sum := "8ab18279344ca95b31b029bda0fc81ef6cbf67e3166810cc6ff1758a779bedf8", func := "loop.example/g00059/laws.FnExactRunSignals", spec := "fnExactRunSignals", apart := false, narrowed := true }
def FnExactRunSignalsUptoSaid : Prop := fnExactRunSignalsUptoRow.holds Try.pinned (OpenSpec.upto fnExactRunSignalsSpec)

/-- 'laws.FnExactPumpAll', WHERE WHAT IT READS IS OF BULK AT MOST 1048576: true; the input reads as it did. -/
def fnExactPumpAllUptoRow : OpenClaim := { program := "ytojjoinjabogbaa", sum := "8ab18279344ca95b31b029bda0fc81ef6cbf67e3166810cc6ff1758a779bedf8", func := "loop.example/g00059/laws.FnExactPumpAll", spec := "fnExactPumpAll", unfollowed := true, recurses := true, apart := false, narrowed := true }
def FnExactPumpAllUptoSaid : Prop := fnExactPumpAllUptoRow.holds Try.pinned (OpenSpec.upto fnExactPumpAllSpec)

/-- 'laws.FnExactCargoStep', WHERE WHAT IT READS IS OF BULK AT MOST 1048576: true; the input reads as it did. -/
def fnExactCargoStepUptoRow : OpenClaim := { program := "ytojjoinjabogbaa", sum := "8ab18279344ca95b31b029bda0fc81ef6cbf67e3166810cc6ff1758a779bedf8", func := "loop.example/g00059/laws.FnExactCargoStep", spec := "fnExactCargoStep", unfollowed := true, recurses := true, apart := false, narrowed := true }
def FnExactCargoStepUptoSaid : Prop := fnExactCargoStepUptoRow.holds Try.pinned (OpenSpec.upto fnExactCargoStepSpec)

/-- 'laws.FnExactCargoRun', WHERE WHAT IT READS IS OF BULK AT MOST 1048576: true; the input reads as it did. -/
def fnExactCargoRunUptoRow : OpenClaim := { program := "ytojjoinjabogbaa", sum := "8ab18279344ca95b31b029bda0fc81ef6cbf67e3166810cc6ff1758a779bedf8", func := "loop.example/g00059/laws.FnExactCargoRun", spec := "fnExactCargoRun", unfollowed := true, recurses := true, apart := false, narrowed := true }
def FnExactCargoRunUptoSaid : Prop := fnExactCargoRunUptoRow.holds Try.pinned (OpenSpec.upto fnExactCargoRunSpec)

/-- 'laws.FnExactSettle21', WHERE WHAT IT READS IS OF BULK AT MOST 1048576: true; the input reads as it did. -/
def fnExactSettle21UptoRow : OpenClaim := { program := "ytojjoinjabogbaa", sum := "8ab18279344ca95b31b029bda0fc81ef6cbf67e3166810cc6ff1758a779bedf8", func := "loop.example/g00059/laws.FnExactSettle21", spec := "fnExactSettle21", unfollowed := true, recurses := true, apart := false, narrowed := true }
def FnExactSettle21UptoSaid : Prop := fnExactSettle21UptoRow.holds Try.pinned (OpenSpec.upto fnExactSettle21Spec)

/-- 'laws.FnSegments', WHERE WHAT IT READS IS OF BULK AT MOST 1048576: true; the input reads as it did. -/
def fnSegmentsUptoRow : OpenClaim := { program := "ytojjoinjabogbaa", sum := "8ab18279344ca95b31b029bda0fc81ef6cbf67e3166810cc6ff1758a779bedf8", func := "loop.example/g00059/laws.FnSegments", spec := "fnSegments", inPlace := ["internal/abi.NoEscape"], unfollowed := true, recurses := true, apart := false, narrowed := true }
def FnSegmentsUptoSaid : Prop := fnSegmentsUptoRow.holds Try.pinned (OpenSpec.upto fnSegmentsSpec)

/-- 'laws.FnTravel', WHERE WHAT IT READS IS OF BULK AT MOST 1048576: true; the input reads as it did. -/
def fnTravelUptoRow : OpenClaim := { program := "ytojjoinjabogbaa", sum := "8ab18279344ca95b31b029bda0fc81ef6cbf67e3166810cc6ff1758a779bedf8", func := "loop.example/g00059/laws.FnTravel", spec := "fnTravel", unfollowed := true, recurses := true, apart := false, narrowed := true }
def FnTravelUptoSaid : Prop := fnTravelUptoRow.holds Try.pinned (OpenSpec.upto fnTravelSpec)

/-- 'laws.FnExactTravel', WHERE WHAT IT READS IS OF BULK AT MOST 1048576: true; the input reads as it did. -/
def fnExactTravelUptoRow : OpenClaim := { program := "ytojjoinjabogbaa", sum := "8ab18279344ca95b31b029bda0fc81ef6cbf67e3166810cc6ff1758a779bedf8", func := "loop.example/g00059/laws.FnExactTravel", spec := "fnExactTravel", unfollowed := true, recurses := true, apart := false, narrowed := true }
def FnExactTravelUptoSaid : Prop := fnExactTravelUptoRow.holds Try.pinned (OpenSpec.upto fnExactTravelSpec)

/-- 'laws.FnExactSettle', WHERE WHAT IT READS IS OF BULK AT MOST 1048576: true; the input reads as it did. -/
def fnExactSettleUptoRow : OpenClaim := { program := "ytojjoinjabogbaa", sum := "8ab18279344ca95b31b029bda0fc81ef6cbf67e3166810cc6ff1758a779bedf8", func := "loop.example/g00059/laws.FnExactSettle", spec := "fnExactSettle", unfollowed := true, recurses := true, apart := false, narrowed := true }
def FnExactSettleUptoSaid : Prop := fnExactSettleUptoRow.holds Try.pinned (OpenSpec.upto fnExactSettleSpec)

end Rows
end Go.Proofs.Ytojjoinjabogbaa
