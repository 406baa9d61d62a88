/-
  No cell of these rows narrows 'for every input' (looked for: loops, veiled, ifaces, maps, wideKeys, modest, calm, conditions, laid).
  DERIVED. THE GIVEN ROWS OF THIS SEAT. 9 by the template 'for every input the law returns true; each argument reads behind the call as it read before'; 0 by the template 'total and deterministic' (their statements: YtakllmgiobpmgaaTotals.lean).
  GIVEN WITH THE SEED: the statements are not yours to turn. If you find one false, say at which input.
  Laid BY PROGRAM, IN A SANDBOX (cutbox-rows.mjs): the forced cells as the released guide's own fill.sh prints them over the translation 9d786c17e50dc319… (all of the seat's roots in one cut). By AI agents, Wed Nov 11 2026. No macro, syntax, notation, axiom, sorry.
-/
import Derived.Test.YtakllmgiobpmgaaChecked
import GoSem.Claim
import GoSem.ClaimJoined
import GoSem.ClaimMapViews
import Derived.JoinedTies
import Derived.KernelRfl
namespace Go.Proofs.Ytakllmgiobpmgaa
/- THE CELL 'sum', in the pinned program and in every row, IS THE sha256 OF THE DUMP (.gsa) THAT YtakllmgiobpmgaaProg.lean LOADS. Nothing in Lean hashes anything: it is a label: what it is worth is what the hold of that sum in a sandbox is worth. -/
noncomputable def Try.pinned : Pinned := { name := "ytakllmgiobpmgaa", sum := "9d786c17e50dc319700e3f7e687f9076fcb669fb9f0d4221a8aa74cd3e7a2bd5", checked := Try.checked }
namespace Rows
def none {H : Type} : Left H := { results := [], args := [] }

/-- 'laws.FnExactTravel': WHATEVER THE INPUT: true; the input reads as it did. -/
def fnExactTravelSpec : ChangeSpec := { name := "fnExactTravel", fn := fun _ => fun
  | [d1, d2, d3, d4, d5] => { results := [.lit (.bool true)], args := [d1, d2, d3, d4, d5] }
  | _ => none }
def fnExactTravelRow : OpenClaim := { program := "ytakllmgiobpmgaa", sum := "9d786c17e50dc319700e3f7e687f9076fcb669fb9f0d4221a8aa74cd3e7a2bd5", func := "loop.example/g00059/laws.FnExactTravel", spec := "fnExactTravel", unfollowed := true, recurses := true, apart := false }
def FnExactTravelSaid : Prop := fnExactTravelRow.holds Try.pinned (OpenSpec.ofChange fnExactTravelSpec)

/-- ITS FALSE NEIGHBOUR: 'it returns false'. Refute it at one input. -/
def fnExactTravelWrong : ChangeSpec := { name := "fnExactTravel", fn := fun _ => fun
  | [d1, d2, d3, d4, d5] => { results := [.lit (.bool false)], args := [d1, d2, d3, d4, d5] }
  | _ => none }
def FnExactTravelWrongFalsely : Prop := fnExactTravelRow.holds Try.pinned (OpenSpec.ofChange fnExactTravelWrong)

/-- 'laws.FnTravel': WHATEVER THE INPUT: true; the input reads as it did. -/
def fnTravelSpec : ChangeSpec := { name := "fnTravel", fn := fun _ => fun
  | [d] => { results := [.lit (.bool true)], args := [d] }
  | _ => none }
def fnTravelRow : OpenClaim := { program := "ytakllmgiobpmgaa", sum := "9d786c17e50dc319700e3f7e687f9076fcb669fb9f0d4221a8aa74cd3e7a2bd5", func := "loop.example/g00059/laws.FnTravel", spec := "fnTravel", unfollowed := true, recurses := true, apart := false }
def FnTravelSaid : Prop := fnTravelRow.holds Try.pinned (OpenSpec.ofChange fnTravelSpec)

/-- ITS FALSE NEIGHBOUR: 'it returns false'. Refute it at one input. -/
def fnTravelWrong : ChangeSpec := { name := "fnTravel", fn := fun _ => fun
  | [d] => { results := [.lit (.bool false)], args := [d] }
  | _ => none }
def FnTravelWrongFalsely : Prop := fnTravelRow.holds Try.pinned (OpenSpec.ofChange fnTravelWrong)

/-- 'laws.FnExactBerthAll': WHATEVER THE INPUT: true; the input reads as it did. -/
def fnExactBerthAllSpec : ChangeSpec := { name := "fnExactBerthAll", fn := fun _ => fun
  | [d1, d2] => { results := [.lit (.bool true)], args := [d1, d2] }
  | _ => none }
def fnExactBerthAllRow : OpenClaim := { program := "ytakllmgiobpmgaa", sum := "9d786c17e50dc319700e3f7e687f9076fcb669fb9f0d4221a8aa74cd3e7a2bd5", func := "loop.example/g00059/laws.FnExactBerthAll", spec := "fnExactBerthAll", unfollowed := true, recurses := true, apart := false }
def FnExactBerthAllSaid : Prop := fnExactBerthAllRow.holds Try.pinned (OpenSpec.ofChange fnExactBerthAllSpec)

/-- ITS FALSE NEIGHBOUR: 'it returns false'. Refute it at one input. -/
def fnExactBerthAllWrong : ChangeSpec := { name := "fnExactBerthAll", fn := fun _ => fun
  | [d1, d2] => { results := [.lit (.bool false)], args := [d1, d2] }
  | _ => none }
def FnExactBerthAllWrongFalsely : Prop := fnExactBerthAllRow.holds Try.pinned (OpenSpec.ofChange fnExactBerthAllWrong)

/-- 'laws.FnBerths': WHATEVER THE INPUT: true; the input reads as it did. -/
def fnBerthsSpec : ChangeSpec := { name := "fnBerths", fn := fun _ => fun
  | [d] => { results := [.lit (.bool true)], args := [d] }
  | _ => none }
def fnBerthsRow : OpenClaim := { program := "ytakllmgiobpmgaa", sum := "9d786c17e50dc319700e3f7e687f9076fcb669fb9f0d4221a8aa74cd3e7a2bd5", func := "loop.example/g00059/laws.FnBerths", spec := "fnBerths", unfollowed := true, recurses := true, apart := false }
def FnBerthsSaid : Prop := fnBerthsRow.holds Try.pinned (OpenSpec.ofChange fnBerthsSpec)

/-- ITS FALSE NEIGHBOUR: 'it returns false'. Refute it at one input. -/
def fnBerthsWrong : ChangeSpec := { name := "fnBerths", fn := fun _ => fun
  | [d] => { results := [.lit (.bool false)], args := [d] }
  | _ => none }
def FnBerthsWrongFalsely : Prop := fnBerthsRow.holds Try.pinned (OpenSpec.ofChange fnBerthsWrong)

/-- 'laws.FnExactDoBill': WHATEVER THE INPUT: true; the input reads as it did. -/
def fnExactDoBillSpec : ChangeSpec := { name := "fnExactDoBill", fn := fun _ => fun
  | [d1, d2] => { results := [.lit (.bool true)], args := [d1, d2] }
  | _ => none }
def fnExactDoBillRow : OpenClaim := { program := "ytakllmgiobpmgaa", sum := "9d786c17e50dc319700e3f7e687f9076fcb669fb9f0d4221a8aa74cd3e7a2bd5", func := "loop.example/g00059/laws.FnExactDoBill", spec := "fnExactDoBill", unfollowed := true, recurses := true, apart := false }
def FnExactDoBillSaid : Prop := fnExactDoBillRow.holds Try.pinned (OpenSpec.ofChange fnExactDoBillSpec)

/-- ITS FALSE NEIGHBOUR: 'it returns false'. Refute it at one input. -/
def fnExactDoBillWrong : ChangeSpec := { name := "fnExactDoBill", fn := fun _ => fun
  | [d1, d2] => { results := [.lit (.bool false)], args := [d1, d2] }
  | _ => none }
def FnExactDoBillWrongFalsely : Prop := fnExactDoBillRow.holds Try.pinned (OpenSpec.ofChange fnExactDoBillWrong)

/-- 'laws.FnTitle': WHATEVER THE INPUT: true; the input reads as it did. -/
def fnTitleSpec : ChangeSpec := { name := "fnTitle", fn := fun _ => fun
  | [d] => { results := [.lit (.bool true)], args := [d] }
  | _ => none }
def fnTitleRow : OpenClaim := { program := "ytakllmgiobpmgaa", sum := "9d786c17e50dc319700e3f7e687f9076fcb669fb9f0d4221a8aa74cd3e7a2bd5", func := "loop.example/g00059/laws.FnTitle", spec := "fnTitle", unfollowed := true, recurses := true, apart := false }
def FnTitleSaid : Prop := fnTitleRow.holds Try.pinned (OpenSpec.ofChange fnTitleSpec)

/-- ITS FALSE NEIGHBOUR: 'it returns false'. Refute it at one input. -/
def fnTitleWrong : ChangeSpec := { name := "fnTitle", fn := fun _ => fun
  | [d] => { results := [.lit (.bool false)], args := [d] }
  | _ => none }
def FnTitleWrongFalsely : Prop := fnTitleRow.holds Try.pinned (OpenSpec.ofChange fnTitleWrong)

/-- 'laws.FnExactReadSegs': WHATEVER THE INPUT: true; the input reads as it did. -/
def fnExactReadSegsSpec : ChangeSpec := { name := "fnExactReadSegs", fn := fun _ => fun
  | [d] => { results := [.lit (.bool true)], args := [d] }
  | _ => none }
def fnExactReadSegsRow : OpenClaim := { program := "ytakllmgiobpmgaa", sum := "9d786c17e50dc319700e3f7e687f9076fcb669fb9f0d4221a8aa74cd3e7a2bd5", func := "loop.example/g00059/laws.FnExactReadSegs", spec := "fnExactReadSegs", unfollowed := true, recurses := true, apart := false }
def FnExactReadSegsSaid : Prop := fnExactReadSegsRow.holds Try.pinned (OpenSpec.ofChange fnExactReadSegsSpec)

/-- ITS FALSE NEIGHBOUR: 'it returns false'. Refute it at one input. -/
def fnExactReadSegsWrong : ChangeSpec := { name := "fnExactReadSegs", fn := fun _ => fun
  | [d] => { results := [.lit (.bool false)], args := [d] }
  | _ => none }
def FnExactReadSegsWrongFalsely : Prop := fnExactReadSegsRow.holds Try.pinned (OpenSpec.ofChange fnExactReadSegsWrong)

/-- 'laws.FnSegments': WHATEVER THE INPUT: true; the input reads as it did. -/
def fnSegmentsSpec : ChangeSpec := { name := "fnSegments", fn := fun _ => fun
  | [d] => { results := [.lit (.bool true)], args := [d] }
  | _ => none }
def fnSegmentsRow : OpenClaim := { program := "ytakllmgiobpmgaa", sum := "9d786c17e50dc319700e3f7e687f9076fcb669fb9f0d4221a8aa74cd3e7a2bd5", func := "loop.example/g00059/laws.FnSegments", spec := "fnSegments", inPlace := ["internal/abi.NoEscape"], unfollowed := true, recurses := true, apart := false }
def FnSegmentsSaid : Prop := fnSegmentsRow.holds Try.pinned (OpenSpec.ofChange fnSegmentsSpec)

/-- ITS FALSE NEIGHBOUR: 'it returns false'. Refute it at one input. -/
def fnSegmentsWrong : ChangeSpec := { name := "fnSegments", fn := fun _ => fun
  | [d] => { results := [.lit (.bool false)], args := [d] }
  | _ => none }
def FnSegmentsWrongFalsely : Prop := fnSegmentsRow.holds Try.pinned (OpenSpec.ofChange fnSegmentsWrong)

/-- 'laws.FnCheapest': WHATEVER THE INPUT: true; the input reads as it did. -/
def fnCheapestSpec : ChangeSpec := { name := "fnCheapest", fn := fun _ => fun
  | [d] => { results := [.lit (.bool true)], args := [d] }
  | _ => none }
def fnCheapestRow : OpenClaim := { program := "ytakllmgiobpmgaa", sum := "9d786c17e50dc319700e3f7e687f9076fcb669fb9f0d4221a8aa74cd3e7a2bd5", func := "loop.example/g00059/laws.FnCheapest", spec := "fnCheapest", unfollowed := true, recurses := true, apart := false }
def FnCheapestSaid : Prop := fnCheapestRow.holds Try.pinned (OpenSpec.ofChange fnCheapestSpec)

/-- ITS FALSE NEIGHBOUR: 'it returns false'. Refute it at one input. -/
def fnCheapestWrong : ChangeSpec := { name := "fnCheapest", fn := fun _ => fun
  | [d] => { results := [.lit (.bool false)], args := [d] }
  | _ => none }
def FnCheapestWrongFalsely : Prop := fnCheapestRow.holds Try.pinned (OpenSpec.ofChange fnCheapestWrong)

/- THE SECOND FORM. 'bulk': how many values and letters a reading holds, each counted each time it is reached (what is shared counts as often as it is met; a slice's spare places count too). A statement '..UptoSaid' is the law's where the arguments, and the package variables that the reading takes, are together of bulk at most 1048576: NARROWER than '..Said'. Prove '..Said' where nothing that the law and all that it calls make is longer than what came in: it says more and counts as full. Else prove '..UptoSaid'. A law counts once. -/
mutual
def uptoBulk {H : Type} : DataW H → Nat
  | .lit (.string bytes) => bytes.length + 1
  | .lit _ => 1
  | .nil => 1
  | .ptr d => uptoBulk d + 1
  | .slice elems spare => uptoBulkAll elems + uptoBulkAll spare + 1
  | .agg parts => uptoBulkAll parts + 1
  | .iface _ d => uptoBulk d + 1
  | .map entries => uptoBulkEntries entries + 1
  | .held _ => 1
def uptoBulkAll {H : Type} : List (DataW H) → Nat
  | [] => 0
  | d :: r => uptoBulk d + uptoBulkAll r
def uptoBulkEntries {H : Type} : List (Lit × DataW H) → Nat
  | [] => 0
  | x :: r => uptoBulkEntry x + uptoBulkEntries r
def uptoBulkEntry {H : Type} : Lit × DataW H → Nat
  | (.string bytes, d) => bytes.length + uptoBulk d + 1
  | (_, d) => uptoBulk d + 1
 end
def uptoSmall : (H : Type) → List (DataW H) → Bool := fun _ ds => decide (uptoBulkAll ds ≤ 1048576)
def OpenSpec.upto (s : _root_.Go.ChangeSpec) : _root_.Go.OpenSpec := { _root_.Go.OpenSpec.ofChange s with cond := some uptoSmall }

/-- 'laws.FnExactTravel', WHERE WHAT IT READS IS OF BULK AT MOST 1048576: true; the input reads as it did. -/
def fnExactTravelUptoRow : OpenClaim := { program := "ytakllmgiobpmgaa", sum := "9d786c17e50dc319700e3f7e687f9076fcb669fb9f0d4221a8aa74cd3e7a2bd5", func := "loop.example/g00059/laws.FnExactTravel", spec := "fnExactTravel", unfollowed := true, recurses := true, apart := false, narrowed := true }
def FnExactTravelUptoSaid : Prop := fnExactTravelUptoRow.holds Try.pinned (OpenSpec.upto fnExactTravelSpec)

/-- 'laws.FnTravel', WHERE WHAT IT READS IS OF BULK AT MOST 1048576: true; the input reads as it did. -/
def fnTravelUptoRow : OpenClaim := { program := "ytakllmgiobpmgaa", sum := "9d786c17e50dc319700e3f7e687f9076fcb669fb9f0d4221a8aa74cd3e7a2bd5", func := "loop.example/g00059/laws.FnTravel", spec := "fnTravel", unfollowed := true, recurses := true, apart := false, narrowed := true }
def FnTravelUptoSaid : Prop := fnTravelUptoRow.holds Try.pinned (OpenSpec.upto fnTravelSpec)

/-- 'laws.FnExactBerthAll', WHERE WHAT IT READS IS OF BULK AT MOST 1048576: true; the input reads as it did. -/
def fnExactBerthAllUptoRow : OpenClaim := { program := "ytakllmgiobpmgaa", sum := "9d786c17e50dc319700e3f7e687f9076fcb669fb9f0d4221a8aa74cd3e7a2bd5", func := "loop.example/g00059/laws.FnExactBerthAll", spec := "fnExactBerthAll", unfollowed := true, recurses := true, apart := false, narrowed := true }
def FnExactBerthAllUptoSaid : Prop := fnExactBerthAllUptoRow.holds Try.pinned (OpenSpec.upto fnExactBerthAllSpec)

/-- 'laws.FnBerths', WHERE WHAT IT READS IS OF BULK AT MOST 1048576: true; the input reads as it did. -/
def fnBerthsUptoRow : OpenClaim := { program := "ytakllmgiobpmgaa", sum := "9d786c17e50dc319700e3f7e687f9076fcb669fb9f0d4221a8aa74cd3e7a2bd5", func := "loop.example/g00059/laws.FnBerths", spec := "fnBerths", unfollowed := true, recurses := true, apart := false, narrowed := true }
def FnBerthsUptoSaid : Prop := fnBerthsUptoRow.holds Try.pinned (OpenSpec.upto fnBerthsSpec)

/-- 'laws.FnExactDoBill', WHERE WHAT IT READS IS OF BULK AT MOST 1048576: true; the input reads as it did. -/
def fnExactDoBillUptoRow : OpenClaim := { program := "ytakllmgiobpmgaa", sum := "9d786c17e50dc319700e3f7e687f9076fcb669fb9f0d4221a8aa74cd3e7a2bd5", func := "loop.example/g00059/laws.FnExactDoBill", spec := "fnExactDoBill", unfollowed := true, recurses := true, apart := false, narrowed := true }
def FnExactDoBillUptoSaid : Prop := fnExactDoBillUptoRow.holds Try.pinned (OpenSpec.upto fnExactDoBillSpec)

/-- 'laws.FnTitle', WHERE WHAT IT READS IS OF BULK AT MOST 1048576: true; the input reads as it did. -/
def fnTitleUptoRow : OpenClaim := { program := "ytakllmgiobpmgaa", sum := "9d786c17e50dc319700e3f7e687f9076fcb669fb9f0d4221a8aa74cd3e7a2bd5", func := "loop.example/g00059/laws.FnTitle", spec := "fnTitle", unfollowed := true, recurses := true, apart := false, narrowed := true }
def FnTitleUptoSaid : Prop := fnTitleUptoRow.holds Try.pinned (OpenSpec.upto fnTitleSpec)

/-- 'laws.FnExactReadSegs', WHERE WHAT IT READS IS OF BULK AT MOST 1048576: true; the input reads as it did. -/
def fnExactReadSegsUptoRow : OpenClaim := { program := "ytakllmgiobpmgaa", sum := "9d786c17e50dc319700e3f7e687f9076fcb669fb9f0d4221a8aa74cd3e7a2bd5", func := "loop.example/g00059/laws.FnExactReadSegs", spec := "fnExactReadSegs", unfollowed := true, recurses := true, apart := false, narrowed := true }
def FnExactReadSegsUptoSaid : Prop := fnExactReadSegsUptoRow.holds Try.pinned (OpenSpec.upto fnExactReadSegsSpec)

/-- 'laws.FnSegments', WHERE WHAT IT READS IS OF BULK AT MOST 1048576: true; the input reads as it did. -/
def fnSegmentsUptoRow : OpenClaim := { program := "ytakllmgiobpmgaa", sum := "9d786c17e50dc319700e3f7e687f9076fcb669fb9f0d4221a8aa74cd3e7a2bd5", func := "loop.example/g00059/laws.FnSegments", spec := "fnSegments", inPlace := ["internal/abi.NoEscape"], unfollowed := true, recurses := true, apart := false, narrowed := true }
def FnSegmentsUptoSaid : Prop := fnSegmentsUptoRow.holds Try.pinned (OpenSpec.upto fnSegmentsSpec)

/-- 'laws.FnCheapest', WHERE WHAT IT READS IS OF BULK AT MOST 1048576: true; the input reads as it did. -/
def fnCheapestUptoRow : OpenClaim := { program := "ytakllmgiobpmgaa", sum := "9d786c17e50dc319700e3f7e687f9076fcb669fb9f0d4221a8aa74cd3e7a2bd5", func := "loop.example/g00059/laws.FnCheapest", spec := "fnCheapest", unfollowed := true, recurses := true, apart := false, narrowed := true }
def FnCheapestUptoSaid : Prop := fnCheapestUptoRow.holds Try.pinned (OpenSpec.upto fnCheapestSpec)

end Rows
end Go.Proofs.Ytakllmgiobpmgaa
