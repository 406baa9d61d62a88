/-
  No cell of these rows narrows 'for every input' (looked for: loops, veiled, ifaces, maps, wideKeys, modest, calm, conditions, laid).
  DERIVED. THE GIVEN ROWS OF THIS SEAT. 12 by the template 'for every input the law returns true; each argument reads behind the call as it read before'; 0 by the template 'total and deterministic' (their statements: YtjilmfkglikoeaaTotals.lean).
  GIVEN WITH THE SEED: the statements are not yours to turn. If you find one false, say at which input.
  Laid BY PROGRAM, IN A SANDBOX (cutbox-rows.mjs): the forced cells as the released guide's own fill.sh prints them over the translation 3fb49aa2ca98ac24… (all of the seat's roots in one cut). By AI agents, Wed Nov 11 2026. No macro, syntax, notation, axiom, sorry.
-/
import Derived.Test.YtjilmfkglikoeaaChecked
import GoSem.Claim
import GoSem.ClaimJoined
import GoSem.ClaimMapViews
import Derived.JoinedTies
import Derived.KernelRfl
namespace Go.Proofs.Ytjilmfkglikoeaa
/- THE CELL 'sum', in the pinned program and in every row, IS THE sha256 OF THE DUMP (.gsa) THAT YtjilmfkglikoeaaProg.lean LOADS. Nothing in Lean hashes anything: it is a label: what it is worth is what the hold of that sum in a sandbox is worth. -/
noncomputable def Try.pinned : Pinned := { name := "ytjilmfkglikoeaa", sum := "3fb49aa2ca98ac24bfad4e494ad6f240079727396295bce481a4893961e275be", checked := Try.checked }
namespace Rows
def none {H : Type} : Left H := { results := [], args := [] }

/-- 'laws.FnRaised': WHATEVER THE INPUT: true; the input reads as it did. -/
def fnRaisedSpec : ChangeSpec := { name := "fnRaised", fn := fun _ => fun
  | [d] => { results := [.lit (.bool true)], args := [d] }
  | _ => none }
def fnRaisedRow : OpenClaim := { program := "ytjilmfkglikoeaa", sum := "3fb49aa2ca98ac24bfad4e494ad6f240079727396295bce481a4893961e275be", func := "loop.example/g00059/laws.FnRaised", spec := "fnRaised", unfollowed := true, recurses := true, apart := false }
def FnRaisedSaid : Prop := fnRaisedRow.holds Try.pinned (OpenSpec.ofChange fnRaisedSpec)

/-- ITS FALSE NEIGHBOUR: 'it returns false'. Refute it at one input. -/
def fnRaisedWrong : ChangeSpec := { name := "fnRaised", fn := fun _ => fun
  | [d] => { results := [.lit (.bool false)], args := [d] }
  | _ => none }
def FnRaisedWrongFalsely : Prop := fnRaisedRow.holds Try.pinned (OpenSpec.ofChange fnRaisedWrong)

/-- 'laws.FnExactFlood': WHATEVER THE INPUT: true; the input reads as it did. -/
def fnExactFloodSpec : ChangeSpec := { name := "fnExactFlood", fn := fun _ => fun
  | [d1, d2] => { results := [.lit (.bool true)], args := [d1, d2] }
  | _ => none }
def fnExactFloodRow : OpenClaim := { program := "ytjilmfkglikoeaa", sum := "3fb49aa2ca98ac24bfad4e494ad6f240079727396295bce481a4893961e275be", func := "loop.example/g00059/laws.FnExactFlood", spec := "fnExactFlood", unfollowed := true, recurses := true, apart := false }
def FnExactFloodSaid : Prop := fnExactFloodRow.holds Try.pinned (OpenSpec.ofChange fnExactFloodSpec)

/-- ITS FALSE NEIGHBOUR: 'it returns false'. Refute it at one input. -/
def fnExactFloodWrong : ChangeSpec := { name := "fnExactFlood", fn := fun _ => fun
  | [d1, d2] => { results := [.lit (.bool false)], args := [d1, d2] }
  | _ => none }
def FnExactFloodWrongFalsely : Prop := fnExactFloodRow.holds Try.pinned (OpenSpec.ofChange fnExactFloodWrong)

/-- 'laws.FnExactShoals': WHATEVER THE INPUT: true; the input reads as it did. -/
def fnExactShoalsSpec : ChangeSpec := { name := "fnExactShoals", fn := fun _ => fun
  | [d1, d2] => { results := [.lit (.bool true)], args := [d1, d2] }
  | _ => none }
def fnExactShoalsRow : OpenClaim := { program := "ytjilmfkglikoeaa", sum := "3fb49aa2ca98ac24bfad4e494ad6f240079727396295bce481a4893961e275be", func := "loop.example/g00059/laws.FnExactShoals", spec := "fnExactShoals", unfollowed := true, recurses := true, apart := false }
def FnExactShoalsSaid : Prop := fnExactShoalsRow.holds Try.pinned (OpenSpec.ofChange fnExactShoalsSpec)

/-- ITS FALSE NEIGHBOUR: 'it returns false'. Refute it at one input. -/
def fnExactShoalsWrong : ChangeSpec := { name := "fnExactShoals", fn := fun _ => fun
  | [d1, d2] => { results := [.lit (.bool false)], args := [d1, d2] }
  | _ => none }
def FnExactShoalsWrongFalsely : Prop := fnExactShoalsRow.holds Try.pinned (OpenSpec.ofChange fnExactShoalsWrong)

/-- 'laws.FnShoals': WHATEVER THE INPUT: true; the input reads as it did. -/
def fnShoalsSpec : ChangeSpec := { name := "fnShoals", fn := fun _ => fun
  | [d] => { results := [.lit (.bool true)], args := [d] }
  | _ => none }
def fnShoalsRow : OpenClaim := { program := "ytjilmfkglikoeaa", sum := "3fb49aa2ca98ac24bfad4e494ad6f240079727396295bce481a4893961e275be", func := "loop.example/g00059/laws.FnShoals", spec := "fnShoals", unfollowed := true, recurses := true, apart := false }
def FnShoalsSaid : Prop := fnShoalsRow.holds Try.pinned (OpenSpec.ofChange fnShoalsSpec)

/-- ITS FALSE NEIGHBOUR: 'it returns false'. Refute it at one input. -/
def fnShoalsWrong : ChangeSpec := { name := "fnShoals", fn := fun _ => fun
  | [d] => { results := [.lit (.bool false)], args := [d] }
  | _ => none }
def FnShoalsWrongFalsely : Prop := fnShoalsRow.holds Try.pinned (OpenSpec.ofChange fnShoalsWrong)

/-- 'laws.FnExactNear6': WHATEVER THE INPUT: true; the input reads as it did. -/
def fnExactNear6Spec : ChangeSpec := { name := "fnExactNear6", fn := fun _ => fun
  | [d1, d2, d3, d4] => { results := [.lit (.bool true)], args := [d1, d2, d3, d4] }
  | _ => none }
def fnExactNear6Row : OpenClaim := { program := "ytjilmfkglikoeaa", sum := "3fb49aa2ca98ac24bfad4e494ad6f240079727396295bce481a4893961e275be", func := "loop.example/g00059/laws.FnExactNear6", spec := "fnExactNear6", unfollowed := true, recurses := true, apart := false }
def FnExactNear6Said : Prop := fnExactNear6Row.holds Try.pinned (OpenSpec.ofChange fnExactNear6Spec)

/-- ITS FALSE NEIGHBOUR: 'it returns false'. Refute it at one input. -/
def fnExactNear6Wrong : ChangeSpec := { name := "fnExactNear6", fn := fun _ => fun
  | [d1, d2, d3, d4] => { results := [.lit (.bool false)], args := [d1, d2, d3, d4] }
  | _ => none }
def FnExactNear6WrongFalsely : Prop := fnExactNear6Row.holds Try.pinned (OpenSpec.ofChange fnExactNear6Wrong)

/-- 'laws.FnExactApply6': WHATEVER THE INPUT: true; the input reads as it did. -/
def fnExactApply6Spec : ChangeSpec := { name := "fnExactApply6", fn := fun _ => fun
  | [d1, d2] => { results := [.lit (.bool true)], args := [d1, d2] }
  | _ => none }
def fnExactApply6Row : OpenClaim := { program := "ytjilmfkglikoeaa", sum := "3fb49aa2ca98ac24bfad4e494ad6f240079727396295bce481a4893961e275be", func := "loop.example/g00059/laws.FnExactApply6", spec := "fnExactApply6", unfollowed := true, recurses := true, apart := false }
def FnExactApply6Said : Prop := fnExactApply6Row.holds Try.pinned (OpenSpec.ofChange fnExactApply6Spec)

/-- ITS FALSE NEIGHBOUR: 'it returns false'. Refute it at one input. -/
def fnExactApply6Wrong : ChangeSpec := { name := "fnExactApply6", fn := fun _ => fun
  | [d1, d2] => { results := [.lit (.bool false)], args := [d1, d2] }
  | _ => none }
def FnExactApply6WrongFalsely : Prop := fnExactApply6Row.holds Try.pinned (OpenSpec.ofChange fnExactApply6Wrong)

/-- 'laws.FnExactCatch': WHATEVER THE INPUT: true; the input reads as it did. -/
def fnExactCatchSpec : ChangeSpec := { name := "fnExactCatch", fn := fun _ => fun
  | [d1, d2] => { results := [.lit (.bool true)], args := [d1, d2] }
  | _ => none }
def fnExactCatchRow : OpenClaim := { program := "ytjilmfkglikoeaa", sum := "3fb49aa2ca98ac24bfad4e494ad6f240079727396295bce481a4893961e275be", func := "loop.example/g00059/laws.FnExactCatch", spec := "fnExactCatch", unfollowed := true, recurses := true, apart := false }
def FnExactCatchSaid : Prop := fnExactCatchRow.holds Try.pinned (OpenSpec.ofChange fnExactCatchSpec)

/-- ITS FALSE NEIGHBOUR: 'it returns false'. Refute it at one input. -/
def fnExactCatchWrong : ChangeSpec := { name := "fnExactCatch", fn := fun _ => fun
  | [d1, d2] => { results := [.lit (.bool false)], args := [d1, d2] }
  | _ => none }
def FnExactCatchWrongFalsely : Prop := fnExactCatchRow.holds Try.pinned (OpenSpec.ofChange fnExactCatchWrong)

/-- 'laws.FnCaught': WHATEVER THE INPUT: true; the input reads as it did. -/
def fnCaughtSpec : ChangeSpec := { name := "fnCaught", fn := fun _ => fun
  | [d] => { results := [.lit (.bool true)], args := [d] }
  | _ => none }
def fnCaughtRow : OpenClaim := { program := "ytjilmfkglikoeaa", sum := "3fb49aa2ca98ac24bfad4e494ad6f240079727396295bce481a4893961e275be", func := "loop.example/g00059/laws.FnCaught", spec := "fnCaught", unfollowed := true, recurses := true, apart := false }
def FnCaughtSaid : Prop := fnCaughtRow.holds Try.pinned (OpenSpec.ofChange fnCaughtSpec)

/-- ITS FALSE NEIGHBOUR: 'it returns false'. Refute it at one input. -/
def fnCaughtWrong : ChangeSpec := { name := "fnCaught", fn := fun _ => fun
  | [d] => { results := [.lit (.bool false)], args := [d] }
  | _ => none }
def FnCaughtWrongFalsely : Prop := fnCaughtRow.holds Try.pinned (OpenSpec.ofChange fnCaughtWrong)

/-- 'laws.FnCheapest': WHATEVER THE INPUT: true; the input reads as it did. -/
def fnCheapestSpec : ChangeSpec := { name := "fnCheapest", fn := fun _ => fun
  | [d] => { results := [.lit (.bool true)], args := [d] }
  | _ => none }
def fnCheapestRow : OpenClaim := { program := "ytjilmfkglikoeaa", sum := "3fb49aa2ca98ac24bfad4e494ad6f240079727396295bce481a4893961e275be", func := "loop.example/g00059/laws.FnCheapest", spec := "fnCheapest", unfollowed := true, recurses := true, apart := false }
def FnCheapestSaid : Prop := fnCheapestRow.holds Try.pinned (OpenSpec.ofChange fnCheapestSpec)

/-- ITS FALSE NEIGHBOUR: 'it returns false'. Refute it at one input. -/
def fnCheapestWrong : ChangeSpec := { name := "fnCheapest", fn := fun _ => fun
  | [d] => { results := [.lit (.bool false)], args := [d] }
  | _ => none }
def FnCheapestWrongFalsely : Prop := fnCheapestRow.holds Try.pinned (OpenSpec.ofChange fnCheapestWrong)

/-- 'laws.FnExactWayOf': WHATEVER THE INPUT: true; the input reads as it did. -/
def fnExactWayOfSpec : ChangeSpec := { name := "fnExactWayOf", fn := fun _ => fun
  | [d1, d2, d3] => { results := [.lit (.bool true)], args := [d1, d2, d3] }
  | _ => none }
def fnExactWayOfRow : OpenClaim := { program := "ytjilmfkglikoeaa", sum := "3fb49aa2ca98ac24bfad4e494ad6f240079727396295bce481a4893961e275be", func := "loop.example/g00059/laws.FnExactWayOf", spec := "fnExactWayOf", unfollowed := true, recurses := true, apart := false }
def FnExactWayOfSaid : Prop := fnExactWayOfRow.holds Try.pinned (OpenSpec.ofChange fnExactWayOfSpec)

/-- ITS FALSE NEIGHBOUR: 'it returns false'. Refute it at one input. -/
def fnExactWayOfWrong : ChangeSpec := { name := "fnExactWayOf", fn := fun _ => fun
  | [d1, d2, d3] => { results := [.lit (.bool false)], args := [d1, d2, d3] }
  | _ => none }
def FnExactWayOfWrongFalsely : Prop := fnExactWayOfRow.holds Try.pinned (OpenSpec.ofChange fnExactWayOfWrong)

/-- 'laws.FnKept': WHATEVER THE INPUT: true; the input reads as it did. -/
def fnKeptSpec : ChangeSpec := { name := "fnKept", fn := fun _ => fun
  | [d] => { results := [.lit (.bool true)], args := [d] }
  | _ => none }
def fnKeptRow : OpenClaim := { program := "ytjilmfkglikoeaa", sum := "3fb49aa2ca98ac24bfad4e494ad6f240079727396295bce481a4893961e275be", func := "loop.example/g00059/laws.FnKept", spec := "fnKept", unfollowed := true, recurses := true, apart := false }
def FnKeptSaid : Prop := fnKeptRow.holds Try.pinned (OpenSpec.ofChange fnKeptSpec)

/-- ITS FALSE NEIGHBOUR: 'it returns false'. Refute it at one input. -/
def fnKeptWrong : ChangeSpec := { name := "fnKept", fn := fun _ => fun
  | [d] => { results := [.lit (.bool false)], args := [d] }
  | _ => none }
def FnKeptWrongFalsely : Prop := fnKeptRow.holds Try.pinned (OpenSpec.ofChange fnKeptWrong)

/-- 'laws.FnExactNewPort': WHATEVER THE INPUT: true; the input reads as it did. -/
def fnExactNewPortSpec : ChangeSpec := { name := "fnExactNewPort", fn := fun _ => fun
  | [] => { results := [.lit (.bool true)], args := [] }
  | _ => none }
def fnExactNewPortRow : OpenClaim := { program := "ytjilmfkglikoeaa", sum := "3fb49aa2ca98ac24bfad4e494ad6f240079727396295bce481a4893961e275be", func := "loop.example/g00059/laws.FnExactNewPort", spec := "fnExactNewPort", apart := false }
def FnExactNewPortSaid : Prop := fnExactNewPortRow.holds Try.pinned (OpenSpec.ofChange fnExactNewPortSpec)

/-- ITS FALSE NEIGHBOUR: 'it returns false'. Refute it at one input. -/
def fnExactNewPortWrong : ChangeSpec := { name := "fnExactNewPort", fn := fun _ => fun
  | [] => { results := [.lit (.bool false)], args := [] }
  | _ => none }
def FnExactNewPortWrongFalsely : Prop := fnExactNewPortRow.holds Try.pinned (OpenSpec.ofChange fnExactNewPortWrong)

/- THE SECOND FORM. 'bulk': how many values and letters a reading holds, each counted each time it is reached (what is shared counts as often as it is met; a slice's spare places count too). A statement '..UptoSaid' is the law's where the arguments, and the package variables that the reading takes, are together of bulk at most 1048576: NARROWER than '..Said'. Prove '..Said' where nothing that the law and all that it calls make is longer than what came in: it says more and counts as full. Else prove '..UptoSaid'. A law counts once. -/
mutual
def uptoBulk {H : Type} : DataW H → Nat
  | .lit (.string bytes) => bytes.length + 1
  | .lit _ => 1
  | .nil => 1
  | .ptr d => uptoBulk d + 1
  | .slice elems spare => uptoBulkAll elems + uptoBulkAll spare + 1
  | .agg parts => uptoBulkAll parts + 1
  | .iface _ d => uptoBulk d + 1
  | .map entries => uptoBulkEntries entries + 1
  | .held _ => 1
def uptoBulkAll {H : Type} : List (DataW H) → Nat
  | [] => 0
  | d :: r => uptoBulk d + uptoBulkAll r
def uptoBulkEntries {H : Type} : List (Lit × DataW H) → Nat
  | [] => 0
  | x :: r => uptoBulkEntry x + uptoBulkEntries r
def uptoBulkEntry {H : Type} : Lit × DataW H → Nat
  | (.string bytes, d) => bytes.length + uptoBulk d + 1
  | (_, d) => uptoBulk d + 1
 end
def uptoSmall : (H : Type) → List (DataW H) → Bool := fun _ ds => decide (uptoBulkAll ds ≤ 1048576)
def OpenSpec.upto (s : _root_.Go.ChangeSpec) : _root_.Go.OpenSpec := { _root_.Go.OpenSpec.ofChange s with cond := some uptoSmall }

/-- 'laws.FnRaised', WHERE WHAT IT READS IS OF BULK AT MOST 1048576: true; the input reads as it did. -/
def fnRaisedUptoRow : OpenClaim := { program := "ytjilmfkglikoeaa", sum := "3fb49aa2ca98ac24bfad4e494ad6f240079727396295bce481a4893961e275be", func := "loop.example/g00059/laws.FnRaised", spec := "fnRaised", unfollowed := true, recurses := true, apart := false, narrowed := true }
def FnRaisedUptoSaid : Prop := fnRaisedUptoRow.holds Try.pinned (OpenSpec.upto fnRaisedSpec)

/-- 'laws.FnExactFlood', WHERE WHAT IT READS IS OF BULK AT MOST 1048576: true; the input reads as it did. -/
def fnExactFloodUptoRow : OpenClaim := { program := "ytjilmfkglikoeaa", sum := "3fb49aa2ca98ac24bfad4e494ad6f240079727396295bce481a4893961e275be", func := "loop.example/g00059/laws.FnExactFlood", spec := "fnExactFlood", unfollowed := true, recurses := true, apart := false, narrowed := true }
def FnExactFloodUptoSaid : Prop := fnExactFloodUptoRow.holds Try.pinned (OpenSpec.upto fnExactFloodSpec)

/-- 'laws.FnExactShoals', WHERE WHAT IT READS IS OF BULK AT MOST 1048576: true; the input reads as it did. -/
def fnExactShoalsUptoRow : OpenClaim := { program := "ytjilmfkglikoeaa", sum := "3fb49aa2ca98ac24bfad4e494ad6f240079727396295bce481a4893961e275be", func := "loop.example/g00059/laws.FnExactShoals", spec := "fnExactShoals", unfollowed := true, recurses := true, apart := false, narrowed := true }
def FnExactShoalsUptoSaid : Prop := fnExactShoalsUptoRow.holds Try.pinned (OpenSpec.upto fnExactShoalsSpec)

/-- 'laws.FnShoals', WHERE WHAT IT READS IS OF BULK AT MOST 1048576: true; the input reads as it did. -/
def fnShoalsUptoRow : OpenClaim := { program := "ytjilmfkglikoeaa", sum := "3fb49aa2ca98ac24bfad4e494ad6f240079727396295bce481a4893961e275be", func := "loop.example/g00059/laws.FnShoals", spec := "fnShoals", unfollowed := true, recurses := true, apart := false, narrowed := true }
def FnShoalsUptoSaid : Prop := fnShoalsUptoRow.holds Try.pinned (OpenSpec.upto fnShoalsSpec)

/-- 'laws.FnExactNear6', WHERE WHAT IT READS IS OF BULK AT MOST 1048576: true; the input reads as it did. -/
def fnExactNear6UptoRow : OpenClaim := { program := "ytjilmfkglikoeaa", sum := "3fb49aa2ca98ac24bfad4e494ad6f240079727396295bce481a4893961e275be", func := "loop.example/g00059/laws.FnExactNear6", spec := "fnExactNear6", unfollowed := true, recurses := true, apart := false, narrowed := true }
def FnExactNear6UptoSaid : Prop := fnExactNear6UptoRow.holds Try.pinned (OpenSpec.upto fnExactNear6Spec)

/-- 'laws.FnExactApply6', WHERE WHAT IT READS IS OF BULK AT MOST 1048576: true; the input reads as it did. -/
def fnExactApply6UptoRow : OpenClaim := { program := "ytjilmfkglikoeaa", sum := "3fb49aa2ca98ac24bfad4e494ad6f240079727396295bce481a4893961e275be", func := "loop.example/g00059/laws.FnExactApply6", spec := "fnExactApply6", unfollowed := true, recurses := true, apart := false, narrowed := true }
def FnExactApply6UptoSaid : Prop := fnExactApply6UptoRow.holds Try.pinned (OpenSpec.upto fnExactApply6Spec)

/-- 'laws.FnExactCatch', WHERE WHAT IT READS IS OF BULK AT MOST 1048576: true; the input reads as it did. -/
def fnExactCatchUptoRow : OpenClaim := { program := "ytjilmfkglikoeaa", sum := "3fb49aa2ca98ac24bfad4e494ad6f240079727396295bce481a4893961e275be", func := "loop.example/g00059/laws.FnExactCatch", spec := "fnExactCatch", unfollowed := true, recurses := true, apart := false, narrowed := true }
def FnExactCatchUptoSaid : Prop := fnExactCatchUptoRow.holds Try.pinned (OpenSpec.upto fnExactCatchSpec)

/-- 'laws.FnCaught', WHERE WHAT IT READS IS OF BULK AT MOST 1048576: true; the input reads as it did. -/
def fnCaughtUptoRow : OpenClaim := { program := "ytjilmfkglikoeaa", sum := "3fb49aa2ca98ac24bfad4e494ad6f240079727396295bce481a4893961e275be", func := "loop.example/g00059/laws.FnCaught", spec := "fnCaught", unfollowed := true, recurses := true, apart := false, narrowed := true }
def FnCaughtUptoSaid : Prop := fnCaughtUptoRow.holds Try.pinned (OpenSpec.upto fnCaughtSpec)

/-- 'laws.FnCheapest', WHERE WHAT IT READS IS OF BULK AT MOST 1048576: true; the input reads as it did. -/
def fnCheapestUptoRow : OpenClaim := { program := "ytjilmfkglikoeaa", sum := "3fb49aa2ca98ac24bfad4e494ad6f240079727396295bce481a4893961e275be", func := "loop.example/g00059/laws.FnCheapest", spec := "fnCheapest", unfollowed := true, recurses := true, apart := false, narrowed := true }
def FnCheapestUptoSaid : Prop := fnCheapestUptoRow.holds Try.pinned (OpenSpec.upto fnCheapestSpec)

/-- 'laws.FnExactWayOf', WHERE WHAT IT READS IS OF BULK AT MOST 1048576: true; the input reads as it did. -/
def fnExactWayOfUptoRow : OpenClaim := { program := "ytjilmfkglikoeaa", sum := "3fb49aa2ca98ac24bfad4e494ad6f240079727396295bce481a4893961e275be", func := "loop.example/g00059/laws.FnExactWayOf", spec := "fnExactWayOf", unfollowed := true, recurses := true, apart := false, narrowed := true }
def FnExactWayOfUptoSaid : Prop := fnExactWayOfUptoRow.holds Try.pinned (OpenSpec.upto fnExactWayOfSpec)

/-- 'laws.FnKept', WHERE WHAT IT READS IS OF BULK AT MOST 1048576: true; the input reads as it did. -/
def fnKeptUptoRow : OpenClaim := { program := "ytjilmfkglikoeaa", sum := "3fb49aa2ca98ac24bfad4e494ad6f240079727396295bce481a4893961e275be", func := "loop.example/g00059/laws.FnKept", spec := "fnKept", unfollowed := true, recurses := true, apart := false, narrowed := true }
def FnKeptUptoSaid : Prop := fnKeptUptoRow.holds Try.pinned (OpenSpec.upto fnKeptSpec)

/-- 'laws.FnExactNewPort', WHERE WHAT IT READS IS OF BULK AT MOST 1048576: true; the input reads as it did. -/
def fnExactNewPortUptoRow : OpenClaim := { program := "ytjilmfkglikoeaa", sum := "3fb49aa2ca98ac24bfad4e494ad6f240079727396295bce481a4893961e275be", func := "loop.example/g00059/laws.FnExactNewPort", spec := "fnExactNewPort", apart := false, narrowed := true }
def FnExactNewPortUptoSaid : Prop := fnExactNewPortUptoRow.holds Try.pinned (OpenSpec.upto fnExactNewPortSpec)

end Rows
end Go.Proofs.Ytjilmfkglikoeaa
