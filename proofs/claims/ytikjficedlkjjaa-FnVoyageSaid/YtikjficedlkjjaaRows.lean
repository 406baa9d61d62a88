/-
  No cell of these rows narrows 'for every input' (looked for: loops, veiled, ifaces, maps, wideKeys, modest, calm, conditions, laid).
  DERIVED. THE GIVEN ROWS OF THIS SEAT. 9 by the template 'for every input the law returns true; each argument reads behind the call as it read before'; 0 by the template 'total and deterministic' (their statements: YtikjficedlkjjaaTotals.lean).
  GIVEN WITH THE SEED: the statements are not yours to turn. If you find one false, say at which input.
  Laid BY PROGRAM, IN A SANDBOX (cutbox-rows.mjs): the forced cells as the released guide's own fill.sh prints them over the translation 9b50e0300a59d58c… (all of the seat's roots in one cut). By AI agents, Wed Nov 11 2026. No macro, syntax, notation, axiom, sorry.
-/
import Derived.Test.YtikjficedlkjjaaChecked
import GoSem.Claim
import GoSem.ClaimJoined
import GoSem.ClaimMapViews
import Derived.JoinedTies
import Derived.KernelRfl
namespace Go.Proofs.Ytikjficedlkjjaa
/- THE CELL 'sum', in the pinned program and in every row, IS THE sha256 OF THE DUMP (.gsa) THAT YtikjficedlkjjaaProg.lean LOADS. Nothing in Lean hashes anything: it is a label: what it is worth is what the hold of that sum in a sandbox is worth. -/
noncomputable def Try.pinned : Pinned := { name := "ytikjficedlkjjaa", sum := "9b50e0300a59d58c1815d467ad038bf1bb854d23bd4c5e247a63b316e8e25d6c", checked := Try.checked }
namespace Rows
def none {H : Type} : Left H := { results := [], args := [] }

/-- 'laws.FnStacks': WHATEVER THE INPUT: true; the input reads as it did. -/
def fnStacksSpec : ChangeSpec := { name := "fnStacks", fn := fun _ => fun
  | [d] => { results := [.lit (.bool true)], args := [d] }
  | _ => none }
def fnStacksRow : OpenClaim := { program := "ytikjficedlkjjaa", sum := "9b50e0300a59d58c1815d467ad038bf1bb854d23bd4c5e247a63b316e8e25d6c", func := "loop.example/g00059/laws.FnStacks", spec := "fnStacks", unfollowed := true, recurses := true, apart := false }
def FnStacksSaid : Prop := fnStacksRow.holds Try.pinned (OpenSpec.ofChange fnStacksSpec)

/-- ITS FALSE NEIGHBOUR: 'it returns false'. Refute it at one input. -/
def fnStacksWrong : ChangeSpec := { name := "fnStacks", fn := fun _ => fun
  | [d] => { results := [.lit (.bool false)], args := [d] }
  | _ => none }
def FnStacksWrongFalsely : Prop := fnStacksRow.holds Try.pinned (OpenSpec.ofChange fnStacksWrong)

/-- 'laws.FnVoyage': WHATEVER THE INPUT: true; the input reads as it did. -/
def fnVoyageSpec : ChangeSpec := { name := "fnVoyage", fn := fun _ => fun
  | [d] => { results := [.lit (.bool true)], args := [d] }
  | _ => none }
def fnVoyageRow : OpenClaim := { program := "ytikjficedlkjjaa", sum := "9b50e0300a59d58c1815d467ad038bf1bb854d23bd4c5e247a63b316e8e25d6c", func := "loop.example/g00059/laws.FnVoyage", spec := "fnVoyage", unfollowed := true, recurses := true, apart := false }
def FnVoyageSaid : Prop := fnVoyageRow.holds Try.pinned (OpenSpec.ofChange fnVoyageSpec)

/-- ITS FALSE NEIGHBOUR: 'it returns false'. Refute it at one input. -/
def fnVoyageWrong : ChangeSpec := { name := "fnVoyage", fn := fun _ => fun
  | [d] => { results := [.lit (.bool false)], args := [d] }
  | _ => none }
def FnVoyageWrongFalsely : Prop := fnVoyageRow.holds Try.pinned (OpenSpec.ofChange fnVoyageWrong)

/-- 'laws.FnFewest': WHATEVER THE INPUT: true; the input reads as it did. -/
def fnFewestSpec : ChangeSpec := { name := "fnFewest", fn := fun _ => fun
  | [d] => { results := [.lit (.bool true)], args := [d] }
  | _ => none }
def fnFewestRow : OpenClaim := { program := "ytikjficedlkjjaa", sum := "9b50e0300a59d58c1815d467ad038bf1bb854d23bd4c5e247a63b316e8e25d6c", func := "loop.example/g00059/laws.FnFewest", spec := "fnFewest", unfollowed := true, recurses := true, apart := false }
def FnFewestSaid : Prop := fnFewestRow.holds Try.pinned (OpenSpec.ofChange fnFewestSpec)

/-- ITS FALSE NEIGHBOUR: 'it returns false'. Refute it at one input. -/
def fnFewestWrong : ChangeSpec := { name := "fnFewest", fn := fun _ => fun
  | [d] => { results := [.lit (.bool false)], args := [d] }
  | _ => none }
def FnFewestWrongFalsely : Prop := fnFewestRow.holds Try.pinned (OpenSpec.ofChange fnFewestWrong)

/-- 'laws.FnExactAtPort': WHATEVER THE INPUT: true; the input reads as it did. -/
def fnExactAtPortSpec : ChangeSpec := { name := "fnExactAtPort", fn := fun _ => fun
  | [d1, d2, d3, d4] => { results := [.lit (.bool true)], args := [d1, d2, d3, d4] }
  | _ => none }
def fnExactAtPortRow : OpenClaim := { program := "ytikjficedlkjjaa", sum := "9b50e0300a59d58c1815d467ad038bf1bb854d23bd4c5e247a63b316e8e25d6c", func := "loop.example/g00059/laws.FnExactAtPort", spec := "fnExactAtPort", unfollowed := true, recurses := true, apart := false }
def FnExactAtPortSaid : Prop := fnExactAtPortRow.holds Try.pinned (OpenSpec.ofChange fnExactAtPortSpec)

/-- ITS FALSE NEIGHBOUR: 'it returns false'. Refute it at one input. -/
def fnExactAtPortWrong : ChangeSpec := { name := "fnExactAtPort", fn := fun _ => fun
  | [d1, d2, d3, d4] => { results := [.lit (.bool false)], args := [d1, d2, d3, d4] }
  | _ => none }
def FnExactAtPortWrongFalsely : Prop := fnExactAtPortRow.holds Try.pinned (OpenSpec.ofChange fnExactAtPortWrong)

/-- 'laws.FnExactFewest': WHATEVER THE INPUT: true; the input reads as it did. -/
def fnExactFewestSpec : ChangeSpec := { name := "fnExactFewest", fn := fun _ => fun
  | [d1, d2] => { results := [.lit (.bool true)], args := [d1, d2] }
  | _ => none }
def fnExactFewestRow : OpenClaim := { program := "ytikjficedlkjjaa", sum := "9b50e0300a59d58c1815d467ad038bf1bb854d23bd4c5e247a63b316e8e25d6c", func := "loop.example/g00059/laws.FnExactFewest", spec := "fnExactFewest", unfollowed := true, recurses := true, apart := false }
def FnExactFewestSaid : Prop := fnExactFewestRow.holds Try.pinned (OpenSpec.ofChange fnExactFewestSpec)

/-- ITS FALSE NEIGHBOUR: 'it returns false'. Refute it at one input. -/
def fnExactFewestWrong : ChangeSpec := { name := "fnExactFewest", fn := fun _ => fun
  | [d1, d2] => { results := [.lit (.bool false)], args := [d1, d2] }
  | _ => none }
def FnExactFewestWrongFalsely : Prop := fnExactFewestRow.holds Try.pinned (OpenSpec.ofChange fnExactFewestWrong)

/-- 'laws.FnRounds': WHATEVER THE INPUT: true; the input reads as it did. -/
def fnRoundsSpec : ChangeSpec := { name := "fnRounds", fn := fun _ => fun
  | [d] => { results := [.lit (.bool true)], args := [d] }
  | _ => none }
def fnRoundsRow : OpenClaim := { program := "ytikjficedlkjjaa", sum := "9b50e0300a59d58c1815d467ad038bf1bb854d23bd4c5e247a63b316e8e25d6c", func := "loop.example/g00059/laws.FnRounds", spec := "fnRounds", unfollowed := true, recurses := true, apart := false }
def FnRoundsSaid : Prop := fnRoundsRow.holds Try.pinned (OpenSpec.ofChange fnRoundsSpec)

/-- ITS FALSE NEIGHBOUR: 'it returns false'. Refute it at one input. -/
def fnRoundsWrong : ChangeSpec := { name := "fnRounds", fn := fun _ => fun
  | [d] => { results := [.lit (.bool false)], args := [d] }
  | _ => none }
def FnRoundsWrongFalsely : Prop := fnRoundsRow.holds Try.pinned (OpenSpec.ofChange fnRoundsWrong)

/-- 'laws.FnExactRound': WHATEVER THE INPUT: true; the input reads as it did. -/
def fnExactRoundSpec : ChangeSpec := { name := "fnExactRound", fn := fun _ => fun
  | [d1, d2] => { results := [.lit (.bool true)], args := [d1, d2] }
  | _ => none }
def fnExactRoundRow : OpenClaim := { program := "ytikjficedlkjjaa", sum := "9b50e0300a59d58c1815d467ad038bf1bb854d23bd4c5e247a63b316e8e25d6c", func := "loop.example/g00059/laws.FnExactRound", spec := "fnExactRound", unfollowed := true, recurses := true, apart := false }
def FnExactRoundSaid : Prop := fnExactRoundRow.holds Try.pinned (OpenSpec.ofChange fnExactRoundSpec)

/-- ITS FALSE NEIGHBOUR: 'it returns false'. Refute it at one input. -/
def fnExactRoundWrong : ChangeSpec := { name := "fnExactRound", fn := fun _ => fun
  | [d1, d2] => { results := [.lit (.bool false)], args := [d1, d2] }
  | _ => none }
def FnExactRoundWrongFalsely : Prop := fnExactRoundRow.holds Try.pinned (OpenSpec.ofChange fnExactRoundWrong)

/-- 'laws.FnExactSettle19': WHATEVER THE INPUT: true; the input reads as it did. -/
def fnExactSettle19Spec : ChangeSpec := { name := "fnExactSettle19", fn := fun _ => fun
  | [d1, d2, d3] => { results := [.lit (.bool true)], args := [d1, d2, d3] }
  | _ => none }
def fnExactSettle19Row : OpenClaim := { program := "ytikjficedlkjjaa", sum := "9b50e0300a59d58c1815d467ad038bf1bb854d23bd4c5e247a63b316e8e25d6c", func := "loop.example/g00059/laws.FnExactSettle19", spec := "fnExactSettle19", unfollowed := true, recurses := true, apart := false }
def FnExactSettle19Said : Prop := fnExactSettle19Row.holds Try.pinned (OpenSpec.ofChange fnExactSettle19Spec)

/-- ITS FALSE NEIGHBOUR: 'it returns false'. Refute it at one input. -/
def fnExactSettle19Wrong : ChangeSpec := { name := "fnExactSettle19", fn := fun _ => fun
  | [d1, d2, d3] => { results := [.lit (.bool false)], args := [d1, d2, d3] }
  | _ => none }
def FnExactSettle19WrongFalsely : Prop := fnExactSettle19Row.holds Try.pinned (OpenSpec.ofChange fnExactSettle19Wrong)

/-- 'laws.FnExactStuck': WHATEVER THE INPUT: true; the input reads as it did. -/
def fnExactStuckSpec : ChangeSpec := { name := "fnExactStuck", fn := fun _ => fun
  | [d1, d2] => { results := [.lit (.bool true)], args := [d1, d2] }
  | _ => none }
def fnExactStuckRow : OpenClaim := { program := "ytikjficedlkjjaa", sum := "9b50e0300a59d58c1815d467ad038bf1bb854d23bd4c5e247a63b316e8e25d6c", func := "loop.example/g00059/laws.FnExactStuck", spec := "fnExactStuck", unfollowed := true, recurses := true, apart := false }
def FnExactStuckSaid : Prop := fnExactStuckRow.holds Try.pinned (OpenSpec.ofChange fnExactStuckSpec)

/-- ITS FALSE NEIGHBOUR: 'it returns false'. Refute it at one input. -/
def fnExactStuckWrong : ChangeSpec := { name := "fnExactStuck", fn := fun _ => fun
  | [d1, d2] => { results := [.lit (.bool false)], args := [d1, d2] }
  | _ => none }
def FnExactStuckWrongFalsely : Prop := fnExactStuckRow.holds Try.pinned (OpenSpec.ofChange fnExactStuckWrong)

/- THE SECOND FORM. 'bulk': how many values and letters a reading holds, each counted each time it is reached (what is shared counts as often as it is met; a slice's spare places count too). A statement '..UptoSaid' is the law's where the arguments, and the package variables that the reading takes, are together of bulk at most 1048576: NARROWER than '..Said'. Prove '..Said' where nothing that the law and all that it calls make is longer than what came in: it says more and counts as full. Else prove '..UptoSaid'. A law counts once. -/
mutual
def uptoBulk {H : Type} : DataW H → Nat
  | .lit (.string bytes) => bytes.length + 1
  | .lit _ => 1
  | .nil => 1
  | .ptr d => uptoBulk d + 1
  | .slice elems spare => uptoBulkAll elems + uptoBulkAll spare + 1
  | .agg parts => uptoBulkAll parts + 1
  | .iface _ d => uptoBulk d + 1
  | .map entries => uptoBulkEntries entries + 1
  | .held _ => 1
def uptoBulkAll {H : Type} : List (DataW H) → Nat
  | [] => 0
  | d :: r => uptoBulk d + uptoBulkAll r
def uptoBulkEntries {H : Type} : List (Lit × DataW H) → Nat
  | [] => 0
  | x :: r => uptoBulkEntry x + uptoBulkEntries r
def uptoBulkEntry {H : Type} : Lit × DataW H → Nat
  | (.string bytes, d) => bytes.length + uptoBulk d + 1
  | (_, d) => uptoBulk d + 1
 end
def uptoSmall : (H : Type) → List (DataW H) → Bool := fun _ ds => decide (uptoBulkAll ds ≤ 1048576)
def OpenSpec.upto (s : _root_.Go.ChangeSpec) : _root_.Go.OpenSpec := { _root_.Go.OpenSpec.ofChange s with cond := some uptoSmall }

/-- 'laws.FnStacks', WHERE WHAT IT READS IS OF BULK AT MOST 1048576: true; the input reads as it did. -/
def fnStacksUptoRow : OpenClaim := { program := "ytikjficedlkjjaa", sum := "9b50e0300a59d58c1815d467ad038bf1bb854d23bd4c5e247a63b316e8e25d6c", func := "loop.example/g00059/laws.FnStacks", spec := "fnStacks", unfollowed := true, recurses := true, apart := false, narrowed := true }
def FnStacksUptoSaid : Prop := fnStacksUptoRow.holds Try.pinned (OpenSpec.upto fnStacksSpec)

/-- 'laws.FnVoyage', WHERE WHAT IT READS IS OF BULK AT MOST 1048576: true; the input reads as it did. -/
def fnVoyageUptoRow : OpenClaim := { program := "ytikjficedlkjjaa", sum := "9b50e0300a59d58c1815d467ad038bf1bb854d23bd4c5e247a63b316e8e25d6c", func := "loop.example/g00059/laws.FnVoyage", spec := "fnVoyage", unfollowed := true, recurses := true, apart := false, narrowed := true }
def FnVoyageUptoSaid : Prop := fnVoyageUptoRow.holds Try.pinned (OpenSpec.upto fnVoyageSpec)

/-- 'laws.FnFewest', WHERE WHAT IT READS IS OF BULK AT MOST 1048576: true; the input reads as it did. -/
def fnFewestUptoRow : OpenClaim := { program := "ytikjficedlkjjaa", sum := "9b50e0300a59d58c1815d467ad038bf1bb854d23bd4c5e247a63b316e8e25d6c", func := "loop.example/g00059/laws.FnFewest", spec := "fnFewest", unfollowed := true, recurses := true, apart := false, narrowed := true }
def FnFewestUptoSaid : Prop := fnFewestUptoRow.holds Try.pinned (OpenSpec.upto fnFewestSpec)

/-- 'laws.FnExactAtPort', WHERE WHAT IT READS IS OF BULK AT MOST 1048576: true; the input reads as it did. -/
def fnExactAtPortUptoRow : OpenClaim := { program := "ytikjficedlkjjaa", sum := "9b50e0300a59d58c1815d467ad038bf1bb854d23bd4c5e247a63b316e8e25d6c", func := "loop.example/g00059/laws.FnExactAtPort", spec := "fnExactAtPort", unfollowed := true, recurses := true, apart := false, narrowed := true }
def FnExactAtPortUptoSaid : Prop := fnExactAtPortUptoRow.holds Try.pinned (OpenSpec.upto fnExactAtPortSpec)

/-- 'laws.FnExactFewest', WHERE WHAT IT READS IS OF BULK AT MOST 1048576: true; the input reads as it did. -/
def fnExactFewestUptoRow : OpenClaim := { program := "ytikjficedlkjjaa", sum := "9b50e0300a59d58c1815d467ad038bf1bb854d23bd4c5e247a63b316e8e25d6c", func := "loop.example/g00059/laws.FnExactFewest", spec := "fnExactFewest", unfollowed := true, recurses := true, apart := false, narrowed := true }
def FnExactFewestUptoSaid : Prop := fnExactFewestUptoRow.holds Try.pinned (OpenSpec.upto fnExactFewestSpec)

/-- 'laws.FnRounds', WHERE WHAT IT READS IS OF BULK AT MOST 1048576: true; the input reads as it did. -/
def fnRoundsUptoRow : OpenClaim := { program := "ytikjficedlkjjaa", sum := "9b50e0300a59d58c1815d467ad038bf1bb854d23bd4c5e247a63b316e8e25d6c", func := "loop.example/g00059/laws.FnRounds", spec := "fnRounds", unfollowed := true, recurses := true, apart := false, narrowed := true }
def FnRoundsUptoSaid : Prop := fnRoundsUptoRow.holds Try.pinned (OpenSpec.upto fnRoundsSpec)

/-- 'laws.FnExactRound', WHERE WHAT IT READS IS OF BULK AT MOST 1048576: true; the input reads as it did. -/
def fnExactRoundUptoRow : OpenClaim := { program := "ytikjficedlkjjaa", sum := "9b50e0300a59d58c1815d467ad038bf1bb854d23bd4c5e247a63b316e8e25d6c", func := "loop.example/g00059/laws.FnExactRound", spec := "fnExactRound", unfollowed := true, recurses := true, apart := false, narrowed := true }
def FnExactRoundUptoSaid : Prop := fnExactRoundUptoRow.holds Try.pinned (OpenSpec.upto fnExactRoundSpec)

/-- 'laws.FnExactSettle19', WHERE WHAT IT READS IS OF BULK AT MOST 1048576: true; the input reads as it did. -/
def fnExactSettle19UptoRow : OpenClaim := { program := "ytikjficedlkjjaa", sum := "9b50e0300a59d58c1815d467ad038bf1bb854d23bd4c5e247a63b316e8e25d6c", func := "loop.example/g00059/laws.FnExactSettle19", spec := "fnExactSettle19", unfollowed := true, recurses := true, apart := false, narrowed := true }
def FnExactSettle19UptoSaid : Prop := fnExactSettle19UptoRow.holds Try.pinned (OpenSpec.upto fnExactSettle19Spec)

/-- 'laws.FnExactStuck', WHERE WHAT IT READS IS OF BULK AT MOST 1048576: true; the input reads as it did. -/
def fnExactStuckUptoRow : OpenClaim := { program := "ytikjficedlkjjaa", sum := "9b50e0300a59d58c1815d467ad038bf1bb854d23bd4c5e247a63b316e8e25d6c", func := "loop.example/g00059/laws.FnExactStuck", spec := "fnExactStuck", unfollowed := true, recurses := true, apart := false, narrowed := true }
def FnExactStuckUptoSaid : Prop := fnExactStuckUptoRow.holds Try.pinned (OpenSpec.upto fnExactStuckSpec)

end Rows
end Go.Proofs.Ytikjficedlkjjaa
