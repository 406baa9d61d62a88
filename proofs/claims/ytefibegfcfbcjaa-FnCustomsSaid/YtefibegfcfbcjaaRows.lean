/-
  No cell of these rows narrows 'for every input' (looked for: loops, veiled, ifaces, maps, wideKeys, modest, calm, conditions, laid).
  DERIVED. THE GIVEN ROWS OF THIS SEAT. 11 by the template 'for every input the law returns true; each argument reads behind the call as it read before'; 0 by the template 'total and deterministic' (their statements: YtefibegfcfbcjaaTotals.lean).
  GIVEN WITH THE SEED: the statements are not yours to turn. If you find one false, say at which input.
  Laid BY PROGRAM, IN A SANDBOX (cutbox-rows.mjs): the forced cells as the released guide's own fill.sh prints them over the translation 2eecd6db858f0ffc… (all of the seat's roots in one cut). By AI agents, Wed Nov 11 2026. No macro, syntax, notation, axiom, sorry.
-/
import Derived.Test.YtefibegfcfbcjaaChecked
import GoSem.Claim
import GoSem.ClaimJoined
import GoSem.ClaimMapViews
import Derived.JoinedTies
import Derived.KernelRfl
namespace Go.Proofs.Ytefibegfcfbcjaa
/- THE CELL 'sum', in the pinned program and in every row, IS THE sha256 OF THE DUMP (.gsa) THAT YtefibegfcfbcjaaProg.lean LOADS. Nothing in Lean hashes anything: it is a label: what it is worth is what the hold of that sum in a sandbox is worth. -/
noncomputable def Try.pinned : Pinned := { name := "ytefibegfcfbcjaa", sum := "2eecd6db858f0ffcf82fc2ab2e796cdbb75fa0b5bb0e29dc77fdb383b762ba81", checked := Try.checked }
namespace Rows
def none {H : Type} : Left H := { results := [], args := [] }

/-- 'laws.FnExactTitleOf': WHATEVER THE INPUT: true; the input reads as it did. -/
def fnExactTitleOfSpec : ChangeSpec := { name := "fnExactTitleOf", fn := fun _ => fun
  | [d1, d2] => { results := [.lit (.bool true)], args := [d1, d2] }
  | _ => none }
def fnExactTitleOfRow : OpenClaim := { program := "ytefibegfcfbcjaa", sum := "2eecd6db858f0ffcf82fc2ab2e796cdbb75fa0b5bb0e29dc77fdb383b762ba81", func := "loop.example/g00059/laws.FnExactTitleOf", spec := "fnExactTitleOf", unfollowed := true, recurses := true, apart := false }
def FnExactTitleOfSaid : Prop := fnExactTitleOfRow.holds Try.pinned (OpenSpec.ofChange fnExactTitleOfSpec)

/-- ITS FALSE NEIGHBOUR: 'it returns false'. Refute it at one input. -/
def fnExactTitleOfWrong : ChangeSpec := { name := "fnExactTitleOf", fn := fun _ => fun
  | [d1, d2] => { results := [.lit (.bool false)], args := [d1, d2] }
  | _ => none }
def FnExactTitleOfWrongFalsely : Prop := fnExactTitleOfRow.holds Try.pinned (OpenSpec.ofChange fnExactTitleOfWrong)

/-- 'laws.FnExactDoYard': WHATEVER THE INPUT: true; the input reads as it did. -/
def fnExactDoYardSpec : ChangeSpec := { name := "fnExactDoYard", fn := fun _ => fun
  | [d1, d2] => { results := [.lit (.bool true)], args := [d1, d2] }
  | _ => none }
def fnExactDoYardRow : OpenClaim := { program := "ytefibegfcfbcjaa", sum := "2eecd6db858f0ffcf82fc2ab2e796cdbb75fa0b5bb0e29dc77fdb383b762ba81", func := "loop.example/g00059/laws.FnExactDoYard", spec := "fnExactDoYard", apart := false }
def FnExactDoYardSaid : Prop := fnExactDoYardRow.holds Try.pinned (OpenSpec.ofChange fnExactDoYardSpec)

/-- ITS FALSE NEIGHBOUR: 'it returns false'. Refute it at one input. -/
def fnExactDoYardWrong : ChangeSpec := { name := "fnExactDoYard", fn := fun _ => fun
  | [d1, d2] => { results := [.lit (.bool false)], args := [d1, d2] }
  | _ => none }
def FnExactDoYardWrongFalsely : Prop := fnExactDoYardRow.holds Try.pinned (OpenSpec.ofChange fnExactDoYardWrong)

/-- 'laws.FnExactRunYard': WHATEVER THE INPUT: true; the input reads as it did. -/
def fnExactRunYardSpec : ChangeSpec := { name := "fnExactRunYard", fn := fun _ => fun
  | [d1, d2] => { results := [.lit (.bool true)], args := [d1, d2] }
  | _ => none }
def fnExactRunYardRow : OpenClaim := { program := "ytefibegfcfbcjaa", sum := "2eecd6db858f0ffcf82fc2ab2e796cdbb75fa0b5bb0e29dc77fdb383b762ba81", func := "loop.example/g00059/laws.FnExactRunYard", spec := "fnExactRunYard", apart := false }
def FnExactRunYardSaid : Prop := fnExactRunYardRow.holds Try.pinned (OpenSpec.ofChange fnExactRunYardSpec)

/-- ITS FALSE NEIGHBOUR: 'it returns false'. Refute it at one input. -/
def fnExactRunYardWrong : ChangeSpec := { name := "fnExactRunYard", fn := fun _ => fun
  | [d1, d2] => { results := [.lit (.bool false)], args := [d1, d2] }
  | _ => none }
def FnExactRunYardWrongFalsely : Prop := fnExactRunYardRow.holds Try.pinned (OpenSpec.ofChange fnExactRunYardWrong)

/-- 'laws.FnExactDoBill': WHATEVER THE INPUT: true; the input reads as it did. -/
def fnExactDoBillSpec : ChangeSpec := { name := "fnExactDoBill", fn := fun _ => fun
  | [d1, d2] => { results := [.lit (.bool true)], args := [d1, d2] }
  | _ => none }
def fnExactDoBillRow : OpenClaim := { program := "ytefibegfcfbcjaa", sum := "2eecd6db858f0ffcf82fc2ab2e796cdbb75fa0b5bb0e29dc77fdb383b762ba81", func := "loop.example/g00059/laws.FnExactDoBill", spec := "fnExactDoBill", unfollowed := true, recurses := true, apart := false }
def FnExactDoBillSaid : Prop := fnExactDoBillRow.holds Try.pinned (OpenSpec.ofChange fnExactDoBillSpec)

/-- ITS FALSE NEIGHBOUR: 'it returns false'. Refute it at one input. -/
def fnExactDoBillWrong : ChangeSpec := { name := "fnExactDoBill", fn := fun _ => fun
  | [d1, d2] => { results := [.lit (.bool false)], args := [d1, d2] }
  | _ => none }
def FnExactDoBillWrongFalsely : Prop := fnExactDoBillRow.holds Try.pinned (OpenSpec.ofChange fnExactDoBillWrong)

/-- 'laws.FnTitle': WHATEVER THE INPUT: true; the input reads as it did. -/
def fnTitleSpec : ChangeSpec := { name := "fnTitle", fn := fun _ => fun
  | [d] => { results := [.lit (.bool true)], args := [d] }
  | _ => none }
def fnTitleRow : OpenClaim := { program := "ytefibegfcfbcjaa", sum := "2eecd6db858f0ffcf82fc2ab2e796cdbb75fa0b5bb0e29dc77fdb383b762ba81", func := "loop.example/g00059/laws.FnTitle", spec := "fnTitle", unfollowed := true, recurses := true, apart := false }
def FnTitleSaid : Prop := fnTitleRow.holds Try.pinned (OpenSpec.ofChange fnTitleSpec)

/-- ITS FALSE NEIGHBOUR: 'it returns false'. Refute it at one input. -/
def fnTitleWrong : ChangeSpec := { name := "fnTitle", fn := fun _ => fun
  | [d] => { results := [.lit (.bool false)], args := [d] }
  | _ => none }
def FnTitleWrongFalsely : Prop := fnTitleRow.holds Try.pinned (OpenSpec.ofChange fnTitleWrong)

/-- 'laws.FnExactDoDeed': WHATEVER THE INPUT: true; the input reads as it did. -/
def fnExactDoDeedSpec : ChangeSpec := { name := "fnExactDoDeed", fn := fun _ => fun
  | [d1, d2] => { results := [.lit (.bool true)], args := [d1, d2] }
  | _ => none }
def fnExactDoDeedRow : OpenClaim := { program := "ytefibegfcfbcjaa", sum := "2eecd6db858f0ffcf82fc2ab2e796cdbb75fa0b5bb0e29dc77fdb383b762ba81", func := "loop.example/g00059/laws.FnExactDoDeed", spec := "fnExactDoDeed", unfollowed := true, recurses := true, apart := false }
def FnExactDoDeedSaid : Prop := fnExactDoDeedRow.holds Try.pinned (OpenSpec.ofChange fnExactDoDeedSpec)

/-- ITS FALSE NEIGHBOUR: 'it returns false'. Refute it at one input. -/
def fnExactDoDeedWrong : ChangeSpec := { name := "fnExactDoDeed", fn := fun _ => fun
  | [d1, d2] => { results := [.lit (.bool false)], args := [d1, d2] }
  | _ => none }
def FnExactDoDeedWrongFalsely : Prop := fnExactDoDeedRow.holds Try.pinned (OpenSpec.ofChange fnExactDoDeedWrong)

/-- 'laws.FnExactRunDeeds': WHATEVER THE INPUT: true; the input reads as it did. -/
def fnExactRunDeedsSpec : ChangeSpec := { name := "fnExactRunDeeds", fn := fun _ => fun
  | [d1, d2] => { results := [.lit (.bool true)], args := [d1, d2] }
  | _ => none }
def fnExactRunDeedsRow : OpenClaim := { program := "ytefibegfcfbcjaa", sum := "2eecd6db858f0ffcf82fc2ab2e796cdbb75fa0b5bb0e29dc77fdb383b762ba81", func := "loop.example/g00059/laws.FnExactRunDeeds", spec := "fnExactRunDeeds", unfollowed := true, recurses := true, apart := false }
def FnExactRunDeedsSaid : Prop := fnExactRunDeedsRow.holds Try.pinned (OpenSpec.ofChange fnExactRunDeedsSpec)

/-- ITS FALSE NEIGHBOUR: 'it returns false'. Refute it at one input. -/
def fnExactRunDeedsWrong : ChangeSpec := { name := "fnExactRunDeeds", fn := fun _ => fun
  | [d1, d2] => { results := [.lit (.bool false)], args := [d1, d2] }
  | _ => none }
def FnExactRunDeedsWrongFalsely : Prop := fnExactRunDeedsRow.holds Try.pinned (OpenSpec.ofChange fnExactRunDeedsWrong)

/-- 'laws.FnCustoms': WHATEVER THE INPUT: true; the input reads as it did. -/
def fnCustomsSpec : ChangeSpec := { name := "fnCustoms", fn := fun _ => fun
  | [d] => { results := [.lit (.bool true)], args := [d] }
  | _ => none }
def fnCustomsRow : OpenClaim := { program := "ytefibegfcfbcjaa", sum := "2eecd6db858f0ffcf82fc2ab2e796cdbb75fa0b5bb0e29dc77fdb383b762ba81", func := "loop.example/g00059/laws.FnCustoms", spec := "fnCustoms", unfollowed := true, recurses := true, apart := false }
def FnCustomsSaid : Prop := fnCustomsRow.holds Try.pinned (OpenSpec.ofChange fnCustomsSpec)

/-- ITS FALSE NEIGHBOUR: 'it returns false'. Refute it at one input. -/
def fnCustomsWrong : ChangeSpec := { name := "fnCustoms", fn := fun _ => fun
  | [d] => { results := [.lit (.bool false)], args := [d] }
  | _ => none }
def FnCustomsWrongFalsely : Prop := fnCustomsRow.holds Try.pinned (OpenSpec.ofChange fnCustomsWrong)

/-- 'laws.FnBerths': WHATEVER THE INPUT: true; the input reads as it did. -/
def fnBerthsSpec : ChangeSpec := { name := "fnBerths", fn := fun _ => fun
  | [d] => { results := [.lit (.bool true)], args := [d] }
  | _ => none }
def fnBerthsRow : OpenClaim := { program := "ytefibegfcfbcjaa", sum := "2eecd6db858f0ffcf82fc2ab2e796cdbb75fa0b5bb0e29dc77fdb383b762ba81", func := "loop.example/g00059/laws.FnBerths", spec := "fnBerths", unfollowed := true, recurses := true, apart := false }
def FnBerthsSaid : Prop := fnBerthsRow.holds Try.pinned (OpenSpec.ofChange fnBerthsSpec)

/-- ITS FALSE NEIGHBOUR: 'it returns false'. Refute it at one input. -/
def fnBerthsWrong : ChangeSpec := { name := "fnBerths", fn := fun _ => fun
  | [d] => { results := [.lit (.bool false)], args := [d] }
  | _ => none }
def FnBerthsWrongFalsely : Prop := fnBerthsRow.holds Try.pinned (OpenSpec.ofChange fnBerthsWrong)

/-- 'laws.FnExactBerthAll': WHATEVER THE INPUT: true; the input reads as it did. -/
def fnExactBerthAllSpec : ChangeSpec := { name := "fnExactBerthAll", fn := fun _ => fun
  | [d1, d2] => { results := [.lit (.bool true)], args := [d1, d2] }
  | _ => none }
def fnExactBerthAllRow : OpenClaim := { program := "ytefibegfcfbcjaa", sum := "2eecd6db858f0ffcf82fc2ab2e796cdbb75fa0b5bb0e29dc77fdb383b762ba81", func := "loop.example/g00059/laws.FnExactBerthAll", spec := "fnExactBerthAll", unfollowed := true, recurses := true, apart := false }
def FnExactBerthAllSaid : Prop := fnExactBerthAllRow.holds Try.pinned (OpenSpec.ofChange fnExactBerthAllSpec)

/-- ITS FALSE NEIGHBOUR: 'it returns false'. Refute it at one input. -/
def fnExactBerthAllWrong : ChangeSpec := { name := "fnExactBerthAll", fn := fun _ => fun
  | [d1, d2] => { results := [.lit (.bool false)], args := [d1, d2] }
  | _ => none }
def FnExactBerthAllWrongFalsely : Prop := fnExactBerthAllRow.holds Try.pinned (OpenSpec.ofChange fnExactBerthAllWrong)

/-- 'laws.FnExactPortOk': WHATEVER THE INPUT: true; the input reads as it did. -/
def fnExactPortOkSpec : ChangeSpec := { name := "fnExactPortOk", fn := fun _ => fun
  | [d] => { results := [.lit (.bool true)], args := [d] }
  | _ => none }
def fnExactPortOkRow : OpenClaim := { program := "ytefibegfcfbcjaa", sum := "2eecd6db858f0ffcf82fc2ab2e796cdbb75fa0b5bb0e29dc77fdb383b762ba81", func := "loop.example/g00059/laws.FnExactPortOk", spec := "fnExactPortOk", unfollowed := true, recurses := true, apart := false }
def FnExactPortOkSaid : Prop := fnExactPortOkRow.holds Try.pinned (OpenSpec.ofChange fnExactPortOkSpec)

/-- ITS FALSE NEIGHBOUR: 'it returns false'. Refute it at one input. -/
def fnExactPortOkWrong : ChangeSpec := { name := "fnExactPortOk", fn := fun _ => fun
  | [d] => { results := [.lit (.bool false)], args := [d] }
  | _ => none }
def FnExactPortOkWrongFalsely : Prop := fnExactPortOkRow.holds Try.pinned (OpenSpec.ofChange fnExactPortOkWrong)

/- THE SECOND FORM. 'bulk': how many values and letters a reading holds, each counted each time it is reached (what is shared counts as often as it is met; a slice's spare places count too). A statement '..UptoSaid' is the law's where the arguments, and the package variables that the reading takes, are together of bulk at most 1048576: NARROWER than '..Said'. Prove '..Said' where nothing that the law and all that it calls make is longer than what came in: it says more and counts as full. Else prove '..UptoSaid'. A law counts once. -/
mutual
def uptoBulk {H : Type} : DataW H → Nat
  | .lit (.string bytes) => bytes.length + 1
  | .lit _ => 1
  | .nil => 1
  | .ptr d => uptoBulk d + 1
  | .slice elems spare => uptoBulkAll elems + uptoBulkAll spare + 1
  | .agg parts => uptoBulkAll parts + 1
  | .iface _ d => uptoBulk d + 1
  | .map entries => uptoBulkEntries entries + 1
  | .held _ => 1
def uptoBulkAll {H : Type} : List (DataW H) → Nat
  | [] => 0
  | d :: r => uptoBulk d + uptoBulkAll r
def uptoBulkEntries {H : Type} : List (Lit × DataW H) → Nat
  | [] => 0
  | x :: r => uptoBulkEntry x + uptoBulkEntries r
def uptoBulkEntry {H : Type} : Lit × DataW H → Nat
  | (.string bytes, d) => bytes.length + uptoBulk d + 1
  | (_, d) => uptoBulk d + 1
 end
def uptoSmall : (H : Type) → List (DataW H) → Bool := fun _ ds => decide (uptoBulkAll ds ≤ 1048576)
def OpenSpec.upto (s : _root_.Go.ChangeSpec) : _root_.Go.OpenSpec := { _root_.Go.OpenSpec.ofChange s with cond := some uptoSmall }

/-- 'laws.FnExactTitleOf', WHERE WHAT IT READS IS OF BULK AT MOST 1048576: true; the input reads as it did. -/
def fnExactTitleOfUptoRow : OpenClaim := { program := "ytefibegfcfbcjaa", sum := "2eecd6db858f0ffcf82fc2ab2e796cdbb75fa0b5bb0e29dc77fdb383b762ba81", func := "loop.example/g00059/laws.FnExactTitleOf", spec := "fnExactTitleOf", unfollowed := true, recurses := true, apart := false, narrowed := true }
def FnExactTitleOfUptoSaid : Prop := fnExactTitleOfUptoRow.holds Try.pinned (OpenSpec.upto fnExactTitleOfSpec)

/-- 'laws.FnExactDoYard', WHERE WHAT IT READS IS OF BULK AT MOST 1048576: true; the input reads as it did. -/
def fnExactDoYardUptoRow : OpenClaim := { program := "ytefibegfcfbcjaa", sum := "2eecd6db858f0ffcf82fc2ab2e796cdbb75fa0b5bb0e29dc77fdb383b762ba81", func := "loop.example/g00059/laws.FnExactDoYard", spec := "fnExactDoYard", apart := false, narrowed := true }
def FnExactDoYardUptoSaid : Prop := fnExactDoYardUptoRow.holds Try.pinned (OpenSpec.upto fnExactDoYardSpec)

/-- 'laws.FnExactRunYard', WHERE WHAT IT READS IS OF BULK AT MOST 1048576: true; the input reads as it did. -/
def fnExactRunYardUptoRow : OpenClaim := { program := "ytefibegfcfbcjaa", sum := "2eecd6db858f0ffcf82fc2ab2e796cdbb75fa0b5bb0e29dc77fdb383b762ba81", func := "loop.example/g00059/laws.FnExactRunYard", spec := "fnExactRunYard", apart := false, narrowed := true }
def FnExactRunYardUptoSaid : Prop := fnExactRunYardUptoRow.holds Try.pinned (OpenSpec.upto fnExactRunYardSpec)

/-- 'laws.FnExactDoBill', WHERE WHAT IT READS IS OF BULK AT MOST 1048576: true; the input reads as it did. -/
def fnExactDoBillUptoRow : OpenClaim := { program := "ytefibegfcfbcjaa", sum := "2eecd6db858f0ffcf82fc2ab2e796cdbb75fa0b5bb0e29dc77fdb383b762ba81", func := "loop.example/g00059/laws.FnExactDoBill", spec := "fnExactDoBill", unfollowed := true, recurses := true, apart := false, narrowed := true }
def FnExactDoBillUptoSaid : Prop := fnExactDoBillUptoRow.holds Try.pinned (OpenSpec.upto fnExactDoBillSpec)

/-- 'laws.FnTitle', WHERE WHAT IT READS IS OF BULK AT MOST 1048576: true; the input reads as it did. -/
def fnTitleUptoRow : OpenClaim := { program := "ytefibegfcfbcjaa", sum := "2eecd6db858f0ffcf82fc2ab2e796cdbb75fa0b5bb0e29dc77fdb383b762ba81", func := "loop.example/g00059/laws.FnTitle", spec := "fnTitle", unfollowed := true, recurses := true, apart := false, narrowed := true }
def FnTitleUptoSaid : Prop := fnTitleUptoRow.holds Try.pinned (OpenSpec.upto fnTitleSpec)

/-- 'laws.FnExactDoDeed', WHERE WHAT IT READS IS OF BULK AT MOST 1048576: true; the input reads as it did. -/
def fnExactDoDeedUptoRow : OpenClaim := { program := "ytefibegfcfbcjaa", sum := "2eecd6db858f0ffcf82fc2ab2e796cdbb75fa0b5bb0e29dc77fdb383b762ba81", func := "loop.example/g00059/laws.FnExactDoDeed", spec := "fnExactDoDeed", unfollowed := true, recurses := true, apart := false, narrowed := true }
def FnExactDoDeedUptoSaid : Prop := fnExactDoDeedUptoRow.holds Try.pinned (OpenSpec.upto fnExactDoDeedSpec)

/-- 'laws.FnExactRunDeeds', WHERE WHAT IT READS IS OF BULK AT MOST 1048576: true; the input reads as it did. -/
def fnExactRunDeedsUptoRow : OpenClaim := { program := "ytefibegfcfbcjaa", sum := "2eecd6db858f0ffcf82fc2ab2e796cdbb75fa0b5bb0e29dc77fdb383b762ba81", func := "loop.example/g00059/laws.FnExactRunDeeds", spec := "fnExactRunDeeds", unfollowed := true, recurses := true, apart := false, narrowed := true }
def FnExactRunDeedsUptoSaid : Prop := fnExactRunDeedsUptoRow.holds Try.pinned (OpenSpec.upto fnExactRunDeedsSpec)

/-- 'laws.FnCustoms', WHERE WHAT IT READS IS OF BULK AT MOST 1048576: true; the input reads as it did. -/
def fnCustomsUptoRow : OpenClaim := { program := "ytefibegfcfbcjaa", sum := "2eecd6db858f0ffcf82fc2ab2e796cdbb75fa0b5bb0e29dc77fdb383b762ba81", func := "loop.example/g00059/laws.FnCustoms", spec := "fnCustoms", unfollowed := true, recurses := true, apart := false, narrowed := true }
def FnCustomsUptoSaid : Prop := fnCustomsUptoRow.holds Try.pinned (OpenSpec.upto fnCustomsSpec)

/-- 'laws.FnBerths', WHERE WHAT IT READS IS OF BULK AT MOST 1048576: true; the input reads as it did. -/
def fnBerthsUptoRow : OpenClaim := { program := "ytefibegfcfbcjaa", sum := "2eecd6db858f0ffcf82fc2ab2e796cdbb75fa0b5bb0e29dc77fdb383b762ba81", func := "loop.example/g00059/laws.FnBerths", spec := "fnBerths", unfollowed := true, recurses := true, apart := false, narrowed := true }
def FnBerthsUptoSaid : Prop := fnBerthsUptoRow.holds Try.pinned (OpenSpec.upto fnBerthsSpec)

/-- 'laws.FnExactBerthAll', WHERE WHAT IT READS IS OF BULK AT MOST 1048576: true; the input reads as it did. -/
def fnExactBerthAllUptoRow : OpenClaim := { program := "ytefibegfcfbcjaa", sum := "2eecd6db858f0ffcf82fc2ab2e796cdbb75fa0b5bb0e29dc77fdb383b762ba81", func := "loop.example/g00059/laws.FnExactBerthAll", spec := "fnExactBerthAll", unfollowed := true, recurses := true, apart := false, narrowed := true }
def FnExactBerthAllUptoSaid : Prop := fnExactBerthAllUptoRow.holds Try.pinned (OpenSpec.upto fnExactBerthAllSpec)

/-- 'laws.FnExactPortOk', WHERE WHAT IT READS IS OF BULK AT MOST 1048576: true; the input reads as it did. -/
def fnExactPortOkUptoRow : OpenClaim := { program := "ytefibegfcfbcjaa", sum := "2eecd6db858f0ffcf82fc2ab2e796cdbb75fa0b5bb0e29dc77fdb383b762ba81", func := "loop.example/g00059/laws.FnExactPortOk", spec := "fnExactPortOk", unfollowed := true, recurses := true, apart := false, narrowed := true }
def FnExactPortOkUptoSaid : Prop := fnExactPortOkUptoRow.holds Try.pinned (OpenSpec.upto fnExactPortOkSpec)

end Rows
end Go.Proofs.Ytefibegfcfbcjaa
