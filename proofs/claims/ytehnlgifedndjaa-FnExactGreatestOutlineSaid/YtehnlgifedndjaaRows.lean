/-
  No cell of these rows narrows 'for every input' (looked for: loops, veiled, ifaces, maps, wideKeys, modest, calm, conditions, laid).
  DERIVED. THE GIVEN ROWS OF THIS SEAT. 12 by the template 'for every input the law returns true; each argument reads behind the call as it read before'; 0 by the template 'total and deterministic' (their statements: YtehnlgifedndjaaTotals.lean).
  GIVEN WITH THE SEED: the statements are not yours to turn. If you find one false, say at which input.
  Laid BY PROGRAM, IN A SANDBOX (cutbox-rows.mjs): the forced cells as the released guide's own fill.sh prints them over the translation 2029a41095bb4518… (all of the seat's roots in one cut). By AI agents, Wed Nov 11 2026. No macro, syntax, notation, axiom, sorry.
-/
import Derived.Test.YtehnlgifedndjaaChecked
import GoSem.Claim
import GoSem.ClaimJoined
import GoSem.ClaimMapViews
import Derived.JoinedTies
import Derived.KernelRfl
namespace Go.Proofs.Ytehnlgifedndjaa
/- THE CELL 'sum', in the pinned program and in every row, IS THE sha256 OF THE DUMP (.gsa) THAT YtehnlgifedndjaaProg.lean LOADS. Nothing in Lean hashes anything: it is a label: what it is worth is what the hold of that sum in a sandbox is worth. -/
noncomputable def Try.pinned : Pinned := { name := "ytehnlgifedndjaa", sum := "2029a41095bb45181b51d7510b8df91d213ef4c4109f9f8e3663a96b21bd4e03", checked := Try.checked }
namespace Rows
def none {H : Type} : Left H := { results := [], args := [] }

/-- 'laws.FnExactSameChain': WHATEVER THE INPUT: true; the input reads as it did. -/
def fnExactSameChainSpec : ChangeSpec := { name := "fnExactSameChain", fn := fun _ => fun
  | [d1, d2] => { results := [.lit (.bool true)], args := [d1, d2] }
  | _ => none }
def fnExactSameChainRow : OpenClaim := { program := "ytehnlgifedndjaa", sum := "2029a41095bb45181b51d7510b8df91d213ef4c4109f9f8e3663a96b21bd4e03", func := "loop.example/g01055/laws.FnExactSameChain", spec := "fnExactSameChain", apart := false }
def FnExactSameChainSaid : Prop := fnExactSameChainRow.holds Try.pinned (OpenSpec.ofChange fnExactSameChainSpec)

/-- ITS FALSE NEIGHBOUR: 'it returns false'. Refute it at one input. -/
def fnExactSameChainWrong : ChangeSpec := { name := "fnExactSameChain", fn := fun _ => fun
  | [d1, d2] => { results := [.lit (.bool false)], args := [d1, d2] }
  | _ => none }
def FnExactSameChainWrongFalsely : Prop := fnExactSameChainRow.holds Try.pinned (OpenSpec.ofChange fnExactSameChainWrong)

/-- 'laws.FnExactValidChain': WHATEVER THE INPUT: true; the input reads as it did. -/
def fnExactValidChainSpec : ChangeSpec := { name := "fnExactValidChain", fn := fun _ => fun
  | [d] => { results := [.lit (.bool true)], args := [d] }
  | _ => none }
def fnExactValidChainRow : OpenClaim := { program := "ytehnlgifedndjaa", sum := "2029a41095bb45181b51d7510b8df91d213ef4c4109f9f8e3663a96b21bd4e03", func := "loop.example/g01055/laws.FnExactValidChain", spec := "fnExactValidChain", unfollowed := true, recurses := true, apart := false }
def FnExactValidChainSaid : Prop := fnExactValidChainRow.holds Try.pinned (OpenSpec.ofChange fnExactValidChainSpec)

/-- ITS FALSE NEIGHBOUR: 'it returns false'. Refute it at one input. -/
def fnExactValidChainWrong : ChangeSpec := { name := "fnExactValidChain", fn := fun _ => fun
  | [d] => { results := [.lit (.bool false)], args := [d] }
  | _ => none }
def FnExactValidChainWrongFalsely : Prop := fnExactValidChainRow.holds Try.pinned (OpenSpec.ofChange fnExactValidChainWrong)

/-- 'laws.FnExactIsClosed': WHATEVER THE INPUT: true; the input reads as it did. -/
def fnExactIsClosedSpec : ChangeSpec := { name := "fnExactIsClosed", fn := fun _ => fun
  | [d] => { results := [.lit (.bool true)], args := [d] }
  | _ => none }
def fnExactIsClosedRow : OpenClaim := { program := "ytehnlgifedndjaa", sum := "2029a41095bb45181b51d7510b8df91d213ef4c4109f9f8e3663a96b21bd4e03", func := "loop.example/g01055/laws.FnExactIsClosed", spec := "fnExactIsClosed", unfollowed := true, recurses := true, apart := false }
def FnExactIsClosedSaid : Prop := fnExactIsClosedRow.holds Try.pinned (OpenSpec.ofChange fnExactIsClosedSpec)

/-- ITS FALSE NEIGHBOUR: 'it returns false'. Refute it at one input. -/
def fnExactIsClosedWrong : ChangeSpec := { name := "fnExactIsClosed", fn := fun _ => fun
  | [d] => { results := [.lit (.bool false)], args := [d] }
  | _ => none }
def FnExactIsClosedWrongFalsely : Prop := fnExactIsClosedRow.holds Try.pinned (OpenSpec.ofChange fnExactIsClosedWrong)

/-- 'laws.FnExactTurnsAside': WHATEVER THE INPUT: true; the input reads as it did. -/
def fnExactTurnsAsideSpec : ChangeSpec := { name := "fnExactTurnsAside", fn := fun _ => fun
  | [d] => { results := [.lit (.bool true)], args := [d] }
  | _ => none }
def fnExactTurnsAsideRow : OpenClaim := { program := "ytehnlgifedndjaa", sum := "2029a41095bb45181b51d7510b8df91d213ef4c4109f9f8e3663a96b21bd4e03", func := "loop.example/g01055/laws.FnExactTurnsAside", spec := "fnExactTurnsAside", unfollowed := true, recurses := true, apart := false }
def FnExactTurnsAsideSaid : Prop := fnExactTurnsAsideRow.holds Try.pinned (OpenSpec.ofChange fnExactTurnsAsideSpec)

/-- ITS FALSE NEIGHBOUR: 'it returns false'. Refute it at one input. -/
def fnExactTurnsAsideWrong : ChangeSpec := { name := "fnExactTurnsAside", fn := fun _ => fun
  | [d] => { results := [.lit (.bool false)], args := [d] }
  | _ => none }
def FnExactTurnsAsideWrongFalsely : Prop := fnExactTurnsAsideRow.holds Try.pinned (OpenSpec.ofChange fnExactTurnsAsideWrong)

/-- 'laws.FnExactTwiceArea': WHATEVER THE INPUT: true; the input reads as it did. -/
def fnExactTwiceAreaSpec : ChangeSpec := { name := "fnExactTwiceArea", fn := fun _ => fun
  | [d] => { results := [.lit (.bool true)], args := [d] }
  | _ => none }
def fnExactTwiceAreaRow : OpenClaim := { program := "ytehnlgifedndjaa", sum := "2029a41095bb45181b51d7510b8df91d213ef4c4109f9f8e3663a96b21bd4e03", func := "loop.example/g01055/laws.FnExactTwiceArea", spec := "fnExactTwiceArea", unfollowed := true, recurses := true, apart := false }
def FnExactTwiceAreaSaid : Prop := fnExactTwiceAreaRow.holds Try.pinned (OpenSpec.ofChange fnExactTwiceAreaSpec)

/-- ITS FALSE NEIGHBOUR: 'it returns false'. Refute it at one input. -/
def fnExactTwiceAreaWrong : ChangeSpec := { name := "fnExactTwiceArea", fn := fun _ => fun
  | [d] => { results := [.lit (.bool false)], args := [d] }
  | _ => none }
def FnExactTwiceAreaWrongFalsely : Prop := fnExactTwiceAreaRow.holds Try.pinned (OpenSpec.ofChange fnExactTwiceAreaWrong)

/-- 'laws.FnExactReverseChain': WHATEVER THE INPUT: true; the input reads as it did. -/
def fnExactReverseChainSpec : ChangeSpec := { name := "fnExactReverseChain", fn := fun _ => fun
  | [d] => { results := [.lit (.bool true)], args := [d] }
  | _ => none }
def fnExactReverseChainRow : OpenClaim := { program := "ytehnlgifedndjaa", sum := "2029a41095bb45181b51d7510b8df91d213ef4c4109f9f8e3663a96b21bd4e03", func := "loop.example/g01055/laws.FnExactReverseChain", spec := "fnExactReverseChain", unfollowed := true, recurses := true, apart := false }
def FnExactReverseChainSaid : Prop := fnExactReverseChainRow.holds Try.pinned (OpenSpec.ofChange fnExactReverseChainSpec)

/-- ITS FALSE NEIGHBOUR: 'it returns false'. Refute it at one input. -/
def fnExactReverseChainWrong : ChangeSpec := { name := "fnExactReverseChain", fn := fun _ => fun
  | [d] => { results := [.lit (.bool false)], args := [d] }
  | _ => none }
def FnExactReverseChainWrongFalsely : Prop := fnExactReverseChainRow.holds Try.pinned (OpenSpec.ofChange fnExactReverseChainWrong)

/-- 'laws.FnExactMoveChain': WHATEVER THE INPUT: true; the input reads as it did. -/
def fnExactMoveChainSpec : ChangeSpec := { name := "fnExactMoveChain", fn := fun _ => fun
  | [d1, d2, d3] => { results := [.lit (.bool true)], args := [d1, d2, d3] }
  | _ => none }
def fnExactMoveChainRow : OpenClaim := { program := "ytehnlgifedndjaa", sum := "2029a41095bb45181b51d7510b8df91d213ef4c4109f9f8e3663a96b21bd4e03", func := "loop.example/g01055/laws.FnExactMoveChain", spec := "fnExactMoveChain", unfollowed := true, recurses := true, apart := false }
def FnExactMoveChainSaid : Prop := fnExactMoveChainRow.holds Try.pinned (OpenSpec.ofChange fnExactMoveChainSpec)

/-- ITS FALSE NEIGHBOUR: 'it returns false'. Refute it at one input. -/
def fnExactMoveChainWrong : ChangeSpec := { name := "fnExactMoveChain", fn := fun _ => fun
  | [d1, d2, d3] => { results := [.lit (.bool false)], args := [d1, d2, d3] }
  | _ => none }
def FnExactMoveChainWrongFalsely : Prop := fnExactMoveChainRow.holds Try.pinned (OpenSpec.ofChange fnExactMoveChainWrong)

/-- 'laws.FnExactInsideOf': WHATEVER THE INPUT: true; the input reads as it did. -/
def fnExactInsideOfSpec : ChangeSpec := { name := "fnExactInsideOf", fn := fun _ => fun
  | [d1, d2] => { results := [.lit (.bool true)], args := [d1, d2] }
  | _ => none }
def fnExactInsideOfRow : OpenClaim := { program := "ytehnlgifedndjaa", sum := "2029a41095bb45181b51d7510b8df91d213ef4c4109f9f8e3663a96b21bd4e03", func := "loop.example/g01055/laws.FnExactInsideOf", spec := "fnExactInsideOf", unfollowed := true, recurses := true, apart := false }
def FnExactInsideOfSaid : Prop := fnExactInsideOfRow.holds Try.pinned (OpenSpec.ofChange fnExactInsideOfSpec)

/-- ITS FALSE NEIGHBOUR: 'it returns false'. Refute it at one input. -/
def fnExactInsideOfWrong : ChangeSpec := { name := "fnExactInsideOf", fn := fun _ => fun
  | [d1, d2] => { results := [.lit (.bool false)], args := [d1, d2] }
  | _ => none }
def FnExactInsideOfWrongFalsely : Prop := fnExactInsideOfRow.holds Try.pinned (OpenSpec.ofChange fnExactInsideOfWrong)

/-- 'laws.FnExactStaysWithin': WHATEVER THE INPUT: true; the input reads as it did. -/
def fnExactStaysWithinSpec : ChangeSpec := { name := "fnExactStaysWithin", fn := fun _ => fun
  | [d1, d2, d3, d4] => { results := [.lit (.bool true)], args := [d1, d2, d3, d4] }
  | _ => none }
def fnExactStaysWithinRow : OpenClaim := { program := "ytehnlgifedndjaa", sum := "2029a41095bb45181b51d7510b8df91d213ef4c4109f9f8e3663a96b21bd4e03", func := "loop.example/g01055/laws.FnExactStaysWithin", spec := "fnExactStaysWithin", unfollowed := true, recurses := true, apart := false }
def FnExactStaysWithinSaid : Prop := fnExactStaysWithinRow.holds Try.pinned (OpenSpec.ofChange fnExactStaysWithinSpec)

/-- ITS FALSE NEIGHBOUR: 'it returns false'. Refute it at one input. -/
def fnExactStaysWithinWrong : ChangeSpec := { name := "fnExactStaysWithin", fn := fun _ => fun
  | [d1, d2, d3, d4] => { results := [.lit (.bool false)], args := [d1, d2, d3, d4] }
  | _ => none }
def FnExactStaysWithinWrongFalsely : Prop := fnExactStaysWithinRow.holds Try.pinned (OpenSpec.ofChange fnExactStaysWithinWrong)

/-- 'laws.FnExactPickPoints': WHATEVER THE INPUT: true; the input reads as it did. -/
def fnExactPickPointsSpec : ChangeSpec := { name := "fnExactPickPoints", fn := fun _ => fun
  | [d1, d2] => { results := [.lit (.bool true)], args := [d1, d2] }
  | _ => none }
def fnExactPickPointsRow : OpenClaim := { program := "ytehnlgifedndjaa", sum := "2029a41095bb45181b51d7510b8df91d213ef4c4109f9f8e3663a96b21bd4e03", func := "loop.example/g01055/laws.FnExactPickPoints", spec := "fnExactPickPoints", unfollowed := true, recurses := true, apart := false }
def FnExactPickPointsSaid : Prop := fnExactPickPointsRow.holds Try.pinned (OpenSpec.ofChange fnExactPickPointsSpec)

/-- ITS FALSE NEIGHBOUR: 'it returns false'. Refute it at one input. -/
def fnExactPickPointsWrong : ChangeSpec := { name := "fnExactPickPoints", fn := fun _ => fun
  | [d1, d2] => { results := [.lit (.bool false)], args := [d1, d2] }
  | _ => none }
def FnExactPickPointsWrongFalsely : Prop := fnExactPickPointsRow.holds Try.pinned (OpenSpec.ofChange fnExactPickPointsWrong)

/-- 'laws.FnExactLeftTurned': WHATEVER THE INPUT: true; the input reads as it did. -/
def fnExactLeftTurnedSpec : ChangeSpec := { name := "fnExactLeftTurned", fn := fun _ => fun
  | [d] => { results := [.lit (.bool true)], args := [d] }
  | _ => none }
def fnExactLeftTurnedRow : OpenClaim := { program := "ytehnlgifedndjaa", sum := "2029a41095bb45181b51d7510b8df91d213ef4c4109f9f8e3663a96b21bd4e03", func := "loop.example/g01055/laws.FnExactLeftTurned", spec := "fnExactLeftTurned", unfollowed := true, recurses := true, apart := false }
def FnExactLeftTurnedSaid : Prop := fnExactLeftTurnedRow.holds Try.pinned (OpenSpec.ofChange fnExactLeftTurnedSpec)

/-- ITS FALSE NEIGHBOUR: 'it returns false'. Refute it at one input. -/
def fnExactLeftTurnedWrong : ChangeSpec := { name := "fnExactLeftTurned", fn := fun _ => fun
  | [d] => { results := [.lit (.bool false)], args := [d] }
  | _ => none }
def FnExactLeftTurnedWrongFalsely : Prop := fnExactLeftTurnedRow.holds Try.pinned (OpenSpec.ofChange fnExactLeftTurnedWrong)

/-- 'laws.FnExactGreatestOutline': WHATEVER THE INPUT: true; the input reads as it did. -/
def fnExactGreatestOutlineSpec : ChangeSpec := { name := "fnExactGreatestOutline", fn := fun _ => fun
  | [d] => { results := [.lit (.bool true)], args := [d] }
  | _ => none }
def fnExactGreatestOutlineRow : OpenClaim := { program := "ytehnlgifedndjaa", sum := "2029a41095bb45181b51d7510b8df91d213ef4c4109f9f8e3663a96b21bd4e03", func := "loop.example/g01055/laws.FnExactGreatestOutline", spec := "fnExactGreatestOutline", unfollowed := true, recurses := true, apart := false }
def FnExactGreatestOutlineSaid : Prop := fnExactGreatestOutlineRow.holds Try.pinned (OpenSpec.ofChange fnExactGreatestOutlineSpec)

/-- ITS FALSE NEIGHBOUR: 'it returns false'. Refute it at one input. -/
def fnExactGreatestOutlineWrong : ChangeSpec := { name := "fnExactGreatestOutline", fn := fun _ => fun
  | [d] => { results := [.lit (.bool false)], args := [d] }
  | _ => none }
def FnExactGreatestOutlineWrongFalsely : Prop := fnExactGreatestOutlineRow.holds Try.pinned (OpenSpec.ofChange fnExactGreatestOutlineWrong)

/- THE SECOND FORM. 'bulk': how many values and letters a reading holds, each counted each time it is reached (what is shared counts as often as it is met; a slice's spare places count too). A statement '..UptoSaid' is the law's where the arguments, and the package variables that the reading takes, are together of bulk at most 1048576: NARROWER than '..Said'. Prove '..Said' where nothing that the law and all that it calls make is longer than what came in: it says more and counts as full. Else prove '..UptoSaid'. A law counts once. -/
mutual
def uptoBulk {H : Type} : DataW H → Nat
  | .lit (.string bytes) => bytes.length + 1
  | .lit _ => 1
  | .nil => 1
  | .ptr d => uptoBulk d + 1
  | .slice elems spare => uptoBulkAll elems + uptoBulkAll spare + 1
  | .agg parts => uptoBulkAll parts + 1
  | .iface _ d => uptoBulk d + 1
  | .map entries => uptoBulkEntries entries + 1
  | .held _ => 1
def uptoBulkAll {H : Type} : List (DataW H) → Nat
  | [] => 0
  | d :: r => uptoBulk d + uptoBulkAll r
def uptoBulkEntries {H : Type} : List (Lit × DataW H) → Nat
  | [] => 0
  | x :: r => uptoBulkEntry x + uptoBulkEntries r
def uptoBulkEntry {H : Type} : Lit × DataW H → Nat
  | (.string bytes, d) => bytes.length + uptoBulk d + 1
  | (_, d) => uptoBulk d + 1
 end
def uptoSmall : (H : Type) → List (DataW H) → Bool := fun _ ds => decide (uptoBulkAll ds ≤ 1048576)
def OpenSpec.upto (s : _root_.Go.ChangeSpec) : _root_.Go.OpenSpec := { _root_.Go.OpenSpec.ofChange s with cond := some uptoSmall }

/-- 'laws.FnExactSameChain', WHERE WHAT IT READS IS OF BULK AT MOST 1048576: true; the input reads as it did. -/
def fnExactSameChainUptoRow : OpenClaim := { program := "ytehnlgifedndjaa", sum := "2029a41095bb45181b51d7510b8df91d213ef4c4109f9f8e3663a96b21bd4e03", func := "loop.example/g01055/laws.FnExactSameChain", spec := "fnExactSameChain", apart := false, narrowed := true }
def FnExactSameChainUptoSaid : Prop := fnExactSameChainUptoRow.holds Try.pinned (OpenSpec.upto fnExactSameChainSpec)

/-- 'laws.FnExactValidChain', WHERE WHAT IT READS IS OF BULK AT MOST 1048576: true; the input reads as it did. -/
def fnExactValidChainUptoRow : OpenClaim := { program := "ytehnlgifedndjaa", sum := "2029a41095bb45181b51d7510b8df91d213ef4c4109f9f8e3663a96b21bd4e03", func := "loop.example/g01055/laws.FnExactValidChain", spec := "fnExactValidChain", unfollowed := true, recurses := true, apart := false, narrowed := true }
def FnExactValidChainUptoSaid : Prop := fnExactValidChainUptoRow.holds Try.pinned (OpenSpec.upto fnExactValidChainSpec)

/-- 'laws.FnExactIsClosed', WHERE WHAT IT READS IS OF BULK AT MOST 1048576: true; the input reads as it did. -/
def fnExactIsClosedUptoRow : OpenClaim := { program := "ytehnlgifedndjaa", sum := "2029a41095bb45181b51d7510b8df91d213ef4c4109f9f8e3663a96b21bd4e03", func := "loop.example/g01055/laws.FnExactIsClosed", spec := "fnExactIsClosed", unfollowed := true, recurses := true, apart := false, narrowed := true }
def FnExactIsClosedUptoSaid : Prop := fnExactIsClosedUptoRow.holds Try.pinned (OpenSpec.upto fnExactIsClosedSpec)

/-- 'laws.FnExactTurnsAside', WHERE WHAT IT READS IS OF BULK AT MOST 1048576: true; the input reads as it did. -/
def fnExactTurnsAsideUptoRow : OpenClaim := { program := "ytehnlgifedndjaa", sum := "2029a41095bb45181b51d7510b8df91d213ef4c4109f9f8e3663a96b21bd4e03", func := "loop.example/g01055/laws.FnExactTurnsAside", spec := "fnExactTurnsAside", unfollowed := true, recurses := true, apart := false, narrowed := true }
def FnExactTurnsAsideUptoSaid : Prop := fnExactTurnsAsideUptoRow.holds Try.pinned (OpenSpec.upto fnExactTurnsAsideSpec)

/-- 'laws.FnExactTwiceArea', WHERE WHAT IT READS IS OF BULK AT MOST 1048576: true; the input reads as it did. -/
def fnExactTwiceAreaUptoRow : OpenClaim := { program := "ytehnlgifedndjaa", sum := "2029a41095bb45181b51d7510b8df91d213ef4c4109f9f8e3663a96b21bd4e03", func := "loop.example/g01055/laws.FnExactTwiceArea", spec := "fnExactTwiceArea", unfollowed := true, recurses := true, apart := false, narrowed := true }
def FnExactTwiceAreaUptoSaid : Prop := fnExactTwiceAreaUptoRow.holds Try.pinned (OpenSpec.upto fnExactTwiceAreaSpec)

/-- 'laws.FnExactReverseChain', WHERE WHAT IT READS IS OF BULK AT MOST 1048576: true; the input reads as it did. -/
def fnExactReverseChainUptoRow : OpenClaim := { program := "ytehnlgifedndjaa", sum := "2029a41095bb45181b51d7510b8df91d213ef4c4109f9f8e3663a96b21bd4e03", func := "loop.example/g01055/laws.FnExactReverseChain", spec := "fnExactReverseChain", unfollowed := true, recurses := true, apart := false, narrowed := true }
def FnExactReverseChainUptoSaid : Prop := fnExactReverseChainUptoRow.holds Try.pinned (OpenSpec.upto fnExactReverseChainSpec)

/-- 'laws.FnExactMoveChain', WHERE WHAT IT READS IS OF BULK AT MOST 1048576: true; the input reads as it did. -/
def fnExactMoveChainUptoRow : OpenClaim := { program := "ytehnlgifedndjaa", sum := "2029a41095bb45181b51d7510b8df91d213ef4c4109f9f8e3663a96b21bd4e03", func := "loop.example/g01055/laws.FnExactMoveChain", spec := "fnExactMoveChain", unfollowed := true, recurses := true, apart := false, narrowed := true }
def FnExactMoveChainUptoSaid : Prop := fnExactMoveChainUptoRow.holds Try.pinned (OpenSpec.upto fnExactMoveChainSpec)

/-- 'laws.FnExactInsideOf', WHERE WHAT IT READS IS OF BULK AT MOST 1048576: true; the input reads as it did. -/
def fnExactInsideOfUptoRow : OpenClaim := { program := "ytehnlgifedndjaa", sum := "2029a41095bb45181b51d7510b8df91d213ef4c4109f9f8e3663a96b21bd4e03", func := "loop.example/g01055/laws.FnExactInsideOf", spec := "fnExactInsideOf", unfollowed := true, recurses := true, apart := false, narrowed := true }
def FnExactInsideOfUptoSaid : Prop := fnExactInsideOfUptoRow.holds Try.pinned (OpenSpec.upto fnExactInsideOfSpec)

/-- 'laws.FnExactStaysWithin', WHERE WHAT IT READS IS OF BULK AT MOST 1048576: true; the input reads as it did. -/
def fnExactStaysWithinUptoRow : OpenClaim := { program := "ytehnlgifedndjaa", sum := "2029a41095bb45181b51d7510b8df91d213ef4c4109f9f8e3663a96b21bd4e03", func := "loop.example/g01055/laws.FnExactStaysWithin", spec := "fnExactStaysWithin", unfollowed := true, recurses := true, apart := false, narrowed := true }
def FnExactStaysWithinUptoSaid : Prop := fnExactStaysWithinUptoRow.holds Try.pinned (OpenSpec.upto fnExactStaysWithinSpec)

/-- 'laws.FnExactPickPoints', WHERE WHAT IT READS IS OF BULK AT MOST 1048576: true; the input reads as it did. -/
def fnExactPickPointsUptoRow : OpenClaim := { program := "ytehnlgifedndjaa", sum := "2029a41095bb45181b51d7510b8df91d213ef4c4109f9f8e3663a96b21bd4e03", func := "loop.example/g01055/laws.FnExactPickPoints", spec := "fnExactPickPoints", unfollowed := true, recurses := true, apart := false, narrowed := true }
def FnExactPickPointsUptoSaid : Prop := fnExactPickPointsUptoRow.holds Try.pinned (OpenSpec.upto fnExactPickPointsSpec)

/-- 'laws.FnExactLeftTurned', WHERE WHAT IT READS IS OF BULK AT MOST 1048576: true; the input reads as it did. -/
def fnExactLeftTurnedUptoRow : OpenClaim := { program := "ytehnlgifedndjaa", sum := "2029a41095bb45181b51d7510b8df91d213ef4c4109f9f8e3663a96b21bd4e03", func := "loop.example/g01055/laws.FnExactLeftTurned", spec := "fnExactLeftTurned", unfollowed := true, recurses := true, apart := false, narrowed := true }
def FnExactLeftTurnedUptoSaid : Prop := fnExactLeftTurnedUptoRow.holds Try.pinned (OpenSpec.upto fnExactLeftTurnedSpec)

/-- 'laws.FnExactGreatestOutline', WHERE WHAT IT READS IS OF BULK AT MOST 1048576: true; the input reads as it did. -/
def fnExactGreatestOutlineUptoRow : OpenClaim := { program := "ytehnlgifedndjaa", sum := "2029a41095bb45181b51d7510b8df91d213ef4c4109f9f8e3663a96b21bd4e03", func := "loop.example/g01055/laws.FnExactGreatestOutline", spec := "fnExactGreatestOutline", unfollowed := true, recurses := true, apart := false, narrowed := true }
def FnExactGreatestOutlineUptoSaid : Prop := fnExactGreatestOutlineUptoRow.holds Try.pinned (OpenSpec.upto fnExactGreatestOutlineSpec)

end Rows
end Go.Proofs.Ytehnlgifedndjaa
