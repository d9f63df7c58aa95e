/-
  No cell of these rows narrows 'for every input' (looked for: loops, veiled, ifaces, maps, wideKeys, modest, calm, conditions, laid).
  DERIVED. THE GIVEN ROWS OF THIS SEAT. 11 by the template 'for every input the law returns true; each argument reads behind the call as it read before'; 0 by the template 'total and deterministic' (their statements: YtgblbmbdadjicaaTotals.lean).
  GIVEN WITH THE SEED: the statements are not yours to turn. If you find one false, say at which input.
  Laid BY PROGRAM, IN A SANDBOX (cutbox-rows.mjs): the forced cells as the released guide's own fill.sh prints them over the translation 03491b343a87a85e… (all of the seat's roots in one cut). By AI agents, Wed Nov 11 2026. No macro, syntax, notation, axiom, sorry.
-/
import Derived.Test.YtgblbmbdadjicaaChecked
import GoSem.Claim
import GoSem.ClaimJoined
import GoSem.ClaimMapViews
import Derived.JoinedTies
import Derived.KernelRfl
namespace Go.Proofs.Ytgblbmbdadjicaa
/- THE CELL 'sum', in the pinned program and in every row, IS THE sha256 OF THE DUMP (.gsa) THAT YtgblbmbdadjicaaProg.lean LOADS. Nothing in Lean hashes anything: it is a label: what it is worth is what the hold of that sum in a sandbox is worth. -/
noncomputable def Try.pinned : Pinned := { name := "ytgblbmbdadjicaa", sum := "03491b343a87a85e125afeefbfb7114719d79519947e32d6ea352bac49afb7c6", checked := Try.checked }
namespace Rows
def none {H : Type} : Left H := { results := [], args := [] }

/-- 'laws.FnExactLeastBound': WHATEVER THE INPUT: true; the input reads as it did. -/
def fnExactLeastBoundSpec : ChangeSpec := { name := "fnExactLeastBound", fn := fun _ => fun
  | [d1, d2] => { results := [.lit (.bool true)], args := [d1, d2] }
  | _ => none }
def fnExactLeastBoundRow : OpenClaim := { program := "ytgblbmbdadjicaa", sum := "03491b343a87a85e125afeefbfb7114719d79519947e32d6ea352bac49afb7c6", func := "loop.example/g01055/laws.FnExactLeastBound", spec := "fnExactLeastBound", unfollowed := true, recurses := true, apart := false }
def FnExactLeastBoundSaid : Prop := fnExactLeastBoundRow.holds Try.pinned (OpenSpec.ofChange fnExactLeastBoundSpec)

/-- ITS FALSE NEIGHBOUR: 'it returns false'. Refute it at one input. -/
def fnExactLeastBoundWrong : ChangeSpec := { name := "fnExactLeastBound", fn := fun _ => fun
  | [d1, d2] => { results := [.lit (.bool false)], args := [d1, d2] }
  | _ => none }
def FnExactLeastBoundWrongFalsely : Prop := fnExactLeastBoundRow.holds Try.pinned (OpenSpec.ofChange fnExactLeastBoundWrong)

/-- 'laws.FnExactLongSteps': WHATEVER THE INPUT: true; the input reads as it did. -/
def fnExactLongStepsSpec : ChangeSpec := { name := "fnExactLongSteps", fn := fun _ => fun
  | [d1, d2] => { results := [.lit (.bool true)], args := [d1, d2] }
  | _ => none }
def fnExactLongStepsRow : OpenClaim := { program := "ytgblbmbdadjicaa", sum := "03491b343a87a85e125afeefbfb7114719d79519947e32d6ea352bac49afb7c6", func := "loop.example/g01055/laws.FnExactLongSteps", spec := "fnExactLongSteps", unfollowed := true, recurses := true, apart := false }
def FnExactLongStepsSaid : Prop := fnExactLongStepsRow.holds Try.pinned (OpenSpec.ofChange fnExactLongStepsSpec)

/-- ITS FALSE NEIGHBOUR: 'it returns false'. Refute it at one input. -/
def fnExactLongStepsWrong : ChangeSpec := { name := "fnExactLongSteps", fn := fun _ => fun
  | [d1, d2] => { results := [.lit (.bool false)], args := [d1, d2] }
  | _ => none }
def FnExactLongStepsWrongFalsely : Prop := fnExactLongStepsRow.holds Try.pinned (OpenSpec.ofChange fnExactLongStepsWrong)

/-- 'laws.FnChainSides': WHATEVER THE INPUT: true; the input reads as it did. -/
def fnChainSidesSpec : ChangeSpec := { name := "fnChainSides", fn := fun _ => fun
  | [d] => { results := [.lit (.bool true)], args := [d] }
  | _ => none }
def fnChainSidesRow : OpenClaim := { program := "ytgblbmbdadjicaa", sum := "03491b343a87a85e125afeefbfb7114719d79519947e32d6ea352bac49afb7c6", func := "loop.example/g01055/laws.FnChainSides", spec := "fnChainSides", inPlace := ["math.sqrt"], unfollowed := true, recurses := true, apart := false }
def FnChainSidesSaid : Prop := fnChainSidesRow.holds Try.pinned (OpenSpec.ofChange fnChainSidesSpec)

/-- ITS FALSE NEIGHBOUR: 'it returns false'. Refute it at one input. -/
def fnChainSidesWrong : ChangeSpec := { name := "fnChainSides", fn := fun _ => fun
  | [d] => { results := [.lit (.bool false)], args := [d] }
  | _ => none }
def FnChainSidesWrongFalsely : Prop := fnChainSidesRow.holds Try.pinned (OpenSpec.ofChange fnChainSidesWrong)

/-- 'laws.FnExactLengthBounds': WHATEVER THE INPUT: true; the input reads as it did. -/
def fnExactLengthBoundsSpec : ChangeSpec := { name := "fnExactLengthBounds", fn := fun _ => fun
  | [d] => { results := [.lit (.bool true)], args := [d] }
  | _ => none }
def fnExactLengthBoundsRow : OpenClaim := { program := "ytgblbmbdadjicaa", sum := "03491b343a87a85e125afeefbfb7114719d79519947e32d6ea352bac49afb7c6", func := "loop.example/g01055/laws.FnExactLengthBounds", spec := "fnExactLengthBounds", inPlace := ["math.sqrt"], unfollowed := true, recurses := true, apart := false }
def FnExactLengthBoundsSaid : Prop := fnExactLengthBoundsRow.holds Try.pinned (OpenSpec.ofChange fnExactLengthBoundsSpec)

/-- ITS FALSE NEIGHBOUR: 'it returns false'. Refute it at one input. -/
def fnExactLengthBoundsWrong : ChangeSpec := { name := "fnExactLengthBounds", fn := fun _ => fun
  | [d] => { results := [.lit (.bool false)], args := [d] }
  | _ => none }
def FnExactLengthBoundsWrongFalsely : Prop := fnExactLengthBoundsRow.holds Try.pinned (OpenSpec.ofChange fnExactLengthBoundsWrong)

/-- 'laws.FnExactJoinTwo': WHATEVER THE INPUT: true; the input reads as it did. -/
def fnExactJoinTwoSpec : ChangeSpec := { name := "fnExactJoinTwo", fn := fun _ => fun
  | [d1, d2] => { results := [.lit (.bool true)], args := [d1, d2] }
  | _ => none }
def fnExactJoinTwoRow : OpenClaim := { program := "ytgblbmbdadjicaa", sum := "03491b343a87a85e125afeefbfb7114719d79519947e32d6ea352bac49afb7c6", func := "loop.example/g01055/laws.FnExactJoinTwo", spec := "fnExactJoinTwo", unfollowed := true, recurses := true, apart := false }
def FnExactJoinTwoSaid : Prop := fnExactJoinTwoRow.holds Try.pinned (OpenSpec.ofChange fnExactJoinTwoSpec)

/-- ITS FALSE NEIGHBOUR: 'it returns false'. Refute it at one input. -/
def fnExactJoinTwoWrong : ChangeSpec := { name := "fnExactJoinTwo", fn := fun _ => fun
  | [d1, d2] => { results := [.lit (.bool false)], args := [d1, d2] }
  | _ => none }
def FnExactJoinTwoWrongFalsely : Prop := fnExactJoinTwoRow.holds Try.pinned (OpenSpec.ofChange fnExactJoinTwoWrong)

/-- 'laws.FnExactLooseEnds': WHATEVER THE INPUT: true; the input reads as it did. -/
def fnExactLooseEndsSpec : ChangeSpec := { name := "fnExactLooseEnds", fn := fun _ => fun
  | [d] => { results := [.lit (.bool true)], args := [d] }
  | _ => none }
def fnExactLooseEndsRow : OpenClaim := { program := "ytgblbmbdadjicaa", sum := "03491b343a87a85e125afeefbfb7114719d79519947e32d6ea352bac49afb7c6", func := "loop.example/g01055/laws.FnExactLooseEnds", spec := "fnExactLooseEnds", unfollowed := true, recurses := true, apart := false }
def FnExactLooseEndsSaid : Prop := fnExactLooseEndsRow.holds Try.pinned (OpenSpec.ofChange fnExactLooseEndsSpec)

/-- ITS FALSE NEIGHBOUR: 'it returns false'. Refute it at one input. -/
def fnExactLooseEndsWrong : ChangeSpec := { name := "fnExactLooseEnds", fn := fun _ => fun
  | [d] => { results := [.lit (.bool false)], args := [d] }
  | _ => none }
def FnExactLooseEndsWrongFalsely : Prop := fnExactLooseEndsRow.holds Try.pinned (OpenSpec.ofChange fnExactLooseEndsWrong)

/-- 'laws.FnExactFewestPoints': WHATEVER THE INPUT: true; the input reads as it did. -/
def fnExactFewestPointsSpec : ChangeSpec := { name := "fnExactFewestPoints", fn := fun _ => fun
  | [d1, d2] => { results := [.lit (.bool true)], args := [d1, d2] }
  | _ => none }
def fnExactFewestPointsRow : OpenClaim := { program := "ytgblbmbdadjicaa", sum := "03491b343a87a85e125afeefbfb7114719d79519947e32d6ea352bac49afb7c6", func := "loop.example/g01055/laws.FnExactFewestPoints", spec := "fnExactFewestPoints", unfollowed := true, recurses := true, apart := false }
def FnExactFewestPointsSaid : Prop := fnExactFewestPointsRow.holds Try.pinned (OpenSpec.ofChange fnExactFewestPointsSpec)

/-- ITS FALSE NEIGHBOUR: 'it returns false'. Refute it at one input. -/
def fnExactFewestPointsWrong : ChangeSpec := { name := "fnExactFewestPoints", fn := fun _ => fun
  | [d1, d2] => { results := [.lit (.bool false)], args := [d1, d2] }
  | _ => none }
def FnExactFewestPointsWrongFalsely : Prop := fnExactFewestPointsRow.holds Try.pinned (OpenSpec.ofChange fnExactFewestPointsWrong)

/-- 'laws.FnChains': WHATEVER THE INPUT: true; the input reads as it did. -/
def fnChainsSpec : ChangeSpec := { name := "fnChains", fn := fun _ => fun
  | [d1, d2] => { results := [.lit (.bool true)], args := [d1, d2] }
  | _ => none }
def fnChainsRow : OpenClaim := { program := "ytgblbmbdadjicaa", sum := "03491b343a87a85e125afeefbfb7114719d79519947e32d6ea352bac49afb7c6", func := "loop.example/g01055/laws.FnChains", spec := "fnChains", unfollowed := true, recurses := true, apart := false }
def FnChainsSaid : Prop := fnChainsRow.holds Try.pinned (OpenSpec.ofChange fnChainsSpec)

/-- ITS FALSE NEIGHBOUR: 'it returns false'. Refute it at one input. -/
def fnChainsWrong : ChangeSpec := { name := "fnChains", fn := fun _ => fun
  | [d1, d2] => { results := [.lit (.bool false)], args := [d1, d2] }
  | _ => none }
def FnChainsWrongFalsely : Prop := fnChainsRow.holds Try.pinned (OpenSpec.ofChange fnChainsWrong)

/-- 'laws.FnExactJoinAll': WHATEVER THE INPUT: true; the input reads as it did. -/
def fnExactJoinAllSpec : ChangeSpec := { name := "fnExactJoinAll", fn := fun _ => fun
  | [d] => { results := [.lit (.bool true)], args := [d] }
  | _ => none }
def fnExactJoinAllRow : OpenClaim := { program := "ytgblbmbdadjicaa", sum := "03491b343a87a85e125afeefbfb7114719d79519947e32d6ea352bac49afb7c6", func := "loop.example/g01055/laws.FnExactJoinAll", spec := "fnExactJoinAll", unfollowed := true, recurses := true, apart := false }
def FnExactJoinAllSaid : Prop := fnExactJoinAllRow.holds Try.pinned (OpenSpec.ofChange fnExactJoinAllSpec)

/-- ITS FALSE NEIGHBOUR: 'it returns false'. Refute it at one input. -/
def fnExactJoinAllWrong : ChangeSpec := { name := "fnExactJoinAll", fn := fun _ => fun
  | [d] => { results := [.lit (.bool false)], args := [d] }
  | _ => none }
def FnExactJoinAllWrongFalsely : Prop := fnExactJoinAllRow.holds Try.pinned (OpenSpec.ofChange fnExactJoinAllWrong)

/-- 'laws.FnOutlines': WHATEVER THE INPUT: true; the input reads as it did. -/
def fnOutlinesSpec : ChangeSpec := { name := "fnOutlines", fn := fun _ => fun
  | [d] => { results := [.lit (.bool true)], args := [d] }
  | _ => none }
def fnOutlinesRow : OpenClaim := { program := "ytgblbmbdadjicaa", sum := "03491b343a87a85e125afeefbfb7114719d79519947e32d6ea352bac49afb7c6", func := "loop.example/g01055/laws.FnOutlines", spec := "fnOutlines", unfollowed := true, recurses := true, apart := false }
def FnOutlinesSaid : Prop := fnOutlinesRow.holds Try.pinned (OpenSpec.ofChange fnOutlinesSpec)

/-- ITS FALSE NEIGHBOUR: 'it returns false'. Refute it at one input. -/
def fnOutlinesWrong : ChangeSpec := { name := "fnOutlines", fn := fun _ => fun
  | [d] => { results := [.lit (.bool false)], args := [d] }
  | _ => none }
def FnOutlinesWrongFalsely : Prop := fnOutlinesRow.holds Try.pinned (OpenSpec.ofChange fnOutlinesWrong)

/-- 'laws.FnJoined': WHATEVER THE INPUT: true; the input reads as it did. -/
def fnJoinedSpec : ChangeSpec := { name := "fnJoined", fn := fun _ => fun
  | [d] => { results := [.lit (.bool true)], args := [d] }
  | _ => none }
def fnJoinedRow : OpenClaim := { program := "ytgblbmbdadjicaa", sum := "03491b343a87a85e125afeefbfb7114719d79519947e32d6ea352bac49afb7c6", func := "loop.example/g01055/laws.FnJoined", spec := "fnJoined", unfollowed := true, recurses := true, apart := false }
def FnJoinedSaid : Prop := fnJoinedRow.holds Try.pinned (OpenSpec.ofChange fnJoinedSpec)

/-- ITS FALSE NEIGHBOUR: 'it returns false'. Refute it at one input. -/
def fnJoinedWrong : ChangeSpec := { name := "fnJoined", fn := fun _ => fun
  | [d] => { results := [.lit (.bool false)], args := [d] }
  | _ => none }
def FnJoinedWrongFalsely : Prop := fnJoinedRow.holds Try.pinned (OpenSpec.ofChange fnJoinedWrong)

/- THE SECOND FORM. 'bulk': how many values and letters a reading holds, each counted each time it is reached (what is shared counts as often as it is met; a slice's spare places count too). A statement '..UptoSaid' is the law's where the arguments, and the package variables that the reading takes, are together of bulk at most 1048576: NARROWER than '..Said'. Prove '..Said' where nothing that the law and all that it calls make is longer than what came in: it says more and counts as full. Else prove '..UptoSaid'. A law counts once. -/
mutual
def uptoBulk {H : Type} : DataW H → Nat
  | .lit (.string bytes) => bytes.length + 1
  | .lit _ => 1
  | .nil => 1
  | .ptr d => uptoBulk d + 1
  | .slice elems spare => uptoBulkAll elems + uptoBulkAll spare + 1
  | .agg parts => uptoBulkAll parts + 1
  | .iface _ d => uptoBulk d + 1
  | .map entries => uptoBulkEntries entries + 1
  | .held _ => 1
def uptoBulkAll {H : Type} : List (DataW H) → Nat
  | [] => 0
  | d :: r => uptoBulk d + uptoBulkAll r
def uptoBulkEntries {H : Type} : List (Lit × DataW H) → Nat
  | [] => 0
  | x :: r => uptoBulkEntry x + uptoBulkEntries r
def uptoBulkEntry {H : Type} : Lit × DataW H → Nat
  | (.string bytes, d) => bytes.length + uptoBulk d + 1
  | (_, d) => uptoBulk d + 1
 end
def uptoSmall : (H : Type) → List (DataW H) → Bool := fun _ ds => decide (uptoBulkAll ds ≤ 1048576)
def OpenSpec.upto (s : _root_.Go.ChangeSpec) : _root_.Go.OpenSpec := { _root_.Go.OpenSpec.ofChange s with cond := some uptoSmall }

/-- 'laws.FnExactLeastBound', WHERE WHAT IT READS IS OF BULK AT MOST 1048576: true; the input reads as it did. -/
def fnExactLeastBoundUptoRow : OpenClaim := { program := "ytgblbmbdadjicaa", sum := "03491b343a87a85e125afeefbfb7114719d79519947e32d6ea352bac49afb7c6", func := "loop.example/g01055/laws.FnExactLeastBound", spec := "fnExactLeastBound", unfollowed := true, recurses := true, apart := false, narrowed := true }
def FnExactLeastBoundUptoSaid : Prop := fnExactLeastBoundUptoRow.holds Try.pinned (OpenSpec.upto fnExactLeastBoundSpec)

/-- 'laws.FnExactLongSteps', WHERE WHAT IT READS IS OF BULK AT MOST 1048576: true; the input reads as it did. -/
def fnExactLongStepsUptoRow : OpenClaim := { program := "ytgblbmbdadjicaa", sum := "03491b343a87a85e125afeefbfb7114719d79519947e32d6ea352bac49afb7c6", func := "loop.example/g01055/laws.FnExactLongSteps", spec := "fnExactLongSteps", unfollowed := true, recurses := true, apart := false, narrowed := true }
def FnExactLongStepsUptoSaid : Prop := fnExactLongStepsUptoRow.holds Try.pinned (OpenSpec.upto fnExactLongStepsSpec)

/-- 'laws.FnChainSides', WHERE WHAT IT READS IS OF BULK AT MOST 1048576: true; the input reads as it did. -/
def fnChainSidesUptoRow : OpenClaim := { program := "ytgblbmbdadjicaa", sum := "03491b343a87a85e125afeefbfb7114719d79519947e32d6ea352bac49afb7c6", func := "loop.example/g01055/laws.FnChainSides", spec := "fnChainSides", inPlace := ["math.sqrt"], unfollowed := true, recurses := true, apart := false, narrowed := true }
def FnChainSidesUptoSaid : Prop := fnChainSidesUptoRow.holds Try.pinned (OpenSpec.upto fnChainSidesSpec)

/-- 'laws.FnExactLengthBounds', WHERE WHAT IT READS IS OF BULK AT MOST 1048576: true; the input reads as it did. -/
def fnExactLengthBoundsUptoRow : OpenClaim := { program := "ytgblbmbdadjicaa", sum := "03491b343a87a85e125afeefbfb7114719d79519947e32d6ea352bac49afb7c6", func := "loop.example/g01055/laws.FnExactLengthBounds", spec := "fnExactLengthBounds", inPlace := ["math.sqrt"], unfollowed := true, recurses := true, apart := false, narrowed := true }
def FnExactLengthBoundsUptoSaid : Prop := fnExactLengthBoundsUptoRow.holds Try.pinned (OpenSpec.upto fnExactLengthBoundsSpec)

/-- 'laws.FnExactJoinTwo', WHERE WHAT IT READS IS OF BULK AT MOST 1048576: true; the input reads as it did. -/
def fnExactJoinTwoUptoRow : OpenClaim := { program := "ytgblbmbdadjicaa", sum := "03491b343a87a85e125afeefbfb7114719d79519947e32d6ea352bac49afb7c6", func := "loop.example/g01055/laws.FnExactJoinTwo", spec := "fnExactJoinTwo", unfollowed := true, recurses := true, apart := false, narrowed := true }
def FnExactJoinTwoUptoSaid : Prop := fnExactJoinTwoUptoRow.holds Try.pinned (OpenSpec.upto fnExactJoinTwoSpec)

/-- 'laws.FnExactLooseEnds', WHERE WHAT IT READS IS OF BULK AT MOST 1048576: true; the input reads as it did. -/
def fnExactLooseEndsUptoRow : OpenClaim := { program := "ytgblbmbdadjicaa", sum := "03491b343a87a85e125afeefbfb7114719d79519947e32d6ea352bac49afb7c6", func := "loop.example/g01055/laws.FnExactLooseEnds", spec := "fnExactLooseEnds", unfollowed := true, recurses := true, apart := false, narrowed := true }
def FnExactLooseEndsUptoSaid : Prop := fnExactLooseEndsUptoRow.holds Try.pinned (OpenSpec.upto fnExactLooseEndsSpec)

/-- 'laws.FnExactFewestPoints', WHERE WHAT IT READS IS OF BULK AT MOST 1048576: true; the input reads as it did. -/
def fnExactFewestPointsUptoRow : OpenClaim := { program := "ytgblbmbdadjicaa", sum := "03491b343a87a85e125afeefbfb7114719d79519947e32d6ea352bac49afb7c6", func := "loop.example/g01055/laws.FnExactFewestPoints", spec := "fnExactFewestPoints", unfollowed := true, recurses := true, apart := false, narrowed := true }
def FnExactFewestPointsUptoSaid : Prop := fnExactFewestPointsUptoRow.holds Try.pinned (OpenSpec.upto fnExactFewestPointsSpec)

/-- 'laws.FnChains', WHERE WHAT IT READS IS OF BULK AT MOST 1048576: true; the input reads as it did. -/
def fnChainsUptoRow : OpenClaim := { program := "ytgblbmbdadjicaa", sum := "03491b343a87a85e125afeefbfb7114719d79519947e32d6ea352bac49afb7c6", func := "loop.example/g01055/laws.FnChains", spec := "fnChains", unfollowed := true, recurses := true, apart := false, narrowed := true }
def FnChainsUptoSaid : Prop := fnChainsUptoRow.holds Try.pinned (OpenSpec.upto fnChainsSpec)

/-- 'laws.FnExactJoinAll', WHERE WHAT IT READS IS OF BULK AT MOST 1048576: true; the input reads as it did. -/
def fnExactJoinAllUptoRow : OpenClaim := { program := "ytgblbmbdadjicaa", sum := "03491b343a87a85e125afeefbfb7114719d79519947e32d6ea352bac49afb7c6", func := "loop.example/g01055/laws.FnExactJoinAll", spec := "fnExactJoinAll", unfollowed := true, recurses := true, apart := false, narrowed := true }
def FnExactJoinAllUptoSaid : Prop := fnExactJoinAllUptoRow.holds Try.pinned (OpenSpec.upto fnExactJoinAllSpec)

/-- 'laws.FnOutlines', WHERE WHAT IT READS IS OF BULK AT MOST 1048576: true; the input reads as it did. -/
def fnOutlinesUptoRow : OpenClaim := { program := "ytgblbmbdadjicaa", sum := "03491b343a87a85e125afeefbfb7114719d79519947e32d6ea352bac49afb7c6", func := "loop.example/g01055/laws.FnOutlines", spec := "fnOutlines", unfollowed := true, recurses := true, apart := false, narrowed := true }
def FnOutlinesUptoSaid : Prop := fnOutlinesUptoRow.holds Try.pinned (OpenSpec.upto fnOutlinesSpec)

/-- 'laws.FnJoined', WHERE WHAT IT READS IS OF BULK AT MOST 1048576: true; the input reads as it did. -/
def fnJoinedUptoRow : OpenClaim := { program := "ytgblbmbdadjicaa", sum := "03491b343a87a85e125afeefbfb7114719d79519947e32d6ea352bac49afb7c6", func := "loop.example/g01055/laws.FnJoined", spec := "fnJoined", unfollowed := true, recurses := true, apart := false, narrowed := true }
def FnJoinedUptoSaid : Prop := fnJoinedUptoRow.holds Try.pinned (OpenSpec.upto fnJoinedSpec)

end Rows
end Go.Proofs.Ytgblbmbdadjicaa
