/-
  No cell of these rows narrows 'for every input' (looked for: loops, veiled, ifaces, maps, wideKeys, modest, calm, conditions, laid).
  DERIVED. THE GIVEN ROWS OF THIS SEAT. 3 by the template 'for every input the law returns true; each argument reads behind the call as it read before'; 0 by the template 'total and deterministic' (their statements: YtjfkjmfdckbecaaTotals.lean).
  GIVEN WITH THE SEED: the statements are not yours to turn. If you find one false, say at which input.
  Laid BY PROGRAM, IN A SANDBOX (cutbox-rows.mjs): the forced cells as the released guide's own fill.sh prints them over the translation d6d2cd6921afbd98… (all of the seat's roots in one cut). By AI agents, Wed Nov 11 2026. No macro, syntax, notation, axiom, sorry.
-/
import Derived.Test.YtjfkjmfdckbecaaChecked
import GoSem.Claim
import GoSem.ClaimJoined
import GoSem.ClaimMapViews
import Derived.JoinedTies
import Derived.KernelRfl
namespace Go.Proofs.Ytjfkjmfdckbecaa
/- THE CELL 'sum', in the pinned program and in every row, IS THE sha256 OF THE DUMP (.gsa) THAT YtjfkjmfdckbecaaProg.lean LOADS. Nothing in Lean hashes anything: it is a label: what it is worth is what the hold of that sum in a sandbox is worth. -/
noncomputable def Try.pinned : Pinned := { name := "ytjfkjmfdckbecaa", sum := "d6d2cd6921afbd983625669d303f484445be792eb1597339910be729a5ddfb89", checked := Try.checked }
namespace Rows
def none {H : Type} : Left H := { results := [], args := [] }

/-- 'laws.FnLabels': WHATEVER THE INPUT: true; the input reads as it did. -/
def fnLabelsSpec : ChangeSpec := { name := "fnLabels", fn := fun _ => fun
  | [d] => { results := [.lit (.bool true)], args := [d] }
  | _ => none }
def fnLabelsRow : OpenClaim := { program := "ytjfkjmfdckbecaa", sum := "d6d2cd6921afbd983625669d303f484445be792eb1597339910be729a5ddfb89", func := "loop.example/g01055/laws.FnLabels", spec := "fnLabels", unfollowed := true, recurses := true, apart := false }
def FnLabelsSaid : Prop := fnLabelsRow.holds Try.pinned (OpenSpec.ofChange fnLabelsSpec)

/-- ITS FALSE NEIGHBOUR: 'it returns false'. Refute it at one input. -/
def fnLabelsWrong : ChangeSpec := { name := "fnLabels", fn := fun _ => fun
  | [d] => { results := [.lit (.bool false)], args := [d] }
  | _ => none }
def FnLabelsWrongFalsely : Prop := fnLabelsRow.holds Try.pinned (OpenSpec.ofChange fnLabelsWrong)

/-- 'laws.FnExactBestPlaces': WHATEVER THE INPUT: true; the input reads as it did. -/
def fnExactBestPlacesSpec : ChangeSpec := { name := "fnExactBestPlaces", fn := fun _ => fun
  | [d] => { results := [.lit (.bool true)], args := [d] }
  | _ => none }
def fnExactBestPlacesRow : OpenClaim := { program := "ytjfkjmfdckbecaa", sum := "d6d2cd6921afbd983625669d303f484445be792eb1597339910be729a5ddfb89", func := "loop.example/g01055/laws.FnExactBestPlaces", spec := "fnExactBestPlaces", unfollowed := true, recurses := true, apart := false }
def FnExactBestPlacesSaid : Prop := fnExactBestPlacesRow.holds Try.pinned (OpenSpec.ofChange fnExactBestPlacesSpec)

/-- ITS FALSE NEIGHBOUR: 'it returns false'. Refute it at one input. -/
def fnExactBestPlacesWrong : ChangeSpec := { name := "fnExactBestPlaces", fn := fun _ => fun
  | [d] => { results := [.lit (.bool false)], args := [d] }
  | _ => none }
def FnExactBestPlacesWrongFalsely : Prop := fnExactBestPlacesRow.holds Try.pinned (OpenSpec.ofChange fnExactBestPlacesWrong)

/-- 'laws.FnExactGreedyPlaces': WHATEVER THE INPUT: true; the input reads as it did. -/
def fnExactGreedyPlacesSpec : ChangeSpec := { name := "fnExactGreedyPlaces", fn := fun _ => fun
  | [d] => { results := [.lit (.bool true)], args := [d] }
  | _ => none }
def fnExactGreedyPlacesRow : OpenClaim := { program := "ytjfkjmfdckbecaa", sum := "d6d2cd6921afbd983625669d303f484445be792eb1597339910be729a5ddfb89", func := "loop.example/g01055/laws.FnExactGreedyPlaces", spec := "fnExactGreedyPlaces", unfollowed := true, recurses := true, apart := false }
def FnExactGreedyPlacesSaid : Prop := fnExactGreedyPlacesRow.holds Try.pinned (OpenSpec.ofChange fnExactGreedyPlacesSpec)

/-- ITS FALSE NEIGHBOUR: 'it returns false'. Refute it at one input. -/
def fnExactGreedyPlacesWrong : ChangeSpec := { name := "fnExactGreedyPlaces", fn := fun _ => fun
  | [d] => { results := [.lit (.bool false)], args := [d] }
  | _ => none }
def FnExactGreedyPlacesWrongFalsely : Prop := fnExactGreedyPlacesRow.holds Try.pinned (OpenSpec.ofChange fnExactGreedyPlacesWrong)

/- THE SECOND FORM. 'bulk': how many values and letters a reading holds, each counted each time it is reached (what is shared counts as often as it is met; a slice's spare places count too). A statement '..UptoSaid' is the law's where the arguments, and the package variables that the reading takes, are together of bulk at most 1048576: NARROWER than '..Said'. Prove '..Said' where nothing that the law and all that it calls make is longer than what came in: it says more and counts as full. Else prove '..UptoSaid'. A law counts once. -/
mutual
def uptoBulk {H : Type} : DataW H → Nat
  | .lit (.string bytes) => bytes.length + 1
  | .lit _ => 1
  | .nil => 1
  | .ptr d => uptoBulk d + 1
  | .slice elems spare => uptoBulkAll elems + uptoBulkAll spare + 1
  | .agg parts => uptoBulkAll parts + 1
  | .iface _ d => uptoBulk d + 1
  | .map entries => uptoBulkEntries entries + 1
  | .held _ => 1
def uptoBulkAll {H : Type} : List (DataW H) → Nat
  | [] => 0
  | d :: r => uptoBulk d + uptoBulkAll r
def uptoBulkEntries {H : Type} : List (Lit × DataW H) → Nat
  | [] => 0
  | x :: r => uptoBulkEntry x + uptoBulkEntries r
def uptoBulkEntry {H : Type} : Lit × DataW H → Nat
  | (.string bytes, d) => bytes.length + uptoBulk d + 1
  | (_, d) => uptoBulk d + 1
 end
def uptoSmall : (H : Type) → List (DataW H) → Bool := fun _ ds => decide (uptoBulkAll ds ≤ 1048576)
def OpenSpec.upto (s : _root_.Go.ChangeSpec) : _root_.Go.OpenSpec := { _root_.Go.OpenSpec.ofChange s with cond := some uptoSmall }

/-- 'laws.FnLabels', WHERE WHAT IT READS IS OF BULK AT MOST 1048576: true; the input reads as it did. -/
def fnLabelsUptoRow : OpenClaim := { program := "ytjfkjmfdckbecaa", sum := "d6d2cd6921afbd983625669d303f484445be792eb1597339910be729a5ddfb89", func := "loop.example/g01055/laws.FnLabels", spec := "fnLabels", unfollowed := true, recurses := true, apart := false, narrowed := true }
def FnLabelsUptoSaid : Prop := fnLabelsUptoRow.holds Try.pinned (OpenSpec.upto fnLabelsSpec)

/-- 'laws.FnExactBestPlaces', WHERE WHAT IT READS IS OF BULK AT MOST 1048576: true; the input reads as it did. -/
def fnExactBestPlacesUptoRow : OpenClaim := { program := "ytjfkjmfdckbecaa", sum := "d6d2cd6921afbd983625669d303f484445be792eb1597339910be729a5ddfb89", func := "loop.example/g01055/laws.FnExactBestPlaces", spec := "fnExactBestPlaces", unfollowed := true, recurses := true, apart := false, narrowed := true }
def FnExactBestPlacesUptoSaid : Prop := fnExactBestPlacesUptoRow.holds Try.pinned (OpenSpec.upto fnExactBestPlacesSpec)

/-- 'laws.FnExactGreedyPlaces', WHERE WHAT IT READS IS OF BULK AT MOST 1048576: true; the input reads as it did. -/
def fnExactGreedyPlacesUptoRow : OpenClaim := { program := "ytjfkjmfdckbecaa", sum := "d6d2cd6921afbd983625669d303f484445be792eb1597339910be729a5ddfb89", func := "loop.example/g01055/laws.FnExactGreedyPlaces", spec := "fnExactGreedyPlaces", unfollowed := true, recurses := true, apart := false, narrowed := true }
def FnExactGreedyPlacesUptoSaid : Prop := fnExactGreedyPlacesUptoRow.holds Try.pinned (OpenSpec.upto fnExactGreedyPlacesSpec)

end Rows
end Go.Proofs.Ytjfkjmfdckbecaa
