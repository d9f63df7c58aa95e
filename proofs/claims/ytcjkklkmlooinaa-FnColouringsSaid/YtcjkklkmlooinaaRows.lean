/-
  No cell of these rows narrows 'for every input' (looked for: loops, veiled, ifaces, maps, wideKeys, modest, calm, conditions, laid).
  DERIVED. THE GIVEN ROWS OF THIS SEAT. 5 by the template 'for every input the law returns true; each argument reads behind the call as it read before'; 0 by the template 'total and deterministic' (their statements: YtcjkklkmlooinaaTotals.lean).
  GIVEN WITH THE SEED: the statements are not yours to turn. If you find one false, say at which input.
  Laid BY PROGRAM, IN A SANDBOX (cutbox-rows.mjs): the forced cells as the released guide's own fill.sh prints them over the translation 9ea4c1026ff8a545… (all of the seat's roots in one cut). By AI agents, Wed Nov 11 2026. No macro, syntax, notation, axiom, sorry.
-/
import Derived.Test.YtcjkklkmlooinaaChecked
import GoSem.Claim
import GoSem.ClaimJoined
import GoSem.ClaimMapViews
import Derived.JoinedTies
import Derived.KernelRfl
namespace Go.Proofs.Ytcjkklkmlooinaa
/- THE CELL 'sum', in the pinned program and in every row, IS THE sha256 OF THE DUMP (.gsa) THAT YtcjkklkmlooinaaProg.lean LOADS. Nothing in Lean hashes anything: it is a label: what it is worth is what the hold of that sum in a sandbox is worth. -/
noncomputable def Try.pinned : Pinned := { name := "ytcjkklkmlooinaa", sum := "9ea4c1026ff8a545e3f1050a8011bcb5b79e4e9525156a400584bdca2ed0fcf3", checked := Try.checked }
namespace Rows
def none {H : Type} : Left H := { results := [], args := [] }

/-- 'laws.FnHardBorders': WHATEVER THE INPUT: true; the input reads as it did. -/
def fnHardBordersSpec : ChangeSpec := { name := "fnHardBorders", fn := fun _ => fun
  | [d] => { results := [.lit (.bool true)], args := [d] }
  | _ => none }
def fnHardBordersRow : OpenClaim := { program := "ytcjkklkmlooinaa", sum := "9ea4c1026ff8a545e3f1050a8011bcb5b79e4e9525156a400584bdca2ed0fcf3", func := "loop.example/g01055/laws.FnHardBorders", spec := "fnHardBorders", recurses := true, apart := false }
def FnHardBordersSaid : Prop := fnHardBordersRow.holds Try.pinned (OpenSpec.ofChange fnHardBordersSpec)

/-- ITS FALSE NEIGHBOUR: 'it returns false'. Refute it at one input. -/
def fnHardBordersWrong : ChangeSpec := { name := "fnHardBorders", fn := fun _ => fun
  | [d] => { results := [.lit (.bool false)], args := [d] }
  | _ => none }
def FnHardBordersWrongFalsely : Prop := fnHardBordersRow.holds Try.pinned (OpenSpec.ofChange fnHardBordersWrong)

/-- 'laws.FnColourings': WHATEVER THE INPUT: true; the input reads as it did. -/
def fnColouringsSpec : ChangeSpec := { name := "fnColourings", fn := fun _ => fun
  | [d1, d2] => { results := [.lit (.bool true)], args := [d1, d2] }
  | _ => none }
def fnColouringsRow : OpenClaim := { program := "ytcjkklkmlooinaa", sum := "9ea4c1026ff8a545e3f1050a8011bcb5b79e4e9525156a400584bdca2ed0fcf3", func := "loop.example/g01055/laws.FnColourings", spec := "fnColourings", unfollowed := true, recurses := true, apart := false }
def FnColouringsSaid : Prop := fnColouringsRow.holds Try.pinned (OpenSpec.ofChange fnColouringsSpec)

/-- ITS FALSE NEIGHBOUR: 'it returns false'. Refute it at one input. -/
def fnColouringsWrong : ChangeSpec := { name := "fnColourings", fn := fun _ => fun
  | [d1, d2] => { results := [.lit (.bool false)], args := [d1, d2] }
  | _ => none }
def FnColouringsWrongFalsely : Prop := fnColouringsRow.holds Try.pinned (OpenSpec.ofChange fnColouringsWrong)

/-- 'laws.FnExactFewestColours': WHATEVER THE INPUT: true; the input reads as it did. -/
def fnExactFewestColoursSpec : ChangeSpec := { name := "fnExactFewestColours", fn := fun _ => fun
  | [d1, d2] => { results := [.lit (.bool true)], args := [d1, d2] }
  | _ => none }
def fnExactFewestColoursRow : OpenClaim := { program := "ytcjkklkmlooinaa", sum := "9ea4c1026ff8a545e3f1050a8011bcb5b79e4e9525156a400584bdca2ed0fcf3", func := "loop.example/g01055/laws.FnExactFewestColours", spec := "fnExactFewestColours", recurses := true, apart := false }
def FnExactFewestColoursSaid : Prop := fnExactFewestColoursRow.holds Try.pinned (OpenSpec.ofChange fnExactFewestColoursSpec)

/-- ITS FALSE NEIGHBOUR: 'it returns false'. Refute it at one input. -/
def fnExactFewestColoursWrong : ChangeSpec := { name := "fnExactFewestColours", fn := fun _ => fun
  | [d1, d2] => { results := [.lit (.bool false)], args := [d1, d2] }
  | _ => none }
def FnExactFewestColoursWrongFalsely : Prop := fnExactFewestColoursRow.holds Try.pinned (OpenSpec.ofChange fnExactFewestColoursWrong)

/-- 'laws.FnExactFirstColours': WHATEVER THE INPUT: true; the input reads as it did. -/
def fnExactFirstColoursSpec : ChangeSpec := { name := "fnExactFirstColours", fn := fun _ => fun
  | [d1, d2, d3] => { results := [.lit (.bool true)], args := [d1, d2, d3] }
  | _ => none }
def fnExactFirstColoursRow : OpenClaim := { program := "ytcjkklkmlooinaa", sum := "9ea4c1026ff8a545e3f1050a8011bcb5b79e4e9525156a400584bdca2ed0fcf3", func := "loop.example/g01055/laws.FnExactFirstColours", spec := "fnExactFirstColours", recurses := true, apart := false }
def FnExactFirstColoursSaid : Prop := fnExactFirstColoursRow.holds Try.pinned (OpenSpec.ofChange fnExactFirstColoursSpec)

/-- ITS FALSE NEIGHBOUR: 'it returns false'. Refute it at one input. -/
def fnExactFirstColoursWrong : ChangeSpec := { name := "fnExactFirstColours", fn := fun _ => fun
  | [d1, d2, d3] => { results := [.lit (.bool false)], args := [d1, d2, d3] }
  | _ => none }
def FnExactFirstColoursWrongFalsely : Prop := fnExactFirstColoursRow.holds Try.pinned (OpenSpec.ofChange fnExactFirstColoursWrong)

/-- 'laws.FnExactHardBorders': WHATEVER THE INPUT: true; the input reads as it did. -/
def fnExactHardBordersSpec : ChangeSpec := { name := "fnExactHardBorders", fn := fun _ => fun
  | [d1, d2] => { results := [.lit (.bool true)], args := [d1, d2] }
  | _ => none }
def fnExactHardBordersRow : OpenClaim := { program := "ytcjkklkmlooinaa", sum := "9ea4c1026ff8a545e3f1050a8011bcb5b79e4e9525156a400584bdca2ed0fcf3", func := "loop.example/g01055/laws.FnExactHardBorders", spec := "fnExactHardBorders", recurses := true, apart := false }
def FnExactHardBordersSaid : Prop := fnExactHardBordersRow.holds Try.pinned (OpenSpec.ofChange fnExactHardBordersSpec)

/-- ITS FALSE NEIGHBOUR: 'it returns false'. Refute it at one input. -/
def fnExactHardBordersWrong : ChangeSpec := { name := "fnExactHardBorders", fn := fun _ => fun
  | [d1, d2] => { results := [.lit (.bool false)], args := [d1, d2] }
  | _ => none }
def FnExactHardBordersWrongFalsely : Prop := fnExactHardBordersRow.holds Try.pinned (OpenSpec.ofChange fnExactHardBordersWrong)

/- THE SECOND FORM. 'bulk': how many values and letters a reading holds, each counted each time it is reached (what is shared counts as often as it is met; a slice's spare places count too). A statement '..UptoSaid' is the law's where the arguments, and the package variables that the reading takes, are together of bulk at most 1048576: NARROWER than '..Said'. Prove '..Said' where nothing that the law and all that it calls make is longer than what came in: it says more and counts as full. Else prove '..UptoSaid'. A law counts once. -/
mutual
def uptoBulk {H : Type} : DataW H → Nat
  | .lit (.string bytes) => bytes.length + 1
  | .lit _ => 1
  | .nil => 1
  | .ptr d => uptoBulk d + 1
  | .slice elems spare => uptoBulkAll elems + uptoBulkAll spare + 1
  | .agg parts => uptoBulkAll parts + 1
  | .iface _ d => uptoBulk d + 1
  | .map entries => uptoBulkEntries entries + 1
  | .held _ => 1
def uptoBulkAll {H : Type} : List (DataW H) → Nat
  | [] => 0
  | d :: r => uptoBulk d + uptoBulkAll r
def uptoBulkEntries {H : Type} : List (Lit × DataW H) → Nat
  | [] => 0
  | x :: r => uptoBulkEntry x + uptoBulkEntries r
def uptoBulkEntry {H : Type} : Lit × DataW H → Nat
  | (.string bytes, d) => bytes.length + uptoBulk d + 1
  | (_, d) => uptoBulk d + 1
 end
def uptoSmall : (H : Type) → List (DataW H) → Bool := fun _ ds => decide (uptoBulkAll ds ≤ 1048576)
def OpenSpec.upto (s : _root_.Go.ChangeSpec) : _root_.Go.OpenSpec := { _root_.Go.OpenSpec.ofChange s with cond := some uptoSmall }

/-- 'laws.FnHardBorders', WHERE WHAT IT READS IS OF BULK AT MOST 1048576: true; the input reads as it did. -/
def fnHardBordersUptoRow : OpenClaim := { program := "ytcjkklkmlooinaa", sum := "9ea4c1026ff8a545e3f1050a8011bcb5b79e4e9525156a400584bdca2ed0fcf3", func := "loop.example/g01055/laws.FnHardBorders", spec := "fnHardBorders", recurses := true, apart := false, narrowed := true }
def FnHardBordersUptoSaid : Prop := fnHardBordersUptoRow.holds Try.pinned (OpenSpec.upto fnHardBordersSpec)

/-- 'laws.FnColourings', WHERE WHAT IT READS IS OF BULK AT MOST 1048576: true; the input reads as it did. -/
def fnColouringsUptoRow : OpenClaim := { program := "ytcjkklkmlooinaa", sum := "9ea4c1026ff8a545e3f1050a8011bcb5b79e4e9525156a400584bdca2ed0fcf3", func := "loop.example/g01055/laws.FnColourings", spec := "fnColourings", unfollowed := true, recurses := true, apart := false, narrowed := true }
def FnColouringsUptoSaid : Prop := fnColouringsUptoRow.holds Try.pinned (OpenSpec.upto fnColouringsSpec)

/-- 'laws.FnExactFewestColours', WHERE WHAT IT READS IS OF BULK AT MOST 1048576: true; the input reads as it did. -/
def fnExactFewestColoursUptoRow : OpenClaim := { program := "ytcjkklkmlooinaa", sum := "9ea4c1026ff8a545e3f1050a8011bcb5b79e4e9525156a400584bdca2ed0fcf3", func := "loop.example/g01055/laws.FnExactFewestColours", spec := "fnExactFewestColours", recurses := true, apart := false, narrowed := true }
def FnExactFewestColoursUptoSaid : Prop := fnExactFewestColoursUptoRow.holds Try.pinned (OpenSpec.upto fnExactFewestColoursSpec)

/-- 'laws.FnExactFirstColours', WHERE WHAT IT READS IS OF BULK AT MOST 1048576: true; the input reads as it did. -/
def fnExactFirstColoursUptoRow : OpenClaim := { program := "ytcjkklkmlooinaa", sum := "9ea4c1026ff8a545e3f1050a8011bcb5b79e4e9525156a400584bdca2ed0fcf3", func := "loop.example/g01055/laws.FnExactFirstColours", spec := "fnExactFirstColours", recurses := true, apart := false, narrowed := true }
def FnExactFirstColoursUptoSaid : Prop := fnExactFirstColoursUptoRow.holds Try.pinned (OpenSpec.upto fnExactFirstColoursSpec)

/-- 'laws.FnExactHardBorders', WHERE WHAT IT READS IS OF BULK AT MOST 1048576: true; the input reads as it did. -/
def fnExactHardBordersUptoRow : OpenClaim := { program := "ytcjkklkmlooinaa", sum := "9ea4c1026ff8a545e3f1050a8011bcb5b79e4e9525156a400584bdca2ed0fcf3", func := "loop.example/g01055/laws.FnExactHardBorders", spec := "fnExactHardBorders", recurses := true, apart := false, narrowed := true }
def FnExactHardBordersUptoSaid : Prop := fnExactHardBordersUptoRow.holds Try.pinned (OpenSpec.upto fnExactHardBordersSpec)

end Rows
end Go.Proofs.Ytcjkklkmlooinaa
