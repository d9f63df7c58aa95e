/-
  NARROWER THAN 'FOR EVERY INPUT', by the rows' own cells (each row's printed sentence says how): FnExactValidGrid: laid · FnExactLandsOf: laid · FnExactTurnGrid: laid · FnExactCellsOf: laid · FnExactGreatestLand: laid · FnExactSeasOf: laid · FnExactLandlockedOf: laid · FnExactCoastOf: laid · FnExactIslandsOf: laid.
  DERIVED. THE GIVEN ROWS OF THIS SEAT. 9 by the template 'for every input the law returns true; each argument reads behind the call as it read before'; 0 by the template 'total and deterministic' (their statements: YtphaebmhhgkkcaaDoorTotals.lean).
  GIVEN WITH THE SEED: the statements are not yours to turn. If you find one false, say at which input.
  Laid BY PROGRAM, IN A SANDBOX (cutbox-rows.mjs): the forced cells as the released guide's own fill.sh prints them over the translation 8bdf0c8969aa6d54… (all of the seat's roots in one cut). By AI agents, Wed Nov 11 2026. No macro, syntax, notation, axiom, sorry.
-/
import Derived.Test.YtphaebmhhgkkcaaDoorChecked
import GoSem.PinnedTables
import GoSem.Claim
import GoSem.ClaimJoined
import GoSem.ClaimMapViews
import Derived.JoinedTies
import Derived.KernelRfl
namespace Go.Proofs.YtphaebmhhgkkcaaDoor
/- THE CELL 'sum', in the pinned program and in every row, IS THE sha256 OF THE DUMP (.gsa) THAT YtphaebmhhgkkcaaDoorProg.lean LOADS. Nothing in Lean hashes anything: it is a label: what it is worth is what the hold of that sum in a sandbox is worth. -/
noncomputable def Tryd.pinned : Pinned := { name := "ytphaebmhhgkkcaadoor", sum := "8bdf0c8969aa6d545470869ca554891a029155d31612de2fdf0aa2ab2ab138c2", checked := Tryd.checked }
namespace Rows
def none {H : Type} : Left H := { results := [], args := [] }

/- WHAT THE LISTED PACKAGE-LEVEL VARIABLES READ AS WHEN THE CALL BEGINS. Each datum BY PROGRAM (the guide's laid-datum.mjs) off the statement by which the dump's own 'gosem.cut.vars' lays the variable. In a bare row this is a premise. The card (YtphaebmhhgkkcaaDoorCards.lean) ties it to the program's text. -/
def laid_unicode_utf8_acceptRanges {H : Type} : DataW H := .agg [.agg [.lit (.int .u8 128), .lit (.int .u8 191)], .agg [.lit (.int .u8 160), .lit (.int .u8 191)], .agg [.lit (.int .u8 128), .lit (.int .u8 159)], .agg [.lit (.int .u8 144), .lit (.int .u8 191)], .agg [.lit (.int .u8 128), .lit (.int .u8 143)], .agg [.lit (.int .u8 0), .lit (.int .u8 0)], .agg [.lit (.int .u8 0), .lit (.int .u8 0)], .agg [.lit (.int .u8 0), .lit (.int .u8 0)], .agg [.lit (.int .u8 0), .lit (.int .u8 0)], .agg [.lit (.int .u8 0), .lit (.int .u8 0)], .agg [.lit (.int .u8 0), .lit (.int .u8 0)], .agg [.lit (.int .u8 0), .lit (.int .u8 0)], .agg [.lit (.int .u8 0), .lit (.int .u8 0)], .agg [.lit (.int .u8 0), .lit (.int .u8 0)], .agg [.lit (.int .u8 0), .lit (.int .u8 0)], .agg [.lit (.int .u8 0), .lit (.int .u8 0)]]
/-- One of Go's own tables, pinned by name: the form's constant. -/
def laid_unicode_utf8_first : DataW Unit := Go.Pinned.utf8First

/-- 'laws.FnExactValidGrid': WHATEVER THE INPUT: true; the input reads as it did. -/
def fnExactValidGridSpec : ChangeSpec := { name := "fnExactValidGrid", fn := fun _ => fun
  | [d] => { results := [.lit (.bool true)], args := [d] }
  | _ => none }
def fnExactValidGridRow : OpenClaim := { program := "ytphaebmhhgkkcaadoor", sum := "8bdf0c8969aa6d545470869ca554891a029155d31612de2fdf0aa2ab2ab138c2", func := "loop.example/g01055/laws.FnExactValidGrid", spec := "fnExactValidGrid", inPlace := ["internal/bytealg.IndexByteString", "internal/bytealg.IndexString"], named := ["unicode/utf8.first", "unicode/utf8.acceptRanges", "internal/bytealg.MaxLen"], plainKeys := false, apart := false, laid := [("unicode/utf8.acceptRanges", laid_unicode_utf8_acceptRanges), ("unicode/utf8.first", laid_unicode_utf8_first)] }
def FnExactValidGridSaid : Prop := fnExactValidGridRow.holds Tryd.pinned (OpenSpec.ofChange fnExactValidGridSpec)

/-- ITS FALSE NEIGHBOUR: 'it returns false'. Refute it at one input. -/
def fnExactValidGridWrong : ChangeSpec := { name := "fnExactValidGrid", fn := fun _ => fun
  | [d] => { results := [.lit (.bool false)], args := [d] }
  | _ => none }
def FnExactValidGridWrongFalsely : Prop := fnExactValidGridRow.holds Tryd.pinned (OpenSpec.ofChange fnExactValidGridWrong)

/-- 'laws.FnExactLandsOf': WHATEVER THE INPUT: true; the input reads as it did. -/
def fnExactLandsOfSpec : ChangeSpec := { name := "fnExactLandsOf", fn := fun _ => fun
  | [d] => { results := [.lit (.bool true)], args := [d] }
  | _ => none }
def fnExactLandsOfRow : OpenClaim := { program := "ytphaebmhhgkkcaadoor", sum := "8bdf0c8969aa6d545470869ca554891a029155d31612de2fdf0aa2ab2ab138c2", func := "loop.example/g01055/laws.FnExactLandsOf", spec := "fnExactLandsOf", inPlace := ["internal/bytealg.IndexByteString", "internal/bytealg.IndexString"], named := ["unicode/utf8.first", "unicode/utf8.acceptRanges", "internal/bytealg.MaxLen"], plainKeys := false, apart := false, laid := [("unicode/utf8.acceptRanges", laid_unicode_utf8_acceptRanges), ("unicode/utf8.first", laid_unicode_utf8_first)] }
def FnExactLandsOfSaid : Prop := fnExactLandsOfRow.holds Tryd.pinned (OpenSpec.ofChange fnExactLandsOfSpec)

/-- ITS FALSE NEIGHBOUR: 'it returns false'. Refute it at one input. -/
def fnExactLandsOfWrong : ChangeSpec := { name := "fnExactLandsOf", fn := fun _ => fun
  | [d] => { results := [.lit (.bool false)], args := [d] }
  | _ => none }
def FnExactLandsOfWrongFalsely : Prop := fnExactLandsOfRow.holds Tryd.pinned (OpenSpec.ofChange fnExactLandsOfWrong)

/-- 'laws.FnExactTurnGrid': WHATEVER THE INPUT: true; the input reads as it did. -/
def fnExactTurnGridSpec : ChangeSpec := { name := "fnExactTurnGrid", fn := fun _ => fun
  | [d1, d2] => { results := [.lit (.bool true)], args := [d1, d2] }
  | _ => none }
def fnExactTurnGridRow : OpenClaim := { program := "ytphaebmhhgkkcaadoor", sum := "8bdf0c8969aa6d545470869ca554891a029155d31612de2fdf0aa2ab2ab138c2", func := "loop.example/g01055/laws.FnExactTurnGrid", spec := "fnExactTurnGrid", inPlace := ["internal/bytealg.IndexByteString", "internal/bytealg.IndexString"], named := ["unicode/utf8.first", "unicode/utf8.acceptRanges", "internal/bytealg.MaxLen"], plainKeys := false, apart := false, laid := [("unicode/utf8.acceptRanges", laid_unicode_utf8_acceptRanges), ("unicode/utf8.first", laid_unicode_utf8_first)] }
def FnExactTurnGridSaid : Prop := fnExactTurnGridRow.holds Tryd.pinned (OpenSpec.ofChange fnExactTurnGridSpec)

/-- ITS FALSE NEIGHBOUR: 'it returns false'. Refute it at one input. -/
def fnExactTurnGridWrong : ChangeSpec := { name := "fnExactTurnGrid", fn := fun _ => fun
  | [d1, d2] => { results := [.lit (.bool false)], args := [d1, d2] }
  | _ => none }
def FnExactTurnGridWrongFalsely : Prop := fnExactTurnGridRow.holds Tryd.pinned (OpenSpec.ofChange fnExactTurnGridWrong)

/-- 'laws.FnExactCellsOf': WHATEVER THE INPUT: true; the input reads as it did. -/
def fnExactCellsOfSpec : ChangeSpec := { name := "fnExactCellsOf", fn := fun _ => fun
  | [d1, d2] => { results := [.lit (.bool true)], args := [d1, d2] }
  | _ => none }
def fnExactCellsOfRow : OpenClaim := { program := "ytphaebmhhgkkcaadoor", sum := "8bdf0c8969aa6d545470869ca554891a029155d31612de2fdf0aa2ab2ab138c2", func := "loop.example/g01055/laws.FnExactCellsOf", spec := "fnExactCellsOf", inPlace := ["internal/bytealg.IndexByteString", "internal/bytealg.IndexString"], named := ["unicode/utf8.first", "unicode/utf8.acceptRanges", "internal/bytealg.MaxLen"], plainKeys := false, apart := false, laid := [("unicode/utf8.acceptRanges", laid_unicode_utf8_acceptRanges), ("unicode/utf8.first", laid_unicode_utf8_first)] }
def FnExactCellsOfSaid : Prop := fnExactCellsOfRow.holds Tryd.pinned (OpenSpec.ofChange fnExactCellsOfSpec)

/-- ITS FALSE NEIGHBOUR: 'it returns false'. Refute it at one input. -/
def fnExactCellsOfWrong : ChangeSpec := { name := "fnExactCellsOf", fn := fun _ => fun
  | [d1, d2] => { results := [.lit (.bool false)], args := [d1, d2] }
  | _ => none }
def FnExactCellsOfWrongFalsely : Prop := fnExactCellsOfRow.holds Tryd.pinned (OpenSpec.ofChange fnExactCellsOfWrong)

/-- 'laws.FnExactGreatestLand': WHATEVER THE INPUT: true; the input reads as it did. -/
def fnExactGreatestLandSpec : ChangeSpec := { name := "fnExactGreatestLand", fn := fun _ => fun
  | [d] => { results := [.lit (.bool true)], args := [d] }
  | _ => none }
def fnExactGreatestLandRow : OpenClaim := { program := "ytphaebmhhgkkcaadoor", sum := "8bdf0c8969aa6d545470869ca554891a029155d31612de2fdf0aa2ab2ab138c2", func := "loop.example/g01055/laws.FnExactGreatestLand", spec := "fnExactGreatestLand", inPlace := ["internal/bytealg.IndexByteString", "internal/bytealg.IndexString"], named := ["unicode/utf8.first", "unicode/utf8.acceptRanges", "internal/bytealg.MaxLen"], plainKeys := false, apart := false, laid := [("unicode/utf8.acceptRanges", laid_unicode_utf8_acceptRanges), ("unicode/utf8.first", laid_unicode_utf8_first)] }
def FnExactGreatestLandSaid : Prop := fnExactGreatestLandRow.holds Tryd.pinned (OpenSpec.ofChange fnExactGreatestLandSpec)

/-- ITS FALSE NEIGHBOUR: 'it returns false'. Refute it at one input. -/
def fnExactGreatestLandWrong : ChangeSpec := { name := "fnExactGreatestLand", fn := fun _ => fun
  | [d] => { results := [.lit (.bool false)], args := [d] }
  | _ => none }
def FnExactGreatestLandWrongFalsely : Prop := fnExactGreatestLandRow.holds Tryd.pinned (OpenSpec.ofChange fnExactGreatestLandWrong)

/-- 'laws.FnExactSeasOf': WHATEVER THE INPUT: true; the input reads as it did. -/
def fnExactSeasOfSpec : ChangeSpec := { name := "fnExactSeasOf", fn := fun _ => fun
  | [d] => { results := [.lit (.bool true)], args := [d] }
  | _ => none }
def fnExactSeasOfRow : OpenClaim := { program := "ytphaebmhhgkkcaadoor", sum := "8bdf0c8969aa6d545470869ca554891a029155d31612de2fdf0aa2ab2ab138c2", func := "loop.example/g01055/laws.FnExactSeasOf", spec := "fnExactSeasOf", inPlace := ["internal/bytealg.IndexByteString", "internal/bytealg.IndexString"], named := ["unicode/utf8.first", "unicode/utf8.acceptRanges", "internal/bytealg.MaxLen"], plainKeys := false, apart := false, laid := [("unicode/utf8.acceptRanges", laid_unicode_utf8_acceptRanges), ("unicode/utf8.first", laid_unicode_utf8_first)] }
def FnExactSeasOfSaid : Prop := fnExactSeasOfRow.holds Tryd.pinned (OpenSpec.ofChange fnExactSeasOfSpec)

/-- ITS FALSE NEIGHBOUR: 'it returns false'. Refute it at one input. -/
def fnExactSeasOfWrong : ChangeSpec := { name := "fnExactSeasOf", fn := fun _ => fun
  | [d] => { results := [.lit (.bool false)], args := [d] }
  | _ => none }
def FnExactSeasOfWrongFalsely : Prop := fnExactSeasOfRow.holds Tryd.pinned (OpenSpec.ofChange fnExactSeasOfWrong)

/-- 'laws.FnExactLandlockedOf': WHATEVER THE INPUT: true; the input reads as it did. -/
def fnExactLandlockedOfSpec : ChangeSpec := { name := "fnExactLandlockedOf", fn := fun _ => fun
  | [d] => { results := [.lit (.bool true)], args := [d] }
  | _ => none }
def fnExactLandlockedOfRow : OpenClaim := { program := "ytphaebmhhgkkcaadoor", sum := "8bdf0c8969aa6d545470869ca554891a029155d31612de2fdf0aa2ab2ab138c2", func := "loop.example/g01055/laws.FnExactLandlockedOf", spec := "fnExactLandlockedOf", inPlace := ["internal/bytealg.IndexByteString", "internal/bytealg.IndexString"], named := ["unicode/utf8.first", "unicode/utf8.acceptRanges", "internal/bytealg.MaxLen"], plainKeys := false, apart := false, laid := [("unicode/utf8.acceptRanges", laid_unicode_utf8_acceptRanges), ("unicode/utf8.first", laid_unicode_utf8_first)] }
def FnExactLandlockedOfSaid : Prop := fnExactLandlockedOfRow.holds Tryd.pinned (OpenSpec.ofChange fnExactLandlockedOfSpec)

/-- ITS FALSE NEIGHBOUR: 'it returns false'. Refute it at one input. -/
def fnExactLandlockedOfWrong : ChangeSpec := { name := "fnExactLandlockedOf", fn := fun _ => fun
  | [d] => { results := [.lit (.bool false)], args := [d] }
  | _ => none }
def FnExactLandlockedOfWrongFalsely : Prop := fnExactLandlockedOfRow.holds Tryd.pinned (OpenSpec.ofChange fnExactLandlockedOfWrong)

/-- 'laws.FnExactCoastOf': WHATEVER THE INPUT: true; the input reads as it did. -/
def fnExactCoastOfSpec : ChangeSpec := { name := "fnExactCoastOf", fn := fun _ => fun
  | [d1, d2] => { results := [.lit (.bool true)], args := [d1, d2] }
  | _ => none }
def fnExactCoastOfRow : OpenClaim := { program := "ytphaebmhhgkkcaadoor", sum := "8bdf0c8969aa6d545470869ca554891a029155d31612de2fdf0aa2ab2ab138c2", func := "loop.example/g01055/laws.FnExactCoastOf", spec := "fnExactCoastOf", inPlace := ["internal/bytealg.IndexByteString", "internal/bytealg.IndexString"], named := ["unicode/utf8.first", "unicode/utf8.acceptRanges", "internal/bytealg.MaxLen"], plainKeys := false, apart := false, laid := [("unicode/utf8.acceptRanges", laid_unicode_utf8_acceptRanges), ("unicode/utf8.first", laid_unicode_utf8_first)] }
def FnExactCoastOfSaid : Prop := fnExactCoastOfRow.holds Tryd.pinned (OpenSpec.ofChange fnExactCoastOfSpec)

/-- ITS FALSE NEIGHBOUR: 'it returns false'. Refute it at one input. -/
def fnExactCoastOfWrong : ChangeSpec := { name := "fnExactCoastOf", fn := fun _ => fun
  | [d1, d2] => { results := [.lit (.bool false)], args := [d1, d2] }
  | _ => none }
def FnExactCoastOfWrongFalsely : Prop := fnExactCoastOfRow.holds Tryd.pinned (OpenSpec.ofChange fnExactCoastOfWrong)

/-- 'laws.FnExactIslandsOf': WHATEVER THE INPUT: true; the input reads as it did. -/
def fnExactIslandsOfSpec : ChangeSpec := { name := "fnExactIslandsOf", fn := fun _ => fun
  | [d1, d2] => { results := [.lit (.bool true)], args := [d1, d2] }
  | _ => none }
def fnExactIslandsOfRow : OpenClaim := { program := "ytphaebmhhgkkcaadoor", sum := "8bdf0c8969aa6d545470869ca554891a029155d31612de2fdf0aa2ab2ab138c2", func := "loop.example/g01055/laws.FnExactIslandsOf", spec := "fnExactIslandsOf", inPlace := ["internal/bytealg.IndexByteString", "internal/bytealg.IndexString"], named := ["unicode/utf8.first", "unicode/utf8.acceptRanges", "internal/bytealg.MaxLen"], plainKeys := false, apart := false, laid := [("unicode/utf8.acceptRanges", laid_unicode_utf8_acceptRanges), ("unicode/utf8.first", laid_unicode_utf8_first)] }
def FnExactIslandsOfSaid : Prop := fnExactIslandsOfRow.holds Tryd.pinned (OpenSpec.ofChange fnExactIslandsOfSpec)

/-- ITS FALSE NEIGHBOUR: 'it returns false'. Refute it at one input. -/
def fnExactIslandsOfWrong : ChangeSpec := { name := "fnExactIslandsOf", fn := fun _ => fun
  | [d1, d2] => { results := [.lit (.bool false)], args := [d1, d2] }
  | _ => none }
def FnExactIslandsOfWrongFalsely : Prop := fnExactIslandsOfRow.holds Tryd.pinned (OpenSpec.ofChange fnExactIslandsOfWrong)

/- THE SECOND FORM. 'bulk': how many values and letters a reading holds, each counted each time it is reached (what is shared counts as often as it is met; a slice's spare places count too). A statement '..UptoSaid' is the law's where the arguments, and the package variables that the reading takes, are together of bulk at most 1048576: NARROWER than '..Said'. Prove '..Said' where nothing that the law and all that it calls make is longer than what came in: it says more and counts as full. Else prove '..UptoSaid'. A law counts once. -/
mutual
def uptoBulk {H : Type} : DataW H → Nat
  | .lit (.string bytes) => bytes.length + 1
  | .lit _ => 1
  | .nil => 1
  | .ptr d => uptoBulk d + 1
  | .slice elems spare => uptoBulkAll elems + uptoBulkAll spare + 1
  | .agg parts => uptoBulkAll parts + 1
  | .iface _ d => uptoBulk d + 1
  | .map entries => uptoBulkEntries entries + 1
  | .held _ => 1
def uptoBulkAll {H : Type} : List (DataW H) → Nat
  | [] => 0
  | d :: r => uptoBulk d + uptoBulkAll r
def uptoBulkEntries {H : Type} : List (Lit × DataW H) → Nat
  | [] => 0
  | x :: r => uptoBulkEntry x + uptoBulkEntries r
def uptoBulkEntry {H : Type} : Lit × DataW H → Nat
  | (.string bytes, d) => bytes.length + uptoBulk d + 1
  | (_, d) => uptoBulk d + 1
 end
def uptoSmall : (H : Type) → List (DataW H) → Bool := fun _ ds => decide (uptoBulkAll ds ≤ 1048576)
def OpenSpec.upto (s : _root_.Go.ChangeSpec) : _root_.Go.OpenSpec := { _root_.Go.OpenSpec.ofChange s with cond := some uptoSmall }

/-- 'laws.FnExactValidGrid', WHERE WHAT IT READS IS OF BULK AT MOST 1048576: true; the input reads as it did. -/
def fnExactValidGridUptoRow : OpenClaim := { program := "ytphaebmhhgkkcaadoor", sum := "8bdf0c8969aa6d545470869ca554891a029155d31612de2fdf0aa2ab2ab138c2", func := "loop.example/g01055/laws.FnExactValidGrid", spec := "fnExactValidGrid", inPlace := ["internal/bytealg.IndexByteString", "internal/bytealg.IndexString"], named := ["unicode/utf8.first", "unicode/utf8.acceptRanges", "internal/bytealg.MaxLen"], plainKeys := false, apart := false, laid := [("unicode/utf8.acceptRanges", laid_unicode_utf8_acceptRanges), ("unicode/utf8.first", laid_unicode_utf8_first)], narrowed := true }
def FnExactValidGridUptoSaid : Prop := fnExactValidGridUptoRow.holds Tryd.pinned (OpenSpec.upto fnExactValidGridSpec)

/-- 'laws.FnExactLandsOf', WHERE WHAT IT READS IS OF BULK AT MOST 1048576: true; the input reads as it did. -/
def fnExactLandsOfUptoRow : OpenClaim := { program := "ytphaebmhhgkkcaadoor", sum := "8bdf0c8969aa6d545470869ca554891a029155d31612de2fdf0aa2ab2ab138c2", func := "loop.example/g01055/laws.FnExactLandsOf", spec := "fnExactLandsOf", inPlace := ["internal/bytealg.IndexByteString", "internal/bytealg.IndexString"], named := ["unicode/utf8.first", "unicode/utf8.acceptRanges", "internal/bytealg.MaxLen"], plainKeys := false, apart := false, laid := [("unicode/utf8.acceptRanges", laid_unicode_utf8_acceptRanges), ("unicode/utf8.first", laid_unicode_utf8_first)], narrowed := true }
def FnExactLandsOfUptoSaid : Prop := fnExactLandsOfUptoRow.holds Tryd.pinned (OpenSpec.upto fnExactLandsOfSpec)

/-- 'laws.FnExactTurnGrid', WHERE WHAT IT READS IS OF BULK AT MOST 1048576: true; the input reads as it did. -/
def fnExactTurnGridUptoRow : OpenClaim := { program := "ytphaebmhhgkkcaadoor", sum := "8bdf0c8969aa6d545470869ca554891a029155d31612de2fdf0aa2ab2ab138c2", func := "loop.example/g01055/laws.FnExactTurnGrid", spec := "fnExactTurnGrid", inPlace := ["internal/bytealg.IndexByteString", "internal/bytealg.IndexString"], named := ["unicode/utf8.first", "unicode/utf8.acceptRanges", "internal/bytealg.MaxLen"], plainKeys := false, apart := false, laid := [("unicode/utf8.acceptRanges", laid_unicode_utf8_acceptRanges), ("unicode/utf8.first", laid_unicode_utf8_first)], narrowed := true }
def FnExactTurnGridUptoSaid : Prop := fnExactTurnGridUptoRow.holds Tryd.pinned (OpenSpec.upto fnExactTurnGridSpec)

/-- 'laws.FnExactCellsOf', WHERE WHAT IT READS IS OF BULK AT MOST 1048576: true; the input reads as it did. -/
def fnExactCellsOfUptoRow : OpenClaim := { program := "ytphaebmhhgkkcaadoor", sum := "8bdf0c8969aa6d545470869ca554891a029155d31612de2fdf0aa2ab2ab138c2", func := "loop.example/g01055/laws.FnExactCellsOf", spec := "fnExactCellsOf", inPlace := ["internal/bytealg.IndexByteString", "internal/bytealg.IndexString"], named := ["unicode/utf8.first", "unicode/utf8.acceptRanges", "internal/bytealg.MaxLen"], plainKeys := false, apart := false, laid := [("unicode/utf8.acceptRanges", laid_unicode_utf8_acceptRanges), ("unicode/utf8.first", laid_unicode_utf8_first)], narrowed := true }
def FnExactCellsOfUptoSaid : Prop := fnExactCellsOfUptoRow.holds Tryd.pinned (OpenSpec.upto fnExactCellsOfSpec)

/-- 'laws.FnExactGreatestLand', WHERE WHAT IT READS IS OF BULK AT MOST 1048576: true; the input reads as it did. -/
def fnExactGreatestLandUptoRow : OpenClaim := { program := "ytphaebmhhgkkcaadoor", sum := "8bdf0c8969aa6d545470869ca554891a029155d31612de2fdf0aa2ab2ab138c2", func := "loop.example/g01055/laws.FnExactGreatestLand", spec := "fnExactGreatestLand", inPlace := ["internal/bytealg.IndexByteString", "internal/bytealg.IndexString"], named := ["unicode/utf8.first", "unicode/utf8.acceptRanges", "internal/bytealg.MaxLen"], plainKeys := false, apart := false, laid := [("unicode/utf8.acceptRanges", laid_unicode_utf8_acceptRanges), ("unicode/utf8.first", laid_unicode_utf8_first)], narrowed := true }
def FnExactGreatestLandUptoSaid : Prop := fnExactGreatestLandUptoRow.holds Tryd.pinned (OpenSpec.upto fnExactGreatestLandSpec)

/-- 'laws.FnExactSeasOf', WHERE WHAT IT READS IS OF BULK AT MOST 1048576: true; the input reads as it did. -/
def fnExactSeasOfUptoRow : OpenClaim := { program := "ytphaebmhhgkkcaadoor", sum := "8bdf0c8969aa6d545470869ca554891a029155d31612de2fdf0aa2ab2ab138c2", func := "loop.example/g01055/laws.FnExactSeasOf", spec := "fnExactSeasOf", inPlace := ["internal/bytealg.IndexByteString", "internal/bytealg.IndexString"], named := ["unicode/utf8.first", "unicode/utf8.acceptRanges", "internal/bytealg.MaxLen"], plainKeys := false, apart := false, laid := [("unicode/utf8.acceptRanges", laid_unicode_utf8_acceptRanges), ("unicode/utf8.first", laid_unicode_utf8_first)], narrowed := true }
def FnExactSeasOfUptoSaid : Prop := fnExactSeasOfUptoRow.holds Tryd.pinned (OpenSpec.upto fnExactSeasOfSpec)

/-- 'laws.FnExactLandlockedOf', WHERE WHAT IT READS IS OF BULK AT MOST 1048576: true; the input reads as it did. -/
def fnExactLandlockedOfUptoRow : OpenClaim := { program := "ytphaebmhhgkkcaadoor", sum := "8bdf0c8969aa6d545470869ca554891a029155d31612de2fdf0aa2ab2ab138c2", func := "loop.example/g01055/laws.FnExactLandlockedOf", spec := "fnExactLandlockedOf", inPlace := ["internal/bytealg.IndexByteString", "internal/bytealg.IndexString"], named := ["unicode/utf8.first", "unicode/utf8.acceptRanges", "internal/bytealg.MaxLen"], plainKeys := false, apart := false, laid := [("unicode/utf8.acceptRanges", laid_unicode_utf8_acceptRanges), ("unicode/utf8.first", laid_unicode_utf8_first)], narrowed := true }
def FnExactLandlockedOfUptoSaid : Prop := fnExactLandlockedOfUptoRow.holds Tryd.pinned (OpenSpec.upto fnExactLandlockedOfSpec)

/-- 'laws.FnExactCoastOf', WHERE WHAT IT READS IS OF BULK AT MOST 1048576: true; the input reads as it did. -/
def fnExactCoastOfUptoRow : OpenClaim := { program := "ytphaebmhhgkkcaadoor", sum := "8bdf0c8969aa6d545470869ca554891a029155d31612de2fdf0aa2ab2ab138c2", func := "loop.example/g01055/laws.FnExactCoastOf", spec := "fnExactCoastOf", inPlace := ["internal/bytealg.IndexByteString", "internal/bytealg.IndexString"], named := ["unicode/utf8.first", "unicode/utf8.acceptRanges", "internal/bytealg.MaxLen"], plainKeys := false, apart := false, laid := [("unicode/utf8.acceptRanges", laid_unicode_utf8_acceptRanges), ("unicode/utf8.first", laid_unicode_utf8_first)], narrowed := true }
def FnExactCoastOfUptoSaid : Prop := fnExactCoastOfUptoRow.holds Tryd.pinned (OpenSpec.upto fnExactCoastOfSpec)

/-- 'laws.FnExactIslandsOf', WHERE WHAT IT READS IS OF BULK AT MOST 1048576: true; the input reads as it did. -/
def fnExactIslandsOfUptoRow : OpenClaim := { program := "ytphaebmhhgkkcaadoor", sum := "8bdf0c8969aa6d545470869ca554891a029155d31612de2fdf0aa2ab2ab138c2", func := "loop.example/g01055/laws.FnExactIslandsOf", spec := "fnExactIslandsOf", inPlace := ["internal/bytealg.IndexByteString", "internal/bytealg.IndexString"], named := ["unicode/utf8.first", "unicode/utf8.acceptRanges", "internal/bytealg.MaxLen"], plainKeys := false, apart := false, laid := [("unicode/utf8.acceptRanges", laid_unicode_utf8_acceptRanges), ("unicode/utf8.first", laid_unicode_utf8_first)], narrowed := true }
def FnExactIslandsOfUptoSaid : Prop := fnExactIslandsOfUptoRow.holds Tryd.pinned (OpenSpec.upto fnExactIslandsOfSpec)

end Rows
end Go.Proofs.YtphaebmhhgkkcaaDoor
