/-
  DERIVED. GIVEN WITH THE SEED: THE CARDS: each row of YtacbacbmomhjoaaDoorRows.lean that lists a variable, with what it lists TIED to the program's text (the seventh form; the later family's looks); each row that meets fmt, with fmt's text TOLD by the authors' own Lean function (tested against real Go, not proved from fmt's source: count such statements apart). THE CARD IS WHAT COUNTS. Prove the row's statement (the work); the ties are given (YtacbacbmomhjoaaDoorTie.lean); close each card by the builder's one call (the guide's Derived/Test/ToyasCard.lean, 'card_holds'). Laid BY PROGRAM, IN A SANDBOX (cutbox-door.mjs). By AI agents, Wed Nov 11 2026. No macro, syntax, notation, axiom, sorry.
-/
import Derived.Test.YtacbacbmomhjoaaDoorRows
import GoSem.ClaimSeven
namespace Go.Proofs.YtacbacbmomhjoaaDoor
namespace Rows

/-- THE TIED CARD OF 'laws.FnExactSeasOf'. -/
def fnExactSeasOfCard : Claim7 := { stood := { row := fnExactSeasOfRow, standIns := [], harness := (true, "e8ec4ffcf333fe40935ffdf8e8e545209ee662238e20908c76c343346c030335"), looks := false }, kinds := [], alts := [], laidByText := true, laidKinds := [.data, .pinned], laidTests := true, laidLooks := .later }
def FnExactSeasOfCardSaid : Prop := Claim7.holds Tryd.pinned (.plain (OpenSpec.ofChange fnExactSeasOfSpec)) fnExactSeasOfCard

/-- THE TIED CARD OF 'laws.FnExactIslandsOf'. -/
def fnExactIslandsOfCard : Claim7 := { stood := { row := fnExactIslandsOfRow, standIns := [], harness := (true, "e8ec4ffcf333fe40935ffdf8e8e545209ee662238e20908c76c343346c030335"), looks := false }, kinds := [], alts := [], laidByText := true, laidKinds := [.data, .pinned], laidTests := true, laidLooks := .later }
def FnExactIslandsOfCardSaid : Prop := Claim7.holds Tryd.pinned (.plain (OpenSpec.ofChange fnExactIslandsOfSpec)) fnExactIslandsOfCard

/-- THE SECOND FORM's CARD OF 'laws.FnExactSeasOf'. -/
def fnExactSeasOfUptoCard : Claim7 := { stood := { row := fnExactSeasOfUptoRow, standIns := [], harness := (true, "e8ec4ffcf333fe40935ffdf8e8e545209ee662238e20908c76c343346c030335"), looks := false }, kinds := [], alts := [], laidByText := true, laidKinds := [.data, .pinned], laidTests := true, laidLooks := .later }
def FnExactSeasOfUptoCardSaid : Prop := Claim7.holds Tryd.pinned (.plain (OpenSpec.upto fnExactSeasOfSpec)) fnExactSeasOfUptoCard

/-- THE SECOND FORM's CARD OF 'laws.FnExactIslandsOf'. -/
def fnExactIslandsOfUptoCard : Claim7 := { stood := { row := fnExactIslandsOfUptoRow, standIns := [], harness := (true, "e8ec4ffcf333fe40935ffdf8e8e545209ee662238e20908c76c343346c030335"), looks := false }, kinds := [], alts := [], laidByText := true, laidKinds := [.data, .pinned], laidTests := true, laidLooks := .later }
def FnExactIslandsOfUptoCardSaid : Prop := Claim7.holds Tryd.pinned (.plain (OpenSpec.upto fnExactIslandsOfSpec)) fnExactIslandsOfUptoCard
end Rows
end Go.Proofs.YtacbacbmomhjoaaDoor
