/-
  DERIVED. GIVEN WITH THE SEED: THE CARDS: each row of YtphaebmhhgkkcaaDoorRows.lean that lists a variable, with what it lists TIED to the program's text (the seventh form; the later family's looks); each row that meets fmt, with fmt's text TOLD by the authors' own Lean function (tested against real Go, not proved from fmt's source: count such statements apart). THE CARD IS WHAT COUNTS. Prove the row's statement (the work); the ties are given (YtphaebmhhgkkcaaDoorTie.lean); close each card by the builder's one call (the guide's Derived/Test/ToyasCard.lean, 'card_holds'). Laid BY PROGRAM, IN A SANDBOX (cutbox-door.mjs). By AI agents, Wed Nov 11 2026. No macro, syntax, notation, axiom, sorry.
-/
import Derived.Test.YtphaebmhhgkkcaaDoorRows
import GoSem.ClaimSeven
namespace Go.Proofs.YtphaebmhhgkkcaaDoor
namespace Rows

/-- THE TIED CARD OF 'laws.FnExactValidGrid'. -/
def fnExactValidGridCard : Claim7 := { stood := { row := fnExactValidGridRow, standIns := [], harness := (true, "feddd252f494c96207d78a3632eba4bb4cd5f7265abfc6c3fb21bd531f716604"), looks := false }, kinds := [], alts := [], laidByText := true, laidKinds := [.data, .pinned], laidTests := true, laidLooks := .later }
def FnExactValidGridCardSaid : Prop := Claim7.holds Tryd.pinned (.plain (OpenSpec.ofChange fnExactValidGridSpec)) fnExactValidGridCard

/-- THE TIED CARD OF 'laws.FnExactLandsOf'. -/
def fnExactLandsOfCard : Claim7 := { stood := { row := fnExactLandsOfRow, standIns := [], harness := (true, "feddd252f494c96207d78a3632eba4bb4cd5f7265abfc6c3fb21bd531f716604"), looks := false }, kinds := [], alts := [], laidByText := true, laidKinds := [.data, .pinned], laidTests := true, laidLooks := .later }
def FnExactLandsOfCardSaid : Prop := Claim7.holds Tryd.pinned (.plain (OpenSpec.ofChange fnExactLandsOfSpec)) fnExactLandsOfCard

/-- THE TIED CARD OF 'laws.FnExactTurnGrid'. -/
def fnExactTurnGridCard : Claim7 := { stood := { row := fnExactTurnGridRow, standIns := [], harness := (true, "feddd252f494c96207d78a3632eba4bb4cd5f7265abfc6c3fb21bd531f716604"), looks := false }, kinds := [], alts := [], laidByText := true, laidKinds := [.data, .pinned], laidTests := true, laidLooks := .later }
def FnExactTurnGridCardSaid : Prop := Claim7.holds Tryd.pinned (.plain (OpenSpec.ofChange fnExactTurnGridSpec)) fnExactTurnGridCard

/-- THE TIED CARD OF 'laws.FnExactCellsOf'. -/
def fnExactCellsOfCard : Claim7 := { stood := { row := fnExactCellsOfRow, standIns := [], harness := (true, "feddd252f494c96207d78a3632eba4bb4cd5f7265abfc6c3fb21bd531f716604"), looks := false }, kinds := [], alts := [], laidByText := true, laidKinds := [.data, .pinned], laidTests := true, laidLooks := .later }
def FnExactCellsOfCardSaid : Prop := Claim7.holds Tryd.pinned (.plain (OpenSpec.ofChange fnExactCellsOfSpec)) fnExactCellsOfCard

/-- THE TIED CARD OF 'laws.FnExactGreatestLand'. -/
def fnExactGreatestLandCard : Claim7 := { stood := { row := fnExactGreatestLandRow, standIns := [], harness := (true, "feddd252f494c96207d78a3632eba4bb4cd5f7265abfc6c3fb21bd531f716604"), looks := false }, kinds := [], alts := [], laidByText := true, laidKinds := [.data, .pinned], laidTests := true, laidLooks := .later }
def FnExactGreatestLandCardSaid : Prop := Claim7.holds Tryd.pinned (.plain (OpenSpec.ofChange fnExactGreatestLandSpec)) fnExactGreatestLandCard

/-- THE TIED CARD OF 'laws.FnExactSeasOf'. -/
def fnExactSeasOfCard : Claim7 := { stood := { row := fnExactSeasOfRow, standIns := [], harness := (true, "feddd252f494c96207d78a3632eba4bb4cd5f7265abfc6c3fb21bd531f716604"), looks := false }, kinds := [], alts := [], laidByText := true, laidKinds := [.data, .pinned], laidTests := true, laidLooks := .later }
def FnExactSeasOfCardSaid : Prop := Claim7.holds Tryd.pinned (.plain (OpenSpec.ofChange fnExactSeasOfSpec)) fnExactSeasOfCard

/-- THE TIED CARD OF 'laws.FnExactLandlockedOf'. -/
def fnExactLandlockedOfCard : Claim7 := { stood := { row := fnExactLandlockedOfRow, standIns := [], harness := (true, "feddd252f494c96207d78a3632eba4bb4cd5f7265abfc6c3fb21bd531f716604"), looks := false }, kinds := [], alts := [], laidByText := true, laidKinds := [.data, .pinned], laidTests := true, laidLooks := .later }
def FnExactLandlockedOfCardSaid : Prop := Claim7.holds Tryd.pinned (.plain (OpenSpec.ofChange fnExactLandlockedOfSpec)) fnExactLandlockedOfCard

/-- THE TIED CARD OF 'laws.FnExactCoastOf'. -/
def fnExactCoastOfCard : Claim7 := { stood := { row := fnExactCoastOfRow, standIns := [], harness := (true, "feddd252f494c96207d78a3632eba4bb4cd5f7265abfc6c3fb21bd531f716604"), looks := false }, kinds := [], alts := [], laidByText := true, laidKinds := [.data, .pinned], laidTests := true, laidLooks := .later }
def FnExactCoastOfCardSaid : Prop := Claim7.holds Tryd.pinned (.plain (OpenSpec.ofChange fnExactCoastOfSpec)) fnExactCoastOfCard

/-- THE TIED CARD OF 'laws.FnExactIslandsOf'. -/
def fnExactIslandsOfCard : Claim7 := { stood := { row := fnExactIslandsOfRow, standIns := [], harness := (true, "feddd252f494c96207d78a3632eba4bb4cd5f7265abfc6c3fb21bd531f716604"), looks := false }, kinds := [], alts := [], laidByText := true, laidKinds := [.data, .pinned], laidTests := true, laidLooks := .later }
def FnExactIslandsOfCardSaid : Prop := Claim7.holds Tryd.pinned (.plain (OpenSpec.ofChange fnExactIslandsOfSpec)) fnExactIslandsOfCard

/-- THE SECOND FORM's CARD OF 'laws.FnExactValidGrid'. -/
def fnExactValidGridUptoCard : Claim7 := { stood := { row := fnExactValidGridUptoRow, standIns := [], harness := (true, "feddd252f494c96207d78a3632eba4bb4cd5f7265abfc6c3fb21bd531f716604"), looks := false }, kinds := [], alts := [], laidByText := true, laidKinds := [.data, .pinned], laidTests := true, laidLooks := .later }
def FnExactValidGridUptoCardSaid : Prop := Claim7.holds Tryd.pinned (.plain (OpenSpec.upto fnExactValidGridSpec)) fnExactValidGridUptoCard

/-- THE SECOND FORM's CARD OF 'laws.FnExactLandsOf'. -/
def fnExactLandsOfUptoCard : Claim7 := { stood := { row := fnExactLandsOfUptoRow, standIns := [], harness := (true, "feddd252f494c96207d78a3632eba4bb4cd5f7265abfc6c3fb21bd531f716604"), looks := false }, kinds := [], alts := [], laidByText := true, laidKinds := [.data, .pinned], laidTests := true, laidLooks := .later }
def FnExactLandsOfUptoCardSaid : Prop := Claim7.holds Tryd.pinned (.plain (OpenSpec.upto fnExactLandsOfSpec)) fnExactLandsOfUptoCard

/-- THE SECOND FORM's CARD OF 'laws.FnExactTurnGrid'. -/
def fnExactTurnGridUptoCard : Claim7 := { stood := { row := fnExactTurnGridUptoRow, standIns := [], harness := (true, "feddd252f494c96207d78a3632eba4bb4cd5f7265abfc6c3fb21bd531f716604"), looks := false }, kinds := [], alts := [], laidByText := true, laidKinds := [.data, .pinned], laidTests := true, laidLooks := .later }
def FnExactTurnGridUptoCardSaid : Prop := Claim7.holds Tryd.pinned (.plain (OpenSpec.upto fnExactTurnGridSpec)) fnExactTurnGridUptoCard

/-- THE SECOND FORM's CARD OF 'laws.FnExactCellsOf'. -/
def fnExactCellsOfUptoCard : Claim7 := { stood := { row := fnExactCellsOfUptoRow, standIns := [], harness := (true, "feddd252f494c96207d78a3632eba4bb4cd5f7265abfc6c3fb21bd531f716604"), looks := false }, kinds := [], alts := [], laidByText := true, laidKinds := [.data, .pinned], laidTests := true, laidLooks := .later }
def FnExactCellsOfUptoCardSaid : Prop := Claim7.holds Tryd.pinned (.plain (OpenSpec.upto fnExactCellsOfSpec)) fnExactCellsOfUptoCard

/-- THE SECOND FORM's CARD OF 'laws.FnExactGreatestLand'. -/
def fnExactGreatestLandUptoCard : Claim7 := { stood := { row := fnExactGreatestLandUptoRow, standIns := [], harness := (true, "feddd252f494c96207d78a3632eba4bb4cd5f7265abfc6c3fb21bd531f716604"), looks := false }, kinds := [], alts := [], laidByText := true, laidKinds := [.data, .pinned], laidTests := true, laidLooks := .later }
def FnExactGreatestLandUptoCardSaid : Prop := Claim7.holds Tryd.pinned (.plain (OpenSpec.upto fnExactGreatestLandSpec)) fnExactGreatestLandUptoCard

/-- THE SECOND FORM's CARD OF 'laws.FnExactSeasOf'. -/
def fnExactSeasOfUptoCard : Claim7 := { stood := { row := fnExactSeasOfUptoRow, standIns := [], harness := (true, "feddd252f494c96207d78a3632eba4bb4cd5f7265abfc6c3fb21bd531f716604"), looks := false }, kinds := [], alts := [], laidByText := true, laidKinds := [.data, .pinned], laidTests := true, laidLooks := .later }
def FnExactSeasOfUptoCardSaid : Prop := Claim7.holds Tryd.pinned (.plain (OpenSpec.upto fnExactSeasOfSpec)) fnExactSeasOfUptoCard

/-- THE SECOND FORM's CARD OF 'laws.FnExactLandlockedOf'. -/
def fnExactLandlockedOfUptoCard : Claim7 := { stood := { row := fnExactLandlockedOfUptoRow, standIns := [], harness := (true, "feddd252f494c96207d78a3632eba4bb4cd5f7265abfc6c3fb21bd531f716604"), looks := false }, kinds := [], alts := [], laidByText := true, laidKinds := [.data, .pinned], laidTests := true, laidLooks := .later }
def FnExactLandlockedOfUptoCardSaid : Prop := Claim7.holds Tryd.pinned (.plain (OpenSpec.upto fnExactLandlockedOfSpec)) fnExactLandlockedOfUptoCard

/-- THE SECOND FORM's CARD OF 'laws.FnExactCoastOf'. -/
def fnExactCoastOfUptoCard : Claim7 := { stood := { row := fnExactCoastOfUptoRow, standIns := [], harness := (true, "feddd252f494c96207d78a3632eba4bb4cd5f7265abfc6c3fb21bd531f716604"), looks := false }, kinds := [], alts := [], laidByText := true, laidKinds := [.data, .pinned], laidTests := true, laidLooks := .later }
def FnExactCoastOfUptoCardSaid : Prop := Claim7.holds Tryd.pinned (.plain (OpenSpec.upto fnExactCoastOfSpec)) fnExactCoastOfUptoCard

/-- THE SECOND FORM's CARD OF 'laws.FnExactIslandsOf'. -/
def fnExactIslandsOfUptoCard : Claim7 := { stood := { row := fnExactIslandsOfUptoRow, standIns := [], harness := (true, "feddd252f494c96207d78a3632eba4bb4cd5f7265abfc6c3fb21bd531f716604"), looks := false }, kinds := [], alts := [], laidByText := true, laidKinds := [.data, .pinned], laidTests := true, laidLooks := .later }
def FnExactIslandsOfUptoCardSaid : Prop := Claim7.holds Tryd.pinned (.plain (OpenSpec.upto fnExactIslandsOfSpec)) fnExactIslandsOfUptoCard
end Rows
end Go.Proofs.YtphaebmhhgkkcaaDoor
