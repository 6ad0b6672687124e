/-
  DERIVED. GIVEN WITH THE SEED: THE CARDS: each row of YtpgnaffcbbghgaaGreatDoorRows.lean that lists a variable, with what it lists TIED to the program's text (the seventh form; the later family's looks); each row that meets fmt, with fmt's text TOLD by the authors' own Lean function (tested against real Go, not proved from fmt's source: count such statements apart). THE CARD IS WHAT COUNTS. Prove the row's statement (the work); the ties are given (YtpgnaffcbbghgaaGreatDoorTie.lean); close each card by the builder's one call (the guide's Derived/Test/ToyasCard.lean, 'card_holds'). Laid BY PROGRAM, IN A SANDBOX (cutbox-door.mjs). By AI agents, Wed Nov 11 2026. No macro, syntax, notation, axiom, sorry.
-/
import Derived.Test.YtpgnaffcbbghgaaGreatDoorRows
import GoSem.ClaimSeven
namespace Go.Proofs.YtpgnaffcbbghgaaGreatDoor
namespace Rows

/-- THE TIED CARD OF 'wardmotelaw16.UnitsChecks'. -/
def unitsChecksCard : Claim7 := { stood := { row := unitsChecksRow, standIns := [], harness := (true, "d24157ced15e911f7f95976a75820fb1a8dc0705e0edbb560c92aaf4b40199a0"), looks := false }, kinds := [], alts := [], laidByText := true, laidKinds := [.data, .pinned], laidTests := true, laidLooks := .later }
def UnitsChecksCardSaid : Prop := Claim7.holds Tryz.pinned (.plain (OpenSpec.ofChange unitsChecksSpec)) unitsChecksCard

/-- THE TIED CARD OF 'wardmotelaw16.UnitsKnown'. -/
def unitsKnownCard : Claim7 := { stood := { row := unitsKnownRow, standIns := [], harness := (true, "d24157ced15e911f7f95976a75820fb1a8dc0705e0edbb560c92aaf4b40199a0"), looks := false }, kinds := [], alts := [], laidByText := true, laidKinds := [.data, .pinned], laidTests := true, laidLooks := .later }
def UnitsKnownCardSaid : Prop := Claim7.holds Tryz.pinned (.plain (OpenSpec.ofChange unitsKnownSpec)) unitsKnownCard

/-- THE SECOND FORM's CARD OF 'wardmotelaw16.UnitsChecks'. -/
def unitsChecksUptoCard : Claim7 := { stood := { row := unitsChecksUptoRow, standIns := [], harness := (true, "d24157ced15e911f7f95976a75820fb1a8dc0705e0edbb560c92aaf4b40199a0"), looks := false }, kinds := [], alts := [], laidByText := true, laidKinds := [.data, .pinned], laidTests := true, laidLooks := .later }
def UnitsChecksUptoCardSaid : Prop := Claim7.holds Tryz.pinned (.plain (OpenSpec.upto unitsChecksSpec)) unitsChecksUptoCard

/-- THE SECOND FORM's CARD OF 'wardmotelaw16.UnitsKnown'. -/
def unitsKnownUptoCard : Claim7 := { stood := { row := unitsKnownUptoRow, standIns := [], harness := (true, "d24157ced15e911f7f95976a75820fb1a8dc0705e0edbb560c92aaf4b40199a0"), looks := false }, kinds := [], alts := [], laidByText := true, laidKinds := [.data, .pinned], laidTests := true, laidLooks := .later }
def UnitsKnownUptoCardSaid : Prop := Claim7.holds Tryz.pinned (.plain (OpenSpec.upto unitsKnownSpec)) unitsKnownUptoCard
end Rows
end Go.Proofs.YtpgnaffcbbghgaaGreatDoor
