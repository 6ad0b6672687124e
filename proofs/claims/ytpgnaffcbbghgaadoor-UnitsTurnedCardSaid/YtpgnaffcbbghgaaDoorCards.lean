/-
  DERIVED. GIVEN WITH THE SEED: THE CARDS: each row of YtpgnaffcbbghgaaDoorRows.lean that lists a variable, with what it lists TIED to the program's text (the seventh form; the later family's looks); each row that meets fmt, with fmt's text TOLD by the authors' own Lean function (tested against real Go, not proved from fmt's source: count such statements apart). THE CARD IS WHAT COUNTS. Prove the row's statement (the work); the ties are given (YtpgnaffcbbghgaaDoorTie.lean); close each card by the builder's one call (the guide's Derived/Test/ToyasCard.lean, 'card_holds'). Laid BY PROGRAM, IN A SANDBOX (cutbox-door.mjs). By AI agents, Wed Nov 11 2026. No macro, syntax, notation, axiom, sorry.
-/
import Derived.Test.YtpgnaffcbbghgaaDoorRows
import GoSem.ClaimSeven
namespace Go.Proofs.YtpgnaffcbbghgaaDoor
namespace Rows

/-- THE TIED CARD OF 'wardmotelaw16.UnitsTurned'. -/
def unitsTurnedCard : Claim7 := { stood := { row := unitsTurnedRow, standIns := [], harness := (true, "b5d2a6787cd311a4aa3a49cc99cf668e60f710bd562f8397d6b1be16cd78defe"), looks := false }, kinds := [], alts := [], laidByText := true, laidKinds := [.data, .pinned], laidTests := true, laidLooks := .later }
def UnitsTurnedCardSaid : Prop := Claim7.holds Tryd.pinned (.plain (OpenSpec.ofChange unitsTurnedSpec)) unitsTurnedCard

/-- THE TIED CARD OF 'wardmotelaw16.UnitsTotals'. -/
def unitsTotalsCard : Claim7 := { stood := { row := unitsTotalsRow, standIns := [], harness := (true, "b5d2a6787cd311a4aa3a49cc99cf668e60f710bd562f8397d6b1be16cd78defe"), looks := false }, kinds := [], alts := [], laidByText := true, laidKinds := [.data, .pinned], laidTests := true, laidLooks := .later }
def UnitsTotalsCardSaid : Prop := Claim7.holds Tryd.pinned (.plain (OpenSpec.ofChange unitsTotalsSpec)) unitsTotalsCard

/-- THE TIED CARD OF 'wardmotelaw16.UnitsParents'. -/
def unitsParentsCard : Claim7 := { stood := { row := unitsParentsRow, standIns := [], harness := (true, "b5d2a6787cd311a4aa3a49cc99cf668e60f710bd562f8397d6b1be16cd78defe"), looks := false }, kinds := [], alts := [], laidByText := true, laidKinds := [.data, .pinned], laidTests := true, laidLooks := .later }
def UnitsParentsCardSaid : Prop := Claim7.holds Tryd.pinned (.plain (OpenSpec.ofChange unitsParentsSpec)) unitsParentsCard

/-- THE TIED CARD OF 'wardmotelaw16.UnitsAdds'. -/
def unitsAddsCard : Claim7 := { stood := { row := unitsAddsRow, standIns := [], harness := (true, "b5d2a6787cd311a4aa3a49cc99cf668e60f710bd562f8397d6b1be16cd78defe"), looks := false }, kinds := [], alts := [], laidByText := true, laidKinds := [.data, .pinned], laidTests := true, laidLooks := .later }
def UnitsAddsCardSaid : Prop := Claim7.holds Tryd.pinned (.plain (OpenSpec.ofChange unitsAddsSpec)) unitsAddsCard

/-- THE TIED CARD OF 'wardmotelaw16.UnitsFamilies'. -/
def unitsFamiliesCard : Claim7 := { stood := { row := unitsFamiliesRow, standIns := [], harness := (true, "b5d2a6787cd311a4aa3a49cc99cf668e60f710bd562f8397d6b1be16cd78defe"), looks := false }, kinds := [], alts := [], laidByText := true, laidKinds := [.data, .pinned], laidTests := true, laidLooks := .later }
def UnitsFamiliesCardSaid : Prop := Claim7.holds Tryd.pinned (.plain (OpenSpec.ofChange unitsFamiliesSpec)) unitsFamiliesCard

/-- THE SECOND FORM's CARD OF 'wardmotelaw16.UnitsTurned'. -/
def unitsTurnedUptoCard : Claim7 := { stood := { row := unitsTurnedUptoRow, standIns := [], harness := (true, "b5d2a6787cd311a4aa3a49cc99cf668e60f710bd562f8397d6b1be16cd78defe"), looks := false }, kinds := [], alts := [], laidByText := true, laidKinds := [.data, .pinned], laidTests := true, laidLooks := .later }
def UnitsTurnedUptoCardSaid : Prop := Claim7.holds Tryd.pinned (.plain (OpenSpec.upto unitsTurnedSpec)) unitsTurnedUptoCard

/-- THE SECOND FORM's CARD OF 'wardmotelaw16.UnitsTotals'. -/
def unitsTotalsUptoCard : Claim7 := { stood := { row := unitsTotalsUptoRow, standIns := [], harness := (true, "b5d2a6787cd311a4aa3a49cc99cf668e60f710bd562f8397d6b1be16cd78defe"), looks := false }, kinds := [], alts := [], laidByText := true, laidKinds := [.data, .pinned], laidTests := true, laidLooks := .later }
def UnitsTotalsUptoCardSaid : Prop := Claim7.holds Tryd.pinned (.plain (OpenSpec.upto unitsTotalsSpec)) unitsTotalsUptoCard

/-- THE SECOND FORM's CARD OF 'wardmotelaw16.UnitsParents'. -/
def unitsParentsUptoCard : Claim7 := { stood := { row := unitsParentsUptoRow, standIns := [], harness := (true, "b5d2a6787cd311a4aa3a49cc99cf668e60f710bd562f8397d6b1be16cd78defe"), looks := false }, kinds := [], alts := [], laidByText := true, laidKinds := [.data, .pinned], laidTests := true, laidLooks := .later }
def UnitsParentsUptoCardSaid : Prop := Claim7.holds Tryd.pinned (.plain (OpenSpec.upto unitsParentsSpec)) unitsParentsUptoCard

/-- THE SECOND FORM's CARD OF 'wardmotelaw16.UnitsAdds'. -/
def unitsAddsUptoCard : Claim7 := { stood := { row := unitsAddsUptoRow, standIns := [], harness := (true, "b5d2a6787cd311a4aa3a49cc99cf668e60f710bd562f8397d6b1be16cd78defe"), looks := false }, kinds := [], alts := [], laidByText := true, laidKinds := [.data, .pinned], laidTests := true, laidLooks := .later }
def UnitsAddsUptoCardSaid : Prop := Claim7.holds Tryd.pinned (.plain (OpenSpec.upto unitsAddsSpec)) unitsAddsUptoCard

/-- THE SECOND FORM's CARD OF 'wardmotelaw16.UnitsFamilies'. -/
def unitsFamiliesUptoCard : Claim7 := { stood := { row := unitsFamiliesUptoRow, standIns := [], harness := (true, "b5d2a6787cd311a4aa3a49cc99cf668e60f710bd562f8397d6b1be16cd78defe"), looks := false }, kinds := [], alts := [], laidByText := true, laidKinds := [.data, .pinned], laidTests := true, laidLooks := .later }
def UnitsFamiliesUptoCardSaid : Prop := Claim7.holds Tryd.pinned (.plain (OpenSpec.upto unitsFamiliesSpec)) unitsFamiliesUptoCard
end Rows
end Go.Proofs.YtpgnaffcbbghgaaDoor
