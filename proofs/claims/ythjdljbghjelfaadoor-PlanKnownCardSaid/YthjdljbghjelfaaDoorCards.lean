/-
  DERIVED. GIVEN WITH THE SEED: THE CARDS: each row of YthjdljbghjelfaaDoorRows.lean that lists a variable, with what it lists TIED to the program's text (the seventh form; the later family's looks); each row that meets fmt, with fmt's text TOLD by the authors' own Lean function (tested against real Go, not proved from fmt's source: count such statements apart). THE CARD IS WHAT COUNTS. Prove the row's statement (the work); the ties are given (YthjdljbghjelfaaDoorTie.lean); close each card by the builder's one call (the guide's Derived/Test/ToyasCard.lean, 'card_holds'). Laid BY PROGRAM, IN A SANDBOX (cutbox-door.mjs). By AI agents, Wed Nov 11 2026. No macro, syntax, notation, axiom, sorry.
-/
import Derived.Test.YthjdljbghjelfaaDoorRows
import GoSem.ClaimSeven
namespace Go.Proofs.YthjdljbghjelfaaDoor
namespace Rows

/-- THE TIED CARD OF 'wardmotelaw21.PlanChecks'. -/
def planChecksCard : Claim7 := { stood := { row := planChecksRow, standIns := [], harness := (true, "70ce77e6e465cb6f7bb54785c29c1fee9bd557921552f81cc09119473f9a84dc"), looks := false }, kinds := [], alts := [], laidByText := true, laidKinds := [.data], laidTests := true, laidLooks := .later }
def PlanChecksCardSaid : Prop := Claim7.holds Tryd.pinned (.plain (OpenSpec.ofChange planChecksSpec)) planChecksCard

/-- THE TIED CARD OF 'wardmotelaw21.PlanMoves'. -/
def planMovesCard : Claim7 := { stood := { row := planMovesRow, standIns := [], harness := (true, "70ce77e6e465cb6f7bb54785c29c1fee9bd557921552f81cc09119473f9a84dc"), looks := false }, kinds := [], alts := [], laidByText := true, laidKinds := [.data], laidTests := true, laidLooks := .later }
def PlanMovesCardSaid : Prop := Claim7.holds Tryd.pinned (.plain (OpenSpec.ofChange planMovesSpec)) planMovesCard

/-- THE TIED CARD OF 'wardmotelaw21.PlanNames'. -/
def planNamesCard : Claim7 := { stood := { row := planNamesRow, standIns := [], harness := (true, "70ce77e6e465cb6f7bb54785c29c1fee9bd557921552f81cc09119473f9a84dc"), looks := false }, kinds := [], alts := [], laidByText := true, laidKinds := [.data], laidTests := true, laidLooks := .later }
def PlanNamesCardSaid : Prop := Claim7.holds Tryd.pinned (.plain (OpenSpec.ofChange planNamesSpec)) planNamesCard

/-- THE TIED CARD OF 'wardmotelaw21.PlanReturns'. -/
def planReturnsCard : Claim7 := { stood := { row := planReturnsRow, standIns := [], harness := (true, "70ce77e6e465cb6f7bb54785c29c1fee9bd557921552f81cc09119473f9a84dc"), looks := false }, kinds := [], alts := [], laidByText := true, laidKinds := [.data], laidTests := true, laidLooks := .later }
def PlanReturnsCardSaid : Prop := Claim7.holds Tryd.pinned (.plain (OpenSpec.ofChange planReturnsSpec)) planReturnsCard

/-- THE TIED CARD OF 'wardmotelaw21.PlanDistances'. -/
def planDistancesCard : Claim7 := { stood := { row := planDistancesRow, standIns := [], harness := (true, "70ce77e6e465cb6f7bb54785c29c1fee9bd557921552f81cc09119473f9a84dc"), looks := false }, kinds := [], alts := [], laidByText := true, laidKinds := [.data], laidTests := true, laidLooks := .later }
def PlanDistancesCardSaid : Prop := Claim7.holds Tryd.pinned (.plain (OpenSpec.ofChange planDistancesSpec)) planDistancesCard

/-- THE TIED CARD OF 'wardmotelaw21.PlanParts'. -/
def planPartsCard : Claim7 := { stood := { row := planPartsRow, standIns := [], harness := (true, "70ce77e6e465cb6f7bb54785c29c1fee9bd557921552f81cc09119473f9a84dc"), looks := false }, kinds := [], alts := [], laidByText := true, laidKinds := [.data], laidTests := true, laidLooks := .later }
def PlanPartsCardSaid : Prop := Claim7.holds Tryd.pinned (.plain (OpenSpec.ofChange planPartsSpec)) planPartsCard

/-- THE TIED CARD OF 'wardmotelaw21.PlanKnown'. -/
def planKnownCard : Claim7 := { stood := { row := planKnownRow, standIns := [], harness := (true, "70ce77e6e465cb6f7bb54785c29c1fee9bd557921552f81cc09119473f9a84dc"), looks := false }, kinds := [], alts := [], laidByText := true, laidKinds := [.data], laidTests := true, laidLooks := .later }
def PlanKnownCardSaid : Prop := Claim7.holds Tryd.pinned (.plain (OpenSpec.ofChange planKnownSpec)) planKnownCard

/-- THE SECOND FORM's CARD OF 'wardmotelaw21.PlanChecks'. -/
def planChecksUptoCard : Claim7 := { stood := { row := planChecksUptoRow, standIns := [], harness := (true, "70ce77e6e465cb6f7bb54785c29c1fee9bd557921552f81cc09119473f9a84dc"), looks := false }, kinds := [], alts := [], laidByText := true, laidKinds := [.data], laidTests := true, laidLooks := .later }
def PlanChecksUptoCardSaid : Prop := Claim7.holds Tryd.pinned (.plain (OpenSpec.upto planChecksSpec)) planChecksUptoCard

/-- THE SECOND FORM's CARD OF 'wardmotelaw21.PlanMoves'. -/
def planMovesUptoCard : Claim7 := { stood := { row := planMovesUptoRow, standIns := [], harness := (true, "70ce77e6e465cb6f7bb54785c29c1fee9bd557921552f81cc09119473f9a84dc"), looks := false }, kinds := [], alts := [], laidByText := true, laidKinds := [.data], laidTests := true, laidLooks := .later }
def PlanMovesUptoCardSaid : Prop := Claim7.holds Tryd.pinned (.plain (OpenSpec.upto planMovesSpec)) planMovesUptoCard

/-- THE SECOND FORM's CARD OF 'wardmotelaw21.PlanNames'. -/
def planNamesUptoCard : Claim7 := { stood := { row := planNamesUptoRow, standIns := [], harness := (true, "70ce77e6e465cb6f7bb54785c29c1fee9bd557921552f81cc09119473f9a84dc"), looks := false }, kinds := [], alts := [], laidByText := true, laidKinds := [.data], laidTests := true, laidLooks := .later }
def PlanNamesUptoCardSaid : Prop := Claim7.holds Tryd.pinned (.plain (OpenSpec.upto planNamesSpec)) planNamesUptoCard

/-- THE SECOND FORM's CARD OF 'wardmotelaw21.PlanReturns'. -/
def planReturnsUptoCard : Claim7 := { stood := { row := planReturnsUptoRow, standIns := [], harness := (true, "70ce77e6e465cb6f7bb54785c29c1fee9bd557921552f81cc09119473f9a84dc"), looks := false }, kinds := [], alts := [], laidByText := true, laidKinds := [.data], laidTests := true, laidLooks := .later }
def PlanReturnsUptoCardSaid : Prop := Claim7.holds Tryd.pinned (.plain (OpenSpec.upto planReturnsSpec)) planReturnsUptoCard

/-- THE SECOND FORM's CARD OF 'wardmotelaw21.PlanDistances'. -/
def planDistancesUptoCard : Claim7 := { stood := { row := planDistancesUptoRow, standIns := [], harness := (true, "70ce77e6e465cb6f7bb54785c29c1fee9bd557921552f81cc09119473f9a84dc"), looks := false }, kinds := [], alts := [], laidByText := true, laidKinds := [.data], laidTests := true, laidLooks := .later }
def PlanDistancesUptoCardSaid : Prop := Claim7.holds Tryd.pinned (.plain (OpenSpec.upto planDistancesSpec)) planDistancesUptoCard

/-- THE SECOND FORM's CARD OF 'wardmotelaw21.PlanParts'. -/
def planPartsUptoCard : Claim7 := { stood := { row := planPartsUptoRow, standIns := [], harness := (true, "70ce77e6e465cb6f7bb54785c29c1fee9bd557921552f81cc09119473f9a84dc"), looks := false }, kinds := [], alts := [], laidByText := true, laidKinds := [.data], laidTests := true, laidLooks := .later }
def PlanPartsUptoCardSaid : Prop := Claim7.holds Tryd.pinned (.plain (OpenSpec.upto planPartsSpec)) planPartsUptoCard

/-- THE SECOND FORM's CARD OF 'wardmotelaw21.PlanKnown'. -/
def planKnownUptoCard : Claim7 := { stood := { row := planKnownUptoRow, standIns := [], harness := (true, "70ce77e6e465cb6f7bb54785c29c1fee9bd557921552f81cc09119473f9a84dc"), looks := false }, kinds := [], alts := [], laidByText := true, laidKinds := [.data], laidTests := true, laidLooks := .later }
def PlanKnownUptoCardSaid : Prop := Claim7.holds Tryd.pinned (.plain (OpenSpec.upto planKnownSpec)) planKnownUptoCard
end Rows
end Go.Proofs.YthjdljbghjelfaaDoor
