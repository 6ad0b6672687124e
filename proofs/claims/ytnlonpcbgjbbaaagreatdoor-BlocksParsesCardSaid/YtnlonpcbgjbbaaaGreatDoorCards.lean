/-
  DERIVED. GIVEN WITH THE SEED: THE CARDS: each row of YtnlonpcbgjbbaaaGreatDoorRows.lean that lists a variable, with what it lists TIED to the program's text (the seventh form; the later family's looks); each row that meets fmt, with fmt's text TOLD by the authors' own Lean function (tested against real Go, not proved from fmt's source: count such statements apart). THE CARD IS WHAT COUNTS. Prove the row's statement (the work); the ties are given (YtnlonpcbgjbbaaaGreatDoorTie.lean); close each card by the builder's one call (the guide's Derived/Test/ToyasCard.lean, 'card_holds'). Laid BY PROGRAM, IN A SANDBOX (cutbox-door.mjs). By AI agents, Wed Nov 11 2026. No macro, syntax, notation, axiom, sorry.
-/
import Derived.Test.YtnlonpcbgjbbaaaGreatDoorRows
import GoSem.ClaimSeven
namespace Go.Proofs.YtnlonpcbgjbbaaaGreatDoor
namespace Rows

/-- THE TIED CARD OF 'wardmotelaw42.BlocksKnown'. -/
def blocksKnownCard : Claim7 := { stood := { row := blocksKnownRow, standIns := [], harness := (true, "849563bfc0b6bf2ff6a248124b263b5fb7ede1952df6ea2046a50e50889bd220"), looks := true }, kinds := [], alts := [], laidByText := true, laidKinds := [.data, .data, .data, .data, .sentinel, .sentinel, .pinned], laidTests := true, laidLooks := .later }
def BlocksKnownCardSaid : Prop := Claim7.holds Tryz.pinned (.plain (OpenSpec.ofChange blocksKnownSpec)) blocksKnownCard

/-- THE TIED CARD OF 'wardmotelaw42.BlocksBlanks'. -/
def blocksBlanksCard : Claim7 := { stood := { row := blocksBlanksRow, standIns := [], harness := (true, "849563bfc0b6bf2ff6a248124b263b5fb7ede1952df6ea2046a50e50889bd220"), looks := true }, kinds := [], alts := [], laidByText := true, laidKinds := [.data, .data, .data, .data, .sentinel, .sentinel, .pinned], laidTests := true, laidLooks := .later }
def BlocksBlanksCardSaid : Prop := Claim7.holds Tryz.pinned (.plain (OpenSpec.ofChange blocksBlanksSpec)) blocksBlanksCard

/-- THE TIED CARD OF 'wardmotelaw16.UnitsChecks'. -/
def unitsChecksCard : Claim7 := { stood := { row := unitsChecksRow, standIns := [], harness := (true, "849563bfc0b6bf2ff6a248124b263b5fb7ede1952df6ea2046a50e50889bd220"), looks := true }, kinds := [], alts := [], laidByText := true, laidKinds := [.data, .pinned], laidTests := true, laidLooks := .later }
def UnitsChecksCardSaid : Prop := Claim7.holds Tryz.pinned (.plain (OpenSpec.ofChange unitsChecksSpec)) unitsChecksCard

/-- THE TIED CARD OF 'wardmotelaw42.BlocksReads'. -/
def blocksReadsCard : Claim7 := { stood := { row := blocksReadsRow, standIns := [], harness := (true, "849563bfc0b6bf2ff6a248124b263b5fb7ede1952df6ea2046a50e50889bd220"), looks := true }, kinds := [], alts := [], laidByText := true, laidKinds := [.data, .data, .data, .data, .sentinel, .sentinel, .pinned], laidTests := true, laidLooks := .later }
def BlocksReadsCardSaid : Prop := Claim7.holds Tryz.pinned (.plain (OpenSpec.ofChange blocksReadsSpec)) blocksReadsCard

/-- THE TIED CARD OF 'wardmotelaw42.BlocksParses'. -/
def blocksParsesCard : Claim7 := { stood := { row := blocksParsesRow, standIns := [], harness := (true, "849563bfc0b6bf2ff6a248124b263b5fb7ede1952df6ea2046a50e50889bd220"), looks := true }, kinds := [], alts := [], laidByText := true, laidKinds := [.data, .data, .data, .data, .sentinel, .sentinel, .pinned], laidTests := true, laidLooks := .later }
def BlocksParsesCardSaid : Prop := Claim7.holds Tryz.pinned (.plain (OpenSpec.ofChange blocksParsesSpec)) blocksParsesCard

/-- THE TIED CARD OF 'wardmotelaw42.BlocksOver'. -/
def blocksOverCard : Claim7 := { stood := { row := blocksOverRow, standIns := [], harness := (true, "849563bfc0b6bf2ff6a248124b263b5fb7ede1952df6ea2046a50e50889bd220"), looks := true }, kinds := [], alts := [], laidByText := true, laidKinds := [.data, .data, .data, .data, .sentinel, .sentinel, .pinned], laidTests := true, laidLooks := .later }
def BlocksOverCardSaid : Prop := Claim7.holds Tryz.pinned (.plain (OpenSpec.ofChange blocksOverSpec)) blocksOverCard

/-- THE TIED CARD OF 'wardmotelaw42.BlocksBack'. -/
def blocksBackCard : Claim7 := { stood := { row := blocksBackRow, standIns := [], harness := (true, "849563bfc0b6bf2ff6a248124b263b5fb7ede1952df6ea2046a50e50889bd220"), looks := true }, kinds := [], alts := [], laidByText := true, laidKinds := [.data, .data, .data, .data, .sentinel, .sentinel, .pinned], laidTests := true, laidLooks := .later }
def BlocksBackCardSaid : Prop := Claim7.holds Tryz.pinned (.plain (OpenSpec.ofChange blocksBackSpec)) blocksBackCard

/-- THE SECOND FORM's CARD OF 'wardmotelaw42.BlocksKnown'. -/
def blocksKnownUptoCard : Claim7 := { stood := { row := blocksKnownUptoRow, standIns := [], harness := (true, "849563bfc0b6bf2ff6a248124b263b5fb7ede1952df6ea2046a50e50889bd220"), looks := true }, kinds := [], alts := [], laidByText := true, laidKinds := [.data, .data, .data, .data, .sentinel, .sentinel, .pinned], laidTests := true, laidLooks := .later }
def BlocksKnownUptoCardSaid : Prop := Claim7.holds Tryz.pinned (.plain (OpenSpec.upto blocksKnownSpec)) blocksKnownUptoCard

/-- THE SECOND FORM's CARD OF 'wardmotelaw42.BlocksBlanks'. -/
def blocksBlanksUptoCard : Claim7 := { stood := { row := blocksBlanksUptoRow, standIns := [], harness := (true, "849563bfc0b6bf2ff6a248124b263b5fb7ede1952df6ea2046a50e50889bd220"), looks := true }, kinds := [], alts := [], laidByText := true, laidKinds := [.data, .data, .data, .data, .sentinel, .sentinel, .pinned], laidTests := true, laidLooks := .later }
def BlocksBlanksUptoCardSaid : Prop := Claim7.holds Tryz.pinned (.plain (OpenSpec.upto blocksBlanksSpec)) blocksBlanksUptoCard

/-- THE SECOND FORM's CARD OF 'wardmotelaw16.UnitsChecks'. -/
def unitsChecksUptoCard : Claim7 := { stood := { row := unitsChecksUptoRow, standIns := [], harness := (true, "849563bfc0b6bf2ff6a248124b263b5fb7ede1952df6ea2046a50e50889bd220"), looks := true }, kinds := [], alts := [], laidByText := true, laidKinds := [.data, .pinned], laidTests := true, laidLooks := .later }
def UnitsChecksUptoCardSaid : Prop := Claim7.holds Tryz.pinned (.plain (OpenSpec.upto unitsChecksSpec)) unitsChecksUptoCard

/-- THE SECOND FORM's CARD OF 'wardmotelaw42.BlocksReads'. -/
def blocksReadsUptoCard : Claim7 := { stood := { row := blocksReadsUptoRow, standIns := [], harness := (true, "849563bfc0b6bf2ff6a248124b263b5fb7ede1952df6ea2046a50e50889bd220"), looks := true }, kinds := [], alts := [], laidByText := true, laidKinds := [.data, .data, .data, .data, .sentinel, .sentinel, .pinned], laidTests := true, laidLooks := .later }
def BlocksReadsUptoCardSaid : Prop := Claim7.holds Tryz.pinned (.plain (OpenSpec.upto blocksReadsSpec)) blocksReadsUptoCard

/-- THE SECOND FORM's CARD OF 'wardmotelaw42.BlocksParses'. -/
def blocksParsesUptoCard : Claim7 := { stood := { row := blocksParsesUptoRow, standIns := [], harness := (true, "849563bfc0b6bf2ff6a248124b263b5fb7ede1952df6ea2046a50e50889bd220"), looks := true }, kinds := [], alts := [], laidByText := true, laidKinds := [.data, .data, .data, .data, .sentinel, .sentinel, .pinned], laidTests := true, laidLooks := .later }
def BlocksParsesUptoCardSaid : Prop := Claim7.holds Tryz.pinned (.plain (OpenSpec.upto blocksParsesSpec)) blocksParsesUptoCard

/-- THE SECOND FORM's CARD OF 'wardmotelaw42.BlocksOver'. -/
def blocksOverUptoCard : Claim7 := { stood := { row := blocksOverUptoRow, standIns := [], harness := (true, "849563bfc0b6bf2ff6a248124b263b5fb7ede1952df6ea2046a50e50889bd220"), looks := true }, kinds := [], alts := [], laidByText := true, laidKinds := [.data, .data, .data, .data, .sentinel, .sentinel, .pinned], laidTests := true, laidLooks := .later }
def BlocksOverUptoCardSaid : Prop := Claim7.holds Tryz.pinned (.plain (OpenSpec.upto blocksOverSpec)) blocksOverUptoCard

/-- THE SECOND FORM's CARD OF 'wardmotelaw42.BlocksBack'. -/
def blocksBackUptoCard : Claim7 := { stood := { row := blocksBackUptoRow, standIns := [], harness := (true, "849563bfc0b6bf2ff6a248124b263b5fb7ede1952df6ea2046a50e50889bd220"), looks := true }, kinds := [], alts := [], laidByText := true, laidKinds := [.data, .data, .data, .data, .sentinel, .sentinel, .pinned], laidTests := true, laidLooks := .later }
def BlocksBackUptoCardSaid : Prop := Claim7.holds Tryz.pinned (.plain (OpenSpec.upto blocksBackSpec)) blocksBackUptoCard
end Rows
end Go.Proofs.YtnlonpcbgjbbaaaGreatDoor
