/-
  NARROWER THAN 'FOR EVERY INPUT', by the rows' own cells (each row's printed sentence says how): UnitsTurned: laid · UnitsTotals: laid · UnitsParents: laid · UnitsAdds: laid · UnitsFamilies: laid.
  DERIVED. THE GIVEN ROWS OF THIS SEAT. 5 by the template 'for every input the law returns true; each argument reads behind the call as it read before'; 0 by the template 'total and deterministic' (their statements: YtpgnaffcbbghgaaDoorTotals.lean).
  GIVEN WITH THE SEED: the statements are not yours to turn. If you find one false, say at which input.
  Laid BY PROGRAM, IN A SANDBOX (cutbox-rows.mjs): the forced cells as the released guide's own fill.sh prints them over the translation 80ae5134c4581e0f… (all of the seat's roots in one cut). By AI agents, Wed Nov 11 2026. No macro, syntax, notation, axiom, sorry.
-/
import Derived.Test.YtpgnaffcbbghgaaDoorChecked
import GoSem.PinnedTables
import GoSem.Claim
import GoSem.ClaimJoined
import GoSem.ClaimMapViews
import Derived.JoinedTies
import Derived.KernelRfl
namespace Go.Proofs.YtpgnaffcbbghgaaDoor
/- THE CELL 'sum', in the pinned program and in every row, IS THE sha256 OF THE DUMP (.gsa) THAT YtpgnaffcbbghgaaDoorProg.lean LOADS. Nothing in Lean hashes anything: it is a label: what it is worth is what the hold of that sum in a sandbox is worth. -/
noncomputable def Tryd.pinned : Pinned := { name := "ytpgnaffcbbghgaadoor", sum := "80ae5134c4581e0f5bd9d45aa4fc69f327d84bcd8c39039f122bf78bd97ebc5e", checked := Tryd.checked }
namespace Rows
def none {H : Type} : Left H := { results := [], args := [] }

/- WHAT THE LISTED PACKAGE-LEVEL VARIABLES READ AS WHEN THE CALL BEGINS. Each datum BY PROGRAM (the guide's laid-datum.mjs) off the statement by which the dump's own 'gosem.cut.vars' lays the variable. In a bare row this is a premise. The card (YtpgnaffcbbghgaaDoorCards.lean) ties it to the program's text. -/
def laid_unicode_utf8_acceptRanges {H : Type} : DataW H := .agg [.agg [.lit (.int .u8 128), .lit (.int .u8 191)], .agg [.lit (.int .u8 160), .lit (.int .u8 191)], .agg [.lit (.int .u8 128), .lit (.int .u8 159)], .agg [.lit (.int .u8 144), .lit (.int .u8 191)], .agg [.lit (.int .u8 128), .lit (.int .u8 143)], .agg [.lit (.int .u8 0), .lit (.int .u8 0)], .agg [.lit (.int .u8 0), .lit (.int .u8 0)], .agg [.lit (.int .u8 0), .lit (.int .u8 0)], .agg [.lit (.int .u8 0), .lit (.int .u8 0)], .agg [.lit (.int .u8 0), .lit (.int .u8 0)], .agg [.lit (.int .u8 0), .lit (.int .u8 0)], .agg [.lit (.int .u8 0), .lit (.int .u8 0)], .agg [.lit (.int .u8 0), .lit (.int .u8 0)], .agg [.lit (.int .u8 0), .lit (.int .u8 0)], .agg [.lit (.int .u8 0), .lit (.int .u8 0)], .agg [.lit (.int .u8 0), .lit (.int .u8 0)]]
/-- One of Go's own tables, pinned by name: the form's constant. -/
def laid_unicode_utf8_first : DataW Unit := Go.Pinned.utf8First

/-- 'wardmotelaw16.UnitsTurned': WHATEVER THE INPUT: true; the input reads as it did. -/
def unitsTurnedSpec : ChangeSpec := { name := "unitsTurned", fn := fun _ => fun
  | [d1, d2, d3] => { results := [.lit (.bool true)], args := [d1, d2, d3] }
  | _ => none }
def unitsTurnedRow : OpenClaim := { program := "ytpgnaffcbbghgaadoor", sum := "80ae5134c4581e0f5bd9d45aa4fc69f327d84bcd8c39039f122bf78bd97ebc5e", func := "wardmote/wardmotelaw16.UnitsTurned", spec := "unitsTurned", inPlace := ["internal/bytealg.IndexByteString", "internal/bytealg.IndexString"], unfollowed := true, recurses := true, named := ["unicode/utf8.first", "unicode/utf8.acceptRanges", "internal/bytealg.MaxLen"], apart := false, laid := [("unicode/utf8.acceptRanges", laid_unicode_utf8_acceptRanges), ("unicode/utf8.first", laid_unicode_utf8_first)] }
def UnitsTurnedSaid : Prop := unitsTurnedRow.holds Tryd.pinned (OpenSpec.ofChange unitsTurnedSpec)

/-- ITS FALSE NEIGHBOUR: 'it returns false'. Refute it at one input. -/
def unitsTurnedWrong : ChangeSpec := { name := "unitsTurned", fn := fun _ => fun
  | [d1, d2, d3] => { results := [.lit (.bool false)], args := [d1, d2, d3] }
  | _ => none }
def UnitsTurnedWrongFalsely : Prop := unitsTurnedRow.holds Tryd.pinned (OpenSpec.ofChange unitsTurnedWrong)

/-- 'wardmotelaw16.UnitsTotals': WHATEVER THE INPUT: true; the input reads as it did. -/
def unitsTotalsSpec : ChangeSpec := { name := "unitsTotals", fn := fun _ => fun
  | [d1, d2, d3, d4, d5] => { results := [.lit (.bool true)], args := [d1, d2, d3, d4, d5] }
  | _ => none }
def unitsTotalsRow : OpenClaim := { program := "ytpgnaffcbbghgaadoor", sum := "80ae5134c4581e0f5bd9d45aa4fc69f327d84bcd8c39039f122bf78bd97ebc5e", func := "wardmote/wardmotelaw16.UnitsTotals", spec := "unitsTotals", inPlace := ["internal/bytealg.IndexByteString", "internal/bytealg.IndexString"], unfollowed := true, recurses := true, named := ["unicode/utf8.first", "unicode/utf8.acceptRanges", "internal/bytealg.MaxLen"], apart := false, laid := [("unicode/utf8.acceptRanges", laid_unicode_utf8_acceptRanges), ("unicode/utf8.first", laid_unicode_utf8_first)] }
def UnitsTotalsSaid : Prop := unitsTotalsRow.holds Tryd.pinned (OpenSpec.ofChange unitsTotalsSpec)

/-- ITS FALSE NEIGHBOUR: 'it returns false'. Refute it at one input. -/
def unitsTotalsWrong : ChangeSpec := { name := "unitsTotals", fn := fun _ => fun
  | [d1, d2, d3, d4, d5] => { results := [.lit (.bool false)], args := [d1, d2, d3, d4, d5] }
  | _ => none }
def UnitsTotalsWrongFalsely : Prop := unitsTotalsRow.holds Tryd.pinned (OpenSpec.ofChange unitsTotalsWrong)

/-- 'wardmotelaw16.UnitsParents': WHATEVER THE INPUT: true; the input reads as it did. -/
def unitsParentsSpec : ChangeSpec := { name := "unitsParents", fn := fun _ => fun
  | [d1, d2, d3] => { results := [.lit (.bool true)], args := [d1, d2, d3] }
  | _ => none }
def unitsParentsRow : OpenClaim := { program := "ytpgnaffcbbghgaadoor", sum := "80ae5134c4581e0f5bd9d45aa4fc69f327d84bcd8c39039f122bf78bd97ebc5e", func := "wardmote/wardmotelaw16.UnitsParents", spec := "unitsParents", inPlace := ["internal/bytealg.IndexByteString", "internal/bytealg.IndexString"], unfollowed := true, recurses := true, named := ["unicode/utf8.first", "unicode/utf8.acceptRanges", "internal/bytealg.MaxLen"], apart := false, laid := [("unicode/utf8.acceptRanges", laid_unicode_utf8_acceptRanges), ("unicode/utf8.first", laid_unicode_utf8_first)] }
def UnitsParentsSaid : Prop := unitsParentsRow.holds Tryd.pinned (OpenSpec.ofChange unitsParentsSpec)

/-- ITS FALSE NEIGHBOUR: 'it returns false'. Refute it at one input. -/
def unitsParentsWrong : ChangeSpec := { name := "unitsParents", fn := fun _ => fun
  | [d1, d2, d3] => { results := [.lit (.bool false)], args := [d1, d2, d3] }
  | _ => none }
def UnitsParentsWrongFalsely : Prop := unitsParentsRow.holds Tryd.pinned (OpenSpec.ofChange unitsParentsWrong)

/-- 'wardmotelaw16.UnitsAdds': WHATEVER THE INPUT: true; the input reads as it did. -/
def unitsAddsSpec : ChangeSpec := { name := "unitsAdds", fn := fun _ => fun
  | [d1, d2, d3, d4] => { results := [.lit (.bool true)], args := [d1, d2, d3, d4] }
  | _ => none }
def unitsAddsRow : OpenClaim := { program := "ytpgnaffcbbghgaadoor", sum := "80ae5134c4581e0f5bd9d45aa4fc69f327d84bcd8c39039f122bf78bd97ebc5e", func := "wardmote/wardmotelaw16.UnitsAdds", spec := "unitsAdds", inPlace := ["internal/bytealg.IndexByteString", "internal/bytealg.IndexString"], unfollowed := true, recurses := true, named := ["unicode/utf8.first", "unicode/utf8.acceptRanges", "internal/bytealg.MaxLen"], apart := false, laid := [("unicode/utf8.acceptRanges", laid_unicode_utf8_acceptRanges), ("unicode/utf8.first", laid_unicode_utf8_first)] }
def UnitsAddsSaid : Prop := unitsAddsRow.holds Tryd.pinned (OpenSpec.ofChange unitsAddsSpec)

/-- ITS FALSE NEIGHBOUR: 'it returns false'. Refute it at one input. -/
def unitsAddsWrong : ChangeSpec := { name := "unitsAdds", fn := fun _ => fun
  | [d1, d2, d3, d4] => { results := [.lit (.bool false)], args := [d1, d2, d3, d4] }
  | _ => none }
def UnitsAddsWrongFalsely : Prop := unitsAddsRow.holds Tryd.pinned (OpenSpec.ofChange unitsAddsWrong)

/-- 'wardmotelaw16.UnitsFamilies': WHATEVER THE INPUT: true; the input reads as it did. -/
def unitsFamiliesSpec : ChangeSpec := { name := "unitsFamilies", fn := fun _ => fun
  | [d1, d2] => { results := [.lit (.bool true)], args := [d1, d2] }
  | _ => none }
def unitsFamiliesRow : OpenClaim := { program := "ytpgnaffcbbghgaadoor", sum := "80ae5134c4581e0f5bd9d45aa4fc69f327d84bcd8c39039f122bf78bd97ebc5e", func := "wardmote/wardmotelaw16.UnitsFamilies", spec := "unitsFamilies", inPlace := ["internal/bytealg.IndexByteString", "internal/bytealg.IndexString"], unfollowed := true, recurses := true, named := ["unicode/utf8.first", "unicode/utf8.acceptRanges", "internal/bytealg.MaxLen"], apart := false, laid := [("unicode/utf8.acceptRanges", laid_unicode_utf8_acceptRanges), ("unicode/utf8.first", laid_unicode_utf8_first)] }
def UnitsFamiliesSaid : Prop := unitsFamiliesRow.holds Tryd.pinned (OpenSpec.ofChange unitsFamiliesSpec)

/-- ITS FALSE NEIGHBOUR: 'it returns false'. Refute it at one input. -/
def unitsFamiliesWrong : ChangeSpec := { name := "unitsFamilies", fn := fun _ => fun
  | [d1, d2] => { results := [.lit (.bool false)], args := [d1, d2] }
  | _ => none }
def UnitsFamiliesWrongFalsely : Prop := unitsFamiliesRow.holds Tryd.pinned (OpenSpec.ofChange unitsFamiliesWrong)

/- THE SECOND FORM. 'bulk': how many values and letters a reading holds, each counted each time it is reached (what is shared counts as often as it is met; a slice's spare places count too). A statement '..UptoSaid' is the law's where the arguments, and the package variables that the reading takes, are together of bulk at most 1048576: NARROWER than '..Said'. Prove '..Said' where nothing that the law and all that it calls make is longer than what came in: it says more and counts as full. Else prove '..UptoSaid'. A law counts once. -/
mutual
def uptoBulk {H : Type} : DataW H → Nat
  | .lit (.string bytes) => bytes.length + 1
  | .lit _ => 1
  | .nil => 1
  | .ptr d => uptoBulk d + 1
  | .slice elems spare => uptoBulkAll elems + uptoBulkAll spare + 1
  | .agg parts => uptoBulkAll parts + 1
  | .iface _ d => uptoBulk d + 1
  | .map entries => uptoBulkEntries entries + 1
  | .held _ => 1
def uptoBulkAll {H : Type} : List (DataW H) → Nat
  | [] => 0
  | d :: r => uptoBulk d + uptoBulkAll r
def uptoBulkEntries {H : Type} : List (Lit × DataW H) → Nat
  | [] => 0
  | x :: r => uptoBulkEntry x + uptoBulkEntries r
def uptoBulkEntry {H : Type} : Lit × DataW H → Nat
  | (.string bytes, d) => bytes.length + uptoBulk d + 1
  | (_, d) => uptoBulk d + 1
 end
def uptoSmall : (H : Type) → List (DataW H) → Bool := fun _ ds => decide (uptoBulkAll ds ≤ 1048576)
def OpenSpec.upto (s : _root_.Go.ChangeSpec) : _root_.Go.OpenSpec := { _root_.Go.OpenSpec.ofChange s with cond := some uptoSmall }

/-- 'wardmotelaw16.UnitsTurned', WHERE WHAT IT READS IS OF BULK AT MOST 1048576: true; the input reads as it did. -/
def unitsTurnedUptoRow : OpenClaim := { program := "ytpgnaffcbbghgaadoor", sum := "80ae5134c4581e0f5bd9d45aa4fc69f327d84bcd8c39039f122bf78bd97ebc5e", func := "wardmote/wardmotelaw16.UnitsTurned", spec := "unitsTurned", inPlace := ["internal/bytealg.IndexByteString", "internal/bytealg.IndexString"], unfollowed := true, recurses := true, named := ["unicode/utf8.first", "unicode/utf8.acceptRanges", "internal/bytealg.MaxLen"], apart := false, laid := [("unicode/utf8.acceptRanges", laid_unicode_utf8_acceptRanges), ("unicode/utf8.first", laid_unicode_utf8_first)], narrowed := true }
def UnitsTurnedUptoSaid : Prop := unitsTurnedUptoRow.holds Tryd.pinned (OpenSpec.upto unitsTurnedSpec)

/-- 'wardmotelaw16.UnitsTotals', WHERE WHAT IT READS IS OF BULK AT MOST 1048576: true; the input reads as it did. -/
def unitsTotalsUptoRow : OpenClaim := { program := "ytpgnaffcbbghgaadoor", sum := "80ae5134c4581e0f5bd9d45aa4fc69f327d84bcd8c39039f122bf78bd97ebc5e", func := "wardmote/wardmotelaw16.UnitsTotals", spec := "unitsTotals", inPlace := ["internal/bytealg.IndexByteString", "internal/bytealg.IndexString"], unfollowed := true, recurses := true, named := ["unicode/utf8.first", "unicode/utf8.acceptRanges", "internal/bytealg.MaxLen"], apart := false, laid := [("unicode/utf8.acceptRanges", laid_unicode_utf8_acceptRanges), ("unicode/utf8.first", laid_unicode_utf8_first)], narrowed := true }
def UnitsTotalsUptoSaid : Prop := unitsTotalsUptoRow.holds Tryd.pinned (OpenSpec.upto unitsTotalsSpec)

/-- 'wardmotelaw16.UnitsParents', WHERE WHAT IT READS IS OF BULK AT MOST 1048576: true; the input reads as it did. -/
def unitsParentsUptoRow : OpenClaim := { program := "ytpgnaffcbbghgaadoor", sum := "80ae5134c4581e0f5bd9d45aa4fc69f327d84bcd8c39039f122bf78bd97ebc5e", func := "wardmote/wardmotelaw16.UnitsParents", spec := "unitsParents", inPlace := ["internal/bytealg.IndexByteString", "internal/bytealg.IndexString"], unfollowed := true, recurses := true, named := ["unicode/utf8.first", "unicode/utf8.acceptRanges", "internal/bytealg.MaxLen"], apart := false, laid := [("unicode/utf8.acceptRanges", laid_unicode_utf8_acceptRanges), ("unicode/utf8.first", laid_unicode_utf8_first)], narrowed := true }
def UnitsParentsUptoSaid : Prop := unitsParentsUptoRow.holds Tryd.pinned (OpenSpec.upto unitsParentsSpec)

/-- 'wardmotelaw16.UnitsAdds', WHERE WHAT IT READS IS OF BULK AT MOST 1048576: true; the input reads as it did. -/
def unitsAddsUptoRow : OpenClaim := { program := "ytpgnaffcbbghgaadoor", sum := "80ae5134c4581e0f5bd9d45aa4fc69f327d84bcd8c39039f122bf78bd97ebc5e", func := "wardmote/wardmotelaw16.UnitsAdds", spec := "unitsAdds", inPlace := ["internal/bytealg.IndexByteString", "internal/bytealg.IndexString"], unfollowed := true, recurses := true, named := ["unicode/utf8.first", "unicode/utf8.acceptRanges", "internal/bytealg.MaxLen"], apart := false, laid := [("unicode/utf8.acceptRanges", laid_unicode_utf8_acceptRanges), ("unicode/utf8.first", laid_unicode_utf8_first)], narrowed := true }
def UnitsAddsUptoSaid : Prop := unitsAddsUptoRow.holds Tryd.pinned (OpenSpec.upto unitsAddsSpec)

/-- 'wardmotelaw16.UnitsFamilies', WHERE WHAT IT READS IS OF BULK AT MOST 1048576: true; the input reads as it did. -/
def unitsFamiliesUptoRow : OpenClaim := { program := "ytpgnaffcbbghgaadoor", sum := "80ae5134c4581e0f5bd9d45aa4fc69f327d84bcd8c39039f122bf78bd97ebc5e", func := "wardmote/wardmotelaw16.UnitsFamilies", spec := "unitsFamilies", inPlace := ["internal/bytealg.IndexByteString", "internal/bytealg.IndexString"], unfollowed := true, recurses := true, named := ["unicode/utf8.first", "unicode/utf8.acceptRanges", "internal/bytealg.MaxLen"], apart := false, laid := [("unicode/utf8.acceptRanges", laid_unicode_utf8_acceptRanges), ("unicode/utf8.first", laid_unicode_utf8_first)], narrowed := true }
def UnitsFamiliesUptoSaid : Prop := unitsFamiliesUptoRow.holds Tryd.pinned (OpenSpec.upto unitsFamiliesSpec)

end Rows
end Go.Proofs.YtpgnaffcbbghgaaDoor
