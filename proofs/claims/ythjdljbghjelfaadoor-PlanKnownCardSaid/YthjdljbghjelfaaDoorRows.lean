/-
  NARROWER THAN 'FOR EVERY INPUT', by the rows' own cells (each row's printed sentence says how): PlanChecks: laid · PlanMoves: laid · PlanNames: laid · PlanReturns: laid · PlanDistances: laid · PlanParts: laid · PlanKnown: laid.
  DERIVED. THE GIVEN ROWS OF THIS SEAT. 7 by the template 'for every input the law returns true; each argument reads behind the call as it read before'; 0 by the template 'total and deterministic' (their statements: YthjdljbghjelfaaDoorTotals.lean).
  GIVEN WITH THE SEED: the statements are not yours to turn. If you find one false, say at which input.
  Laid BY PROGRAM, IN A SANDBOX (cutbox-rows.mjs): the forced cells as the released guide's own fill.sh prints them over the translation 8b20138eff0782f5… (all of the seat's roots in one cut). By AI agents, Wed Nov 11 2026. No macro, syntax, notation, axiom, sorry.
-/
import Derived.Test.YthjdljbghjelfaaDoorChecked
import GoSem.Claim
import GoSem.ClaimJoined
import GoSem.ClaimMapViews
import Derived.JoinedTies
import Derived.KernelRfl
namespace Go.Proofs.YthjdljbghjelfaaDoor
/- THE CELL 'sum', in the pinned program and in every row, IS THE sha256 OF THE DUMP (.gsa) THAT YthjdljbghjelfaaDoorProg.lean LOADS. Nothing in Lean hashes anything: it is a label: what it is worth is what the hold of that sum in a sandbox is worth. -/
noncomputable def Tryd.pinned : Pinned := { name := "ythjdljbghjelfaadoor", sum := "8b20138eff0782f51b92d985c6d056827b8028a47c66785ce31c1c930f9991ed", checked := Tryd.checked }
namespace Rows
def none {H : Type} : Left H := { results := [], args := [] }

/- WHAT THE LISTED PACKAGE-LEVEL VARIABLES READ AS WHEN THE CALL BEGINS. Each datum BY PROGRAM (the guide's laid-datum.mjs) off the statement by which the dump's own 'gosem.cut.vars' lays the variable. In a bare row this is a premise. The card (YthjdljbghjelfaaDoorCards.lean) ties it to the program's text. -/
def laid_math_bits_deBruijn64tab {H : Type} : DataW H := .agg [.lit (.int .u8 0), .lit (.int .u8 1), .lit (.int .u8 56), .lit (.int .u8 2), .lit (.int .u8 57), .lit (.int .u8 49), .lit (.int .u8 28), .lit (.int .u8 3), .lit (.int .u8 61), .lit (.int .u8 58), .lit (.int .u8 42), .lit (.int .u8 50), .lit (.int .u8 38), .lit (.int .u8 29), .lit (.int .u8 17), .lit (.int .u8 4), .lit (.int .u8 62), .lit (.int .u8 47), .lit (.int .u8 59), .lit (.int .u8 36), .lit (.int .u8 45), .lit (.int .u8 43), .lit (.int .u8 51), .lit (.int .u8 22), .lit (.int .u8 53), .lit (.int .u8 39), .lit (.int .u8 33), .lit (.int .u8 30), .lit (.int .u8 24), .lit (.int .u8 18), .lit (.int .u8 12), .lit (.int .u8 5), .lit (.int .u8 63), .lit (.int .u8 55), .lit (.int .u8 48), .lit (.int .u8 27), .lit (.int .u8 60), .lit (.int .u8 41), .lit (.int .u8 37), .lit (.int .u8 16), .lit (.int .u8 46), .lit (.int .u8 35), .lit (.int .u8 44), .lit (.int .u8 21), .lit (.int .u8 52), .lit (.int .u8 32), .lit (.int .u8 23), .lit (.int .u8 11), .lit (.int .u8 54), .lit (.int .u8 26), .lit (.int .u8 40), .lit (.int .u8 15), .lit (.int .u8 34), .lit (.int .u8 20), .lit (.int .u8 31), .lit (.int .u8 10), .lit (.int .u8 25), .lit (.int .u8 14), .lit (.int .u8 19), .lit (.int .u8 9), .lit (.int .u8 13), .lit (.int .u8 8), .lit (.int .u8 7), .lit (.int .u8 6)]

/-- 'wardmotelaw21.PlanChecks': WHATEVER THE INPUT: true; the input reads as it did. -/
def planChecksSpec : ChangeSpec := { name := "planChecks", fn := fun _ => fun
  | [d1, d2, d3] => { results := [.lit (.bool true)], args := [d1, d2, d3] }
  | _ => none }
def planChecksRow : OpenClaim := { program := "ythjdljbghjelfaadoor", sum := "8b20138eff0782f51b92d985c6d056827b8028a47c66785ce31c1c930f9991ed", func := "wardmote/wardmotelaw21.PlanChecks", spec := "planChecks", unfollowed := true, recurses := true, named := ["math/bits.deBruijn64tab"], apart := false, laid := [("math/bits.deBruijn64tab", laid_math_bits_deBruijn64tab)] }
def PlanChecksSaid : Prop := planChecksRow.holds Tryd.pinned (OpenSpec.ofChange planChecksSpec)

/-- ITS FALSE NEIGHBOUR: 'it returns false'. Refute it at one input. -/
def planChecksWrong : ChangeSpec := { name := "planChecks", fn := fun _ => fun
  | [d1, d2, d3] => { results := [.lit (.bool false)], args := [d1, d2, d3] }
  | _ => none }
def PlanChecksWrongFalsely : Prop := planChecksRow.holds Tryd.pinned (OpenSpec.ofChange planChecksWrong)

/-- 'wardmotelaw21.PlanMoves': WHATEVER THE INPUT: true; the input reads as it did. -/
def planMovesSpec : ChangeSpec := { name := "planMoves", fn := fun _ => fun
  | [d1, d2, d3, d4, d5] => { results := [.lit (.bool true)], args := [d1, d2, d3, d4, d5] }
  | _ => none }
def planMovesRow : OpenClaim := { program := "ythjdljbghjelfaadoor", sum := "8b20138eff0782f51b92d985c6d056827b8028a47c66785ce31c1c930f9991ed", func := "wardmote/wardmotelaw21.PlanMoves", spec := "planMoves", unfollowed := true, recurses := true, named := ["math/bits.deBruijn64tab"], apart := false, laid := [("math/bits.deBruijn64tab", laid_math_bits_deBruijn64tab)] }
def PlanMovesSaid : Prop := planMovesRow.holds Tryd.pinned (OpenSpec.ofChange planMovesSpec)

/-- ITS FALSE NEIGHBOUR: 'it returns false'. Refute it at one input. -/
def planMovesWrong : ChangeSpec := { name := "planMoves", fn := fun _ => fun
  | [d1, d2, d3, d4, d5] => { results := [.lit (.bool false)], args := [d1, d2, d3, d4, d5] }
  | _ => none }
def PlanMovesWrongFalsely : Prop := planMovesRow.holds Tryd.pinned (OpenSpec.ofChange planMovesWrong)

/-- 'wardmotelaw21.PlanNames': WHATEVER THE INPUT: true; the input reads as it did. -/
def planNamesSpec : ChangeSpec := { name := "planNames", fn := fun _ => fun
  | [d1, d2, d3, d4] => { results := [.lit (.bool true)], args := [d1, d2, d3, d4] }
  | _ => none }
def planNamesRow : OpenClaim := { program := "ythjdljbghjelfaadoor", sum := "8b20138eff0782f51b92d985c6d056827b8028a47c66785ce31c1c930f9991ed", func := "wardmote/wardmotelaw21.PlanNames", spec := "planNames", unfollowed := true, recurses := true, named := ["math/bits.deBruijn64tab"], apart := false, laid := [("math/bits.deBruijn64tab", laid_math_bits_deBruijn64tab)] }
def PlanNamesSaid : Prop := planNamesRow.holds Tryd.pinned (OpenSpec.ofChange planNamesSpec)

/-- ITS FALSE NEIGHBOUR: 'it returns false'. Refute it at one input. -/
def planNamesWrong : ChangeSpec := { name := "planNames", fn := fun _ => fun
  | [d1, d2, d3, d4] => { results := [.lit (.bool false)], args := [d1, d2, d3, d4] }
  | _ => none }
def PlanNamesWrongFalsely : Prop := planNamesRow.holds Tryd.pinned (OpenSpec.ofChange planNamesWrong)

/-- 'wardmotelaw21.PlanReturns': WHATEVER THE INPUT: true; the input reads as it did. -/
def planReturnsSpec : ChangeSpec := { name := "planReturns", fn := fun _ => fun
  | [d] => { results := [.lit (.bool true)], args := [d] }
  | _ => none }
def planReturnsRow : OpenClaim := { program := "ythjdljbghjelfaadoor", sum := "8b20138eff0782f51b92d985c6d056827b8028a47c66785ce31c1c930f9991ed", func := "wardmote/wardmotelaw21.PlanReturns", spec := "planReturns", unfollowed := true, recurses := true, named := ["math/bits.deBruijn64tab"], apart := false, laid := [("math/bits.deBruijn64tab", laid_math_bits_deBruijn64tab)] }
def PlanReturnsSaid : Prop := planReturnsRow.holds Tryd.pinned (OpenSpec.ofChange planReturnsSpec)

/-- ITS FALSE NEIGHBOUR: 'it returns false'. Refute it at one input. -/
def planReturnsWrong : ChangeSpec := { name := "planReturns", fn := fun _ => fun
  | [d] => { results := [.lit (.bool false)], args := [d] }
  | _ => none }
def PlanReturnsWrongFalsely : Prop := planReturnsRow.holds Tryd.pinned (OpenSpec.ofChange planReturnsWrong)

/-- 'wardmotelaw21.PlanDistances': WHATEVER THE INPUT: true; the input reads as it did. -/
def planDistancesSpec : ChangeSpec := { name := "planDistances", fn := fun _ => fun
  | [d1, d2, d3] => { results := [.lit (.bool true)], args := [d1, d2, d3] }
  | _ => none }
def planDistancesRow : OpenClaim := { program := "ythjdljbghjelfaadoor", sum := "8b20138eff0782f51b92d985c6d056827b8028a47c66785ce31c1c930f9991ed", func := "wardmote/wardmotelaw21.PlanDistances", spec := "planDistances", unfollowed := true, recurses := true, named := ["math/bits.deBruijn64tab"], apart := false, laid := [("math/bits.deBruijn64tab", laid_math_bits_deBruijn64tab)] }
def PlanDistancesSaid : Prop := planDistancesRow.holds Tryd.pinned (OpenSpec.ofChange planDistancesSpec)

/-- ITS FALSE NEIGHBOUR: 'it returns false'. Refute it at one input. -/
def planDistancesWrong : ChangeSpec := { name := "planDistances", fn := fun _ => fun
  | [d1, d2, d3] => { results := [.lit (.bool false)], args := [d1, d2, d3] }
  | _ => none }
def PlanDistancesWrongFalsely : Prop := planDistancesRow.holds Tryd.pinned (OpenSpec.ofChange planDistancesWrong)

/-- 'wardmotelaw21.PlanParts': WHATEVER THE INPUT: true; the input reads as it did. -/
def planPartsSpec : ChangeSpec := { name := "planParts", fn := fun _ => fun
  | [d] => { results := [.lit (.bool true)], args := [d] }
  | _ => none }
def planPartsRow : OpenClaim := { program := "ythjdljbghjelfaadoor", sum := "8b20138eff0782f51b92d985c6d056827b8028a47c66785ce31c1c930f9991ed", func := "wardmote/wardmotelaw21.PlanParts", spec := "planParts", unfollowed := true, recurses := true, named := ["math/bits.deBruijn64tab"], apart := false, laid := [("math/bits.deBruijn64tab", laid_math_bits_deBruijn64tab)] }
def PlanPartsSaid : Prop := planPartsRow.holds Tryd.pinned (OpenSpec.ofChange planPartsSpec)

/-- ITS FALSE NEIGHBOUR: 'it returns false'. Refute it at one input. -/
def planPartsWrong : ChangeSpec := { name := "planParts", fn := fun _ => fun
  | [d] => { results := [.lit (.bool false)], args := [d] }
  | _ => none }
def PlanPartsWrongFalsely : Prop := planPartsRow.holds Tryd.pinned (OpenSpec.ofChange planPartsWrong)

/-- 'wardmotelaw21.PlanKnown': WHATEVER THE INPUT: true; the input reads as it did. -/
def planKnownSpec : ChangeSpec := { name := "planKnown", fn := fun _ => fun
  | [] => { results := [.lit (.bool true)], args := [] }
  | _ => none }
def planKnownRow : OpenClaim := { program := "ythjdljbghjelfaadoor", sum := "8b20138eff0782f51b92d985c6d056827b8028a47c66785ce31c1c930f9991ed", func := "wardmote/wardmotelaw21.PlanKnown", spec := "planKnown", unfollowed := true, recurses := true, named := ["math/bits.deBruijn64tab"], apart := false, laid := [("math/bits.deBruijn64tab", laid_math_bits_deBruijn64tab)] }
def PlanKnownSaid : Prop := planKnownRow.holds Tryd.pinned (OpenSpec.ofChange planKnownSpec)

/-- ITS FALSE NEIGHBOUR: 'it returns false'. Refute it at one input. -/
def planKnownWrong : ChangeSpec := { name := "planKnown", fn := fun _ => fun
  | [] => { results := [.lit (.bool false)], args := [] }
  | _ => none }
def PlanKnownWrongFalsely : Prop := planKnownRow.holds Tryd.pinned (OpenSpec.ofChange planKnownWrong)

/- THE SECOND FORM. 'bulk': how many values and letters a reading holds, each counted each time it is reached (what is shared counts as often as it is met; a slice's spare places count too). A statement '..UptoSaid' is the law's where the arguments, and the package variables that the reading takes, are together of bulk at most 1048576: NARROWER than '..Said'. Prove '..Said' where nothing that the law and all that it calls make is longer than what came in: it says more and counts as full. Else prove '..UptoSaid'. A law counts once. -/
mutual
def uptoBulk {H : Type} : DataW H → Nat
  | .lit (.string bytes) => bytes.length + 1
  | .lit _ => 1
  | .nil => 1
  | .ptr d => uptoBulk d + 1
  | .slice elems spare => uptoBulkAll elems + uptoBulkAll spare + 1
  | .agg parts => uptoBulkAll parts + 1
  | .iface _ d => uptoBulk d + 1
  | .map entries => uptoBulkEntries entries + 1
  | .held _ => 1
def uptoBulkAll {H : Type} : List (DataW H) → Nat
  | [] => 0
  | d :: r => uptoBulk d + uptoBulkAll r
def uptoBulkEntries {H : Type} : List (Lit × DataW H) → Nat
  | [] => 0
  | x :: r => uptoBulkEntry x + uptoBulkEntries r
def uptoBulkEntry {H : Type} : Lit × DataW H → Nat
  | (.string bytes, d) => bytes.length + uptoBulk d + 1
  | (_, d) => uptoBulk d + 1
 end
def uptoSmall : (H : Type) → List (DataW H) → Bool := fun _ ds => decide (uptoBulkAll ds ≤ 1048576)
def OpenSpec.upto (s : _root_.Go.ChangeSpec) : _root_.Go.OpenSpec := { _root_.Go.OpenSpec.ofChange s with cond := some uptoSmall }

/-- 'wardmotelaw21.PlanChecks', WHERE WHAT IT READS IS OF BULK AT MOST 1048576: true; the input reads as it did. -/
def planChecksUptoRow : OpenClaim := { program := "ythjdljbghjelfaadoor", sum := "8b20138eff0782f51b92d985c6d056827b8028a47c66785ce31c1c930f9991ed", func := "wardmote/wardmotelaw21.PlanChecks", spec := "planChecks", unfollowed := true, recurses := true, named := ["math/bits.deBruijn64tab"], apart := false, laid := [("math/bits.deBruijn64tab", laid_math_bits_deBruijn64tab)], narrowed := true }
def PlanChecksUptoSaid : Prop := planChecksUptoRow.holds Tryd.pinned (OpenSpec.upto planChecksSpec)

/-- 'wardmotelaw21.PlanMoves', WHERE WHAT IT READS IS OF BULK AT MOST 1048576: true; the input reads as it did. -/
def planMovesUptoRow : OpenClaim := { program := "ythjdljbghjelfaadoor", sum := "8b20138eff0782f51b92d985c6d056827b8028a47c66785ce31c1c930f9991ed", func := "wardmote/wardmotelaw21.PlanMoves", spec := "planMoves", unfollowed := true, recurses := true, named := ["math/bits.deBruijn64tab"], apart := false, laid := [("math/bits.deBruijn64tab", laid_math_bits_deBruijn64tab)], narrowed := true }
def PlanMovesUptoSaid : Prop := planMovesUptoRow.holds Tryd.pinned (OpenSpec.upto planMovesSpec)

/-- 'wardmotelaw21.PlanNames', WHERE WHAT IT READS IS OF BULK AT MOST 1048576: true; the input reads as it did. -/
def planNamesUptoRow : OpenClaim := { program := "ythjdljbghjelfaadoor", sum := "8b20138eff0782f51b92d985c6d056827b8028a47c66785ce31c1c930f9991ed", func := "wardmote/wardmotelaw21.PlanNames", spec := "planNames", unfollowed := true, recurses := true, named := ["math/bits.deBruijn64tab"], apart := false, laid := [("math/bits.deBruijn64tab", laid_math_bits_deBruijn64tab)], narrowed := true }
def PlanNamesUptoSaid : Prop := planNamesUptoRow.holds Tryd.pinned (OpenSpec.upto planNamesSpec)

/-- 'wardmotelaw21.PlanReturns', WHERE WHAT IT READS IS OF BULK AT MOST 1048576: true; the input reads as it did. -/
def planReturnsUptoRow : OpenClaim := { program := "ythjdljbghjelfaadoor", sum := "8b20138eff0782f51b92d985c6d056827b8028a47c66785ce31c1c930f9991ed", func := "wardmote/wardmotelaw21.PlanReturns", spec := "planReturns", unfollowed := true, recurses := true, named := ["math/bits.deBruijn64tab"], apart := false, laid := [("math/bits.deBruijn64tab", laid_math_bits_deBruijn64tab)], narrowed := true }
def PlanReturnsUptoSaid : Prop := planReturnsUptoRow.holds Tryd.pinned (OpenSpec.upto planReturnsSpec)

/-- 'wardmotelaw21.PlanDistances', WHERE WHAT IT READS IS OF BULK AT MOST 1048576: true; the input reads as it did. -/
def planDistancesUptoRow : OpenClaim := { program := "ythjdljbghjelfaadoor", sum := "8b20138eff0782f51b92d985c6d056827b8028a47c66785ce31c1c930f9991ed", func := "wardmote/wardmotelaw21.PlanDistances", spec := "planDistances", unfollowed := true, recurses := true, named := ["math/bits.deBruijn64tab"], apart := false, laid := [("math/bits.deBruijn64tab", laid_math_bits_deBruijn64tab)], narrowed := true }
def PlanDistancesUptoSaid : Prop := planDistancesUptoRow.holds Tryd.pinned (OpenSpec.upto planDistancesSpec)

/-- 'wardmotelaw21.PlanParts', WHERE WHAT IT READS IS OF BULK AT MOST 1048576: true; the input reads as it did. -/
def planPartsUptoRow : OpenClaim := { program := "ythjdljbghjelfaadoor", sum := "8b20138eff0782f51b92d985c6d056827b8028a47c66785ce31c1c930f9991ed", func := "wardmote/wardmotelaw21.PlanParts", spec := "planParts", unfollowed := true, recurses := true, named := ["math/bits.deBruijn64tab"], apart := false, laid := [("math/bits.deBruijn64tab", laid_math_bits_deBruijn64tab)], narrowed := true }
def PlanPartsUptoSaid : Prop := planPartsUptoRow.holds Tryd.pinned (OpenSpec.upto planPartsSpec)

/-- 'wardmotelaw21.PlanKnown', WHERE WHAT IT READS IS OF BULK AT MOST 1048576: true; the input reads as it did. -/
def planKnownUptoRow : OpenClaim := { program := "ythjdljbghjelfaadoor", sum := "8b20138eff0782f51b92d985c6d056827b8028a47c66785ce31c1c930f9991ed", func := "wardmote/wardmotelaw21.PlanKnown", spec := "planKnown", unfollowed := true, recurses := true, named := ["math/bits.deBruijn64tab"], apart := false, laid := [("math/bits.deBruijn64tab", laid_math_bits_deBruijn64tab)], narrowed := true }
def PlanKnownUptoSaid : Prop := planKnownUptoRow.holds Tryd.pinned (OpenSpec.upto planKnownSpec)

end Rows
end Go.Proofs.YthjdljbghjelfaaDoor
