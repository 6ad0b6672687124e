/-
  BlocksBack, part 23 of its proof: that it returns true for every input, and each argument reads behind the call as it read before. Conditions: the listed variables read as the program's text lays them (tied by the card).
-/
import Derived.Test.YtnlonpcbgjbbaaaGreatDoorWBlocksBack22
import Derived.Test.YtnlonpcbgjbbaaaGreatDoorCards
set_option linter.unusedVariables false
set_option linter.unusedSimpArgs false
set_option maxRecDepth 20000
set_option linter.unusedVariables false
set_option linter.unusedSimpArgs false
set_option maxRecDepth 20000
namespace Go.Proofs.YtnlonpcbgjbbaaaGreatDoor
open Go.Proofs.Tryz (func9)
open Go Go.E RowKit ChangeShapes WideShapes
attribute [local irreducible] Go.E.T Go.E.L Go.E.O Go.E.Ob
theorem ED:(Rows.blocksBackRow.inPlace == Tryz.prog.inPlace 9)=true:=by kernel_rfl
theorem EG:(Rows.blocksBackRow.unfollowed == Tryz.prog.unfollowed 9)=true:=by kernel_rfl
theorem EH:(Rows.blocksBackRow.recurses == Tryz.prog.recurses 9)=true:=by kernel_rfl
theorem EI:(Rows.blocksBackRow.named == Tryz.prog.varsNamed 9)=true:=by kernel_rfl
theorem wJ:joinedFacts Tryz.prog 9 Tryz.f9 Rows.blocksBackSpec Rows.blocksBackRow=true:=by
 unfold joinedFacts
 rw [ED,EG,EH,EI]
 kernel_rfl
theorem zM:Rows.BlocksBackSaid :=
 OpenClaim.holds_of_wide 9 Tryz.f9 rfl rfl rfl rfl rfl rfl rfl ⟨rfl,rfl,rfl,rfl,rfl⟩ rfl rfl rfl rfl rfl (by kernel_rfl) func9 wJ
  (of_decide_eq_true (by kernel_rfl)) (by unfold Func.isWrapper;first|(rw [if_pos (by decide +kernel)];kernel_rfl)|(rw [if_neg (by decide +kernel)];exact ⟨rfl,rfl⟩))
  (fun os started H enc _=>uM os started H enc)
theorem blocksBack_holds:Rows.BlocksBackCardSaid :=
 Claim7.holds_tied_plain_at .later [] [.data, .data, .data, .data, .sentinel, .sentinel, .pinned] true (true, "849563bfc0b6bf2ff6a248124b263b5fb7ede1952df6ea2046a50e50889bd220") true
  zM (fun _ h=>by cases h) (by kernel_rfl) (fun _ h=>by cases h) blocksBack_row_tie rfl ⟨rfl,rfl⟩ (by kernel_rfl) rfl
  (fun f fn hf hfn=>by
   obtain rfl:f=9:=Option.some.inj ((show Tryz.prog.funcNamed Rows.blocksBackRow.func=some 9 by kernel_rfl).symm.trans hf) |>.symm
   obtain rfl:fn=Tryz.f9:=(Option.some.inj (func9.symm.trans hfn)).symm
   exact ⟨by kernel_rfl,fun j t ht=>by
    rw [Tryz.params9] at ht
    have hall:(([59,54,5]:List TypeId).all fun t=>!Tryz.prog.wantsStandIn t)=true:=by kernel_rfl
    have:=List.all_eq_true.1 hall t (List.mem_of_getElem? (i:=j) (by simpa using ht))
    have h2:Tryz.prog.wantsStandIn t=false:=by simpa using this
    exact h2⟩)
  (by kernel_rfl)
#print axioms blocksBack_holds
end Go.Proofs.YtnlonpcbgjbbaaaGreatDoor
