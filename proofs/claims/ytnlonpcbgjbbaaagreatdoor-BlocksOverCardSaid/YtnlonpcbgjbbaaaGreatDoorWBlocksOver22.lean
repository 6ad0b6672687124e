/-
  BlocksOver, part 22 of its proof: that it returns true for every input, and each argument reads behind the call as it read before. Conditions: the listed variables read as the program's text lays them (tied by the card).
-/
import Derived.Test.YtnlonpcbgjbbaaaGreatDoorWBlocksOver21
import Derived.Test.YtnlonpcbgjbbaaaGreatDoorCards
set_option linter.unusedVariables false
set_option linter.unusedSimpArgs false
set_option maxRecDepth 20000
set_option linter.unusedVariables false
set_option linter.unusedSimpArgs false
set_option maxRecDepth 20000
namespace Go.Proofs.YtnlonpcbgjbbaaaGreatDoor
open Go.Proofs.Tryz (func8)
open Go Go.E RowKit ChangeShapes WideShapes
attribute [local irreducible] Go.E.T Go.E.L Go.E.O Go.E.Ob

theorem blocksOver_j1:(Rows.blocksOverRow.inPlace == Tryz.prog.inPlace 8)=true:=by kernel_rfl
theorem blocksOver_j2:(Rows.blocksOverRow.unfollowed == Tryz.prog.unfollowed 8)=true:=by kernel_rfl
theorem blocksOver_j3:(Rows.blocksOverRow.recurses == Tryz.prog.recurses 8)=true:=by kernel_rfl
theorem blocksOver_j4:(Rows.blocksOverRow.named == Tryz.prog.varsNamed 8)=true:=by kernel_rfl
theorem blocksOver_facts:joinedFacts Tryz.prog 8 Tryz.f8 Rows.blocksOverSpec Rows.blocksOverRow=true:=by
 unfold joinedFacts
 rw [blocksOver_j1,blocksOver_j2,blocksOver_j3,blocksOver_j4]
 kernel_rfl
theorem blocksOver_over:Rows.BlocksOverSaid :=
 OpenClaim.holds_of_wide 8 Tryz.f8 rfl rfl rfl rfl rfl rfl rfl ⟨rfl,rfl,rfl,rfl,rfl⟩ rfl rfl rfl rfl rfl (by kernel_rfl) func8 blocksOver_facts
  (of_decide_eq_true (by kernel_rfl)) (by unfold Func.isWrapper;first|(rw [if_pos (by decide +kernel)];kernel_rfl)|(rw [if_neg (by decide +kernel)];exact ⟨rfl,rfl⟩))
  (fun os started H enc _=>blocksOver_lifted os started H enc)
theorem blocksOver_holds:Rows.BlocksOverCardSaid :=
 Claim7.holds_tied_plain_at .later [] [.data, .data, .data, .data, .sentinel, .sentinel, .pinned] true (true, "849563bfc0b6bf2ff6a248124b263b5fb7ede1952df6ea2046a50e50889bd220") true
  blocksOver_over (fun _ h=>by cases h) (by kernel_rfl) (fun _ h=>by cases h) blocksOver_row_tie rfl ⟨rfl,rfl⟩ (by kernel_rfl) rfl
  (fun f fn hf hfn=>by
   obtain rfl:f=8:=Option.some.inj ((show Tryz.prog.funcNamed Rows.blocksOverRow.func=some 8 by kernel_rfl).symm.trans hf) |>.symm
   obtain rfl:fn=Tryz.f8:=(Option.some.inj (func8.symm.trans hfn)).symm
   exact ⟨by kernel_rfl,fun j t ht=>by
    rw [Tryz.params8] at ht
    have hall:(([59,54,54,5]:List TypeId).all fun t=>!Tryz.prog.wantsStandIn t)=true:=by kernel_rfl
    have:=List.all_eq_true.1 hall t (List.mem_of_getElem? (i:=j) (by simpa using ht))
    have h2:Tryz.prog.wantsStandIn t=false:=by simpa using this
    exact h2⟩)
  (by kernel_rfl)
#print axioms blocksOver_holds
end Go.Proofs.YtnlonpcbgjbbaaaGreatDoor
