/-
  BlocksReads, part 22 of its proof: that it returns true for every input, and each argument reads behind the call as it read before. Conditions: the listed variables read as the program's text lays them (tied by the card).
-/
import Derived.Test.YtnlonpcbgjbbaaaGreatDoorWBlocksReads21
import Derived.Test.YtnlonpcbgjbbaaaGreatDoorCards
set_option linter.unusedVariables false
set_option linter.unusedSimpArgs false
set_option maxRecDepth 20000
set_option linter.unusedVariables false
set_option linter.unusedSimpArgs false
set_option maxRecDepth 20000
namespace Go.Proofs.YtnlonpcbgjbbaaaGreatDoor
open Go.Proofs.Tryz (func6)
open Go Go.E RowKit ChangeShapes WideShapes
attribute [local irreducible] Go.E.T Go.E.L Go.E.O Go.E.Ob
theorem zL:(Rows.blocksReadsRow.inPlace == Tryz.prog.inPlace 6)=true:=by kernel_rfl
theorem zM:(Rows.blocksReadsRow.unfollowed == Tryz.prog.unfollowed 6)=true:=by kernel_rfl
theorem zN:(Rows.blocksReadsRow.recurses == Tryz.prog.recurses 6)=true:=by kernel_rfl
theorem zO:(Rows.blocksReadsRow.named == Tryz.prog.varsNamed 6)=true:=by kernel_rfl
theorem uy:joinedFacts Tryz.prog 6 Tryz.f6 Rows.blocksReadsSpec Rows.blocksReadsRow=true:=by
 unfold joinedFacts
 rw [zL,zM,zN,zO]
 kernel_rfl
theorem vT:Rows.BlocksReadsSaid :=
 OpenClaim.holds_of_wide 6 Tryz.f6 rfl rfl rfl rfl rfl rfl rfl ⟨rfl,rfl,rfl,rfl,rfl⟩ rfl rfl rfl rfl rfl (by kernel_rfl) func6 uy
  (of_decide_eq_true (by kernel_rfl)) (by unfold Func.isWrapper;first|(rw [if_pos (by decide +kernel)];kernel_rfl)|(rw [if_neg (by decide +kernel)];exact ⟨rfl,rfl⟩))
  (fun os started H enc _=>rG os started H enc)
theorem blocksReads_holds:Rows.BlocksReadsCardSaid :=
 Claim7.holds_tied_plain_at .later [] [.data, .data, .data, .data, .sentinel, .sentinel, .pinned] true (true, "849563bfc0b6bf2ff6a248124b263b5fb7ede1952df6ea2046a50e50889bd220") true
  vT (fun _ h=>by cases h) (by kernel_rfl) (fun _ h=>by cases h) blocksReads_row_tie rfl ⟨rfl,rfl⟩ (by kernel_rfl) rfl
  (fun f fn hf hfn=>by
   obtain rfl:f=6:=Option.some.inj ((show Tryz.prog.funcNamed Rows.blocksReadsRow.func=some 6 by kernel_rfl).symm.trans hf) |>.symm
   obtain rfl:fn=Tryz.f6:=(Option.some.inj (func6.symm.trans hfn)).symm
   exact ⟨by kernel_rfl,fun j t ht=>by
    rw [Tryz.params6] at ht
    have hall:(([59,54,5,3,90,31,9,25]:List TypeId).all fun t=>!Tryz.prog.wantsStandIn t)=true:=by kernel_rfl
    have:=List.all_eq_true.1 hall t (List.mem_of_getElem? (i:=j) (by simpa using ht))
    have h2:Tryz.prog.wantsStandIn t=false:=by simpa using this
    exact h2⟩)
  (by kernel_rfl)
#print axioms blocksReads_holds
end Go.Proofs.YtnlonpcbgjbbaaaGreatDoor
