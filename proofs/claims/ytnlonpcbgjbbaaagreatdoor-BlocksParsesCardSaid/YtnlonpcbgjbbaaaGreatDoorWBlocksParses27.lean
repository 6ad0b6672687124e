/-
  BlocksParses, part 27 of its proof: that it returns true for every input, and each argument reads behind the call as it read before. Conditions: the listed variables read as the program's text lays them (tied by the card).
-/
import Derived.Test.YtnlonpcbgjbbaaaGreatDoorWBlocksParses26
import Derived.Test.YtnlonpcbgjbbaaaGreatDoorCards
set_option linter.unusedVariables false
set_option linter.unusedSimpArgs false
set_option maxRecDepth 20000
namespace Go.Proofs.YtnlonpcbgjbbaaaGreatDoor
open Go.Proofs.Tryz
open Go Go.E RowKit ChangeShapes WideShapes
attribute [local irreducible] Go.E.T Go.E.L Go.E.O Go.E.Ob
theorem EK:(Rows.blocksParsesRow.inPlace == Tryz.prog.inPlace 7)=true:=by kernel_rfl
theorem EL:(Rows.blocksParsesRow.unfollowed == Tryz.prog.unfollowed 7)=true:=by kernel_rfl
theorem EM:(Rows.blocksParsesRow.recurses == Tryz.prog.recurses 7)=true:=by kernel_rfl
theorem EN:(Rows.blocksParsesRow.named == Tryz.prog.varsNamed 7)=true:=by kernel_rfl
theorem yZ:joinedFacts Tryz.prog 7 Tryz.f7 Rows.blocksParsesSpec Rows.blocksParsesRow=true:=by
 unfold joinedFacts
 rw [EK,EL,EM,EN]
 kernel_rfl
theorem Ag:Rows.BlocksParsesSaid :=
 OpenClaim.holds_of_wide 7 Tryz.f7 rfl rfl rfl rfl rfl rfl rfl ⟨rfl,rfl,rfl,rfl,rfl⟩ rfl rfl rfl rfl rfl krX func7 yZ
  (of_decide_eq_true krX) (by unfold Func.isWrapper;first|(rw [if_pos (by decide +kernel)];kernel_rfl)|(rw [if_neg (by decide +kernel)];exact ⟨rfl,rfl⟩))
  (fun os started H enc _=>xk os started H enc)
theorem blocksParses_holds:Rows.BlocksParsesCardSaid :=
 Claim7.holds_tied_plain_at .later [] [.data, .data, .data, .data, .sentinel, .sentinel, .pinned] true (true, "849563bfc0b6bf2ff6a248124b263b5fb7ede1952df6ea2046a50e50889bd220") true
  Ag (fun _ h=>by cases h) krX (fun _ h=>by cases h) blocksParses_row_tie rfl ⟨rfl,rfl⟩ krX rfl
  (fun f fn hf b=>by
   obtain rfl:f=7:=Option.some.inj ((show Tryz.prog.funcNamed Rows.blocksParsesRow.func=some 7 by kernel_rfl).symm.trans hf) |>.symm
   obtain rfl:fn=Tryz.f7:=(Option.some.inj (func7.symm.trans b)).symm
   exact ⟨krX,fun j t c=>by
    rw [Tryz.params7] at c
    have a:(([59,59,99,9]:List TypeId).all fun t=>!Tryz.prog.wantsStandIn t)=true:=by kernel_rfl
    have:=List.all_eq_true.1 a t (List.mem_of_getElem? (i:=j) (by simpa using c))
    have d:Tryz.prog.wantsStandIn t=false:=by simpa using this
    exact d⟩)
  krX
#print axioms blocksParses_holds
end Go.Proofs.YtnlonpcbgjbbaaaGreatDoor
