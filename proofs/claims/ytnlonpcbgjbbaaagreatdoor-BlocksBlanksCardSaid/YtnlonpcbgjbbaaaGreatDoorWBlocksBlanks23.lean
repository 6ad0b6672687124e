/-
  BlocksBlanks, part 23 of its proof: that it returns true for every input, and each argument reads behind the call as it read before. Conditions: the listed variables read as the program's text lays them (tied by the card).
-/
import Derived.Test.YtnlonpcbgjbbaaaGreatDoorWBlocksBlanks22
import Derived.Test.YtnlonpcbgjbbaaaGreatDoorCards
set_option linter.unusedVariables false
set_option linter.unusedSimpArgs false
set_option maxRecDepth 20000
set_option linter.unusedVariables false
set_option linter.unusedSimpArgs false
set_option maxRecDepth 20000
namespace Go.Proofs.YtnlonpcbgjbbaaaGreatDoor
open Go.Proofs.Tryz (func4)
open Go Go.E RowKit ChangeShapes WideShapes
attribute [local irreducible] Go.E.T Go.E.L Go.E.O Go.E.Ob
theorem zF:(Rows.blocksBlanksRow.inPlace == Tryz.prog.inPlace 4)=true:=by kernel_rfl
theorem zG:(Rows.blocksBlanksRow.unfollowed == Tryz.prog.unfollowed 4)=true:=by kernel_rfl
theorem zH:(Rows.blocksBlanksRow.recurses == Tryz.prog.recurses 4)=true:=by kernel_rfl
theorem zI:(Rows.blocksBlanksRow.named == Tryz.prog.varsNamed 4)=true:=by kernel_rfl
theorem rX:joinedFacts Tryz.prog 4 Tryz.f4 Rows.blocksBlanksSpec Rows.blocksBlanksRow=true:=by
 unfold joinedFacts
 rw [zF,zG,zH,zI]
 kernel_rfl
theorem uP:Rows.BlocksBlanksSaid :=
 OpenClaim.holds_of_wide 4 Tryz.f4 rfl rfl rfl rfl rfl rfl rfl ⟨rfl,rfl,rfl,rfl,rfl⟩ rfl rfl rfl rfl rfl (by kernel_rfl) func4 rX
  (of_decide_eq_true (by kernel_rfl)) (by unfold Func.isWrapper;first|(rw [if_pos (by decide +kernel)];kernel_rfl)|(rw [if_neg (by decide +kernel)];exact ⟨rfl,rfl⟩))
  (fun os started H enc _=>qh os started H enc)
theorem blocksBlanks_holds:Rows.BlocksBlanksCardSaid :=
 Claim7.holds_tied_plain_at .later [] [.data, .data, .data, .data, .sentinel, .sentinel, .pinned] true (true, "849563bfc0b6bf2ff6a248124b263b5fb7ede1952df6ea2046a50e50889bd220") true
  uP (fun _ h=>by cases h) (by kernel_rfl) (fun _ h=>by cases h) blocksBlanks_row_tie rfl ⟨rfl,rfl⟩ (by kernel_rfl) rfl
  (fun f fn hf hfn=>by
   obtain rfl:f=4:=Option.some.inj ((show Tryz.prog.funcNamed Rows.blocksBlanksRow.func=some 4 by kernel_rfl).symm.trans hf) |>.symm
   obtain rfl:fn=Tryz.f4:=(Option.some.inj (func4.symm.trans hfn)).symm
   exact ⟨by kernel_rfl,fun j t ht=>by
    rw [Tryz.params4] at ht
    have hall:(([59,5]:List TypeId).all fun t=>!Tryz.prog.wantsStandIn t)=true:=by kernel_rfl
    have:=List.all_eq_true.1 hall t (List.mem_of_getElem? (i:=j) (by simpa using ht))
    have h2:Tryz.prog.wantsStandIn t=false:=by simpa using this
    exact h2⟩)
  (by kernel_rfl)
#print axioms blocksBlanks_holds
end Go.Proofs.YtnlonpcbgjbbaaaGreatDoor
