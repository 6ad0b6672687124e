/-
  BlocksKnown, part 15 of its proof: that it returns true for every input, and each argument reads behind the call as it read before. Conditions: the listed variables read as the program's text lays them (tied by the card).
-/
import Derived.Test.YtnlonpcbgjbbaaaGreatDoorWBlocksKnown13
import Derived.Test.YtnlonpcbgjbbaaaGreatDoorWBlocksKnown14
import Derived.Test.YtnlonpcbgjbbaaaGreatDoorCards
set_option linter.unusedVariables false
set_option linter.unusedSimpArgs false
set_option maxRecDepth 20000
set_option linter.unusedVariables false
set_option linter.unusedSimpArgs false
set_option maxRecDepth 20000
namespace Go.Proofs.YtnlonpcbgjbbaaaGreatDoor
open Go.Proofs.Tryz (func3)
open Go Go.E RowKit ChangeShapes WideShapes
attribute [local irreducible] Go.E.T Go.E.L Go.E.O Go.E.Ob

set_option maxRecDepth 100000 in
theorem blocksKnown_lifted (os:Os) (started:os.Started) (H:Type) (enc:TypeId × Value→H) :
  ReturnsInHanded {} Tryz.checked os 3 .any (fun w args=>(Rows.blocksKnownSpec.pre enc Tryz.prog Tryz.f3 [] false w args∧laidMetH Tryz.prog laidV w)∧sizedMet enc Tryz.prog Tryz.f3 (OpenSpec.ofChange Rows.blocksKnownSpec) false w args)
   (Rows.blocksKnownSpec.post enc Tryz.prog Tryz.f3 false true false false):=by
 refine law_liftedS (C:=Tryz.checked) (X:=fun w _=>laidMetH Tryz.prog laidV w) (tb:=4) (ts:=[]) (fun _ _ _ hh h=>h.of_heap hh) own started (by kernel_rfl) func3
  rfl Tryz.params3 (fun ds h=>?_) (by kernel_rfl) Tryz.underlying4 laidOut (by kernel_rfl)
  (ChangeSpec.witness_at (enc:=enc) (C:=Tryz.checked) (os:=os) (X:=fun w _=>laidMetH Tryz.prog laidV w) false (laidWorld os) #[] 8 (World.laidAll_os _ _ _) (by kernel_rfl) (by kernel_rfl) (by kernel_rfl) (by kernel_rfl) (by kernel_rfl) (laidWorld_met os _)) ?_
 ·obtain rfl:=nil_of h
  rfl
 ·intro W vs hl ha hz hX hsh
  have hL:=lib_of_laid hX hsh
  obtain rfl:=nil_of hl
  exact BlocksKnown_calls W hL
theorem blocksKnown_over:Rows.BlocksKnownSaid :=
 OpenClaim.holds_of_wide 3 Tryz.f3 rfl rfl rfl rfl rfl rfl rfl ⟨rfl,rfl,rfl,rfl,rfl⟩ rfl rfl rfl rfl rfl (by kernel_rfl) func3 (by kernel_rfl)
  (of_decide_eq_true (by kernel_rfl)) (by unfold Func.isWrapper;first|(rw [if_pos (by decide +kernel)];kernel_rfl)|(rw [if_neg (by decide +kernel)];exact ⟨rfl,rfl⟩))
  (fun os started H enc _=>blocksKnown_lifted os started H enc)
theorem blocksKnown_holds:Rows.BlocksKnownCardSaid :=
 Claim7.holds_tied_plain_at .later [] [.data, .data, .data, .data, .sentinel, .sentinel, .pinned] true (true, "849563bfc0b6bf2ff6a248124b263b5fb7ede1952df6ea2046a50e50889bd220") true
  blocksKnown_over (fun _ h=>by cases h) (by kernel_rfl) (fun _ h=>by cases h) blocksKnown_row_tie rfl ⟨rfl,rfl⟩ (by kernel_rfl) rfl
  (fun f fn hf hfn=>by
   obtain rfl:f=3:=Option.some.inj ((show Tryz.prog.funcNamed Rows.blocksKnownRow.func=some 3 by kernel_rfl).symm.trans hf) |>.symm
   obtain rfl:fn=Tryz.f3:=(Option.some.inj (func3.symm.trans hfn)).symm
   exact ⟨by kernel_rfl,fun j t ht=>by
    rw [Tryz.params3] at ht
    simp at ht⟩)
  (by kernel_rfl)
#print axioms blocksKnown_holds
end Go.Proofs.YtnlonpcbgjbbaaaGreatDoor
