/-
  BlocksOver, part 21 of its proof: that it returns true for every input, and each argument reads behind the call as it read before. Conditions: the listed variables read as the program's text lays them (tied by the card).
-/
import Derived.Test.YtnlonpcbgjbbaaaGreatDoorWBlocksOver19
import Derived.Test.YtnlonpcbgjbbaaaGreatDoorWBlocksOver20
set_option linter.unusedVariables false
set_option linter.unusedSimpArgs false
set_option maxRecDepth 20000
set_option linter.unusedVariables false
set_option linter.unusedSimpArgs false
set_option maxRecDepth 20000
namespace Go.Proofs.YtnlonpcbgjbbaaaGreatDoor
open Go.Proofs.Tryz (func8)
open Go Go.E RowKit ChangeShapes WideShapes
attribute [local irreducible] Go.E.T Go.E.L Go.E.O Go.E.Ob

set_option maxRecDepth 100000 in
theorem blocksOver_lifted (os:Os) (started:os.Started) (H:Type) (enc:TypeId × Value→H) :
  ReturnsInHanded {} Tryz.checked os 8 .any (fun w args=>(Rows.blocksOverSpec.pre enc Tryz.prog Tryz.f8 [] false w args∧laidMetH Tryz.prog laidV w)∧sizedMet enc Tryz.prog Tryz.f8 (OpenSpec.ofChange Rows.blocksOverSpec) false w args)
   (Rows.blocksOverSpec.post enc Tryz.prog Tryz.f8 false true false false):=by
 refine law_liftedS (C:=Tryz.checked) (X:=fun w _=>laidMetH Tryz.prog laidV w) (tb:=4) (ts:=[59,54,54,5]) (fun _ _ _ hh h=>h.of_heap hh) own started (by kernel_rfl) func8
  rfl Tryz.params8 (fun ds h=>?_) (by kernel_rfl) Tryz.underlying4 laidOut (by kernel_rfl)
  (ChangeSpec.witness_at (enc:=enc) (C:=Tryz.checked) (os:=os) (X:=fun w _=>laidMetH Tryz.prog laidV w) false (laidWorld os) #[.agg #[.int .u8 0,.int .u8 0,.slice none 0 0,.slice none 0 0,.bool false,.int .u8 0,.int .u8 0,.int .u8 0,.slice none 0 0,.int .u8 0],.slice none 0 0,.slice none 0 0,.int .u8 0] 8 (World.laidAll_os _ _ _) (by kernel_rfl) (by kernel_rfl) (by kernel_rfl) (by kernel_rfl) (by kernel_rfl) (laidWorld_met os _)) ?_
 ·obtain ⟨a0,a1,a2,a3,rfl⟩:=four_of h
  rfl
 ·intro W vs hl ha hz hX hsh
  have hL:=lib_of_laid hX hsh
  obtain ⟨a0,a1,a2,a3,rfl⟩:=four_of hl
  obtain ⟨d,rfl,hd⟩:=draft_of (ha 0 _ _ rfl rfl)
  obtain ⟨sa,hqa,la⟩:=u8s_of (ha 1 _ _ rfl rfl)
  obtain ⟨sb,hqb,lb⟩:=u8s_of (ha 2 _ _ rfl rfl)
  obtain ⟨m,rfl,hm⟩:=nat8_of (ha 3 _ _ rfl rfl)
  exact BlocksOver_calls 0 d _ _ sa sb m W hd hqa hqb la lb hL hm
end Go.Proofs.YtnlonpcbgjbbaaaGreatDoor
