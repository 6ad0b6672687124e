/-
  BlocksBack, part 22 of its proof: that it returns true for every input, and each argument reads behind the call as it read before. Conditions: the listed variables read as the program's text lays them (tied by the card).
-/
import Derived.Test.YtnlonpcbgjbbaaaGreatDoorWBlocksBack20
import Derived.Test.YtnlonpcbgjbbaaaGreatDoorWBlocksBack21
set_option linter.unusedVariables false
set_option linter.unusedSimpArgs false
set_option maxRecDepth 20000
set_option linter.unusedVariables false
set_option linter.unusedSimpArgs false
set_option maxRecDepth 20000
namespace Go.Proofs.YtnlonpcbgjbbaaaGreatDoor
open Go.Proofs.Tryz (func9)
open Go Go.E RowKit ChangeShapes WideShapes
attribute [local irreducible] Go.E.T Go.E.L Go.E.O Go.E.Ob
set_option maxRecDepth 100000 in
theorem uM (os:Os) (started:os.Started) (H:Type) (enc:TypeId × Value→H) :
  ReturnsInHanded {} Tryz.checked os 9 .any (fun w args=>(Rows.blocksBackSpec.pre enc Tryz.prog Tryz.f9 [] false w args∧laidMetH Tryz.prog O4 w)∧sizedMet enc Tryz.prog Tryz.f9 (OpenSpec.ofChange Rows.blocksBackSpec) false w args)
   (Rows.blocksBackSpec.post enc Tryz.prog Tryz.f9 false true false false):=by
 refine IY (C:=Tryz.checked) (X:=fun w _=>laidMetH Tryz.prog O4 w) (tb:=4) (ts:=[59,54,5]) (fun _ _ _ hh h=>h.of_heap hh) own started (by kernel_rfl) func9
  rfl Tryz.params9 (fun ds h=>?_) (by kernel_rfl) Tryz.underlying4 laidOut (by kernel_rfl)
  (ChangeSpec.witness_at (enc:=enc) (C:=Tryz.checked) (os:=os) (X:=fun w _=>laidMetH Tryz.prog O4 w) false (laidWorld os) #[.agg #[.int .u8 0,.int .u8 0,.slice none 0 0,.slice none 0 0,.bool false,.int .u8 0,.int .u8 0,.int .u8 0,.slice none 0 0,.int .u8 0],.slice none 0 0,.int .u8 0] 8 (World.laidAll_os _ _ _) (by kernel_rfl) (by kernel_rfl) (by kernel_rfl) (by kernel_rfl) (by kernel_rfl) (laidWorld_met os _)) ?_
 ·obtain ⟨a0,a1,a2,rfl⟩:=three h
  rfl
 intro W vs hl ha hz hX hsh
 have hL:=KA hX hsh
 obtain ⟨a0,a1,a2,rfl⟩:=three hl
 obtain ⟨d,rfl,hd⟩:=Xo (ha 0 _ _ rfl rfl)
 obtain ⟨sa,hqa,la⟩:=ac3 (ha 1 _ _ rfl rfl)
 obtain ⟨m,rfl,hm⟩:=Z4 (ha 2 _ _ rfl rfl)
 exact wI 0 d _ sa m W hd hqa la hL hm
end Go.Proofs.YtnlonpcbgjbbaaaGreatDoor
