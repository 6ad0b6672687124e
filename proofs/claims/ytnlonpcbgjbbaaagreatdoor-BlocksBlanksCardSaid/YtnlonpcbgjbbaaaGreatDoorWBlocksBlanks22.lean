/-
  BlocksBlanks, part 22 of its proof: that it returns true for every input, and each argument reads behind the call as it read before. Conditions: the listed variables read as the program's text lays them (tied by the card).
-/
import Derived.Test.YtnlonpcbgjbbaaaGreatDoorWBlocksBlanks20
import Derived.Test.YtnlonpcbgjbbaaaGreatDoorWBlocksBlanks21
set_option linter.unusedVariables false
set_option linter.unusedSimpArgs false
set_option maxRecDepth 20000
set_option linter.unusedVariables false
set_option linter.unusedSimpArgs false
set_option maxRecDepth 20000
namespace Go.Proofs.YtnlonpcbgjbbaaaGreatDoor
open Go.Proofs.Tryz (func4)
open Go Go.E RowKit ChangeShapes WideShapes
attribute [local irreducible] Go.E.T Go.E.L Go.E.O Go.E.Ob
set_option maxRecDepth 100000 in
theorem qh (os:Os) (started:os.Started) (H:Type) (enc:TypeId × Value→H) :
  ReturnsInHanded {} Tryz.checked os 4 .any (fun w args=>(Rows.blocksBlanksSpec.pre enc Tryz.prog Tryz.f4 [] false w args∧laidMetH Tryz.prog OM w)∧sizedMet enc Tryz.prog Tryz.f4 (OpenSpec.ofChange Rows.blocksBlanksSpec) false w args)
   (Rows.blocksBlanksSpec.post enc Tryz.prog Tryz.f4 false true false false):=by
 refine IV (C:=Tryz.checked) (X:=fun w _=>laidMetH Tryz.prog OM w) (tb:=4) (ts:=[59,5]) (fun _ _ _ hh h=>h.of_heap hh) own started (by kernel_rfl) func4
  rfl Tryz.params4 (fun ds h=>?_) (by kernel_rfl) Tryz.underlying4 laidOut (by kernel_rfl)
  (ChangeSpec.witness_at (enc:=enc) (C:=Tryz.checked) (os:=os) (X:=fun w _=>laidMetH Tryz.prog OM w) false (laidWorld os) #[.agg #[.int .u8 0,.int .u8 0,.slice none 0 0,.slice none 0 0,.bool false,.int .u8 0,.int .u8 0,.int .u8 0,.slice none 0 0,.int .u8 0],.int .u8 0] 8 (World.laidAll_os _ _ _) (by kernel_rfl) (by kernel_rfl) (by kernel_rfl) (by kernel_rfl) (by kernel_rfl) (laidWorld_met os _)) ?_
 ·obtain ⟨a0,a1,rfl⟩:=XM h
  rfl
 intro W vs hl ha hz hX hsh
 have hL:=Kt hX hsh
 obtain ⟨a0,a1,rfl⟩:=XM hl
 obtain ⟨d,rfl,hd⟩:=W9 (ha 0 _ _ rfl rfl)
 obtain ⟨m,rfl,hm⟩:=ZJ (ha 1 _ _ rfl rfl)
 exact rW 0 d m W hd hL hm
end Go.Proofs.YtnlonpcbgjbbaaaGreatDoor
