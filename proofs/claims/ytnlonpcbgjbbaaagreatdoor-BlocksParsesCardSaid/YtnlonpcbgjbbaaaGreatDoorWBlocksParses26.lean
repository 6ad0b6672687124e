/-
  BlocksParses, part 26 of its proof: that it returns true for every input, and each argument reads behind the call as it read before. Conditions: the listed variables read as the program's text lays them (tied by the card).
-/
import Derived.Test.YtnlonpcbgjbbaaaGreatDoorWBlocksParses24
import Derived.Test.YtnlonpcbgjbbaaaGreatDoorWBlocksParses25
set_option linter.unusedVariables false
set_option linter.unusedSimpArgs false
set_option maxRecDepth 20000
namespace Go.Proofs.YtnlonpcbgjbbaaaGreatDoor
open Go.Proofs.Tryz
open Go Go.E RowKit ChangeShapes WideShapes
attribute [local irreducible] Go.E.T Go.E.L Go.E.O Go.E.Ob
set_option maxRecDepth 100000 in
theorem xk (os:Os) (started:os.Started) (H:Type) (enc:TypeId × Value→H) :
  ReturnsInHanded {} Tryz.checked os 7 .any (fun w args=>(Rows.blocksParsesSpec.pre enc Tryz.prog Tryz.f7 [] false w args∧laidMetH Tryz.prog UW w)∧sizedMet enc Tryz.prog Tryz.f7 (OpenSpec.ofChange Rows.blocksParsesSpec) false w args)
   (Rows.blocksParsesSpec.post enc Tryz.prog Tryz.f7 false true false false):=by
 refine OD (C:=Tryz.checked) (X:=fun w _=>laidMetH Tryz.prog UW w) (tb:=4) (ts:=[59,59,99,9]) (fun _ _ _ g h=>h.of_heap g) own started krX func7
  rfl Tryz.params7 (fun ds h=>?_) krX Tryz.underlying4 laidOut krX
  (ChangeSpec.witness_at (enc:=enc) (C:=Tryz.checked) (os:=os) (X:=fun w _=>laidMetH Tryz.prog UW w) false (laidWorld os) #[.agg #[.int .u8 0,.int .u8 0,.slice none 0 0,.slice none 0 0,.bool false,.int .u8 0,.int .u8 0,.int .u8 0,.slice none 0 0,.int .u8 0],.agg #[.int .u8 0,.int .u8 0,.slice none 0 0,.slice none 0 0,.bool false,.int .u8 0,.int .u8 0,.int .u8 0,.slice none 0 0,.int .u8 0],.agg #[.int .u16 0,.int .u8 0,.string ⟨#[]⟩,.bool false,.int .u16 0,.int .u8 0,.string ⟨#[]⟩,.bool false,.int .u16 0,.int .u8 0,.string ⟨#[]⟩,.bool false],.string ⟨#[]⟩] 8 (World.laidAll_os _ _ _) krX krX krX krX krX (laidWorld_met os _)) ?_
 ·obtain ⟨a0,i,a2,a3,rfl⟩:=Yr h
  rfl
 intro W vs j ha m hX a
 have hL:=Qz hX a
 obtain ⟨a0,i,a2,a3,rfl⟩:=Yr j
 obtain ⟨d,rfl,k⟩:=SB (ha 0 _ _ rfl rfl)
 obtain ⟨d2,rfl,b⟩:=SB (ha 1 _ _ rfl rfl)
 obtain ⟨x0,x1,x2,rfl,c,e,f⟩:=adP (ha 2 _ _ rfl rfl)
 obtain ⟨t,rfl,l⟩:=Yu (ha 3 _ _ rfl rfl)
 exact yY d d2 x0 x1 x2 t W k b c e f l hL
end Go.Proofs.YtnlonpcbgjbbaaaGreatDoor
