/-
  BlocksReads, part 21 of its proof: that it returns true for every input, and each argument reads behind the call as it read before. Conditions: the listed variables read as the program's text lays them (tied by the card).
-/
import Derived.Test.YtnlonpcbgjbbaaaGreatDoorWBlocksReads19
import Derived.Test.YtnlonpcbgjbbaaaGreatDoorWBlocksReads20
set_option linter.unusedVariables false
set_option linter.unusedSimpArgs false
set_option maxRecDepth 20000
set_option linter.unusedVariables false
set_option linter.unusedSimpArgs false
set_option maxRecDepth 20000
namespace Go.Proofs.YtnlonpcbgjbbaaaGreatDoor
open Go.Proofs.Tryz (func6)
open Go Go.E RowKit ChangeShapes WideShapes
attribute [local irreducible] Go.E.T Go.E.L Go.E.O Go.E.Ob
set_option maxRecDepth 100000 in
theorem rG (os:Os) (started:os.Started) (H:Type) (enc:TypeId × Value→H) :
  ReturnsInHanded {} Tryz.checked os 6 .any (fun w args=>(Rows.blocksReadsSpec.pre enc Tryz.prog Tryz.f6 [] false w args∧laidMetH Tryz.prog Na w)∧sizedMet enc Tryz.prog Tryz.f6 (OpenSpec.ofChange Rows.blocksReadsSpec) false w args)
   (Rows.blocksReadsSpec.post enc Tryz.prog Tryz.f6 false true false false):=by
 refine Ht (C:=Tryz.checked) (X:=fun w _=>laidMetH Tryz.prog Na w) (tb:=4) (ts:=[59,54,5,3,90,31,9,25]) (fun _ _ _ hh h=>h.of_heap hh) own started (by kernel_rfl) func6
  rfl Tryz.params6 (fun ds h=>?_) (by kernel_rfl) Tryz.underlying4 laidOut (by kernel_rfl)
  (ChangeSpec.witness_at (enc:=enc) (C:=Tryz.checked) (os:=os) (X:=fun w _=>laidMetH Tryz.prog Na w) false (laidWorld os) #[.agg #[.int .u8 0,.int .u8 0,.slice none 0 0,.slice none 0 0,.bool false,.int .u8 0,.int .u8 0,.int .u8 0,.slice none 0 0,.int .u8 0],.slice none 0 0,.int .u8 0,.int .i64 0,.agg #[.int .u16 0,.int .u8 0,.string ⟨#[]⟩,.bool false,.int .u16 0,.int .u8 0,.string ⟨#[]⟩,.bool false],.slice none 0 0,.string ⟨#[]⟩,.agg #[.int .i64 0,.int .i64 0,.int .i64 0,.slice none 0 0]] 8 (World.laidAll_os _ _ _) (by kernel_rfl) (by kernel_rfl) (by kernel_rfl) (by kernel_rfl) (by kernel_rfl) (laidWorld_met os _)) ?_
 ·obtain ⟨a0,a1,a2,a3,a4,a5,a6,a7,rfl⟩:=Kz h
  rfl
 intro W vs hl ha hz hX hsh
 have hL:=Jp hX hsh
 obtain ⟨a0,a1,a2,a3,a4,a5,a6,a7,rfl⟩:=Kz hl
 obtain ⟨d,rfl,hd⟩:=UE (ha 0 _ _ rfl rfl)
 obtain ⟨sa,hqa,la⟩:=aaw (ha 1 _ _ rfl rfl)
 obtain ⟨m,rfl,hm⟩:=XI (ha 2 _ _ rfl rfl)
 obtain ⟨n,rfl,_⟩:=(ha 3 _ _ rfl rfl).int Tryz.underlying3
 obtain ⟨x0,x1,rfl,hx0,hx1⟩:=XK (ha 4 _ _ rfl rfl)
 obtain ⟨sr,hqr⟩:=XJ (ha 5 _ _ rfl rfl)
 obtain ⟨t,rfl,ht⟩:=QW (ha 6 _ _ rfl rfl)
 obtain ⟨r1,rfl,hr1⟩:=Nc (ha 7 _ _ rfl rfl)
 exact uq d _ sa m n x0 x1 _ sr t r1 W hd hqa la hm hx0 hx1 hqr ht hr1 hL
end Go.Proofs.YtnlonpcbgjbbaaaGreatDoor
