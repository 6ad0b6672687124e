/-
  BlocksParses, part 6 of its proof: that it returns true for every input, and each argument reads behind the call as it read before. Conditions: the listed variables read as the program's text lays them (tied by the card).
-/
import Derived.Test.YtnlonpcbgjbbaaaGreatDoorWBlocksParses5
set_option linter.unusedVariables false
set_option linter.unusedSimpArgs false
set_option maxRecDepth 20000
namespace Go.Proofs.YtnlonpcbgjbbaaaGreatDoor
open Go Go.E
attribute [local irreducible] Go.E.T Go.E.L Go.E.O Go.E.Ob
theorem KY {C:Cx} {e:Env} {w:World} {K:Value→World→Prop} {d:Option Tmp} {ty:TypeId} {pos:String} {aft:Array Edge} {g:Option (Nat × Bool)} {x y:Operand} {tx ty':TypeId} {m n:Int} (hx:ev e x=some (.int .u8 m)) (hy:ev e y=some (.int .u8 n)) (hb:0≤m+n∧m+n≤255) (h:K (.int .u8 (m+n)) w):O C e ⟨d,.binOp .add tx x y ty',ty,pos,aft,g⟩ w K :=
 O.add hx hy (by rw [IntWalk.u8_in _ hb];exact h)
def abQ:List Value:=[.int .i64 0,.int .i64 0,.int .i64 0,.slice none 0 0]
section
variable {base b b3 b4 b7 cap:Nat} {cur:List Value} {T G P L:Int} {us:List UnV} {w W:World}
end
attribute [local irreducible] Go.E.ObX Go.E.ObK
section
variable {base b b3 b4 b7 cap:Nat} {cur:List Value} {T G P L:Int} {us:List UnV} {w W:World}
end
def abR (n:Nat):Str:=[UInt8.ofNat (48+n / 10),UInt8.ofNat (48+n % 10)]
theorem Vs {n:Nat} (h:n<100):((abR n).map fun c=>(c.toNat:Int)) = [48+(n:Int) / 10,48+(n:Int) % 10]:=by
 simp only [abR,List.map_cons,List.map_nil,List.cons.injEq,and_true]
 constructor <;> (rw [UInt8.toNat_ofNat_of_lt' (by show _<256;omega)];omega)
theorem Dc {C:Cx} {e:Env} {w:World} {K:Value→World→Prop} {d:Option Tmp} {ty:TypeId} {pos:String} {aft:Array Edge} {g:Option (Nat × Bool)} {x y:Operand} {t:TypeId} {b j n:Nat} {cs vs:List Value} {tb:TypeId} (hs:∀ w,(sizeOf t).run C.P w = .ok n w) (hn:vs.length=n) (hx:ev e x=some (.pointer (some ((⟨b,0,none⟩:Addr).add j)))) (hy:ev e y=some (.agg vs.toArray)) (hb:Blk w b cs tb)
  (a:j+n≤cs.length) (c:∀ u∈vs,u.oneCell'=true) (h:∀ w',Upd b w w'→Blk w' b (cs.take j++vs++cs.drop (j+n)) tb→K undef w'):O C e ⟨d,.store t x y,ty,pos,aft,g⟩ w K :=
 aK (off:=0+j) hs hn (by rw [hx,BU]) hy hb omX c (by rw [Nat.zero_add];exact h)
end Go.Proofs.YtnlonpcbgjbbaaaGreatDoor
