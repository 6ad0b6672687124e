/-
  BlocksParses, part 8 of its proof: that it returns true for every input, and each argument reads behind the call as it read before. Conditions: the listed variables read as the program's text lays them (tied by the card).
-/
import Derived.Test.YtnlonpcbgjbbaaaGreatDoorWBlocksParses7
import Derived.Test.YtnlonpcbgjbbaaaGreatDoorWBlocksParses4
import Derived.Test.YtnlonpcbgjbbaaaGreatDoorWBlocksParses3
import Derived.WideKeyRuns
import Derived.ChangeKeysEq
import Derived.Test.YtnlonpcbgjbbaaaGreatDoorWBlocksParses2
import Derived.Test.YtnlonpcbgjbbaaaGreatDoorWBlocksParses5
set_option linter.unusedVariables false
set_option linter.unusedSimpArgs false
set_option maxRecDepth 20000
namespace Go.Proofs.YtnlonpcbgjbbaaaGreatDoor
open Go.Proofs.Tryz
open Go Go.E
attribute [local irreducible] Go.E.T Go.E.L Go.E.O Go.E.Ob
attribute [local irreducible] Go.E.ObX
variable {x:Int} {b b2 b3 i:Nat} {t t2 t3:TypeId} {v2 v3:Value} {W w:World}
abbrev Pt:=Int × Int
def pV (p:Pt):Value:=.agg #[.int .i64 p.1,.int .i64 p.2]
def pC (p:Pt):List Value:=[.int .i64 p.1,.int .i64 p.2]
def Nr (p:Pt):Prop:=(-8000000≤p.1∧p.1≤8000000) ∧ -8000000≤p.2∧p.2≤8000000
def rE (p:Pt):Bool:=decide (p.1 < -1000000∨1000000<p.1∨p.2 < -1000000∨1000000<p.2)
theorem Nr.uz {p:Pt} (h:rE p=false):Nr p:=by
 simp only [rE,decide_eq_false_iff_not] at h
 unfold Nr;omega
def La (x y:Int):Int:=if x<y then -1 else if y<x then 1 else 0
def dA (a b c:Pt):Int:=(b.1-a.1)*(c.2-a.2)-(b.2-a.2)*(c.1-a.1)
def sgn (x:Int):Int:=if x<0 then -1 else if 0<x then 1 else 0
theorem abY (x y:Int):La x y=sgn (x-y):=by
 unfold La sgn
 split <;> split <;> (try split) <;> (try split) <;> omega
theorem VB {y B C:Int} (b : -B≤x) (c:x≤B) (d : -C≤y) (e:y≤C) : -(B*C)≤x*y∧x*y≤B*C:=by
 have hB:0≤B:=by omega
 have hC:0≤C:=by omega
 have a:x.natAbs≤B.natAbs:=by omega
 have a2:y.natAbs≤C.natAbs:=by omega
 have a3:=Nat.mul_le_mul a a2
 rw [← Int.natAbs_mul,← Int.natAbs_mul] at a3
 have:0≤B*C:=Int.mul_nonneg hB hC
 omega
theorem ny {y:Int} (h:(-16000000≤x∧x≤16000000) ∧ -16000000≤y∧y≤16000000) : -256000000000000≤x*y∧x*y≤256000000000000:=by
 have:=VB (B:=16000000) (C:=16000000) h.1.1 h.1.2 h.2.1 h.2.2
 omega
def TA (a b:Pt):Int:=if La a.1 b.1≠0 then La a.1 b.1 else La a.2 b.2
def hasB (a b p:Pt):Bool:=if dA a b p≠0 then false else if 0<TA a b then decide (TA b p≤0) && decide (TA p a≤0) else decide (TA a p≤0) && decide (TA p b≤0)
theorem zy {C:Cx} {e:Env} {K:Value→World→Prop} {d:Option Tmp} {ty:TypeId} {pos:String} {aft:Array Edge} {g:Option (Nat × Bool)} {x:Operand} {tx:TypeId} {m:Int} (hx:ev e x=some (.int .i64 m)) (hb : -9223372036854775808≤0-m∧0-m≤9223372036854775807) (h:K (.int .i64 (0-m)) w):O C e ⟨d,.unOp .neg tx x,ty,pos,aft,g⟩ w K :=
 O.neg hx (by rw [IntWalk.i64_in _ hb];exact h)
def mn (a b:Int):Int:=if b<a then b else a
def mx (a b:Int):Int:=if a<b then b else a
theorem O0 {a b c:Int} : c<mx a b↔c<a∨c<b:=by unfold mx;split <;> omega
theorem Y5 {a b c:Int} : mn a b<c↔a<c∨b<c:=by unfold mn;split <;> omega
theorem VD {C:Cx} {e:Env} {K:Value→World→Prop} {d:Option Tmp} {ty:TypeId} {pos:String} {aft:Array Edge} {g:Option (Nat × Bool)} {tys:Array TypeId} {x y z u:Operand} {j k l m:IntKind} {a b c f:Int} (n:ev e x=some (.int j a)) (o:ev e y=some (.int k b)) (p:ev e z=some (.int l c)) (r:ev e u=some (.int m f)) (h:K (.int j (mx (mx (mx a b) c) f)) w) :
  O C e ⟨d,.call { callee:=.builtin .max,args:=#[x,y,z,u],argTypes:=tys },ty,pos,aft,g⟩ w K :=
 bD spX (fun q i=>by
  simp [execOp,resolve,invoke,builtin,i.eval n,i.eval o,i.eval p,i.eval r,Builtin.max_,Builtin.max2,mx];rfl) h
theorem aaU : sgn x≠0↔x≠0:=by unfold sgn;split <;> (try split) <;> omega
theorem TB (p:Pt) (w:World) :
  Calls Tryz.prog 174 #[pV p] w (Ret fun v w'=>v = .bool (rE p)∧Ext w w'):=by
 refine aJ (vs:=[pV p]) func174 Z ntmps174 Z ?_
 refine au (bM Z (fun b1 w1 c d a hB1=>?_))
 have Fv:Blk w1 b1 (pC p) 124:=hB1
 refine ah Z (au (aC Z (Fv.cell Z) (aC Z (Fv.cell Z) (L.o (iP Z Z (bH Z Z (fun b=>?_) (fun b=>?_)))))))
 ·refine L.m Z (L.pp (L.pp (L.pp (aG Z (ah Z (aB results174 Z ⟨?_,a⟩))))))
  unfold rE
  rw [← mn,Y5] at b
  rw [decide_eq_true]
  omega
 refine L.m Z (aC Z (Fv.cell Z) (aC Z (Fv.cell Z) (L.o (kJ Z Z (L.o (kG Z Z (aI Z (ah Z (aB results174 Z ⟨?_,a⟩)))))))))
 refine congrArg Value.bool (decide_eq_decide.2 ?_)
 rw [← mn,Y5] at b
 rw [← mx,O0]
 omega
theorem qN (p:Pt) (w:World) (c:Nr p) :
  Calls Tryz.prog 241 #[pV p] w (Ret fun v w'=>v = .bool (rE p)∧Ext w w'):=by
 unfold Nr at c
 refine aJ (vs:=[pV p]) func241 Z ntmps241 Z ?_
 refine au (bM Z (fun b1 w1 d e a hB1=>?_))
 have Fv:Blk w1 b1 (pC p) 124:=hB1
 refine ah Z (au (aC Z (Fv.cell Z) (aC Z (Fv.cell Z) (L.o (zy Z omX (aC Z (Fv.cell Z) (aC Z (Fv.cell Z) (L.o (zy Z omX (L.o (VD Z Z Z Z (dY Z Z (fun b=>?_) (fun b=>?_)))))))))))))
 ·refine L.m Z (L.pp (L.pp (L.pp (aG Z (ah Z (aB results241 Z ⟨?_,a⟩))))))
  unfold rE
  rw [O0,O0,O0] at b
  rw [decide_eq_true]
  omega
 refine L.m Z (aC Z (Fv.cell Z) (aC Z (Fv.cell Z) (L.o (iP Z Z (L.o (uZ Z Z (aI Z (ah Z (aB results241 Z ⟨?_,a⟩)))))))))
 refine congrArg Value.bool (decide_eq_decide.2 ?_)
 rw [O0,O0,O0] at b
 rw [← mn,Y5]
 omega
theorem Dh (x:Int) (w:World) :
  Calls Tryz.prog 270 #[.int .i64 x] w (Ret fun v w'=>v = .bool false∧w'=w):=by
 refine aJ (vs:=[.int .i64 x]) func270 Z ntmps270 Z ?_
 refine au (ah Z (au (aN Z Z (L.o (fP Z Z spX (ah Z (aB results270 Z ⟨rfl,rfl⟩)))))))
theorem Di (x y:Int) (w:World) :
  Calls Tryz.prog 264 #[.int .i64 x,.int .i64 y] w (Ret fun v w'=>v = .int .i64 (La x y)∧w'=w):=by
 refine aJ (vs:=[.int .i64 x,.int .i64 y]) func264 Z ntmps264 Z ?_
 refine au (ah Z (au (aO Z (ay (xs:=[.tmp 7]) call270 Z Z (Dh x w) (fun d w1 b=>?_)))))
 obtain ⟨rfl,rfl⟩:=b
 refine ah Z (au (aO Z (ay (xs:=[.tmp 9]) call270 Z Z (Dh y w1) (fun v2 e b=>?_))))
 obtain ⟨rfl,rfl⟩:=b
 refine ah Z (aj (aQ Z (aU (T.skip (aj (aQ Z (aU (T.skip (aj (au (aN Z Z (bH Z Z (fun a=>?_) (fun a=>?_)))))))))))))
 ·refine aW (au (ah Z (aB results264 Z ⟨by rw [La,if_pos a],rfl⟩)))
 refine aU (T.skip (aj (au (aN Z Z (dY Z Z (fun c=>?_) (fun c=>?_))))))
 ·refine aW (au (ah Z (aB results264 Z ⟨by rw [La,if_neg a,if_pos c],rfl⟩)))
 refine aU (T.skip (au (ah Z (aB results264 Z ⟨by rw [La,if_neg a,if_neg c],rfl⟩))))
theorem oO (a b c:Pt) (w:World) (ha:Nr a) (hb:Nr b) (j:Nr c) :
  Calls Tryz.prog 243 #[pV a,pV b,pV c] w (Ret fun v w'=>v = .int .i64 (sgn (dA a b c))∧Ext w w'):=by
 unfold Nr at ha hb j
 refine aJ (vs:=[pV a,pV b,pV c]) func243 Z ntmps243 Z ?_
 refine au (bM Z (fun b3 s k l g hB3=>?_))
 refine bM Z (fun b4 t m n e h=>?_)
 refine bM Z (fun b5 f p q d i=>?_)
 have hA:Blk f b3 (pC a) 124:=Blk.ext (cs:=pC a) (Blk.ext (cs:=pC a) hB3 e) d
 have hB:Blk f b4 (pC b) 124:=Blk.ext (cs:=pC b) h d
 have hC:Blk f b5 (pC c) 124:=i
 have u:=ny (x:=b.1-a.1) (y:=c.2-a.2) omX
 have z:=ny (x:=b.2-a.2) (y:=c.1-a.1) omX
 refine ah Z (au (aC Z (hB.cell Z) (aC Z (hA.cell Z) (L.o (dh Z Z omX (aC Z (hC.cell Z) (aC Z (hA.cell Z) (L.o (dh Z Z omX (L.o (dN Z Z omX (aC Z (hB.cell Z) (aC Z (hA.cell Z) (L.o (dh Z Z omX (aC Z (hC.cell Z) (aC Z (hA.cell Z) (?_))))))))))))))))))
 refine L.o (dh Z Z omX (L.o (dN Z Z omX (L.o (ay (xs:=[.tmp 17,.tmp 28]) call264 Z Z (Di _ _ f) (fun A B r=>?_))))))
 obtain ⟨rfl,rfl⟩:=r
 refine ah Z (aB results243 Z ⟨by rw [abY];rfl,(g.trans e).trans d⟩)
open Go.RowKit
structure adV {α:Type} [DecidableEq α] (P:Program) (kf:α→Value) (kt:TypeId):Prop where
 same:∀ a b w,(Op.equalIn 10000 kt (kf a) (kf b)).run P w = .ok (decide (a=b)) w
 wide:(match P.underlying kt with|some (.array _ _)|some (.struct _)=>true|_=>false)=true
 check:∀ (b:Bool) (a:α) (w:World),(Instr.checkKey b 10000 kt (kf a)).run P w = .ok () w
 bits:∀ a,Instr.sameBits 10000 (kf a) (kf a)=true
section maps
variable {α β:Type} [DecidableEq α] {kf:α→Value} {vf:β→Value} {P:Program} {kt:TypeId}
theorem sQ (hK:adV P kf kt) (k:α) (w:World):∀ (kvs:List (α × β)) (n i:Nat),(Instr.findAsking kt (kf k) (gEs kf vf n kvs) i).run P w = .ok ((jl kvs k i).map (fun p=>(p.1,vf p.2))) w
 | [],_,_=>by simp [gEs,Instr.findAsking,jl]
 | p::r,n,i=>by
  have ih:=sQ hK k w r (n+1) (i+1)
  have hs:=hK.same k p.1 w
  simp only [gEs,gE,Instr.findAsking,Op.equal,Op.maxDepth,Sem.run_bind,hs,Result.andThen_ok,jl]
  by_cases h:k=p.1
  ·simp [h]
  simp only [decide_eq_false h,if_neg h,Bool.false_eq_true,if_false]
  exact ih
theorem xW (hK:adV P kf kt) (k:α) (kvs:List (α × β)) (w:World):(Instr.findKey kt (kf k) (gEs kf vf 0 kvs)).run P w = .ok ((jl kvs k 0).map (fun p=>(p.1,vf p.2))) w:=by
 rw [run_findKey_eq w hK.wide];exact sQ hK k w kvs 0 0
end maps
section ops
variable {α β:Type} [DecidableEq α] {kf:α→Value} {vf:β→Value} {kt vt:TypeId}
variable {C:Cx} {e:Env} {w:World} {K:Value→World→Prop} {d:Option Tmp} {ty:TypeId} {pos:String} {aft:Array Edge} {g:Option (Nat × Bool)} {x y z:Operand} {t:TypeId}
theorem Aq {k:α} {z0:β} {kvs:List (α × β)} (hK:adV C.P kf kt) (f:∀ w,(underlying t).run C.P w = .ok (.map kt vt) w) (j:∀ w,(zeroValue vt).run C.P w = .ok (vf z0) w)
  (hx:ev e x=some (.map (some b))) (hy:ev e y=some (kf k)) (i:wJ kf vf w b kvs) (h:K (vf ((oN kvs k).getD z0)) w):O C e ⟨d,.lookup t x y false,ty,pos,aft,g⟩ w K :=
 bD spX (fun a ha=>by
  have hf:=xW (vf:=vf) hK k kvs w
  cases c:jl kvs k 0 with
  | none=>rw [c] at hf;simp [execOp,Instr.lookup,ha.eval hx,ha.eval hy,f w,MapKept.run_getObj_map i,hK.check,hf,j w,oN,c]
  | some p=>rw [c] at hf;simp [execOp,Instr.lookup,ha.eval hx,ha.eval hy,f w,MapKept.run_getObj_map i,hK.check,hf,oN,c]) h
theorem oZ {k:α} {v:β} {kvs:List (α × β)} (hK:adV C.P kf kt) (o:∀ w,(underlying t).run C.P w = .ok (.map kt vt) w)
  (hx:ev e x=some (.map (some b))) (hy:ev e y=some (kf k)) (r:ev e z=some (vf v)) (c:wJ kf vf w b kvs) (h:∀ w',Upd b w w'→wJ kf vf w' b (AZ kvs k v)→K undef w'):O C e ⟨d,.mapUpdate t x y z,ty,pos,aft,g⟩ w K:=by
 have hf:=xW (vf:=vf) hK k kvs w
 have f:=c.lt
 cases j:jl kvs k 0 with
 | none =>
  rw [j] at hf
  refine nG (w':={ w with heap:=w.heap.setIfInBounds b (.map ((gEs kf vf 0 kvs).toArray.push { key:=kf k,val:=vf v,born:=kvs.length }) (kvs.length+1)) }) spX (fun a ha=>by
   simp [execOp,Instr.mapUpdate,ha.eval hx,ha.eval hy,ha.eval r,o w,MapKept.run_getObj_map c,hK.check,hf,MapKept.run_setObj_map _ c]) (h _ ?_ ?_)
  ·exact fZ w b _
  have e:AZ kvs k v=kvs ++ [(k,v)]:=by rw [AZ,j]
  unfold wJ
  rw [e,Ik,Array.getElem?_setIfInBounds_self]
  simp [f,gE]
 | some p =>
  rw [j] at hf
  obtain ⟨_,s⟩:=xM kvs k 0 (i:=p.1) (v:=p.2) j
  rw [Nat.sub_zero] at s
  have m:(gEs kf vf 0 kvs).toArray[p.1]?=some (gE kf vf (k,p.2) p.1):=by simp [Ij,s]
  have l:=Gg (kf:=kf) (vf:=vf) kvs p.1 (k,v) (fun e=>{ e with key:=kf k,val:=vf v }) (fun q _=>rfl)
  refine nG (w':={ w with heap:=w.heap.setIfInBounds b (.map ((gEs kf vf 0 kvs).toArray.modify p.1 fun e=>{ e with key:=kf k,val:=vf v }) kvs.length) }) spX (fun a ha=>by
   have n:(Instr.keyThatStays (kf k) (kf k)).run C.P w = .ok (kf k) w:=by simp [Instr.keyThatStays,hK.bits k]
   simp only [execOp,Instr.mapUpdate,ha.eval hx,ha.eval hy,ha.eval r,Sem.run_bind,o w,Result.andThen_ok,MapKept.run_getObj_map c,hK.check,hf,Option.map_some]
   rw [m]
   simp [gE,n,MapKept.run_setObj_map _ c]) (h _ ?_ ?_)
  ·exact fZ w b _
  have e:AZ kvs k v=kvs.set p.1 (k,v):=by rw [AZ,j]
  unfold wJ
  rw [l,e,Array.getElem?_setIfInBounds_self]
  simp [f]
theorem Ar {kvs:List (α × β)} (c:∀ w,(underlying t).run C.P w = .ok (.map kt vt) w) (hx:ev e x=some (.map (some b))) (f:wJ kf vf w b kvs) (h:K (.int .i64 kvs.length) w) :
  O C e ⟨d,.call { callee:=.builtin .len,args:=#[x],argTypes:=#[t] },ty,pos,aft,g⟩ w K :=
 bD spX (fun a ha=>by
  simp [execOp,resolve,invoke,builtin,Builtin.len_,ha.eval hx,c w,MapKept.run_getObj_map f,goInt,Vh]) h
end ops
theorem VE (a:Pt):Instr.sameBits 10000 (pV a) (pV a)=true:=by
 simp [pV,Instr.sameBits]
theorem Lc (cs:Array Value) (i:Nat) (v:Value) (w:World) (h:cs[i]?=some v):(part 3 cs i).run Tryz.prog w = .ok v w:=by
 simp [part,isAgg3 w,h]
theorem eq3 (n:Nat) (x y:Int) (w:World):(Op.equalIn (n+1) 3 (.int .i64 x) (.int .i64 y)).run Tryz.prog w = .ok (x == y) w:=run_equalIn_int w n 3 _ .i64 x y krX
theorem eqPt (a b:Pt) (w:World):(Op.equalIn 10000 124 (pV a) (pV b)).run Tryz.prog w = .ok (decide (a=b)) w:=by
 obtain ⟨c,a2⟩:=a
 obtain ⟨b1,b2⟩:=b
 unfold pV
 rw [run_equalIn_struct w 9999 124 _ _ krX krX]
 rw [show (Tryz.prog.fieldsOf 124).toList = [{ name := "X", type := 3, offset := 0, embedded := false, tag := "", pkgPath := "", byteOffset := 0 }, { name := "Y", type := 3, offset := 1, embedded := false, tag := "", pkgPath := "", byteOffset := 8 }] from by kernel_rfl]
 have p0:∀ (x y:Int) (w:World),(part 3 #[Value.int .i64 x,Value.int .i64 y] 0).run Tryz.prog w = .ok (.int .i64 x) w:=fun x y w=>Lc _ _ _ w rfl
 have d:∀ (x y:Int) (w:World),(part 3 #[Value.int .i64 x,Value.int .i64 y] 1).run Tryz.prog w = .ok (.int .i64 y) w:=fun x y w=>Lc _ _ _ w rfl
 have e:=eq3 9998
 simp only [Op.eqFields]
 by_cases f:c=b1 <;> by_cases g:a2=b2 <;> simp [f,g,p0,d,e]
theorem aeN (a b:Pt) (w:World):(Op.equalIn 10000 279 (pV a) (pV b)).run Tryz.prog w = .ok (decide (a=b)) w:=by
 obtain ⟨c,a2⟩:=a
 obtain ⟨b1,b2⟩:=b
 unfold pV
 rw [run_equalIn_array w 9999 (n:=2) (e:=3) _ _ krX (i:=_) (by rfl)]
 have d:Tryz.prog.cellsOf 3=1:=by kernel_rfl
 have p0:∀ (x y:Int) (w:World),(part 3 #[Value.int .i64 x,Value.int .i64 y] 0).run Tryz.prog w = .ok (.int .i64 x) w:=fun x y w=>Lc _ _ _ w rfl
 have f:∀ (x y:Int) (w:World),(part 3 #[Value.int .i64 x,Value.int .i64 y] 1).run Tryz.prog w = .ok (.int .i64 y) w:=fun x y w=>Lc _ _ _ w rfl
 have g:=eq3 9998
 rw [d]
 by_cases h:c=b1 <;> by_cases j:a2=b2 <;> simp [List.range,List.range.loop,Op.eqItems,h,j,p0,f,g]
theorem VF:adV Tryz.prog pV 124:=⟨eqPt,krX,fun b a w=>by
 obtain ⟨g,a2⟩:=a
 have c:Tryz.prog.underlying 3=some (.int .i64):=by kernel_rfl
 have p0:∀ (x y:Int) (w:World),(part 3 #[Value.int .i64 x,Value.int .i64 y] 0).run Tryz.prog w = .ok (.int .i64 x) w:=fun x y w=>Lc _ _ _ w rfl
 have d:∀ (x y:Int) (w:World),(part 3 #[Value.int .i64 x,Value.int .i64 y] 1).run Tryz.prog w = .ok (.int .i64 y) w:=fun x y w=>Lc _ _ _ w rfl
 have e : Tryz.prog.underlying 124 = some (.struct #[{ name := "X", type := 3, offset := 0, embedded := false, tag := "", pkgPath := "", byteOffset := 0 }, { name := "Y", type := 3, offset := 1, embedded := false, tag := "", pkgPath := "", byteOffset := 8 }]) := by kernel_rfl
 have f:∀ (v:Int) (w:World),(Instr.checkKey b 9999 3 (.int .i64 v)).run Tryz.prog w = .ok () w:=fun v w=>MapKept.run_checkKey (k:=.int .i64 v) c rfl b 9998
 unfold pV
 rw [Instr.checkKey]
 simp [run_underlying e,p0,d,f],VE⟩
theorem QI:adV Tryz.prog pV 279:=⟨aeN,krX,fun b a w=>by
 obtain ⟨g,a2⟩:=a
 have c:Tryz.prog.underlying 3=some (.int .i64):=by kernel_rfl
 have p0:∀ (x y:Int) (w:World),(part 3 #[Value.int .i64 x,Value.int .i64 y] 0).run Tryz.prog w = .ok (.int .i64 x) w:=fun x y w=>Lc _ _ _ w rfl
 have d:∀ (x y:Int) (w:World),(part 3 #[Value.int .i64 x,Value.int .i64 y] 1).run Tryz.prog w = .ok (.int .i64 y) w:=fun x y w=>Lc _ _ _ w rfl
 have e:Tryz.prog.underlying 279=some (.array 2 3):=by kernel_rfl
 have f:∀ (v:Int) (w:World),(Instr.checkKey b 9999 3 (.int .i64 v)).run Tryz.prog w = .ok () w:=fun v w=>MapKept.run_checkKey (k:=.int .i64 v) c rfl b 9998
 unfold pV
 rw [Instr.checkKey]
 simp [run_underlying e,p0,d,f,sizeOf3,List.range'],VE⟩
def orI:List Int→Int
 | []=>0
 | x::r=>if x≠0 then x else orI r
theorem abZ (a b:Int):orI [a,b]=if a≠0 then a else b:=by
 simp only [orI]
 split
 ·rfl
 split
 ·rfl
 omega
theorem Y6 (xs:List Int) (i:Nat) (hi:i<xs.length):orI (xs.drop i)=if xs.getD i 0≠0 then xs.getD i 0 else orI (xs.drop (i+1)):=by
 rw [List.drop_eq_getElem_cons hi,orI,aX hi]
def PtB (base:Nat) (v:Value) (w:World):Prop:=∃ b c,v = .pointer (some ⟨b,0,none⟩)∧base≤b∧Blk w b (pC c) 124
theorem PtB.lt {base:Nat} {v:Value} {w:World} (h:PtB base v w):∀ b,Gh v=some b→b<w.heap.size:=fun b hb=>by
 obtain ⟨b',c,rfl,_,a⟩:=h
 cases hb;exact a.lt
structure RelB (base:Nat) (a:Pt) (w w':World):Prop where
 own:∀ b c,base≤b→Blk w b (pC c) 124→∃ c',Blk w' b (pC c') 124∧(c=a→c'=a)
theorem RelB.dF {base:Nat} {a:Pt} {w':World} (h:Ext w w'):RelB base a w w':=⟨fun b c _ hB=>⟨c,Blk.ext (cs:=pC c) hB h,id⟩⟩
theorem gu (a:Pt):∀ u∈pC a,u.oneCell'=true:=by intro u b;simp [pC] at b;rcases b with (rfl|rfl) <;> rfl
theorem RelB.upd {base:Nat} {a:Pt} {b:Nat} {w w':World} (f:Upd b w w') (hB:Blk w' b (pC a) 124):RelB base a w w':=⟨fun b' c _ d=>by
 by_cases e:b'=b
 ·subst e;exact ⟨a,hB,fun _=>rfl⟩
 exact ⟨c,Blk.upd (cs:=pC c) d f e,id⟩⟩
theorem PtB.st {base:Nat} {a:Pt} : ∀ v w w',RelB base a w w'→PtB base v w→PtB base v w':=fun v w w' h ⟨b,c,e,d,f⟩=>by
 obtain ⟨c',g,_⟩:=h.own b c d f
 exact ⟨b,c',e,d,g⟩
def eV (n:Int) (a b:Pt):Value:=.agg #[.int .i64 n,.int .i64 a.1,.int .i64 a.2,.int .i64 b.1,.int .i64 b.2]
def eC (n:Int) (a b:Pt):List Value:=[.int .i64 n,.int .i64 a.1,.int .i64 a.2,.int .i64 b.1,.int .i64 b.2]
theorem Oq {n:Int} {a b:Pt} {bl:Nat} (h:Blk w bl (eC n a b) t):Row w ((⟨bl,0,none⟩:Addr).add 1) (pC a):=(Row.bI h).part 1 2
theorem QJ {n:Int} {a b:Pt} {bl:Nat} (h:Blk w bl (eC n a b) t):Row w ((⟨bl,0,none⟩:Addr).add 3) (pC b):=(Row.bI h).part 3 2
theorem Y7 (lo:Nat) (p:Value) (xs:List Int) (w:World) (b:Ints .i64 lo w p xs) :
  Calls Tryz.prog 273 #[p] w (Ret fun v w'=>v = .int .i64 (orI xs)∧w'=w):=by
 have e:=Sl.le b
 refine aJ (vs:=[p]) func273 Z ntmps273 Z ?_
 refine au (ah Z (au (ah Z (aj (aQ Z (L.le Z (Sl.val b) (L.m Z (ak (T.block (?_))))))))))
 refine bf (σ:=Nat) (fun i=>[(3,.int .i64 0),(6,p),(7,.int .i64 xs.length),(8,.int .i64 i)]) (fun i w'=>i≤xs.length∧w'=w∧orI xs=orI (xs.drop i)) (fun i=>xs.length-i) (0) ⟨rfl,rfl,rfl,rfl,trivial⟩ ⟨Nat.zero_le _,rfl,by rw [List.drop_zero]⟩ ?_
 rintro i w1 ⟨hi,rfl,c⟩
 refine au (bH Z Z (fun d=>?_) (fun d=>?_))
 ·refine ak (?_)
  have a:i<xs.length:=by omega
  rw [Y6 xs i a] at c
  refine aj (aZ (T.skip (aj (T.block (au (dG Z Z b (cZ Z (Ints.at b a) (ah Z (au (aN Z Z (L.ne Z Z (fun h0=>?_) (fun h0=>?_))))))))))))
  ·refine aW (aQ Z (ah Z (aB results273 Z ⟨by rw [c,if_pos h0],rfl⟩)))
  refine aU (T.skip (T.blk (aA (bF Z Z (L.m Z (ak (aP (i+1) omX ⟨rfl,rfl,rfl,rfl,trivial⟩ ⟨a,rfl,by rw [c,if_neg (fun h=>h h0)]⟩)))))))
 refine ak (aj (bn (aY Z (aQ Z (ah Z (aB results273 Z ⟨by rw [c,List.drop_of_length_le omX];rfl,rfl⟩))))))
theorem o7 (a b:Pt) (w:World) :
  Calls Tryz.prog 271 #[pV a,pV b] w (Ret fun v w'=>v = .int .i64 (TA a b)∧Ext w w'):=by
 refine aJ (vs:=[pV a,pV b]) func271 Z ntmps271 Z ?_
 refine au (bM Z (fun b2 z p q e hB2=>?_))
 refine bM Z (fun b3 m r s d hB3=>?_)
 have hA:Blk m b2 (pC a) 124:=Blk.ext (cs:=pC a) hB2 d
 have hB:Blk m b3 (pC b) 124:=hB3
 refine ah Z (aj (?_))
 refine dn mixed 9 [2,3] Z [.is _,.is _,.is _,.is _,.is (.int .i64 (La a.1 b.1)),.is _,.is _,.is _,.is _] [[],[0],[],[2],[1,3],[],[5],[],[7]] trivial ⟨fun c hx=>Ob.fa rfl,
   fun c hx=>aS rfl ((hA.ext hx).cell rfl),
   fun c hx=>Ob.fa rfl,
   fun c hx=>aS rfl ((hB.ext hx).cell rfl),
   fun c hx=>Ob.o (ay (xs:=[.tmp 6,.tmp 8]) call264 Z Z (Di a.1 b.1 c) (fun v wy h=>⟨Keep.of_eq h.2,h.1⟩)),
   fun c hx=>Ob.fa rfl,
   fun c hx=>aS rfl ((hA.ext hx).cell rfl),
   fun c hx=>Ob.fa rfl,
   fun c hx=>aS rfl ((hB.ext hx).cell rfl),
   trivial⟩ (fun t f=>?_)
 refine L.o (ay (xs:=[.tmp 11,.tmp 13]) call264 Z Z (Di a.2 b.2 t) (fun v4 u g=>?_))
 obtain ⟨rfl,i⟩:=g
 subst i
 refine L.o (aH (el:=3) (parts:=[(0,.tmp 9),(1,.tmp 14)]) (vs:=[(0,_),(1,_)]) (cs:=[.int .i64 (La a.1 b.1),.int .i64 (La a.2 b.2)]) Z (fun w=>by kernel_rfl) (fun b5 n x y j k=>?_))
 have l:Ints .i64 0 n (.slice (some ⟨b5,0,none⟩) 2 2) [La a.1 b.1,La a.2 b.2]:=Ints.bI (xs:=[La a.1 b.1,La a.2 b.2]) k rfl dcX lzX
 refine L.o (ay (xs:=[.tmp 15]) call273 Z Z (Y7 0 _ _ n l) (fun A B g=>?_))
 obtain ⟨rfl,rfl⟩:=g
 refine ah Z (aB results271 Z ⟨?_,?_⟩)
 ·rw [abZ];rfl
 exact (e.trans d).trans (f.trans j)
theorem Gn (n:Int) (a b p:Pt) (w:World) (ha:Nr a) (hb:Nr b) (hp:Nr p) :
  Calls Tryz.prog 265 #[eV n a b,pV p] w (Ret fun v w'=>v = .bool (hasB a b p)∧Ext w w'):=by
 refine aJ (vs:=[eV n a b,pV p]) func265 Z ntmps265 Z ?_
 refine au (bM Z (fun b2 w2 an ao V hB2=>?_))
 refine bM Z (fun b3 X ap aq I hB3=>?_)
 have hE:Blk X b2 (eC n a b) 315:=Blk.ext (cs:=eC n a b) hB2 I
 have hP:Blk X b3 (pC p) 124:=hB3
 refine ah Z (aj (au (L.fa Z (aT Z Z (Oq hE) (L.fa Z (aT Z Z (QJ hE) (aT Z Z hP.row (L.o (ay (xs:=[.tmp 8,.tmp 10,.tmp 11]) call243 Z Z (oO a b p X ha hb hp) (fun v4 A d=>?_))))))))))
 obtain ⟨rfl,B⟩:=d
 have J:=Blk.ext (cs:=eC n a b) hE B
 have K:=Blk.ext (cs:=pC p) hP B
 have xu:=(V.trans I).trans B
 refine L.ne Z Z (fun h0=>?_) (fun h0=>?_)
 ·refine aW (au (ah Z (aB results265 Z ⟨by rw [hasB,if_pos (aaU.1 h0)],xu⟩)))
 refine ak (?_)
 have s:¬ dA a b p≠0:=fun h=>aaU.2 h h0
 refine bn (T.skip (aj (?_)))
 refine mM mixed 7 1 [2] Z [.is _,.is _,.is _,.is _,.such (PtB A.heap.size),.such (PtB A.heap.size),.is undef] [[],[0],[],[2],[],[],[4,1]] [none,none,none,none,none,none,some 0] [[],[0],[],[2],[],[],[0,1,4,5],[0,1,2,3,4,5,6]] [4,5] [(6,4,5)] (fun _ _ u _ W=>∃ b,u = .pointer (some ⟨b,0,none⟩)∧A.heap.size≤b∧Blk W b (pC a) 124) (fun _ W=>Ext A W) (RelB A.heap.size a) (fun i f v w hi hf hh=>by { rcases (show i=4∨i=5 by simpa using hi) with rfl|rfl <;> (simp only [List.getElem?_cons_succ,List.getElem?_cons_zero,Option.some.injEq] at hf;subst hf;exact PtB.lt hh) }) (fun i j vi vj W W' hr ⟨b,t,h2,h3⟩=>(hr.own b a h2 h3).elim fun c' k=>⟨b,t,h2,(k.2 Z)▸k.1⟩) krX krX krX krX rfl ⟨PtB.st,PtB.st,trivial⟩ (Keep.drew _ _) ⟨fun c H hx=>ObX.op rfl (O.fa Z ⟨⟨RelB.dF (Keep.refl _ _),hx⟩,rfl,trivial,trivial⟩),
   fun c H hx=>ObX.op Z (jC Z Z (Oq (Blk.ext (cs:=eC n a b) J hx)) ⟨⟨RelB.dF (Keep.refl _ _),hx⟩,rfl,trivial,trivial⟩),
   fun c H hx=>ObX.op Z (O.fa Z ⟨⟨RelB.dF (Keep.refl _ _),hx⟩,rfl,trivial,trivial⟩),
   fun c H hx=>ObX.op Z (jC Z Z (QJ (Blk.ext (cs:=eC n a b) J hx)) ⟨⟨RelB.dF (Keep.refl _ _),hx⟩,rfl,trivial,trivial⟩),
   fun c H hx=>ObX.op Z (O.alloc zeroValue124 (fun b wy hb hz M hB=>y5 ⟨⟨RelB.dF M,hx.trans M⟩,b,(0,0),rfl,by have:=hx.size;omega,hB⟩ ⟨fun q d=>by { cases d;exact Nat.le_of_eq hb.symm },trivial⟩)),
   fun c H hx=>ObX.op Z (O.alloc zeroValue124 (fun b wy hb hz M hB=>y5 ⟨⟨RelB.dF M,hx.trans M⟩,b,(0,0),rfl,by have:=hx.size;omega,hB⟩ ⟨fun q d=>by { cases d;exact Nat.le_of_eq hb.symm },trivial⟩)),
   fun H hx v5 N=>by { obtain ⟨b5,c5,rfl,x,C⟩:=N;exact ObX.op rfl (aK sizeOf124 Z Z Z C leX (gu a) (fun P l y=>y5 ⟨⟨RelB.upd l y,hx.upd l (.inr x)⟩,rfl⟩ ⟨trivial,fun u hu=>by { cases hu;exact ⟨b5,rfl,x,y⟩ }⟩)) },
   trivial⟩ (fun w7 Y v5 N v6 aa Q=>?_)
 obtain ⟨vj,ab,ac,_⟩:=Q 4 5 _ _ _ _ dcX dcX rfl rfl rfl rfl
 obtain rfl:=ab _ _ rfl rfl
 obtain ⟨_,_,_,ad⟩:=Q 4 6 _ _ _ _ dcX dcX rfl rfl rfl rfl
 obtain ⟨b5,rfl,x,C⟩:=ad rfl
 obtain ⟨b6,c6,rfl,R,ae⟩:=aa
 have D:b5≠b6:=fun e=>ac b5 rfl (by rw [e];rfl)
 refine L.o (aK sizeOf124 Z Z Z ae leX (gu b) (fun P l y=>?_))
 have S:Blk P b5 (pC a) 124:=Blk.upd (cs:=pC a) C l D
 have aaV:Blk P b6 (pC b) 124:=y
 have Yz:Ext A P:=Y.upd l (.inr R)
 have af:=Blk.ext (cs:=pC p) K Yz
 refine ak (aj (au (aT Z Z S.row (aT Z Z aaV.row (L.o (ay (xs:=[.tmp 18,.tmp 19]) call271 Z Z (o7 a b P) (fun v9 w9 d=>?_)))))))
 obtain ⟨rfl,g⟩:=d
 have E:=Blk.ext (cs:=pC a) S g
 have F:=Blk.ext (cs:=pC b) aaV g
 have U:=Blk.ext (cs:=pC p) af g
 refine dY Z Z (fun r=>?_) (fun r=>?_)
 ·refine aW (aA (aT Z Z F.row (aT Z Z E.row (L.o (aK sizeOf124 Z Z Z E leX (gu b) (fun ar QH EP=>?_))))))
  refine L.o (aK sizeOf124 Z Z Z (Blk.upd (cs:=pC b) F QH D.symm) leX (gu a) (fun z nU rD=>?_))
  have tC:Ext A z:=((Yz.trans g).upd QH (.inr x)).upd nU (.inr R)
  have aoj:Blk z b5 (pC b) 124:=Blk.upd (cs:=pC b) EP nU D
  have ag:Blk z b6 (pC a) 124:=rD
  have alU:=Blk.ext (cs:=pC p) K tC
  refine ak (au (aT Z Z aoj.row (aT Z Z alU.row (L.o (ay (xs:=[.tmp 24,.tmp 25]) call271 Z Z (o7 b p z) (fun ai G d=>?_))))))
  obtain ⟨rfl,jD⟩:=d
  refine L.o (fB Z Z (fun t=>?_) (fun t=>?_))
  ·refine L.m Z (aT Z Z ((Blk.ext (cs:=pC p) alU jD).row) (aT Z Z ((Blk.ext (cs:=pC a) ag jD).row) (L.o (ay (xs:=[.tmp 29,.tmp 30]) call271 Z Z (o7 p a G) (fun al am d=>?_)))))
   obtain ⟨rfl,iH⟩:=d
   refine L.o (jS Z Z (aG Z (ah Z (aB results265 Z ⟨by rw [hasB,if_neg s,if_pos r,decide_eq_true t];rfl,xu.trans (tC.trans (jD.trans iH))⟩))))
  refine L.m Z (L.pp (L.pp (aI Z (ah Z (aB results265 Z ⟨by rw [hasB,if_neg s,if_pos r,decide_eq_false t];rfl,xu.trans (tC.trans jD)⟩)))))
 refine aU (T.skip (au (aT Z Z E.row (aT Z Z U.row (L.o (ay (xs:=[.tmp 24,.tmp 25]) call271 Z Z (o7 a p w9) (fun ai G d=>?_)))))))
 obtain ⟨rfl,jD⟩:=d
 refine L.o (fB Z Z (fun t=>?_) (fun t=>?_))
 ·refine L.m Z (aT Z Z ((Blk.ext (cs:=pC p) U jD).row) (aT Z Z ((Blk.ext (cs:=pC b) F jD).row) (L.o (ay (xs:=[.tmp 29,.tmp 30]) call271 Z Z (o7 p b G) (fun al am d=>?_)))))
  obtain ⟨rfl,iH⟩:=d
  refine L.o (jS Z Z (aG Z (ah Z (aB results265 Z ⟨by rw [hasB,if_neg s,if_neg r,decide_eq_true t];rfl,xu.trans (Yz.trans (g.trans (jD.trans iH)))⟩))))
 refine L.m Z (L.pp (L.pp (aI Z (ah Z (aB results265 Z ⟨by rw [hasB,if_neg s,if_neg r,decide_eq_false t];rfl,xu.trans (Yz.trans (g.trans jD))⟩)))))
def comB (a b c d x:Pt):Bool:=hasB a b x && hasB c d x
def II (a b c d:Pt):List Pt→List (Pt × Bool)→List (Pt × Bool)
 | [],kvs=>kvs
 | x::r,kvs=>II a b c d r (if comB a b c d x then AZ kvs x true else kvs)
def mV (a b c d:Pt):Int :=
 if 1<((II a b c d [a,b,c,d] []).length:Int) then 3 else if ((II a b c d [a,b,c,d] []).length:Int)=1 then 1
 else if sgn (dA a b c)*sgn (dA a b d)<0∧sgn (dA c d a)*sgn (dA c d b)<0 then 2 else 0
theorem IJ (x:Int) : -1≤sgn x∧sgn x≤1:=by unfold sgn;split <;> (try split) <;> omega
theorem VG (x y:Int) : -1≤sgn x*sgn y∧sgn x*sgn y≤1:=by
 have:=VB (x:=sgn x) (y:=sgn y) (B:=1) (C:=1) (IJ x).1 (IJ x).2 (IJ y).1 (IJ y).2
 omega
def ab1 (a b c d:Pt):List Value:=pC a++pC b++pC c++pC d
theorem VH {a b c d:Pt} (hi:i<4):((ab1 a b c d).drop ((i:Int).toNat*2)).take 2=pC ([a,b,c,d].getD i a):=by
 rcases (show i=0∨i=1∨i=2∨i=3 by omega) with rfl|rfl|rfl|rfl <;> rfl
theorem ab2 {a b c d:Pt} (hi:i<4) (ha:Nr a) (hb:Nr b) (e:Nr c) (f:Nr d):Nr ([a,b,c,d].getD i a):=by
 rcases (show i=0∨i=1∨i=2∨i=3 by omega) with rfl|rfl|rfl|rfl <;> assumption
theorem VI {a b c d:Pt} (hi:i<4) (kvs:List (Pt × Bool)):II a b c d ([a,b,c,d].drop i) kvs=II a b c d ([a,b,c,d].drop (i+1)) (if comB a b c d ([a,b,c,d].getD i a) then AZ kvs ([a,b,c,d].getD i a) true else kvs):=by
 rcases (show i=0∨i=1∨i=2∨i=3 by omega) with rfl|rfl|rfl|rfl <;> rfl
theorem TD {a b c d x:Pt} (hi:i<4) (hx:x = [a,b,c,d].getD i a) (kvs:List (Pt × Bool)):II a b c d ([a,b,c,d].drop i) kvs=II a b c d ([a,b,c,d].drop (i+1)) (if comB a b c d x then AZ kvs x true else kvs):=by
 subst hx;exact VI hi kvs
theorem wP (n m:Int) (a b c d:Pt) (w:World) (ha:Nr a) (hb:Nr b) (I:Nr c) (J:Nr d) :
  Calls Tryz.prog 244 #[eV n a b,eV m c d] w (Ret fun v w'=>v = .int .i64 (mV a b c d)∧Ext w w'):=by
 refine aJ (vs:=[eV n a b,eV m c d]) func244 Z ntmps244 Z ?_
 refine au (bM Z (fun b2 w2 ac ad U hB2=>?_))
 refine bM Z (fun b3 w3 ae af K hB3=>?_)
 have hE:Blk w3 b2 (eC n a b) 315:=Blk.ext (cs:=eC n a b) hB2 K
 have hF:Blk w3 b3 (eC m c d) 315:=hB3
 refine ah Z (aj (?_))
 refine dn mixed 13 [2,3] Z [.is _,.is _,.is _,.is _,.is _,.is _,.is (.int .i64 (sgn (dA a b c))),.is _,.is _,.is _,.is _,.is _,.is _] [[],[0],[],[2],[],[4],[1,3,5],[],[7],[],[9],[],[11]] trivial ⟨fun e hx=>Ob.fa rfl,
   fun e hx=>bJ rfl rfl (Oq (Blk.ext (cs:=eC n a b) hE hx)),
   fun e hx=>Ob.fa rfl,
   fun e hx=>bJ rfl rfl (QJ (Blk.ext (cs:=eC n a b) hE hx)),
   fun e hx=>Ob.fa rfl,
   fun e hx=>bJ rfl rfl (Oq (Blk.ext (cs:=eC m c d) hF hx)),
   fun e hx=>Ob.o (ay (xs:=[.tmp 13,.tmp 15,.tmp 17]) call243 Z Z (oO a b c e ha hb I) (fun v wy h=>⟨h.2,h.1⟩)),
   fun e hx=>Ob.fa rfl,
   fun e hx=>bJ rfl rfl (Oq (Blk.ext (cs:=eC n a b) hE hx)),
   fun e hx=>Ob.fa rfl,
   fun e hx=>bJ rfl rfl (QJ (Blk.ext (cs:=eC n a b) hE hx)),
   fun e hx=>Ob.fa rfl,
   fun e hx=>bJ rfl rfl (QJ (Blk.ext (cs:=eC m c d) hF hx)),
   trivial⟩ (fun w4 y=>?_)
 refine L.o (ay (xs:=[.tmp 20,.tmp 22,.tmp 24]) call243 Z Z (oO a b d w4 ha hb J) (fun v5 w5 z=>?_))
 obtain ⟨rfl,A⟩:=z
 have B:=Blk.ext (cs:=eC n a b) hE (y.trans A)
 have l:=Blk.ext (cs:=eC m c d) hF (y.trans A)
 refine L.a Z (ah Z (aj (?_)))
 refine dn mixed 13 [3,2] Z [.is _,.is _,.is _,.is _,.is _,.is _,.is (.int .i64 (sgn (dA c d a))),.is _,.is _,.is _,.is _,.is _,.is _] [[],[0],[],[2],[],[4],[1,3,5],[],[7],[],[9],[],[11]] trivial ⟨fun e hx=>Ob.fa rfl,
   fun e hx=>bJ rfl rfl (Oq (Blk.ext (cs:=eC m c d) l hx)),
   fun e hx=>Ob.fa rfl,
   fun e hx=>bJ rfl rfl (QJ (Blk.ext (cs:=eC m c d) l hx)),
   fun e hx=>Ob.fa rfl,
   fun e hx=>bJ rfl rfl (Oq (Blk.ext (cs:=eC n a b) B hx)),
   fun e hx=>Ob.o (ay (xs:=[.tmp 27,.tmp 29,.tmp 31]) call243 Z Z (oO c d a e I J ha) (fun v wy h=>⟨h.2,h.1⟩)),
   fun e hx=>Ob.fa rfl,
   fun e hx=>bJ rfl rfl (Oq (Blk.ext (cs:=eC m c d) l hx)),
   fun e hx=>Ob.fa rfl,
   fun e hx=>bJ rfl rfl (QJ (Blk.ext (cs:=eC m c d) l hx)),
   fun e hx=>Ob.fa rfl,
   fun e hx=>bJ rfl rfl (QJ (Blk.ext (cs:=eC n a b) B hx)),
   trivial⟩ (fun w6 C=>?_)
 refine L.o (ay (xs:=[.tmp 34,.tmp 36,.tmp 38]) call243 Z Z (oO c d b w6 I J hb) (fun v7 w7 z=>?_))
 obtain ⟨rfl,D⟩:=z
 have M:=Blk.ext (cs:=eC n a b) B (C.trans D)
 have N:=Blk.ext (cs:=eC m c d) l (C.trans D)
 have Fz:=((U.trans K).trans (y.trans A)).trans (C.trans D)
 refine L.a Z (ah Z (au (L.o (lG (kf:=pV) (vf:=Value.bool) (fun b8 w8 V ag E W=>?_)))))
 have r:=Blk.ext (cs:=eC n a b) M E
 have F:=Blk.ext (cs:=eC m c d) N E
 refine ah Z (aj (au (L.fa Z (aT Z Z (Oq r) (L.fa Z (aT Z Z (QJ r) (L.fa Z (aT Z Z (Oq F) (L.fa Z (aT Z Z (QJ F) (L.o (bU (v:=.agg (ab1 a b c d).toArray) (parts:=[(0,.tmp 42),(1,.tmp 44),(2,.tmp 46),(3,.tmp 48)]) (vs:=[(0,_),(1,_),(2,_),(3,_)]) Z (fun w=>by kernel_rfl) (L.m Z (ak (T.block (?_))))))))))))))))
 refine bf (σ:=Nat × List (Pt × Bool)) (fun s=>[(2,.pointer (some ⟨b2,0,none⟩)),(3,.pointer (some ⟨b3,0,none⟩)),(5,.int .i64 (sgn (dA a b c))),(6,.int .i64 (sgn (dA a b d))),(7,.int .i64 (sgn (dA c d a))),(8,.int .i64 (sgn (dA c d b))),(9,.map (some b8)),(49,.agg (ab1 a b c d).toArray),(50,.int .i64 s.1)]) (fun s w'=>s.1≤4∧Ext w7 w'∧w8.heap.size≤w'.heap.size∧Blk w' b2 (eC n a b) 315∧Blk w' b3 (eC m c d) 315∧wJ pV Value.bool w' b8 s.2∧II a b c d [a,b,c,d] []=II a b c d ([a,b,c,d].drop s.1) s.2) (fun s=>4-s.1) ((0,[])) ⟨rfl,rfl,rfl,rfl,rfl,rfl,rfl,rfl,rfl,trivial⟩ ⟨Nat.zero_le _,E,Nat.le_refl _,r,F,W,rfl⟩ ?_
 rintro ⟨i,kvs⟩ w9 ⟨hi,t,ai,X,Y,u,j⟩
 simp only at hi u j
 refine au (bH Z Z (fun G=>?_) (fun G=>?_))
 ·refine ak (?_)
  have f:i<4:=by simp only at G;omega
  obtain ⟨x,hx⟩:∃ x,x = [a,b,c,d].getD i a:=⟨_,rfl⟩
  have P:Nr x:=by rw [hx];exact ab2 f ha hb I J
  have Q:=VH (a:=a) (b:=b) (c:=c) (d:=d) f
  rw [← hx] at Q
  rw [TD f hx] at j
  refine aj (aZ (T.skip (aj (T.block (au (L.o (qI runUnderlying332 isAgg124 sizeOf124 Z Z omX omX Q (L.o (O.alloc zeroValue124 (fun aa al aeO aaQ jf EP=>?_))))))))))
  refine L.o (aK sizeOf124 Z Z Z EP leX (gu x) (fun H nU rD=>?_))
  have aia:Blk H aa (pC x) 124:=rD
  have tC:Ext w9 H:=jf.upd nU (.inr omX)
  have S:=Blk.ext (cs:=eC n a b) X tC
  have adW:=Blk.ext (cs:=eC m c d) Y tC
  have Ti:=u.keep tC lzX
  have Yy:=tC.size
  refine ak (au (aT Z Z S.row (aT Z Z aia.row (L.o (ay (xs:=[.tmp 53,.tmp 54]) call265 Z Z (Gn n a b x H ha hb P) (fun am ab z=>?_))))))
  obtain ⟨TF,jD⟩:=z
  have adX:=jD.size
  rcases k:hasB a b x with _|_
  ·rw [k] at TF
   subst TF
   refine L.m Z (L.pp (L.p (aI Z (aU (T.skip (T.blk (aA (L.o (bG Z Z (by simp only;omega) (L.m Z (ak (aP ((i+1,kvs)) omX ⟨rfl,rfl,rfl,rfl,rfl,rfl,rfl,rfl,rfl,trivial⟩ ⟨f,t.trans (tC.trans jD),omX,Blk.ext (cs:=eC n a b) S jD,Blk.ext (cs:=eC m c d) adW jD,Ti.keep jD lzX,by rw [j,comB,k];rfl⟩))))))))))))
  rw [k] at TF
  subst TF
  refine L.m Z (aT Z Z ((Blk.ext (cs:=eC m c d) adW jD).row) (aT Z Z ((Blk.ext (cs:=pC x) aia jD).row) (L.o (ay (xs:=[.tmp 57,.tmp 58]) call265 Z Z (Gn m c d x ab I J P) (fun an ao z=>?_)))))
  obtain ⟨YA,iH⟩:=z
  have Y8:=iH.size
  have nM:=jD.trans iH
  have alV:=Ti.keep nM lzX
  rcases q:hasB c d x with _|_
  ·rw [q] at YA
   subst YA
   refine aG Z (aU (T.skip (T.blk (aA (L.o (bG Z Z (by simp only;omega) (L.m Z (ak (aP ((i+1,kvs)) omX ⟨rfl,rfl,rfl,rfl,rfl,rfl,rfl,rfl,rfl,trivial⟩ ⟨f,t.trans (tC.trans nM),omX,Blk.ext (cs:=eC n a b) S nM,Blk.ext (cs:=eC m c d) adW nM,alV,by rw [j,comB,k,q];rfl⟩)))))))))
  rw [q] at YA
  subst YA
  refine aG Z (aW (aA (L.m Z (aT Z Z ((Blk.ext (cs:=pC x) aia nM).row) (L.o (oZ (kf:=pV) (vf:=Value.bool) (v:=true) VF runUnderlying249 Z Z Z alV (fun ap QK aok=>?_)))))))
  have V:=r.lt
  refine ak (T.blk (aA (L.o (bG Z Z (by simp only;omega) (L.m Z (ak (aP ((i+1,AZ kvs x true)) omX ⟨rfl,rfl,rfl,rfl,rfl,rfl,rfl,rfl,rfl,trivial⟩ ⟨f,(t.trans (tC.trans nM)).upd QK (.inr omX),by have:=QK.size;omega,Blk.upd (cs:=eC n a b) (Blk.ext (cs:=eC n a b) S nM) QK (by have:=M.lt;omega),Blk.upd (cs:=eC m c d) (Blk.ext (cs:=eC m c d) adW nM) QK (by have:=N.lt;omega),aok,by rw [j,comB,k,q];rfl⟩)))))))
 refine ak (?_)
 obtain rfl:i=4:=by simp only at G;omega
 have R:II a b c d [a,b,c,d] []=kvs:=j
 have q1:=VG (dA a b c) (dA a b d)
 have q2:=VG (dA c d a) (dA c d b)
 have g:=Fz.trans t
 refine aj (bn (aY Z (aj (T.block (au (aO Z (Ar (kf:=pV) (vf:=Value.bool) runUnderlying249 Z u (dY Z Z (fun k=>?_) (fun k=>?_)))))))))
 ·refine ah Z (aZ (au (ah Z (aB results244 Z ⟨by rw [mV,R,if_pos k],g⟩))))
 refine ah Z (bn (au (aO Z (Ar (kf:=pV) (vf:=Value.bool) runUnderlying249 Z u (dK Z Z (fun q=>?_) (fun q=>?_))))))
 ·refine ah Z (aZ (au (ah Z (aB results244 Z ⟨by rw [mV,R,if_neg k,if_pos q],g⟩))))
 refine ah Z (bn (au (aN Z Z (L.o (dN Z Z omX (bH Z Z (fun h3=>?_) (fun h3=>?_)))))))
 ·refine aN Z Z (aO Z (dN Z Z omX (bH Z Z (fun h4=>?_) (fun h4=>?_))))
  ·refine aG Z (ah Z (aZ (au (ah Z (aB results244 Z ⟨by rw [mV,R,if_neg k,if_neg q,if_pos ⟨h3,h4⟩],g⟩)))))
  refine aG Z (ah Z (bn (T.skip (T.blk (au (ah Z (aB results244 Z ⟨by rw [mV,R,if_neg k,if_neg q,if_neg (fun h=>h4 h.2)],g⟩)))))))
 refine L.m Z (L.pp (L.pp (aI Z (ah Z (bn (T.skip (T.blk (au (ah Z (aB results244 Z ⟨by rw [mV,R,if_neg k,if_neg q,if_neg (fun h=>h3 h.1)],g⟩))))))))))
theorem Gp:Tryz.prog.eqGuardType Tryz.prog.depth 124=false:=by kernel_rfl
section
variable {C:Cx} {e:Env} {w:World} {K:Value→World→Prop} {d:Option Tmp} {ty:TypeId} {pos:String} {aft:Array Edge} {g:Option (Nat × Bool)} {x y:Operand} {p q:Pt}
theorem Gq (hP:C.P=Tryz.prog) (hx:ev e x=some (pV p)) (hy:ev e y=some (pV q)) (h:K (.bool (decide (p=q))) w):O C e ⟨d,.binOp .eql 124 x y 124,ty,pos,aft,g⟩ w K :=
 bD spX (fun ac a=>by
  rw [hP]
  have b:=eqPt p q w
  unfold pV at hx hy b
  simp only [execOp,a.eval hx,a.eval hy,Sem.run_bind,run_eqGuard_agg w _ _ _ _ _ _ Gp,Result.andThen_ok,run_eql_struct,b]
  rfl) h
theorem Au (hP:C.P=Tryz.prog) (hx:ev e x=some (pV p)) (hy:ev e y=some (pV q)) (a:¬ p=q) (h:K (.bool false) w):O C e ⟨d,.binOp .eql 124 x y 124,ty,pos,aft,g⟩ w K:=Gq hP hx hy (by rw [decide_eq_false a];exact h)
theorem uD (hP:C.P=Tryz.prog) (hx:ev e x=some (pV p)) (hy:ev e y=some (pV q)) (b:p=q→K (.bool true) w) (hf:¬ p=q→K (.bool false) w):O C e ⟨d,.binOp .eql 124 x y 124,ty,pos,aft,g⟩ w K:=Gq hP hx hy (by
 by_cases a:p=q
 ·rw [decide_eq_true a];exact b a
 rw [decide_eq_false a];exact hf a)
end
theorem O1 (a b c d:Pt) (w:World) (ha:rE a=false) (hb:rE b=false) (B:rE c=false) (C:rE d=false) (q:¬ a=b) (r:¬ c=d) :
  Calls Tryz.prog 246 #[pV a,pV b,pV c,pV d] w (Ret fun v w'=>v = .tuple #[.int .i64 (mV a b c d),.int .i64 0]∧Ext w w'):=by
 have na:=Nr.uz ha
 have nb:=Nr.uz hb
 have nc:=Nr.uz B
 have nd:=Nr.uz C
 refine aJ (vs:=[pV a,pV b,pV c,pV d]) func246 Z ntmps246 Z ?_
 refine au (bM Z (fun b4 U D E s t=>?_))
 refine bM Z (fun b5 V F G j u=>?_)
 refine bM Z (fun H W I J h x=>?_)
 refine bM Z (fun b7 w7 K M e y=>?_)
 have hA:Blk w7 b4 (pC a) 124:=Blk.ext (cs:=pC a) (Blk.ext (cs:=pC a) (Blk.ext (cs:=pC a) t j) h) e
 have hB:Blk w7 b5 (pC b) 124:=Blk.ext (cs:=pC b) (Blk.ext (cs:=pC b) u h) e
 have hC:Blk w7 H (pC c) 124:=Blk.ext (cs:=pC c) x e
 have hD:Blk w7 b7 (pC d) 124:=y
 refine L.a Z (ah Z (aj (au (aT Z Z hA.row (L.o (ay (xs:=[.tmp 10]) call241 Z Z (qN a w7 na) (fun X N f=>?_)))))))
 obtain ⟨k,g⟩:=f
 rw [ha] at k
 subst k
 refine L.m Z (aT Z Z ((Blk.ext (cs:=pC b) hB g).row) (L.o (ay (xs:=[.tmp 13]) call241 Z Z (qN b N nb) (fun v9 O f=>?_))))
 obtain ⟨l,i⟩:=f
 rw [hb] at l
 subst l
 refine aI Z (L.m Z (aT Z Z ((Blk.ext (cs:=pC c) hC (g.trans i)).row) (L.o (ay (xs:=[.tmp 17]) call241 Z Z (qN c O nc) (fun P z f=>?_)))))
 obtain ⟨aaW,jf⟩:=f
 rw [B] at aaW
 subst aaW
 refine aI Z (L.m Z (aT Z Z ((Blk.ext (cs:=pC d) hD ((g.trans i).trans jf)).row) (L.o (ay (xs:=[.tmp 21]) call241 Z Z (qN d z nd) (fun Q A f=>?_)))))
 obtain ⟨alW,iK⟩:=f
 rw [C] at alW
 subst alW
 have Ld:=((g.trans i).trans jf).trans iK
 have hA':=Blk.ext (cs:=pC a) hA Ld
 have n:=Blk.ext (cs:=pC b) hB Ld
 have hC':=Blk.ext (cs:=pC c) hC Ld
 have p:=Blk.ext (cs:=pC d) hD Ld
 refine aI Z (L.m Z (aT Z Z hA'.row (aT Z Z n.row (L.o (Au Z Z Z q (aI Z (L.m Z (aT Z Z hC'.row (aT Z Z p.row (L.o (Au Z Z Z r (aI Z (aU (T.skip (au (aT Z Z hA'.row (aT Z Z n.row (L.o (bU (v:=eV 0 a b) (parts:=[(1,.tmp 34),(2,.tmp 35)]) (vs:=[(1,_),(2,_)]) Z (fun w=>by kernel_rfl) (aT Z Z hC'.row (aT Z Z p.row (L.o (bU (v:=eV 0 c d) (parts:=[(1,.tmp 37),(2,.tmp 38)]) (vs:=[(1,_),(2,_)]) Z (fun w=>by kernel_rfl) (L.o (ay (xs:=[.tmp 36,.tmp 39]) call244 Z Z (wP 0 0 a b c d A na nb nc nd) (fun R S f=>?_))))))))))))))))))))))))))
 obtain ⟨rfl,jD⟩:=f
 refine L.a Z (ah Z (cu results246 Z Z ⟨rfl,((((s.trans j).trans h).trans e).trans Ld).trans jD⟩))
def pcs (r:List Pt):List Value:=r.flatMap pC
theorem zA (r s:List Pt):pcs (r++s)=pcs r++pcs s:=by simp [pcs]
theorem VJ:∀ (r:List Pt) (i:Nat),i<r.length→((pcs r).drop (i*2)).take 2=pC (r.getD i (0,0))
 | [],i,h=>by simp at h
 | p::r,0,_=>rfl
 | p::r,i+1,h=>by
  have ih:=VJ r i (by simpa using h)
  have e:pcs (p::r) = .int .i64 p.1 :: .int .i64 p.2::pcs r:=rfl
  rw [e,show (i+1)*2=i*2+1+1 by omega,List.drop_succ_cons,List.drop_succ_cons,ih]
  rfl
def Pts (lo:Nat) (w:World) (p:Value) (r:List Pt):Prop:=Sl lo w p r.length 2 (pcs r)
theorem Pts.ext {lo:Nat} {w w':World} {p:Value} {r:List Pt} (h:Pts lo w p r) (k:Ext w w'):Pts lo w' p r:=Sl.ext h k
theorem Pts.row {lo:Nat} {p:Value} {r:List Pt} (h:Pts lo w p r) (hi:i<r.length):Row w ((jX p).add ((i:Int).toNat*2)) (pC (r.getD i (0,0))):=by
 rw [Int.toNat_natCast,← VJ r i hi]
 obtain ⟨_,_,_,_,a⟩:=Sl.there h omX
 exact a.part (i*2) 2
def NrL (r:List Pt):Prop:=∀ i,i<r.length→Nr (r.getD i (0,0))
def rA (r:List Pt) (i:Nat):Pt:=r.getD i (0,0)
def rB (r:List Pt) (i:Nat):Pt:=r.getD ((i+1) % r.length) (0,0)
def aeP (r:List Pt) (i:Nat) (v:Value) (j:Nat):Prop:=i<r.length∧v=eV i (rA r i) (rB r i)∧j=i+1
theorem rV (p:Value) (n:Nat) (cs:List Value) (lo:Nat) (w:World) (c:Sl lo w p n 2 cs) :
  Calls Tryz.prog 242 #[p] w (Ret fun v w'=>v = .func (.func 263) #[] #[.pointer (some ⟨w.heap.size,0,none⟩)]∧Ext w w'∧Blk w' w.heap.size [p] 237):=by
 refine aJ (vs:=[p]) func242 Z ntmps242 Z ?_
 refine au (bM Z (fun b1 w1 a d b hB1=>?_))
 subst a
 have Fv:Blk w1 w.heap.size [p] 237:=by have:=hB1;simp only [Sl.cells c] at this;exact this
 refine ah Z (au (L.o (eG (fi:=[]) (ca:=[.tmp 1]) Z Z (ah Z (aB results242 Z ⟨rfl,b,Fv⟩)))))
theorem Le (l b lo:Nat) (p:Value) (r:List Pt) (J:Nat→(Nat→Prop)→World→Prop) (X:World→Prop) (w:World) (E:Kz J) (hInv:∀ i S W,J i S W→Pts lo W p r∧Blk W b [p] 237) (sS:∀ i v j S W,aeP r i v j→J i S W→Yld Tryz.prog l #[v] W fun u W'=>(u = .bool true∧J j S W'∧∀ k,S k→W'.heap[k]?=W.heap[k]?)∨(u = .bool false∧X W')) (h0:J 0 (fun _=>False) w) :
  Calls Tryz.prog 263 #[.func (.yield l) #[] #[],.pointer (some ⟨b,0,none⟩)] w (Ret fun _ w'=>(∃ S:Nat→Prop,(∀ k,False→S k)∧J r.length S w')∨X w'):=by
 have hI0:=hInv _ _ _ h0
 have G:=Sl.le hI0.1
 refine aJ (vs:=[.func (.yield l) #[] #[],.pointer (some ⟨b,0,none⟩)]) func263 Z ntmps263 Z ?_
 refine au (cZ Z (hI0.2.cell Z) (L.le Z (Sl.val hI0.1) (L.m Z (ak (T.block (?_))))))
 refine bf (σ:=Nat) (fun i=>[(0,.func (.yield l) #[] #[]),(1,.pointer (some ⟨b,0,none⟩)),(5,p),(6,.int .i64 r.length),(7,.int .i64 i)]) (fun i w'=>i≤r.length∧∃ S:Nat→Prop,J i S w') (fun i=>r.length-i) (0) ⟨rfl,rfl,rfl,rfl,rfl,trivial⟩ ⟨Nat.zero_le _,fun _=>False,h0⟩ ?_
 rintro i w1 ⟨hi,S,n⟩
 have hI1:=hInv _ _ _ n
 refine au (bH Z Z (fun q=>?_) (fun q=>?_))
 ·refine ak (?_)
  have c:i<r.length:=by omega
  refine aj (aZ (T.skip (aj (T.block (aQ Z (dG Z Z hI1.1 (aT Z Z (hI1.1.row c) (L.o (O.alloc zeroValue124 (fun b2 N H I s hB2=>?_))))))))))
  refine L.a Z (L.o (aK sizeOf124 Z Z Z hB2 leX (gu _) (fun F t hB3=>?_)))
  have x:Blk F b2 (pC (rA r i)) 124:=hB3
  have iH:Ext w1 F:=s.upd t (.inr omX)
  have g:=E.1 _ _ S _ _ n iH (fun k y=>.inl y)
  have e:=hInv _ _ _ g
  have f:=e.1
  have K:(i+1) % r.length<r.length:=Nat.mod_lt _ omX
  have z:((i:Int)+1) % (r.length:Int)=(((i+1) % r.length:Nat):Int):=by rw [show (i:Int)+1=((i+1:Nat):Int) by omega];rfl
  refine ak (aj (?_))
  refine dn mixed 12 [0,3,4,1] Z [.is _,.is _,.is _,.is _,.is _,.is _,.is _,.is _,.is (.int .i64 (((i+1) % r.length:Nat):Int)),.is _,.is _,.is _] [[],[],[],[],[],[4],[],[6],[5,7],[3,8],[9],[1,2,10]] trivial ⟨fun d hx=>aF rfl,
    fun d hx=>aF rfl,
    fun d hx=>bJ rfl rfl ((Blk.ext (cs:=pC (rA r i)) x hx).row),
    fun d hx=>aS rfl ((Blk.ext (cs:=[p]) e.2 hx).cell rfl),
    fun d hx=>aF rfl,
    fun d hx=>Ob.o (bG Z Z omX kR),
    fun d hx=>aS rfl ((Blk.ext (cs:=[p]) e.2 hx).cell rfl),
    fun d hx=>Ob.o (O.le Z (Sl.val (f.ext hx)) kR),
    fun d hx=>Ob.o (fG Z Z omX omX ⟨Keep.refl _ _,by rw [z];rfl⟩),
    fun d hx=>bQ rfl rfl (f.ext hx),
    fun d hx=>bJ rfl rfl ((f.ext hx).row K),
    fun d hx=>Ob.o (bU (v:=eV i (rA r i) (rB r i)) (parts:=[(0,.tmp 13),(1,.tmp 14),(2,.tmp 22)]) (vs:=[(0,_),(1,_),(2,_)]) Z (fun w=>by kernel_rfl) kR),
    trivial⟩ (fun P A=>?_)
  have B:=E.1 _ _ S _ _ g A (fun k y=>.inl y)
  refine L.o (F9 (xs:=[.tmp 23]) Z Z Z (sS _ (eV i (rA r i) (rB r i)) _ S _ ⟨c,rfl,rfl⟩ B) (fun v5 Q C=>?_))
  obtain C:=C
  rcases C with ⟨rfl,D,M⟩|⟨rfl,hX⟩
  ·refine bT Z (aU (T.skip (T.blk (aA (bF Z Z (L.m Z (ak (aP (i+1) omX ⟨rfl,rfl,rfl,rfl,rfl,trivial⟩ ⟨c,S,D⟩))))))))
  refine bT Z (aW (BZ results263 (.inr hX)))
 refine ak (?_)
 obtain rfl:i=r.length:=by omega
 refine aj (bn (aY Z (xI results263 (.inl ⟨S,fun _ h=>h.elim,n⟩))))
theorem xX (b lo:Nat) (p:Value) (r:List Pt):aex Tryz.prog 263 #[.pointer (some ⟨b,0,none⟩)] (aeP r) 0 r.length (fun W=>Pts lo W p r∧Blk W b [p] 237) (fun _=>False) (fun _=>True) :=
 fun l J X W a hInv sS h0 _=>Le l b lo p r J X W a hInv sS h0
def rP (r:List Pt) (i:Nat):Pt:=r.getD ((i+r.length-1) % r.length) (0,0)
def fwd (a b c:Pt):Int:=(b.1-a.1)*(c.1-b.1)+(b.2-a.2)*(c.2-b.2)
def Gs (r:List Pt) (i:Nat):Prop:=rA r i=rB r i
def uF (r:List Pt) (i:Nat):Prop:=dA (rP r i) (rA r i) (rB r i)=0∧fwd (rP r i) (rA r i) (rB r i)<0
def wz (r:List Pt) (i j:Nat):Prop:=j+1<i∧¬ (j=0∧i+1=r.length)∧mV (rA r i) (rB r i) (rA r j) (rB r j)≠0
instance (r:List Pt) (i:Nat):Decidable (Gs r i):=inferInstanceAs (Decidable (_=_))
instance (r:List Pt) (i:Nat):Decidable (uF r i):=inferInstanceAs (Decidable (_∧_))
instance (r:List Pt) (i j:Nat):Decidable (wz r i j):=inferInstanceAs (Decidable (_∧_∧_))
def uG (r:List Pt):Int :=
 if r.length<3∨40<r.length then 1 else if ∃ i,i<r.length∧Gs r i then 3 else if ∃ i,i<r.length∧uF r i then 4
 else if ∃ i,i<r.length∧∃ j,j<r.length∧wz r i j then 5 else 0
def NfL (r:List Pt):Prop:=∀ i,i<r.length→rE (r.getD i (0,0))=false
def YB (w:World) (b:Nat) (v:Value):Nat→World→Prop
 | 0,W=>Ext w W
 | _+1,W=>∃ W1,Ext w W1∧Upd b W1 W∧Blk W b [v] 3
theorem YB.blk {b' c:Nat} {v:Value} {cs:List Value} (h:YB w b v c W) (hB:Blk w b' cs t) (a:b'≠b):Blk W b' cs t:=by
 cases c with
 | zero=>exact Blk.ext hB h
 | succ c=>obtain ⟨f,d,e,_⟩:=h;exact Blk.upd (Blk.ext hB d) e a
structure kX (b2 b3:Nat) (t2 t3:TypeId) (v2 v3:Value) (w W:World):Prop where
 os:W.os=w.os
 tape:W.tape=w.tape
 output:W.output=w.output
 size:w.heap.size≤W.heap.size
 block:∀ k,k<w.heap.size→k≠b2→k≠b3→W.heap[k]?=w.heap[k]?
 c2:Blk W b2 [v2] t2
 c3:Blk W b3 [v3] t3
theorem kX.of {e W2 c:World} (h:Ext w e) (b:Upd b2 e W2) (hB2:Blk W2 b2 [v2] t2) (a:Upd b3 W2 c) (hB3:Blk c b3 [v3] t3) (d:b2≠b3):kX b2 b3 t2 t3 v2 v3 w c :=
 ⟨a.os.trans (b.os.trans h.os),a.tape.trans (b.tape.trans h.tape),a.output.trans (b.output.trans h.output),by rw [a.size,b.size];exact h.size,fun k f n2 n3=>by rw [a.block k n3,b.block k n2,h.block k lzX f],Blk.upd hB2 a d,hB3⟩
theorem kX.upd {b2 b3 b:Nat} {t2 t3:TypeId} {v2 v3:Value} {w W W':World} (h:kX b2 b3 t2 t3 v2 v3 w W) (a:Upd b W W') (hb:w.heap.size≤b) (d:b2<w.heap.size) (e:b3<w.heap.size):kX b2 b3 t2 t3 v2 v3 w W' :=
 ⟨a.os.trans h.os,a.tape.trans h.tape,a.output.trans h.output,by rw [a.size];exact h.size,fun k c n2 n3=>by rw [a.block k omX,h.block k c n2 n3],Blk.upd h.c2 a omX,Blk.upd h.c3 a omX⟩
theorem kX.ext {w0:World} (h:kX b2 b3 t2 t3 v2 v3 w W) (k:Ext w0 w) (a:w0.heap.size≤b2) (b:w0.heap.size≤b3):Ext w0 W :=
 ⟨h.os.trans k.os,h.tape.trans k.tape,h.output.trans k.output,Nat.le_trans k.size h.size,fun i _ hi=>(h.block i (Nat.lt_of_lt_of_le hi k.size) omX omX).trans (k.block i lzX hi)⟩
theorem kX.from {w0:World} (h:kX b2 b3 t2 t3 v2 v3 w W) (k:Ext w0 w):kX b2 b3 t2 t3 v2 v3 w0 W :=
 ⟨h.os.trans k.os,h.tape.trans k.tape,h.output.trans k.output,Nat.le_trans k.size h.size,fun i hi n2 n3=>(h.block i (Nat.lt_of_lt_of_le hi k.size) n2 n3).trans (k.block i lzX hi),h.c2,h.c3⟩
theorem Opn.Y9 {ds:List Nat} {cs:List Value} (ho:Opn ds W) (hB:Blk W b cs t):b∉ds:=fun c=>by
 have d:=ho.2 b c
 have a:W.heap[b]?=_:=hB
 rw [d] at a;cases a
theorem Opn.done {ds:List Nat} {b c:Value} (h:Opn ds w) (d:kX b2 b3 t2 t3 v2 v3 w W) (f:Blk w b2 [b] t2) (g:Blk w b3 [c] t3):Opn ds W :=
 ⟨h.1,fun r a=>(d.block r (h.lt r a) (fun e=>Opn.Y9 h f (e▸a)) (fun e=>Opn.Y9 h g (e▸a))).trans (h.2 r a)⟩
theorem kX.cells {ds:List Nat} {W':World} (a:kX b2 b3 t2 t3 v2 v3 w W) (ho:Opn ds W) (hs:Shut ds W W'):W'.cell? ⟨b2,0,none⟩=some v2∧W'.cell? ⟨b3,0,none⟩=some v3 :=
 ⟨Blk.cell (b:=b2) ((hs.block b2 (Opn.Y9 ho a.c2)).trans a.c2) rfl,Blk.cell (b:=b3) ((hs.block b3 (Opn.Y9 ho a.c3)).trans a.c3) rfl⟩
def LI {σ:Type} (w:World) (A:σ→Prop) (i:σ) (S:Nat→Prop) (W:World):Prop:=Ext w W∧(∀ k,S k→w.heap.size≤k∧k<W.heap.size)∧A i
theorem LI.Lh {σ:Type} {A:σ→Prop} : Kz (LI w A):=by
 refine ⟨?_,?_⟩
 ·rintro i S S' W W' ⟨c,a,d⟩ f hS
  refine ⟨c.trans f,fun k e=>?_,d⟩
  rcases hS _ e with h|h
  ·exact ⟨(a k h).1,Nat.lt_of_lt_of_le (a k h).2 f.size⟩
  exact ⟨Nat.le_trans c.size h.1,h.2⟩
 rintro i S W W' b ⟨c,a,d⟩ hb g
 exact ⟨c.upd g (.inr (a b hb).1),fun k e=>by rw [g.size];exact a k e,d⟩
theorem LI.start {σ:Type} {A:σ→Prop} {i:σ} (h:A i):LI w A i (fun _=>False) w:=⟨Keep.refl _ _,fun k a=>a.elim,h⟩
def LX (B:Prop) (b2 b3:Nat) (t2 t3:TypeId) (kd:Int) (w:World) (S:Nat→Prop) (W:World):Prop:=B∧(∀ k,S k→w.heap.size≤k∧k<W.heap.size)∧∃ a:Int,kX b2 b3 t2 t3 (.int .i64 kd) (.int .i64 a) w W
theorem LX.upd {B:Prop} {b2 b3 b:Nat} {t2 t3:TypeId} {kd:Int} {w W W':World} {S:Nat→Prop} (h:LX B b2 b3 t2 t3 kd w S W) (hb:S b) (c:Upd b W W') (d:b2<w.heap.size) (e:b3<w.heap.size):LX B b2 b3 t2 t3 kd w S W':=by
 obtain ⟨f,hS,a,g⟩:=h
 exact ⟨f,fun k i=>by rw [c.size];exact hS k i,a,g.upd c (hS b hb).1 d e⟩
theorem uH {a:Nat} {cs c:List Value} {t':TypeId} (h:Blk w a cs t) (g:Blk w b c t') (d:t≠t'):a≠b:=fun e=>by
 subst e
 have i:w.heap[a]?=_:=h
 have f:w.heap[a]?=_:=g
 rw [i] at f
 simp at f
 exact d f.2
theorem Za (h:sgn x=0):x=0:=by
 unfold sgn at h;split at h <;> (try split at h) <;> omega
def aib (k:Int) (w:World) (v:Value) (w':World):Prop:=∃ a:Int,v = .tuple #[.int .i64 k,.int .i64 a]∧Ext w w'
theorem Lj (lo:Nat) (p:Value) (r:List Pt) (w:World) (e:Pts lo w p r) (hf:NfL r) :
  Calls Tryz.prog 240 #[p,.func (.func 241) #[] #[]] w (Ret fun v w'=>v = .int .i64 (-1)∧Ext w w'):=by
 have h:=Sl.le e
 refine aJ (vs:=[p,.func (.func 241) #[] #[]]) func240 Z ntmps240 Z ?_
 refine au (ah Z (aj (aQ Z (L.le Z (Sl.val e) (L.m Z (ak (T.block (?_))))))))
 refine bf (σ:=Nat) (fun i=>[(0,p),(1,.func (.func 241) #[] #[]),(7,.int .i64 r.length),(8,.int .i64 i)]) (fun i w'=>i≤r.length∧Ext w w') (fun i=>r.length-i) (0) ⟨rfl,rfl,rfl,rfl,trivial⟩ ⟨Nat.zero_le _,Keep.refl _ _⟩ ?_
 rintro i w1 ⟨hi,b⟩
 refine au (bH Z Z (fun f=>?_) (fun f=>?_))
 ·refine ak (?_)
  have a:i<r.length:=by omega
  have c:=hf i a
  refine aj (aZ (T.skip (aj (T.block (aQ Z (ah Z (au (aN Z Z (L.m Z (dG Z Z (e.ext b) (aT Z Z ((e.ext b).row a) (L.o (ay (xs:=[.tmp 15]) call241 Z Z (qN (r.getD i (0,0)) w1 (Nr.uz c)) (fun v2 k j=>?_))))))))))))))
  obtain ⟨d,g⟩:=j
  rw [c] at d
  subst d
  refine aU (T.skip (T.blk (aA (bF Z Z (L.m Z (ak (aP (i+1) omX ⟨rfl,rfl,rfl,rfl,trivial⟩ ⟨a,b.trans g⟩)))))))
 refine ak (aj (bn (aY Z (au (ah Z (aB results240 Z ⟨rfl,b⟩))))))
theorem FB (lo:Nat) (p:Value) (r:List Pt) (w:World) (hp:Pts lo w p r) (hf:NfL r) :
  Calls Tryz.prog 208 #[p] w (Ret fun v w'=>aib (uG r) w v w'):=by
 have bs:=Sl.le hp
 have hn:∀ i,i<r.length→Nr (r.getD i (0,0)):=fun i hi=>Nr.uz (hf i hi)
 refine wI (vs:=[p]) func208 Z ntmps208 Z ?_
 refine au (bM Z (fun b1 w1 bt bu bd hB1=>?_))
 refine L.o (O.alloc zeroValue3 (fun b2 w2 aV aX ax hB2=>?_))
 refine L.o (O.alloc zeroValue3 (fun b3 w3 a0 bv ad hB3=>?_))
 have Fv:Blk w1 b1 [p] 237:=by have:=hB1;simp only [Sl.cells hp] at this;exact this
 have kZ:=(bd.trans ax).trans ad
 refine ak (au (cZ Z ((Blk.ext (cs:=[p]) Fv (ax.trans ad)).cell Z) (L.le Z (Sl.val (hp.ext kZ)) (L.o (O.alloc zeroValue3 (fun b4 w4 bw bz ae be=>?_))))))
 refine L.o (bP sizeOf3 Z Z Z be (by simp [Value.cells,ofT]) (fun w5 af bf=>?_))
 have TG:Ext w w5:=(kZ.trans ae).upd af (.inr omX)
 have IK:Blk w5 b1 [p] 237:=Blk.upd (cs:=[p]) (Blk.ext (cs:=[p]) Fv ((ax.trans ad).trans ae)) af omX
 have Tv:Blk w5 b2 [.int .i64 0] 3:=Blk.upd (cs:=[.int .i64 0]) (Blk.ext (cs:=[.int .i64 0]) hB2 (ad.trans ae)) af omX
 have aeI:Blk w5 b3 [.int .i64 0] 3:=Blk.upd (cs:=[.int .i64 0]) (Blk.ext (cs:=[.int .i64 0]) hB3 ae) af omX
 have Y4:Blk w5 b4 [.int .i64 r.length] 3:=bf
 refine ak (aj (au (cZ Z (Y4.cell Z) (bH Z Z (fun h3=>?_) (fun h3=>?_)))))
 ·refine L.m Z (L.pp (aG Z (aW (au (L.o (bP sizeOf3 Z Z Z Tv (by simp [Value.cells,ofT]) (fun w6 X az=>?_)))))))
  refine L.o (bP sizeOf3 Z Z Z (Blk.upd (cs:=[.int .i64 0]) aeI X omX) (by simp [Value.cells,ofT]) (fun w7 aB aD=>?_))
  have q:=kX.of (Keep.refl 0 w5) X az aB aD omX
  refine ak (jh results208 isAgg3 isAgg3 Z Z (Opn.nil _) (fun w' hs=>q.cells (Opn.nil _) hs) (fun w' hs=>⟨0,by rw [uG,if_pos (.inl omX)],(q.ext TG omX omX).shut hs (fun r Y=>by cases Y)⟩))
 refine L.m Z (cZ Z (Y4.cell Z) (dY Z Z (fun bg=>?_) (fun bg=>?_)))
 ·refine aI Z (aW (au (L.o (bP sizeOf3 Z Z Z Tv (by simp [Value.cells,ofT]) (fun w6 X az=>?_)))))
  refine L.o (bP sizeOf3 Z Z Z (Blk.upd (cs:=[.int .i64 0]) aeI X omX) (by simp [Value.cells,ofT]) (fun w7 aB aD=>?_))
  have q:=kX.of (Keep.refl 0 w5) X az aB aD omX
  refine ak (jh results208 isAgg3 isAgg3 Z Z (Opn.nil _) (fun w' hs=>q.cells (Opn.nil _) hs) (fun w' hs=>⟨0,by rw [uG,if_pos (.inr omX)],(q.ext TG omX omX).shut hs (fun r Y=>by cases Y)⟩))
 have R:¬ (r.length<3∨40<r.length):=by omega
 refine aI Z (aU (T.skip (aj (au (cZ Z (IK.cell Z) (L.o (ay (xs:=[.tmp 19,.func 241]) call240 Z Z (Lj lo p r w5 (hp.ext TG) hf) (fun v6 w6 C=>?_))))))))
 obtain ⟨rfl,aa⟩:=C
 refine ah Z (au (aO Z (oM Z Z dcX (?_))))
 have Ot:=Blk.ext (cs:=[p]) IK aa
 have aeQ:=Blk.ext (cs:=[.int .i64 0]) Tv aa
 have aol:=Blk.ext (cs:=[.int .i64 0]) aeI aa
 have aom:=Blk.ext (cs:=[.int .i64 r.length]) Y4 aa
 have qE:=TG.trans aa
 refine aU (T.skip (aj (au (cZ Z (Ot.cell Z) (L.o (ay (xs:=[.tmp 24]) call242 Z Z (rV p r.length (pcs r) lo w6 (hp.ext qE)) (fun v7 w7 C=>?_)))))))
 obtain ⟨rfl,ab,bh⟩:=C
 have Ll:=Blk.ext (cs:=[p]) Ot ab
 have ag:=Blk.ext (cs:=[.int .i64 0]) aeQ ab
 have aeR:=Blk.ext (cs:=[.int .i64 0]) aol ab
 have aic:=Blk.ext (cs:=[.int .i64 r.length]) aom ab
 have Fz:=qE.trans ab
 have a1:=hp.ext Fz
 have aV:=ag.lt
 have a0:=aeR.lt
 refine ak (T.block (?_))
 refine gZ (e1:=fun v x=>[(1,.pointer (some ⟨b1,0,none⟩)),(2,.pointer (some ⟨b2,0,none⟩)),(3,.pointer (some ⟨b3,0,none⟩)),(6,.pointer (some ⟨x,0,none⟩))]) (LI w7 (fun i=>∀ k,k<i→¬ Gs r k)) (fun c S w'=>c = .ret∧LX (∃ i,i<r.length∧Gs r i) b2 b3 3 3 3 w7 S w') (fun v x w'=>∃ i:Nat,v=eV i (rA r i) (rB r i)∧Blk w' x (eC i (rA r i) (rB r i)) 315) Z call263 Z (xX w6.heap.size lo p r) ?_ ?_ ?_ ?_ ?_ ?_ ?_ ?_ ?_ ?_ ?_
 ·exact LI.Lh
 ·exact fun c S W W' b h hb g=>⟨h.1,h.2.upd hb g aV a0⟩
 ·exact fun i S W h=>⟨a1.ext h.1,Blk.ext (cs:=[p]) bh h.1⟩
 ·exact LI.start (fun k d=>absurd d (Nat.not_lt_zero _))
 ·exact fun k d=>d.elim
 ·exact fun W hW=>trivial
 ·rintro v x W W' b' ⟨i,n,E⟩ F g
  exact ⟨i,n,E.upd g (Ne.symm F)⟩
 ·intro l Q i j v k W hn hK
  obtain ⟨hi,rfl,_⟩:=hn
  refine aA (L.o (O.alloc zeroValue315 (fun b8 w8 aE ai f G=>?_)))
  refine L.o (aK sizeOf315 Z Z Z G leX (by intro u g;simp at g;rcases g with (rfl|rfl|rfl|rfl|rfl) <;> rfl) (fun w9 H I=>?_))
  refine ak (T.sub ?_ (hK b8 _ omX (f.upd H (.inr omX)) ⟨_,rfl,I⟩))
  exact ⟨rfl,rfl,rfl,rfl,trivial⟩
 ·rintro l i v x j S w8 ⟨hi,rfl,rfl⟩ ⟨f,V,aF⟩ ⟨i',hv,t⟩ - -
  obtain rfl:i'=i:=by have h:=congrArg Value.cells hv;simp [eV,Value.cells] at h;omega
  refine T.block (au (L.fa Z (aT Z Z (Oq t) (L.fa Z (aT Z Z (QJ t) (?_))))))
  have J:x≠b2:=uH t (Blk.ext ag f) dcX
  refine L.o (uD Z Z Z (fun K=>?_) (fun K=>?_))
  ·refine aW (aj (?_))
   refine T.any mixed 3 1 [6,2] Z [.is _,.is _,.is undef] [[],[0],[]] [none,none,some 0] [[],[0],[],[0,1,2]] (YB w8 b2 (.int .i64 3)) (fun _ _=>True) krX krX krX Z trivial (Keep.drew _ _) ⟨fun c s hx=>ObK.op rfl (O.fa Z ⟨⟨trivial,hx⟩,rfl⟩),
     fun c s hx=>ObK.op Z (dR Z ((hx.blk t J).cell Z) ⟨⟨trivial,hx⟩,rfl⟩),
     fun s hx=>ObK.op Z (bP sizeOf3 Z Z Z (Blk.ext (cs:=[.int .i64 0]) (Blk.ext ag f) hx) (by simp [Value.cells,ofT]) (fun ac nU rD=>⟨⟨trivial,_,hx,nU,rD⟩,rfl⟩)),
     trivial⟩ (fun z aie=>?_)
   obtain ⟨W1,hE,hU,hC⟩:=aie
   refine L.o (bP sizeOf3 Z Z Z (Blk.upd (cs:=[.int .i64 0]) (Blk.ext (Blk.ext aeR f) hE) hU omX) (by simp [Value.cells,ofT]) (fun ac nU rD=>?_))
   have ai:=hE.size
   have aH:=hU.size
   have Yy:=nU.size
   refine ak (iw ⟨⟨rfl,⟨i',hi,K⟩,fun k d=>⟨(V k d).1,by have:=(V k d).2;omega⟩,_,(kX.of hE hU hC nU rD omX).from f⟩,fun k d=>?_⟩)
   have n:=V k d
   rw [nU.block k omX,hU.block k omX,hE.block k lzX n.2]
  refine aU (T.skip (T.blk (eY ⟨⟨f,V,fun k d=>?_⟩,fun k d=>rfl⟩)))
  ·by_cases e:k=i'
   ·subst e;exact K
   exact aF k omX
 ·rintro S D w8 hD hS0 hSD ⟨f,V,aF⟩ aJ
  have al:Opn [D] w8:=(Opn.nil _).cons aJ spX
  have K:¬ ∃ i,i<r.length∧Gs r i:=fun ⟨i,n,E⟩=>aF i n E
  refine T.blk (aj (au (cZ Z ((Blk.ext (cs:=[p]) Ll f).cell Z) (L.o (ay (xs:=[.tmp 34]) call242 Z Z (rV p r.length (pcs r) lo w8 (a1.ext f)) (fun v9 w9 C=>?_))))))
  obtain ⟨rfl,a2,aon⟩:=C
  have rC:=f.trans a2
  have Lm:=Blk.ext (cs:=[p]) Ll rC
  have Zb:=Blk.ext (cs:=[.int .i64 0]) ag rC
  have aif:=Blk.ext (cs:=[.int .i64 0]) aeR rC
  have alX:=Blk.ext (cs:=[.int .i64 r.length]) aic rC
  have vF:=Fz.trans rC
  have aL:=hp.ext vF
  have am:=al.ext a2
  have aeG:=rC.size
  have atg:=Fz.size
  refine ak (T.block (?_))
  refine gZ (e1:=fun v x=>[(1,.pointer (some ⟨b1,0,none⟩)),(2,.pointer (some ⟨b2,0,none⟩)),(3,.pointer (some ⟨b3,0,none⟩)),(4,.pointer (some ⟨b4,0,none⟩)),(7,.pointer (some ⟨x,0,none⟩))]) (LI w9 (fun i=>∀ k,k<i→¬ uF r k)) (fun c S w'=>c = .ret∧LX (∃ i,i<r.length∧uF r i) b2 b3 3 3 4 w9 S w') (fun v x w'=>∃ i:Nat,v=eV i (rA r i) (rB r i)∧Blk w' x (eC i (rA r i) (rB r i)) 315) Z call263 Z (xX w8.heap.size lo p r) ?_ ?_ ?_ ?_ ?_ ?_ ?_ ?_ ?_ ?_ ?_
  ·exact LI.Lh
  ·exact fun c S W W' b h hb g=>⟨h.1,h.2.upd hb g omX omX⟩
  ·exact fun i S W h=>⟨aL.ext h.1,Blk.ext (cs:=[p]) aon h.1⟩
  ·exact LI.start (fun k d=>absurd d (Nat.not_lt_zero _))
  ·exact fun k d=>d.elim
  ·exact fun W hW=>trivial
  ·rintro v x W W' b' ⟨i,n,E⟩ F g
   exact ⟨i,n,E.upd g (Ne.symm F)⟩
  ·intro l Q i j v k W hn hK
   obtain ⟨hi,rfl,_⟩:=hn
   refine aA (L.o (O.alloc zeroValue315 (fun b8 w8 aE ai f G=>?_)))
   refine L.o (aK sizeOf315 Z Z Z G leX (by intro u g;simp at g;rcases g with (rfl|rfl|rfl|rfl|rfl) <;> rfl) (fun w9 H I=>?_))
   refine ak (T.sub ?_ (hK b8 _ omX (f.upd H (.inr omX)) ⟨_,rfl,I⟩))
   exact ⟨rfl,rfl,rfl,rfl,rfl,trivial⟩
  ·rintro l i v x j S z ⟨hi,rfl,rfl⟩ ⟨jf,TI,U⟩ ⟨i',hv,t⟩ - -
   obtain rfl:i'=i:=by have h:=congrArg Value.cells hv;simp [eV,Value.cells] at h;omega
   have hm:(i'+r.length-1) % r.length<r.length:=Nat.mod_lt _ omX
   have bi:((i':Int)+r.length-1) % (r.length:Int)=(((i'+r.length-1) % r.length:Nat):Int):=by rw [show (i':Int)+r.length-1=((i'+r.length-1:Nat):Int) by omega];rfl
   have aoo:=Blk.ext (cs:=[p]) Lm jf
   have alY:=Blk.ext (cs:=[.int .i64 0]) Zb jf
   have aop:=Blk.ext (cs:=[.int .i64 0]) aif jf
   have alZ:=Blk.ext (cs:=[.int .i64 r.length]) alX jf
   have a3:=aL.ext jf
   have nP:Nr (rP r i'):=hn _ hm
   have nA:Nr (rA r i'):=hn _ hi
   have nB:Nr (rB r i'):=hn _ (Nat.mod_lt _ omX)
   refine T.block (aj (?_))
   refine dn mixed 11 [1,7,4] Z [.is _,.is _,.is _,.is _,.is _,.is _,.is _,.is (.int .i64 (((i'+r.length-1) % r.length:Nat):Int)),.is _,.is _,.such (PtB z.heap.size)] [[],[],[1],[],[2,3],[4],[],[5,6],[0,7],[8],[]] ⟨fun v w w' h ⟨b,c,n,E,h3⟩=>⟨b,c,n,E,Blk.ext (cs:=pC c) h3 h⟩,trivial⟩ ⟨fun s hx=>aS rfl ((Blk.ext (cs:=[p]) aoo hx).cell Z),
     fun s hx=>Ob.fa rfl,
     fun s hx=>aS rfl ((Blk.ext (cs:=eC i' (rA r i') (rB r i')) t hx).cell rfl),
     fun s hx=>aS rfl ((Blk.ext (cs:=[.int .i64 r.length]) alZ hx).cell rfl),
     fun s hx=>Ob.o (bG Z Z omX kR),
     fun s hx=>Ob.o (dh Z Z omX kR),
     fun s hx=>aS rfl ((Blk.ext (cs:=[.int .i64 r.length]) alZ hx).cell rfl),
     fun s hx=>Ob.o (fG Z Z omX omX ⟨Keep.refl _ _,by rw [bi];rfl⟩),
     fun s hx=>bQ rfl rfl (a3.ext hx),
     fun s hx=>bJ rfl rfl ((a3.ext hx).row hm),
     fun s hx=>Ob.o (O.alloc zeroValue124 (fun b wy hb hz he hB=>⟨he,b,(0,0),rfl,by have:=hx.size;omega,hB⟩)),
     trivial⟩ (fun ac iK v8 bj=>?_)
   obtain ⟨bk,c12,rfl,adY,Lp⟩:=bj
   refine L.o (aK sizeOf124 Z Z Z Lp leX (gu (rP r i')) (fun A BK Df=>?_))
   have adZ:Blk A bk (pC (rP r i')) 124:=Df
   have aaX:Ext z A:=iK.upd BK (.inr adY)
   have an:=Blk.ext (cs:=eC i' (rA r i') (rB r i')) t aaX
   refine ak (au (aT Z Z adZ.row (L.fa Z (aT Z Z (Oq an) (L.fa Z (aT Z Z (QJ an) (L.o (ay (xs:=[.tmp 47,.tmp 49,.tmp 51]) call243 Z Z (oO (rP r i') (rA r i') (rB r i') A nP nA nB) (fun bA B C=>?_)))))))))
   obtain ⟨rfl,je⟩:=C
   have qO:=aaX.trans je
   have M:=Blk.ext (cs:=eC i' (rA r i') (rB r i')) t qO
   have a4:=Blk.ext (cs:=pC (rP r i')) adZ je
   unfold Nr at nP nA nB
   have J:x≠b2:=uH M (Blk.ext alY qO) dcX
   refine dK Z Z (fun hturn=>?_) (fun hturn=>?_)
   ·refine L.m Z (L.fa Z (aC Z ((Oq M) 0 _ Z) (aC Z (a4.cell Z) (L.o (dh Z Z omX (L.fa Z (aC Z ((QJ M) 0 _ Z) (L.fa Z (aC Z ((Oq M) 0 _ Z) (L.o (dh Z Z omX (?_))))))))))))
    have m1:=ny (x:=(rA r i').1-(rP r i').1) (y:=(rB r i').1-(rA r i').1) omX
    refine L.o (dN Z Z omX (L.fa Z (aC Z ((Oq M) 1 _ Z) (aC Z (a4.cell Z) (L.o (dh Z Z omX (L.fa Z (aC Z ((QJ M) 1 _ Z) (L.fa Z (aC Z ((Oq M) 1 _ Z) (L.o (dh Z Z omX (?_)))))))))))))
    have m2:=ny (x:=(rA r i').2-(rP r i').2) (y:=(rB r i').2-(rA r i').2) omX
    refine L.o (dN Z Z omX (bF Z Z (bH Z Z (fun aM=>?_) (fun aM=>?_))))
    ·refine aG Z (aW (aj (?_)))
     refine T.any mixed 3 1 [7,2] Z [.is _,.is _,.is undef] [[],[0],[]] [none,none,some 0] [[],[0],[],[0,1,2]] (YB B b2 (.int .i64 4)) (fun _ _=>True) krX krX krX Z trivial (Keep.drew _ _) ⟨fun c s hx=>ObK.op rfl (O.fa Z ⟨⟨trivial,hx⟩,rfl⟩),
       fun c s hx=>ObK.op Z (dR Z ((hx.blk M J).cell Z) ⟨⟨trivial,hx⟩,rfl⟩),
       fun s hx=>ObK.op Z (bP sizeOf3 Z Z Z (Blk.ext (cs:=[.int .i64 0]) (Blk.ext alY qO) hx) (by simp [Value.cells,ofT]) (fun aN IL Ot=>⟨⟨trivial,_,hx,IL,Ot⟩,rfl⟩)),
       trivial⟩ (fun ao bl=>?_)
     obtain ⟨W1,hE,hU,hC⟩:=bl
     refine L.o (bP sizeOf3 Z Z Z (Blk.upd (cs:=[.int .i64 0]) (Blk.ext (Blk.ext aop qO) hE) hU omX) (by simp [Value.cells,ofT]) (fun aN IL Ot=>?_))
     have bB:=qO.size
     have a5:=hE.size
     have aH:=hU.size
     have a6:=IL.size
     refine ak (iw ⟨⟨rfl,⟨i',hi,Za hturn,aM⟩,fun k d=>⟨(TI k d).1,by have:=(TI k d).2;omega⟩,_,(kX.of hE hU hC IL Ot omX).from (jf.trans qO)⟩,fun k d=>?_⟩)
     have n:=TI k d
     rw [IL.block k omX,hU.block k omX,hE.block k lzX omX,qO.block k lzX n.2]
    refine aG Z (aU (T.skip (T.blk (eY ⟨⟨jf.trans qO,fun k d=>⟨(TI k d).1,Nat.lt_of_lt_of_le (TI k d).2 qO.size⟩,fun k d=>?_⟩,fun k d=>qO.block k lzX (TI k d).2⟩))))
    ·by_cases e:k=i'
     ·subst e;exact fun h=>aM h.2
     exact U k omX
   refine L.m Z (L.pp (L.pp (L.pp (L.pp (L.pp (L.pp (L.pp (L.pp (L.pp (L.pp (L.pp (L.p (?_)))))))))))))
   refine L.pp (L.pp (L.pp (L.p (aI Z (aU (T.skip (T.blk (eY ⟨⟨jf.trans qO,fun k d=>⟨(TI k d).1,Nat.lt_of_lt_of_le (TI k d).2 qO.size⟩,fun k d=>?_⟩,fun k d=>qO.block k lzX (TI k d).2⟩))))))))
   ·by_cases e:k=i'
    ·subst e;exact fun h=>hturn (by rw [h.1];rfl)
    exact U k omX
  ·rintro S2 D2 z hD2 aoq aii ⟨jf,TI,U⟩ aij
   have ap:Opn [D2,D] z:=(am.ext jf).cons aij (by have:=am.lt D spX;simp;omega)
   have a7:¬ ∃ i,i<r.length∧uF r i:=fun ⟨i,n,E⟩=>U i n E
   refine T.blk (aj (au (cZ Z ((Blk.ext (cs:=[p]) Lm jf).cell Z) (L.o (ay (xs:=[.tmp 88]) call242 Z Z (rV p r.length (pcs r) lo z (aL.ext jf)) (fun bC ac C=>?_))))))
   obtain ⟨rfl,iK,aik⟩:=C
   have tC:=jf.trans iK
   have aor:=Blk.ext (cs:=[p]) Lm tC
   have aq:=Blk.ext (cs:=[.int .i64 0]) Zb tC
   have ar:=Blk.ext (cs:=[.int .i64 0]) aif tC
   have aos:=Blk.ext (cs:=[.int .i64 r.length]) alX tC
   have aP:=vF.trans tC
   have ail:=hp.ext aP
   have Zc:=ap.ext iK
   have ain:=tC.size
   have bD:=iK.size
   refine ak (T.block (?_))
   refine gZ (e1:=fun v x=>[(1,.pointer (some ⟨b1,0,none⟩)),(2,.pointer (some ⟨b2,0,none⟩)),(3,.pointer (some ⟨b3,0,none⟩)),(4,.pointer (some ⟨b4,0,none⟩)),(9,.pointer (some ⟨x,0,none⟩))]) (LI ac (fun i=>∀ k,k<i→∀ j,j<r.length→¬ wz r k j)) (fun c S w'=>c = .ret∧LX (∃ i,i<r.length∧∃ j,j<r.length∧wz r i j) b2 b3 3 3 5 ac S w') (fun v x w'=>∃ i:Nat,v=eV i (rA r i) (rB r i)∧Blk w' x (eC i (rA r i) (rB r i)) 315) Z call263 Z (xX z.heap.size lo p r) ?_ ?_ ?_ ?_ ?_ ?_ ?_ ?_ ?_ ?_ ?_
   ·exact LI.Lh
   ·exact fun c S W W' b h hb g=>⟨h.1,h.2.upd hb g omX omX⟩
   ·exact fun i S W h=>⟨ail.ext h.1,Blk.ext (cs:=[p]) aik h.1⟩
   ·exact LI.start (fun k d=>absurd d (Nat.not_lt_zero _))
   ·exact fun k d=>d.elim
   ·exact fun W hW=>trivial
   ·rintro v x W W' b' ⟨i,n,E⟩ F g
    exact ⟨i,n,E.upd g (Ne.symm F)⟩
   ·intro l Q i j v k W hn hK
    obtain ⟨hi,rfl,_⟩:=hn
    refine aA (L.o (O.alloc zeroValue315 (fun b8 w8 aE ai f G=>?_)))
    refine L.o (aK sizeOf315 Z Z Z G leX (by intro u g;simp at g;rcases g with (rfl|rfl|rfl|rfl|rfl) <;> rfl) (fun w9 H I=>?_))
    refine ak (T.sub ?_ (hK b8 _ omX (f.upd H (.inr omX)) ⟨_,rfl,I⟩))
    exact ⟨rfl,rfl,rfl,rfl,rfl,trivial⟩
   ·rintro l i v bx j S N ⟨hi,rfl,rfl⟩ ⟨jD,J9,av⟩ ⟨i',hv,t⟩ ⟨rc,bm⟩ hSl
    obtain rfl:i'=i:=by have h:=congrArg Value.cells hv;simp [eV,Value.cells] at h;omega
    have nA:Nr (rA r i'):=hn _ hi
    have nB:Nr (rB r i'):=hn _ (Nat.mod_lt _ omX)
    refine T.block (au (cZ Z ((Blk.ext (cs:=[p]) aor jD).cell Z) (L.o (ay (xs:=[.tmp 91]) call242 Z Z (rV p r.length (pcs r) lo N (ail.ext jD)) (fun bE A C=>?_)))))
    obtain ⟨rfl,iH,aio⟩:=C
    have nM:=jD.trans iH
    have aw:=Blk.ext (cs:=[.int .i64 0]) aq nM
    have a8:=Blk.ext (cs:=[.int .i64 0]) ar nM
    have aot:=Blk.ext (cs:=[.int .i64 r.length]) aos nM
    have an:=Blk.ext (cs:=eC i' (rA r i') (rB r i')) t iH
    have aou:=ail.ext nM
    have bI:=iH.size
    have bK:=nM.size
    refine ak (T.block (?_))
    refine Cm (e1:=fun v x=>[(2,.pointer (some ⟨b2,0,none⟩)),(3,.pointer (some ⟨b3,0,none⟩)),(4,.pointer (some ⟨b4,0,none⟩)),(9,.pointer (some ⟨bx,0,none⟩)),(10,.pointer (some ⟨x,0,none⟩))]) (LI A (fun j=>∀ k,k<j→¬ wz r i' k)) (fun c S w'=>(c = .exit 6∧LI A (fun _:Nat=>∀ k,k<r.length→¬ wz r i' k) 0 S w')∨c = .ret∧LX (∃ j,j<r.length∧wz r i' j) b2 b3 3 3 5 A S w') (fun v x w'=>∃ i:Nat,v=eV i (rA r i) (rB r i)∧Blk w' x (eC i (rA r i) (rB r i)) 315) Z (iH.blk lzX bm) Z call263 Z (xX N.heap.size lo p r) ?_ ?_ ?_ ?_ ?_ ?_ ?_ ?_ ?_ ?_ ?_
    ·exact LI.Lh
    ·exact fun c S W W' b h hb g=>h.imp (fun h=>⟨h.1,LI.Lh.2 0 S W W' b h.2 hb g⟩) (fun h=>⟨h.1,h.2.upd hb g omX omX⟩)
    ·exact fun i S W h=>⟨aou.ext h.1,Blk.ext (cs:=[p]) aio h.1⟩
    ·exact LI.start (fun k d=>absurd d (Nat.not_lt_zero _))
    ·exact fun k d=>d.elim
    ·exact fun W hW=>trivial
    ·rintro v x W W' b' ⟨i,n,E⟩ F g
     exact ⟨i,n,E.upd g (Ne.symm F)⟩
    ·intro l Q i j v k W hn hK
     obtain ⟨hi,rfl,_⟩:=hn
     refine aA (L.o (O.alloc zeroValue315 (fun b8 w8 aE ai f G=>?_)))
     refine L.o (aK sizeOf315 Z Z Z G leX (by intro u g;simp at g;rcases g with (rfl|rfl|rfl|rfl|rfl) <;> rfl) (fun w9 H I=>?_))
     refine ak (T.sub ?_ (hK b8 _ omX (f.upd H (.inr omX)) ⟨_,rfl,I⟩))
     exact ⟨rfl,rfl,rfl,rfl,rfl,trivial⟩
    ·rintro l2 j0 v2 y j2 S2 B ⟨hj,rfl,rfl⟩ ⟨je,FC,aaY⟩ ⟨j',bn,aha⟩ _ _
     obtain rfl:j'=j0:=by have h:=congrArg Value.cells bn;simp [eV,Value.cells] at h;omega
     have a9:Nr (rA r j'):=hn _ hj
     have ba:Nr (rB r j'):=hn _ (Nat.mod_lt _ omX)
     have M:=Blk.ext (cs:=eC i' (rA r i') (rB r i')) an je
     have aov:=Blk.ext (cs:=[.int .i64 r.length]) aot je
     have aaZ:=je
     refine T.block (aj (au (aC Z (aha.cell Z) (aC Z (M.cell Z) (L.o (dh Z Z omX (L.o (fJ Z Z (fun bo=>?_) (fun bo=>?_)))))))))
     ·refine aW (Fg Z ⟨.inl ⟨rfl,je,FC,fun k d h=>?_⟩,fun k d=>rfl⟩)
      by_cases e:k<j'
      ·exact aaY k e h
      have:=h.1;omega
     refine aU (T.skip (aj (au (aC Z (aha.cell Z) (dK Z Z (fun hz=>?_) (fun hz=>?_))))))
     ·refine L.m Z (aC Z (M.cell Z) (cZ Z (aov.cell Z) (L.o (dh Z Z omX (dK Z Z (fun aX=>?_) (fun aX=>?_))))))
      ·refine aG Z (aW (aY Z (eY ⟨⟨je,FC,fun k d=>?_⟩,fun k d=>rfl⟩)))
       ·by_cases e:k=j'
        ·subst e;exact fun h=>h.2.1 ⟨omX,omX⟩
        exact aaY k omX
      have aQ:mV (rA r i') (rB r i') (rA r j') (rB r j')≠0→wz r i' j':=fun h=>⟨omX,fun h=>by omega,h⟩
      refine aG Z (aU (T.skip (au (aT Z Z M.row (aT Z Z aha.row (L.o (ay (xs:=[.tmp 110,.tmp 111]) call244 Z Z (wP i' j' (rA r i') (rB r i') (rA r j') (rB r j') B nA nB a9 ba) (fun bp ao C=>?_))))))))
      obtain ⟨rfl,nY⟩:=C
      have Dj:=aaZ.trans nY
      refine L.ne Z Z (fun P=>?_) (fun P=>?_)
      ·refine ak (?_)
       have aeS:=Blk.ext (cs:=eC i' (rA r i') (rB r i')) M nY
       have J:bx≠b2:=uH aeS (Blk.ext aw Dj) dcX
       refine aZ (aj (?_))
       refine T.any mixed 3 1 [9,2] Z [.is _,.is _,.is undef] [[],[0],[]] [none,none,some 0] [[],[0],[],[0,1,2]] (YB ao b2 (.int .i64 5)) (fun _ _=>True) krX krX krX Z trivial (Keep.drew _ _) ⟨fun c s hx=>ObK.op rfl (O.fa Z ⟨⟨trivial,hx⟩,rfl⟩),
         fun c s hx=>ObK.op Z (dR Z ((hx.blk aeS J).cell Z) ⟨⟨trivial,hx⟩,rfl⟩),
         fun s hx=>ObK.op Z (bP sizeOf3 Z Z Z (Blk.ext (cs:=[.int .i64 0]) (Blk.ext aw Dj) hx) (by simp [Value.cells,ofT]) (fun aR QL Ll=>⟨⟨trivial,_,hx,QL,Ll⟩,rfl⟩)),
         trivial⟩ (fun aN aip=>?_)
       obtain ⟨W1,hE,hU,hC⟩:=aip
       refine L.o (bP sizeOf3 Z Z Z (Blk.upd (cs:=[.int .i64 0]) (Blk.ext (Blk.ext a8 Dj) hE) hU omX) (by simp [Value.cells,ofT]) (fun aR QL Ll=>?_))
       have a5:=nY.size
       have a6:=hE.size
       have aH:=hU.size
       have aiq:=QL.size
       have aeT:=(je.trans nY).size
       refine ak (iw ⟨.inr ⟨rfl,⟨j',hj,aQ P⟩,fun k d=>⟨(FC k d).1,by have:=(FC k d).2;omega⟩,_,(kX.of hE hU hC QL Ll omX).from (je.trans nY)⟩,fun k d=>?_⟩)
       have n:=FC k d
       rw [QL.block k omX,hU.block k omX,hE.block k lzX omX,nY.block k lzX n.2]
      refine aU (T.skip (T.blk (eY ⟨⟨je.trans nY,fun k d=>⟨(FC k d).1,Nat.lt_of_lt_of_le (FC k d).2 nY.size⟩,fun k d=>?_⟩,fun k d=>nY.block k lzX (FC k d).2⟩)))
      ·by_cases e:k=j'
       ·subst e;exact fun h=>h.2.2 P
       exact aaY k omX
     have aQ:mV (rA r i') (rB r i') (rA r j') (rB r j')≠0→wz r i' j':=fun h=>⟨omX,fun h=>by omega,h⟩
     refine L.m Z (L.pp (L.pp (L.p (aI Z (aU (T.skip (au (aT Z Z M.row (aT Z Z aha.row (L.o (ay (xs:=[.tmp 110,.tmp 111]) call244 Z Z (wP i' j' (rA r i') (rB r i') (rA r j') (rB r j') B nA nB a9 ba) (fun bp ao C=>?_))))))))))))
     obtain ⟨rfl,nY⟩:=C
     have Dj:=aaZ.trans nY
     refine L.ne Z Z (fun P=>?_) (fun P=>?_)
     ·refine ak (?_)
      have aeS:=Blk.ext (cs:=eC i' (rA r i') (rB r i')) M nY
      have J:bx≠b2:=uH aeS (Blk.ext aw Dj) dcX
      refine aZ (aj (?_))
      refine T.any mixed 3 1 [9,2] Z [.is _,.is _,.is undef] [[],[0],[]] [none,none,some 0] [[],[0],[],[0,1,2]] (YB ao b2 (.int .i64 5)) (fun _ _=>True) krX krX krX Z trivial (Keep.drew _ _) ⟨fun c s hx=>ObK.op rfl (O.fa Z ⟨⟨trivial,hx⟩,rfl⟩),
        fun c s hx=>ObK.op Z (dR Z ((hx.blk aeS J).cell Z) ⟨⟨trivial,hx⟩,rfl⟩),
        fun s hx=>ObK.op Z (bP sizeOf3 Z Z Z (Blk.ext (cs:=[.int .i64 0]) (Blk.ext aw Dj) hx) (by simp [Value.cells,ofT]) (fun aR QL Ll=>⟨⟨trivial,_,hx,QL,Ll⟩,rfl⟩)),
        trivial⟩ (fun aN aip=>?_)
      obtain ⟨W1,hE,hU,hC⟩:=aip
      refine L.o (bP sizeOf3 Z Z Z (Blk.upd (cs:=[.int .i64 0]) (Blk.ext (Blk.ext a8 Dj) hE) hU omX) (by simp [Value.cells,ofT]) (fun aR QL Ll=>?_))
      have a5:=nY.size
      have a6:=hE.size
      have aH:=hU.size
      have aiq:=QL.size
      have aeT:=(je.trans nY).size
      refine ak (iw ⟨.inr ⟨rfl,⟨j',hj,aQ P⟩,fun k d=>⟨(FC k d).1,by have:=(FC k d).2;omega⟩,_,(kX.of hE hU hC QL Ll omX).from (je.trans nY)⟩,fun k d=>?_⟩)
      have n:=FC k d
      rw [QL.block k omX,hU.block k omX,hE.block k lzX omX,nY.block k lzX n.2]
     refine aU (T.skip (T.blk (eY ⟨⟨je.trans nY,fun k d=>⟨(FC k d).1,Nat.lt_of_lt_of_le (FC k d).2 nY.size⟩,fun k d=>?_⟩,fun k d=>nY.block k lzX (FC k d).2⟩)))
     ·by_cases e:k=j'
      ·subst e;exact fun h=>h.2.2 P
      exact aaY k omX
    ·rintro S3 B bq ⟨je,FC,aaY⟩
     refine T.blk (T.blk (eY ⟨⟨nM.trans je,fun k d=>⟨(J9 k d).1,Nat.lt_of_lt_of_le (J9 k d).2 (iH.trans je).size⟩,fun k d j hj=>?_⟩,fun k d=>(iH.trans je).block k lzX (J9 k d).2⟩))
     ·by_cases e:k=i'
      ·subst e;exact aaY j hj
      exact av k omX j hj
    rintro c S3 B (⟨rfl,je,FC,aaY⟩|⟨rfl,hB,FC,a,q⟩)
    ·refine aY Z (T.blk (eY ⟨⟨nM.trans je,fun k d=>⟨(J9 k d).1,Nat.lt_of_lt_of_le (J9 k d).2 (iH.trans je).size⟩,fun k d j hj=>?_⟩,fun k d=>(iH.trans je).block k lzX (J9 k d).2⟩))
     ·by_cases e:k=i'
      ·subst e;exact aaY j hj
      exact av k omX j hj
    refine iw ⟨⟨rfl,⟨i',hi,hB⟩,fun k d=>⟨(J9 k d).1,by have:=(J9 k d).2;have:=q.size;omega⟩,a,q.from nM⟩,fun k d=>?_⟩
    have n:=J9 k d
    rw [q.block k omX omX omX,iH.block k lzX n.2]
   ·rintro S3 D3 N hD3 bq air ⟨jD,J9,av⟩ ais
    have ahb:Opn [D3,D2,D] N:=(Zc.ext jD).cons ais (by have:=Zc.lt D spX;have:=Zc.lt D2 spX;simp;omega)
    have br:¬ ∃ i,i<r.length∧∃ j,j<r.length∧wz r i j:=fun ⟨i,n,j,E,h3⟩=>av i n j E h3
    refine T.blk (au (L.o (bP sizeOf3 Z Z Z (Blk.ext (cs:=[.int .i64 0]) aq jD) (by simp [Value.cells,ofT]) (fun A BK Df=>?_))))
    refine L.o (bP sizeOf3 Z Z Z (Blk.upd (cs:=[.int .i64 0]) (Blk.ext (cs:=[.int .i64 0]) ar jD) BK omX) (by simp [Value.cells,ofT]) (fun B QK Ou=>?_))
    have bb:=kX.of (Keep.refl 0 N) BK Df QK Ou omX
    have bc:Opn [D3,D2,D] B:=Opn.done ahb bb (Blk.ext (cs:=[.int .i64 0]) aq jD) (Blk.ext (cs:=[.int .i64 0]) ar jD)
    have q:=bb.from jD
    refine ak (jh results208 isAgg3 isAgg3 Z Z bc (fun w' hs=>q.cells bc hs) (fun w' hs=>⟨0,by rw [uG,if_neg R,if_neg K,if_neg a7,if_neg br],(q.ext aP omX omX).shut hs (fun r Y=>by simp at Y;omega)⟩))
   rintro c S3 D3 N hD3 air ⟨rfl,hB,J9,a,q⟩ ais
   have ahb:Opn [D3,D2,D] N:=Opn.cons (Opn.done Zc q aq ar) ais (by have:=Zc.lt D spX;have:=Zc.lt D2 spX;simp;omega)
   refine jh results208 isAgg3 isAgg3 Z Z ahb (fun w' hs=>q.cells ahb hs) (fun w' hs=>⟨a,by rw [uG,if_neg R,if_neg K,if_neg a7,if_pos hB],(q.ext aP omX omX).shut hs (fun r Y=>by simp at Y;omega)⟩)
  rintro c S2 D2 z hD2 aii ⟨rfl,hB,TI,a,q⟩ aij
  have ap:Opn [D2,D] z:=Opn.cons (Opn.done am q Zb aif) aij (by simp;have:=am.lt D spX;omega)
  refine jh results208 isAgg3 isAgg3 Z Z ap (fun w' hs=>q.cells ap hs) (fun w' hs=>⟨a,by rw [uG,if_neg R,if_neg K,if_pos hB],(q.ext vF omX omX).shut hs (fun r Y=>by simp at Y;omega)⟩)
 rintro c S D w8 hD hSD ⟨rfl,hB,V,a,q⟩ aJ
 have al:Opn [D] w8:=(Opn.nil _).cons aJ spX
 refine jh results208 isAgg3 isAgg3 Z Z al (fun w' hs=>q.cells al hs) (fun w' hs=>⟨a,by rw [uG,if_neg R,if_pos hB],(q.ext Fz omX omX).shut hs (fun r Y=>by rw [List.mem_singleton] at Y;exact .inr (by have:=Fz.size;omega))⟩)
theorem Dk (lo:Nat) (p:Value) (r:List Pt) (w:World) (c:Pts lo w p r) (hf:NfL r) :
  Calls Tryz.prog 184 #[p] w (Ret fun v w'=>v = .int .i64 (if 0<uG r then 140 else 0)∧Ext w w'):=by
 refine aJ (vs:=[p]) func184 Z ntmps184 Z ?_
 refine au (ah Z (aj (au (aO Z (ay (xs:=[.tmp 6]) call208 Z Z (FB lo p r w c hf) (fun e w1 d=>?_))))))
 obtain ⟨a,rfl,b⟩:=d
 refine L.m Z (bK Z Z (bK Z Z (L.a Z (ah Z (aQ Z (dY Z Z (fun h0=>?_) (fun h0=>?_)))))))
 ·refine aW (au (ah Z (aB results184 Z ⟨by rw [if_pos h0],b⟩)))
 refine aU (T.skip (au (ah Z (aB results184 Z ⟨by rw [if_neg h0],b⟩))))
structure RiV where
 v:Value
 xs:List Int
structure FaV where
 o:RiV
 hv:Value
 hs:List RiV
def FaV.val (f:FaV):Value:=.agg #[f.o.v,f.hv]
def FaV.cells (f:FaV):List Value:=[f.o.v,f.hv]
def dw (l:List RiV):List Value:=l.map (·.v)
structure FaV.ok (lo:Nat) (w:World) (f:FaV):Prop where
 o:Ints .i64 lo w f.o.v f.o.xs
 sl:Sl lo w f.hv f.hs.length 1 (dw f.hs)
 hs:∀ h∈f.hs,Ints .i64 lo w h.v h.xs
theorem FaV.ok.ext {lo:Nat} {w w':World} {f:FaV} (h:f.ok lo w) (k:Ext w w'):f.ok lo w':=⟨h.o.ext k,Sl.ext h.sl k,fun x hx=>(h.hs x hx).ext k⟩
def fO (l:List FaV):List Value:=l.flatMap FaV.cells
structure CxV where
 pv:Value
 ps:List Pt
 fv:Value
 fs:List FaV
def CxV.val (c:CxV):Value:=.agg #[c.pv,c.fv]
def CxV.cells (c:CxV):List Value:=[c.pv,c.fv]
structure CxV.ok (lo:Nat) (w:World) (c:CxV):Prop where
 p:Pts lo w c.pv c.ps
 sl:Sl lo w c.fv c.fs.length 2 (fO c.fs)
 fs:∀ f∈c.fs,f.ok lo w
theorem CxV.ok.ext {lo:Nat} {w w':World} {c:CxV} (h:c.ok lo w) (k:Ext w w'):c.ok lo w':=⟨h.p.ext k,Sl.ext h.sl k,fun x hx=>(h.fs x hx).ext k⟩
def f0:FaV:=⟨⟨undef,[]⟩,undef,[]⟩
theorem zB:∀ (r:List FaV) (i:Nat),i<r.length→((fO r).drop (i*2)).take 2=(r.getD i f0).cells
 | [],i,h=>by simp at h
 | p::r,0,_=>rfl
 | p::r,i+1,h=>by
  have ih:=zB r i (by simpa using h)
  have e:fO (p::r)=p.o.v::p.hv::fO r:=rfl
  rw [e,show (i+1)*2=i*2+1+1 by omega,List.drop_succ_cons,List.drop_succ_cons,ih]
  rfl
theorem CxV.ok.row {lo:Nat} {c:CxV} (h:c.ok lo w) (hi:i<c.fs.length):Row w ((jX c.fv).add ((i:Int).toNat*2)) (c.fs.getD i f0).cells:=by
 rw [Int.toNat_natCast,← zB c.fs i hi]
 obtain ⟨_,_,_,_,a⟩:=Sl.there h.sl omX
 exact a.part (i*2) 2
theorem CxV.ok.at {lo:Nat} {c:CxV} (h:c.ok lo w) (hi:i<c.fs.length):(c.fs.getD i f0).ok lo w:=by
 rw [aX hi];exact h.fs _ (List.getElem_mem hi)
def IxL (n:Nat) (l:List Int):Prop:=∀ i,i<l.length→0≤l.getD i 0∧l.getD i 0<n
def Dl (ps:List Pt) (t:Int) (x:Int):Pt:=(t*(ps.getD x.toNat (0,0)).1,t*(ps.getD x.toNat (0,0)).2)
def cor (ps:List Pt) (t:Int) (l:List Int):List Pt:=l.map (Dl ps t)
theorem QM (ps:List Pt) (t:Int) (l:List Int) (hi:i<l.length):cor ps t (l.take (i+1))=cor ps t (l.take i) ++ [Dl ps t (l.getD i 0)]:=by
 rw [aX hi,cor,cor,List.take_succ_eq_append_getElem hi,List.map_append];rfl
theorem IQ {ps:List Pt} {t:Int} {l:List Int} (hi:i<l.length):(cor ps t l).getD i (0,0)=Dl ps t (l.getD i 0):=by
 rw [aX (by rw [cor,List.length_map];exact hi),aX hi];simp [cor]
theorem mW {p:Pt} (h:rE p=false):(-1000000≤p.1∧p.1≤1000000) ∧ -1000000≤p.2∧p.2≤1000000:=by
 simp only [rE,decide_eq_false_iff_not] at h;omega
theorem qP {t:Int} (a:t=1∨t=2) (hx : -1000000≤x∧x≤1000000) : -2000000≤t*x∧t*x≤2000000:=by
 rcases a with rfl|rfl <;> omega
theorem VK {ps:List Pt} {n:Nat} {t:Int} (hf:NfL ps) (a:t=1∨t=2) (hx:0≤x∧x<ps.length):(-2000000≤(Dl ps t x).1∧(Dl ps t x).1≤2000000) ∧ -2000000≤(Dl ps t x).2∧(Dl ps t x).2≤2000000:=by
 have:=mW (hf x.toNat omX)
 exact ⟨qP a this.1,qP a this.2⟩
def PtL (q:Pt) (v:Value) (w:World):Prop:=∃ b,v = .slice (some ⟨b,0,none⟩) 1 1∧Blk w b (pC q) 124
theorem PtL.st {q:Pt} : ∀ v w w',Ext w w'→PtL q v w→PtL q v w':=fun v w w' h ⟨b,a,c⟩=>⟨b,a,Blk.ext (cs:=pC q) c h⟩
theorem O3 (q:Pt):pcs [q]=pC q:=by simp [pcs]
theorem lJ (lo lo2:Nat) (c:CxV) (q:Value) (l:List Int) (t:Int) (w:World) (N:Pts lo w c.pv c.ps) (O:Ints .i64 lo2 w q l) (hf:NfL c.ps) (J:t=1∨t=2) (P:IxL c.ps.length l) (K:l.length≤1000000) :
  Calls Tryz.prog 185 #[c.val,q,.int .i64 t] w (Ret fun v w'=>Ext w w'∧Pts w.heap.size w' v (cor c.ps t l)):=by
 refine aJ (vs:=[c.val,q,.int .i64 t]) func185 Z ntmps185 Z ?_
 refine au (bM Z (fun b3 A Q R f hB3=>?_))
 have B:Blk A b3 c.cells 46:=hB3
 have C:=N.ext f
 have r:=O.ext f
 refine ah Z (au (ah Z (aj (aQ Z (L.le Z (Sl.val r) (L.m Z (ak (T.block (?_)))))))))
 refine bf (σ:=Nat × Value) (fun s=>[(1,q),(2,.int .i64 t),(3,.pointer (some ⟨b3,0,none⟩)),(7,s.2),(10,q),(11,.int .i64 l.length),(12,.int .i64 s.1)]) (fun s w'=>s.1≤l.length∧Ext A w'∧w'.ownsRow A.heap.size 124 2 s.2 s.1 (pcs (cor c.ps t (l.take s.1)))) (fun s=>l.length-s.1) ((0,.slice none 0 0)) ⟨rfl,rfl,rfl,rfl,rfl,rfl,rfl,trivial⟩ ⟨Nat.zero_le _,Keep.refl _ _,iF _ _ _ _⟩ ?_
 rintro ⟨i,s⟩ w4 ⟨hi,d,hO4⟩
 simp only at hi hO4
 refine au (bH Z Z (fun h=>?_) (fun h=>?_))
 ·refine ak (?_)
  have b:i<l.length:=by simp only at h;omega
  have S:=P i b
  have u:=r.ext d
  have g:=C.ext d
  have x:=Blk.ext (cs:=c.cells) B d
  refine aj (aZ (T.skip (aj (T.block (au (dG Z Z u (cZ Z (Ints.at u b) (?_))))))))
  obtain ⟨k,M⟩:∃ k:Nat,l.getD i 0=k:=⟨(l.getD i 0).toNat,omX⟩
  rw [M]
  have j:k<c.ps.length:=by omega
  have hb:=mW (hf k j)
  have U:=qP J hb.1
  have V:=qP J hb.2
  have D:Dl c.ps t (l.getD i 0)=(t*(c.ps.getD k (0,0)).1,t*(c.ps.getD k (0,0)).2):=by rw [M];rfl
  refine ah Z (?_)
  refine dn mixed 19 [7,2,3,9] Z [.is _,.is _,.is _,.is _,.is _,.is _,.is _,.is _,.is _,.is _,.is _,.is _,.is _,.is _,.is _,.is _,.is _,.is _,.such (PtL (Dl c.ps t (l.getD i 0)))] [[],[],[],[2],[],[3,4],[5],[6],[1,7],[],[],[10],[],[11,12],[13],[14],[9,15],[8,16],[17]] ⟨PtL.st,trivial⟩ ⟨fun a hx=>aF rfl,
    fun a hx=>aF rfl,
    fun a hx=>Ob.fa rfl,
    fun a hx=>aS rfl ((Blk.ext (cs:=c.cells) x hx).cell rfl),
    fun a hx=>aF rfl,
    fun a hx=>bQ rfl rfl (g.ext hx),
    fun a hx=>Ob.fa rfl,
    fun a hx=>aS rfl (((g.ext hx).row j) 0 _ rfl),
    fun a hx=>Ob.o (dN Z Z omX kR),
    fun a hx=>aF rfl,
    fun a hx=>Ob.fa rfl,
    fun a hx=>aS rfl ((Blk.ext (cs:=c.cells) x hx).cell rfl),
    fun a hx=>aF rfl,
    fun a hx=>bQ rfl rfl (g.ext hx),
    fun a hx=>Ob.fa rfl,
    fun a hx=>aS rfl (((g.ext hx).row j) 1 _ rfl),
    fun a hx=>Ob.o (dN Z Z omX kR),
    fun a hx=>Ob.o (bU (v:=pV (Dl c.ps t (l.getD i 0))) (parts:=[(0,.tmp 24),(1,.tmp 32)]) (vs:=[(0,_),(1,_)]) Z (fun w=>by rw [D];kernel_rfl) kR),
    fun a hx=>Ob.o (aH (el:=124) (parts:=[(0,.tmp 33)]) (vs:=[(0,_)]) (cs:=(pC (Dl c.ps t (l.getD i 0)))) Z (fun w=>by kernel_rfl) (fun E w6 W X F n=>⟨F,⟨E,rfl,n⟩⟩)),
    trivial⟩ (fun Y p aa y=>?_)
  obtain ⟨E,rfl,n⟩:=y
  have z:=cO hO4 p lzX
  have G:Sl 0 Y (.slice (some ⟨E,0,none⟩) 1 1) 1 2 (pC (Dl c.ps t (l.getD i 0))):=Sl.bI n rfl leX dcX lzX
  refine L.o (dJ (size:=2) (bytes:=16) runUnderlying237 Tryz.tY Z Z Z Z dcX rfl rfl z G (gu _) omX (by simp only [maxLen];omega) (by have:=d.size;have:=p.size;omega) (fun v7 w7 H I=>?_))
  have KR:Ext A w7:=Keep.jg (d.trans p) z I leX
  refine ah Z (T.blk (aA (L.o (bG Z Z (by simp only;omega) (L.m Z (ak (aP ((i+1,v7)) omX ⟨rfl,rfl,rfl,rfl,rfl,rfl,rfl,trivial⟩ ⟨b,KR,by rw [QM c.ps t l b,zA,O3];exact H⟩)))))))
 refine ak (?_)
 obtain rfl:i=l.length:=by simp only at h;omega
 rw [List.take_length] at hO4
 refine aj (bn (aY Z (aQ Z (ah Z (aB results185 Z ⟨f.trans d,?_⟩)))))
 have:=Sl.dD hO4
 have e:l.length=(cor c.ps t l).length:=by rw [cor,List.length_map]
 rw [e] at this
 exact this.mono f.size
def jd (r:List Pt):Nat→Int
 | 0=>0
 | i+1=>jd r i+((rA r i).1*(rB r i).2-(rA r i).2*(rB r i).1)
def Nm (p:Pt):Prop:=(-2000000≤p.1∧p.1≤2000000) ∧ -2000000≤p.2∧p.2≤2000000
theorem Gt {y:Int} (h:(-2000000≤x∧x≤2000000) ∧ -2000000≤y∧y≤2000000) : -4000000000000≤x*y∧x*y≤4000000000000:=by
 have:=VB (B:=2000000) (C:=2000000) h.1.1 h.1.2 h.2.1 h.2.2
 omega
def NmL (r:List Pt):Prop:=∀ i,i<r.length→Nm (r.getD i (0,0))
theorem IU {r:List Pt} (h:NmL r):∀ i,i≤r.length → -8000000000000*(i:Int)≤jd r i∧jd r i≤8000000000000*(i:Int)
 | 0,_=>by simp [jd]
 | i+1,hi=>by
  have ih:=IU h i omX
  have a:Nm (rA r i):=h i omX
  have b:Nm (rB r i):=h _ (Nat.mod_lt _ omX)
  unfold Nm at a b
  have m1:=Gt (x:=(rA r i).1) (y:=(rB r i).2) ⟨a.1,b.2⟩
  have m2:=Gt (x:=(rA r i).2) (y:=(rB r i).1) ⟨a.2,b.1⟩
  simp only [jd]
  omega
theorem TJ (lo:Nat) (p:Value) (r:List Pt) (w:World) (B:Pts lo w p r) (hn:NmL r) (C:r.length≤1000000) :
  Calls Tryz.prog 188 #[p] w (Ret fun v w'=>v = .int .i64 (jd r r.length)∧Ext w w'):=by
 refine aJ (vs:=[p]) func188 Z ntmps188 Z ?_
 refine au (ah Z (au (ah Z (aj (aQ Z (L.le Z (Sl.val B) (L.m Z (ak (T.block (?_))))))))))
 refine bf (σ:=Nat) (fun i=>[(0,p),(3,.int .i64 (jd r i)),(7,p),(8,.int .i64 r.length),(9,.int .i64 i)]) (fun i w'=>i≤r.length∧Ext w w') (fun i=>r.length-i) (0) ⟨rfl,rfl,rfl,rfl,rfl,trivial⟩ ⟨Nat.zero_le _,Keep.refl _ _⟩ ?_
 rintro i w1 ⟨hi,d⟩
 refine au (bH Z Z (fun j=>?_) (fun j=>?_))
 ·refine ak (?_)
  have c:i<r.length:=by omega
  have e:=B.ext d
  have D:(i+1) % r.length<r.length:=Nat.mod_lt _ omX
  have k:((i:Int)+1) % (r.length:Int)=(((i+1) % r.length:Nat):Int):=by rw [show (i:Int)+1=((i+1:Nat):Int) by omega];rfl
  have a:Nm (rA r i):=hn i c
  have b:Nm (rB r i):=hn _ D
  unfold Nm at a b
  have m1:=Gt (x:=(rA r i).1) (y:=(rB r i).2) ⟨a.1,b.2⟩
  have m2:=Gt (x:=(rA r i).2) (y:=(rB r i).1) ⟨a.2,b.1⟩
  have G:=IU hn i hi
  refine aj (aZ (T.skip (aj (T.block (aQ Z (dG Z Z e (aT Z Z (e.row c) (L.o (O.alloc zeroValue124 (fun b2 M H I l hB2=>?_))))))))))
  refine L.a Z (L.o (aK sizeOf124 Z Z Z hB2 leX (gu _) (fun n q hB3=>?_)))
  have s:Blk n b2 (pC (rA r i)) 124:=hB3
  have iH:Ext w1 n:=l.upd q (.inr omX)
  have f:=e.ext iH
  refine ak (au (aN Z Z (bF Z Z (L.m Z (L.le Z (Sl.val f) (L.o (fG Z Z omX omX (?_))))))))
  rw [k]
  refine dG Z Z f (aT Z Z (f.row D) (L.o (O.alloc zeroValue124 (fun b4 N J K t u=>?_))))
  refine L.o (aK sizeOf124 Z Z Z u leX (gu _) (fun E z A=>?_))
  have g:Blk E b4 (pC (rB r i)) 124:=A
  have F:Ext n E:=t.upd z (.inr omX)
  have h:=Blk.ext (cs:=pC (rA r i)) s F
  refine ak (aA (L.m Z (aC Z (h.cell Z) (aC Z (g.cell Z) (L.o (dN Z Z omX (aC Z (h.cell Z) (aC Z (g.cell Z) (L.o (dN Z Z omX (L.o (dh Z Z omX (bF Z Z (ah Z (T.blk (aA (bF Z Z (L.m Z (ak (aP (i+1) omX ⟨rfl,rfl,rfl,rfl,rfl,trivial⟩ ⟨c,d.trans (iH.trans F)⟩))))))))))))))))))))
 refine ak (?_)
 obtain rfl:i=r.length:=by omega
 refine aj (bn (aY Z (aQ Z (ah Z (aB results188 Z ⟨rfl,d⟩)))))
def onE (a b p:Pt):Prop:=dA a b p=0∧mn a.1 b.1≤p.1∧p.1≤mx a.1 b.1∧mn a.2 b.2≤p.2∧p.2≤mx a.2 b.2
instance (a b p:Pt):Decidable (onE a b p):=inferInstanceAs (Decidable (_∧_))
def stepW (a b p:Pt):Int:=if a.2≤p.2∧p.2<b.2∧0<dA a b p then 1 else if p.2<a.2∧b.2≤p.2∧dA a b p<0 then -1 else 0
def nZ (r:List Pt) (p:Pt):Nat→Int
 | 0=>0
 | i+1=>nZ r p i+stepW (rA r i) (rB r i) p
theorem VL (a b p:Pt) : -1≤stepW a b p∧stepW a b p≤1:=by unfold stepW;split <;> (try split) <;> omega
theorem QN (r:List Pt) (p:Pt):∀ i:Nat,-(i:Int)≤nZ r p i∧nZ r p i≤i
 | 0=>by simp [nZ]
 | i+1=>by
  have ih:=QN r p i
  have:=VL (rA r i) (rB r i) p
  simp only [nZ];omega
def Bc (r:List Pt) (p:Pt):Int:=if ∃ i,i<r.length∧onE (rA r i) (rB r i) p then 1 else if nZ r p r.length=0 then 0 else 2
set_option maxHeartbeats 8000000 in
theorem zC (lo:Nat) (q:Value) (r:List Pt) (p:Pt) (w:World) (hq:Pts lo w q r) (hn:NrL r) (hp:Nr p) (af:r.length≤1000000) :
  Calls Tryz.prog 247 #[q,pV p] w (Ret fun v w'=>v = .int .i64 (Bc r p)∧Ext w w'):=by
 refine aJ (vs:=[q,pV p]) func247 Z ntmps247 Z ?_
 refine au (bM Z (fun b3 w3 ag ai n hB3=>?_))
 have M:Blk w3 b3 (pC p) 124:=hB3
 have H:=hq.ext n
 refine ah Z (au (ah Z (aj (aQ Z (L.le Z (Sl.val H) (L.m Z (ak (T.block (?_)))))))))
 refine bf (σ:=Nat) (fun i=>[(0,q),(3,.pointer (some ⟨b3,0,none⟩)),(5,.int .i64 (nZ r p i)),(10,q),(11,.int .i64 r.length),(12,.int .i64 i)]) (fun i w'=>i≤r.length∧Ext w3 w'∧∀ k,k<i→¬ onE (rA r k) (rB r k) p) (fun i=>r.length-i) (0) ⟨rfl,rfl,rfl,rfl,rfl,rfl,trivial⟩ ⟨Nat.zero_le _,Keep.refl _ _,fun k hk=>absurd hk (Nat.not_lt_zero _)⟩ ?_
 rintro i w4 ⟨hi,f,s⟩
 refine au (bH Z Z (fun N=>?_) (fun N=>?_))
 ·refine ak (?_)
  have c:i<r.length:=by omega
  have u:=H.ext f
  have P:=Blk.ext (cs:=pC p) M f
  have hm:(i+1) % r.length<r.length:=Nat.mod_lt _ omX
  have Q:((i:Int)+1) % (r.length:Int)=(((i+1) % r.length:Nat):Int):=by rw [show (i:Int)+1=((i+1:Nat):Int) by omega];rfl
  have na:Nr (rA r i):=hn i c
  have nb:Nr (rB r i):=hn _ hm
  have al:=QN r p i
  refine aj (aZ (T.skip (aj (T.block (aQ Z (dG Z Z u (aT Z Z (u.row c) (L.o (O.alloc zeroValue124 (fun b5 w5 am an R S=>?_))))))))))
  refine L.a Z (L.o (aK sizeOf124 Z Z Z S leX (gu _) (fun U V W=>?_)))
  have X:Blk U b5 (pC (rA r i)) 124:=W
  have Ap:Ext w4 U:=R.upd V (.inr omX)
  have A:=u.ext Ap
  refine ak (au (aN Z Z (bF Z Z (L.m Z (L.le Z (Sl.val A) (L.o (fG Z Z omX omX (?_))))))))
  rw [Q]
  refine dG Z Z A (aT Z Z (A.row hm) (L.o (O.alloc zeroValue124 (fun b7 w7 ao ap Y aa=>?_))))
  refine L.o (aK sizeOf124 Z Z Z aa leX (gu _) (fun w8 ab ac=>?_))
  have hB:Blk w8 b7 (pC (rB r i)) 124:=ac
  have B:Ext U w8:=Y.upd ab (.inr omX)
  have hA:=Blk.ext (cs:=pC (rA r i)) X B
  have hP:=Blk.ext (cs:=pC p) P (Ap.trans B)
  have Bd:=f.trans (Ap.trans B)
  obtain ⟨a,ha⟩:∃ a,a=rA r i:=⟨_,rfl⟩
  obtain ⟨b,hb⟩:∃ b,b=rB r i:=⟨_,rfl⟩
  have d:¬ onE a b p→∀ k,k<i+1→¬ onE (rA r k) (rB r k) p:=fun h k hk=>by
   by_cases e:k=i
   ·subst e;rw [← ha,← hb];exact h
   exact s k omX
  have C:nZ r p (i+1)=nZ r p i+stepW a b p:=by rw [ha,hb];rfl
  rw [← ha] at hA na
  rw [← hb] at hB nb
  unfold Nr at na nb hp
  have D:=ny (x:=b.1-a.1) (y:=p.2-a.2) omX
  have G:=ny (x:=b.2-a.2) (y:=p.1-a.1) omX
  refine ak (au (aC Z (hB.cell Z) (aC Z (hA.cell Z) (L.o (dh Z Z omX (aC Z (hP.cell Z) (aC Z (hA.cell Z) (L.o (dh Z Z omX (L.o (dN Z Z omX (aC Z (hB.cell Z) (aC Z (hA.cell Z) (L.o (dh Z Z omX (aC Z (hP.cell Z) (aC Z (hA.cell Z) (L.o (dh Z Z omX (?_))))))))))))))))))))
  refine L.o (dN Z Z omX (L.o (dh Z Z omX (?_))))
  obtain ⟨t,I⟩:∃ t,t=dA a b p:=⟨_,rfl⟩
  have ad:(b.1-a.1)*(p.2-a.2)-(b.2-a.2)*(p.1-a.1)=t:=I.symm
  rw [ad]
  have J:onE a b p↔t=0∧mn a.1 b.1≤p.1∧p.1≤mx a.1 b.1∧mn a.2 b.2≤p.2∧p.2≤mx a.2 b.2:=by rw [onE,← I]
  refine ah Z (T.block (aj (?_)))
  refine dS (σ:=Unit) (fun _=>[(0,q),(3,.pointer (some ⟨b3,0,none⟩)),(5,.int .i64 (nZ r p i)),(7,.pointer (some ⟨b5,0,none⟩)),(8,.pointer (some ⟨b7,0,none⟩)),(9,.int .i64 t),(10,q),(11,.int .i64 r.length),(12,.int .i64 i),(48,.bool (decide (t=0∧mn a.1 b.1≤p.1∧p.1≤mx a.1 b.1∧mn a.2 b.2≤p.2∧p.2≤mx a.2 b.2)))]) (fun _ w'=>w'=w8) ?_ ?_
  ·refine aA (L.m Z (dK Z Z (fun e1=>?_) (fun e1=>?_)))
   ·refine L.m Z (aC Z (hA.cell Z) (aC Z (hB.cell Z) (L.o (iP Z Z (aC Z (hP.cell Z) (L.o (fB Z Z (fun g=>?_) (fun g=>?_))))))))
    ·refine aG Z (L.m Z (aC Z (hP.cell Z) (aC Z (hA.cell Z) (aC Z (hB.cell Z) (L.o (kJ Z Z (L.o (fB Z Z (fun j=>?_) (fun j=>?_)))))))))
     ·refine aG Z (L.m Z (aC Z (hA.cell Z) (aC Z (hB.cell Z) (L.o (iP Z Z (aC Z (hP.cell Z) (L.o (fB Z Z (fun e4=>?_) (fun e4=>?_)))))))))
      ·refine aG Z (L.m Z (aC Z (hP.cell Z) (aC Z (hA.cell Z) (aC Z (hB.cell Z) (L.o (kJ Z Z (L.o (fB Z Z (fun e5=>?_) (fun e5=>?_)))))))))
       ·refine aG Z (ah Z (bC (()) ⟨rfl,rfl,rfl,rfl,rfl,rfl,rfl,rfl,rfl,?_,trivial⟩ Z))
        ·exact congrArg (fun z=>some (Value.bool z)) (decide_eq_true ⟨e1,g,j,e4,e5⟩).symm
       refine aG Z (ah Z (bC (()) ⟨rfl,rfl,rfl,rfl,rfl,rfl,rfl,rfl,rfl,?_,trivial⟩ Z))
       ·exact congrArg (fun z=>some (Value.bool z)) (decide_eq_false fun h=>e5 h.2.2.2.2).symm
      refine aG Z (L.m Z (L.pp (L.pp (L.pp (L.pp (aI Z (ah Z (bC (()) ⟨rfl,rfl,rfl,rfl,rfl,rfl,rfl,rfl,rfl,?_,trivial⟩ Z))))))))
      ·exact congrArg (fun z=>some (Value.bool z)) (decide_eq_false fun h=>e4 h.2.2.2.1).symm
     refine aG Z (L.m Z (L.pp (L.pp (L.pp (L.pp (aI Z (L.m Z (L.pp (L.pp (L.pp (L.pp (aI Z (ah Z (bC (()) ⟨rfl,rfl,rfl,rfl,rfl,rfl,rfl,rfl,rfl,?_,trivial⟩ Z))))))))))))))
     ·exact congrArg (fun z=>some (Value.bool z)) (decide_eq_false fun h=>j h.2.2.1).symm
    refine aG Z (L.m Z (L.pp (L.pp (L.pp (L.pp (aI Z (L.m Z (L.pp (L.pp (L.pp (L.pp (aI Z (L.m Z (L.pp (?_)))))))))))))))
    refine L.pp (L.pp (L.pp (aI Z (ah Z (bC (()) ⟨rfl,rfl,rfl,rfl,rfl,rfl,rfl,rfl,rfl,?_,trivial⟩ Z)))))
    ·exact congrArg (fun z=>some (Value.bool z)) (decide_eq_false fun h=>g h.2.1).symm
   refine L.m Z (L.pp (L.pp (L.pp (L.pp (aI Z (L.m Z (L.pp (L.pp (L.pp (L.pp (aI Z (L.m Z (L.pp (L.p (?_)))))))))))))))
   refine L.pp (L.pp (L.p (aI Z (L.m Z (L.pp (L.pp (L.pp (L.pp (aI Z (ah Z (bC (()) ⟨rfl,rfl,rfl,rfl,rfl,rfl,rfl,rfl,rfl,?_,trivial⟩ Z)))))))))))
   ·exact congrArg (fun z=>some (Value.bool z)) (decide_eq_false fun h=>e1 h.1).symm
  rintro _ w9 rfl
  refine jQ Z (fun h0=>?_) (fun h0=>?_)
  ·refine au (ah Z (aB results247 Z ⟨by rw [Bc,if_pos ⟨i,c,by rw [← ha,← hb];exact J.2 h0⟩],n.trans Bd⟩))
  have E:¬ onE a b p:=fun h=>h0 (J.1 h)
  refine aj (?_)
  refine dS (σ:=Unit) (fun _=>[(0,q),(3,.pointer (some ⟨b3,0,none⟩)),(5,.int .i64 (nZ r p i)),(7,.pointer (some ⟨b5,0,none⟩)),(8,.pointer (some ⟨b7,0,none⟩)),(9,.int .i64 t),(10,q),(11,.int .i64 r.length),(12,.int .i64 i),(91,.bool (decide (a.2≤p.2∧p.2<b.2∧0<t)))]) (fun _ w'=>w'=w9) ?_ ?_
  ·refine aA (aC Z (hA.cell Z) (aC Z (hP.cell Z) (L.o (fB Z Z (fun e1=>?_) (fun e1=>?_)))))
   ·refine L.m Z (aC Z (hB.cell Z) (aC Z (hP.cell Z) (dY Z Z (fun g=>?_) (fun g=>?_))))
    ·refine aG Z (aN Z Z (dY Z Z (fun j=>?_) (fun j=>?_)))
     ·refine aG Z (ah Z (bC (()) ⟨rfl,rfl,rfl,rfl,rfl,rfl,rfl,rfl,rfl,?_,trivial⟩ Z))
      ·exact congrArg (fun z=>some (Value.bool z)) (decide_eq_true ⟨e1,g,j⟩).symm
     refine aG Z (ah Z (bC (()) ⟨rfl,rfl,rfl,rfl,rfl,rfl,rfl,rfl,rfl,?_,trivial⟩ Z))
     ·exact congrArg (fun z=>some (Value.bool z)) (decide_eq_false fun h=>j h.2.2).symm
    refine aG Z (L.m Z (L.pp (aI Z (ah Z (bC (()) ⟨rfl,rfl,rfl,rfl,rfl,rfl,rfl,rfl,rfl,?_,trivial⟩ Z)))))
    ·exact congrArg (fun z=>some (Value.bool z)) (decide_eq_false fun h=>g h.2.1).symm
   refine L.m Z (L.pp (L.pp (L.p (aI Z (L.m Z (L.pp (aI Z (ah Z (bC (()) ⟨rfl,rfl,rfl,rfl,rfl,rfl,rfl,rfl,rfl,?_,trivial⟩ Z)))))))))
   ·exact congrArg (fun z=>some (Value.bool z)) (decide_eq_false fun h=>e1 h.1).symm
  rintro _ ae rfl
  refine jQ Z (fun D=>?_) (fun D=>?_)
  ·have l:stepW a b p=1:=by rw [stepW,← I,if_pos D]
   refine aA (L.m Z (bF Z Z (ah Z (T.blk (T.blk (aA (bF Z Z (L.m Z (ak (aP (i+1) omX ⟨rfl,rfl,?_,rfl,rfl,rfl,trivial⟩ ⟨c,Bd,d E⟩))))))))))
   ·rw [C,l];rfl
  refine aj (?_)
  refine dS (σ:=Unit) (fun _=>[(0,q),(3,.pointer (some ⟨b3,0,none⟩)),(5,.int .i64 (nZ r p i)),(7,.pointer (some ⟨b5,0,none⟩)),(8,.pointer (some ⟨b7,0,none⟩)),(9,.int .i64 t),(10,q),(11,.int .i64 r.length),(12,.int .i64 i),(110,.bool (decide (p.2<a.2∧b.2≤p.2∧t<0)))]) (fun _ w'=>w'=ae) ?_ ?_
  ·refine aA (aC Z (hA.cell Z) (aC Z (hP.cell Z) (dY Z Z (fun e1=>?_) (fun e1=>?_))))
   ·refine L.m Z (aC Z (hB.cell Z) (aC Z (hP.cell Z) (L.o (fB Z Z (fun g=>?_) (fun g=>?_)))))
    ·refine aG Z (aN Z Z (bH Z Z (fun j=>?_) (fun j=>?_)))
     ·refine aG Z (ah Z (bC (()) ⟨rfl,rfl,rfl,rfl,rfl,rfl,rfl,rfl,rfl,?_,trivial⟩ Z))
      ·exact congrArg (fun z=>some (Value.bool z)) (decide_eq_true ⟨e1,g,j⟩).symm
     refine aG Z (ah Z (bC (()) ⟨rfl,rfl,rfl,rfl,rfl,rfl,rfl,rfl,rfl,?_,trivial⟩ Z))
     ·exact congrArg (fun z=>some (Value.bool z)) (decide_eq_false fun h=>j h.2.2).symm
    refine aG Z (L.m Z (L.pp (aI Z (ah Z (bC (()) ⟨rfl,rfl,rfl,rfl,rfl,rfl,rfl,rfl,rfl,?_,trivial⟩ Z)))))
    ·exact congrArg (fun z=>some (Value.bool z)) (decide_eq_false fun h=>g h.2.1).symm
   refine L.m Z (L.pp (L.pp (L.p (aI Z (L.m Z (L.pp (aI Z (ah Z (bC (()) ⟨rfl,rfl,rfl,rfl,rfl,rfl,rfl,rfl,rfl,?_,trivial⟩ Z)))))))))
   ·exact congrArg (fun z=>some (Value.bool z)) (decide_eq_false fun h=>e1 h.1).symm
  rintro _ aq rfl
  refine jQ Z (fun G=>?_) (fun G=>?_)
  ·have l:stepW a b p = -1:=by rw [stepW,← I,if_neg D,if_pos G]
   refine aA (aO Z (dh Z Z omX (ah Z (T.blk (T.blk (aA (bF Z Z (L.m Z (ak (aP (i+1) omX ⟨rfl,rfl,?_,rfl,rfl,rfl,trivial⟩ ⟨c,Bd,d E⟩))))))))))
   ·rw [C,l];rfl
  have l:stepW a b p=0:=by rw [stepW,← I,if_neg D,if_neg G]
  refine T.skip (T.blk (T.blk (aA (bF Z Z (L.m Z (ak (aP (i+1) omX ⟨rfl,rfl,?_,rfl,rfl,rfl,trivial⟩ ⟨c,Bd,d E⟩)))))))
  ·rw [C,l];rw [Int.add_zero];rfl
 refine ak (?_)
 obtain rfl:i=r.length:=by omega
 have K:¬ ∃ i,i<r.length∧onE (rA r i) (rB r i) p:=fun ⟨k,D,G⟩=>s k D G
 refine aj (bn (aY Z (aj (aQ Z (dK Z Z (fun F=>?_) (fun F=>?_))))))
 ·refine aW (au (ah Z (aB results247 Z ⟨by rw [Bc,if_neg K,if_pos F],n.trans f⟩)))
 refine aU (T.skip (au (ah Z (aB results247 Z ⟨by rw [Bc,if_neg K,if_neg F],n.trans f⟩))))
end Go.Proofs.YtnlonpcbgjbbaaaGreatDoor
