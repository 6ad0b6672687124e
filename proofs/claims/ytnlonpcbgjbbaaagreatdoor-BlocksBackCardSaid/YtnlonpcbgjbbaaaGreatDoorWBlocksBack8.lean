/-
  BlocksBack, part 8 of its proof: that it returns true for every input, and each argument reads behind the call as it read before. Conditions: the listed variables read as the program's text lays them (tied by the card).
-/
import Derived.Test.YtnlonpcbgjbbaaaGreatDoorWBlocksBack7
import Derived.Test.YtnlonpcbgjbbaaaGreatDoorWBlocksBack4
import Derived.Test.YtnlonpcbgjbbaaaGreatDoorWBlocksBack3
import Derived.WideKeyRuns
import Derived.ChangeKeysEq
import Derived.Test.YtnlonpcbgjbbaaaGreatDoorWBlocksBack2
import Derived.Test.YtnlonpcbgjbbaaaGreatDoorWBlocksBack5
set_option linter.unusedVariables false
set_option linter.unusedSimpArgs false
set_option maxRecDepth 20000
set_option linter.unusedVariables false
set_option linter.unusedSimpArgs false
set_option maxRecDepth 20000
namespace Go.Proofs.YtnlonpcbgjbbaaaGreatDoor
open Go.Proofs.Tryz (call208 call240 call241 call242 call243 call244 call263 call264 call265 call270 call271 call273 func174 func184 func185 func188 func208 func240 func241 func242 func243 func244 func246 func247 func263 func264 func265 func270 func271 func273 isAgg124 isAgg237 isAgg3 isAgg315 isAgg43 ntmps174 ntmps184 ntmps185 ntmps188 ntmps208 ntmps240 ntmps241 ntmps242 ntmps243 ntmps244 ntmps246 ntmps247 ntmps263 ntmps264 ntmps265 ntmps270 ntmps271 ntmps273 results174 results184 results185 results188 results208 results240 results241 results242 results243 results244 results246 results247 results263 results264 results265 results270 results271 results273 runUnderlying124 runUnderlying237 runUnderlying249 runUnderlying30 runUnderlying315 runUnderlying332 runUnderlying43 runUnderlying46 sizeOf124 sizeOf3 sizeOf315 sizeOf43 zeroValue124 zeroValue3 zeroValue315)
open Go Go.E
attribute [local irreducible] Go.E.T Go.E.L Go.E.O Go.E.Ob
attribute [local irreducible] Go.E.ObX
abbrev Pt:=Int × Int
def pV (p:Pt):Value:=.agg #[.int .i64 p.1,.int .i64 p.2]
def pC (p:Pt):List Value:=[.int .i64 p.1,.int .i64 p.2]
def Nr (p:Pt):Prop:=(-8000000≤p.1∧p.1≤8000000) ∧ -8000000≤p.2∧p.2≤8000000
def og (p:Pt):Bool:=decide (p.1 < -1000000∨1000000<p.1∨p.2 < -1000000∨1000000<p.2)
theorem Nr.AX {p:Pt} (h:og p=false):Nr p:=by
 simp only [og,decide_eq_false_iff_not] at h
 unfold Nr;omega
def Fz (x y:Int):Int:=if x<y then -1 else if y<x then 1 else 0
def aB (a b c:Pt):Int:=(b.1-a.1)*(c.2-a.2)-(b.2-a.2)*(c.1-a.1)
def sgn (x:Int):Int:=if x<0 then -1 else if 0<x then 1 else 0
theorem Yq (x y:Int):Fz x y=sgn (x-y):=by
 unfold Fz sgn
 split <;> split <;> (try split) <;> (try split) <;> omega
theorem Qs {x y B C:Int} (h1 : -B≤x) (h2:x≤B) (h3 : -C≤y) (h4:y≤C) : -(B*C)≤x*y∧x*y≤B*C:=by
 have hB:0≤B:=by omega
 have hC:0≤C:=by omega
 have a1:x.natAbs≤B.natAbs:=by omega
 have a2:y.natAbs≤C.natAbs:=by omega
 have a3:=Nat.mul_le_mul a1 a2
 rw [← Int.natAbs_mul,← Int.natAbs_mul] at a3
 have:0≤B*C:=Int.mul_nonneg hB hC
 omega
theorem oh {x y:Int} (h:(-16000000≤x∧x≤16000000) ∧ -16000000≤y∧y≤16000000) : -256000000000000≤x*y∧x*y≤256000000000000:=by
 have:=Qs (B:=16000000) (C:=16000000) h.1.1 h.1.2 h.2.1 h.2.2
 omega
def Xx (a b:Pt):Int:=if Fz a.1 b.1≠0 then Fz a.1 b.1 else Fz a.2 b.2
def hasB (a b p:Pt):Bool:=if aB a b p≠0 then false else if 0<Xx a b then decide (Xx b p≤0) && decide (Xx p a≤0) else decide (Xx a p≤0) && decide (Xx p b≤0)
theorem O.aaX {C:Cx} {e:Env} {w:World} {K:Value→World→Prop} {d:Option Tmp} {ty:TypeId} {pos:String} {aft:Array Edge} {g:Option (Nat × Bool)} {x:Operand} {tx:TypeId} {m:Int} (hx:ev e x=some (.int .i64 m)) (hb : -9223372036854775808≤0-m∧0-m≤9223372036854775807) (h:K (.int .i64 (0-m)) w):O C e ⟨d,.unOp .neg tx x,ty,pos,aft,g⟩ w K :=
 O.neg hx (by rw [IntWalk.i64_in _ hb];exact h)
def mn (a b:Int):Int:=if b<a then b else a
def mx (a b:Int):Int:=if a<b then b else a
theorem Jf {a b c:Int} : c<mx a b↔c<a∨c<b:=by unfold mx;split <;> omega
theorem U5 {a b c:Int} : mn a b<c↔a<c∨b<c:=by unfold mn;split <;> omega
theorem O.aiV {C:Cx} {e:Env} {w:World} {K:Value→World→Prop} {d:Option Tmp} {ty:TypeId} {pos:String} {aft:Array Edge} {g:Option (Nat × Bool)} {tys:Array TypeId} {x y z u:Operand} {k1 k2 k3 k4:IntKind} {a b c f:Int} (h1:ev e x=some (.int k1 a)) (h2:ev e y=some (.int k2 b)) (h3:ev e z=some (.int k3 c)) (h4:ev e u=some (.int k4 f)) (h:K (.int k1 (mx (mx (mx a b) c) f)) w) :
  O C e ⟨d,.call { callee:=.builtin .max,args:=#[x,y,z,u],argTypes:=tys },ty,pos,aft,g⟩ w K :=
 O.of_run (by simp) (fun q hq=>by
  simp [execOp,resolve,invoke,builtin,hq.eval h1,hq.eval h2,hq.eval h3,hq.eval h4,Builtin.max_,Builtin.max2,mx];rfl) h
theorem Xy {x:Int} : sgn x≠0↔x≠0:=by unfold sgn;split <;> (try split) <;> omega
theorem ND (p:Pt) (w:World) :
  Calls Tryz.prog 174 #[pV p] w (Ret fun v w'=>v = .bool (og p)∧Ext w w'):=by
 refine T.enter (vs:=[pV p]) func174 rfl ntmps174 rfl ?_
 refine T.q (L.o (O.box rfl (fun b1 w1 hb1 hz1 he1 hB1=>?_)))
 have Ik:Blk w1 b1 (pC p) 124:=hB1
 refine L.a rfl (L.nil (T.q (L.o (O.fieldAddr runUnderlying124 rfl sizeOf3 rfl (L.o (O.load isAgg3 rfl (Ik.cell rfl) (L.o (O.fieldAddr runUnderlying124 rfl sizeOf3 rfl (L.o (O.load isAgg3 rfl (Ik.cell rfl) (L.o (O.min rfl rfl (L.o (O.bF rfl rfl (fun h1=>?_) (fun h1=>?_)))))))))))))))
 ·refine L.m rfl (L.p (L.p (L.p (L.p (L.p (L.p (L.o (O.ah rfl rfl (L.a rfl (L.nil (T.aU results174 rfl ⟨?_,he1⟩)))))))))))
  unfold og
  rw [← mn,U5] at h1
  rw [decide_eq_true]
  omega
 refine L.m rfl (L.o (O.fieldAddr runUnderlying124 rfl sizeOf3 rfl (L.o (O.load isAgg3 rfl (Ik.cell rfl) (L.o (O.fieldAddr runUnderlying124 rfl sizeOf3 rfl (L.o (O.load isAgg3 rfl (Ik.cell rfl) (L.o (O.max rfl rfl (L.o (O.gtr rfl rfl (L.o (O.aj rfl rfl (L.a rfl (L.nil (T.aU results174 rfl ⟨?_,he1⟩)))))))))))))))))
 refine congrArg Value.bool (decide_eq_decide.2 ?_)
 rw [← mn,U5] at h1
 rw [← mx,Jf]
 omega
theorem kK (p:Pt) (w:World) (hp:Nr p) :
  Calls Tryz.prog 241 #[pV p] w (Ret fun v w'=>v = .bool (og p)∧Ext w w'):=by
 unfold Nr at hp
 refine T.enter (vs:=[pV p]) func241 rfl ntmps241 rfl ?_
 refine T.q (L.o (O.box rfl (fun b1 w1 hb1 hz1 he1 hB1=>?_)))
 have Ik:Blk w1 b1 (pC p) 124:=hB1
 refine L.a rfl (L.nil (T.q (L.o (O.fieldAddr runUnderlying124 rfl sizeOf3 rfl (L.o (O.load isAgg3 rfl (Ik.cell rfl) (L.o (O.fieldAddr runUnderlying124 rfl sizeOf3 rfl (L.o (O.load isAgg3 rfl (Ik.cell rfl) (L.o (O.aaX rfl (by omega) (L.o (O.fieldAddr runUnderlying124 rfl sizeOf3 rfl (L.o (O.load isAgg3 rfl (Ik.cell rfl) (L.o (O.fieldAddr runUnderlying124 rfl sizeOf3 rfl (L.o (O.load isAgg3 rfl (Ik.cell rfl) (L.o (O.aaX rfl (by omega) (L.o (O.aiV rfl rfl rfl rfl (L.o (O.jS rfl rfl (fun h1=>?_) (fun h1=>?_)))))))))))))))))))))))))))
 ·refine L.m rfl (L.p (L.p (L.p (L.p (L.p (L.p (L.o (O.ah rfl rfl (L.a rfl (L.nil (T.aU results241 rfl ⟨?_,he1⟩)))))))))))
  unfold og
  rw [Jf,Jf,Jf] at h1
  rw [decide_eq_true]
  omega
 refine L.m rfl (L.o (O.fieldAddr runUnderlying124 rfl sizeOf3 rfl (L.o (O.load isAgg3 rfl (Ik.cell rfl) (L.o (O.fieldAddr runUnderlying124 rfl sizeOf3 rfl (L.o (O.load isAgg3 rfl (Ik.cell rfl) (L.o (O.min rfl rfl (L.o (O.lss rfl rfl (L.o (O.aj rfl rfl (L.a rfl (L.nil (T.aU results241 rfl ⟨?_,he1⟩)))))))))))))))))
 refine congrArg Value.bool (decide_eq_decide.2 ?_)
 rw [Jf,Jf,Jf] at h1
 rw [← mn,U5]
 omega
theorem xR (x:Int) (w:World) :
  Calls Tryz.prog 270 #[.int .i64 x] w (Ret fun v w'=>v = .bool false∧w'=w):=by
 refine T.enter (vs:=[.int .i64 x]) func270 rfl ntmps270 rfl ?_
 refine T.q (L.a rfl (L.nil (T.q (L.m rfl (L.m rfl (L.o (O.kZ rfl rfl (by simp) (L.a rfl (L.nil (T.aU results270 rfl ⟨rfl,rfl⟩))))))))))
theorem xU (x y:Int) (w:World) :
  Calls Tryz.prog 264 #[.int .i64 x,.int .i64 y] w (Ret fun v w'=>v = .int .i64 (Fz x y)∧w'=w):=by
 refine T.enter (vs:=[.int .i64 x,.int .i64 y]) func264 rfl ntmps264 rfl ?_
 refine T.q (L.a rfl (L.nil (T.q (L.m rfl (L.o (O.call (xs:=[.tmp 7]) call270 rfl rfl (xR x w) (fun v1 w1 hq=>?_)))))))
 obtain ⟨rfl,rfl⟩:=hq
 refine L.a rfl (L.nil (T.q (L.m rfl (L.o (O.call (xs:=[.tmp 9]) call270 rfl rfl (xR y w1) (fun v2 w2 hq=>?_))))))
 obtain ⟨rfl,rfl⟩:=hq
 refine L.a rfl (L.nil (T.seq (T.q (L.m rfl (L.nil (T.cf (T.skip (T.seq (T.q (L.m rfl (L.nil (T.cf (T.skip (T.seq (T.q (L.m rfl (L.m rfl (L.o (O.bF rfl rfl (fun h1=>?_) (fun h1=>?_))))))))))))))))))))
 ·refine L.nil (T.ct (T.q (L.a rfl (L.nil (T.aU results264 rfl ⟨by rw [Fz,if_pos h1],rfl⟩)))))
 refine L.nil (T.cf (T.skip (T.seq (T.q (L.m rfl (L.m rfl (L.o (O.jS rfl rfl (fun h2=>?_) (fun h2=>?_)))))))))
 ·refine L.nil (T.ct (T.q (L.a rfl (L.nil (T.aU results264 rfl ⟨by rw [Fz,if_neg h1,if_pos h2],rfl⟩)))))
 refine L.nil (T.cf (T.skip (T.q (L.a rfl (L.nil (T.aU results264 rfl ⟨by rw [Fz,if_neg h1,if_neg h2],rfl⟩))))))
theorem jo (a b c:Pt) (w:World) (ha:Nr a) (hb:Nr b) (hc:Nr c) :
  Calls Tryz.prog 243 #[pV a,pV b,pV c] w (Ret fun v w'=>v = .int .i64 (sgn (aB a b c))∧Ext w w'):=by
 unfold Nr at ha hb hc
 refine T.enter (vs:=[pV a,pV b,pV c]) func243 rfl ntmps243 rfl ?_
 refine T.q (L.o (O.box rfl (fun b3 w3 hb3 hz3 he3 hB3=>?_)))
 refine L.o (O.box rfl (fun b4 w4 hb4 hz4 he4 hB4=>?_))
 refine L.o (O.box rfl (fun b5 w5 hb5 hz5 he5 hB5=>?_))
 have hA:Blk w5 b3 (pC a) 124:=Blk.ext (cs:=pC a) (Blk.ext (cs:=pC a) hB3 he4) he5
 have hB:Blk w5 b4 (pC b) 124:=Blk.ext (cs:=pC b) hB4 he5
 have hC:Blk w5 b5 (pC c) 124:=hB5
 have h1:=oh (x:=b.1-a.1) (y:=c.2-a.2) (by omega)
 have h2:=oh (x:=b.2-a.2) (y:=c.1-a.1) (by omega)
 refine L.a rfl (L.nil (T.q (L.o (O.fieldAddr runUnderlying124 rfl sizeOf3 rfl (L.o (O.load isAgg3 rfl (hB.cell rfl) (L.o (O.fieldAddr runUnderlying124 rfl sizeOf3 rfl (L.o (O.load isAgg3 rfl (hA.cell rfl) (L.o (O.gq rfl rfl (by omega) (L.o (O.fieldAddr runUnderlying124 rfl sizeOf3 rfl (L.o (O.load isAgg3 rfl (hC.cell rfl) (L.o (O.fieldAddr runUnderlying124 rfl sizeOf3 rfl (L.o (O.load isAgg3 rfl (hA.cell rfl) (L.o (O.gq rfl rfl (by omega) (L.o (O.l9 rfl rfl (by omega) (L.o (O.fieldAddr runUnderlying124 rfl sizeOf3 rfl (L.o (O.load isAgg3 rfl (hB.cell rfl) (L.o (O.fieldAddr runUnderlying124 rfl sizeOf3 rfl (L.o (O.load isAgg3 rfl (hA.cell rfl) (L.o (O.gq rfl rfl (by omega) (L.o (O.fieldAddr runUnderlying124 rfl sizeOf3 rfl (L.o (O.load isAgg3 rfl (hC.cell rfl) (L.o (O.fieldAddr runUnderlying124 rfl sizeOf3 rfl (L.o (O.load isAgg3 rfl (hA.cell rfl) (?_)))))))))))))))))))))))))))))))))))))))))))
 refine L.o (O.gq rfl rfl (by omega) (L.o (O.l9 rfl rfl (by omega) (L.o (O.call (xs:=[.tmp 17,.tmp 28]) call264 rfl rfl (xU _ _ w5) (fun v6 w6 hq=>?_))))))
 obtain ⟨rfl,rfl⟩:=hq
 refine L.a rfl (L.nil (T.aU results243 rfl ⟨by rw [Yq];rfl,(he3.trans he4).trans he5⟩))
open Go Go.E Go.RowKit
structure aae {α:Type} [DecidableEq α] (P:Program) (kf:α→Value) (kt:TypeId):Prop where
 same:∀ a b w,(Op.equalIn 10000 kt (kf a) (kf b)).run P w = .ok (decide (a=b)) w
 wide:(match P.underlying kt with|some (.array _ _)|some (.struct _)=>true|_=>false)=true
 check:∀ (b:Bool) (a:α) (w:World),(Instr.checkKey b 10000 kt (kf a)).run P w = .ok () w
 bits:∀ a,Instr.sameBits 10000 (kf a) (kf a)=true
section maps
variable {α β:Type} [DecidableEq α] {kf:α→Value} {vf:β→Value} {P:Program} {kt:TypeId}
theorem lT (hK:aae P kf kt) (k:α) (w:World):∀ (kvs:List (α × β)) (n i:Nat),(Instr.findAsking kt (kf k) (gEs kf vf n kvs) i).run P w = .ok ((dQ kvs k i).map (fun p=>(p.1,vf p.2))) w
 | [],_,_=>by simp [gEs,Instr.findAsking,dQ]
 | p::r,n,i=>by
  have ih:=lT hK k w r (n+1) (i+1)
  have hs:=hK.same k p.1 w
  simp only [gEs,gE,Instr.findAsking,Op.equal,Op.maxDepth,Sem.run_bind,hs,Result.andThen_ok,dQ]
  by_cases h:k=p.1
  ·simp [h]
  simp only [decide_eq_false h,if_neg h,Bool.false_eq_true,if_false]
  exact ih
theorem qI (hK:aae P kf kt) (k:α) (kvs:List (α × β)) (w:World):(Instr.findKey kt (kf k) (gEs kf vf 0 kvs)).run P w = .ok ((dQ kvs k 0).map (fun p=>(p.1,vf p.2))) w:=by
 rw [run_findKey_eq w hK.wide];exact lT hK k w kvs 0 0
end maps
section ops
variable {α β:Type} [DecidableEq α] {kf:α→Value} {vf:β→Value} {kt vt:TypeId}
variable {C:Cx} {e:Env} {w:World} {K:Value→World→Prop} {d:Option Tmp} {ty:TypeId} {pos:String} {aft:Array Edge} {g:Option (Nat × Bool)} {x y z:Operand} {t:TypeId}
theorem O.Qu {b:Nat} {k:α} {z0:β} {kvs:List (α × β)} (hK:aae C.P kf kt) (hu:∀ w,(underlying t).run C.P w = .ok (.map kt vt) w) (hz:∀ w,(zeroValue vt).run C.P w = .ok (vf z0) w)
  (hx:ev e x=some (.map (some b))) (hy:ev e y=some (kf k)) (hm:o9 kf vf w b kvs) (h:K (vf ((iG kvs k).getD z0)) w):O C e ⟨d,.lookup t x y false,ty,pos,aft,g⟩ w K :=
 O.of_run (by simp) (fun a ha=>by
  have hf:=qI (vf:=vf) hK k kvs w
  cases hc:dQ kvs k 0 with
  | none=>rw [hc] at hf;simp [execOp,Instr.lookup,ha.eval hx,ha.eval hy,hu w,MapKept.run_getObj_map hm,hK.check,hf,hz w,iG,hc]
  | some p=>rw [hc] at hf;simp [execOp,Instr.lookup,ha.eval hx,ha.eval hy,hu w,MapKept.run_getObj_map hm,hK.check,hf,iG,hc]) h
theorem O.sQ {b:Nat} {k:α} {v:β} {kvs:List (α × β)} (hK:aae C.P kf kt) (hu:∀ w,(underlying t).run C.P w = .ok (.map kt vt) w)
  (hx:ev e x=some (.map (some b))) (hy:ev e y=some (kf k)) (hz:ev e z=some (vf v)) (hm:o9 kf vf w b kvs) (h:∀ w',Upd b w w'→o9 kf vf w' b (vT kvs k v)→K undef w'):O C e ⟨d,.mapUpdate t x y z,ty,pos,aft,g⟩ w K:=by
 have hf:=qI (vf:=vf) hK k kvs w
 have hlt:=hm.lt
 cases hc:dQ kvs k 0 with
 | none =>
  rw [hc] at hf
  refine O.wZ (w':={ w with heap:=w.heap.setIfInBounds b (.map ((gEs kf vf 0 kvs).toArray.push { key:=kf k,val:=vf v,born:=kvs.length }) (kvs.length+1)) }) (by simp) (fun a ha=>by
   simp [execOp,Instr.mapUpdate,ha.eval hx,ha.eval hy,ha.eval hz,hu w,MapKept.run_getObj_map hm,hK.check,hf,MapKept.run_setObj_map _ hm]) (h _ ?_ ?_)
  ·exact aQ w b _
  have e:vT kvs k v=kvs ++ [(k,v)]:=by rw [vT,hc]
  unfold o9
  rw [e,CU,Array.getElem?_setIfInBounds_self]
  simp [hlt,gE]
 | some p =>
  rw [hc] at hf
  obtain ⟨_,hg⟩:=qA kvs k 0 (i:=p.1) (v:=p.2) hc
  rw [Nat.sub_zero] at hg
  have hes:(gEs kf vf 0 kvs).toArray[p.1]?=some (gE kf vf (k,p.2) p.1):=by simp [CS,hg]
  have hmod:=AB (kf:=kf) (vf:=vf) kvs p.1 (k,v) (fun e=>{ e with key:=kf k,val:=vf v }) (fun q _=>rfl)
  refine O.wZ (w':={ w with heap:=w.heap.setIfInBounds b (.map ((gEs kf vf 0 kvs).toArray.modify p.1 fun e=>{ e with key:=kf k,val:=vf v }) kvs.length) }) (by simp) (fun a ha=>by
   have hst:(Instr.keyThatStays (kf k) (kf k)).run C.P w = .ok (kf k) w:=by simp [Instr.keyThatStays,hK.bits k]
   simp only [execOp,Instr.mapUpdate,ha.eval hx,ha.eval hy,ha.eval hz,Sem.run_bind,hu w,Result.andThen_ok,MapKept.run_getObj_map hm,hK.check,hf,Option.map_some]
   rw [hes]
   simp [gE,hst,MapKept.run_setObj_map _ hm]) (h _ ?_ ?_)
  ·exact aQ w b _
  have e:vT kvs k v=kvs.set p.1 (k,v):=by rw [vT,hc]
  unfold o9
  rw [hmod,e,Array.getElem?_setIfInBounds_self]
  simp [hlt]
theorem O.Qv {b:Nat} {kvs:List (α × β)} (hu:∀ w,(underlying t).run C.P w = .ok (.map kt vt) w) (hx:ev e x=some (.map (some b))) (hm:o9 kf vf w b kvs) (h:K (.int .i64 kvs.length) w) :
  O C e ⟨d,.call { callee:=.builtin .len,args:=#[x],argTypes:=#[t] },ty,pos,aft,g⟩ w K :=
 O.of_run (by simp) (fun a ha=>by
  simp [execOp,resolve,invoke,builtin,Builtin.len_,ha.eval hx,hu w,MapKept.run_getObj_map hm,goInt,P5]) h
end ops
theorem Qw (a:Pt):Instr.sameBits 10000 (pV a) (pV a)=true:=by
 simp [pV,Instr.sameBits]
theorem FB (cs:Array Value) (i:Nat) (v:Value) (w:World) (h:cs[i]?=some v):(part 3 cs i).run Tryz.prog w = .ok v w:=by
 simp [part,isAgg3 w,h]
theorem eq3 (n:Nat) (x y:Int) (w:World):(Op.equalIn (n+1) 3 (.int .i64 x) (.int .i64 y)).run Tryz.prog w = .ok (x == y) w:=run_equalIn_int w n 3 _ .i64 x y (by kernel_rfl)
theorem eqPt (a b:Pt) (w:World):(Op.equalIn 10000 124 (pV a) (pV b)).run Tryz.prog w = .ok (decide (a=b)) w:=by
 obtain ⟨a1,a2⟩:=a
 obtain ⟨b1,b2⟩:=b
 unfold pV
 rw [run_equalIn_struct w 9999 124 _ _ (by kernel_rfl) (by kernel_rfl)]
 rw [show (Tryz.prog.fieldsOf 124).toList = [{ name := "X", type := 3, offset := 0, embedded := false, tag := "", pkgPath := "", byteOffset := 0 }, { name := "Y", type := 3, offset := 1, embedded := false, tag := "", pkgPath := "", byteOffset := 8 }] from by kernel_rfl]
 have p0:∀ (x y:Int) (w:World),(part 3 #[Value.int .i64 x,Value.int .i64 y] 0).run Tryz.prog w = .ok (.int .i64 x) w:=fun x y w=>FB _ _ _ w rfl
 have p1:∀ (x y:Int) (w:World),(part 3 #[Value.int .i64 x,Value.int .i64 y] 1).run Tryz.prog w = .ok (.int .i64 y) w:=fun x y w=>FB _ _ _ w rfl
 have e3:=eq3 9998
 simp only [Op.eqFields]
 by_cases h1:a1=b1 <;> by_cases h2:a2=b2 <;> simp [h1,h2,p0,p1,e3]
theorem aaY (a b:Pt) (w:World):(Op.equalIn 10000 279 (pV a) (pV b)).run Tryz.prog w = .ok (decide (a=b)) w:=by
 obtain ⟨a1,a2⟩:=a
 obtain ⟨b1,b2⟩:=b
 unfold pV
 rw [run_equalIn_array w 9999 (n:=2) (e:=3) _ _ (by kernel_rfl) (i:=_) (by rfl)]
 have hc:Tryz.prog.cellsOf 3=1:=by kernel_rfl
 have p0:∀ (x y:Int) (w:World),(part 3 #[Value.int .i64 x,Value.int .i64 y] 0).run Tryz.prog w = .ok (.int .i64 x) w:=fun x y w=>FB _ _ _ w rfl
 have p1:∀ (x y:Int) (w:World),(part 3 #[Value.int .i64 x,Value.int .i64 y] 1).run Tryz.prog w = .ok (.int .i64 y) w:=fun x y w=>FB _ _ _ w rfl
 have e3:=eq3 9998
 rw [hc]
 by_cases h1:a1=b1 <;> by_cases h2:a2=b2 <;> simp [List.range,List.range.loop,Op.eqItems,h1,h2,p0,p1,e3]
theorem Qx:aae Tryz.prog pV 124:=⟨eqPt,by kernel_rfl,fun b a w=>by
 obtain ⟨a1,a2⟩:=a
 have hu:Tryz.prog.underlying 3=some (.int .i64):=by kernel_rfl
 have p0:∀ (x y:Int) (w:World),(part 3 #[Value.int .i64 x,Value.int .i64 y] 0).run Tryz.prog w = .ok (.int .i64 x) w:=fun x y w=>FB _ _ _ w rfl
 have p1:∀ (x y:Int) (w:World),(part 3 #[Value.int .i64 x,Value.int .i64 y] 1).run Tryz.prog w = .ok (.int .i64 y) w:=fun x y w=>FB _ _ _ w rfl
 have hq : Tryz.prog.underlying 124 = some (.struct #[{ name := "X", type := 3, offset := 0, embedded := false, tag := "", pkgPath := "", byteOffset := 0 }, { name := "Y", type := 3, offset := 1, embedded := false, tag := "", pkgPath := "", byteOffset := 8 }]) := by kernel_rfl
 have hc:∀ (v:Int) (w:World),(Instr.checkKey b 9999 3 (.int .i64 v)).run Tryz.prog w = .ok () w:=fun v w=>MapKept.run_checkKey (k:=.int .i64 v) hu rfl b 9998
 unfold pV
 rw [Instr.checkKey]
 simp [run_underlying hq,p0,p1,hc],Qw⟩
theorem KT:aae Tryz.prog pV 279:=⟨aaY,by kernel_rfl,fun b a w=>by
 obtain ⟨a1,a2⟩:=a
 have hu:Tryz.prog.underlying 3=some (.int .i64):=by kernel_rfl
 have p0:∀ (x y:Int) (w:World),(part 3 #[Value.int .i64 x,Value.int .i64 y] 0).run Tryz.prog w = .ok (.int .i64 x) w:=fun x y w=>FB _ _ _ w rfl
 have p1:∀ (x y:Int) (w:World),(part 3 #[Value.int .i64 x,Value.int .i64 y] 1).run Tryz.prog w = .ok (.int .i64 y) w:=fun x y w=>FB _ _ _ w rfl
 have hq:Tryz.prog.underlying 279=some (.array 2 3):=by kernel_rfl
 have hc:∀ (v:Int) (w:World),(Instr.checkKey b 9999 3 (.int .i64 v)).run Tryz.prog w = .ok () w:=fun v w=>MapKept.run_checkKey (k:=.int .i64 v) hu rfl b 9998
 unfold pV
 rw [Instr.checkKey]
 simp [run_underlying hq,p0,p1,hc,sizeOf3,List.range'],Qw⟩
open Go Go.E
def orI:List Int→Int
 | []=>0
 | x::r=>if x≠0 then x else orI r
theorem Yr (a b:Int):orI [a,b]=if a≠0 then a else b:=by
 simp only [orI]
 split
 ·rfl
 split
 ·rfl
 omega
theorem U6 (xs:List Int) (i:Nat) (hi:i<xs.length):orI (xs.drop i)=if xs.getD i 0≠0 then xs.getD i 0 else orI (xs.drop (i+1)):=by
 rw [List.drop_eq_getElem_cons hi,orI,au hi]
def PtB (base:Nat) (v:Value) (w:World):Prop:=∃ b c,v = .pointer (some ⟨b,0,none⟩)∧base≤b∧Blk w b (pC c) 124
theorem PtB.lt {base:Nat} {v:Value} {w:World} (h:PtB base v w):∀ b,AL v=some b→b<w.heap.size:=fun b hb=>by
 obtain ⟨b',c,rfl,_,h2⟩:=h
 cases hb;exact h2.lt
structure RelB (base:Nat) (a:Pt) (w w':World):Prop where
 own:∀ b c,base≤b→Blk w b (pC c) 124→∃ c',Blk w' b (pC c') 124∧(c=a→c'=a)
theorem RelB.aV {base:Nat} {a:Pt} {w w':World} (h:Ext w w'):RelB base a w w':=⟨fun b c _ hB=>⟨c,Blk.ext (cs:=pC c) hB h,id⟩⟩
theorem gY (a:Pt):∀ u∈pC a,u.oneCell'=true:=by intro u hu;simp [pC] at hu;rcases hu with (rfl|rfl) <;> rfl
theorem RelB.upd {base:Nat} {a:Pt} {b:Nat} {w w':World} (hu:Upd b w w') (hB:Blk w' b (pC a) 124):RelB base a w w':=⟨fun b' c _ hB'=>by
 by_cases e:b'=b
 ·subst e;exact ⟨a,hB,fun _=>rfl⟩
 exact ⟨c,Blk.upd (cs:=pC c) hB' hu e,id⟩⟩
theorem PtB.st {base:Nat} {a:Pt} : ∀ v w w',RelB base a w w'→PtB base v w→PtB base v w':=fun v w w' h ⟨b,c,h1,h2,h3⟩=>by
 obtain ⟨c',k1,_⟩:=h.own b c h2 h3
 exact ⟨b,c',h1,h2,k1⟩
def eV (n:Int) (a b:Pt):Value:=.agg #[.int .i64 n,.int .i64 a.1,.int .i64 a.2,.int .i64 b.1,.int .i64 b.2]
def eC (n:Int) (a b:Pt):List Value:=[.int .i64 n,.int .i64 a.1,.int .i64 a.2,.int .i64 b.1,.int .i64 b.2]
theorem Il {n:Int} {a b:Pt} {w:World} {bl:Nat} {t:TypeId} (h:Blk w bl (eC n a b) t):Row w ((⟨bl,0,none⟩:Addr).add 1) (pC a):=(Row.ay h).part 1 2
theorem KU {n:Int} {a b:Pt} {w:World} {bl:Nat} {t:TypeId} (h:Blk w bl (eC n a b) t):Row w ((⟨bl,0,none⟩:Addr).add 3) (pC b):=(Row.ay h).part 3 2
theorem U7 (lo:Nat) (p:Value) (xs:List Int) (w:World) (hp:Ints .i64 lo w p xs) :
  Calls Tryz.prog 273 #[p] w (Ret fun v w'=>v = .int .i64 (orI xs)∧w'=w):=by
 have hle:=Sl.le hp
 refine T.enter (vs:=[p]) func273 rfl ntmps273 rfl ?_
 refine T.q (L.a rfl (L.nil (T.q (L.a rfl (L.nil (T.seq (T.q (L.m rfl (L.o (O.len runUnderlying30 rfl (Sl.val hp) (L.m rfl (L.nil (T.block (?_))))))))))))))
 refine T.loop (σ:=Nat) (fun i=>[(3,.int .i64 0),(6,p),(7,.int .i64 xs.length),(8,.int .i64 i)]) (fun i w'=>i≤xs.length∧w'=w∧orI xs=orI (xs.drop i)) (fun i=>xs.length-i) (0) ⟨rfl,rfl,rfl,rfl,trivial⟩ ⟨Nat.zero_le _,rfl,by rw [List.drop_zero]⟩ ?_
 rintro i w1 ⟨hi,rfl,he⟩
 refine T.q (L.o (O.bF rfl rfl (fun hlt=>?_) (fun hlt=>?_)))
 ·refine L.nil (?_)
  have hlt':i<xs.length:=by omega
  rw [U6 xs i hlt'] at he
  refine T.seq (T.ct (T.skip (T.seq (T.block (T.q (L.o (O.indexAddr runUnderlying30 sizeOf3 rfl rfl hp (by omega) (by omega) (L.o (O.load isAgg3 rfl (Ints.at hp hlt') (L.a rfl (L.nil (T.q (L.m rfl (L.m rfl (L.o (O.jT rfl rfl (fun h0=>?_) (fun h0=>?_)))))))))))))))))
  ·refine L.nil (T.ct (T.q (L.m rfl (L.a rfl (L.nil (T.aU results273 rfl ⟨by rw [he,if_pos h0],rfl⟩))))))
  refine L.nil (T.cf (T.skip (T.blk (T.region (L.o (O.aI rfl rfl (by omega) (L.m rfl (L.nil (T.again (i+1) (by omega) ⟨rfl,rfl,rfl,rfl,trivial⟩ ⟨hlt',rfl,by rw [he,if_neg (fun h=>h h0)]⟩)))))))))
 refine L.nil (T.seq (T.cf (T.exit rfl (T.q (L.m rfl (L.a rfl (L.nil (T.aU results273 rfl ⟨by rw [he,List.drop_of_length_le (by omega)];rfl,rfl⟩))))))))
theorem jA (a b:Pt) (w:World) :
  Calls Tryz.prog 271 #[pV a,pV b] w (Ret fun v w'=>v = .int .i64 (Xx a b)∧Ext w w'):=by
 refine T.enter (vs:=[pV a,pV b]) func271 rfl ntmps271 rfl ?_
 refine T.q (L.o (O.box rfl (fun b2 w2 hb2 hz2 he2 hB2=>?_)))
 refine L.o (O.box rfl (fun b3 w3 hb3 hz3 he3 hB3=>?_))
 have hA:Blk w3 b2 (pC a) 124:=Blk.ext (cs:=pC a) hB2 he3
 have hB:Blk w3 b3 (pC b) 124:=hB3
 refine L.a rfl (L.nil (T.seq (?_)))
 refine T.fJ mixed 9 [2,3] rfl [.is _,.is _,.is _,.is _,.is (.int .i64 (Fz a.1 b.1)),.is _,.is _,.is _,.is _] [[],[0],[],[2],[1,3],[],[5],[],[7]] [[],[0],[],[2],[0,1,2,3],[],[5],[],[7],[0,1,2,3,4,5,6,7,8],[0,1,2,3,4,5,6,7,8,9],[0,1,2,3,4,5,6,7,8,9,10],[0,1,2,3,4,5,6,7,8,9,10,11]] (by kernel_rfl) (by kernel_rfl) rfl (by kernel_rfl) trivial ⟨fun wx hx=>Ob.o (O.fieldAddr runUnderlying124 rfl sizeOf3 rfl kR),
   fun wx hx=>Ob.o (O.load isAgg3 rfl ((hA.ext hx).cell rfl) kR),
   fun wx hx=>Ob.o (O.fieldAddr runUnderlying124 rfl sizeOf3 rfl kR),
   fun wx hx=>Ob.o (O.load isAgg3 rfl ((hB.ext hx).cell rfl) kR),
   fun wx hx=>Ob.o (O.call (xs:=[.tmp 6,.tmp 8]) call264 rfl rfl (xU a.1 b.1 wx) (fun v wy h=>⟨Keep.of_eq h.2,h.1⟩)),
   fun wx hx=>Ob.o (O.fieldAddr runUnderlying124 rfl sizeOf3 rfl kR),
   fun wx hx=>Ob.o (O.load isAgg3 rfl ((hA.ext hx).cell rfl) kR),
   fun wx hx=>Ob.o (O.fieldAddr runUnderlying124 rfl sizeOf3 rfl kR),
   fun wx hx=>Ob.o (O.load isAgg3 rfl ((hB.ext hx).cell rfl) kR),
   trivial⟩ (fun w4 he4=>?_)
 refine L.o (O.call (xs:=[.tmp 11,.tmp 13]) call264 rfl rfl (xU a.2 b.2 w4) (fun v4 w4' hq=>?_))
 obtain ⟨rfl,hw4⟩:=hq
 subst hw4
 refine L.o (O.buildSlice (el:=3) (parts:=[(0,.tmp 9),(1,.tmp 14)]) (vs:=[(0,_),(1,_)]) (cs:=[.int .i64 (Fz a.1 b.1),.int .i64 (Fz a.2 b.2)]) rfl (fun w=>by kernel_rfl) (fun b5 w5 hb5 hz5 he5 hB5=>?_))
 have hI5:Ints .i64 0 w5 (.slice (some ⟨b5,0,none⟩) 2 2) [Fz a.1 b.1,Fz a.2 b.2]:=Ints.ay (xs:=[Fz a.1 b.1,Fz a.2 b.2]) hB5 rfl (by decide) (Nat.zero_le _)
 refine L.o (O.call (xs:=[.tmp 15]) call273 rfl rfl (U7 0 _ _ w5 hI5) (fun v6 w6 hq=>?_))
 obtain ⟨rfl,rfl⟩:=hq
 refine L.a rfl (L.nil (T.aU results271 rfl ⟨?_,?_⟩))
 ·rw [Yr];rfl
 exact (he2.trans he3).trans (he4.trans he5)
theorem AY (n:Int) (a b p:Pt) (w:World) (ha:Nr a) (hb:Nr b) (hp:Nr p) :
  Calls Tryz.prog 265 #[eV n a b,pV p] w (Ret fun v w'=>v = .bool (hasB a b p)∧Ext w w'):=by
 refine T.enter (vs:=[eV n a b,pV p]) func265 rfl ntmps265 rfl ?_
 refine T.q (L.o (O.box rfl (fun b2 w2 hb2 hz2 he2 hB2=>?_)))
 refine L.o (O.box rfl (fun b3 w3 hb3 hz3 he3 hB3=>?_))
 have hE:Blk w3 b2 (eC n a b) 315:=Blk.ext (cs:=eC n a b) hB2 he3
 have hP:Blk w3 b3 (pC p) 124:=hB3
 refine L.a rfl (L.nil (T.seq (T.q (L.o (O.fieldAddr runUnderlying315 rfl sizeOf124 rfl (L.o (O.ak isAgg124 sizeOf124 rfl rfl (Il hE) (L.o (O.fieldAddr runUnderlying315 rfl sizeOf124 rfl (L.o (O.ak isAgg124 sizeOf124 rfl rfl (KU hE) (L.o (O.ak isAgg124 sizeOf124 rfl rfl hP.row (L.o (O.call (xs:=[.tmp 8,.tmp 10,.tmp 11]) call243 rfl rfl (jo a b p w3 ha hb hp) (fun v4 w4 hq=>?_))))))))))))))))
 obtain ⟨rfl,he4⟩:=hq
 have hE4:=Blk.ext (cs:=eC n a b) hE he4
 have hP4:=Blk.ext (cs:=pC p) hP he4
 have uP:=(he2.trans he3).trans he4
 refine L.o (O.jT rfl rfl (fun h0=>?_) (fun h0=>?_))
 ·refine L.nil (T.ct (T.q (L.a rfl (L.nil (T.aU results265 rfl ⟨by rw [hasB,if_pos (Xy.1 h0)],uP⟩)))))
 refine L.nil (?_)
 have h0':¬ aB a b p≠0:=fun h=>Xy.2 h h0
 refine T.cf (T.skip (T.seq (?_)))
 refine T.Yd mixed 7 1 [2] rfl [.is _,.is _,.is _,.is _,.such (PtB w4.heap.size),.such (PtB w4.heap.size),.is undef] [[],[0],[],[2],[],[],[4,1]] [none,none,none,none,none,none,some 0] [[],[0],[],[2],[],[],[0,1,4,5],[0,1,2,3,4,5,6]] [4,5] [(6,4,5)] (fun _ _ u _ W=>∃ b,u = .pointer (some ⟨b,0,none⟩)∧w4.heap.size≤b∧Blk W b (pC a) 124) (fun _ W=>Ext w4 W) (RelB w4.heap.size a) (fun i f v w hi hf hh=>by { rcases (show i=4∨i=5 by simpa using hi) with rfl|rfl <;> (simp only [List.getElem?_cons_succ,List.getElem?_cons_zero,Option.some.injEq] at hf;subst hf;exact PtB.lt hh) }) (fun i j vi vj W W' hr ⟨b,h1,h2,h3⟩=>(hr.own b a h2 h3).elim fun c' k=>⟨b,h1,h2,(k.2 rfl)▸k.1⟩) (by kernel_rfl) (by kernel_rfl) (by kernel_rfl) (by kernel_rfl) rfl ⟨PtB.st,PtB.st,trivial⟩ (Keep.drew _ _) ⟨fun c wx hx=>ObX.op rfl (O.fieldAddr runUnderlying315 rfl sizeOf124 rfl ⟨⟨RelB.aV (Keep.refl _ _),hx⟩,rfl,trivial,trivial⟩),
   fun c wx hx=>ObX.op rfl (O.ak isAgg124 sizeOf124 rfl rfl (Il (Blk.ext (cs:=eC n a b) hE4 hx)) ⟨⟨RelB.aV (Keep.refl _ _),hx⟩,rfl,trivial,trivial⟩),
   fun c wx hx=>ObX.op rfl (O.fieldAddr runUnderlying315 rfl sizeOf124 rfl ⟨⟨RelB.aV (Keep.refl _ _),hx⟩,rfl,trivial,trivial⟩),
   fun c wx hx=>ObX.op rfl (O.ak isAgg124 sizeOf124 rfl rfl (KU (Blk.ext (cs:=eC n a b) hE4 hx)) ⟨⟨RelB.aV (Keep.refl _ _),hx⟩,rfl,trivial,trivial⟩),
   fun c wx hx=>ObX.op rfl (O.alloc zeroValue124 (fun b wy hb hz he hB=>UL ⟨⟨RelB.aV he,hx.trans he⟩,b,(0,0),rfl,by have:=hx.size;omega,hB⟩ ⟨fun q hq=>by { cases hq;exact Nat.le_of_eq hb.symm },trivial⟩)),
   fun c wx hx=>ObX.op rfl (O.alloc zeroValue124 (fun b wy hb hz he hB=>UL ⟨⟨RelB.aV he,hx.trans he⟩,b,(0,0),rfl,by have:=hx.size;omega,hB⟩ ⟨fun q hq=>by { cases hq;exact Nat.le_of_eq hb.symm },trivial⟩)),
   fun wx hx v5 hv5=>by { obtain ⟨b5,c5,rfl,hb5,hB5⟩:=hv5;exact ObX.op rfl (O.aC sizeOf124 rfl rfl rfl hB5 (Nat.le_refl _) (gY a) (fun w8 hu8 hB8=>UL ⟨⟨RelB.upd hu8 hB8,hx.upd hu8 (.inr hb5)⟩,rfl⟩ ⟨trivial,fun u hu=>by { cases hu;exact ⟨b5,rfl,hb5,hB8⟩ }⟩)) },
   trivial⟩ (fun w7 hI7 v5 hv5 v6 hv6 hp7=>?_)
 obtain ⟨vj,hvj,hfr,_⟩:=hp7 4 5 _ _ _ _ (by decide) (by decide) rfl rfl rfl rfl
 obtain rfl:=hvj _ _ rfl rfl
 obtain ⟨_,_,_,hlk⟩:=hp7 4 6 _ _ _ _ (by decide) (by decide) rfl rfl rfl rfl
 obtain ⟨b5,rfl,hb5,hB5⟩:=hlk rfl
 obtain ⟨b6,c6,rfl,hb6,hB6⟩:=hv6
 have hne:b5≠b6:=fun e=>hfr b5 rfl (by rw [e];rfl)
 refine L.o (O.aC sizeOf124 rfl rfl rfl hB6 (Nat.le_refl _) (gY b) (fun w8 hu8 hB8=>?_))
 have hA8:Blk w8 b5 (pC a) 124:=Blk.upd (cs:=pC a) hB5 hu8 hne
 have aaZ:Blk w8 b6 (pC b) 124:=hB8
 have Yt:Ext w4 w8:=hI7.upd hu8 (.inr hb6)
 have hP8:=Blk.ext (cs:=pC p) hP4 Yt
 refine L.nil (T.seq (T.q (L.o (O.ak isAgg124 sizeOf124 rfl rfl hA8.row (L.o (O.ak isAgg124 sizeOf124 rfl rfl aaZ.row (L.o (O.call (xs:=[.tmp 18,.tmp 19]) call271 rfl rfl (jA a b w8) (fun v9 w9 hq=>?_)))))))))
 obtain ⟨rfl,he9⟩:=hq
 have hA9:=Blk.ext (cs:=pC a) hA8 he9
 have hB9:=Blk.ext (cs:=pC b) aaZ he9
 have hP9:=Blk.ext (cs:=pC p) hP8 he9
 refine L.o (O.jS rfl rfl (fun hsw=>?_) (fun hsw=>?_))
 ·refine L.nil (T.ct (T.region (L.o (O.ak isAgg124 sizeOf124 rfl rfl hB9.row (L.o (O.ak isAgg124 sizeOf124 rfl rfl hA9.row (L.o (O.aC sizeOf124 rfl rfl rfl hA9 (Nat.le_refl _) (gY b) (fun w10 O7 Ii=>?_)))))))))
  refine L.o (O.aC sizeOf124 rfl rfl rfl (Blk.upd (cs:=pC b) hB9 O7 hne.symm) (Nat.le_refl _) (gY a) (fun w11 jg oV=>?_))
  have lY:Ext w4 w11:=((Yt.trans he9).upd O7 (.inr hb5)).upd jg (.inr hb6)
  have aiW:Blk w11 b5 (pC b) 124:=Blk.upd (cs:=pC b) Ii jg hne
  have aeo:Blk w11 b6 (pC a) 124:=oV
  have ag4:=Blk.ext (cs:=pC p) hP4 lY
  refine L.nil (T.q (L.o (O.ak isAgg124 sizeOf124 rfl rfl aiW.row (L.o (O.ak isAgg124 sizeOf124 rfl rfl ag4.row (L.o (O.call (xs:=[.tmp 24,.tmp 25]) call271 rfl rfl (jA b p w11) (fun v12 w12 hq=>?_))))))))
  obtain ⟨rfl,fQ⟩:=hq
  refine L.o (O.zQ rfl rfl (fun h1=>?_) (fun h1=>?_))
  ·refine L.m rfl (L.o (O.ak isAgg124 sizeOf124 rfl rfl ((Blk.ext (cs:=pC p) ag4 fQ).row) (L.o (O.ak isAgg124 sizeOf124 rfl rfl ((Blk.ext (cs:=pC a) aeo fQ).row) (L.o (O.call (xs:=[.tmp 29,.tmp 30]) call271 rfl rfl (jA p a w12) (fun v13 w13 hq=>?_)))))))
   obtain ⟨rfl,dn⟩:=hq
   refine L.o (O.leq rfl rfl (L.o (O.ah rfl rfl (L.a rfl (L.nil (T.aU results265 rfl ⟨by rw [hasB,if_neg h0',if_pos hsw,decide_eq_true h1];rfl,uP.trans (lY.trans (fQ.trans dn))⟩))))))
  refine L.m rfl (L.p (L.p (L.p (L.p (L.o (O.aj rfl rfl (L.a rfl (L.nil (T.aU results265 rfl ⟨by rw [hasB,if_neg h0',if_pos hsw,decide_eq_false h1];rfl,uP.trans (lY.trans fQ)⟩)))))))))
 refine L.nil (T.cf (T.skip (T.q (L.o (O.ak isAgg124 sizeOf124 rfl rfl hA9.row (L.o (O.ak isAgg124 sizeOf124 rfl rfl hP9.row (L.o (O.call (xs:=[.tmp 24,.tmp 25]) call271 rfl rfl (jA a p w9) (fun v12 w12 hq=>?_))))))))))
 obtain ⟨rfl,fQ⟩:=hq
 refine L.o (O.zQ rfl rfl (fun h1=>?_) (fun h1=>?_))
 ·refine L.m rfl (L.o (O.ak isAgg124 sizeOf124 rfl rfl ((Blk.ext (cs:=pC p) hP9 fQ).row) (L.o (O.ak isAgg124 sizeOf124 rfl rfl ((Blk.ext (cs:=pC b) hB9 fQ).row) (L.o (O.call (xs:=[.tmp 29,.tmp 30]) call271 rfl rfl (jA p b w12) (fun v13 w13 hq=>?_)))))))
  obtain ⟨rfl,dn⟩:=hq
  refine L.o (O.leq rfl rfl (L.o (O.ah rfl rfl (L.a rfl (L.nil (T.aU results265 rfl ⟨by rw [hasB,if_neg h0',if_neg hsw,decide_eq_true h1];rfl,uP.trans (Yt.trans (he9.trans (fQ.trans dn)))⟩))))))
 refine L.m rfl (L.p (L.p (L.p (L.p (L.o (O.aj rfl rfl (L.a rfl (L.nil (T.aU results265 rfl ⟨by rw [hasB,if_neg h0',if_neg hsw,decide_eq_false h1];rfl,uP.trans (Yt.trans (he9.trans fQ))⟩)))))))))
open Go Go.E
def comB (a b c d x:Pt):Bool:=hasB a b x && hasB c d x
def Jg (a b c d:Pt):List Pt→List (Pt × Bool)→List (Pt × Bool)
 | [],kvs=>kvs
 | x::r,kvs=>Jg a b c d r (if comB a b c d x then vT kvs x true else kvs)
def iY (a b c d:Pt):Int :=
 if 1<((Jg a b c d [a,b,c,d] []).length:Int) then 3 else if ((Jg a b c d [a,b,c,d] []).length:Int)=1 then 1
 else if sgn (aB a b c)*sgn (aB a b d)<0∧sgn (aB c d a)*sgn (aB c d b)<0 then 2 else 0
theorem Dk (x:Int) : -1≤sgn x∧sgn x≤1:=by unfold sgn;split <;> (try split) <;> omega
theorem Qy (x y:Int) : -1≤sgn x*sgn y∧sgn x*sgn y≤1:=by
 have:=Qs (x:=sgn x) (y:=sgn y) (B:=1) (C:=1) (Dk x).1 (Dk x).2 (Dk y).1 (Dk y).2
 omega
def Yu (a b c d:Pt):List Value:=pC a++pC b++pC c++pC d
theorem Qz {a b c d:Pt} {i:Nat} (hi:i<4):((Yu a b c d).drop ((i:Int).toNat*2)).take 2=pC ([a,b,c,d].getD i a):=by
 rcases (show i=0∨i=1∨i=2∨i=3 by omega) with rfl|rfl|rfl|rfl <;> rfl
theorem Yv {a b c d:Pt} {i:Nat} (hi:i<4) (ha:Nr a) (hb:Nr b) (hc:Nr c) (hd:Nr d):Nr ([a,b,c,d].getD i a):=by
 rcases (show i=0∨i=1∨i=2∨i=3 by omega) with rfl|rfl|rfl|rfl <;> assumption
theorem QA {a b c d:Pt} {i:Nat} (hi:i<4) (kvs:List (Pt × Bool)):Jg a b c d ([a,b,c,d].drop i) kvs=Jg a b c d ([a,b,c,d].drop (i+1)) (if comB a b c d ([a,b,c,d].getD i a) then vT kvs ([a,b,c,d].getD i a) true else kvs):=by
 rcases (show i=0∨i=1∨i=2∨i=3 by omega) with rfl|rfl|rfl|rfl <;> rfl
theorem NG {a b c d x:Pt} {i:Nat} (hi:i<4) (hx:x = [a,b,c,d].getD i a) (kvs:List (Pt × Bool)):Jg a b c d ([a,b,c,d].drop i) kvs=Jg a b c d ([a,b,c,d].drop (i+1)) (if comB a b c d x then vT kvs x true else kvs):=by
 subst hx;exact QA hi kvs
theorem pJ (n m:Int) (a b c d:Pt) (w:World) (ha:Nr a) (hb:Nr b) (hc:Nr c) (hd:Nr d) :
  Calls Tryz.prog 244 #[eV n a b,eV m c d] w (Ret fun v w'=>v = .int .i64 (iY a b c d)∧Ext w w'):=by
 refine T.enter (vs:=[eV n a b,eV m c d]) func244 rfl ntmps244 rfl ?_
 refine T.q (L.o (O.box rfl (fun b2 w2 hb2 hz2 he2 hB2=>?_)))
 refine L.o (O.box rfl (fun b3 w3 hb3 hz3 he3 hB3=>?_))
 have hE:Blk w3 b2 (eC n a b) 315:=Blk.ext (cs:=eC n a b) hB2 he3
 have hF:Blk w3 b3 (eC m c d) 315:=hB3
 refine L.a rfl (L.nil (T.seq (?_)))
 refine T.fJ mixed 13 [2,3] rfl [.is _,.is _,.is _,.is _,.is _,.is _,.is (.int .i64 (sgn (aB a b c))),.is _,.is _,.is _,.is _,.is _,.is _] [[],[0],[],[2],[],[4],[1,3,5],[],[7],[],[9],[],[11]] [[],[0],[],[2],[],[4],[0,1,2,3,4,5],[],[7],[],[9],[],[11],[0,1,2,3,4,5,6,7,8,9,10,11,12],[0,1,2,3,4,5,6,7,8,9,10,11,12,13],[0,1,2,3,4,5,6,7,8,9,10,11,12,13,14]] (by kernel_rfl) (by kernel_rfl) rfl (by kernel_rfl) trivial ⟨fun wx hx=>Ob.o (O.fieldAddr runUnderlying315 rfl sizeOf124 rfl kR),
   fun wx hx=>Ob.o (O.ak isAgg124 sizeOf124 rfl rfl (Il (Blk.ext (cs:=eC n a b) hE hx)) kR),
   fun wx hx=>Ob.o (O.fieldAddr runUnderlying315 rfl sizeOf124 rfl kR),
   fun wx hx=>Ob.o (O.ak isAgg124 sizeOf124 rfl rfl (KU (Blk.ext (cs:=eC n a b) hE hx)) kR),
   fun wx hx=>Ob.o (O.fieldAddr runUnderlying315 rfl sizeOf124 rfl kR),
   fun wx hx=>Ob.o (O.ak isAgg124 sizeOf124 rfl rfl (Il (Blk.ext (cs:=eC m c d) hF hx)) kR),
   fun wx hx=>Ob.o (O.call (xs:=[.tmp 13,.tmp 15,.tmp 17]) call243 rfl rfl (jo a b c wx ha hb hc) (fun v wy h=>⟨h.2,h.1⟩)),
   fun wx hx=>Ob.o (O.fieldAddr runUnderlying315 rfl sizeOf124 rfl kR),
   fun wx hx=>Ob.o (O.ak isAgg124 sizeOf124 rfl rfl (Il (Blk.ext (cs:=eC n a b) hE hx)) kR),
   fun wx hx=>Ob.o (O.fieldAddr runUnderlying315 rfl sizeOf124 rfl kR),
   fun wx hx=>Ob.o (O.ak isAgg124 sizeOf124 rfl rfl (KU (Blk.ext (cs:=eC n a b) hE hx)) kR),
   fun wx hx=>Ob.o (O.fieldAddr runUnderlying315 rfl sizeOf124 rfl kR),
   fun wx hx=>Ob.o (O.ak isAgg124 sizeOf124 rfl rfl (KU (Blk.ext (cs:=eC m c d) hF hx)) kR),
   trivial⟩ (fun w4 he4=>?_)
 refine L.o (O.call (xs:=[.tmp 20,.tmp 22,.tmp 24]) call243 rfl rfl (jo a b d w4 ha hb hd) (fun v5 w5 hq=>?_))
 obtain ⟨rfl,he5⟩:=hq
 have hE5:=Blk.ext (cs:=eC n a b) hE (he4.trans he5)
 have hF5:=Blk.ext (cs:=eC m c d) hF (he4.trans he5)
 refine L.a rfl (L.a rfl (L.nil (T.seq (?_))))
 refine T.fJ mixed 13 [3,2] rfl [.is _,.is _,.is _,.is _,.is _,.is _,.is (.int .i64 (sgn (aB c d a))),.is _,.is _,.is _,.is _,.is _,.is _] [[],[0],[],[2],[],[4],[1,3,5],[],[7],[],[9],[],[11]] [[],[0],[],[2],[],[4],[0,1,2,3,4,5],[],[7],[],[9],[],[11],[0,1,2,3,4,5,6,7,8,9,10,11,12],[0,1,2,3,4,5,6,7,8,9,10,11,12,13],[0,1,2,3,4,5,6,7,8,9,10,11,12,13,14]] (by kernel_rfl) (by kernel_rfl) rfl (by kernel_rfl) trivial ⟨fun wx hx=>Ob.o (O.fieldAddr runUnderlying315 rfl sizeOf124 rfl kR),
   fun wx hx=>Ob.o (O.ak isAgg124 sizeOf124 rfl rfl (Il (Blk.ext (cs:=eC m c d) hF5 hx)) kR),
   fun wx hx=>Ob.o (O.fieldAddr runUnderlying315 rfl sizeOf124 rfl kR),
   fun wx hx=>Ob.o (O.ak isAgg124 sizeOf124 rfl rfl (KU (Blk.ext (cs:=eC m c d) hF5 hx)) kR),
   fun wx hx=>Ob.o (O.fieldAddr runUnderlying315 rfl sizeOf124 rfl kR),
   fun wx hx=>Ob.o (O.ak isAgg124 sizeOf124 rfl rfl (Il (Blk.ext (cs:=eC n a b) hE5 hx)) kR),
   fun wx hx=>Ob.o (O.call (xs:=[.tmp 27,.tmp 29,.tmp 31]) call243 rfl rfl (jo c d a wx hc hd ha) (fun v wy h=>⟨h.2,h.1⟩)),
   fun wx hx=>Ob.o (O.fieldAddr runUnderlying315 rfl sizeOf124 rfl kR),
   fun wx hx=>Ob.o (O.ak isAgg124 sizeOf124 rfl rfl (Il (Blk.ext (cs:=eC m c d) hF5 hx)) kR),
   fun wx hx=>Ob.o (O.fieldAddr runUnderlying315 rfl sizeOf124 rfl kR),
   fun wx hx=>Ob.o (O.ak isAgg124 sizeOf124 rfl rfl (KU (Blk.ext (cs:=eC m c d) hF5 hx)) kR),
   fun wx hx=>Ob.o (O.fieldAddr runUnderlying315 rfl sizeOf124 rfl kR),
   fun wx hx=>Ob.o (O.ak isAgg124 sizeOf124 rfl rfl (KU (Blk.ext (cs:=eC n a b) hE5 hx)) kR),
   trivial⟩ (fun w6 he6=>?_)
 refine L.o (O.call (xs:=[.tmp 34,.tmp 36,.tmp 38]) call243 rfl rfl (jo c d b w6 hc hd hb) (fun v7 w7 hq=>?_))
 obtain ⟨rfl,he7⟩:=hq
 have hE7:=Blk.ext (cs:=eC n a b) hE5 (he6.trans he7)
 have hF7:=Blk.ext (cs:=eC m c d) hF5 (he6.trans he7)
 have O8:=((he2.trans he3).trans (he4.trans he5)).trans (he6.trans he7)
 refine L.a rfl (L.a rfl (L.nil (T.q (L.o (O.qC (kf:=pV) (vf:=Value.bool) (fun b8 w8 hb8 hz8 he8 hM8=>?_))))))
 have hE8:=Blk.ext (cs:=eC n a b) hE7 he8
 have hF8:=Blk.ext (cs:=eC m c d) hF7 he8
 refine L.a rfl (L.nil (T.seq (T.q (L.o (O.fieldAddr runUnderlying315 rfl sizeOf124 rfl (L.o (O.ak isAgg124 sizeOf124 rfl rfl (Il hE8) (L.o (O.fieldAddr runUnderlying315 rfl sizeOf124 rfl (L.o (O.ak isAgg124 sizeOf124 rfl rfl (KU hE8) (L.o (O.fieldAddr runUnderlying315 rfl sizeOf124 rfl (L.o (O.ak isAgg124 sizeOf124 rfl rfl (Il hF8) (L.o (O.fieldAddr runUnderlying315 rfl sizeOf124 rfl (L.o (O.ak isAgg124 sizeOf124 rfl rfl (KU hF8) (L.o (O.build (v:=.agg (Yu a b c d).toArray) (parts:=[(0,.tmp 42),(1,.tmp 44),(2,.tmp 46),(3,.tmp 48)]) (vs:=[(0,_),(1,_),(2,_),(3,_)]) rfl (fun w=>by kernel_rfl) (L.m rfl (L.nil (T.block (?_)))))))))))))))))))))))))
 refine T.loop (σ:=Nat × List (Pt × Bool)) (fun s=>[(2,.pointer (some ⟨b2,0,none⟩)),(3,.pointer (some ⟨b3,0,none⟩)),(5,.int .i64 (sgn (aB a b c))),(6,.int .i64 (sgn (aB a b d))),(7,.int .i64 (sgn (aB c d a))),(8,.int .i64 (sgn (aB c d b))),(9,.map (some b8)),(49,.agg (Yu a b c d).toArray),(50,.int .i64 s.1)]) (fun s w'=>s.1≤4∧Ext w7 w'∧w8.heap.size≤w'.heap.size∧Blk w' b2 (eC n a b) 315∧Blk w' b3 (eC m c d) 315∧o9 pV Value.bool w' b8 s.2∧Jg a b c d [a,b,c,d] []=Jg a b c d ([a,b,c,d].drop s.1) s.2) (fun s=>4-s.1) ((0,[])) ⟨rfl,rfl,rfl,rfl,rfl,rfl,rfl,rfl,rfl,trivial⟩ ⟨Nat.zero_le _,he8,Nat.le_refl _,hE8,hF8,hM8,rfl⟩ ?_
 rintro ⟨i,kvs⟩ w9 ⟨hi,he9,hz9,hE9,hF9,hM9,hk9⟩
 simp only at hi hM9 hk9
 refine T.q (L.o (O.bF rfl rfl (fun hlt=>?_) (fun hlt=>?_)))
 ·refine L.nil (?_)
  have hlt':i<4:=by simp only at hlt;omega
  obtain ⟨x,hx⟩:∃ x,x = [a,b,c,d].getD i a:=⟨_,rfl⟩
  have hxn:Nr x:=by rw [hx];exact Yv hlt' ha hb hc hd
  have hgi:=Qz (a:=a) (b:=b) (c:=c) (d:=d) hlt'
  rw [← hx] at hgi
  rw [NG hlt' hx] at hk9
  refine T.seq (T.ct (T.skip (T.seq (T.block (T.q (L.o (O.EW runUnderlying332 isAgg124 sizeOf124 rfl rfl (by omega) (by omega) hgi (L.o (O.alloc zeroValue124 (fun b10 w10 aep Z9 gI Ii=>?_))))))))))
  refine L.o (O.aC sizeOf124 rfl rfl rfl Ii (Nat.le_refl _) (gY x) (fun w11 jg oV=>?_))
  have aer:Blk w11 b10 (pC x) 124:=oV
  have lY:Ext w9 w11:=gI.upd jg (.inr (by omega))
  have EL:=Blk.ext (cs:=eC n a b) hE9 lY
  have aaf:=Blk.ext (cs:=eC m c d) hF9 lY
  have Np:=hM9.keep lY (Nat.zero_le _)
  have Xw:=lY.size
  refine L.nil (T.q (L.o (O.ak isAgg315 sizeOf315 rfl rfl EL.row (L.o (O.ak isAgg124 sizeOf124 rfl rfl aer.row (L.o (O.call (xs:=[.tmp 53,.tmp 54]) call265 rfl rfl (AY n a b x w11 ha hb hxn) (fun v12 w12 hq=>?_))))))))
  obtain ⟨NH,fQ⟩:=hq
  have aa0:=fQ.size
  rcases h1:hasB a b x with _|_
  ·rw [h1] at NH
   subst NH
   refine L.m rfl (L.p (L.p (L.p (L.o (O.aj rfl rfl (L.nil (T.cf (T.skip (T.blk (T.region (L.o (O.aI rfl rfl (by simp only;omega) (L.m rfl (L.nil (T.again ((i+1,kvs)) (by omega) ⟨rfl,rfl,rfl,rfl,rfl,rfl,rfl,rfl,rfl,trivial⟩ ⟨hlt',he9.trans (lY.trans fQ),by omega,Blk.ext (cs:=eC n a b) EL fQ,Blk.ext (cs:=eC m c d) aaf fQ,Np.keep fQ (Nat.zero_le _),by rw [hk9,comB,h1];rfl⟩)))))))))))))))
  rw [h1] at NH
  subst NH
  refine L.m rfl (L.o (O.ak isAgg315 sizeOf315 rfl rfl ((Blk.ext (cs:=eC m c d) aaf fQ).row) (L.o (O.ak isAgg124 sizeOf124 rfl rfl ((Blk.ext (cs:=pC x) aer fQ).row) (L.o (O.call (xs:=[.tmp 57,.tmp 58]) call265 rfl rfl (AY m c d x w12 hc hd hxn) (fun v13 w13 hq=>?_)))))))
  obtain ⟨Uw,dn⟩:=hq
  have U8:=dn.size
  have iR:=fQ.trans dn
  have ag5:=Np.keep iR (Nat.zero_le _)
  rcases h2:hasB c d x with _|_
  ·rw [h2] at Uw
   subst Uw
   refine L.o (O.ah rfl rfl (L.nil (T.cf (T.skip (T.blk (T.region (L.o (O.aI rfl rfl (by simp only;omega) (L.m rfl (L.nil (T.again ((i+1,kvs)) (by omega) ⟨rfl,rfl,rfl,rfl,rfl,rfl,rfl,rfl,rfl,trivial⟩ ⟨hlt',he9.trans (lY.trans iR),by omega,Blk.ext (cs:=eC n a b) EL iR,Blk.ext (cs:=eC m c d) aaf iR,ag5,by rw [hk9,comB,h1,h2];rfl⟩)))))))))))
  rw [h2] at Uw
  subst Uw
  refine L.o (O.ah rfl rfl (L.nil (T.ct (T.region (L.m rfl (L.o (O.ak isAgg124 sizeOf124 rfl rfl ((Blk.ext (cs:=pC x) aer iR).row) (L.o (O.sQ (kf:=pV) (vf:=Value.bool) (v:=true) Qx runUnderlying249 rfl rfl rfl ag5 (fun w14 O9 aiX=>?_))))))))))
  have hb8:=hE8.lt
  refine L.nil (T.blk (T.region (L.o (O.aI rfl rfl (by simp only;omega) (L.m rfl (L.nil (T.again ((i+1,vT kvs x true)) (by omega) ⟨rfl,rfl,rfl,rfl,rfl,rfl,rfl,rfl,rfl,trivial⟩ ⟨hlt',(he9.trans (lY.trans iR)).upd O9 (.inr (by omega)),by have:=O9.size;omega,Blk.upd (cs:=eC n a b) (Blk.ext (cs:=eC n a b) EL iR) O9 (by have:=hE7.lt;omega),Blk.upd (cs:=eC m c d) (Blk.ext (cs:=eC m c d) aaf iR) O9 (by have:=hF7.lt;omega),aiX,by rw [hk9,comB,h1,h2];rfl⟩)))))))
 refine L.nil (?_)
 obtain rfl:i=4:=by simp only at hlt;omega
 have hk:Jg a b c d [a,b,c,d] []=kvs:=hk9
 have q1:=Qy (aB a b c) (aB a b d)
 have q2:=Qy (aB c d a) (aB c d b)
 have hfin:=O8.trans he9
 refine T.seq (T.cf (T.exit rfl (T.seq (T.block (T.q (L.m rfl (L.o (O.Qv (kf:=pV) (vf:=Value.bool) runUnderlying249 rfl hM9 (L.o (O.jS rfl rfl (fun h1=>?_) (fun h1=>?_)))))))))))
 ·refine L.a rfl (L.nil (T.ct (T.q (L.a rfl (L.nil (T.aU results244 rfl ⟨by rw [iY,hk,if_pos h1],hfin⟩))))))
 refine L.a rfl (L.nil (T.cf (T.q (L.m rfl (L.o (O.Qv (kf:=pV) (vf:=Value.bool) runUnderlying249 rfl hM9 (L.o (O.jw rfl rfl (fun h2=>?_) (fun h2=>?_)))))))))
 ·refine L.a rfl (L.nil (T.ct (T.q (L.a rfl (L.nil (T.aU results244 rfl ⟨by rw [iY,hk,if_neg h1,if_pos h2],hfin⟩))))))
 refine L.a rfl (L.nil (T.cf (T.q (L.m rfl (L.m rfl (L.o (O.l9 rfl rfl (by omega) (L.o (O.bF rfl rfl (fun h3=>?_) (fun h3=>?_))))))))))
 ·refine L.m rfl (L.m rfl (L.m rfl (L.o (O.l9 rfl rfl (by omega) (L.o (O.bF rfl rfl (fun h4=>?_) (fun h4=>?_)))))))
  ·refine L.o (O.ah rfl rfl (L.a rfl (L.nil (T.ct (T.q (L.a rfl (L.nil (T.aU results244 rfl ⟨by rw [iY,hk,if_neg h1,if_neg h2,if_pos ⟨h3,h4⟩],hfin⟩))))))))
  refine L.o (O.ah rfl rfl (L.a rfl (L.nil (T.cf (T.skip (T.blk (T.q (L.a rfl (L.nil (T.aU results244 rfl ⟨by rw [iY,hk,if_neg h1,if_neg h2,if_neg (fun h=>h4 h.2)],hfin⟩))))))))))
 refine L.m rfl (L.p (L.p (L.p (L.p (L.o (O.aj rfl rfl (L.a rfl (L.nil (T.cf (T.skip (T.blk (T.q (L.a rfl (L.nil (T.aU results244 rfl ⟨by rw [iY,hk,if_neg h1,if_neg h2,if_neg (fun h=>h3 h.1)],hfin⟩)))))))))))))))
open Go Go.E
theorem AZ:Tryz.prog.eqGuardType Tryz.prog.depth 124=false:=by kernel_rfl
section
variable {C:Cx} {e:Env} {w:World} {K:Value→World→Prop} {d:Option Tmp} {ty:TypeId} {pos:String} {aft:Array Edge} {g:Option (Nat × Bool)} {x y:Operand} {p q:Pt}
theorem O.aa1 (hP:C.P=Tryz.prog) (hx:ev e x=some (pV p)) (hy:ev e y=some (pV q)) (h:K (.bool (decide (p=q))) w):O C e ⟨d,.binOp .eql 124 x y 124,ty,pos,aft,g⟩ w K :=
 O.of_run (by simp) (fun ac hq=>by
  rw [hP]
  have h1:=eqPt p q w
  unfold pV at hx hy h1
  simp only [execOp,hq.eval hx,hq.eval hy,Sem.run_bind,run_eqGuard_agg w _ _ _ _ _ _ AZ,Result.andThen_ok,run_eql_struct,h1]
  rfl) h
theorem O.QB (hP:C.P=Tryz.prog) (hx:ev e x=some (pV p)) (hy:ev e y=some (pV q)) (he:¬ p=q) (h:K (.bool false) w):O C e ⟨d,.binOp .eql 124 x y 124,ty,pos,aft,g⟩ w K:=O.aa1 hP hx hy (by rw [decide_eq_false he];exact h)
theorem O.Yw (hP:C.P=Tryz.prog) (hx:ev e x=some (pV p)) (hy:ev e y=some (pV q)) (ht:p=q→K (.bool true) w) (hf:¬ p=q→K (.bool false) w):O C e ⟨d,.binOp .eql 124 x y 124,ty,pos,aft,g⟩ w K:=O.aa1 hP hx hy (by
 by_cases he:p=q
 ·rw [decide_eq_true he];exact ht he
 rw [decide_eq_false he];exact hf he)
end
theorem Jh (a b c d:Pt) (w:World) (ha:og a=false) (hb:og b=false) (hc:og c=false) (hd:og d=false) (hab:¬ a=b) (hcd:¬ c=d) :
  Calls Tryz.prog 246 #[pV a,pV b,pV c,pV d] w (Ret fun v w'=>v = .tuple #[.int .i64 (iY a b c d),.int .i64 0]∧Ext w w'):=by
 have na:=Nr.AX ha
 have nb:=Nr.AX hb
 have nc:=Nr.AX hc
 have nd:=Nr.AX hd
 refine T.enter (vs:=[pV a,pV b,pV c,pV d]) func246 rfl ntmps246 rfl ?_
 refine T.q (L.o (O.box rfl (fun b4 w4 hb4 hz4 he4 hB4=>?_)))
 refine L.o (O.box rfl (fun b5 w5 hb5 hz5 he5 hB5=>?_))
 refine L.o (O.box rfl (fun b6 w6 hb6 hz6 he6 hB6=>?_))
 refine L.o (O.box rfl (fun b7 w7 hb7 hz7 he7 hB7=>?_))
 have hA:Blk w7 b4 (pC a) 124:=Blk.ext (cs:=pC a) (Blk.ext (cs:=pC a) (Blk.ext (cs:=pC a) hB4 he5) he6) he7
 have hB:Blk w7 b5 (pC b) 124:=Blk.ext (cs:=pC b) (Blk.ext (cs:=pC b) hB5 he6) he7
 have hC:Blk w7 b6 (pC c) 124:=Blk.ext (cs:=pC c) hB6 he7
 have hD:Blk w7 b7 (pC d) 124:=hB7
 refine L.a rfl (L.a rfl (L.nil (T.seq (T.q (L.o (O.ak isAgg124 sizeOf124 rfl rfl hA.row (L.o (O.call (xs:=[.tmp 10]) call241 rfl rfl (kK a w7 na) (fun v8 w8 hq=>?_)))))))))
 obtain ⟨hv8,he8⟩:=hq
 rw [ha] at hv8
 subst hv8
 refine L.m rfl (L.o (O.ak isAgg124 sizeOf124 rfl rfl ((Blk.ext (cs:=pC b) hB he8).row) (L.o (O.call (xs:=[.tmp 13]) call241 rfl rfl (kK b w8 nb) (fun v9 w9 hq=>?_)))))
 obtain ⟨hv9,he9⟩:=hq
 rw [hb] at hv9
 subst hv9
 refine L.o (O.aj rfl rfl (L.m rfl (L.o (O.ak isAgg124 sizeOf124 rfl rfl ((Blk.ext (cs:=pC c) hC (he8.trans he9)).row) (L.o (O.call (xs:=[.tmp 17]) call241 rfl rfl (kK c w9 nc) (fun v10 w10 hq=>?_)))))))
 obtain ⟨adh,gI⟩:=hq
 rw [hc] at adh
 subst adh
 refine L.o (O.aj rfl rfl (L.m rfl (L.o (O.ak isAgg124 sizeOf124 rfl rfl ((Blk.ext (cs:=pC d) hD ((he8.trans he9).trans gI)).row) (L.o (O.call (xs:=[.tmp 21]) call241 rfl rfl (kK d w10 nd) (fun v11 w11 hq=>?_)))))))
 obtain ⟨adi,eH⟩:=hq
 rw [hd] at adi
 subst adi
 have FC:=((he8.trans he9).trans gI).trans eH
 have hA':=Blk.ext (cs:=pC a) hA FC
 have hB':=Blk.ext (cs:=pC b) hB FC
 have hC':=Blk.ext (cs:=pC c) hC FC
 have hD':=Blk.ext (cs:=pC d) hD FC
 refine L.o (O.aj rfl rfl (L.m rfl (L.o (O.ak isAgg124 sizeOf124 rfl rfl hA'.row (L.o (O.ak isAgg124 sizeOf124 rfl rfl hB'.row (L.o (O.QB rfl rfl rfl hab (L.o (O.aj rfl rfl (L.m rfl (L.o (O.ak isAgg124 sizeOf124 rfl rfl hC'.row (L.o (O.ak isAgg124 sizeOf124 rfl rfl hD'.row (L.o (O.QB rfl rfl rfl hcd (L.o (O.aj rfl rfl (L.nil (T.cf (T.skip (T.q (L.o (O.ak isAgg124 sizeOf124 rfl rfl hA'.row (L.o (O.ak isAgg124 sizeOf124 rfl rfl hB'.row (L.o (O.build (v:=eV 0 a b) (parts:=[(1,.tmp 34),(2,.tmp 35)]) (vs:=[(1,_),(2,_)]) rfl (fun w=>by kernel_rfl) (L.o (O.ak isAgg124 sizeOf124 rfl rfl hC'.row (L.o (O.ak isAgg124 sizeOf124 rfl rfl hD'.row (L.o (O.build (v:=eV 0 c d) (parts:=[(1,.tmp 37),(2,.tmp 38)]) (vs:=[(1,_),(2,_)]) rfl (fun w=>by kernel_rfl) (L.o (O.call (xs:=[.tmp 36,.tmp 39]) call244 rfl rfl (pJ 0 0 a b c d w11 na nb nc nd) (fun v12 w12 hq=>?_))))))))))))))))))))))))))))))))))))))
 obtain ⟨rfl,fQ⟩:=hq
 refine L.a rfl (L.a rfl (L.nil (T.Cj results246 rfl rfl ⟨rfl,((((he4.trans he5).trans he6).trans he7).trans FC).trans fQ⟩)))
open Go Go.E
def pcs (r:List Pt):List Value:=r.flatMap pC
theorem A8 (r s:List Pt):pcs (r++s)=pcs r++pcs s:=by simp [pcs]
theorem QC:∀ (r:List Pt) (i:Nat),i<r.length→((pcs r).drop (i*2)).take 2=pC (r.getD i (0,0))
 | [],i,h=>by simp at h
 | p::r,0,_=>rfl
 | p::r,i+1,h=>by
  have ih:=QC r i (by simpa using h)
  have e:pcs (p::r) = .int .i64 p.1 :: .int .i64 p.2::pcs r:=rfl
  rw [e,show (i+1)*2=i*2+1+1 by omega,List.drop_succ_cons,List.drop_succ_cons,ih]
  rfl
def Pts (lo:Nat) (w:World) (p:Value) (r:List Pt):Prop:=Sl lo w p r.length 2 (pcs r)
theorem Pts.ext {lo:Nat} {w w':World} {p:Value} {r:List Pt} (h:Pts lo w p r) (k:Ext w w'):Pts lo w' p r:=Sl.ext h k
theorem Pts.row {lo:Nat} {w:World} {p:Value} {r:List Pt} (h:Pts lo w p r) {i:Nat} (hi:i<r.length):Row w ((jd p).add ((i:Int).toNat*2)) (pC (r.getD i (0,0))):=by
 rw [Int.toNat_natCast,← QC r i hi]
 obtain ⟨_,_,_,_,hr⟩:=Sl.there h (by omega)
 exact hr.part (i*2) 2
def NrL (r:List Pt):Prop:=∀ i,i<r.length→Nr (r.getD i (0,0))
def rA (r:List Pt) (i:Nat):Pt:=r.getD i (0,0)
def rB (r:List Pt) (i:Nat):Pt:=r.getD ((i+1) % r.length) (0,0)
def aa2 (r:List Pt) (i:Nat) (v:Value) (j:Nat):Prop:=i<r.length∧v=eV i (rA r i) (rB r i)∧j=i+1
theorem lI (p:Value) (n:Nat) (cs:List Value) (lo:Nat) (w:World) (hp:Sl lo w p n 2 cs) :
  Calls Tryz.prog 242 #[p] w (Ret fun v w'=>v = .func (.func 263) #[] #[.pointer (some ⟨w.heap.size,0,none⟩)]∧Ext w w'∧Blk w' w.heap.size [p] 237):=by
 refine T.enter (vs:=[p]) func242 rfl ntmps242 rfl ?_
 refine T.q (L.o (O.box rfl (fun b1 w1 hb1 hz1 he1 hB1=>?_)))
 subst hb1
 have Ik:Blk w1 w.heap.size [p] 237:=by have:=hB1;simp only [Sl.cells hp] at this;exact this
 refine L.a rfl (L.nil (T.q (L.o (O.makeFunc (fi:=[]) (ca:=[.tmp 1]) rfl rfl (L.a rfl (L.nil (T.aU results242 rfl ⟨rfl,he1,Ik⟩)))))))
theorem FD (l b lo:Nat) (p:Value) (r:List Pt) (J:Nat→(Nat→Prop)→World→Prop) (X:World→Prop) (w:World) (hJ:zU J) (hInv:∀ i S W,J i S W→Pts lo W p r∧Blk W b [p] 237) (lU:∀ i v j S W,aa2 r i v j→J i S W→Yld Tryz.prog l #[v] W fun u W'=>(u = .bool true∧J j S W'∧∀ k,S k→W'.heap[k]?=W.heap[k]?)∨(u = .bool false∧X W')) (h0:J 0 (fun _=>False) w) :
  Calls Tryz.prog 263 #[.func (.yield l) #[] #[],.pointer (some ⟨b,0,none⟩)] w (Ret fun _ w'=>(∃ S:Nat→Prop,(∀ k,False→S k)∧J r.length S w')∨X w'):=by
 have hI0:=hInv _ _ _ h0
 have hle:=Sl.le hI0.1
 refine T.enter (vs:=[.func (.yield l) #[] #[],.pointer (some ⟨b,0,none⟩)]) func263 rfl ntmps263 rfl ?_
 refine T.q (L.o (O.load isAgg237 rfl (hI0.2.cell rfl) (L.o (O.len runUnderlying237 rfl (Sl.val hI0.1) (L.m rfl (L.nil (T.block (?_))))))))
 refine T.loop (σ:=Nat) (fun i=>[(0,.func (.yield l) #[] #[]),(1,.pointer (some ⟨b,0,none⟩)),(5,p),(6,.int .i64 r.length),(7,.int .i64 i)]) (fun i w'=>i≤r.length∧∃ S:Nat→Prop,J i S w') (fun i=>r.length-i) (0) ⟨rfl,rfl,rfl,rfl,rfl,trivial⟩ ⟨Nat.zero_le _,fun _=>False,h0⟩ ?_
 rintro i w1 ⟨hi,S,hj⟩
 have hI1:=hInv _ _ _ hj
 refine T.q (L.o (O.bF rfl rfl (fun hlt=>?_) (fun hlt=>?_)))
 ·refine L.nil (?_)
  have hlt':i<r.length:=by omega
  refine T.seq (T.ct (T.skip (T.seq (T.block (T.q (L.m rfl (L.o (O.indexAddr runUnderlying237 sizeOf124 rfl rfl hI1.1 (by omega) (by omega) (L.o (O.ak isAgg124 sizeOf124 rfl rfl (hI1.1.row hlt') (L.o (O.alloc zeroValue124 (fun b2 w2 hb2 hz2 he2 hB2=>?_)))))))))))))
  refine L.a rfl (L.o (O.aC sizeOf124 rfl rfl rfl hB2 (Nat.le_refl _) (gY _) (fun w3 hu3 hB3=>?_)))
  have hX3:Blk w3 b2 (pC (rA r i)) 124:=hB3
  have dn:Ext w1 w3:=he2.upd hu3 (.inr (by omega))
  have hj3:=hJ.1 _ _ S _ _ hj dn (fun k hk=>.inl hk)
  have hI3:=hInv _ _ _ hj3
  have hP3:=hI3.1
  have hm:(i+1) % r.length<r.length:=Nat.mod_lt _ (by omega)
  have hmi:((i:Int)+1) % (r.length:Int)=(((i+1) % r.length:Nat):Int):=by rw [show (i:Int)+1=((i+1:Nat):Int) by omega];rfl
  refine L.nil (T.seq (?_))
  refine T.fJ mixed 12 [0,3,4,1] rfl [.is _,.is _,.is _,.is _,.is _,.is _,.is _,.is _,.is (.int .i64 (((i+1) % r.length:Nat):Int)),.is _,.is _,.is _] [[],[],[],[],[],[4],[],[6],[5,7],[3,8],[9],[1,2,10]] [[],[],[],[],[],[4],[],[6],[4,5,6,7],[3,4,5,6,7,8],[3,4,5,6,7,8,9],[1,2,3,4,5,6,7,8,9,10],[0,1,2,3,4,5,6,7,8,9,10,11],[0,1,2,3,4,5,6,7,8,9,10,11,12]] (by kernel_rfl) (by kernel_rfl) rfl (by kernel_rfl) trivial ⟨fun wx hx=>Ob.o (O.move rfl kR),
    fun wx hx=>Ob.o (O.move rfl kR),
    fun wx hx=>Ob.o (O.ak isAgg124 sizeOf124 rfl rfl ((Blk.ext (cs:=pC (rA r i)) hX3 hx).row) kR),
    fun wx hx=>Ob.o (O.load isAgg237 rfl ((Blk.ext (cs:=[p]) hI3.2 hx).cell rfl) kR),
    fun wx hx=>Ob.o (O.move rfl kR),
    fun wx hx=>Ob.o (O.aI rfl rfl (by omega) kR),
    fun wx hx=>Ob.o (O.load isAgg237 rfl ((Blk.ext (cs:=[p]) hI3.2 hx).cell rfl) kR),
    fun wx hx=>Ob.o (O.len runUnderlying237 rfl (Sl.val (hP3.ext hx)) kR),
    fun wx hx=>Ob.o (O.rem rfl rfl (by omega) (by omega) ⟨Keep.refl _ _,by rw [hmi];rfl⟩),
    fun wx hx=>Ob.o (O.indexAddr runUnderlying237 sizeOf124 rfl rfl (hP3.ext hx) (by omega) (by omega) kR),
    fun wx hx=>Ob.o (O.ak isAgg124 sizeOf124 rfl rfl ((hP3.ext hx).row hm) kR),
    fun wx hx=>Ob.o (O.build (v:=eV i (rA r i) (rB r i)) (parts:=[(0,.tmp 13),(1,.tmp 14),(2,.tmp 22)]) (vs:=[(0,_),(1,_),(2,_)]) rfl (fun w=>by kernel_rfl) kR),
    trivial⟩ (fun w4 he4=>?_)
  have hj4:=hJ.1 _ _ S _ _ hj3 he4 (fun k hk=>.inl hk)
  refine L.o (O.yield (xs:=[.tmp 23]) rfl rfl rfl (lU _ (eV i (rA r i) (rB r i)) _ S _ ⟨hlt',rfl,rfl⟩ hj4) (fun v5 w5 hq=>?_))
  obtain hq:=hq
  rcases hq with ⟨rfl,hj5,hk5⟩|⟨rfl,hX⟩
  ·refine L.o (O.not rfl (L.nil (T.cf (T.skip (T.blk (T.region (L.o (O.aI rfl rfl (by omega) (L.m rfl (L.nil (T.again (i+1) (by omega) ⟨rfl,rfl,rfl,rfl,rfl,trivial⟩ ⟨hlt',S,hj5⟩)))))))))))
  refine L.o (O.not rfl (L.nil (T.ct (T.ac4 results263 (.inr hX)))))
 refine L.nil (?_)
 obtain rfl:i=r.length:=by omega
 refine T.seq (T.cf (T.exit rfl (T.Po results263 (.inl ⟨S,fun _ h=>h.elim,hj⟩))))
theorem qJ (b lo:Nat) (p:Value) (r:List Pt):X6 Tryz.prog 263 #[.pointer (some ⟨b,0,none⟩)] (aa2 r) 0 r.length (fun W=>Pts lo W p r∧Blk W b [p] 237) (fun _=>False) (fun _=>True) :=
 fun l J X W hJ hInv lU h0 _=>FD l b lo p r J X W hJ hInv lU h0
open Go Go.E
def rP (r:List Pt) (i:Nat):Pt:=r.getD ((i+r.length-1) % r.length) (0,0)
def fwd (a b c:Pt):Int:=(b.1-a.1)*(c.1-b.1)+(b.2-a.2)*(c.2-b.2)
def jB (r:List Pt) (i:Nat):Prop:=rA r i=rB r i
def dR (r:List Pt) (i:Nat):Prop:=aB (rP r i) (rA r i) (rB r i)=0∧fwd (rP r i) (rA r i) (rB r i)<0
def mO (r:List Pt) (i j:Nat):Prop:=j+1<i∧¬ (j=0∧i+1=r.length)∧iY (rA r i) (rB r i) (rA r j) (rB r j)≠0
instance (r:List Pt) (i:Nat):Decidable (jB r i):=inferInstanceAs (Decidable (_=_))
instance (r:List Pt) (i:Nat):Decidable (dR r i):=inferInstanceAs (Decidable (_∧_))
instance (r:List Pt) (i j:Nat):Decidable (mO r i j):=inferInstanceAs (Decidable (_∧_∧_))
def iJ (r:List Pt):Int :=
 if r.length<3∨40<r.length then 1 else if ∃ i,i<r.length∧jB r i then 3 else if ∃ i,i<r.length∧dR r i then 4
 else if ∃ i,i<r.length∧∃ j,j<r.length∧mO r i j then 5 else 0
def NfL (r:List Pt):Prop:=∀ i,i<r.length→og (r.getD i (0,0))=false
def Ux (w:World) (b:Nat) (v:Value):Nat→World→Prop
 | 0,W=>Ext w W
 | _+1,W=>∃ W1,Ext w W1∧Upd b W1 W∧Blk W b [v] 3
theorem Ux.blk {w W:World} {b b' c:Nat} {v:Value} {cs:List Value} {t:TypeId} (h:Ux w b v c W) (hB:Blk w b' cs t) (hne:b'≠b):Blk W b' cs t:=by
 cases c with
 | zero=>exact Blk.ext hB h
 | succ c=>obtain ⟨W1,h1,h2,_⟩:=h;exact Blk.upd (Blk.ext hB h1) h2 hne
structure gV (b2 b3:Nat) (t2 t3:TypeId) (v2 v3:Value) (w W:World):Prop where
 os:W.os=w.os
 tape:W.tape=w.tape
 output:W.output=w.output
 size:w.heap.size≤W.heap.size
 block:∀ k,k<w.heap.size→k≠b2→k≠b3→W.heap[k]?=w.heap[k]?
 c2:Blk W b2 [v2] t2
 c3:Blk W b3 [v3] t3
theorem gV.of {b2 b3:Nat} {t2 t3:TypeId} {v2 v3:Value} {w W1 W2 W3:World} (h:Ext w W1) (h2:Upd b2 W1 W2) (hB2:Blk W2 b2 [v2] t2) (h3:Upd b3 W2 W3) (hB3:Blk W3 b3 [v3] t3) (hne:b2≠b3):gV b2 b3 t2 t3 v2 v3 w W3 :=
 ⟨h3.os.trans (h2.os.trans h.os),h3.tape.trans (h2.tape.trans h.tape),h3.output.trans (h2.output.trans h.output),by rw [h3.size,h2.size];exact h.size,fun k hk n2 n3=>by rw [h3.block k n3,h2.block k n2,h.block k (Nat.zero_le _) hk],Blk.upd hB2 h3 hne,hB3⟩
theorem gV.upd {b2 b3 b:Nat} {t2 t3:TypeId} {v2 v3:Value} {w W W':World} (h:gV b2 b3 t2 t3 v2 v3 w W) (hu:Upd b W W') (hb:w.heap.size≤b) (h2:b2<w.heap.size) (h3:b3<w.heap.size):gV b2 b3 t2 t3 v2 v3 w W' :=
 ⟨hu.os.trans h.os,hu.tape.trans h.tape,hu.output.trans h.output,by rw [hu.size];exact h.size,fun k hk n2 n3=>by rw [hu.block k (by omega),h.block k hk n2 n3],Blk.upd h.c2 hu (by omega),Blk.upd h.c3 hu (by omega)⟩
theorem gV.ext {b2 b3:Nat} {t2 t3:TypeId} {v2 v3:Value} {w0 w W:World} (h:gV b2 b3 t2 t3 v2 v3 w W) (k:Ext w0 w) (h2:w0.heap.size≤b2) (h3:w0.heap.size≤b3):Ext w0 W :=
 ⟨h.os.trans k.os,h.tape.trans k.tape,h.output.trans k.output,Nat.le_trans k.size h.size,fun i _ hi=>(h.block i (Nat.lt_of_lt_of_le hi k.size) (by omega) (by omega)).trans (k.block i (Nat.zero_le _) hi)⟩
theorem gV.from {b2 b3:Nat} {t2 t3:TypeId} {v2 v3:Value} {w0 w W:World} (h:gV b2 b3 t2 t3 v2 v3 w W) (k:Ext w0 w):gV b2 b3 t2 t3 v2 v3 w0 W :=
 ⟨h.os.trans k.os,h.tape.trans k.tape,h.output.trans k.output,Nat.le_trans k.size h.size,fun i hi n2 n3=>(h.block i (Nat.lt_of_lt_of_le hi k.size) n2 n3).trans (k.block i (Nat.zero_le _) hi),h.c2,h.c3⟩
theorem Opn.U9 {ds:List Nat} {W:World} {b:Nat} {cs:List Value} {t:TypeId} (ho:Opn ds W) (hB:Blk W b cs t):b∉ds:=fun hm=>by
 have h1:=ho.2 b hm
 have h2:W.heap[b]?=_:=hB
 rw [h1] at h2;cases h2
theorem Opn.done {ds:List Nat} {b2 b3:Nat} {t2 t3:TypeId} {v2 v3 u2 u3:Value} {w W:World} (h:Opn ds w) (hd:gV b2 b3 t2 t3 v2 v3 w W) (h2:Blk w b2 [u2] t2) (h3:Blk w b3 [u3] t3):Opn ds W :=
 ⟨h.1,fun r hr=>(hd.block r (h.lt r hr) (fun e=>Opn.U9 h h2 (e▸hr)) (fun e=>Opn.U9 h h3 (e▸hr))).trans (h.2 r hr)⟩
theorem gV.cells {ds:List Nat} {b2 b3:Nat} {t2 t3:TypeId} {v2 v3:Value} {w W W':World} (hd:gV b2 b3 t2 t3 v2 v3 w W) (ho:Opn ds W) (hs:Shut ds W W'):W'.cell? ⟨b2,0,none⟩=some v2∧W'.cell? ⟨b3,0,none⟩=some v3 :=
 ⟨Blk.cell (b:=b2) ((hs.block b2 (Opn.U9 ho hd.c2)).trans hd.c2) rfl,Blk.cell (b:=b3) ((hs.block b3 (Opn.U9 ho hd.c3)).trans hd.c3) rfl⟩
def LI {σ:Type} (w:World) (A:σ→Prop) (i:σ) (S:Nat→Prop) (W:World):Prop:=Ext w W∧(∀ k,S k→w.heap.size≤k∧k<W.heap.size)∧A i
theorem LI.FH {σ:Type} {w:World} {A:σ→Prop} : zU (LI w A):=by
 refine ⟨?_,?_⟩
 ·rintro i S S' W W' ⟨h1,h2,h3⟩ he hS
  refine ⟨h1.trans he,fun k hk=>?_,h3⟩
  rcases hS _ hk with h|h
  ·exact ⟨(h2 k h).1,Nat.lt_of_lt_of_le (h2 k h).2 he.size⟩
  exact ⟨Nat.le_trans h1.size h.1,h.2⟩
 rintro i S W W' b ⟨h1,h2,h3⟩ hb hu
 exact ⟨h1.upd hu (.inr (h2 b hb).1),fun k hk=>by rw [hu.size];exact h2 k hk,h3⟩
theorem LI.start {σ:Type} {w:World} {A:σ→Prop} {i:σ} (h:A i):LI w A i (fun _=>False) w:=⟨Keep.refl _ _,fun k hk=>hk.elim,h⟩
def LX (B:Prop) (b2 b3:Nat) (t2 t3:TypeId) (kd:Int) (w:World) (S:Nat→Prop) (W:World):Prop:=B∧(∀ k,S k→w.heap.size≤k∧k<W.heap.size)∧∃ a:Int,gV b2 b3 t2 t3 (.int .i64 kd) (.int .i64 a) w W
theorem LX.upd {B:Prop} {b2 b3 b:Nat} {t2 t3:TypeId} {kd:Int} {w W W':World} {S:Nat→Prop} (h:LX B b2 b3 t2 t3 kd w S W) (hb:S b) (hu:Upd b W W') (h2:b2<w.heap.size) (h3:b3<w.heap.size):LX B b2 b3 t2 t3 kd w S W':=by
 obtain ⟨h1,hS,a,hd⟩:=h
 exact ⟨h1,fun k hk=>by rw [hu.size];exact hS k hk,a,hd.upd hu (hS b hb).1 h2 h3⟩
theorem mP {w:World} {a b:Nat} {cs cs':List Value} {t t':TypeId} (h:Blk w a cs t) (h':Blk w b cs' t') (hne:t≠t'):a≠b:=fun e=>by
 subst e
 have h1:w.heap[a]?=_:=h
 have h2:w.heap[a]?=_:=h'
 rw [h1] at h2
 simp at h2
 exact hne h2.2
theorem wS {x:Int} (h:sgn x=0):x=0:=by
 unfold sgn at h;split at h <;> (try split at h) <;> omega
def aes (k:Int) (w:World) (v:Value) (w':World):Prop:=∃ a:Int,v = .tuple #[.int .i64 k,.int .i64 a]∧Ext w w'
theorem FI (lo:Nat) (p:Value) (r:List Pt) (w:World) (hp:Pts lo w p r) (hf:NfL r) :
  Calls Tryz.prog 240 #[p,.func (.func 241) #[] #[]] w (Ret fun v w'=>v = .int .i64 (-1)∧Ext w w'):=by
 have hle:=Sl.le hp
 refine T.enter (vs:=[p,.func (.func 241) #[] #[]]) func240 rfl ntmps240 rfl ?_
 refine T.q (L.a rfl (L.nil (T.seq (T.q (L.m rfl (L.o (O.len runUnderlying237 rfl (Sl.val hp) (L.m rfl (L.nil (T.block (?_)))))))))))
 refine T.loop (σ:=Nat) (fun i=>[(0,p),(1,.func (.func 241) #[] #[]),(7,.int .i64 r.length),(8,.int .i64 i)]) (fun i w'=>i≤r.length∧Ext w w') (fun i=>r.length-i) (0) ⟨rfl,rfl,rfl,rfl,trivial⟩ ⟨Nat.zero_le _,Keep.refl _ _⟩ ?_
 rintro i w1 ⟨hi,he1⟩
 refine T.q (L.o (O.bF rfl rfl (fun hlt=>?_) (fun hlt=>?_)))
 ·refine L.nil (?_)
  have hlt':i<r.length:=by omega
  have hfi:=hf i hlt'
  refine T.seq (T.ct (T.skip (T.seq (T.block (T.q (L.m rfl (L.a rfl (L.nil (T.q (L.m rfl (L.m rfl (L.m rfl (L.o (O.indexAddr runUnderlying237 sizeOf124 rfl rfl (hp.ext he1) (by omega) (by omega) (L.o (O.ak isAgg124 sizeOf124 rfl rfl ((hp.ext he1).row hlt') (L.o (O.call (xs:=[.tmp 15]) call241 rfl rfl (kK (r.getD i (0,0)) w1 (Nr.AX hfi)) (fun v2 w2 hq=>?_)))))))))))))))))))
  obtain ⟨hv2,he2⟩:=hq
  rw [hfi] at hv2
  subst hv2
  refine L.nil (T.cf (T.skip (T.blk (T.region (L.o (O.aI rfl rfl (by omega) (L.m rfl (L.nil (T.again (i+1) (by omega) ⟨rfl,rfl,rfl,rfl,trivial⟩ ⟨hlt',he1.trans he2⟩)))))))))
 refine L.nil (T.seq (T.cf (T.exit rfl (T.q (L.a rfl (L.nil (T.aU results240 rfl ⟨rfl,he1⟩)))))))
theorem Aa (lo:Nat) (p:Value) (r:List Pt) (w:World) (hp:Pts lo w p r) (hf:NfL r) :
  Calls Tryz.prog 208 #[p] w (Ret fun v w'=>aes (iJ r) w v w'):=by
 have hle:=Sl.le hp
 have hn:∀ i,i<r.length→Nr (r.getD i (0,0)):=fun i hi=>Nr.AX (hf i hi)
 refine T.Pz (vs:=[p]) func208 rfl ntmps208 rfl ?_
 refine T.q (L.o (O.box rfl (fun b1 w1 hb1 hz1 he1 hB1=>?_)))
 refine L.o (O.alloc zeroValue3 (fun b2 w2 hb2 hz2 he2 hB2=>?_))
 refine L.o (O.alloc zeroValue3 (fun b3 w3 hb3 hz3 he3 hB3=>?_))
 have Ik:Blk w1 b1 [p] 237:=by have:=hB1;simp only [Sl.cells hp] at this;exact this
 have mQ:=(he1.trans he2).trans he3
 refine L.nil (T.q (L.o (O.load isAgg237 rfl ((Blk.ext (cs:=[p]) Ik (he2.trans he3)).cell rfl) (L.o (O.len runUnderlying237 rfl (Sl.val (hp.ext mQ)) (L.o (O.alloc zeroValue3 (fun b4 w4 hb4 hz4 he4 hB4=>?_))))))))
 refine L.o (O.store1 sizeOf3 rfl rfl rfl hB4 (by simp [Value.cells]) (fun w5 hu5 hB5=>?_))
 have QD:Ext w w5:=(mQ.trans he4).upd hu5 (.inr (by omega))
 have Dl:Blk w5 b1 [p] 237:=Blk.upd (cs:=[p]) (Blk.ext (cs:=[p]) Ik ((he2.trans he3).trans he4)) hu5 (by omega)
 have Dj:Blk w5 b2 [.int .i64 0] 3:=Blk.upd (cs:=[.int .i64 0]) (Blk.ext (cs:=[.int .i64 0]) hB2 (he3.trans he4)) hu5 (by omega)
 have aaT:Blk w5 b3 [.int .i64 0] 3:=Blk.upd (cs:=[.int .i64 0]) (Blk.ext (cs:=[.int .i64 0]) hB3 he4) hu5 (by omega)
 have Yp:Blk w5 b4 [.int .i64 r.length] 3:=hB5
 refine L.nil (T.seq (T.q (L.o (O.load isAgg3 rfl (Yp.cell rfl) (L.o (O.bF rfl rfl (fun h3=>?_) (fun h3=>?_)))))))
 ·refine L.m rfl (L.p (L.p (L.o (O.ah rfl rfl (L.nil (T.ct (T.q (L.o (O.store1 sizeOf3 rfl rfl rfl Dj (by simp [Value.cells]) (fun w6 hu6 hB6=>?_))))))))))
  refine L.o (O.store1 sizeOf3 rfl rfl rfl (Blk.upd (cs:=[.int .i64 0]) aaT hu6 (by omega)) (by simp [Value.cells]) (fun w7 hu7 hB7=>?_))
  have hd:=gV.of (Keep.refl 0 w5) hu6 hB6 hu7 hB7 (by omega)
  refine L.nil (T.xu results208 isAgg3 isAgg3 rfl rfl (Opn.nil _) (fun w' hs=>hd.cells (Opn.nil _) hs) (fun w' hs=>⟨0,by rw [iJ,if_pos (.inl (by omega))],(hd.ext QD (by omega) (by omega)).shut hs (fun r hr=>by cases hr)⟩))
 refine L.m rfl (L.o (O.load isAgg3 rfl (Yp.cell rfl) (L.o (O.jS rfl rfl (fun h40=>?_) (fun h40=>?_)))))
 ·refine L.o (O.aj rfl rfl (L.nil (T.ct (T.q (L.o (O.store1 sizeOf3 rfl rfl rfl Dj (by simp [Value.cells]) (fun w6 hu6 hB6=>?_)))))))
  refine L.o (O.store1 sizeOf3 rfl rfl rfl (Blk.upd (cs:=[.int .i64 0]) aaT hu6 (by omega)) (by simp [Value.cells]) (fun w7 hu7 hB7=>?_))
  have hd:=gV.of (Keep.refl 0 w5) hu6 hB6 hu7 hB7 (by omega)
  refine L.nil (T.xu results208 isAgg3 isAgg3 rfl rfl (Opn.nil _) (fun w' hs=>hd.cells (Opn.nil _) hs) (fun w' hs=>⟨0,by rw [iJ,if_pos (.inr (by omega))],(hd.ext QD (by omega) (by omega)).shut hs (fun r hr=>by cases hr)⟩))
 have hcnt:¬ (r.length<3∨40<r.length):=by omega
 refine L.o (O.aj rfl rfl (L.nil (T.cf (T.skip (T.seq (T.q (L.o (O.load isAgg237 rfl (Dl.cell rfl) (L.o (O.call (xs:=[.tmp 19,.func 241]) call240 rfl rfl (FI lo p r w5 (hp.ext QD) hf) (fun v6 w6 hq=>?_)))))))))))
 obtain ⟨rfl,he6⟩:=hq
 refine L.a rfl (L.nil (T.q (L.m rfl (L.o (O.Pq rfl rfl (by decide) (?_))))))
 have Io:=Blk.ext (cs:=[p]) Dl he6
 have aiY:=Blk.ext (cs:=[.int .i64 0]) Dj he6
 have aiZ:=Blk.ext (cs:=[.int .i64 0]) aaT he6
 have ai0:=Blk.ext (cs:=[.int .i64 r.length]) Yp he6
 have Ih:=QD.trans he6
 refine L.nil (T.cf (T.skip (T.seq (T.q (L.o (O.load isAgg237 rfl (Io.cell rfl) (L.o (O.call (xs:=[.tmp 24]) call242 rfl rfl (lI p r.length (pcs r) lo w6 (hp.ext Ih)) (fun v7 w7 hq=>?_)))))))))
 obtain ⟨rfl,he7,adk⟩:=hq
 have FK:=Blk.ext (cs:=[p]) Io he7
 have adl:=Blk.ext (cs:=[.int .i64 0]) aiY he7
 have aeu:=Blk.ext (cs:=[.int .i64 0]) aiZ he7
 have aev:=Blk.ext (cs:=[.int .i64 r.length]) ai0 he7
 have O8:=Ih.trans he7
 have hp7:=hp.ext O8
 have hb2:=adl.lt
 have hb3:=aeu.lt
 refine L.nil (T.block (?_))
 refine T.jm (e1:=fun v x=>[(1,.pointer (some ⟨b1,0,none⟩)),(2,.pointer (some ⟨b2,0,none⟩)),(3,.pointer (some ⟨b3,0,none⟩)),(6,.pointer (some ⟨x,0,none⟩))]) (LI w7 (fun i=>∀ k,k<i→¬ jB r k)) (fun c S w'=>c = .ret∧LX (∃ i,i<r.length∧jB r i) b2 b3 3 3 3 w7 S w') (fun v x w'=>∃ i:Nat,v=eV i (rA r i) (rB r i)∧Blk w' x (eC i (rA r i) (rB r i)) 315) rfl call263 rfl (qJ w6.heap.size lo p r) ?_ ?_ ?_ ?_ ?_ ?_ ?_ ?_ ?_ ?_ ?_
 ·exact LI.FH
 ·exact fun c S W W' b h hb hu=>⟨h.1,h.2.upd hb hu hb2 hb3⟩
 ·exact fun i S W h=>⟨hp7.ext h.1,Blk.ext (cs:=[p]) adk h.1⟩
 ·exact LI.start (fun k hk=>absurd hk (Nat.not_lt_zero _))
 ·exact fun k hk=>hk.elim
 ·exact fun W hW=>trivial
 ·rintro v x W W' b' ⟨i,h1,h2⟩ hne hu
  exact ⟨i,h1,h2.upd hu (Ne.symm hne)⟩
 ·intro l Q i j v k W hn hK
  obtain ⟨hi,rfl,_⟩:=hn
  refine T.region (L.o (O.alloc zeroValue315 (fun b8 w8 hb8 hz8 he8 hB8=>?_)))
  refine L.o (O.aC sizeOf315 rfl rfl rfl hB8 (Nat.le_refl _) (by intro u hu;simp at hu;rcases hu with (rfl|rfl|rfl|rfl|rfl) <;> rfl) (fun w9 hu9 hB9=>?_))
  refine L.nil (T.sub ?_ (hK b8 _ (by omega) (he8.upd hu9 (.inr (by omega))) ⟨_,rfl,hB9⟩))
  exact ⟨rfl,rfl,rfl,rfl,trivial⟩
 ·rintro l i v x j S w8 ⟨hi,rfl,rfl⟩ ⟨he8,hS8,hA8⟩ ⟨i',hv,hBx⟩
  obtain rfl:i'=i:=by have h:=congrArg Value.cells hv;simp [eV,Value.cells] at h;omega
  refine T.block (T.q (L.o (O.fieldAddr runUnderlying315 rfl sizeOf124 rfl (L.o (O.ak isAgg124 sizeOf124 rfl rfl (Il hBx) (L.o (O.fieldAddr runUnderlying315 rfl sizeOf124 rfl (L.o (O.ak isAgg124 sizeOf124 rfl rfl (KU hBx) (?_))))))))))
  have hx2:x≠b2:=mP hBx (Blk.ext adl he8) (by decide)
  refine L.o (O.Yw rfl rfl rfl (fun hst=>?_) (fun hst=>?_))
  ·refine L.nil (T.ct (T.seq (?_)))
   refine T.any mixed 3 1 [6,2] rfl [.is _,.is _,.is undef] [[],[0],[]] [none,none,some 0] [[],[0],[],[0,1,2]] (Ux w8 b2 (.int .i64 3)) (fun _ _=>True) (by kernel_rfl) (by kernel_rfl) (by kernel_rfl) rfl trivial (Keep.drew _ _) ⟨fun c wx hx=>ObK.op rfl (O.fieldAddr runUnderlying315 rfl sizeOf3 rfl ⟨⟨trivial,hx⟩,rfl⟩),
     fun c wx hx=>ObK.op rfl (O.load isAgg3 rfl ((hx.blk hBx hx2).cell rfl) ⟨⟨trivial,hx⟩,rfl⟩),
     fun wx hx=>ObK.op rfl (O.store1 sizeOf3 rfl rfl rfl (Blk.ext (cs:=[.int .i64 0]) (Blk.ext adl he8) hx) (by simp [Value.cells]) (fun w11 jg oV=>⟨⟨trivial,_,hx,jg,oV⟩,rfl⟩)),
     trivial⟩ (fun w10 aew=>?_)
   obtain ⟨W1,hE,hU,hC⟩:=aew
   refine L.o (O.store1 sizeOf3 rfl rfl rfl (Blk.upd (cs:=[.int .i64 0]) (Blk.ext (Blk.ext aeu he8) hE) hU (by omega)) (by simp [Value.cells]) (fun w11 jg oV=>?_))
   have hz8:=hE.size
   have hzU:=hU.size
   have Xw:=jg.size
   refine L.nil (T.je ⟨⟨rfl,⟨i',hi,hst⟩,fun k hk=>⟨(hS8 k hk).1,by have:=(hS8 k hk).2;omega⟩,_,(gV.of hE hU hC jg oV (by omega)).from he8⟩,fun k hk=>?_⟩)
   have h1:=hS8 k hk
   rw [jg.block k (by omega),hU.block k (by omega),hE.block k (Nat.zero_le _) h1.2]
  refine L.nil (T.cf (T.skip (T.blk (T.roundEnd ⟨⟨he8,hS8,fun k hk=>?_⟩,fun k hk=>rfl⟩))))
  ·by_cases e:k=i'
   ·subst e;exact hst
   exact hA8 k (by omega)
 ·rintro S D w8 hD hS0 hSD ⟨he8,hS8,hA8⟩ hD8
  have ho8:Opn [D] w8:=(Opn.nil _).cons hD8 (by simp)
  have hst:¬ ∃ i,i<r.length∧jB r i:=fun ⟨i,h1,h2⟩=>hA8 i h1 h2
  refine T.blk (T.seq (T.q (L.o (O.load isAgg237 rfl ((Blk.ext (cs:=[p]) FK he8).cell rfl) (L.o (O.call (xs:=[.tmp 34]) call242 rfl rfl (lI p r.length (pcs r) lo w8 (hp7.ext he8)) (fun v9 w9 hq=>?_)))))))
  obtain ⟨rfl,he9,ai1⟩:=hq
  have kW:=he8.trans he9
  have Ba:=Blk.ext (cs:=[p]) FK kW
  have aa3:=Blk.ext (cs:=[.int .i64 0]) adl kW
  have aex:=Blk.ext (cs:=[.int .i64 0]) aeu kW
  have ag6:=Blk.ext (cs:=[.int .i64 r.length]) aev kW
  have Xz:=O8.trans kW
  have hp9:=hp.ext Xz
  have ho9:=ho8.ext he9
  have aaQ:=kW.size
  have amn:=O8.size
  refine L.nil (T.block (?_))
  refine T.jm (e1:=fun v x=>[(1,.pointer (some ⟨b1,0,none⟩)),(2,.pointer (some ⟨b2,0,none⟩)),(3,.pointer (some ⟨b3,0,none⟩)),(4,.pointer (some ⟨b4,0,none⟩)),(7,.pointer (some ⟨x,0,none⟩))]) (LI w9 (fun i=>∀ k,k<i→¬ dR r k)) (fun c S w'=>c = .ret∧LX (∃ i,i<r.length∧dR r i) b2 b3 3 3 4 w9 S w') (fun v x w'=>∃ i:Nat,v=eV i (rA r i) (rB r i)∧Blk w' x (eC i (rA r i) (rB r i)) 315) rfl call263 rfl (qJ w8.heap.size lo p r) ?_ ?_ ?_ ?_ ?_ ?_ ?_ ?_ ?_ ?_ ?_
  ·exact LI.FH
  ·exact fun c S W W' b h hb hu=>⟨h.1,h.2.upd hb hu (by omega) (by omega)⟩
  ·exact fun i S W h=>⟨hp9.ext h.1,Blk.ext (cs:=[p]) ai1 h.1⟩
  ·exact LI.start (fun k hk=>absurd hk (Nat.not_lt_zero _))
  ·exact fun k hk=>hk.elim
  ·exact fun W hW=>trivial
  ·rintro v x W W' b' ⟨i,h1,h2⟩ hne hu
   exact ⟨i,h1,h2.upd hu (Ne.symm hne)⟩
  ·intro l Q i j v k W hn hK
   obtain ⟨hi,rfl,_⟩:=hn
   refine T.region (L.o (O.alloc zeroValue315 (fun b8 w8 hb8 hz8 he8 hB8=>?_)))
   refine L.o (O.aC sizeOf315 rfl rfl rfl hB8 (Nat.le_refl _) (by intro u hu;simp at hu;rcases hu with (rfl|rfl|rfl|rfl|rfl) <;> rfl) (fun w9 hu9 hB9=>?_))
   refine L.nil (T.sub ?_ (hK b8 _ (by omega) (he8.upd hu9 (.inr (by omega))) ⟨_,rfl,hB9⟩))
   exact ⟨rfl,rfl,rfl,rfl,rfl,trivial⟩
  ·rintro l i v x j S w10 ⟨hi,rfl,rfl⟩ ⟨gI,QE,hA10⟩ ⟨i',hv,hBx⟩
   obtain rfl:i'=i:=by have h:=congrArg Value.cells hv;simp [eV,Value.cells] at h;omega
   have hm:(i'+r.length-1) % r.length<r.length:=Nat.mod_lt _ (by omega)
   have hmi:((i':Int)+r.length-1) % (r.length:Int)=(((i'+r.length-1) % r.length:Nat):Int):=by rw [show (i':Int)+r.length-1=((i'+r.length-1:Nat):Int) by omega];rfl
   have ai2:=Blk.ext (cs:=[p]) Ba gI
   have ag7:=Blk.ext (cs:=[.int .i64 0]) aa3 gI
   have ai3:=Blk.ext (cs:=[.int .i64 0]) aex gI
   have ag8:=Blk.ext (cs:=[.int .i64 r.length]) ag6 gI
   have hpx:=hp9.ext gI
   have nP:Nr (rP r i'):=hn _ hm
   have nA:Nr (rA r i'):=hn _ hi
   have nB:Nr (rB r i'):=hn _ (Nat.mod_lt _ (by omega))
   refine T.block (T.seq (?_))
   refine T.fJ mixed 11 [1,7,4] rfl [.is _,.is _,.is _,.is _,.is _,.is _,.is _,.is (.int .i64 (((i'+r.length-1) % r.length:Nat):Int)),.is _,.is _,.such (PtB w10.heap.size)] [[],[],[1],[],[2,3],[4],[],[5,6],[0,7],[8],[]] [[],[],[1],[],[1,2,3],[1,2,3,4],[],[1,2,3,4,5,6],[0,1,2,3,4,5,6,7],[0,1,2,3,4,5,6,7,8],[],[0,1,2,3,4,5,6,7,8,9,10]] (by kernel_rfl) (by kernel_rfl) rfl (by kernel_rfl) ⟨fun v w w' h ⟨b,c,h1,h2,h3⟩=>⟨b,c,h1,h2,Blk.ext (cs:=pC c) h3 h⟩,trivial⟩ ⟨fun wx hx=>Ob.o (O.load isAgg237 rfl ((Blk.ext (cs:=[p]) ai2 hx).cell rfl) kR),
     fun wx hx=>Ob.o (O.fieldAddr runUnderlying315 rfl sizeOf3 rfl kR),
     fun wx hx=>Ob.o (O.load isAgg3 rfl ((Blk.ext (cs:=eC i' (rA r i') (rB r i')) hBx hx).cell rfl) kR),
     fun wx hx=>Ob.o (O.load isAgg3 rfl ((Blk.ext (cs:=[.int .i64 r.length]) ag8 hx).cell rfl) kR),
     fun wx hx=>Ob.o (O.aI rfl rfl (by omega) kR),
     fun wx hx=>Ob.o (O.gq rfl rfl (by omega) kR),
     fun wx hx=>Ob.o (O.load isAgg3 rfl ((Blk.ext (cs:=[.int .i64 r.length]) ag8 hx).cell rfl) kR),
     fun wx hx=>Ob.o (O.rem rfl rfl (by omega) (by omega) ⟨Keep.refl _ _,by rw [hmi];rfl⟩),
     fun wx hx=>Ob.o (O.indexAddr runUnderlying237 sizeOf124 rfl rfl (hpx.ext hx) (by omega) (by omega) kR),
     fun wx hx=>Ob.o (O.ak isAgg124 sizeOf124 rfl rfl ((hpx.ext hx).row hm) kR),
     fun wx hx=>Ob.o (O.alloc zeroValue124 (fun b wy hb hz he hB=>⟨he,b,(0,0),rfl,by have:=hx.size;omega,hB⟩)),
     trivial⟩ (fun w11 eH v8 hv8=>?_)
   obtain ⟨b12,c12,rfl,aa4,Ji⟩:=hv8
   refine L.o (O.aC sizeOf124 rfl rfl rfl Ji (Nat.le_refl _) (gY (rP r i')) (fun w13 wR xQ=>?_))
   have aag:Blk w13 b12 (pC (rP r i')) 124:=xQ
   have XA:Ext w10 w13:=eH.upd wR (.inr aa4)
   have adn:=Blk.ext (cs:=eC i' (rA r i') (rB r i')) hBx XA
   refine L.nil (T.q (L.o (O.ak isAgg124 sizeOf124 rfl rfl aag.row (L.o (O.fieldAddr runUnderlying315 rfl sizeOf124 rfl (L.o (O.ak isAgg124 sizeOf124 rfl rfl (Il adn) (L.o (O.fieldAddr runUnderlying315 rfl sizeOf124 rfl (L.o (O.ak isAgg124 sizeOf124 rfl rfl (KU adn) (L.o (O.call (xs:=[.tmp 47,.tmp 49,.tmp 51]) call243 rfl rfl (jo (rP r i') (rA r i') (rB r i') w13 nP nA nB) (fun v14 w14 hq=>?_))))))))))))))
   obtain ⟨rfl,eX⟩:=hq
   have kL:=XA.trans eX
   have EM:=Blk.ext (cs:=eC i' (rA r i') (rB r i')) hBx kL
   have ag9:=Blk.ext (cs:=pC (rP r i')) aag eX
   unfold Nr at nP nA nB
   have hx2:x≠b2:=mP EM (Blk.ext ag7 kL) (by decide)
   refine L.o (O.jw rfl rfl (fun hturn=>?_) (fun hturn=>?_))
   ·refine L.m rfl (L.o (O.fieldAddr runUnderlying315 rfl sizeOf124 rfl (L.o (O.fieldAddr runUnderlying124 rfl sizeOf3 rfl (L.o (O.load isAgg3 rfl ((Il EM) 0 _ rfl) (L.o (O.fieldAddr runUnderlying124 rfl sizeOf3 rfl (L.o (O.load isAgg3 rfl (ag9.cell rfl) (L.o (O.gq rfl rfl (by omega) (L.o (O.fieldAddr runUnderlying315 rfl sizeOf124 rfl (L.o (O.fieldAddr runUnderlying124 rfl sizeOf3 rfl (L.o (O.load isAgg3 rfl ((KU EM) 0 _ rfl) (L.o (O.fieldAddr runUnderlying315 rfl sizeOf124 rfl (L.o (O.fieldAddr runUnderlying124 rfl sizeOf3 rfl (L.o (O.load isAgg3 rfl ((Il EM) 0 _ rfl) (L.o (O.gq rfl rfl (by omega) (?_)))))))))))))))))))))))))))
    have m1:=oh (x:=(rA r i').1-(rP r i').1) (y:=(rB r i').1-(rA r i').1) (by omega)
    refine L.o (O.l9 rfl rfl (by omega) (L.o (O.fieldAddr runUnderlying315 rfl sizeOf124 rfl (L.o (O.fieldAddr runUnderlying124 rfl sizeOf3 rfl (L.o (O.load isAgg3 rfl ((Il EM) 1 _ rfl) (L.o (O.fieldAddr runUnderlying124 rfl sizeOf3 rfl (L.o (O.load isAgg3 rfl (ag9.cell rfl) (L.o (O.gq rfl rfl (by omega) (L.o (O.fieldAddr runUnderlying315 rfl sizeOf124 rfl (L.o (O.fieldAddr runUnderlying124 rfl sizeOf3 rfl (L.o (O.load isAgg3 rfl ((KU EM) 1 _ rfl) (L.o (O.fieldAddr runUnderlying315 rfl sizeOf124 rfl (L.o (O.fieldAddr runUnderlying124 rfl sizeOf3 rfl (L.o (O.load isAgg3 rfl ((Il EM) 1 _ rfl) (L.o (O.gq rfl rfl (by omega) (?_))))))))))))))))))))))))))))
    have m2:=oh (x:=(rA r i').2-(rP r i').2) (y:=(rB r i').2-(rA r i').2) (by omega)
    refine L.o (O.l9 rfl rfl (by omega) (L.o (O.aI rfl rfl (by omega) (L.o (O.bF rfl rfl (fun hfw=>?_) (fun hfw=>?_))))))
    ·refine L.o (O.ah rfl rfl (L.nil (T.ct (T.seq (?_)))))
     refine T.any mixed 3 1 [7,2] rfl [.is _,.is _,.is undef] [[],[0],[]] [none,none,some 0] [[],[0],[],[0,1,2]] (Ux w14 b2 (.int .i64 4)) (fun _ _=>True) (by kernel_rfl) (by kernel_rfl) (by kernel_rfl) rfl trivial (Keep.drew _ _) ⟨fun c wx hx=>ObK.op rfl (O.fieldAddr runUnderlying315 rfl sizeOf3 rfl ⟨⟨trivial,hx⟩,rfl⟩),
       fun c wx hx=>ObK.op rfl (O.load isAgg3 rfl ((hx.blk EM hx2).cell rfl) ⟨⟨trivial,hx⟩,rfl⟩),
       fun wx hx=>ObK.op rfl (O.store1 sizeOf3 rfl rfl rfl (Blk.ext (cs:=[.int .i64 0]) (Blk.ext ag7 kL) hx) (by simp [Value.cells]) (fun w16 Dn Io=>⟨⟨trivial,_,hx,Dn,Io⟩,rfl⟩)),
       trivial⟩ (fun w15 ado=>?_)
     obtain ⟨W1,hE,hU,hC⟩:=ado
     refine L.o (O.store1 sizeOf3 rfl rfl rfl (Blk.upd (cs:=[.int .i64 0]) (Blk.ext (Blk.ext ai3 kL) hE) hU (by omega)) (by simp [Value.cells]) (fun w16 Dn Io=>?_))
     have aey:=kL.size
     have aah:=hE.size
     have hzU:=hU.size
     have aai:=Dn.size
     refine L.nil (T.je ⟨⟨rfl,⟨i',hi,wS hturn,hfw⟩,fun k hk=>⟨(QE k hk).1,by have:=(QE k hk).2;omega⟩,_,(gV.of hE hU hC Dn Io (by omega)).from (gI.trans kL)⟩,fun k hk=>?_⟩)
     have h1:=QE k hk
     rw [Dn.block k (by omega),hU.block k (by omega),hE.block k (Nat.zero_le _) (by omega),kL.block k (Nat.zero_le _) h1.2]
    refine L.o (O.ah rfl rfl (L.nil (T.cf (T.skip (T.blk (T.roundEnd ⟨⟨gI.trans kL,fun k hk=>⟨(QE k hk).1,Nat.lt_of_lt_of_le (QE k hk).2 kL.size⟩,fun k hk=>?_⟩,fun k hk=>kL.block k (Nat.zero_le _) (QE k hk).2⟩))))))
    ·by_cases e:k=i'
     ·subst e;exact fun h=>hfw h.2
     exact hA10 k (by omega)
   refine L.m rfl (L.p (L.p (L.p (L.p (L.p (L.p (L.p (L.p (L.p (L.p (L.p (L.p (L.p (L.p (L.p (L.p (L.p (L.p (L.p (L.p (L.p (L.p (L.p (?_))))))))))))))))))))))))
   refine L.p (L.p (L.p (L.p (L.p (L.p (L.p (L.o (O.aj rfl rfl (L.nil (T.cf (T.skip (T.blk (T.roundEnd ⟨⟨gI.trans kL,fun k hk=>⟨(QE k hk).1,Nat.lt_of_lt_of_le (QE k hk).2 kL.size⟩,fun k hk=>?_⟩,fun k hk=>kL.block k (Nat.zero_le _) (QE k hk).2⟩)))))))))))))
   ·by_cases e:k=i'
    ·subst e;exact fun h=>hturn (by rw [h.1];rfl)
    exact hA10 k (by omega)
  ·rintro S2 D2 w10 hD2 ai4 aez ⟨gI,QE,hA10⟩ aeA
   have adp:Opn [D2,D] w10:=(ho9.ext gI).cons aeA (by have:=ho9.lt D (by simp);simp;omega)
   have hsp:¬ ∃ i,i<r.length∧dR r i:=fun ⟨i,h1,h2⟩=>hA10 i h1 h2
   refine T.blk (T.seq (T.q (L.o (O.load isAgg237 rfl ((Blk.ext (cs:=[p]) Ba gI).cell rfl) (L.o (O.call (xs:=[.tmp 88]) call242 rfl rfl (lI p r.length (pcs r) lo w10 (hp9.ext gI)) (fun v11 w11 hq=>?_)))))))
   obtain ⟨rfl,eH,aeB⟩:=hq
   have lY:=gI.trans eH
   have ai5:=Blk.ext (cs:=[p]) Ba lY
   have adq:=Blk.ext (cs:=[.int .i64 0]) aa3 lY
   have adr:=Blk.ext (cs:=[.int .i64 0]) aex lY
   have ai6:=Blk.ext (cs:=[.int .i64 r.length]) ag6 lY
   have Yx:=Xz.trans lY
   have aeC:=hp.ext Yx
   have Va:=adp.ext eH
   have aeD:=lY.size
   have aha:=eH.size
   refine L.nil (T.block (?_))
   refine T.IW (e1:=fun v x=>[(1,.pointer (some ⟨b1,0,none⟩)),(2,.pointer (some ⟨b2,0,none⟩)),(3,.pointer (some ⟨b3,0,none⟩)),(4,.pointer (some ⟨b4,0,none⟩)),(9,.pointer (some ⟨x,0,none⟩))]) (LI w11 (fun i=>∀ k,k<i→∀ j,j<r.length→¬ mO r k j)) (fun c S w'=>c = .ret∧LX (∃ i,i<r.length∧∃ j,j<r.length∧mO r i j) b2 b3 3 3 5 w11 S w') (fun v x w'=>∃ i:Nat,v=eV i (rA r i) (rB r i)∧Blk w' x (eC i (rA r i) (rB r i)) 315) rfl call263 rfl (qJ w10.heap.size lo p r) ?_ ?_ ?_ ?_ ?_ ?_ ?_ ?_ ?_ ?_ ?_
   ·exact LI.FH
   ·exact fun c S W W' b h hb hu=>⟨h.1,h.2.upd hb hu (by omega) (by omega)⟩
   ·exact fun i S W h=>⟨aeC.ext h.1,Blk.ext (cs:=[p]) aeB h.1⟩
   ·exact LI.start (fun k hk=>absurd hk (Nat.not_lt_zero _))
   ·exact fun k hk=>hk.elim
   ·exact fun W hW=>trivial
   ·rintro v x W W' b' ⟨i,h1,h2⟩ hne hu
    exact ⟨i,h1,h2.upd hu (Ne.symm hne)⟩
   ·intro l Q i j v k W hn hK
    obtain ⟨hi,rfl,_⟩:=hn
    refine T.region (L.o (O.alloc zeroValue315 (fun b8 w8 hb8 hz8 he8 hB8=>?_)))
    refine L.o (O.aC sizeOf315 rfl rfl rfl hB8 (Nat.le_refl _) (by intro u hu;simp at hu;rcases hu with (rfl|rfl|rfl|rfl|rfl) <;> rfl) (fun w9 hu9 hB9=>?_))
    refine L.nil (T.sub ?_ (hK b8 _ (by omega) (he8.upd hu9 (.inr (by omega))) ⟨_,rfl,hB9⟩))
    exact ⟨rfl,rfl,rfl,rfl,rfl,trivial⟩
   ·rintro l i v bx j S w12 ⟨hi,rfl,rfl⟩ ⟨fQ,EN,ads⟩ ⟨i',hv,hBx⟩ ⟨rc,hrc⟩ hSl
    obtain rfl:i'=i:=by have h:=congrArg Value.cells hv;simp [eV,Value.cells] at h;omega
    have nA:Nr (rA r i'):=hn _ hi
    have nB:Nr (rB r i'):=hn _ (Nat.mod_lt _ (by omega))
    refine T.block (T.q (L.o (O.load isAgg237 rfl ((Blk.ext (cs:=[p]) ai5 fQ).cell rfl) (L.o (O.call (xs:=[.tmp 91]) call242 rfl rfl (lI p r.length (pcs r) lo w12 (aeC.ext fQ)) (fun v13 w13 hq=>?_))))))
    obtain ⟨rfl,dn,aeE⟩:=hq
    have iR:=fQ.trans dn
    have adt:=Blk.ext (cs:=[.int .i64 0]) adq iR
    have ahb:=Blk.ext (cs:=[.int .i64 0]) adr iR
    have ai7:=Blk.ext (cs:=[.int .i64 r.length]) ai6 iR
    have adn:=Blk.ext (cs:=eC i' (rA r i') (rB r i')) hBx dn
    have ai8:=aeC.ext iR
    have ahc:=dn.size
    have ahd:=iR.size
    refine L.nil (T.block (?_))
    refine T.MX (e1:=fun v x=>[(2,.pointer (some ⟨b2,0,none⟩)),(3,.pointer (some ⟨b3,0,none⟩)),(4,.pointer (some ⟨b4,0,none⟩)),(9,.pointer (some ⟨bx,0,none⟩)),(10,.pointer (some ⟨x,0,none⟩))]) (LI w13 (fun j=>∀ k,k<j→¬ mO r i' k)) (fun c S w'=>(c = .exit 6∧LI w13 (fun _:Nat=>∀ k,k<r.length→¬ mO r i' k) 0 S w')∨c = .ret∧LX (∃ j,j<r.length∧mO r i' j) b2 b3 3 3 5 w13 S w') (fun v x w'=>∃ i:Nat,v=eV i (rA r i) (rB r i)∧Blk w' x (eC i (rA r i) (rB r i)) 315) rfl (dn.blk (Nat.zero_le _) hrc) rfl call263 rfl (qJ w12.heap.size lo p r) ?_ ?_ ?_ ?_ ?_ ?_ ?_ ?_ ?_ ?_ ?_
    ·exact LI.FH
    ·exact fun c S W W' b h hb hu=>h.imp (fun h=>⟨h.1,LI.FH.2 0 S W W' b h.2 hb hu⟩) (fun h=>⟨h.1,h.2.upd hb hu (by omega) (by omega)⟩)
    ·exact fun i S W h=>⟨ai8.ext h.1,Blk.ext (cs:=[p]) aeE h.1⟩
    ·exact LI.start (fun k hk=>absurd hk (Nat.not_lt_zero _))
    ·exact fun k hk=>hk.elim
    ·exact fun W hW=>trivial
    ·rintro v x W W' b' ⟨i,h1,h2⟩ hne hu
     exact ⟨i,h1,h2.upd hu (Ne.symm hne)⟩
    ·intro l Q i j v k W hn hK
     obtain ⟨hi,rfl,_⟩:=hn
     refine T.region (L.o (O.alloc zeroValue315 (fun b8 w8 hb8 hz8 he8 hB8=>?_)))
     refine L.o (O.aC sizeOf315 rfl rfl rfl hB8 (Nat.le_refl _) (by intro u hu;simp at hu;rcases hu with (rfl|rfl|rfl|rfl|rfl) <;> rfl) (fun w9 hu9 hB9=>?_))
     refine L.nil (T.sub ?_ (hK b8 _ (by omega) (he8.upd hu9 (.inr (by omega))) ⟨_,rfl,hB9⟩))
     exact ⟨rfl,rfl,rfl,rfl,rfl,trivial⟩
    ·rintro l2 j0 v2 y j2 S2 w14 ⟨hj,rfl,rfl⟩ ⟨eX,FM,XB⟩ ⟨j',hv2,adu⟩ _ _
     obtain rfl:j'=j0:=by have h:=congrArg Value.cells hv2;simp [eV,Value.cells] at h;omega
     have nA2:Nr (rA r j'):=hn _ hj
     have nB2:Nr (rB r j'):=hn _ (Nat.mod_lt _ (by omega))
     have EM:=Blk.ext (cs:=eC i' (rA r i') (rB r i')) adn eX
     have ai9:=Blk.ext (cs:=[.int .i64 r.length]) ai7 eX
     have XC:=eX
     refine T.block (T.seq (T.q (L.o (O.fieldAddr runUnderlying315 rfl sizeOf3 rfl (L.o (O.load isAgg3 rfl (adu.cell rfl) (L.o (O.fieldAddr runUnderlying315 rfl sizeOf3 rfl (L.o (O.load isAgg3 rfl (EM.cell rfl) (L.o (O.gq rfl rfl (by omega) (L.o (O.zT rfl rfl (fun hge=>?_) (fun hge=>?_)))))))))))))))
     ·refine L.nil (T.ct (T.Qb rfl ⟨.inl ⟨rfl,eX,FM,fun k hk h=>?_⟩,fun k hk=>rfl⟩))
      by_cases e:k<j'
      ·exact XB k e h
      have:=h.1;omega
     refine L.nil (T.cf (T.skip (T.seq (T.q (L.o (O.fieldAddr runUnderlying315 rfl sizeOf3 rfl (L.o (O.load isAgg3 rfl (adu.cell rfl) (L.o (O.jw rfl rfl (fun hz=>?_) (fun hz=>?_)))))))))))
     ·refine L.m rfl (L.o (O.fieldAddr runUnderlying315 rfl sizeOf3 rfl (L.o (O.load isAgg3 rfl (EM.cell rfl) (L.o (O.load isAgg3 rfl (ai9.cell rfl) (L.o (O.gq rfl rfl (by omega) (L.o (O.jw rfl rfl (fun hz2=>?_) (fun hz2=>?_)))))))))))
      ·refine L.o (O.ah rfl rfl (L.nil (T.ct (T.exit rfl (T.roundEnd ⟨⟨eX,FM,fun k hk=>?_⟩,fun k hk=>rfl⟩)))))
       ·by_cases e:k=j'
        ·subst e;exact fun h=>h.2.1 ⟨by omega,by omega⟩
        exact XB k (by omega)
      have hcr:iY (rA r i') (rB r i') (rA r j') (rB r j')≠0→mO r i' j':=fun h=>⟨by omega,fun h=>by omega,h⟩
      refine L.o (O.ah rfl rfl (L.nil (T.cf (T.skip (T.q (L.o (O.ak isAgg315 sizeOf315 rfl rfl EM.row (L.o (O.ak isAgg315 sizeOf315 rfl rfl adu.row (L.o (O.call (xs:=[.tmp 110,.tmp 111]) call244 rfl rfl (pJ i' j' (rA r i') (rB r i') (rA r j') (rB r j') w14 nA nB nA2 nB2) (fun v15 w15 hq=>?_))))))))))))
      obtain ⟨rfl,jq⟩:=hq
      have xW:=XC.trans jq
      refine L.o (O.jT rfl rfl (fun hme=>?_) (fun hme=>?_))
      ·refine L.nil (?_)
       have aa5:=Blk.ext (cs:=eC i' (rA r i') (rB r i')) EM jq
       have hx2:bx≠b2:=mP aa5 (Blk.ext adt xW) (by decide)
       refine T.ct (T.seq (?_))
       refine T.any mixed 3 1 [9,2] rfl [.is _,.is _,.is undef] [[],[0],[]] [none,none,some 0] [[],[0],[],[0,1,2]] (Ux w15 b2 (.int .i64 5)) (fun _ _=>True) (by kernel_rfl) (by kernel_rfl) (by kernel_rfl) rfl trivial (Keep.drew _ _) ⟨fun c wx hx=>ObK.op rfl (O.fieldAddr runUnderlying315 rfl sizeOf3 rfl ⟨⟨trivial,hx⟩,rfl⟩),
         fun c wx hx=>ObK.op rfl (O.load isAgg3 rfl ((hx.blk aa5 hx2).cell rfl) ⟨⟨trivial,hx⟩,rfl⟩),
         fun wx hx=>ObK.op rfl (O.store1 sizeOf3 rfl rfl rfl (Blk.ext (cs:=[.int .i64 0]) (Blk.ext adt xW) hx) (by simp [Value.cells]) (fun w17 KW FK=>⟨⟨trivial,_,hx,KW,FK⟩,rfl⟩)),
         trivial⟩ (fun w16 aeF=>?_)
       obtain ⟨W1,hE,hU,hC⟩:=aeF
       refine L.o (O.store1 sizeOf3 rfl rfl rfl (Blk.upd (cs:=[.int .i64 0]) (Blk.ext (Blk.ext ahb xW) hE) hU (by omega)) (by simp [Value.cells]) (fun w17 KW FK=>?_))
       have aah:=jq.size
       have aai:=hE.size
       have hzU:=hU.size
       have aeG:=KW.size
       have aa6:=(eX.trans jq).size
       refine L.nil (T.je ⟨.inr ⟨rfl,⟨j',hj,hcr hme⟩,fun k hk=>⟨(FM k hk).1,by have:=(FM k hk).2;omega⟩,_,(gV.of hE hU hC KW FK (by omega)).from (eX.trans jq)⟩,fun k hk=>?_⟩)
       have h1:=FM k hk
       rw [KW.block k (by omega),hU.block k (by omega),hE.block k (Nat.zero_le _) (by omega),jq.block k (Nat.zero_le _) h1.2]
      refine L.nil (T.cf (T.skip (T.blk (T.roundEnd ⟨⟨eX.trans jq,fun k hk=>⟨(FM k hk).1,Nat.lt_of_lt_of_le (FM k hk).2 jq.size⟩,fun k hk=>?_⟩,fun k hk=>jq.block k (Nat.zero_le _) (FM k hk).2⟩))))
      ·by_cases e:k=j'
       ·subst e;exact fun h=>h.2.2 hme
       exact XB k (by omega)
     have hcr:iY (rA r i') (rB r i') (rA r j') (rB r j')≠0→mO r i' j':=fun h=>⟨by omega,fun h=>by omega,h⟩
     refine L.m rfl (L.p (L.p (L.p (L.p (L.p (L.o (O.aj rfl rfl (L.nil (T.cf (T.skip (T.q (L.o (O.ak isAgg315 sizeOf315 rfl rfl EM.row (L.o (O.ak isAgg315 sizeOf315 rfl rfl adu.row (L.o (O.call (xs:=[.tmp 110,.tmp 111]) call244 rfl rfl (pJ i' j' (rA r i') (rB r i') (rA r j') (rB r j') w14 nA nB nA2 nB2) (fun v15 w15 hq=>?_))))))))))))))))))
     obtain ⟨rfl,jq⟩:=hq
     have xW:=XC.trans jq
     refine L.o (O.jT rfl rfl (fun hme=>?_) (fun hme=>?_))
     ·refine L.nil (?_)
      have aa5:=Blk.ext (cs:=eC i' (rA r i') (rB r i')) EM jq
      have hx2:bx≠b2:=mP aa5 (Blk.ext adt xW) (by decide)
      refine T.ct (T.seq (?_))
      refine T.any mixed 3 1 [9,2] rfl [.is _,.is _,.is undef] [[],[0],[]] [none,none,some 0] [[],[0],[],[0,1,2]] (Ux w15 b2 (.int .i64 5)) (fun _ _=>True) (by kernel_rfl) (by kernel_rfl) (by kernel_rfl) rfl trivial (Keep.drew _ _) ⟨fun c wx hx=>ObK.op rfl (O.fieldAddr runUnderlying315 rfl sizeOf3 rfl ⟨⟨trivial,hx⟩,rfl⟩),
        fun c wx hx=>ObK.op rfl (O.load isAgg3 rfl ((hx.blk aa5 hx2).cell rfl) ⟨⟨trivial,hx⟩,rfl⟩),
        fun wx hx=>ObK.op rfl (O.store1 sizeOf3 rfl rfl rfl (Blk.ext (cs:=[.int .i64 0]) (Blk.ext adt xW) hx) (by simp [Value.cells]) (fun w17 KW FK=>⟨⟨trivial,_,hx,KW,FK⟩,rfl⟩)),
        trivial⟩ (fun w16 aeF=>?_)
      obtain ⟨W1,hE,hU,hC⟩:=aeF
      refine L.o (O.store1 sizeOf3 rfl rfl rfl (Blk.upd (cs:=[.int .i64 0]) (Blk.ext (Blk.ext ahb xW) hE) hU (by omega)) (by simp [Value.cells]) (fun w17 KW FK=>?_))
      have aah:=jq.size
      have aai:=hE.size
      have hzU:=hU.size
      have aeG:=KW.size
      have aa6:=(eX.trans jq).size
      refine L.nil (T.je ⟨.inr ⟨rfl,⟨j',hj,hcr hme⟩,fun k hk=>⟨(FM k hk).1,by have:=(FM k hk).2;omega⟩,_,(gV.of hE hU hC KW FK (by omega)).from (eX.trans jq)⟩,fun k hk=>?_⟩)
      have h1:=FM k hk
      rw [KW.block k (by omega),hU.block k (by omega),hE.block k (Nat.zero_le _) (by omega),jq.block k (Nat.zero_le _) h1.2]
     refine L.nil (T.cf (T.skip (T.blk (T.roundEnd ⟨⟨eX.trans jq,fun k hk=>⟨(FM k hk).1,Nat.lt_of_lt_of_le (FM k hk).2 jq.size⟩,fun k hk=>?_⟩,fun k hk=>jq.block k (Nat.zero_le _) (FM k hk).2⟩))))
     ·by_cases e:k=j'
      ·subst e;exact fun h=>h.2.2 hme
      exact XB k (by omega)
    ·rintro S3 w14 ahe ⟨eX,FM,XB⟩
     refine T.blk (T.blk (T.roundEnd ⟨⟨iR.trans eX,fun k hk=>⟨(EN k hk).1,Nat.lt_of_lt_of_le (EN k hk).2 (dn.trans eX).size⟩,fun k hk j hj=>?_⟩,fun k hk=>(dn.trans eX).block k (Nat.zero_le _) (EN k hk).2⟩))
     ·by_cases e:k=i'
      ·subst e;exact XB j hj
      exact ads k (by omega) j hj
    rintro c S3 w14 (⟨rfl,eX,FM,XB⟩|⟨rfl,hB,FM,a,hd⟩)
    ·refine T.exit rfl (T.blk (T.roundEnd ⟨⟨iR.trans eX,fun k hk=>⟨(EN k hk).1,Nat.lt_of_lt_of_le (EN k hk).2 (dn.trans eX).size⟩,fun k hk j hj=>?_⟩,fun k hk=>(dn.trans eX).block k (Nat.zero_le _) (EN k hk).2⟩))
     ·by_cases e:k=i'
      ·subst e;exact XB j hj
      exact ads k (by omega) j hj
    refine T.je ⟨⟨rfl,⟨i',hi,hB⟩,fun k hk=>⟨(EN k hk).1,by have:=(EN k hk).2;have:=hd.size;omega⟩,a,hd.from iR⟩,fun k hk=>?_⟩
    have h1:=EN k hk
    rw [hd.block k (by omega) (by omega) (by omega),dn.block k (Nat.zero_le _) h1.2]
   ·rintro S3 D3 w12 hD3 ahe aeH ⟨fQ,EN,ads⟩ aeI
    have adv:Opn [D3,D2,D] w12:=(Va.ext fQ).cons aeI (by have:=Va.lt D (by simp);have:=Va.lt D2 (by simp);simp;omega)
    have hcx:¬ ∃ i,i<r.length∧∃ j,j<r.length∧mO r i j:=fun ⟨i,h1,j,h2,h3⟩=>ads i h1 j h2 h3
    refine T.blk (T.q (L.o (O.store1 sizeOf3 rfl rfl rfl (Blk.ext (cs:=[.int .i64 0]) adq fQ) (by simp [Value.cells]) (fun w13 wR xQ=>?_))))
    refine L.o (O.store1 sizeOf3 rfl rfl rfl (Blk.upd (cs:=[.int .i64 0]) (Blk.ext (cs:=[.int .i64 0]) adr fQ) wR (by omega)) (by simp [Value.cells]) (fun w14 O9 Vb=>?_))
    have ahf:=gV.of (Keep.refl 0 w12) wR xQ O9 Vb (by omega)
    have ahg:Opn [D3,D2,D] w14:=Opn.done adv ahf (Blk.ext (cs:=[.int .i64 0]) adq fQ) (Blk.ext (cs:=[.int .i64 0]) adr fQ)
    have hd:=ahf.from fQ
    refine L.nil (T.xu results208 isAgg3 isAgg3 rfl rfl ahg (fun w' hs=>hd.cells ahg hs) (fun w' hs=>⟨0,by rw [iJ,if_neg hcnt,if_neg hst,if_neg hsp,if_neg hcx],(hd.ext Yx (by omega) (by omega)).shut hs (fun r hr=>by simp at hr;omega)⟩))
   rintro c S3 D3 w12 hD3 aeH ⟨rfl,hB,EN,a,hd⟩ aeI
   have adv:Opn [D3,D2,D] w12:=Opn.cons (Opn.done Va hd adq adr) aeI (by have:=Va.lt D (by simp);have:=Va.lt D2 (by simp);simp;omega)
   refine T.xu results208 isAgg3 isAgg3 rfl rfl adv (fun w' hs=>hd.cells adv hs) (fun w' hs=>⟨a,by rw [iJ,if_neg hcnt,if_neg hst,if_neg hsp,if_pos hB],(hd.ext Yx (by omega) (by omega)).shut hs (fun r hr=>by simp at hr;omega)⟩)
  rintro c S2 D2 w10 hD2 aez ⟨rfl,hB,QE,a,hd⟩ aeA
  have adp:Opn [D2,D] w10:=Opn.cons (Opn.done ho9 hd aa3 aex) aeA (by simp;have:=ho9.lt D (by simp);omega)
  refine T.xu results208 isAgg3 isAgg3 rfl rfl adp (fun w' hs=>hd.cells adp hs) (fun w' hs=>⟨a,by rw [iJ,if_neg hcnt,if_neg hst,if_pos hB],(hd.ext Xz (by omega) (by omega)).shut hs (fun r hr=>by simp at hr;omega)⟩)
 rintro c S D w8 hD hSD ⟨rfl,hB,hS8,a,hd⟩ hD8
 have ho8:Opn [D] w8:=(Opn.nil _).cons hD8 (by simp)
 refine T.xu results208 isAgg3 isAgg3 rfl rfl ho8 (fun w' hs=>hd.cells ho8 hs) (fun w' hs=>⟨a,by rw [iJ,if_neg hcnt,if_pos hB],(hd.ext O8 (by omega) (by omega)).shut hs (fun r hr=>by rw [List.mem_singleton] at hr;exact .inr (by have:=O8.size;omega))⟩)
theorem xX (lo:Nat) (p:Value) (r:List Pt) (w:World) (hp:Pts lo w p r) (hf:NfL r) :
  Calls Tryz.prog 184 #[p] w (Ret fun v w'=>v = .int .i64 (if 0<iJ r then 140 else 0)∧Ext w w'):=by
 refine T.enter (vs:=[p]) func184 rfl ntmps184 rfl ?_
 refine T.q (L.a rfl (L.nil (T.seq (T.q (L.m rfl (L.o (O.call (xs:=[.tmp 6]) call208 rfl rfl (Aa lo p r w hp hf) (fun v1 w1 hq=>?_))))))))
 obtain ⟨a,rfl,he1⟩:=hq
 refine L.m rfl (L.o (O.extract rfl rfl (L.o (O.extract rfl rfl (L.a rfl (L.a rfl (L.nil (T.q (L.m rfl (L.o (O.jS rfl rfl (fun h0=>?_) (fun h0=>?_))))))))))))
 ·refine L.nil (T.ct (T.q (L.a rfl (L.nil (T.aU results184 rfl ⟨by rw [if_pos h0],he1⟩)))))
 refine L.nil (T.cf (T.skip (T.q (L.a rfl (L.nil (T.aU results184 rfl ⟨by rw [if_neg h0],he1⟩))))))
open Go Go.E
structure RiV where
 v:Value
 xs:List Int
structure FaV where
 o:RiV
 hv:Value
 hs:List RiV
def FaV.val (f:FaV):Value:=.agg #[f.o.v,f.hv]
def FaV.cells (f:FaV):List Value:=[f.o.v,f.hv]
def aJ (l:List RiV):List Value:=l.map (·.v)
structure FaV.ok (lo:Nat) (w:World) (f:FaV):Prop where
 o:Ints .i64 lo w f.o.v f.o.xs
 sl:Sl lo w f.hv f.hs.length 1 (aJ f.hs)
 hs:∀ h∈f.hs,Ints .i64 lo w h.v h.xs
theorem FaV.ok.ext {lo:Nat} {w w':World} {f:FaV} (h:f.ok lo w) (k:Ext w w'):f.ok lo w':=⟨h.o.ext k,Sl.ext h.sl k,fun x hx=>(h.hs x hx).ext k⟩
def bP (l:List FaV):List Value:=l.flatMap FaV.cells
structure CxV where
 pv:Value
 ps:List Pt
 fv:Value
 fs:List FaV
def CxV.val (c:CxV):Value:=.agg #[c.pv,c.fv]
def CxV.cells (c:CxV):List Value:=[c.pv,c.fv]
structure CxV.ok (lo:Nat) (w:World) (c:CxV):Prop where
 p:Pts lo w c.pv c.ps
 sl:Sl lo w c.fv c.fs.length 2 (bP c.fs)
 fs:∀ f∈c.fs,f.ok lo w
theorem CxV.ok.ext {lo:Nat} {w w':World} {c:CxV} (h:c.ok lo w) (k:Ext w w'):c.ok lo w':=⟨h.p.ext k,Sl.ext h.sl k,fun x hx=>(h.fs x hx).ext k⟩
def f0:FaV:=⟨⟨undef,[]⟩,undef,[]⟩
theorem sS:∀ (r:List FaV) (i:Nat),i<r.length→((bP r).drop (i*2)).take 2=(r.getD i f0).cells
 | [],i,h=>by simp at h
 | p::r,0,_=>rfl
 | p::r,i+1,h=>by
  have ih:=sS r i (by simpa using h)
  have e:bP (p::r)=p.o.v::p.hv::bP r:=rfl
  rw [e,show (i+1)*2=i*2+1+1 by omega,List.drop_succ_cons,List.drop_succ_cons,ih]
  rfl
theorem CxV.ok.row {lo:Nat} {w:World} {c:CxV} (h:c.ok lo w) {i:Nat} (hi:i<c.fs.length):Row w ((jd c.fv).add ((i:Int).toNat*2)) (c.fs.getD i f0).cells:=by
 rw [Int.toNat_natCast,← sS c.fs i hi]
 obtain ⟨_,_,_,_,hr⟩:=Sl.there h.sl (by omega)
 exact hr.part (i*2) 2
theorem CxV.ok.at {lo:Nat} {w:World} {c:CxV} (h:c.ok lo w) {i:Nat} (hi:i<c.fs.length):(c.fs.getD i f0).ok lo w:=by
 rw [au hi];exact h.fs _ (List.getElem_mem hi)
def IxL (n:Nat) (l:List Int):Prop:=∀ i,i<l.length→0≤l.getD i 0∧l.getD i 0<n
def Ip (ps:List Pt) (t:Int) (x:Int):Pt:=(t*(ps.getD x.toNat (0,0)).1,t*(ps.getD x.toNat (0,0)).2)
def cor (ps:List Pt) (t:Int) (l:List Int):List Pt:=l.map (Ip ps t)
theorem Vd (ps:List Pt) (t:Int) (l:List Int) {i:Nat} (hi:i<l.length):cor ps t (l.take (i+1))=cor ps t (l.take i) ++ [Ip ps t (l.getD i 0)]:=by
 rw [au hi,cor,cor,List.take_succ_eq_append_getElem hi,List.map_append];rfl
theorem Jj {ps:List Pt} {t:Int} {l:List Int} {i:Nat} (hi:i<l.length):(cor ps t l).getD i (0,0)=Ip ps t (l.getD i 0):=by
 rw [au (by rw [cor,List.length_map];exact hi),au hi];simp [cor]
theorem mV {p:Pt} (h:og p=false):(-1000000≤p.1∧p.1≤1000000) ∧ -1000000≤p.2∧p.2≤1000000:=by
 simp only [og,decide_eq_false_iff_not] at h;omega
theorem qK {t x:Int} (ht:t=1∨t=2) (hx : -1000000≤x∧x≤1000000) : -2000000≤t*x∧t*x≤2000000:=by
 rcases ht with rfl|rfl <;> omega
theorem Yy {ps:List Pt} {n:Nat} {t x:Int} (hf:NfL ps) (ht:t=1∨t=2) (hx:0≤x∧x<ps.length):(-2000000≤(Ip ps t x).1∧(Ip ps t x).1≤2000000) ∧ -2000000≤(Ip ps t x).2∧(Ip ps t x).2≤2000000:=by
 have:=mV (hf x.toNat (by omega))
 exact ⟨qK ht this.1,qK ht this.2⟩
def PtL (q:Pt) (v:Value) (w:World):Prop:=∃ b,v = .slice (some ⟨b,0,none⟩) 1 1∧Blk w b (pC q) 124
theorem PtL.st {q:Pt} : ∀ v w w',Ext w w'→PtL q v w→PtL q v w':=fun v w w' h ⟨b,h1,h2⟩=>⟨b,h1,Blk.ext (cs:=pC q) h2 h⟩
theorem QF (q:Pt):pcs [q]=pC q:=by simp [pcs]
theorem gZ (lo lo2:Nat) (c:CxV) (q:Value) (l:List Int) (t:Int) (w:World) (hc:Pts lo w c.pv c.ps) (hq:Ints .i64 lo2 w q l) (hf:NfL c.ps) (ht:t=1∨t=2) (hl:IxL c.ps.length l) (hlen:l.length≤1000000) :
  Calls Tryz.prog 185 #[c.val,q,.int .i64 t] w (Ret fun v w'=>Ext w w'∧Pts w.heap.size w' v (cor c.ps t l)):=by
 refine T.enter (vs:=[c.val,q,.int .i64 t]) func185 rfl ntmps185 rfl ?_
 refine T.q (L.o (O.box rfl (fun b3 w3 hb3 hz3 he3 hB3=>?_)))
 have hC3:Blk w3 b3 c.cells 46:=hB3
 have hc3:=hc.ext he3
 have hq3:=hq.ext he3
 refine L.a rfl (L.nil (T.q (L.a rfl (L.nil (T.seq (T.q (L.m rfl (L.o (O.len runUnderlying30 rfl (Sl.val hq3) (L.m rfl (L.nil (T.block (?_)))))))))))))
 refine T.loop (σ:=Nat × Value) (fun s=>[(1,q),(2,.int .i64 t),(3,.pointer (some ⟨b3,0,none⟩)),(7,s.2),(10,q),(11,.int .i64 l.length),(12,.int .i64 s.1)]) (fun s w'=>s.1≤l.length∧Ext w3 w'∧w'.ownsRow w3.heap.size 124 2 s.2 s.1 (pcs (cor c.ps t (l.take s.1)))) (fun s=>l.length-s.1) ((0,.slice none 0 0)) ⟨rfl,rfl,rfl,rfl,rfl,rfl,rfl,trivial⟩ ⟨Nat.zero_le _,Keep.refl _ _,eG _ _ _ _⟩ ?_
 rintro ⟨i,s⟩ w4 ⟨hi,he4,hO4⟩
 simp only at hi hO4
 refine T.q (L.o (O.bF rfl rfl (fun hlt=>?_) (fun hlt=>?_)))
 ·refine L.nil (?_)
  have hlt':i<l.length:=by simp only at hlt;omega
  have hix:=hl i hlt'
  have hq4:=hq3.ext he4
  have hc4:=hc3.ext he4
  have hC4:=Blk.ext (cs:=c.cells) hC3 he4
  refine T.seq (T.ct (T.skip (T.seq (T.block (T.q (L.o (O.indexAddr runUnderlying30 sizeOf3 rfl rfl hq4 (by omega) (by omega) (L.o (O.load isAgg3 rfl (Ints.at hq4 hlt') (?_))))))))))
  obtain ⟨k,hk⟩:∃ k:Nat,l.getD i 0=k:=⟨(l.getD i 0).toNat,by omega⟩
  rw [hk]
  have hkl:k<c.ps.length:=by omega
  have hb:=mV (hf k hkl)
  have hb1:=qK ht hb.1
  have hb2:=qK ht hb.2
  have hcp:Ip c.ps t (l.getD i 0)=(t*(c.ps.getD k (0,0)).1,t*(c.ps.getD k (0,0)).2):=by rw [hk];rfl
  refine L.a rfl (L.nil (?_))
  refine T.fJ mixed 19 [7,2,3,9] rfl [.is _,.is _,.is _,.is _,.is _,.is _,.is _,.is _,.is _,.is _,.is _,.is _,.is _,.is _,.is _,.is _,.is _,.is _,.such (PtL (Ip c.ps t (l.getD i 0)))] [[],[],[],[2],[],[3,4],[5],[6],[1,7],[],[],[10],[],[11,12],[13],[14],[9,15],[8,16],[17]] [[],[],[],[2],[],[2,3,4],[2,3,4,5],[2,3,4,5,6],[1,2,3,4,5,6,7],[],[],[10],[],[10,11,12],[10,11,12,13],[10,11,12,13,14],[9,10,11,12,13,14,15],[1,2,3,4,5,6,7,8,9,10,11,12,13,14,15,16],[1,2,3,4,5,6,7,8,9,10,11,12,13,14,15,16,17],[0,1,2,3,4,5,6,7,8,9,10,11,12,13,14,15,16,17,18],[0,1,2,3,4,5,6,7,8,9,10,11,12,13,14,15,16,17,18,19]] (by kernel_rfl) (by kernel_rfl) rfl (by kernel_rfl) ⟨PtL.st,trivial⟩ ⟨fun wx hx=>Ob.o (O.move rfl kR),
    fun wx hx=>Ob.o (O.move rfl kR),
    fun wx hx=>Ob.o (O.fieldAddr runUnderlying46 rfl sizeOf43 rfl kR),
    fun wx hx=>Ob.o (O.load isAgg43 rfl ((Blk.ext (cs:=c.cells) hC4 hx).cell rfl) kR),
    fun wx hx=>Ob.o (O.move rfl kR),
    fun wx hx=>Ob.o (O.indexAddr runUnderlying43 sizeOf124 rfl rfl (hc4.ext hx) (by omega) (by omega) kR),
    fun wx hx=>Ob.o (O.fieldAddr runUnderlying124 rfl sizeOf3 rfl kR),
    fun wx hx=>Ob.o (O.load isAgg3 rfl (((hc4.ext hx).row hkl) 0 _ rfl) kR),
    fun wx hx=>Ob.o (O.l9 rfl rfl (by omega) kR),
    fun wx hx=>Ob.o (O.move rfl kR),
    fun wx hx=>Ob.o (O.fieldAddr runUnderlying46 rfl sizeOf43 rfl kR),
    fun wx hx=>Ob.o (O.load isAgg43 rfl ((Blk.ext (cs:=c.cells) hC4 hx).cell rfl) kR),
    fun wx hx=>Ob.o (O.move rfl kR),
    fun wx hx=>Ob.o (O.indexAddr runUnderlying43 sizeOf124 rfl rfl (hc4.ext hx) (by omega) (by omega) kR),
    fun wx hx=>Ob.o (O.fieldAddr runUnderlying124 rfl sizeOf3 rfl kR),
    fun wx hx=>Ob.o (O.load isAgg3 rfl (((hc4.ext hx).row hkl) 1 _ rfl) kR),
    fun wx hx=>Ob.o (O.l9 rfl rfl (by omega) kR),
    fun wx hx=>Ob.o (O.build (v:=pV (Ip c.ps t (l.getD i 0))) (parts:=[(0,.tmp 24),(1,.tmp 32)]) (vs:=[(0,_),(1,_)]) rfl (fun w=>by rw [hcp];kernel_rfl) kR),
    fun wx hx=>Ob.o (O.buildSlice (el:=124) (parts:=[(0,.tmp 33)]) (vs:=[(0,_)]) (cs:=(pC (Ip c.ps t (l.getD i 0)))) rfl (fun w=>by kernel_rfl) (fun b6 w6 hb6 hz6 he6 hB6=>⟨he6,⟨b6,rfl,hB6⟩⟩)),
    trivial⟩ (fun w5 he5 v34 hv34=>?_)
  obtain ⟨b6,rfl,hB6⟩:=hv34
  have hO5:=aG hO4 he5 (Nat.zero_le _)
  have hS5:Sl 0 w5 (.slice (some ⟨b6,0,none⟩) 1 1) 1 2 (pC (Ip c.ps t (l.getD i 0))):=Sl.ay hB6 rfl (Nat.le_refl _) (by decide) (Nat.zero_le _)
  refine L.o (O.append (size:=2) (bytes:=16) runUnderlying237 Tryz.xq rfl rfl rfl rfl (by decide) rfl rfl hO5 hS5 (gY _) (by omega) (by simp only [maxLen];omega) (by have:=he4.size;have:=he5.size;omega) (fun v7 w7 hO7 hG7=>?_))
  have Fj:Ext w3 w7:=Keep.fO (he4.trans he5) hO5 hG7 (Nat.le_refl _)
  refine L.a rfl (L.nil (T.blk (T.region (L.o (O.aI rfl rfl (by simp only;omega) (L.m rfl (L.nil (T.again ((i+1,v7)) (by omega) ⟨rfl,rfl,rfl,rfl,rfl,rfl,rfl,trivial⟩ ⟨hlt',Fj,by rw [Vd c.ps t l hlt',A8,QF];exact hO7⟩))))))))
 refine L.nil (?_)
 obtain rfl:i=l.length:=by simp only at hlt;omega
 rw [List.take_length] at hO4
 refine T.seq (T.cf (T.exit rfl (T.q (L.m rfl (L.a rfl (L.nil (T.aU results185 rfl ⟨he3.trans he4,?_⟩)))))))
 have:=Sl.aT hO4
 have e:l.length=(cor c.ps t l).length:=by rw [cor,List.length_map]
 rw [e] at this
 exact this.mono he3.size
open Go Go.E
def bW (r:List Pt):Nat→Int
 | 0=>0
 | i+1=>bW r i+((rA r i).1*(rB r i).2-(rA r i).2*(rB r i).1)
def Nm (p:Pt):Prop:=(-2000000≤p.1∧p.1≤2000000) ∧ -2000000≤p.2∧p.2≤2000000
theorem KX {x y:Int} (h:(-2000000≤x∧x≤2000000) ∧ -2000000≤y∧y≤2000000) : -4000000000000≤x*y∧x*y≤4000000000000:=by
 have:=Qs (B:=2000000) (C:=2000000) h.1.1 h.1.2 h.2.1 h.2.2
 omega
def NmL (r:List Pt):Prop:=∀ i,i<r.length→Nm (r.getD i (0,0))
theorem KY {r:List Pt} (h:NmL r):∀ i,i≤r.length → -8000000000000*(i:Int)≤bW r i∧bW r i≤8000000000000*(i:Int)
 | 0,_=>by simp [bW]
 | i+1,hi=>by
  have ih:=KY h i (by omega)
  have a:Nm (rA r i):=h i (by omega)
  have b:Nm (rB r i):=h _ (Nat.mod_lt _ (by omega))
  unfold Nm at a b
  have m1:=KX (x:=(rA r i).1) (y:=(rB r i).2) ⟨a.1,b.2⟩
  have m2:=KX (x:=(rA r i).2) (y:=(rB r i).1) ⟨a.2,b.1⟩
  simp only [bW]
  omega
theorem NI (lo:Nat) (p:Value) (r:List Pt) (w:World) (hp:Pts lo w p r) (hn:NmL r) (hlen:r.length≤1000000) :
  Calls Tryz.prog 188 #[p] w (Ret fun v w'=>v = .int .i64 (bW r r.length)∧Ext w w'):=by
 refine T.enter (vs:=[p]) func188 rfl ntmps188 rfl ?_
 refine T.q (L.a rfl (L.nil (T.q (L.a rfl (L.nil (T.seq (T.q (L.m rfl (L.o (O.len runUnderlying237 rfl (Sl.val hp) (L.m rfl (L.nil (T.block (?_))))))))))))))
 refine T.loop (σ:=Nat) (fun i=>[(0,p),(3,.int .i64 (bW r i)),(7,p),(8,.int .i64 r.length),(9,.int .i64 i)]) (fun i w'=>i≤r.length∧Ext w w') (fun i=>r.length-i) (0) ⟨rfl,rfl,rfl,rfl,rfl,trivial⟩ ⟨Nat.zero_le _,Keep.refl _ _⟩ ?_
 rintro i w1 ⟨hi,he1⟩
 refine T.q (L.o (O.bF rfl rfl (fun hlt=>?_) (fun hlt=>?_)))
 ·refine L.nil (?_)
  have hlt':i<r.length:=by omega
  have hp1:=hp.ext he1
  have hm:(i+1) % r.length<r.length:=Nat.mod_lt _ (by omega)
  have hmi:((i:Int)+1) % (r.length:Int)=(((i+1) % r.length:Nat):Int):=by rw [show (i:Int)+1=((i+1:Nat):Int) by omega];rfl
  have a:Nm (rA r i):=hn i hlt'
  have b:Nm (rB r i):=hn _ hm
  unfold Nm at a b
  have m1:=KX (x:=(rA r i).1) (y:=(rB r i).2) ⟨a.1,b.2⟩
  have m2:=KX (x:=(rA r i).2) (y:=(rB r i).1) ⟨a.2,b.1⟩
  have hbd:=KY hn i hi
  refine T.seq (T.ct (T.skip (T.seq (T.block (T.q (L.m rfl (L.o (O.indexAddr runUnderlying237 sizeOf124 rfl rfl hp1 (by omega) (by omega) (L.o (O.ak isAgg124 sizeOf124 rfl rfl (hp1.row hlt') (L.o (O.alloc zeroValue124 (fun b2 w2 hb2 hz2 he2 hB2=>?_)))))))))))))
  refine L.a rfl (L.o (O.aC sizeOf124 rfl rfl rfl hB2 (Nat.le_refl _) (gY _) (fun w3 hu3 hB3=>?_)))
  have hX3:Blk w3 b2 (pC (rA r i)) 124:=hB3
  have dn:Ext w1 w3:=he2.upd hu3 (.inr (by omega))
  have hp3:=hp1.ext dn
  refine L.nil (T.q (L.m rfl (L.m rfl (L.o (O.aI rfl rfl (by omega) (L.m rfl (L.o (O.len runUnderlying237 rfl (Sl.val hp3) (L.o (O.rem rfl rfl (by omega) (by omega) (?_)))))))))))
  rw [hmi]
  refine L.o (O.indexAddr runUnderlying237 sizeOf124 rfl rfl hp3 (by omega) (by omega) (L.o (O.ak isAgg124 sizeOf124 rfl rfl (hp3.row hm) (L.o (O.alloc zeroValue124 (fun b4 w4 hb4 hz4 he4 hB4=>?_))))))
  refine L.o (O.aC sizeOf124 rfl rfl rfl hB4 (Nat.le_refl _) (gY _) (fun w5 hu5 hB5=>?_))
  have hY5:Blk w5 b4 (pC (rB r i)) 124:=hB5
  have Iq:Ext w3 w5:=he4.upd hu5 (.inr (by omega))
  have hX5:=Blk.ext (cs:=pC (rA r i)) hX3 Iq
  refine L.nil (T.region (L.m rfl (L.o (O.fieldAddr runUnderlying124 rfl sizeOf3 rfl (L.o (O.load isAgg3 rfl (hX5.cell rfl) (L.o (O.fieldAddr runUnderlying124 rfl sizeOf3 rfl (L.o (O.load isAgg3 rfl (hY5.cell rfl) (L.o (O.l9 rfl rfl (by omega) (L.o (O.fieldAddr runUnderlying124 rfl sizeOf3 rfl (L.o (O.load isAgg3 rfl (hX5.cell rfl) (L.o (O.fieldAddr runUnderlying124 rfl sizeOf3 rfl (L.o (O.load isAgg3 rfl (hY5.cell rfl) (L.o (O.l9 rfl rfl (by omega) (L.o (O.gq rfl rfl (by omega) (L.o (O.aI rfl rfl (by omega) (L.a rfl (L.nil (T.blk (T.region (L.o (O.aI rfl rfl (by omega) (L.m rfl (L.nil (T.again (i+1) (by omega) ⟨rfl,rfl,rfl,rfl,rfl,trivial⟩ ⟨hlt',he1.trans (dn.trans Iq)⟩)))))))))))))))))))))))))))))))))))
 refine L.nil (?_)
 obtain rfl:i=r.length:=by omega
 refine T.seq (T.cf (T.exit rfl (T.q (L.m rfl (L.a rfl (L.nil (T.aU results188 rfl ⟨rfl,he1⟩)))))))
open Go Go.E
def onE (a b p:Pt):Prop:=aB a b p=0∧mn a.1 b.1≤p.1∧p.1≤mx a.1 b.1∧mn a.2 b.2≤p.2∧p.2≤mx a.2 b.2
instance (a b p:Pt):Decidable (onE a b p):=inferInstanceAs (Decidable (_∧_))
def stepW (a b p:Pt):Int:=if a.2≤p.2∧p.2<b.2∧0<aB a b p then 1 else if p.2<a.2∧b.2≤p.2∧aB a b p<0 then -1 else 0
def dJ (r:List Pt) (p:Pt):Nat→Int
 | 0=>0
 | i+1=>dJ r p i+stepW (rA r i) (rB r i) p
theorem QG (a b p:Pt) : -1≤stepW a b p∧stepW a b p≤1:=by unfold stepW;split <;> (try split) <;> omega
theorem KZ (r:List Pt) (p:Pt):∀ i:Nat,-(i:Int)≤dJ r p i∧dJ r p i≤i
 | 0=>by simp [dJ]
 | i+1=>by
  have ih:=KZ r p i
  have:=QG (rA r i) (rB r i) p
  simp only [dJ];omega
def iZ (r:List Pt) (p:Pt):Int:=if ∃ i,i<r.length∧onE (rA r i) (rB r i) p then 1 else if dJ r p r.length=0 then 0 else 2
set_option maxHeartbeats 8000000 in
theorem sU (lo:Nat) (q:Value) (r:List Pt) (p:Pt) (w:World) (hq:Pts lo w q r) (hn:NrL r) (hp:Nr p) (hlen:r.length≤1000000) :
  Calls Tryz.prog 247 #[q,pV p] w (Ret fun v w'=>v = .int .i64 (iZ r p)∧Ext w w'):=by
 refine T.enter (vs:=[q,pV p]) func247 rfl ntmps247 rfl ?_
 refine T.q (L.o (O.box rfl (fun b3 w3 hb3 hz3 he3 hB3=>?_)))
 have hP3:Blk w3 b3 (pC p) 124:=hB3
 have hq3:=hq.ext he3
 refine L.a rfl (L.nil (T.q (L.a rfl (L.nil (T.seq (T.q (L.m rfl (L.o (O.len runUnderlying237 rfl (Sl.val hq3) (L.m rfl (L.nil (T.block (?_)))))))))))))
 refine T.loop (σ:=Nat) (fun i=>[(0,q),(3,.pointer (some ⟨b3,0,none⟩)),(5,.int .i64 (dJ r p i)),(10,q),(11,.int .i64 r.length),(12,.int .i64 i)]) (fun i w'=>i≤r.length∧Ext w3 w'∧∀ k,k<i→¬ onE (rA r k) (rB r k) p) (fun i=>r.length-i) (0) ⟨rfl,rfl,rfl,rfl,rfl,rfl,trivial⟩ ⟨Nat.zero_le _,Keep.refl _ _,fun k hk=>absurd hk (Nat.not_lt_zero _)⟩ ?_
 rintro i w4 ⟨hi,he4,hall⟩
 refine T.q (L.o (O.bF rfl rfl (fun hlt=>?_) (fun hlt=>?_)))
 ·refine L.nil (?_)
  have hlt':i<r.length:=by omega
  have hq4:=hq3.ext he4
  have hP4:=Blk.ext (cs:=pC p) hP3 he4
  have hm:(i+1) % r.length<r.length:=Nat.mod_lt _ (by omega)
  have hmi:((i:Int)+1) % (r.length:Int)=(((i+1) % r.length:Nat):Int):=by rw [show (i:Int)+1=((i+1:Nat):Int) by omega];rfl
  have na:Nr (rA r i):=hn i hlt'
  have nb:Nr (rB r i):=hn _ hm
  have hwb:=KZ r p i
  refine T.seq (T.ct (T.skip (T.seq (T.block (T.q (L.m rfl (L.o (O.indexAddr runUnderlying237 sizeOf124 rfl rfl hq4 (by omega) (by omega) (L.o (O.ak isAgg124 sizeOf124 rfl rfl (hq4.row hlt') (L.o (O.alloc zeroValue124 (fun b5 w5 hb5 hz5 he5 hB5=>?_)))))))))))))
  refine L.a rfl (L.o (O.aC sizeOf124 rfl rfl rfl hB5 (Nat.le_refl _) (gY _) (fun w6 hu6 hB6=>?_)))
  have hA6:Blk w6 b5 (pC (rA r i)) 124:=hB6
  have AV:Ext w4 w6:=he5.upd hu6 (.inr (by omega))
  have hq6:=hq4.ext AV
  refine L.nil (T.q (L.m rfl (L.m rfl (L.o (O.aI rfl rfl (by omega) (L.m rfl (L.o (O.len runUnderlying237 rfl (Sl.val hq6) (L.o (O.rem rfl rfl (by omega) (by omega) (?_)))))))))))
  rw [hmi]
  refine L.o (O.indexAddr runUnderlying237 sizeOf124 rfl rfl hq6 (by omega) (by omega) (L.o (O.ak isAgg124 sizeOf124 rfl rfl (hq6.row hm) (L.o (O.alloc zeroValue124 (fun b7 w7 hb7 hz7 he7 hB7=>?_))))))
  refine L.o (O.aC sizeOf124 rfl rfl rfl hB7 (Nat.le_refl _) (gY _) (fun w8 hu8 hB8=>?_))
  have hB:Blk w8 b7 (pC (rB r i)) 124:=hB8
  have aeJ:Ext w6 w8:=he7.upd hu8 (.inr (by omega))
  have hA:=Blk.ext (cs:=pC (rA r i)) hA6 aeJ
  have hP:=Blk.ext (cs:=pC p) hP4 (AV.trans aeJ)
  have NJ:=he4.trans (AV.trans aeJ)
  obtain ⟨a,ha⟩:∃ a,a=rA r i:=⟨_,rfl⟩
  obtain ⟨b,hb⟩:∃ b,b=rB r i:=⟨_,rfl⟩
  have hall':¬ onE a b p→∀ k,k<i+1→¬ onE (rA r k) (rB r k) p:=fun h k hk=>by
   by_cases e:k=i
   ·subst e;rw [← ha,← hb];exact h
   exact hall k (by omega)
  have hws:dJ r p (i+1)=dJ r p i+stepW a b p:=by rw [ha,hb];rfl
  rw [← ha] at hA na
  rw [← hb] at hB nb
  unfold Nr at na nb hp
  have h1:=oh (x:=b.1-a.1) (y:=p.2-a.2) (by omega)
  have h2:=oh (x:=b.2-a.2) (y:=p.1-a.1) (by omega)
  refine L.nil (T.q (L.o (O.fieldAddr runUnderlying124 rfl sizeOf3 rfl (L.o (O.load isAgg3 rfl (hB.cell rfl) (L.o (O.fieldAddr runUnderlying124 rfl sizeOf3 rfl (L.o (O.load isAgg3 rfl (hA.cell rfl) (L.o (O.gq rfl rfl (by omega) (L.o (O.fieldAddr runUnderlying124 rfl sizeOf3 rfl (L.o (O.load isAgg3 rfl (hP.cell rfl) (L.o (O.fieldAddr runUnderlying124 rfl sizeOf3 rfl (L.o (O.load isAgg3 rfl (hA.cell rfl) (L.o (O.gq rfl rfl (by omega) (L.o (O.l9 rfl rfl (by omega) (L.o (O.fieldAddr runUnderlying124 rfl sizeOf3 rfl (L.o (O.load isAgg3 rfl (hB.cell rfl) (L.o (O.fieldAddr runUnderlying124 rfl sizeOf3 rfl (L.o (O.load isAgg3 rfl (hA.cell rfl) (L.o (O.gq rfl rfl (by omega) (L.o (O.fieldAddr runUnderlying124 rfl sizeOf3 rfl (L.o (O.load isAgg3 rfl (hP.cell rfl) (L.o (O.fieldAddr runUnderlying124 rfl sizeOf3 rfl (L.o (O.load isAgg3 rfl (hA.cell rfl) (L.o (O.gq rfl rfl (by omega) (?_))))))))))))))))))))))))))))))))))))))))))))
  refine L.o (O.l9 rfl rfl (by omega) (L.o (O.gq rfl rfl (by omega) (?_))))
  obtain ⟨t,ht⟩:∃ t,t=aB a b p:=⟨_,rfl⟩
  have ht':(b.1-a.1)*(p.2-a.2)-(b.2-a.2)*(p.1-a.1)=t:=ht.symm
  rw [ht']
  have hon:onE a b p↔t=0∧mn a.1 b.1≤p.1∧p.1≤mx a.1 b.1∧mn a.2 b.2≤p.2∧p.2≤mx a.2 b.2:=by rw [onE,← ht]
  refine L.a rfl (L.nil (T.block (T.seq (?_))))
  refine T.join (σ:=Unit) (fun _=>[(0,q),(3,.pointer (some ⟨b3,0,none⟩)),(5,.int .i64 (dJ r p i)),(7,.pointer (some ⟨b5,0,none⟩)),(8,.pointer (some ⟨b7,0,none⟩)),(9,.int .i64 t),(10,q),(11,.int .i64 r.length),(12,.int .i64 i),(48,.bool (decide (t=0∧mn a.1 b.1≤p.1∧p.1≤mx a.1 b.1∧mn a.2 b.2≤p.2∧p.2≤mx a.2 b.2)))]) (fun _ w'=>w'=w8) ?_ ?_
  ·refine T.region (L.m rfl (L.o (O.jw rfl rfl (fun e1=>?_) (fun e1=>?_))))
   ·refine L.m rfl (L.o (O.fieldAddr runUnderlying124 rfl sizeOf3 rfl (L.o (O.load isAgg3 rfl (hA.cell rfl) (L.o (O.fieldAddr runUnderlying124 rfl sizeOf3 rfl (L.o (O.load isAgg3 rfl (hB.cell rfl) (L.o (O.min rfl rfl (L.o (O.fieldAddr runUnderlying124 rfl sizeOf3 rfl (L.o (O.load isAgg3 rfl (hP.cell rfl) (L.o (O.zQ rfl rfl (fun e2=>?_) (fun e2=>?_)))))))))))))))))
    ·refine L.o (O.ah rfl rfl (L.m rfl (L.o (O.fieldAddr runUnderlying124 rfl sizeOf3 rfl (L.o (O.load isAgg3 rfl (hP.cell rfl) (L.o (O.fieldAddr runUnderlying124 rfl sizeOf3 rfl (L.o (O.load isAgg3 rfl (hA.cell rfl) (L.o (O.fieldAddr runUnderlying124 rfl sizeOf3 rfl (L.o (O.load isAgg3 rfl (hB.cell rfl) (L.o (O.max rfl rfl (L.o (O.zQ rfl rfl (fun e3=>?_) (fun e3=>?_)))))))))))))))))))
     ·refine L.o (O.ah rfl rfl (L.m rfl (L.o (O.fieldAddr runUnderlying124 rfl sizeOf3 rfl (L.o (O.load isAgg3 rfl (hA.cell rfl) (L.o (O.fieldAddr runUnderlying124 rfl sizeOf3 rfl (L.o (O.load isAgg3 rfl (hB.cell rfl) (L.o (O.min rfl rfl (L.o (O.fieldAddr runUnderlying124 rfl sizeOf3 rfl (L.o (O.load isAgg3 rfl (hP.cell rfl) (L.o (O.zQ rfl rfl (fun e4=>?_) (fun e4=>?_)))))))))))))))))))
      ·refine L.o (O.ah rfl rfl (L.m rfl (L.o (O.fieldAddr runUnderlying124 rfl sizeOf3 rfl (L.o (O.load isAgg3 rfl (hP.cell rfl) (L.o (O.fieldAddr runUnderlying124 rfl sizeOf3 rfl (L.o (O.load isAgg3 rfl (hA.cell rfl) (L.o (O.fieldAddr runUnderlying124 rfl sizeOf3 rfl (L.o (O.load isAgg3 rfl (hB.cell rfl) (L.o (O.max rfl rfl (L.o (O.zQ rfl rfl (fun e5=>?_) (fun e5=>?_)))))))))))))))))))
       ·refine L.o (O.ah rfl rfl (L.a rfl (L.nil (T.meet (()) ⟨rfl,rfl,rfl,rfl,rfl,rfl,rfl,rfl,rfl,?_,trivial⟩ rfl))))
        ·exact congrArg (fun z=>some (Value.bool z)) (decide_eq_true ⟨e1,e2,e3,e4,e5⟩).symm
       refine L.o (O.ah rfl rfl (L.a rfl (L.nil (T.meet (()) ⟨rfl,rfl,rfl,rfl,rfl,rfl,rfl,rfl,rfl,?_,trivial⟩ rfl))))
       ·exact congrArg (fun z=>some (Value.bool z)) (decide_eq_false fun h=>e5 h.2.2.2.2).symm
      refine L.o (O.ah rfl rfl (L.m rfl (L.p (L.p (L.p (L.p (L.p (L.p (L.p (L.p (L.o (O.aj rfl rfl (L.a rfl (L.nil (T.meet (()) ⟨rfl,rfl,rfl,rfl,rfl,rfl,rfl,rfl,rfl,?_,trivial⟩ rfl)))))))))))))))
      ·exact congrArg (fun z=>some (Value.bool z)) (decide_eq_false fun h=>e4 h.2.2.2.1).symm
     refine L.o (O.ah rfl rfl (L.m rfl (L.p (L.p (L.p (L.p (L.p (L.p (L.p (L.p (L.o (O.aj rfl rfl (L.m rfl (L.p (L.p (L.p (L.p (L.p (L.p (L.p (L.p (L.o (O.aj rfl rfl (L.a rfl (L.nil (T.meet (()) ⟨rfl,rfl,rfl,rfl,rfl,rfl,rfl,rfl,rfl,?_,trivial⟩ rfl))))))))))))))))))))))))))
     ·exact congrArg (fun z=>some (Value.bool z)) (decide_eq_false fun h=>e3 h.2.2.1).symm
    refine L.o (O.ah rfl rfl (L.m rfl (L.p (L.p (L.p (L.p (L.p (L.p (L.p (L.p (L.o (O.aj rfl rfl (L.m rfl (L.p (L.p (L.p (L.p (L.p (L.p (L.p (L.p (L.o (O.aj rfl rfl (L.m rfl (L.p (L.p (?_)))))))))))))))))))))))))))
    refine L.p (L.p (L.p (L.p (L.p (L.p (L.o (O.aj rfl rfl (L.a rfl (L.nil (T.meet (()) ⟨rfl,rfl,rfl,rfl,rfl,rfl,rfl,rfl,rfl,?_,trivial⟩ rfl))))))))))
    ·exact congrArg (fun z=>some (Value.bool z)) (decide_eq_false fun h=>e2 h.2.1).symm
   refine L.m rfl (L.p (L.p (L.p (L.p (L.p (L.p (L.p (L.p (L.o (O.aj rfl rfl (L.m rfl (L.p (L.p (L.p (L.p (L.p (L.p (L.p (L.p (L.o (O.aj rfl rfl (L.m rfl (L.p (L.p (L.p (?_))))))))))))))))))))))))))
   refine L.p (L.p (L.p (L.p (L.p (L.o (O.aj rfl rfl (L.m rfl (L.p (L.p (L.p (L.p (L.p (L.p (L.p (L.p (L.o (O.aj rfl rfl (L.a rfl (L.nil (T.meet (()) ⟨rfl,rfl,rfl,rfl,rfl,rfl,rfl,rfl,rfl,?_,trivial⟩ rfl))))))))))))))))))))
   ·exact congrArg (fun z=>some (Value.bool z)) (decide_eq_false fun h=>e1 h.1).symm
  rintro _ w9 rfl
  refine T.qj rfl (fun h0=>?_) (fun h0=>?_)
  ·refine T.q (L.a rfl (L.nil (T.aU results247 rfl ⟨by rw [iZ,if_pos ⟨i,hlt',by rw [← ha,← hb];exact hon.2 h0⟩],he3.trans NJ⟩)))
  have hno:¬ onE a b p:=fun h=>h0 (hon.1 h)
  refine T.seq (?_)
  refine T.join (σ:=Unit) (fun _=>[(0,q),(3,.pointer (some ⟨b3,0,none⟩)),(5,.int .i64 (dJ r p i)),(7,.pointer (some ⟨b5,0,none⟩)),(8,.pointer (some ⟨b7,0,none⟩)),(9,.int .i64 t),(10,q),(11,.int .i64 r.length),(12,.int .i64 i),(91,.bool (decide (a.2≤p.2∧p.2<b.2∧0<t)))]) (fun _ w'=>w'=w9) ?_ ?_
  ·refine T.region (L.o (O.fieldAddr runUnderlying124 rfl sizeOf3 rfl (L.o (O.load isAgg3 rfl (hA.cell rfl) (L.o (O.fieldAddr runUnderlying124 rfl sizeOf3 rfl (L.o (O.load isAgg3 rfl (hP.cell rfl) (L.o (O.zQ rfl rfl (fun e1=>?_) (fun e1=>?_)))))))))))
   ·refine L.m rfl (L.o (O.fieldAddr runUnderlying124 rfl sizeOf3 rfl (L.o (O.load isAgg3 rfl (hB.cell rfl) (L.o (O.fieldAddr runUnderlying124 rfl sizeOf3 rfl (L.o (O.load isAgg3 rfl (hP.cell rfl) (L.o (O.jS rfl rfl (fun e2=>?_) (fun e2=>?_)))))))))))
    ·refine L.o (O.ah rfl rfl (L.m rfl (L.m rfl (L.o (O.jS rfl rfl (fun e3=>?_) (fun e3=>?_))))))
     ·refine L.o (O.ah rfl rfl (L.a rfl (L.nil (T.meet (()) ⟨rfl,rfl,rfl,rfl,rfl,rfl,rfl,rfl,rfl,?_,trivial⟩ rfl))))
      ·exact congrArg (fun z=>some (Value.bool z)) (decide_eq_true ⟨e1,e2,e3⟩).symm
     refine L.o (O.ah rfl rfl (L.a rfl (L.nil (T.meet (()) ⟨rfl,rfl,rfl,rfl,rfl,rfl,rfl,rfl,rfl,?_,trivial⟩ rfl))))
     ·exact congrArg (fun z=>some (Value.bool z)) (decide_eq_false fun h=>e3 h.2.2).symm
    refine L.o (O.ah rfl rfl (L.m rfl (L.p (L.p (L.o (O.aj rfl rfl (L.a rfl (L.nil (T.meet (()) ⟨rfl,rfl,rfl,rfl,rfl,rfl,rfl,rfl,rfl,?_,trivial⟩ rfl)))))))))
    ·exact congrArg (fun z=>some (Value.bool z)) (decide_eq_false fun h=>e2 h.2.1).symm
   refine L.m rfl (L.p (L.p (L.p (L.p (L.p (L.o (O.aj rfl rfl (L.m rfl (L.p (L.p (L.o (O.aj rfl rfl (L.a rfl (L.nil (T.meet (()) ⟨rfl,rfl,rfl,rfl,rfl,rfl,rfl,rfl,rfl,?_,trivial⟩ rfl)))))))))))))))
   ·exact congrArg (fun z=>some (Value.bool z)) (decide_eq_false fun h=>e1 h.1).symm
  rintro _ w10 rfl
  refine T.qj rfl (fun h1=>?_) (fun h1=>?_)
  ·have hsw:stepW a b p=1:=by rw [stepW,← ht,if_pos h1]
   refine T.region (L.m rfl (L.o (O.aI rfl rfl (by omega) (L.a rfl (L.nil (T.blk (T.blk (T.region (L.o (O.aI rfl rfl (by omega) (L.m rfl (L.nil (T.again (i+1) (by omega) ⟨rfl,rfl,?_,rfl,rfl,rfl,trivial⟩ ⟨hlt',NJ,hall' hno⟩)))))))))))))
   ·rw [hws,hsw];rfl
  refine T.seq (?_)
  refine T.join (σ:=Unit) (fun _=>[(0,q),(3,.pointer (some ⟨b3,0,none⟩)),(5,.int .i64 (dJ r p i)),(7,.pointer (some ⟨b5,0,none⟩)),(8,.pointer (some ⟨b7,0,none⟩)),(9,.int .i64 t),(10,q),(11,.int .i64 r.length),(12,.int .i64 i),(110,.bool (decide (p.2<a.2∧b.2≤p.2∧t<0)))]) (fun _ w'=>w'=w10) ?_ ?_
  ·refine T.region (L.o (O.fieldAddr runUnderlying124 rfl sizeOf3 rfl (L.o (O.load isAgg3 rfl (hA.cell rfl) (L.o (O.fieldAddr runUnderlying124 rfl sizeOf3 rfl (L.o (O.load isAgg3 rfl (hP.cell rfl) (L.o (O.jS rfl rfl (fun e1=>?_) (fun e1=>?_)))))))))))
   ·refine L.m rfl (L.o (O.fieldAddr runUnderlying124 rfl sizeOf3 rfl (L.o (O.load isAgg3 rfl (hB.cell rfl) (L.o (O.fieldAddr runUnderlying124 rfl sizeOf3 rfl (L.o (O.load isAgg3 rfl (hP.cell rfl) (L.o (O.zQ rfl rfl (fun e2=>?_) (fun e2=>?_)))))))))))
    ·refine L.o (O.ah rfl rfl (L.m rfl (L.m rfl (L.o (O.bF rfl rfl (fun e3=>?_) (fun e3=>?_))))))
     ·refine L.o (O.ah rfl rfl (L.a rfl (L.nil (T.meet (()) ⟨rfl,rfl,rfl,rfl,rfl,rfl,rfl,rfl,rfl,?_,trivial⟩ rfl))))
      ·exact congrArg (fun z=>some (Value.bool z)) (decide_eq_true ⟨e1,e2,e3⟩).symm
     refine L.o (O.ah rfl rfl (L.a rfl (L.nil (T.meet (()) ⟨rfl,rfl,rfl,rfl,rfl,rfl,rfl,rfl,rfl,?_,trivial⟩ rfl))))
     ·exact congrArg (fun z=>some (Value.bool z)) (decide_eq_false fun h=>e3 h.2.2).symm
    refine L.o (O.ah rfl rfl (L.m rfl (L.p (L.p (L.o (O.aj rfl rfl (L.a rfl (L.nil (T.meet (()) ⟨rfl,rfl,rfl,rfl,rfl,rfl,rfl,rfl,rfl,?_,trivial⟩ rfl)))))))))
    ·exact congrArg (fun z=>some (Value.bool z)) (decide_eq_false fun h=>e2 h.2.1).symm
   refine L.m rfl (L.p (L.p (L.p (L.p (L.p (L.o (O.aj rfl rfl (L.m rfl (L.p (L.p (L.o (O.aj rfl rfl (L.a rfl (L.nil (T.meet (()) ⟨rfl,rfl,rfl,rfl,rfl,rfl,rfl,rfl,rfl,?_,trivial⟩ rfl)))))))))))))))
   ·exact congrArg (fun z=>some (Value.bool z)) (decide_eq_false fun h=>e1 h.1).symm
  rintro _ w11 rfl
  refine T.qj rfl (fun h2=>?_) (fun h2=>?_)
  ·have hsw:stepW a b p = -1:=by rw [stepW,← ht,if_neg h1,if_pos h2]
   refine T.region (L.m rfl (L.o (O.gq rfl rfl (by omega) (L.a rfl (L.nil (T.blk (T.blk (T.region (L.o (O.aI rfl rfl (by omega) (L.m rfl (L.nil (T.again (i+1) (by omega) ⟨rfl,rfl,?_,rfl,rfl,rfl,trivial⟩ ⟨hlt',NJ,hall' hno⟩)))))))))))))
   ·rw [hws,hsw];rfl
  have hsw:stepW a b p=0:=by rw [stepW,← ht,if_neg h1,if_neg h2]
  refine T.skip (T.blk (T.blk (T.region (L.o (O.aI rfl rfl (by omega) (L.m rfl (L.nil (T.again (i+1) (by omega) ⟨rfl,rfl,?_,rfl,rfl,rfl,trivial⟩ ⟨hlt',NJ,hall' hno⟩))))))))
  ·rw [hws,hsw];rw [Int.add_zero];rfl
 refine L.nil (?_)
 obtain rfl:i=r.length:=by omega
 have ahh:¬ ∃ i,i<r.length∧onE (rA r i) (rB r i) p:=fun ⟨k,h1,h2⟩=>hall k h1 h2
 refine T.seq (T.cf (T.exit rfl (T.seq (T.q (L.m rfl (L.o (O.jw rfl rfl (fun hw0=>?_) (fun hw0=>?_))))))))
 ·refine L.nil (T.ct (T.q (L.a rfl (L.nil (T.aU results247 rfl ⟨by rw [iZ,if_neg ahh,if_pos hw0],he3.trans he4⟩)))))
 refine L.nil (T.cf (T.skip (T.q (L.a rfl (L.nil (T.aU results247 rfl ⟨by rw [iZ,if_neg ahh,if_neg hw0],he3.trans he4⟩))))))
end Go.Proofs.YtnlonpcbgjbbaaaGreatDoor
