/-
  BlocksOver, part 8 of its proof: that it returns true for every input, and each argument reads behind the call as it read before. Conditions: the listed variables read as the program's text lays them (tied by the card).
-/
import Derived.Test.YtnlonpcbgjbbaaaGreatDoorWBlocksOver7
import Derived.Test.YtnlonpcbgjbbaaaGreatDoorWBlocksOver4
import Derived.Test.YtnlonpcbgjbbaaaGreatDoorWBlocksOver3
import Derived.WideKeyRuns
import Derived.ChangeKeysEq
import Derived.Test.YtnlonpcbgjbbaaaGreatDoorWBlocksOver2
import Derived.Test.YtnlonpcbgjbbaaaGreatDoorWBlocksOver5
set_option linter.unusedVariables false
set_option linter.unusedSimpArgs false
set_option maxRecDepth 20000
set_option linter.unusedVariables false
set_option linter.unusedSimpArgs false
set_option maxRecDepth 20000
namespace Go.Proofs.YtnlonpcbgjbbaaaGreatDoor
open Go.Proofs.Tryz (call208 call240 call241 call242 call243 call244 call263 call264 call265 call270 call271 call273 func174 func184 func185 func188 func208 func240 func241 func242 func243 func244 func246 func247 func263 func264 func265 func270 func271 func273 isAgg124 isAgg237 isAgg3 isAgg315 isAgg43 ntmps174 ntmps184 ntmps185 ntmps188 ntmps208 ntmps240 ntmps241 ntmps242 ntmps243 ntmps244 ntmps246 ntmps247 ntmps263 ntmps264 ntmps265 ntmps270 ntmps271 ntmps273 results174 results184 results185 results188 results208 results240 results241 results242 results243 results244 results246 results247 results263 results264 results265 results270 results271 results273 runUnderlying124 runUnderlying237 runUnderlying249 runUnderlying30 runUnderlying315 runUnderlying332 runUnderlying43 runUnderlying46 sizeOf124 sizeOf3 sizeOf315 sizeOf43 zeroValue124 zeroValue3 zeroValue315)
open Go Go.E
attribute [local irreducible] Go.E.T Go.E.L Go.E.O Go.E.Ob

attribute [local irreducible] Go.E.ObX
/-- A point. -/
abbrev Pt:=Int × Int
def pV (p:Pt):Value:=.agg #[.int .i64 p.1,.int .i64 p.2]
def pC (p:Pt):List Value:=[.int .i64 p.1,.int .i64 p.2]
/-- So near that nothing wraps around. -/
def Nr (p:Pt):Prop:=(-8000000≤p.1∧p.1≤8000000) ∧ -8000000≤p.2∧p.2≤8000000
def farB (p:Pt):Bool:=decide (p.1 < -1000000∨1000000<p.1∨p.2 < -1000000∨1000000<p.2)
theorem Nr.of_far {p:Pt} (h:farB p=false):Nr p:=by
 simp only [farB,decide_eq_false_iff_not] at h
 unfold Nr;omega
def cmpI (x y:Int):Int:=if x<y then -1 else if y<x then 1 else 0
def turnD (a b c:Pt):Int:=(b.1-a.1)*(c.2-a.2)-(b.2-a.2)*(c.1-a.1)
def sgn (x:Int):Int:=if x<0 then -1 else if 0<x then 1 else 0
theorem cmp_sgn (x y:Int):cmpI x y=sgn (x-y):=by
 unfold cmpI sgn
 split <;> split <;> (try split) <;> (try split) <;> omega
theorem mul_le {x y B C:Int} (h1 : -B≤x) (h2:x≤B) (h3 : -C≤y) (h4:y≤C) : -(B*C)≤x*y∧x*y≤B*C:=by
 have hB:0≤B:=by omega
 have hC:0≤C:=by omega
 have a1:x.natAbs≤B.natAbs:=by omega
 have a2:y.natAbs≤C.natAbs:=by omega
 have a3:=Nat.mul_le_mul a1 a2
 rw [← Int.natAbs_mul,← Int.natAbs_mul] at a3
 have:0≤B*C:=Int.mul_nonneg hB hC
 omega
/-- The products of differences. -/
theorem mul_near {x y:Int} (h:(-16000000≤x∧x≤16000000) ∧ -16000000≤y∧y≤16000000) : -256000000000000≤x*y∧x*y≤256000000000000:=by
 have:=mul_le (B:=16000000) (C:=16000000) h.1.1 h.1.2 h.2.1 h.2.2
 omega
/-- How points are ordered. -/
def ordI (a b:Pt):Int:=if cmpI a.1 b.1≠0 then cmpI a.1 b.1 else cmpI a.2 b.2
/-- Whether a point lies on an edge. -/
def hasB (a b p:Pt):Bool:=if turnD a b p≠0 then false else if 0<ordI a b then decide (ordI b p≤0) && decide (ordI p a≤0) else decide (ordI a p≤0) && decide (ordI p b≤0)
theorem O.neg64 {C:Cx} {e:Env} {w:World} {K:Value→World→Prop} {d:Option Tmp} {ty:TypeId} {pos:String} {aft:Array Edge} {g:Option (Nat × Bool)} {x:Operand} {tx:TypeId} {m:Int} (hx:ev e x=some (.int .i64 m)) (hb : -9223372036854775808≤0-m∧0-m≤9223372036854775807) (h:K (.int .i64 (0-m)) w):O C e ⟨d,.unOp .neg tx x,ty,pos,aft,g⟩ w K :=
 O.neg hx (by rw [IntWalk.i64_in _ hb];exact h)
def mn (a b:Int):Int:=if b<a then b else a
def mx (a b:Int):Int:=if a<b then b else a
theorem lt_mx {a b c:Int} : c<mx a b↔c<a∨c<b:=by unfold mx;split <;> omega
theorem mn_lt {a b c:Int} : mn a b<c↔a<c∨b<c:=by unfold mn;split <;> omega
theorem O.max4 {C:Cx} {e:Env} {w:World} {K:Value→World→Prop} {d:Option Tmp} {ty:TypeId} {pos:String} {aft:Array Edge} {g:Option (Nat × Bool)} {tys:Array TypeId} {x y z u:Operand} {k1 k2 k3 k4:IntKind} {a b c f:Int} (h1:ev e x=some (.int k1 a)) (h2:ev e y=some (.int k2 b)) (h3:ev e z=some (.int k3 c)) (h4:ev e u=some (.int k4 f)) (h:K (.int k1 (mx (mx (mx a b) c) f)) w) :
  O C e ⟨d,.call { callee:=.builtin .max,args:=#[x,y,z,u],argTypes:=tys },ty,pos,aft,g⟩ w K :=
 O.of_run (by simp) (fun q hq=>by
  simp [execOp,resolve,invoke,builtin,hq.eval h1,hq.eval h2,hq.eval h3,hq.eval h4,Builtin.max_,Builtin.max2,mx];rfl) h
theorem sgn_ne {x:Int} : sgn x≠0↔x≠0:=by unfold sgn;split <;> (try split) <;> omega
theorem cfar_calls (p:Pt) (w:World) :
  Calls Tryz.prog 174 #[pV p] w (Ret fun v w'=>v = .bool (farB p)∧Ext w w'):=by
 refine T.enter (vs:=[pV p]) func174 rfl ntmps174 rfl ?_
 refine T.q (L.o (O.box rfl (fun b1 w1 hb1 hz1 he1 hB1=>?_)))
 have hB1':Blk w1 b1 (pC p) 124:=hB1
 refine L.a rfl (L.nil (T.q (L.o (O.fieldAddr runUnderlying124 rfl sizeOf3 rfl (L.o (O.load isAgg3 rfl (hB1'.cell rfl) (L.o (O.fieldAddr runUnderlying124 rfl sizeOf3 rfl (L.o (O.load isAgg3 rfl (hB1'.cell rfl) (L.o (O.min rfl rfl (L.o (O.lss_s rfl rfl (fun h1=>?_) (fun h1=>?_)))))))))))))))
 ·refine L.m rfl (L.p (L.p (L.p (L.p (L.p (L.p (L.o (O.pick_true rfl rfl (L.a rfl (L.nil (T.ret1 results174 rfl ⟨?_,he1⟩)))))))))))
  unfold farB
  rw [← mn,mn_lt] at h1
  rw [decide_eq_true]
  omega
 ·refine L.m rfl (L.o (O.fieldAddr runUnderlying124 rfl sizeOf3 rfl (L.o (O.load isAgg3 rfl (hB1'.cell rfl) (L.o (O.fieldAddr runUnderlying124 rfl sizeOf3 rfl (L.o (O.load isAgg3 rfl (hB1'.cell rfl) (L.o (O.max rfl rfl (L.o (O.gtr rfl rfl (L.o (O.pick_false rfl rfl (L.a rfl (L.nil (T.ret1 results174 rfl ⟨?_,he1⟩)))))))))))))))))
  refine congrArg Value.bool (decide_eq_decide.2 ?_)
  rw [← mn,mn_lt] at h1
  rw [← mx,lt_mx]
  omega

theorem rfar_calls (p:Pt) (w:World) (hp:Nr p) :
  Calls Tryz.prog 241 #[pV p] w (Ret fun v w'=>v = .bool (farB p)∧Ext w w'):=by
 unfold Nr at hp
 refine T.enter (vs:=[pV p]) func241 rfl ntmps241 rfl ?_
 refine T.q (L.o (O.box rfl (fun b1 w1 hb1 hz1 he1 hB1=>?_)))
 have hB1':Blk w1 b1 (pC p) 124:=hB1
 refine L.a rfl (L.nil (T.q (L.o (O.fieldAddr runUnderlying124 rfl sizeOf3 rfl (L.o (O.load isAgg3 rfl (hB1'.cell rfl) (L.o (O.fieldAddr runUnderlying124 rfl sizeOf3 rfl (L.o (O.load isAgg3 rfl (hB1'.cell rfl) (L.o (O.neg64 rfl (by omega) (L.o (O.fieldAddr runUnderlying124 rfl sizeOf3 rfl (L.o (O.load isAgg3 rfl (hB1'.cell rfl) (L.o (O.fieldAddr runUnderlying124 rfl sizeOf3 rfl (L.o (O.load isAgg3 rfl (hB1'.cell rfl) (L.o (O.neg64 rfl (by omega) (L.o (O.max4 rfl rfl rfl rfl (L.o (O.gtr_s rfl rfl (fun h1=>?_) (fun h1=>?_)))))))))))))))))))))))))))
 ·refine L.m rfl (L.p (L.p (L.p (L.p (L.p (L.p (L.o (O.pick_true rfl rfl (L.a rfl (L.nil (T.ret1 results241 rfl ⟨?_,he1⟩)))))))))))
  unfold farB
  rw [lt_mx,lt_mx,lt_mx] at h1
  rw [decide_eq_true]
  omega
 ·refine L.m rfl (L.o (O.fieldAddr runUnderlying124 rfl sizeOf3 rfl (L.o (O.load isAgg3 rfl (hB1'.cell rfl) (L.o (O.fieldAddr runUnderlying124 rfl sizeOf3 rfl (L.o (O.load isAgg3 rfl (hB1'.cell rfl) (L.o (O.min rfl rfl (L.o (O.lss rfl rfl (L.o (O.pick_false rfl rfl (L.a rfl (L.nil (T.ret1 results241 rfl ⟨?_,he1⟩)))))))))))))))))
  refine congrArg Value.bool (decide_eq_decide.2 ?_)
  rw [lt_mx,lt_mx,lt_mx] at h1
  rw [← mn,mn_lt]
  omega

theorem isNaN_calls (x:Int) (w:World) :
  Calls Tryz.prog 270 #[.int .i64 x] w (Ret fun v w'=>v = .bool false∧w'=w):=by
 refine T.enter (vs:=[.int .i64 x]) func270 rfl ntmps270 rfl ?_
 refine T.q (L.a rfl (L.nil (T.q (L.m rfl (L.m rfl (L.o (O.neq_f rfl rfl (by simp) (L.a rfl (L.nil (T.ret1 results270 rfl ⟨rfl,rfl⟩))))))))))

theorem cmp_calls (x y:Int) (w:World) :
  Calls Tryz.prog 264 #[.int .i64 x,.int .i64 y] w (Ret fun v w'=>v = .int .i64 (cmpI x y)∧w'=w):=by
 refine T.enter (vs:=[.int .i64 x,.int .i64 y]) func264 rfl ntmps264 rfl ?_
 refine T.q (L.a rfl (L.nil (T.q (L.m rfl (L.o (O.call (xs:=[.tmp 7]) call270 rfl rfl (isNaN_calls x w) (fun v1 w1 hq=>?_)))))))
 obtain ⟨rfl,rfl⟩:=hq
 refine L.a rfl (L.nil (T.q (L.m rfl (L.o (O.call (xs:=[.tmp 9]) call270 rfl rfl (isNaN_calls y w1) (fun v2 w2 hq=>?_))))))
 obtain ⟨rfl,rfl⟩:=hq
 refine L.a rfl (L.nil (T.seq (T.q (L.m rfl (L.nil (T.cf (T.skip (T.seq (T.q (L.m rfl (L.nil (T.cf (T.skip (T.seq (T.q (L.m rfl (L.m rfl (L.o (O.lss_s rfl rfl (fun h1=>?_) (fun h1=>?_))))))))))))))))))))
 ·refine L.nil (T.ct (T.q (L.a rfl (L.nil (T.ret1 results264 rfl ⟨by rw [cmpI,if_pos h1],rfl⟩)))))
 ·refine L.nil (T.cf (T.skip (T.seq (T.q (L.m rfl (L.m rfl (L.o (O.gtr_s rfl rfl (fun h2=>?_) (fun h2=>?_)))))))))
  ·refine L.nil (T.ct (T.q (L.a rfl (L.nil (T.ret1 results264 rfl ⟨by rw [cmpI,if_neg h1,if_pos h2],rfl⟩)))))
  ·refine L.nil (T.cf (T.skip (T.q (L.a rfl (L.nil (T.ret1 results264 rfl ⟨by rw [cmpI,if_neg h1,if_neg h2],rfl⟩))))))

theorem turn_calls (a b c:Pt) (w:World) (ha:Nr a) (hb:Nr b) (hc:Nr c) :
  Calls Tryz.prog 243 #[pV a,pV b,pV c] w (Ret fun v w'=>v = .int .i64 (sgn (turnD a b c))∧Ext w w'):=by
 unfold Nr at ha hb hc
 refine T.enter (vs:=[pV a,pV b,pV c]) func243 rfl ntmps243 rfl ?_
 refine T.q (L.o (O.box rfl (fun b3 w3 hb3 hz3 he3 hB3=>?_)))
 refine L.o (O.box rfl (fun b4 w4 hb4 hz4 he4 hB4=>?_))
 refine L.o (O.box rfl (fun b5 w5 hb5 hz5 he5 hB5=>?_))
 have hA:Blk w5 b3 (pC a) 124:=Blk.ext (cs:=pC a) (Blk.ext (cs:=pC a) hB3 he4) he5
 have hB:Blk w5 b4 (pC b) 124:=Blk.ext (cs:=pC b) hB4 he5
 have hC:Blk w5 b5 (pC c) 124:=hB5
 have h1:=mul_near (x:=b.1-a.1) (y:=c.2-a.2) (by omega)
 have h2:=mul_near (x:=b.2-a.2) (y:=c.1-a.1) (by omega)
 refine L.a rfl (L.nil (T.q (L.o (O.fieldAddr runUnderlying124 rfl sizeOf3 rfl (L.o (O.load isAgg3 rfl (hB.cell rfl) (L.o (O.fieldAddr runUnderlying124 rfl sizeOf3 rfl (L.o (O.load isAgg3 rfl (hA.cell rfl) (L.o (O.sub64 rfl rfl (by omega) (L.o (O.fieldAddr runUnderlying124 rfl sizeOf3 rfl (L.o (O.load isAgg3 rfl (hC.cell rfl) (L.o (O.fieldAddr runUnderlying124 rfl sizeOf3 rfl (L.o (O.load isAgg3 rfl (hA.cell rfl) (L.o (O.sub64 rfl rfl (by omega) (L.o (O.mul64 rfl rfl (by omega) (L.o (O.fieldAddr runUnderlying124 rfl sizeOf3 rfl (L.o (O.load isAgg3 rfl (hB.cell rfl) (L.o (O.fieldAddr runUnderlying124 rfl sizeOf3 rfl (L.o (O.load isAgg3 rfl (hA.cell rfl) (L.o (O.sub64 rfl rfl (by omega) (L.o (O.fieldAddr runUnderlying124 rfl sizeOf3 rfl (L.o (O.load isAgg3 rfl (hC.cell rfl) (L.o (O.fieldAddr runUnderlying124 rfl sizeOf3 rfl (L.o (O.load isAgg3 rfl (hA.cell rfl) (?_)))))))))))))))))))))))))))))))))))))))))))
 refine L.o (O.sub64 rfl rfl (by omega) (L.o (O.mul64 rfl rfl (by omega) (L.o (O.call (xs:=[.tmp 17,.tmp 28]) call264 rfl rfl (cmp_calls _ _ w5) (fun v6 w6 hq=>?_))))))
 obtain ⟨rfl,rfl⟩:=hq
 refine L.a rfl (L.nil (T.ret1 results243 rfl ⟨by rw [cmp_sgn];rfl,(he3.trans he4).trans he5⟩))

open Go Go.E Go.RowKit

/-- Keys that are compared by looking into them. -/
structure KeyP {α:Type} [DecidableEq α] (P:Program) (kf:α→Value) (kt:TypeId):Prop where
 same:∀ a b w,(Op.equalIn 10000 kt (kf a) (kf b)).run P w = .ok (decide (a=b)) w
 wide:(match P.underlying kt with|some (.array _ _)|some (.struct _)=>true|_=>false)=true
 check:∀ (b:Bool) (a:α) (w:World),(Instr.checkKey b 10000 kt (kf a)).run P w = .ok () w
 bits:∀ a,Instr.sameBits 10000 (kf a) (kf a)=true
section maps
variable {α β:Type} [DecidableEq α] {kf:α→Value} {vf:β→Value} {P:Program} {kt:TypeId}
theorem run_findAsking_p (hK:KeyP P kf kt) (k:α) (w:World):∀ (kvs:List (α × β)) (n i:Nat),(Instr.findAsking kt (kf k) (gEs kf vf n kvs) i).run P w = .ok ((findG kvs k i).map (fun p=>(p.1,vf p.2))) w
 | [],_,_=>by simp [gEs,Instr.findAsking,findG]
 | p::r,n,i=>by
  have ih:=run_findAsking_p hK k w r (n+1) (i+1)
  have hs:=hK.same k p.1 w
  simp only [gEs,gE,Instr.findAsking,Op.equal,Op.maxDepth,Sem.run_bind,hs,Result.andThen_ok,findG]
  by_cases h:k=p.1
  ·simp [h]
  ·simp only [decide_eq_false h,if_neg h,Bool.false_eq_true,if_false]
   exact ih
theorem run_findKey_p (hK:KeyP P kf kt) (k:α) (kvs:List (α × β)) (w:World):(Instr.findKey kt (kf k) (gEs kf vf 0 kvs)).run P w = .ok ((findG kvs k 0).map (fun p=>(p.1,vf p.2))) w:=by
 rw [run_findKey_eq w hK.wide];exact run_findAsking_p hK k w kvs 0 0
end maps
section ops
variable {α β:Type} [DecidableEq α] {kf:α→Value} {vf:β→Value} {kt vt:TypeId}
variable {C:Cx} {e:Env} {w:World} {K:Value→World→Prop} {d:Option Tmp} {ty:TypeId} {pos:String} {aft:Array Edge} {g:Option (Nat × Bool)} {x y z:Operand} {t:TypeId}
theorem O.lookupP {b:Nat} {k:α} {z0:β} {kvs:List (α × β)} (hK:KeyP C.P kf kt) (hu:∀ w,(underlying t).run C.P w = .ok (.map kt vt) w) (hz:∀ w,(zeroValue vt).run C.P w = .ok (vf z0) w)
  (hx:ev e x=some (.map (some b))) (hy:ev e y=some (kf k)) (hm:MapG kf vf w b kvs) (h:K (vf ((getG kvs k).getD z0)) w):O C e ⟨d,.lookup t x y false,ty,pos,aft,g⟩ w K :=
 O.of_run (by simp) (fun a ha=>by
  have hf:=run_findKey_p (vf:=vf) hK k kvs w
  cases hc:findG kvs k 0 with
  | none=>rw [hc] at hf;simp [execOp,Instr.lookup,ha.eval hx,ha.eval hy,hu w,MapKept.run_getObj_map hm,hK.check,hf,hz w,getG,hc]
  | some p=>rw [hc] at hf;simp [execOp,Instr.lookup,ha.eval hx,ha.eval hy,hu w,MapKept.run_getObj_map hm,hK.check,hf,getG,hc]) h
theorem O.mapUpdateP {b:Nat} {k:α} {v:β} {kvs:List (α × β)} (hK:KeyP C.P kf kt) (hu:∀ w,(underlying t).run C.P w = .ok (.map kt vt) w)
  (hx:ev e x=some (.map (some b))) (hy:ev e y=some (kf k)) (hz:ev e z=some (vf v)) (hm:MapG kf vf w b kvs) (h:∀ w',Upd b w w'→MapG kf vf w' b (putG kvs k v)→K undef w'):O C e ⟨d,.mapUpdate t x y z,ty,pos,aft,g⟩ w K:=by
 have hf:=run_findKey_p (vf:=vf) hK k kvs w
 have hlt:=hm.lt
 cases hc:findG kvs k 0 with
 | none =>
  rw [hc] at hf
  refine O.of_skip (w':={ w with heap:=w.heap.setIfInBounds b (.map ((gEs kf vf 0 kvs).toArray.push { key:=kf k,val:=vf v,born:=kvs.length }) (kvs.length+1)) }) (by simp) (fun a ha=>by
   simp [execOp,Instr.mapUpdate,ha.eval hx,ha.eval hy,ha.eval hz,hu w,MapKept.run_getObj_map hm,hK.check,hf,MapKept.run_setObj_map _ hm]) (h _ ?_ ?_)
  ·exact upd_putObj w b _
  ·have e:putG kvs k v=kvs ++ [(k,v)]:=by rw [putG,hc]
   unfold MapG
   rw [e,gEs_snoc,Array.getElem?_setIfInBounds_self]
   simp [hlt,gE]
 | some p =>
  rw [hc] at hf
  obtain ⟨_,hg⟩:=findG_get kvs k 0 (i:=p.1) (v:=p.2) hc
  rw [Nat.sub_zero] at hg
  have hes:(gEs kf vf 0 kvs).toArray[p.1]?=some (gE kf vf (k,p.2) p.1):=by simp [gEs_get,hg]
  have hmod:=gEs_modify (kf:=kf) (vf:=vf) kvs p.1 (k,v) (fun e=>{ e with key:=kf k,val:=vf v }) (fun q _=>rfl)
  refine O.of_skip (w':={ w with heap:=w.heap.setIfInBounds b (.map ((gEs kf vf 0 kvs).toArray.modify p.1 fun e=>{ e with key:=kf k,val:=vf v }) kvs.length) }) (by simp) (fun a ha=>by
   have hst:(Instr.keyThatStays (kf k) (kf k)).run C.P w = .ok (kf k) w:=by simp [Instr.keyThatStays,hK.bits k]
   simp only [execOp,Instr.mapUpdate,ha.eval hx,ha.eval hy,ha.eval hz,Sem.run_bind,hu w,Result.andThen_ok,MapKept.run_getObj_map hm,hK.check,hf,Option.map_some]
   rw [hes]
   simp [gE,hst,MapKept.run_setObj_map _ hm]) (h _ ?_ ?_)
  ·exact upd_putObj w b _
  ·have e:putG kvs k v=kvs.set p.1 (k,v):=by rw [putG,hc]
   unfold MapG
   rw [hmod,e,Array.getElem?_setIfInBounds_self]
   simp [hlt]
theorem O.lenMapG {b:Nat} {kvs:List (α × β)} (hu:∀ w,(underlying t).run C.P w = .ok (.map kt vt) w) (hx:ev e x=some (.map (some b))) (hm:MapG kf vf w b kvs) (h:K (.int .i64 kvs.length) w) :
  O C e ⟨d,.call { callee:=.builtin .len,args:=#[x],argTypes:=#[t] },ty,pos,aft,g⟩ w K :=
 O.of_run (by simp) (fun a ha=>by
  simp [execOp,resolve,invoke,builtin,Builtin.len_,ha.eval hx,hu w,MapKept.run_getObj_map hm,goInt,gEs_len]) h
end ops
theorem pV_bits (a:Pt):Instr.sameBits 10000 (pV a) (pV a)=true:=by
 simp [pV,Instr.sameBits]
theorem part3 (cs:Array Value) (i:Nat) (v:Value) (w:World) (h:cs[i]?=some v):(part 3 cs i).run Tryz.prog w = .ok v w:=by
 simp [part,isAgg3 w,h]
theorem eq3 (n:Nat) (x y:Int) (w:World):(Op.equalIn (n+1) 3 (.int .i64 x) (.int .i64 y)).run Tryz.prog w = .ok (x == y) w:=run_equalIn_int w n 3 _ .i64 x y (by kernel_rfl)
theorem eqPt (a b:Pt) (w:World):(Op.equalIn 10000 124 (pV a) (pV b)).run Tryz.prog w = .ok (decide (a=b)) w:=by
 obtain ⟨a1,a2⟩:=a
 obtain ⟨b1,b2⟩:=b
 unfold pV
 rw [run_equalIn_struct w 9999 124 _ _ (by kernel_rfl) (by kernel_rfl)]
 rw [show (Tryz.prog.fieldsOf 124).toList = [{ name := "X", type := 3, offset := 0, embedded := false, tag := "", pkgPath := "", byteOffset := 0 }, { name := "Y", type := 3, offset := 1, embedded := false, tag := "", pkgPath := "", byteOffset := 8 }] from by kernel_rfl]
 have p0:∀ (x y:Int) (w:World),(part 3 #[Value.int .i64 x,Value.int .i64 y] 0).run Tryz.prog w = .ok (.int .i64 x) w:=fun x y w=>part3 _ _ _ w rfl
 have p1:∀ (x y:Int) (w:World),(part 3 #[Value.int .i64 x,Value.int .i64 y] 1).run Tryz.prog w = .ok (.int .i64 y) w:=fun x y w=>part3 _ _ _ w rfl
 have e3:=eq3 9998
 simp only [Op.eqFields]
 by_cases h1:a1=b1 <;> by_cases h2:a2=b2 <;> simp [h1,h2,p0,p1,e3]
theorem eqPair (a b:Pt) (w:World):(Op.equalIn 10000 279 (pV a) (pV b)).run Tryz.prog w = .ok (decide (a=b)) w:=by
 obtain ⟨a1,a2⟩:=a
 obtain ⟨b1,b2⟩:=b
 unfold pV
 rw [run_equalIn_array w 9999 (n:=2) (e:=3) _ _ (by kernel_rfl) (i:=_) (by rfl)]
 have hc:Tryz.prog.cellsOf 3=1:=by kernel_rfl
 have p0:∀ (x y:Int) (w:World),(part 3 #[Value.int .i64 x,Value.int .i64 y] 0).run Tryz.prog w = .ok (.int .i64 x) w:=fun x y w=>part3 _ _ _ w rfl
 have p1:∀ (x y:Int) (w:World),(part 3 #[Value.int .i64 x,Value.int .i64 y] 1).run Tryz.prog w = .ok (.int .i64 y) w:=fun x y w=>part3 _ _ _ w rfl
 have e3:=eq3 9998
 rw [hc]
 by_cases h1:a1=b1 <;> by_cases h2:a2=b2 <;> simp [List.range,List.range.loop,Op.eqItems,h1,h2,p0,p1,e3]
theorem key_pt:KeyP Tryz.prog pV 124:=⟨eqPt,by kernel_rfl,fun b a w=>by
 obtain ⟨a1,a2⟩:=a
 have hu:Tryz.prog.underlying 3=some (.int .i64):=by kernel_rfl
 have p0:∀ (x y:Int) (w:World),(part 3 #[Value.int .i64 x,Value.int .i64 y] 0).run Tryz.prog w = .ok (.int .i64 x) w:=fun x y w=>part3 _ _ _ w rfl
 have p1:∀ (x y:Int) (w:World),(part 3 #[Value.int .i64 x,Value.int .i64 y] 1).run Tryz.prog w = .ok (.int .i64 y) w:=fun x y w=>part3 _ _ _ w rfl
 have hq : Tryz.prog.underlying 124 = some (.struct #[{ name := "X", type := 3, offset := 0, embedded := false, tag := "", pkgPath := "", byteOffset := 0 }, { name := "Y", type := 3, offset := 1, embedded := false, tag := "", pkgPath := "", byteOffset := 8 }]) := by kernel_rfl
 have hc:∀ (v:Int) (w:World),(Instr.checkKey b 9999 3 (.int .i64 v)).run Tryz.prog w = .ok () w:=fun v w=>MapKept.run_checkKey (k:=.int .i64 v) hu rfl b 9998
 unfold pV
 rw [Instr.checkKey]
 simp [run_underlying hq,p0,p1,hc],pV_bits⟩
theorem key_pair:KeyP Tryz.prog pV 279:=⟨eqPair,by kernel_rfl,fun b a w=>by
 obtain ⟨a1,a2⟩:=a
 have hu:Tryz.prog.underlying 3=some (.int .i64):=by kernel_rfl
 have p0:∀ (x y:Int) (w:World),(part 3 #[Value.int .i64 x,Value.int .i64 y] 0).run Tryz.prog w = .ok (.int .i64 x) w:=fun x y w=>part3 _ _ _ w rfl
 have p1:∀ (x y:Int) (w:World),(part 3 #[Value.int .i64 x,Value.int .i64 y] 1).run Tryz.prog w = .ok (.int .i64 y) w:=fun x y w=>part3 _ _ _ w rfl
 have hq:Tryz.prog.underlying 279=some (.array 2 3):=by kernel_rfl
 have hc:∀ (v:Int) (w:World),(Instr.checkKey b 9999 3 (.int .i64 v)).run Tryz.prog w = .ok () w:=fun v w=>MapKept.run_checkKey (k:=.int .i64 v) hu rfl b 9998
 unfold pV
 rw [Instr.checkKey]
 simp [run_underlying hq,p0,p1,hc,sizeOf3,List.range'],pV_bits⟩
open Go Go.E

/-- The first number that is not 0. -/
def orI:List Int→Int
 | []=>0
 | x::r=>if x≠0 then x else orI r
theorem orI_two (a b:Int):orI [a,b]=if a≠0 then a else b:=by
 simp only [orI]
 split
 ·rfl
 ·split
  ·rfl
  ·omega
theorem orI_drop (xs:List Int) (i:Nat) (hi:i<xs.length):orI (xs.drop i)=if xs.getD i 0≠0 then xs.getD i 0 else orI (xs.drop (i+1)):=by
 rw [List.drop_eq_getElem_cons hi,orI,getD_get hi]
/-- A box for a point, of one's own. -/
def PtB (base:Nat) (v:Value) (w:World):Prop:=∃ b c,v = .pointer (some ⟨b,0,none⟩)∧base≤b∧Blk w b (pC c) 124
theorem PtB.lt {base:Nat} {v:Value} {w:World} (h:PtB base v w):∀ b,ptrBlk v=some b→b<w.heap.size:=fun b hb=>by
 obtain ⟨b',c,rfl,_,h2⟩:=h
 cases hb;exact h2.lt
/-- What operations may turn that fill boxes with the point a. -/
structure RelB (base:Nat) (a:Pt) (w w':World):Prop where
 own:∀ b c,base≤b→Blk w b (pC c) 124→∃ c',Blk w' b (pC c') 124∧(c=a→c'=a)
theorem RelB.of_ext {base:Nat} {a:Pt} {w w':World} (h:Ext w w'):RelB base a w w':=⟨fun b c _ hB=>⟨c,Blk.ext (cs:=pC c) hB h,id⟩⟩
theorem pC_one (a:Pt):∀ u∈pC a,u.oneCell'=true:=by intro u hu;simp [pC] at hu;rcases hu with (rfl|rfl) <;> rfl
theorem RelB.upd {base:Nat} {a:Pt} {b:Nat} {w w':World} (hu:Upd b w w') (hB:Blk w' b (pC a) 124):RelB base a w w':=⟨fun b' c _ hB'=>by
 by_cases e:b'=b
 ·subst e;exact ⟨a,hB,fun _=>rfl⟩
 ·exact ⟨c,Blk.upd (cs:=pC c) hB' hu e,id⟩⟩
theorem PtB.st {base:Nat} {a:Pt} : ∀ v w w',RelB base a w w'→PtB base v w→PtB base v w':=fun v w w' h ⟨b,c,h1,h2,h3⟩=>by
 obtain ⟨c',k1,_⟩:=h.own b c h2 h3
 exact ⟨b,c',h1,h2,k1⟩
def eV (n:Int) (a b:Pt):Value:=.agg #[.int .i64 n,.int .i64 a.1,.int .i64 a.2,.int .i64 b.1,.int .i64 b.2]
def eC (n:Int) (a b:Pt):List Value:=[.int .i64 n,.int .i64 a.1,.int .i64 a.2,.int .i64 b.1,.int .i64 b.2]
theorem eC_a {n:Int} {a b:Pt} {w:World} {bl:Nat} {t:TypeId} (h:Blk w bl (eC n a b) t):Row w ((⟨bl,0,none⟩:Addr).add 1) (pC a):=(Row.of_blk h).part 1 2
theorem eC_b {n:Int} {a b:Pt} {w:World} {bl:Nat} {t:TypeId} (h:Blk w bl (eC n a b) t):Row w ((⟨bl,0,none⟩:Addr).add 3) (pC b):=(Row.of_blk h).part 3 2
theorem or_calls (lo:Nat) (p:Value) (xs:List Int) (w:World) (hp:Ints .i64 lo w p xs) :
  Calls Tryz.prog 273 #[p] w (Ret fun v w'=>v = .int .i64 (orI xs)∧w'=w):=by
 have hle:=Sl.le hp
 refine T.enter (vs:=[p]) func273 rfl ntmps273 rfl ?_
 refine T.q (L.a rfl (L.nil (T.q (L.a rfl (L.nil (T.seq (T.q (L.m rfl (L.o (O.len runUnderlying30 rfl (Sl.val hp) (L.m rfl (L.nil (T.block (?_))))))))))))))
 refine T.loop (σ:=Nat) (fun i=>[(3,.int .i64 0),(6,p),(7,.int .i64 xs.length),(8,.int .i64 i)]) (fun i w'=>i≤xs.length∧w'=w∧orI xs=orI (xs.drop i)) (fun i=>xs.length-i) (0) ⟨rfl,rfl,rfl,rfl,trivial⟩ ⟨Nat.zero_le _,rfl,by rw [List.drop_zero]⟩ ?_
 rintro i w1 ⟨hi,rfl,he⟩
 refine T.q (L.o (O.lss_s rfl rfl (fun hlt=>?_) (fun hlt=>?_)))
 ·refine L.nil (?_)
  have hlt':i<xs.length:=by omega
  rw [orI_drop xs i hlt'] at he
  refine T.seq (T.ct (T.skip (T.seq (T.block (T.q (L.o (O.indexAddr runUnderlying30 sizeOf3 rfl rfl hp (by omega) (by omega) (L.o (O.load isAgg3 rfl (Ints.at hp hlt') (L.a rfl (L.nil (T.q (L.m rfl (L.m rfl (L.o (O.neq_s rfl rfl (fun h0=>?_) (fun h0=>?_)))))))))))))))))
  ·refine L.nil (T.ct (T.q (L.m rfl (L.a rfl (L.nil (T.ret1 results273 rfl ⟨by rw [he,if_pos h0],rfl⟩))))))
  ·refine L.nil (T.cf (T.skip (T.blk (T.region (L.o (O.add64 rfl rfl (by omega) (L.m rfl (L.nil (T.again (i+1) (by omega) ⟨rfl,rfl,rfl,rfl,trivial⟩ ⟨hlt',rfl,by rw [he,if_neg (fun h=>h h0)]⟩)))))))))
 ·refine L.nil (T.seq (T.cf (T.exit rfl (T.q (L.m rfl (L.a rfl (L.nil (T.ret1 results273 rfl ⟨by rw [he,List.drop_of_length_le (by omega)];rfl,rfl⟩))))))))

theorem order_calls (a b:Pt) (w:World) :
  Calls Tryz.prog 271 #[pV a,pV b] w (Ret fun v w'=>v = .int .i64 (ordI a b)∧Ext w w'):=by
 refine T.enter (vs:=[pV a,pV b]) func271 rfl ntmps271 rfl ?_
 refine T.q (L.o (O.box rfl (fun b2 w2 hb2 hz2 he2 hB2=>?_)))
 refine L.o (O.box rfl (fun b3 w3 hb3 hz3 he3 hB3=>?_))
 have hA:Blk w3 b2 (pC a) 124:=Blk.ext (cs:=pC a) hB2 he3
 have hB:Blk w3 b3 (pC b) 124:=hB3
 refine L.a rfl (L.nil (T.seq (?_)))
 refine T.anyE mixed 9 [2,3] rfl [.is _,.is _,.is _,.is _,.is (.int .i64 (cmpI a.1 b.1)),.is _,.is _,.is _,.is _] [[],[0],[],[2],[1,3],[],[5],[],[7]] [[],[0],[],[2],[0,1,2,3],[],[5],[],[7],[0,1,2,3,4,5,6,7,8],[0,1,2,3,4,5,6,7,8,9],[0,1,2,3,4,5,6,7,8,9,10],[0,1,2,3,4,5,6,7,8,9,10,11]] (by kernel_rfl) (by kernel_rfl) rfl (by kernel_rfl) trivial ⟨fun wx hx=>Ob.o (O.fieldAddr runUnderlying124 rfl sizeOf3 rfl kR),
   fun wx hx=>Ob.o (O.load isAgg3 rfl ((hA.ext hx).cell rfl) kR),
   fun wx hx=>Ob.o (O.fieldAddr runUnderlying124 rfl sizeOf3 rfl kR),
   fun wx hx=>Ob.o (O.load isAgg3 rfl ((hB.ext hx).cell rfl) kR),
   fun wx hx=>Ob.o (O.call (xs:=[.tmp 6,.tmp 8]) call264 rfl rfl (cmp_calls a.1 b.1 wx) (fun v wy h=>⟨Keep.of_eq h.2,h.1⟩)),
   fun wx hx=>Ob.o (O.fieldAddr runUnderlying124 rfl sizeOf3 rfl kR),
   fun wx hx=>Ob.o (O.load isAgg3 rfl ((hA.ext hx).cell rfl) kR),
   fun wx hx=>Ob.o (O.fieldAddr runUnderlying124 rfl sizeOf3 rfl kR),
   fun wx hx=>Ob.o (O.load isAgg3 rfl ((hB.ext hx).cell rfl) kR),
   trivial⟩ (fun w4 he4=>?_)
 refine L.o (O.call (xs:=[.tmp 11,.tmp 13]) call264 rfl rfl (cmp_calls a.2 b.2 w4) (fun v4 w4' hq=>?_))
 obtain ⟨rfl,hw4⟩:=hq
 subst hw4
 refine L.o (O.buildSlice (el:=3) (parts:=[(0,.tmp 9),(1,.tmp 14)]) (vs:=[(0,_),(1,_)]) (cs:=[.int .i64 (cmpI a.1 b.1),.int .i64 (cmpI a.2 b.2)]) rfl (fun w=>by kernel_rfl) (fun b5 w5 hb5 hz5 he5 hB5=>?_))
 have hI5:Ints .i64 0 w5 (.slice (some ⟨b5,0,none⟩) 2 2) [cmpI a.1 b.1,cmpI a.2 b.2]:=Ints.of_blk (xs:=[cmpI a.1 b.1,cmpI a.2 b.2]) hB5 rfl (by decide) (Nat.zero_le _)
 refine L.o (O.call (xs:=[.tmp 15]) call273 rfl rfl (or_calls 0 _ _ w5 hI5) (fun v6 w6 hq=>?_))
 obtain ⟨rfl,rfl⟩:=hq
 refine L.a rfl (L.nil (T.ret1 results271 rfl ⟨?_,?_⟩))
 ·rw [orI_two];rfl
 ·exact (he2.trans he3).trans (he4.trans he5)

theorem ehas_calls (n:Int) (a b p:Pt) (w:World) (ha:Nr a) (hb:Nr b) (hp:Nr p) :
  Calls Tryz.prog 265 #[eV n a b,pV p] w (Ret fun v w'=>v = .bool (hasB a b p)∧Ext w w'):=by
 refine T.enter (vs:=[eV n a b,pV p]) func265 rfl ntmps265 rfl ?_
 refine T.q (L.o (O.box rfl (fun b2 w2 hb2 hz2 he2 hB2=>?_)))
 refine L.o (O.box rfl (fun b3 w3 hb3 hz3 he3 hB3=>?_))
 have hE:Blk w3 b2 (eC n a b) 315:=Blk.ext (cs:=eC n a b) hB2 he3
 have hP:Blk w3 b3 (pC p) 124:=hB3
 refine L.a rfl (L.nil (T.seq (T.q (L.o (O.fieldAddr runUnderlying315 rfl sizeOf124 rfl (L.o (O.loadAgg isAgg124 sizeOf124 rfl rfl (eC_a hE) (L.o (O.fieldAddr runUnderlying315 rfl sizeOf124 rfl (L.o (O.loadAgg isAgg124 sizeOf124 rfl rfl (eC_b hE) (L.o (O.loadAgg isAgg124 sizeOf124 rfl rfl hP.row (L.o (O.call (xs:=[.tmp 8,.tmp 10,.tmp 11]) call243 rfl rfl (turn_calls a b p w3 ha hb hp) (fun v4 w4 hq=>?_))))))))))))))))
 obtain ⟨rfl,he4⟩:=hq
 have hE4:=Blk.ext (cs:=eC n a b) hE he4
 have hP4:=Blk.ext (cs:=pC p) hP he4
 have he04:=(he2.trans he3).trans he4
 refine L.o (O.neq_s rfl rfl (fun h0=>?_) (fun h0=>?_))
 ·refine L.nil (T.ct (T.q (L.a rfl (L.nil (T.ret1 results265 rfl ⟨by rw [hasB,if_pos (sgn_ne.1 h0)],he04⟩)))))
 ·refine L.nil (?_)
  have h0':¬ turnD a b p≠0:=fun h=>sgn_ne.2 h h0
  refine T.cf (T.skip (T.seq (?_)))
  refine T.anyF2 mixed 7 1 [2] rfl [.is _,.is _,.is _,.is _,.such (PtB w4.heap.size),.such (PtB w4.heap.size),.is undef] [[],[0],[],[2],[],[],[4,1]] [none,none,none,none,none,none,some 0] [[],[0],[],[2],[],[],[0,1,4,5],[0,1,2,3,4,5,6]] [4,5] [(6,4,5)] (fun _ _ u _ W=>∃ b,u = .pointer (some ⟨b,0,none⟩)∧w4.heap.size≤b∧Blk W b (pC a) 124) (fun _ W=>Ext w4 W) (RelB w4.heap.size a) (fun i f v w hi hf hh=>by { rcases (show i=4∨i=5 by simpa using hi) with rfl|rfl <;> (simp only [List.getElem?_cons_succ,List.getElem?_cons_zero,Option.some.injEq] at hf;subst hf;exact PtB.lt hh) }) (fun i j vi vj W W' hr ⟨b,h1,h2,h3⟩=>(hr.own b a h2 h3).elim fun c' k=>⟨b,h1,h2,(k.2 rfl)▸k.1⟩) (by kernel_rfl) (by kernel_rfl) (by kernel_rfl) (by kernel_rfl) rfl ⟨PtB.st,PtB.st,trivial⟩ (Keep.drew _ _) ⟨fun c wx hx=>ObX.op rfl (O.fieldAddr runUnderlying315 rfl sizeOf124 rfl ⟨⟨RelB.of_ext (Keep.refl _ _),hx⟩,rfl,trivial,trivial⟩),
    fun c wx hx=>ObX.op rfl (O.loadAgg isAgg124 sizeOf124 rfl rfl (eC_a (Blk.ext (cs:=eC n a b) hE4 hx)) ⟨⟨RelB.of_ext (Keep.refl _ _),hx⟩,rfl,trivial,trivial⟩),
    fun c wx hx=>ObX.op rfl (O.fieldAddr runUnderlying315 rfl sizeOf124 rfl ⟨⟨RelB.of_ext (Keep.refl _ _),hx⟩,rfl,trivial,trivial⟩),
    fun c wx hx=>ObX.op rfl (O.loadAgg isAgg124 sizeOf124 rfl rfl (eC_b (Blk.ext (cs:=eC n a b) hE4 hx)) ⟨⟨RelB.of_ext (Keep.refl _ _),hx⟩,rfl,trivial,trivial⟩),
    fun c wx hx=>ObX.op rfl (O.alloc zeroValue124 (fun b wy hb hz he hB=>and3 ⟨⟨RelB.of_ext he,hx.trans he⟩,b,(0,0),rfl,by have:=hx.size;omega,hB⟩ ⟨fun q hq=>by { cases hq;exact Nat.le_of_eq hb.symm },trivial⟩)),
    fun c wx hx=>ObX.op rfl (O.alloc zeroValue124 (fun b wy hb hz he hB=>and3 ⟨⟨RelB.of_ext he,hx.trans he⟩,b,(0,0),rfl,by have:=hx.size;omega,hB⟩ ⟨fun q hq=>by { cases hq;exact Nat.le_of_eq hb.symm },trivial⟩)),
    fun wx hx v5 hv5=>by { obtain ⟨b5,c5,rfl,hb5,hB5⟩:=hv5;exact ObX.op rfl (O.storeAgg sizeOf124 rfl rfl rfl hB5 (Nat.le_refl _) (pC_one a) (fun w8 hu8 hB8=>and3 ⟨⟨RelB.upd hu8 hB8,hx.upd hu8 (.inr hb5)⟩,rfl⟩ ⟨trivial,fun u hu=>by { cases hu;exact ⟨b5,rfl,hb5,hB8⟩ }⟩)) },
    trivial⟩ (fun w7 hI7 v5 hv5 v6 hv6 hp7=>?_)
  obtain ⟨vj,hvj,hfr,_⟩:=hp7 4 5 _ _ _ _ (by decide) (by decide) rfl rfl rfl rfl
  obtain rfl:=hvj _ _ rfl rfl
  obtain ⟨_,_,_,hlk⟩:=hp7 4 6 _ _ _ _ (by decide) (by decide) rfl rfl rfl rfl
  obtain ⟨b5,rfl,hb5,hB5⟩:=hlk rfl
  obtain ⟨b6,c6,rfl,hb6,hB6⟩:=hv6
  have hne:b5≠b6:=fun e=>hfr b5 rfl (by rw [e];rfl)
  refine L.o (O.storeAgg sizeOf124 rfl rfl rfl hB6 (Nat.le_refl _) (pC_one b) (fun w8 hu8 hB8=>?_))
  have hA8:Blk w8 b5 (pC a) 124:=Blk.upd (cs:=pC a) hB5 hu8 hne
  have hB8':Blk w8 b6 (pC b) 124:=hB8
  have he48:Ext w4 w8:=hI7.upd hu8 (.inr hb6)
  have hP8:=Blk.ext (cs:=pC p) hP4 he48
  refine L.nil (T.seq (T.q (L.o (O.loadAgg isAgg124 sizeOf124 rfl rfl hA8.row (L.o (O.loadAgg isAgg124 sizeOf124 rfl rfl hB8'.row (L.o (O.call (xs:=[.tmp 18,.tmp 19]) call271 rfl rfl (order_calls a b w8) (fun v9 w9 hq=>?_)))))))))
  obtain ⟨rfl,he9⟩:=hq
  have hA9:=Blk.ext (cs:=pC a) hA8 he9
  have hB9:=Blk.ext (cs:=pC b) hB8' he9
  have hP9:=Blk.ext (cs:=pC p) hP8 he9
  refine L.o (O.gtr_s rfl rfl (fun hsw=>?_) (fun hsw=>?_))
  ·refine L.nil (T.ct (T.region (L.o (O.loadAgg isAgg124 sizeOf124 rfl rfl hB9.row (L.o (O.loadAgg isAgg124 sizeOf124 rfl rfl hA9.row (L.o (O.storeAgg sizeOf124 rfl rfl rfl hA9 (Nat.le_refl _) (pC_one b) (fun w10 hu10 hB10=>?_)))))))))
   refine L.o (O.storeAgg sizeOf124 rfl rfl rfl (Blk.upd (cs:=pC b) hB9 hu10 hne.symm) (Nat.le_refl _) (pC_one a) (fun w11 hu11 hB11=>?_))
   have he911:Ext w4 w11:=((he48.trans he9).upd hu10 (.inr hb5)).upd hu11 (.inr hb6)
   have hA11:Blk w11 b5 (pC b) 124:=Blk.upd (cs:=pC b) hB10 hu11 hne
   have hB11':Blk w11 b6 (pC a) 124:=hB11
   have hP11:=Blk.ext (cs:=pC p) hP4 he911
   refine L.nil (T.q (L.o (O.loadAgg isAgg124 sizeOf124 rfl rfl hA11.row (L.o (O.loadAgg isAgg124 sizeOf124 rfl rfl hP11.row (L.o (O.call (xs:=[.tmp 24,.tmp 25]) call271 rfl rfl (order_calls b p w11) (fun v12 w12 hq=>?_))))))))
   obtain ⟨rfl,he12⟩:=hq
   refine L.o (O.leq_s rfl rfl (fun h1=>?_) (fun h1=>?_))
   ·refine L.m rfl (L.o (O.loadAgg isAgg124 sizeOf124 rfl rfl ((Blk.ext (cs:=pC p) hP11 he12).row) (L.o (O.loadAgg isAgg124 sizeOf124 rfl rfl ((Blk.ext (cs:=pC a) hB11' he12).row) (L.o (O.call (xs:=[.tmp 29,.tmp 30]) call271 rfl rfl (order_calls p a w12) (fun v13 w13 hq=>?_)))))))
    obtain ⟨rfl,he13⟩:=hq
    refine L.o (O.leq rfl rfl (L.o (O.pick_true rfl rfl (L.a rfl (L.nil (T.ret1 results265 rfl ⟨by rw [hasB,if_neg h0',if_pos hsw,decide_eq_true h1];rfl,he04.trans (he911.trans (he12.trans he13))⟩))))))
   ·refine L.m rfl (L.p (L.p (L.p (L.p (L.o (O.pick_false rfl rfl (L.a rfl (L.nil (T.ret1 results265 rfl ⟨by rw [hasB,if_neg h0',if_pos hsw,decide_eq_false h1];rfl,he04.trans (he911.trans he12)⟩)))))))))
  ·refine L.nil (T.cf (T.skip (T.q (L.o (O.loadAgg isAgg124 sizeOf124 rfl rfl hA9.row (L.o (O.loadAgg isAgg124 sizeOf124 rfl rfl hP9.row (L.o (O.call (xs:=[.tmp 24,.tmp 25]) call271 rfl rfl (order_calls a p w9) (fun v12 w12 hq=>?_))))))))))
   obtain ⟨rfl,he12⟩:=hq
   refine L.o (O.leq_s rfl rfl (fun h1=>?_) (fun h1=>?_))
   ·refine L.m rfl (L.o (O.loadAgg isAgg124 sizeOf124 rfl rfl ((Blk.ext (cs:=pC p) hP9 he12).row) (L.o (O.loadAgg isAgg124 sizeOf124 rfl rfl ((Blk.ext (cs:=pC b) hB9 he12).row) (L.o (O.call (xs:=[.tmp 29,.tmp 30]) call271 rfl rfl (order_calls p b w12) (fun v13 w13 hq=>?_)))))))
    obtain ⟨rfl,he13⟩:=hq
    refine L.o (O.leq rfl rfl (L.o (O.pick_true rfl rfl (L.a rfl (L.nil (T.ret1 results265 rfl ⟨by rw [hasB,if_neg h0',if_neg hsw,decide_eq_true h1];rfl,he04.trans (he48.trans (he9.trans (he12.trans he13)))⟩))))))
   ·refine L.m rfl (L.p (L.p (L.p (L.p (L.o (O.pick_false rfl rfl (L.a rfl (L.nil (T.ret1 results265 rfl ⟨by rw [hasB,if_neg h0',if_neg hsw,decide_eq_false h1];rfl,he04.trans (he48.trans (he9.trans he12))⟩)))))))))

open Go Go.E

def comB (a b c d x:Pt):Bool:=hasB a b x && hasB c d x
def comK (a b c d:Pt):List Pt→List (Pt × Bool)→List (Pt × Bool)
 | [],kvs=>kvs
 | x::r,kvs=>comK a b c d r (if comB a b c d x then putG kvs x true else kvs)
/-- How two edges meet. -/
def meetI (a b c d:Pt):Int :=
 if 1<((comK a b c d [a,b,c,d] []).length:Int) then 3 else if ((comK a b c d [a,b,c,d] []).length:Int)=1 then 1
 else if sgn (turnD a b c)*sgn (turnD a b d)<0∧sgn (turnD c d a)*sgn (turnD c d b)<0 then 2 else 0
theorem sgn_bnd (x:Int) : -1≤sgn x∧sgn x≤1:=by unfold sgn;split <;> (try split) <;> omega
theorem mul_sgn (x y:Int) : -1≤sgn x*sgn y∧sgn x*sgn y≤1:=by
 have:=mul_le (x:=sgn x) (y:=sgn y) (B:=1) (C:=1) (sgn_bnd x).1 (sgn_bnd x).2 (sgn_bnd y).1 (sgn_bnd y).2
 omega
def four4 (a b c d:Pt):List Value:=pC a++pC b++pC c++pC d
theorem four4_get {a b c d:Pt} {i:Nat} (hi:i<4):((four4 a b c d).drop ((i:Int).toNat*2)).take 2=pC ([a,b,c,d].getD i a):=by
 rcases (show i=0∨i=1∨i=2∨i=3 by omega) with rfl|rfl|rfl|rfl <;> rfl
theorem four_nr {a b c d:Pt} {i:Nat} (hi:i<4) (ha:Nr a) (hb:Nr b) (hc:Nr c) (hd:Nr d):Nr ([a,b,c,d].getD i a):=by
 rcases (show i=0∨i=1∨i=2∨i=3 by omega) with rfl|rfl|rfl|rfl <;> assumption
theorem comK_step {a b c d:Pt} {i:Nat} (hi:i<4) (kvs:List (Pt × Bool)):comK a b c d ([a,b,c,d].drop i) kvs=comK a b c d ([a,b,c,d].drop (i+1)) (if comB a b c d ([a,b,c,d].getD i a) then putG kvs ([a,b,c,d].getD i a) true else kvs):=by
 rcases (show i=0∨i=1∨i=2∨i=3 by omega) with rfl|rfl|rfl|rfl <;> rfl
theorem comK_step' {a b c d x:Pt} {i:Nat} (hi:i<4) (hx:x = [a,b,c,d].getD i a) (kvs:List (Pt × Bool)):comK a b c d ([a,b,c,d].drop i) kvs=comK a b c d ([a,b,c,d].drop (i+1)) (if comB a b c d x then putG kvs x true else kvs):=by
 subst hx;exact comK_step hi kvs
theorem meets_calls (n m:Int) (a b c d:Pt) (w:World) (ha:Nr a) (hb:Nr b) (hc:Nr c) (hd:Nr d) :
  Calls Tryz.prog 244 #[eV n a b,eV m c d] w (Ret fun v w'=>v = .int .i64 (meetI a b c d)∧Ext w w'):=by
 refine T.enter (vs:=[eV n a b,eV m c d]) func244 rfl ntmps244 rfl ?_
 refine T.q (L.o (O.box rfl (fun b2 w2 hb2 hz2 he2 hB2=>?_)))
 refine L.o (O.box rfl (fun b3 w3 hb3 hz3 he3 hB3=>?_))
 have hE:Blk w3 b2 (eC n a b) 315:=Blk.ext (cs:=eC n a b) hB2 he3
 have hF:Blk w3 b3 (eC m c d) 315:=hB3
 refine L.a rfl (L.nil (T.seq (?_)))
 refine T.anyE mixed 13 [2,3] rfl [.is _,.is _,.is _,.is _,.is _,.is _,.is (.int .i64 (sgn (turnD a b c))),.is _,.is _,.is _,.is _,.is _,.is _] [[],[0],[],[2],[],[4],[1,3,5],[],[7],[],[9],[],[11]] [[],[0],[],[2],[],[4],[0,1,2,3,4,5],[],[7],[],[9],[],[11],[0,1,2,3,4,5,6,7,8,9,10,11,12],[0,1,2,3,4,5,6,7,8,9,10,11,12,13],[0,1,2,3,4,5,6,7,8,9,10,11,12,13,14]] (by kernel_rfl) (by kernel_rfl) rfl (by kernel_rfl) trivial ⟨fun wx hx=>Ob.o (O.fieldAddr runUnderlying315 rfl sizeOf124 rfl kR),
   fun wx hx=>Ob.o (O.loadAgg isAgg124 sizeOf124 rfl rfl (eC_a (Blk.ext (cs:=eC n a b) hE hx)) kR),
   fun wx hx=>Ob.o (O.fieldAddr runUnderlying315 rfl sizeOf124 rfl kR),
   fun wx hx=>Ob.o (O.loadAgg isAgg124 sizeOf124 rfl rfl (eC_b (Blk.ext (cs:=eC n a b) hE hx)) kR),
   fun wx hx=>Ob.o (O.fieldAddr runUnderlying315 rfl sizeOf124 rfl kR),
   fun wx hx=>Ob.o (O.loadAgg isAgg124 sizeOf124 rfl rfl (eC_a (Blk.ext (cs:=eC m c d) hF hx)) kR),
   fun wx hx=>Ob.o (O.call (xs:=[.tmp 13,.tmp 15,.tmp 17]) call243 rfl rfl (turn_calls a b c wx ha hb hc) (fun v wy h=>⟨h.2,h.1⟩)),
   fun wx hx=>Ob.o (O.fieldAddr runUnderlying315 rfl sizeOf124 rfl kR),
   fun wx hx=>Ob.o (O.loadAgg isAgg124 sizeOf124 rfl rfl (eC_a (Blk.ext (cs:=eC n a b) hE hx)) kR),
   fun wx hx=>Ob.o (O.fieldAddr runUnderlying315 rfl sizeOf124 rfl kR),
   fun wx hx=>Ob.o (O.loadAgg isAgg124 sizeOf124 rfl rfl (eC_b (Blk.ext (cs:=eC n a b) hE hx)) kR),
   fun wx hx=>Ob.o (O.fieldAddr runUnderlying315 rfl sizeOf124 rfl kR),
   fun wx hx=>Ob.o (O.loadAgg isAgg124 sizeOf124 rfl rfl (eC_b (Blk.ext (cs:=eC m c d) hF hx)) kR),
   trivial⟩ (fun w4 he4=>?_)
 refine L.o (O.call (xs:=[.tmp 20,.tmp 22,.tmp 24]) call243 rfl rfl (turn_calls a b d w4 ha hb hd) (fun v5 w5 hq=>?_))
 obtain ⟨rfl,he5⟩:=hq
 have hE5:=Blk.ext (cs:=eC n a b) hE (he4.trans he5)
 have hF5:=Blk.ext (cs:=eC m c d) hF (he4.trans he5)
 refine L.a rfl (L.a rfl (L.nil (T.seq (?_))))
 refine T.anyE mixed 13 [3,2] rfl [.is _,.is _,.is _,.is _,.is _,.is _,.is (.int .i64 (sgn (turnD c d a))),.is _,.is _,.is _,.is _,.is _,.is _] [[],[0],[],[2],[],[4],[1,3,5],[],[7],[],[9],[],[11]] [[],[0],[],[2],[],[4],[0,1,2,3,4,5],[],[7],[],[9],[],[11],[0,1,2,3,4,5,6,7,8,9,10,11,12],[0,1,2,3,4,5,6,7,8,9,10,11,12,13],[0,1,2,3,4,5,6,7,8,9,10,11,12,13,14]] (by kernel_rfl) (by kernel_rfl) rfl (by kernel_rfl) trivial ⟨fun wx hx=>Ob.o (O.fieldAddr runUnderlying315 rfl sizeOf124 rfl kR),
   fun wx hx=>Ob.o (O.loadAgg isAgg124 sizeOf124 rfl rfl (eC_a (Blk.ext (cs:=eC m c d) hF5 hx)) kR),
   fun wx hx=>Ob.o (O.fieldAddr runUnderlying315 rfl sizeOf124 rfl kR),
   fun wx hx=>Ob.o (O.loadAgg isAgg124 sizeOf124 rfl rfl (eC_b (Blk.ext (cs:=eC m c d) hF5 hx)) kR),
   fun wx hx=>Ob.o (O.fieldAddr runUnderlying315 rfl sizeOf124 rfl kR),
   fun wx hx=>Ob.o (O.loadAgg isAgg124 sizeOf124 rfl rfl (eC_a (Blk.ext (cs:=eC n a b) hE5 hx)) kR),
   fun wx hx=>Ob.o (O.call (xs:=[.tmp 27,.tmp 29,.tmp 31]) call243 rfl rfl (turn_calls c d a wx hc hd ha) (fun v wy h=>⟨h.2,h.1⟩)),
   fun wx hx=>Ob.o (O.fieldAddr runUnderlying315 rfl sizeOf124 rfl kR),
   fun wx hx=>Ob.o (O.loadAgg isAgg124 sizeOf124 rfl rfl (eC_a (Blk.ext (cs:=eC m c d) hF5 hx)) kR),
   fun wx hx=>Ob.o (O.fieldAddr runUnderlying315 rfl sizeOf124 rfl kR),
   fun wx hx=>Ob.o (O.loadAgg isAgg124 sizeOf124 rfl rfl (eC_b (Blk.ext (cs:=eC m c d) hF5 hx)) kR),
   fun wx hx=>Ob.o (O.fieldAddr runUnderlying315 rfl sizeOf124 rfl kR),
   fun wx hx=>Ob.o (O.loadAgg isAgg124 sizeOf124 rfl rfl (eC_b (Blk.ext (cs:=eC n a b) hE5 hx)) kR),
   trivial⟩ (fun w6 he6=>?_)
 refine L.o (O.call (xs:=[.tmp 34,.tmp 36,.tmp 38]) call243 rfl rfl (turn_calls c d b w6 hc hd hb) (fun v7 w7 hq=>?_))
 obtain ⟨rfl,he7⟩:=hq
 have hE7:=Blk.ext (cs:=eC n a b) hE5 (he6.trans he7)
 have hF7:=Blk.ext (cs:=eC m c d) hF5 (he6.trans he7)
 have he07:=((he2.trans he3).trans (he4.trans he5)).trans (he6.trans he7)
 refine L.a rfl (L.a rfl (L.nil (T.q (L.o (O.makeMapG (kf:=pV) (vf:=Value.bool) (fun b8 w8 hb8 hz8 he8 hM8=>?_))))))
 have hE8:=Blk.ext (cs:=eC n a b) hE7 he8
 have hF8:=Blk.ext (cs:=eC m c d) hF7 he8
 refine L.a rfl (L.nil (T.seq (T.q (L.o (O.fieldAddr runUnderlying315 rfl sizeOf124 rfl (L.o (O.loadAgg isAgg124 sizeOf124 rfl rfl (eC_a hE8) (L.o (O.fieldAddr runUnderlying315 rfl sizeOf124 rfl (L.o (O.loadAgg isAgg124 sizeOf124 rfl rfl (eC_b hE8) (L.o (O.fieldAddr runUnderlying315 rfl sizeOf124 rfl (L.o (O.loadAgg isAgg124 sizeOf124 rfl rfl (eC_a hF8) (L.o (O.fieldAddr runUnderlying315 rfl sizeOf124 rfl (L.o (O.loadAgg isAgg124 sizeOf124 rfl rfl (eC_b hF8) (L.o (O.build (v:=.agg (four4 a b c d).toArray) (parts:=[(0,.tmp 42),(1,.tmp 44),(2,.tmp 46),(3,.tmp 48)]) (vs:=[(0,_),(1,_),(2,_),(3,_)]) rfl (fun w=>by kernel_rfl) (L.m rfl (L.nil (T.block (?_)))))))))))))))))))))))))
 refine T.loop (σ:=Nat × List (Pt × Bool)) (fun s=>[(2,.pointer (some ⟨b2,0,none⟩)),(3,.pointer (some ⟨b3,0,none⟩)),(5,.int .i64 (sgn (turnD a b c))),(6,.int .i64 (sgn (turnD a b d))),(7,.int .i64 (sgn (turnD c d a))),(8,.int .i64 (sgn (turnD c d b))),(9,.map (some b8)),(49,.agg (four4 a b c d).toArray),(50,.int .i64 s.1)]) (fun s w'=>s.1≤4∧Ext w7 w'∧w8.heap.size≤w'.heap.size∧Blk w' b2 (eC n a b) 315∧Blk w' b3 (eC m c d) 315∧MapG pV Value.bool w' b8 s.2∧comK a b c d [a,b,c,d] []=comK a b c d ([a,b,c,d].drop s.1) s.2) (fun s=>4-s.1) ((0,[])) ⟨rfl,rfl,rfl,rfl,rfl,rfl,rfl,rfl,rfl,trivial⟩ ⟨Nat.zero_le _,he8,Nat.le_refl _,hE8,hF8,hM8,rfl⟩ ?_
 rintro ⟨i,kvs⟩ w9 ⟨hi,he9,hz9,hE9,hF9,hM9,hk9⟩
 simp only at hi hM9 hk9
 refine T.q (L.o (O.lss_s rfl rfl (fun hlt=>?_) (fun hlt=>?_)))
 ·refine L.nil (?_)
  have hlt':i<4:=by simp only at hlt;omega
  obtain ⟨x,hx⟩:∃ x,x = [a,b,c,d].getD i a:=⟨_,rfl⟩
  have hxn:Nr x:=by rw [hx];exact four_nr hlt' ha hb hc hd
  have hgi:=four4_get (a:=a) (b:=b) (c:=c) (d:=d) hlt'
  rw [← hx] at hgi
  rw [comK_step' hlt' hx] at hk9
  refine T.seq (T.ct (T.skip (T.seq (T.block (T.q (L.o (O.index_agg_to runUnderlying332 isAgg124 sizeOf124 rfl rfl (by omega) (by omega) hgi (L.o (O.alloc zeroValue124 (fun b10 w10 hb10 hz10 he10 hB10=>?_))))))))))
  refine L.o (O.storeAgg sizeOf124 rfl rfl rfl hB10 (Nat.le_refl _) (pC_one x) (fun w11 hu11 hB11=>?_))
  have hX11:Blk w11 b10 (pC x) 124:=hB11
  have he911:Ext w9 w11:=he10.upd hu11 (.inr (by omega))
  have hE11:=Blk.ext (cs:=eC n a b) hE9 he911
  have hF11:=Blk.ext (cs:=eC m c d) hF9 he911
  have hM11:=hM9.keep he911 (Nat.zero_le _)
  have hz11:=he911.size
  refine L.nil (T.q (L.o (O.loadAgg isAgg315 sizeOf315 rfl rfl hE11.row (L.o (O.loadAgg isAgg124 sizeOf124 rfl rfl hX11.row (L.o (O.call (xs:=[.tmp 53,.tmp 54]) call265 rfl rfl (ehas_calls n a b x w11 ha hb hxn) (fun v12 w12 hq=>?_))))))))
  obtain ⟨hv12,he12⟩:=hq
  have hz12:=he12.size
  rcases h1:hasB a b x with _|_
  ·rw [h1] at hv12
   subst hv12
   refine L.m rfl (L.p (L.p (L.p (L.o (O.pick_false rfl rfl (L.nil (T.cf (T.skip (T.blk (T.region (L.o (O.add64 rfl rfl (by simp only;omega) (L.m rfl (L.nil (T.again ((i+1,kvs)) (by omega) ⟨rfl,rfl,rfl,rfl,rfl,rfl,rfl,rfl,rfl,trivial⟩ ⟨hlt',he9.trans (he911.trans he12),by omega,Blk.ext (cs:=eC n a b) hE11 he12,Blk.ext (cs:=eC m c d) hF11 he12,hM11.keep he12 (Nat.zero_le _),by rw [hk9,comB,h1];rfl⟩)))))))))))))))
  ·rw [h1] at hv12
   subst hv12
   refine L.m rfl (L.o (O.loadAgg isAgg315 sizeOf315 rfl rfl ((Blk.ext (cs:=eC m c d) hF11 he12).row) (L.o (O.loadAgg isAgg124 sizeOf124 rfl rfl ((Blk.ext (cs:=pC x) hX11 he12).row) (L.o (O.call (xs:=[.tmp 57,.tmp 58]) call265 rfl rfl (ehas_calls m c d x w12 hc hd hxn) (fun v13 w13 hq=>?_)))))))
   obtain ⟨hv13,he13⟩:=hq
   have hz13:=he13.size
   have he1113:=he12.trans he13
   have hM13:=hM11.keep he1113 (Nat.zero_le _)
   rcases h2:hasB c d x with _|_
   ·rw [h2] at hv13
    subst hv13
    refine L.o (O.pick_true rfl rfl (L.nil (T.cf (T.skip (T.blk (T.region (L.o (O.add64 rfl rfl (by simp only;omega) (L.m rfl (L.nil (T.again ((i+1,kvs)) (by omega) ⟨rfl,rfl,rfl,rfl,rfl,rfl,rfl,rfl,rfl,trivial⟩ ⟨hlt',he9.trans (he911.trans he1113),by omega,Blk.ext (cs:=eC n a b) hE11 he1113,Blk.ext (cs:=eC m c d) hF11 he1113,hM13,by rw [hk9,comB,h1,h2];rfl⟩)))))))))))
   ·rw [h2] at hv13
    subst hv13
    refine L.o (O.pick_true rfl rfl (L.nil (T.ct (T.region (L.m rfl (L.o (O.loadAgg isAgg124 sizeOf124 rfl rfl ((Blk.ext (cs:=pC x) hX11 he1113).row) (L.o (O.mapUpdateP (kf:=pV) (vf:=Value.bool) (v:=true) key_pt runUnderlying249 rfl rfl rfl hM13 (fun w14 hu14 hM14=>?_))))))))))
    have hb8:=hE8.lt
    refine L.nil (T.blk (T.region (L.o (O.add64 rfl rfl (by simp only;omega) (L.m rfl (L.nil (T.again ((i+1,putG kvs x true)) (by omega) ⟨rfl,rfl,rfl,rfl,rfl,rfl,rfl,rfl,rfl,trivial⟩ ⟨hlt',(he9.trans (he911.trans he1113)).upd hu14 (.inr (by omega)),by have:=hu14.size;omega,Blk.upd (cs:=eC n a b) (Blk.ext (cs:=eC n a b) hE11 he1113) hu14 (by have:=hE7.lt;omega),Blk.upd (cs:=eC m c d) (Blk.ext (cs:=eC m c d) hF11 he1113) hu14 (by have:=hF7.lt;omega),hM14,by rw [hk9,comB,h1,h2];rfl⟩)))))))
 ·refine L.nil (?_)
  obtain rfl:i=4:=by simp only at hlt;omega
  have hk:comK a b c d [a,b,c,d] []=kvs:=hk9
  have q1:=mul_sgn (turnD a b c) (turnD a b d)
  have q2:=mul_sgn (turnD c d a) (turnD c d b)
  have hfin:=he07.trans he9
  refine T.seq (T.cf (T.exit rfl (T.seq (T.block (T.q (L.m rfl (L.o (O.lenMapG (kf:=pV) (vf:=Value.bool) runUnderlying249 rfl hM9 (L.o (O.gtr_s rfl rfl (fun h1=>?_) (fun h1=>?_)))))))))))
  ·refine L.a rfl (L.nil (T.ct (T.q (L.a rfl (L.nil (T.ret1 results244 rfl ⟨by rw [meetI,hk,if_pos h1],hfin⟩))))))
  ·refine L.a rfl (L.nil (T.cf (T.q (L.m rfl (L.o (O.lenMapG (kf:=pV) (vf:=Value.bool) runUnderlying249 rfl hM9 (L.o (O.eql_s rfl rfl (fun h2=>?_) (fun h2=>?_)))))))))
   ·refine L.a rfl (L.nil (T.ct (T.q (L.a rfl (L.nil (T.ret1 results244 rfl ⟨by rw [meetI,hk,if_neg h1,if_pos h2],hfin⟩))))))
   ·refine L.a rfl (L.nil (T.cf (T.q (L.m rfl (L.m rfl (L.o (O.mul64 rfl rfl (by omega) (L.o (O.lss_s rfl rfl (fun h3=>?_) (fun h3=>?_))))))))))
    ·refine L.m rfl (L.m rfl (L.m rfl (L.o (O.mul64 rfl rfl (by omega) (L.o (O.lss_s rfl rfl (fun h4=>?_) (fun h4=>?_)))))))
     ·refine L.o (O.pick_true rfl rfl (L.a rfl (L.nil (T.ct (T.q (L.a rfl (L.nil (T.ret1 results244 rfl ⟨by rw [meetI,hk,if_neg h1,if_neg h2,if_pos ⟨h3,h4⟩],hfin⟩))))))))
     ·refine L.o (O.pick_true rfl rfl (L.a rfl (L.nil (T.cf (T.skip (T.blk (T.q (L.a rfl (L.nil (T.ret1 results244 rfl ⟨by rw [meetI,hk,if_neg h1,if_neg h2,if_neg (fun h=>h4 h.2)],hfin⟩))))))))))
    ·refine L.m rfl (L.p (L.p (L.p (L.p (L.o (O.pick_false rfl rfl (L.a rfl (L.nil (T.cf (T.skip (T.blk (T.q (L.a rfl (L.nil (T.ret1 results244 rfl ⟨by rw [meetI,hk,if_neg h1,if_neg h2,if_neg (fun h=>h3 h.1)],hfin⟩)))))))))))))))

open Go Go.E

theorem eqPt_guard:Tryz.prog.eqGuardType Tryz.prog.depth 124=false:=by kernel_rfl
section
variable {C:Cx} {e:Env} {w:World} {K:Value→World→Prop} {d:Option Tmp} {ty:TypeId} {pos:String} {aft:Array Edge} {g:Option (Nat × Bool)} {x y:Operand} {p q:Pt}
theorem O.eqlPt (hP:C.P=Tryz.prog) (hx:ev e x=some (pV p)) (hy:ev e y=some (pV q)) (h:K (.bool (decide (p=q))) w):O C e ⟨d,.binOp .eql 124 x y 124,ty,pos,aft,g⟩ w K :=
 O.of_run (by simp) (fun ac hq=>by
  rw [hP]
  have h1:=eqPt p q w
  unfold pV at hx hy h1
  simp only [execOp,hq.eval hx,hq.eval hy,Sem.run_bind,run_eqGuard_agg w _ _ _ _ _ _ eqPt_guard,Result.andThen_ok,run_eql_struct,h1]
  rfl) h
theorem O.eqlPt_f (hP:C.P=Tryz.prog) (hx:ev e x=some (pV p)) (hy:ev e y=some (pV q)) (he:¬ p=q) (h:K (.bool false) w):O C e ⟨d,.binOp .eql 124 x y 124,ty,pos,aft,g⟩ w K:=O.eqlPt hP hx hy (by rw [decide_eq_false he];exact h)
theorem O.eqlPt_s (hP:C.P=Tryz.prog) (hx:ev e x=some (pV p)) (hy:ev e y=some (pV q)) (ht:p=q→K (.bool true) w) (hf:¬ p=q→K (.bool false) w):O C e ⟨d,.binOp .eql 124 x y 124,ty,pos,aft,g⟩ w K:=O.eqlPt hP hx hy (by
 by_cases he:p=q
 ·rw [decide_eq_true he];exact ht he
 ·rw [decide_eq_false he];exact hf he)
end
theorem Meets_calls (a b c d:Pt) (w:World) (ha:farB a=false) (hb:farB b=false) (hc:farB c=false) (hd:farB d=false) (hab:¬ a=b) (hcd:¬ c=d) :
  Calls Tryz.prog 246 #[pV a,pV b,pV c,pV d] w (Ret fun v w'=>v = .tuple #[.int .i64 (meetI a b c d),.int .i64 0]∧Ext w w'):=by
 have na:=Nr.of_far ha
 have nb:=Nr.of_far hb
 have nc:=Nr.of_far hc
 have nd:=Nr.of_far hd
 refine T.enter (vs:=[pV a,pV b,pV c,pV d]) func246 rfl ntmps246 rfl ?_
 refine T.q (L.o (O.box rfl (fun b4 w4 hb4 hz4 he4 hB4=>?_)))
 refine L.o (O.box rfl (fun b5 w5 hb5 hz5 he5 hB5=>?_))
 refine L.o (O.box rfl (fun b6 w6 hb6 hz6 he6 hB6=>?_))
 refine L.o (O.box rfl (fun b7 w7 hb7 hz7 he7 hB7=>?_))
 have hA:Blk w7 b4 (pC a) 124:=Blk.ext (cs:=pC a) (Blk.ext (cs:=pC a) (Blk.ext (cs:=pC a) hB4 he5) he6) he7
 have hB:Blk w7 b5 (pC b) 124:=Blk.ext (cs:=pC b) (Blk.ext (cs:=pC b) hB5 he6) he7
 have hC:Blk w7 b6 (pC c) 124:=Blk.ext (cs:=pC c) hB6 he7
 have hD:Blk w7 b7 (pC d) 124:=hB7
 refine L.a rfl (L.a rfl (L.nil (T.seq (T.q (L.o (O.loadAgg isAgg124 sizeOf124 rfl rfl hA.row (L.o (O.call (xs:=[.tmp 10]) call241 rfl rfl (rfar_calls a w7 na) (fun v8 w8 hq=>?_)))))))))
 obtain ⟨hv8,he8⟩:=hq
 rw [ha] at hv8
 subst hv8
 refine L.m rfl (L.o (O.loadAgg isAgg124 sizeOf124 rfl rfl ((Blk.ext (cs:=pC b) hB he8).row) (L.o (O.call (xs:=[.tmp 13]) call241 rfl rfl (rfar_calls b w8 nb) (fun v9 w9 hq=>?_)))))
 obtain ⟨hv9,he9⟩:=hq
 rw [hb] at hv9
 subst hv9
 refine L.o (O.pick_false rfl rfl (L.m rfl (L.o (O.loadAgg isAgg124 sizeOf124 rfl rfl ((Blk.ext (cs:=pC c) hC (he8.trans he9)).row) (L.o (O.call (xs:=[.tmp 17]) call241 rfl rfl (rfar_calls c w9 nc) (fun v10 w10 hq=>?_)))))))
 obtain ⟨hv10,he10⟩:=hq
 rw [hc] at hv10
 subst hv10
 refine L.o (O.pick_false rfl rfl (L.m rfl (L.o (O.loadAgg isAgg124 sizeOf124 rfl rfl ((Blk.ext (cs:=pC d) hD ((he8.trans he9).trans he10)).row) (L.o (O.call (xs:=[.tmp 21]) call241 rfl rfl (rfar_calls d w10 nd) (fun v11 w11 hq=>?_)))))))
 obtain ⟨hv11,he11⟩:=hq
 rw [hd] at hv11
 subst hv11
 have he711:=((he8.trans he9).trans he10).trans he11
 have hA':=Blk.ext (cs:=pC a) hA he711
 have hB':=Blk.ext (cs:=pC b) hB he711
 have hC':=Blk.ext (cs:=pC c) hC he711
 have hD':=Blk.ext (cs:=pC d) hD he711
 refine L.o (O.pick_false rfl rfl (L.m rfl (L.o (O.loadAgg isAgg124 sizeOf124 rfl rfl hA'.row (L.o (O.loadAgg isAgg124 sizeOf124 rfl rfl hB'.row (L.o (O.eqlPt_f rfl rfl rfl hab (L.o (O.pick_false rfl rfl (L.m rfl (L.o (O.loadAgg isAgg124 sizeOf124 rfl rfl hC'.row (L.o (O.loadAgg isAgg124 sizeOf124 rfl rfl hD'.row (L.o (O.eqlPt_f rfl rfl rfl hcd (L.o (O.pick_false rfl rfl (L.nil (T.cf (T.skip (T.q (L.o (O.loadAgg isAgg124 sizeOf124 rfl rfl hA'.row (L.o (O.loadAgg isAgg124 sizeOf124 rfl rfl hB'.row (L.o (O.build (v:=eV 0 a b) (parts:=[(1,.tmp 34),(2,.tmp 35)]) (vs:=[(1,_),(2,_)]) rfl (fun w=>by kernel_rfl) (L.o (O.loadAgg isAgg124 sizeOf124 rfl rfl hC'.row (L.o (O.loadAgg isAgg124 sizeOf124 rfl rfl hD'.row (L.o (O.build (v:=eV 0 c d) (parts:=[(1,.tmp 37),(2,.tmp 38)]) (vs:=[(1,_),(2,_)]) rfl (fun w=>by kernel_rfl) (L.o (O.call (xs:=[.tmp 36,.tmp 39]) call244 rfl rfl (meets_calls 0 0 a b c d w11 na nb nc nd) (fun v12 w12 hq=>?_))))))))))))))))))))))))))))))))))))))
 obtain ⟨rfl,he12⟩:=hq
 refine L.a rfl (L.a rfl (L.nil (T.ret2 results246 rfl rfl ⟨rfl,((((he4.trans he5).trans he6).trans he7).trans he711).trans he12⟩)))

open Go Go.E

def pcs (r:List Pt):List Value:=r.flatMap pC
theorem pcs_append (r s:List Pt):pcs (r++s)=pcs r++pcs s:=by simp [pcs]
theorem pcs_get:∀ (r:List Pt) (i:Nat),i<r.length→((pcs r).drop (i*2)).take 2=pC (r.getD i (0,0))
 | [],i,h=>by simp at h
 | p::r,0,_=>rfl
 | p::r,i+1,h=>by
  have ih:=pcs_get r i (by simpa using h)
  have e:pcs (p::r) = .int .i64 p.1 :: .int .i64 p.2::pcs r:=rfl
  rw [e,show (i+1)*2=i*2+1+1 by omega,List.drop_succ_cons,List.drop_succ_cons,ih]
  rfl
/-- Points in memory. -/
def Pts (lo:Nat) (w:World) (p:Value) (r:List Pt):Prop:=Sl lo w p r.length 2 (pcs r)
theorem Pts.ext {lo:Nat} {w w':World} {p:Value} {r:List Pt} (h:Pts lo w p r) (k:Ext w w'):Pts lo w' p r:=Sl.ext h k
theorem Pts.row {lo:Nat} {w:World} {p:Value} {r:List Pt} (h:Pts lo w p r) {i:Nat} (hi:i<r.length):Row w ((sAddr p).add ((i:Int).toNat*2)) (pC (r.getD i (0,0))):=by
 rw [Int.toNat_natCast,← pcs_get r i hi]
 obtain ⟨_,_,_,_,hr⟩:=Sl.there h (by omega)
 exact hr.part (i*2) 2
def NrL (r:List Pt):Prop:=∀ i,i<r.length→Nr (r.getD i (0,0))
/-- The edge of a ring at i: its ends. -/
def rA (r:List Pt) (i:Nat):Pt:=r.getD i (0,0)
def rB (r:List Pt) (i:Nat):Pt:=r.getD ((i+1) % r.length) (0,0)
def NextE (r:List Pt) (i:Nat) (v:Value) (j:Nat):Prop:=i<r.length∧v=eV i (rA r i) (rB r i)∧j=i+1
theorem edges_calls (p:Value) (n:Nat) (cs:List Value) (lo:Nat) (w:World) (hp:Sl lo w p n 2 cs) :
  Calls Tryz.prog 242 #[p] w (Ret fun v w'=>v = .func (.func 263) #[] #[.pointer (some ⟨w.heap.size,0,none⟩)]∧Ext w w'∧Blk w' w.heap.size [p] 237):=by
 refine T.enter (vs:=[p]) func242 rfl ntmps242 rfl ?_
 refine T.q (L.o (O.box rfl (fun b1 w1 hb1 hz1 he1 hB1=>?_)))
 subst hb1
 have hB1':Blk w1 w.heap.size [p] 237:=by have:=hB1;simp only [Sl.cells hp] at this;exact this
 refine L.a rfl (L.nil (T.q (L.o (O.makeFunc (fi:=[]) (ca:=[.tmp 1]) rfl rfl (L.a rfl (L.nil (T.ret1 results242 rfl ⟨rfl,he1,hB1'⟩)))))))

theorem edges1_calls (l b lo:Nat) (p:Value) (r:List Pt) (J:Nat→(Nat→Prop)→World→Prop) (X:World→Prop) (w:World) (hJ:Stab J) (hInv:∀ i S W,J i S W→Pts lo W p r∧Blk W b [p] 237) (hround:∀ i v j S W,NextE r i v j→J i S W→Yld Tryz.prog l #[v] W fun u W'=>(u = .bool true∧J j S W'∧∀ k,S k→W'.heap[k]?=W.heap[k]?)∨(u = .bool false∧X W')) (h0:J 0 (fun _=>False) w) :
  Calls Tryz.prog 263 #[.func (.yield l) #[] #[],.pointer (some ⟨b,0,none⟩)] w (Ret fun _ w'=>(∃ S:Nat→Prop,(∀ k,False→S k)∧J r.length S w')∨X w'):=by
 have hI0:=hInv _ _ _ h0
 have hle:=Sl.le hI0.1
 refine T.enter (vs:=[.func (.yield l) #[] #[],.pointer (some ⟨b,0,none⟩)]) func263 rfl ntmps263 rfl ?_
 refine T.q (L.o (O.load isAgg237 rfl (hI0.2.cell rfl) (L.o (O.len runUnderlying237 rfl (Sl.val hI0.1) (L.m rfl (L.nil (T.block (?_))))))))
 refine T.loop (σ:=Nat) (fun i=>[(0,.func (.yield l) #[] #[]),(1,.pointer (some ⟨b,0,none⟩)),(5,p),(6,.int .i64 r.length),(7,.int .i64 i)]) (fun i w'=>i≤r.length∧∃ S:Nat→Prop,J i S w') (fun i=>r.length-i) (0) ⟨rfl,rfl,rfl,rfl,rfl,trivial⟩ ⟨Nat.zero_le _,fun _=>False,h0⟩ ?_
 rintro i w1 ⟨hi,S,hj⟩
 have hI1:=hInv _ _ _ hj
 refine T.q (L.o (O.lss_s rfl rfl (fun hlt=>?_) (fun hlt=>?_)))
 ·refine L.nil (?_)
  have hlt':i<r.length:=by omega
  refine T.seq (T.ct (T.skip (T.seq (T.block (T.q (L.m rfl (L.o (O.indexAddr runUnderlying237 sizeOf124 rfl rfl hI1.1 (by omega) (by omega) (L.o (O.loadAgg isAgg124 sizeOf124 rfl rfl (hI1.1.row hlt') (L.o (O.alloc zeroValue124 (fun b2 w2 hb2 hz2 he2 hB2=>?_)))))))))))))
  refine L.a rfl (L.o (O.storeAgg sizeOf124 rfl rfl rfl hB2 (Nat.le_refl _) (pC_one _) (fun w3 hu3 hB3=>?_)))
  have hX3:Blk w3 b2 (pC (rA r i)) 124:=hB3
  have he13:Ext w1 w3:=he2.upd hu3 (.inr (by omega))
  have hj3:=hJ.1 _ _ S _ _ hj he13 (fun k hk=>.inl hk)
  have hI3:=hInv _ _ _ hj3
  have hP3:=hI3.1
  have hm:(i+1) % r.length<r.length:=Nat.mod_lt _ (by omega)
  have hmi:((i:Int)+1) % (r.length:Int)=(((i+1) % r.length:Nat):Int):=by rw [show (i:Int)+1=((i+1:Nat):Int) by omega];rfl
  refine L.nil (T.seq (?_))
  refine T.anyE mixed 12 [0,3,4,1] rfl [.is _,.is _,.is _,.is _,.is _,.is _,.is _,.is _,.is (.int .i64 (((i+1) % r.length:Nat):Int)),.is _,.is _,.is _] [[],[],[],[],[],[4],[],[6],[5,7],[3,8],[9],[1,2,10]] [[],[],[],[],[],[4],[],[6],[4,5,6,7],[3,4,5,6,7,8],[3,4,5,6,7,8,9],[1,2,3,4,5,6,7,8,9,10],[0,1,2,3,4,5,6,7,8,9,10,11],[0,1,2,3,4,5,6,7,8,9,10,11,12]] (by kernel_rfl) (by kernel_rfl) rfl (by kernel_rfl) trivial ⟨fun wx hx=>Ob.o (O.move rfl kR),
    fun wx hx=>Ob.o (O.move rfl kR),
    fun wx hx=>Ob.o (O.loadAgg isAgg124 sizeOf124 rfl rfl ((Blk.ext (cs:=pC (rA r i)) hX3 hx).row) kR),
    fun wx hx=>Ob.o (O.load isAgg237 rfl ((Blk.ext (cs:=[p]) hI3.2 hx).cell rfl) kR),
    fun wx hx=>Ob.o (O.move rfl kR),
    fun wx hx=>Ob.o (O.add64 rfl rfl (by omega) kR),
    fun wx hx=>Ob.o (O.load isAgg237 rfl ((Blk.ext (cs:=[p]) hI3.2 hx).cell rfl) kR),
    fun wx hx=>Ob.o (O.len runUnderlying237 rfl (Sl.val (hP3.ext hx)) kR),
    fun wx hx=>Ob.o (O.rem rfl rfl (by omega) (by omega) ⟨Keep.refl _ _,by rw [hmi];rfl⟩),
    fun wx hx=>Ob.o (O.indexAddr runUnderlying237 sizeOf124 rfl rfl (hP3.ext hx) (by omega) (by omega) kR),
    fun wx hx=>Ob.o (O.loadAgg isAgg124 sizeOf124 rfl rfl ((hP3.ext hx).row hm) kR),
    fun wx hx=>Ob.o (O.build (v:=eV i (rA r i) (rB r i)) (parts:=[(0,.tmp 13),(1,.tmp 14),(2,.tmp 22)]) (vs:=[(0,_),(1,_),(2,_)]) rfl (fun w=>by kernel_rfl) kR),
    trivial⟩ (fun w4 he4=>?_)
  have hj4:=hJ.1 _ _ S _ _ hj3 he4 (fun k hk=>.inl hk)
  refine L.o (O.yield (xs:=[.tmp 23]) rfl rfl rfl (hround _ (eV i (rA r i) (rB r i)) _ S _ ⟨hlt',rfl,rfl⟩ hj4) (fun v5 w5 hq=>?_))
  obtain hq:=hq
  rcases hq with ⟨rfl,hj5,hk5⟩|⟨rfl,hX⟩
  ·refine L.o (O.not rfl (L.nil (T.cf (T.skip (T.blk (T.region (L.o (O.add64 rfl rfl (by omega) (L.m rfl (L.nil (T.again (i+1) (by omega) ⟨rfl,rfl,rfl,rfl,rfl,trivial⟩ ⟨hlt',S,hj5⟩)))))))))))
  ·refine L.o (O.not rfl (L.nil (T.ct (T.ret0 results263 (.inr hX)))))
 ·refine L.nil (?_)
  obtain rfl:i=r.length:=by omega
  refine T.seq (T.cf (T.exit rfl (T.end0 results263 (.inl ⟨S,fun _ h=>h.elim,hj⟩))))

theorem edges_seq (b lo:Nat) (p:Value) (r:List Pt):SeqC Tryz.prog 263 #[.pointer (some ⟨b,0,none⟩)] (NextE r) 0 r.length (fun W=>Pts lo W p r∧Blk W b [p] 237) (fun _=>False) (fun _=>True) :=
 fun l J X W hJ hInv hround h0 _=>edges1_calls l b lo p r J X W hJ hInv hround h0
open Go Go.E

def rP (r:List Pt) (i:Nat):Pt:=r.getD ((i+r.length-1) % r.length) (0,0)
def fwd (a b c:Pt):Int:=(b.1-a.1)*(c.1-b.1)+(b.2-a.2)*(c.2-b.2)
def stillI (r:List Pt) (i:Nat):Prop:=rA r i=rB r i
def spikeI (r:List Pt) (i:Nat):Prop:=turnD (rP r i) (rA r i) (rB r i)=0∧fwd (rP r i) (rA r i) (rB r i)<0
def crossI (r:List Pt) (i j:Nat):Prop:=j+1<i∧¬ (j=0∧i+1=r.length)∧meetI (rA r i) (rB r i) (rA r j) (rB r j)≠0
instance (r:List Pt) (i:Nat):Decidable (stillI r i):=inferInstanceAs (Decidable (_=_))
instance (r:List Pt) (i:Nat):Decidable (spikeI r i):=inferInstanceAs (Decidable (_∧_))
instance (r:List Pt) (i j:Nat):Decidable (crossI r i j):=inferInstanceAs (Decidable (_∧_∧_))
/-- The first flaw of a ring. -/
def ringK (r:List Pt):Int :=
 if r.length<3∨40<r.length then 1 else if ∃ i,i<r.length∧stillI r i then 3 else if ∃ i,i<r.length∧spikeI r i then 4
 else if ∃ i,i<r.length∧∃ j,j<r.length∧crossI r i j then 5 else 0
def NfL (r:List Pt):Prop:=∀ i,i<r.length→farB (r.getD i (0,0))=false
/-- A region that writes one cell ahead of its end. -/
def PutI (w:World) (b:Nat) (v:Value):Nat→World→Prop
 | 0,W=>Ext w W
 | _+1,W=>∃ W1,Ext w W1∧Upd b W1 W∧Blk W b [v] 3
theorem PutI.blk {w W:World} {b b' c:Nat} {v:Value} {cs:List Value} {t:TypeId} (h:PutI w b v c W) (hB:Blk w b' cs t) (hne:b'≠b):Blk W b' cs t:=by
 cases c with
 | zero=>exact Blk.ext hB h
 | succ c=>obtain ⟨W1,h1,h2,_⟩:=h;exact Blk.upd (Blk.ext hB h1) h2 hne
/-- Two result cells have been written. -/
structure Done2 (b2 b3:Nat) (t2 t3:TypeId) (v2 v3:Value) (w W:World):Prop where
 os:W.os=w.os
 tape:W.tape=w.tape
 output:W.output=w.output
 size:w.heap.size≤W.heap.size
 block:∀ k,k<w.heap.size→k≠b2→k≠b3→W.heap[k]?=w.heap[k]?
 c2:Blk W b2 [v2] t2
 c3:Blk W b3 [v3] t3
theorem Done2.of {b2 b3:Nat} {t2 t3:TypeId} {v2 v3:Value} {w W1 W2 W3:World} (h:Ext w W1) (h2:Upd b2 W1 W2) (hB2:Blk W2 b2 [v2] t2) (h3:Upd b3 W2 W3) (hB3:Blk W3 b3 [v3] t3) (hne:b2≠b3):Done2 b2 b3 t2 t3 v2 v3 w W3 :=
 ⟨h3.os.trans (h2.os.trans h.os),h3.tape.trans (h2.tape.trans h.tape),h3.output.trans (h2.output.trans h.output),by rw [h3.size,h2.size];exact h.size,fun k hk n2 n3=>by rw [h3.block k n3,h2.block k n2,h.block k (Nat.zero_le _) hk],Blk.upd hB2 h3 hne,hB3⟩
theorem Done2.upd {b2 b3 b:Nat} {t2 t3:TypeId} {v2 v3:Value} {w W W':World} (h:Done2 b2 b3 t2 t3 v2 v3 w W) (hu:Upd b W W') (hb:w.heap.size≤b) (h2:b2<w.heap.size) (h3:b3<w.heap.size):Done2 b2 b3 t2 t3 v2 v3 w W' :=
 ⟨hu.os.trans h.os,hu.tape.trans h.tape,hu.output.trans h.output,by rw [hu.size];exact h.size,fun k hk n2 n3=>by rw [hu.block k (by omega),h.block k hk n2 n3],Blk.upd h.c2 hu (by omega),Blk.upd h.c3 hu (by omega)⟩
theorem Done2.ext {b2 b3:Nat} {t2 t3:TypeId} {v2 v3:Value} {w0 w W:World} (h:Done2 b2 b3 t2 t3 v2 v3 w W) (k:Ext w0 w) (h2:w0.heap.size≤b2) (h3:w0.heap.size≤b3):Ext w0 W :=
 ⟨h.os.trans k.os,h.tape.trans k.tape,h.output.trans k.output,Nat.le_trans k.size h.size,fun i _ hi=>(h.block i (Nat.lt_of_lt_of_le hi k.size) (by omega) (by omega)).trans (k.block i (Nat.zero_le _) hi)⟩
theorem Done2.from {b2 b3:Nat} {t2 t3:TypeId} {v2 v3:Value} {w0 w W:World} (h:Done2 b2 b3 t2 t3 v2 v3 w W) (k:Ext w0 w):Done2 b2 b3 t2 t3 v2 v3 w0 W :=
 ⟨h.os.trans k.os,h.tape.trans k.tape,h.output.trans k.output,Nat.le_trans k.size h.size,fun i hi n2 n3=>(h.block i (Nat.lt_of_lt_of_le hi k.size) n2 n3).trans (k.block i (Nat.zero_le _) hi),h.c2,h.c3⟩
theorem Opn.notin {ds:List Nat} {W:World} {b:Nat} {cs:List Value} {t:TypeId} (ho:Opn ds W) (hB:Blk W b cs t):b∉ds:=fun hm=>by
 have h1:=ho.2 b hm
 have h2:W.heap[b]?=_:=hB
 rw [h1] at h2;cases h2
theorem Opn.done {ds:List Nat} {b2 b3:Nat} {t2 t3:TypeId} {v2 v3 u2 u3:Value} {w W:World} (h:Opn ds w) (hd:Done2 b2 b3 t2 t3 v2 v3 w W) (h2:Blk w b2 [u2] t2) (h3:Blk w b3 [u3] t3):Opn ds W :=
 ⟨h.1,fun r hr=>(hd.block r (h.lt r hr) (fun e=>Opn.notin h h2 (e▸hr)) (fun e=>Opn.notin h h3 (e▸hr))).trans (h.2 r hr)⟩
theorem Done2.cells {ds:List Nat} {b2 b3:Nat} {t2 t3:TypeId} {v2 v3:Value} {w W W':World} (hd:Done2 b2 b3 t2 t3 v2 v3 w W) (ho:Opn ds W) (hs:Shut ds W W'):W'.cell? ⟨b2,0,none⟩=some v2∧W'.cell? ⟨b3,0,none⟩=some v3 :=
 ⟨Blk.cell (b:=b2) ((hs.block b2 (Opn.notin ho hd.c2)).trans hd.c2) rfl,Blk.cell (b:=b3) ((hs.block b3 (Opn.notin ho hd.c3)).trans hd.c3) rfl⟩
/-- An invariant of a range over a function that makes new blocks alone, and a way to leave it. -/
def LI {σ:Type} (w:World) (A:σ→Prop) (i:σ) (S:Nat→Prop) (W:World):Prop:=Ext w W∧(∀ k,S k→w.heap.size≤k∧k<W.heap.size)∧A i
theorem LI.stab {σ:Type} {w:World} {A:σ→Prop} : Stab (LI w A):=by
 refine ⟨?_,?_⟩
 ·rintro i S S' W W' ⟨h1,h2,h3⟩ he hS
  refine ⟨h1.trans he,fun k hk=>?_,h3⟩
  rcases hS _ hk with h|h
  ·exact ⟨(h2 k h).1,Nat.lt_of_lt_of_le (h2 k h).2 he.size⟩
  ·exact ⟨Nat.le_trans h1.size h.1,h.2⟩
 ·rintro i S W W' b ⟨h1,h2,h3⟩ hb hu
  exact ⟨h1.upd hu (.inr (h2 b hb).1),fun k hk=>by rw [hu.size];exact h2 k hk,h3⟩
theorem LI.start {σ:Type} {w:World} {A:σ→Prop} {i:σ} (h:A i):LI w A i (fun _=>False) w:=⟨Keep.refl _ _,fun k hk=>hk.elim,h⟩
def LX (B:Prop) (b2 b3:Nat) (t2 t3:TypeId) (kd:Int) (w:World) (S:Nat→Prop) (W:World):Prop:=B∧(∀ k,S k→w.heap.size≤k∧k<W.heap.size)∧∃ a:Int,Done2 b2 b3 t2 t3 (.int .i64 kd) (.int .i64 a) w W
theorem LX.upd {B:Prop} {b2 b3 b:Nat} {t2 t3:TypeId} {kd:Int} {w W W':World} {S:Nat→Prop} (h:LX B b2 b3 t2 t3 kd w S W) (hb:S b) (hu:Upd b W W') (h2:b2<w.heap.size) (h3:b3<w.heap.size):LX B b2 b3 t2 t3 kd w S W':=by
 obtain ⟨h1,hS,a,hd⟩:=h
 exact ⟨h1,fun k hk=>by rw [hu.size];exact hS k hk,a,hd.upd hu (hS b hb).1 h2 h3⟩
theorem gblk_ne {w:World} {a b:Nat} {cs cs':List Value} {t t':TypeId} (h:Blk w a cs t) (h':Blk w b cs' t') (hne:t≠t'):a≠b:=fun e=>by
 subst e
 have h1:w.heap[a]?=_:=h
 have h2:w.heap[a]?=_:=h'
 rw [h1] at h2
 simp at h2
 exact hne h2.2
theorem sgn_zero {x:Int} (h:sgn x=0):x=0:=by
 unfold sgn at h;split at h <;> (try split at h) <;> omega
def FlawP (k:Int) (w:World) (v:Value) (w':World):Prop:=∃ a:Int,v = .tuple #[.int .i64 k,.int .i64 a]∧Ext w w'
theorem indexF_calls (lo:Nat) (p:Value) (r:List Pt) (w:World) (hp:Pts lo w p r) (hf:NfL r) :
  Calls Tryz.prog 240 #[p,.func (.func 241) #[] #[]] w (Ret fun v w'=>v = .int .i64 (-1)∧Ext w w'):=by
 have hle:=Sl.le hp
 refine T.enter (vs:=[p,.func (.func 241) #[] #[]]) func240 rfl ntmps240 rfl ?_
 refine T.q (L.a rfl (L.nil (T.seq (T.q (L.m rfl (L.o (O.len runUnderlying237 rfl (Sl.val hp) (L.m rfl (L.nil (T.block (?_)))))))))))
 refine T.loop (σ:=Nat) (fun i=>[(0,p),(1,.func (.func 241) #[] #[]),(7,.int .i64 r.length),(8,.int .i64 i)]) (fun i w'=>i≤r.length∧Ext w w') (fun i=>r.length-i) (0) ⟨rfl,rfl,rfl,rfl,trivial⟩ ⟨Nat.zero_le _,Keep.refl _ _⟩ ?_
 rintro i w1 ⟨hi,he1⟩
 refine T.q (L.o (O.lss_s rfl rfl (fun hlt=>?_) (fun hlt=>?_)))
 ·refine L.nil (?_)
  have hlt':i<r.length:=by omega
  have hfi:=hf i hlt'
  refine T.seq (T.ct (T.skip (T.seq (T.block (T.q (L.m rfl (L.a rfl (L.nil (T.q (L.m rfl (L.m rfl (L.m rfl (L.o (O.indexAddr runUnderlying237 sizeOf124 rfl rfl (hp.ext he1) (by omega) (by omega) (L.o (O.loadAgg isAgg124 sizeOf124 rfl rfl ((hp.ext he1).row hlt') (L.o (O.call (xs:=[.tmp 15]) call241 rfl rfl (rfar_calls (r.getD i (0,0)) w1 (Nr.of_far hfi)) (fun v2 w2 hq=>?_)))))))))))))))))))
  obtain ⟨hv2,he2⟩:=hq
  rw [hfi] at hv2
  subst hv2
  refine L.nil (T.cf (T.skip (T.blk (T.region (L.o (O.add64 rfl rfl (by omega) (L.m rfl (L.nil (T.again (i+1) (by omega) ⟨rfl,rfl,rfl,rfl,trivial⟩ ⟨hlt',he1.trans he2⟩)))))))))
 ·refine L.nil (T.seq (T.cf (T.exit rfl (T.q (L.a rfl (L.nil (T.ret1 results240 rfl ⟨rfl,he1⟩)))))))

theorem ringFlaw_calls (lo:Nat) (p:Value) (r:List Pt) (w:World) (hp:Pts lo w p r) (hf:NfL r) :
  Calls Tryz.prog 208 #[p] w (Ret fun v w'=>FlawP (ringK r) w v w'):=by
 have hle:=Sl.le hp
 have hn:∀ i,i<r.length→Nr (r.getD i (0,0)):=fun i hi=>Nr.of_far (hf i hi)
 refine T.enterM (vs:=[p]) func208 rfl ntmps208 rfl ?_
 refine T.q (L.o (O.box rfl (fun b1 w1 hb1 hz1 he1 hB1=>?_)))
 refine L.o (O.alloc zeroValue3 (fun b2 w2 hb2 hz2 he2 hB2=>?_))
 refine L.o (O.alloc zeroValue3 (fun b3 w3 hb3 hz3 he3 hB3=>?_))
 have hB1':Blk w1 b1 [p] 237:=by have:=hB1;simp only [Sl.cells hp] at this;exact this
 have he03:=(he1.trans he2).trans he3
 refine L.nil (T.q (L.o (O.load isAgg237 rfl ((Blk.ext (cs:=[p]) hB1' (he2.trans he3)).cell rfl) (L.o (O.len runUnderlying237 rfl (Sl.val (hp.ext he03)) (L.o (O.alloc zeroValue3 (fun b4 w4 hb4 hz4 he4 hB4=>?_))))))))
 refine L.o (O.store1 sizeOf3 rfl rfl rfl hB4 (by simp [Value.cells]) (fun w5 hu5 hB5=>?_))
 have he05:Ext w w5:=(he03.trans he4).upd hu5 (.inr (by omega))
 have hB15:Blk w5 b1 [p] 237:=Blk.upd (cs:=[p]) (Blk.ext (cs:=[p]) hB1' ((he2.trans he3).trans he4)) hu5 (by omega)
 have hB25:Blk w5 b2 [.int .i64 0] 3:=Blk.upd (cs:=[.int .i64 0]) (Blk.ext (cs:=[.int .i64 0]) hB2 (he3.trans he4)) hu5 (by omega)
 have hB35:Blk w5 b3 [.int .i64 0] 3:=Blk.upd (cs:=[.int .i64 0]) (Blk.ext (cs:=[.int .i64 0]) hB3 he4) hu5 (by omega)
 have hB45:Blk w5 b4 [.int .i64 r.length] 3:=hB5
 refine L.nil (T.seq (T.q (L.o (O.load isAgg3 rfl (hB45.cell rfl) (L.o (O.lss_s rfl rfl (fun h3=>?_) (fun h3=>?_)))))))
 ·refine L.m rfl (L.p (L.p (L.o (O.pick_true rfl rfl (L.nil (T.ct (T.q (L.o (O.store1 sizeOf3 rfl rfl rfl hB25 (by simp [Value.cells]) (fun w6 hu6 hB6=>?_))))))))))
  refine L.o (O.store1 sizeOf3 rfl rfl rfl (Blk.upd (cs:=[.int .i64 0]) hB35 hu6 (by omega)) (by simp [Value.cells]) (fun w7 hu7 hB7=>?_))
  have hd:=Done2.of (Keep.refl 0 w5) hu6 hB6 hu7 hB7 (by omega)
  refine L.nil (T.retC2 results208 isAgg3 isAgg3 rfl rfl (Opn.nil _) (fun w' hs=>hd.cells (Opn.nil _) hs) (fun w' hs=>⟨0,by rw [ringK,if_pos (.inl (by omega))],(hd.ext he05 (by omega) (by omega)).shut hs (fun r hr=>by cases hr)⟩))
 ·refine L.m rfl (L.o (O.load isAgg3 rfl (hB45.cell rfl) (L.o (O.gtr_s rfl rfl (fun h40=>?_) (fun h40=>?_)))))
  ·refine L.o (O.pick_false rfl rfl (L.nil (T.ct (T.q (L.o (O.store1 sizeOf3 rfl rfl rfl hB25 (by simp [Value.cells]) (fun w6 hu6 hB6=>?_)))))))
   refine L.o (O.store1 sizeOf3 rfl rfl rfl (Blk.upd (cs:=[.int .i64 0]) hB35 hu6 (by omega)) (by simp [Value.cells]) (fun w7 hu7 hB7=>?_))
   have hd:=Done2.of (Keep.refl 0 w5) hu6 hB6 hu7 hB7 (by omega)
   refine L.nil (T.retC2 results208 isAgg3 isAgg3 rfl rfl (Opn.nil _) (fun w' hs=>hd.cells (Opn.nil _) hs) (fun w' hs=>⟨0,by rw [ringK,if_pos (.inr (by omega))],(hd.ext he05 (by omega) (by omega)).shut hs (fun r hr=>by cases hr)⟩))
  ·have hcnt:¬ (r.length<3∨40<r.length):=by omega
   refine L.o (O.pick_false rfl rfl (L.nil (T.cf (T.skip (T.seq (T.q (L.o (O.load isAgg237 rfl (hB15.cell rfl) (L.o (O.call (xs:=[.tmp 19,.func 241]) call240 rfl rfl (indexF_calls lo p r w5 (hp.ext he05) hf) (fun v6 w6 hq=>?_)))))))))))
   obtain ⟨rfl,he6⟩:=hq
   refine L.a rfl (L.nil (T.q (L.m rfl (L.o (O.geq_f rfl rfl (by decide) (?_))))))
   have hB16:=Blk.ext (cs:=[p]) hB15 he6
   have hB26:=Blk.ext (cs:=[.int .i64 0]) hB25 he6
   have hB36:=Blk.ext (cs:=[.int .i64 0]) hB35 he6
   have hB46:=Blk.ext (cs:=[.int .i64 r.length]) hB45 he6
   have he06:=he05.trans he6
   refine L.nil (T.cf (T.skip (T.seq (T.q (L.o (O.load isAgg237 rfl (hB16.cell rfl) (L.o (O.call (xs:=[.tmp 24]) call242 rfl rfl (edges_calls p r.length (pcs r) lo w6 (hp.ext he06)) (fun v7 w7 hq=>?_)))))))))
   obtain ⟨rfl,he7,hBe7⟩:=hq
   have hB17:=Blk.ext (cs:=[p]) hB16 he7
   have hB27:=Blk.ext (cs:=[.int .i64 0]) hB26 he7
   have hB37:=Blk.ext (cs:=[.int .i64 0]) hB36 he7
   have hB47:=Blk.ext (cs:=[.int .i64 r.length]) hB46 he7
   have he07:=he06.trans he7
   have hp7:=hp.ext he07
   have hb2:=hB27.lt
   have hb3:=hB37.lt
   refine L.nil (T.block (?_))
   refine T.rangeFuncM (e1:=fun v x=>[(1,.pointer (some ⟨b1,0,none⟩)),(2,.pointer (some ⟨b2,0,none⟩)),(3,.pointer (some ⟨b3,0,none⟩)),(6,.pointer (some ⟨x,0,none⟩))]) (LI w7 (fun i=>∀ k,k<i→¬ stillI r k)) (fun c S w'=>c = .ret∧LX (∃ i,i<r.length∧stillI r i) b2 b3 3 3 3 w7 S w') (fun v x w'=>∃ i:Nat,v=eV i (rA r i) (rB r i)∧Blk w' x (eC i (rA r i) (rB r i)) 315) rfl call263 rfl (edges_seq w6.heap.size lo p r) ?_ ?_ ?_ ?_ ?_ ?_ ?_ ?_ ?_ ?_ ?_
   ·exact LI.stab
   ·exact fun c S W W' b h hb hu=>⟨h.1,h.2.upd hb hu hb2 hb3⟩
   ·exact fun i S W h=>⟨hp7.ext h.1,Blk.ext (cs:=[p]) hBe7 h.1⟩
   ·exact LI.start (fun k hk=>absurd hk (Nat.not_lt_zero _))
   ·exact fun k hk=>hk.elim
   ·exact fun W hW=>trivial
   ·rintro v x W W' b' ⟨i,h1,h2⟩ hne hu
    exact ⟨i,h1,h2.upd hu (Ne.symm hne)⟩
   ·intro l Q i j v k W hn hK
    obtain ⟨hi,rfl,_⟩:=hn
    refine T.region (L.o (O.alloc zeroValue315 (fun b8 w8 hb8 hz8 he8 hB8=>?_)))
    refine L.o (O.storeAgg sizeOf315 rfl rfl rfl hB8 (Nat.le_refl _) (by intro u hu;simp at hu;rcases hu with (rfl|rfl|rfl|rfl|rfl) <;> rfl) (fun w9 hu9 hB9=>?_))
    refine L.nil (T.sub ?_ (hK b8 _ (by omega) (he8.upd hu9 (.inr (by omega))) ⟨_,rfl,hB9⟩))
    exact ⟨rfl,rfl,rfl,rfl,trivial⟩
   ·rintro l i v x j S w8 ⟨hi,rfl,rfl⟩ ⟨he8,hS8,hA8⟩ ⟨i',hv,hBx⟩
    obtain rfl:i'=i:=by have h:=congrArg Value.cells hv;simp [eV,Value.cells] at h;omega
    refine T.block (T.q (L.o (O.fieldAddr runUnderlying315 rfl sizeOf124 rfl (L.o (O.loadAgg isAgg124 sizeOf124 rfl rfl (eC_a hBx) (L.o (O.fieldAddr runUnderlying315 rfl sizeOf124 rfl (L.o (O.loadAgg isAgg124 sizeOf124 rfl rfl (eC_b hBx) (?_))))))))))
    have hx2:x≠b2:=gblk_ne hBx (Blk.ext hB27 he8) (by decide)
    refine L.o (O.eqlPt_s rfl rfl rfl (fun hst=>?_) (fun hst=>?_))
    ·refine L.nil (T.ct (T.seq (?_)))
     refine T.any mixed 3 1 [6,2] rfl [.is _,.is _,.is undef] [[],[0],[]] [none,none,some 0] [[],[0],[],[0,1,2]] (PutI w8 b2 (.int .i64 3)) (fun _ _=>True) (by kernel_rfl) (by kernel_rfl) (by kernel_rfl) rfl trivial (Keep.drew _ _) ⟨fun c wx hx=>ObK.op rfl (O.fieldAddr runUnderlying315 rfl sizeOf3 rfl ⟨⟨trivial,hx⟩,rfl⟩),
       fun c wx hx=>ObK.op rfl (O.load isAgg3 rfl ((hx.blk hBx hx2).cell rfl) ⟨⟨trivial,hx⟩,rfl⟩),
       fun wx hx=>ObK.op rfl (O.store1 sizeOf3 rfl rfl rfl (Blk.ext (cs:=[.int .i64 0]) (Blk.ext hB27 he8) hx) (by simp [Value.cells]) (fun w11 hu11 hB11=>⟨⟨trivial,_,hx,hu11,hB11⟩,rfl⟩)),
       trivial⟩ (fun w10 hI10=>?_)
     obtain ⟨W1,hE,hU,hC⟩:=hI10
     refine L.o (O.store1 sizeOf3 rfl rfl rfl (Blk.upd (cs:=[.int .i64 0]) (Blk.ext (Blk.ext hB37 he8) hE) hU (by omega)) (by simp [Value.cells]) (fun w11 hu11 hB11=>?_))
     have hz8:=hE.size
     have hzU:=hU.size
     have hz11:=hu11.size
     refine L.nil (T.roundRet ⟨⟨rfl,⟨i',hi,hst⟩,fun k hk=>⟨(hS8 k hk).1,by have:=(hS8 k hk).2;omega⟩,_,(Done2.of hE hU hC hu11 hB11 (by omega)).from he8⟩,fun k hk=>?_⟩)
     have h1:=hS8 k hk
     rw [hu11.block k (by omega),hU.block k (by omega),hE.block k (Nat.zero_le _) h1.2]
    ·refine L.nil (T.cf (T.skip (T.blk (T.roundEnd ⟨⟨he8,hS8,fun k hk=>?_⟩,fun k hk=>rfl⟩))))
     ·by_cases e:k=i'
      ·subst e;exact hst
      ·exact hA8 k (by omega)
   ·rintro S D w8 hD hS0 hSD ⟨he8,hS8,hA8⟩ hD8
    have ho8:Opn [D] w8:=(Opn.nil _).cons hD8 (by simp)
    have hst:¬ ∃ i,i<r.length∧stillI r i:=fun ⟨i,h1,h2⟩=>hA8 i h1 h2
    refine T.blk (T.seq (T.q (L.o (O.load isAgg237 rfl ((Blk.ext (cs:=[p]) hB17 he8).cell rfl) (L.o (O.call (xs:=[.tmp 34]) call242 rfl rfl (edges_calls p r.length (pcs r) lo w8 (hp7.ext he8)) (fun v9 w9 hq=>?_)))))))
    obtain ⟨rfl,he9,hBe9⟩:=hq
    have he79:=he8.trans he9
    have hB19:=Blk.ext (cs:=[p]) hB17 he79
    have hB29:=Blk.ext (cs:=[.int .i64 0]) hB27 he79
    have hB39:=Blk.ext (cs:=[.int .i64 0]) hB37 he79
    have hB49:=Blk.ext (cs:=[.int .i64 r.length]) hB47 he79
    have he09:=he07.trans he79
    have hp9:=hp.ext he09
    have ho9:=ho8.ext he9
    have hz79:=he79.size
    have hz07:=he07.size
    refine L.nil (T.block (?_))
    refine T.rangeFuncM (e1:=fun v x=>[(1,.pointer (some ⟨b1,0,none⟩)),(2,.pointer (some ⟨b2,0,none⟩)),(3,.pointer (some ⟨b3,0,none⟩)),(4,.pointer (some ⟨b4,0,none⟩)),(7,.pointer (some ⟨x,0,none⟩))]) (LI w9 (fun i=>∀ k,k<i→¬ spikeI r k)) (fun c S w'=>c = .ret∧LX (∃ i,i<r.length∧spikeI r i) b2 b3 3 3 4 w9 S w') (fun v x w'=>∃ i:Nat,v=eV i (rA r i) (rB r i)∧Blk w' x (eC i (rA r i) (rB r i)) 315) rfl call263 rfl (edges_seq w8.heap.size lo p r) ?_ ?_ ?_ ?_ ?_ ?_ ?_ ?_ ?_ ?_ ?_
    ·exact LI.stab
    ·exact fun c S W W' b h hb hu=>⟨h.1,h.2.upd hb hu (by omega) (by omega)⟩
    ·exact fun i S W h=>⟨hp9.ext h.1,Blk.ext (cs:=[p]) hBe9 h.1⟩
    ·exact LI.start (fun k hk=>absurd hk (Nat.not_lt_zero _))
    ·exact fun k hk=>hk.elim
    ·exact fun W hW=>trivial
    ·rintro v x W W' b' ⟨i,h1,h2⟩ hne hu
     exact ⟨i,h1,h2.upd hu (Ne.symm hne)⟩
    ·intro l Q i j v k W hn hK
     obtain ⟨hi,rfl,_⟩:=hn
     refine T.region (L.o (O.alloc zeroValue315 (fun b8 w8 hb8 hz8 he8 hB8=>?_)))
     refine L.o (O.storeAgg sizeOf315 rfl rfl rfl hB8 (Nat.le_refl _) (by intro u hu;simp at hu;rcases hu with (rfl|rfl|rfl|rfl|rfl) <;> rfl) (fun w9 hu9 hB9=>?_))
     refine L.nil (T.sub ?_ (hK b8 _ (by omega) (he8.upd hu9 (.inr (by omega))) ⟨_,rfl,hB9⟩))
     exact ⟨rfl,rfl,rfl,rfl,rfl,trivial⟩
    ·rintro l i v x j S w10 ⟨hi,rfl,rfl⟩ ⟨he10,hS10,hA10⟩ ⟨i',hv,hBx⟩
     obtain rfl:i'=i:=by have h:=congrArg Value.cells hv;simp [eV,Value.cells] at h;omega
     have hm:(i'+r.length-1) % r.length<r.length:=Nat.mod_lt _ (by omega)
     have hmi:((i':Int)+r.length-1) % (r.length:Int)=(((i'+r.length-1) % r.length:Nat):Int):=by rw [show (i':Int)+r.length-1=((i'+r.length-1:Nat):Int) by omega];rfl
     have hB1x:=Blk.ext (cs:=[p]) hB19 he10
     have hB2x:=Blk.ext (cs:=[.int .i64 0]) hB29 he10
     have hB3x:=Blk.ext (cs:=[.int .i64 0]) hB39 he10
     have hB4x:=Blk.ext (cs:=[.int .i64 r.length]) hB49 he10
     have hpx:=hp9.ext he10
     have nP:Nr (rP r i'):=hn _ hm
     have nA:Nr (rA r i'):=hn _ hi
     have nB:Nr (rB r i'):=hn _ (Nat.mod_lt _ (by omega))
     refine T.block (T.seq (?_))
     refine T.anyE mixed 11 [1,7,4] rfl [.is _,.is _,.is _,.is _,.is _,.is _,.is _,.is (.int .i64 (((i'+r.length-1) % r.length:Nat):Int)),.is _,.is _,.such (PtB w10.heap.size)] [[],[],[1],[],[2,3],[4],[],[5,6],[0,7],[8],[]] [[],[],[1],[],[1,2,3],[1,2,3,4],[],[1,2,3,4,5,6],[0,1,2,3,4,5,6,7],[0,1,2,3,4,5,6,7,8],[],[0,1,2,3,4,5,6,7,8,9,10]] (by kernel_rfl) (by kernel_rfl) rfl (by kernel_rfl) ⟨fun v w w' h ⟨b,c,h1,h2,h3⟩=>⟨b,c,h1,h2,Blk.ext (cs:=pC c) h3 h⟩,trivial⟩ ⟨fun wx hx=>Ob.o (O.load isAgg237 rfl ((Blk.ext (cs:=[p]) hB1x hx).cell rfl) kR),
       fun wx hx=>Ob.o (O.fieldAddr runUnderlying315 rfl sizeOf3 rfl kR),
       fun wx hx=>Ob.o (O.load isAgg3 rfl ((Blk.ext (cs:=eC i' (rA r i') (rB r i')) hBx hx).cell rfl) kR),
       fun wx hx=>Ob.o (O.load isAgg3 rfl ((Blk.ext (cs:=[.int .i64 r.length]) hB4x hx).cell rfl) kR),
       fun wx hx=>Ob.o (O.add64 rfl rfl (by omega) kR),
       fun wx hx=>Ob.o (O.sub64 rfl rfl (by omega) kR),
       fun wx hx=>Ob.o (O.load isAgg3 rfl ((Blk.ext (cs:=[.int .i64 r.length]) hB4x hx).cell rfl) kR),
       fun wx hx=>Ob.o (O.rem rfl rfl (by omega) (by omega) ⟨Keep.refl _ _,by rw [hmi];rfl⟩),
       fun wx hx=>Ob.o (O.indexAddr runUnderlying237 sizeOf124 rfl rfl (hpx.ext hx) (by omega) (by omega) kR),
       fun wx hx=>Ob.o (O.loadAgg isAgg124 sizeOf124 rfl rfl ((hpx.ext hx).row hm) kR),
       fun wx hx=>Ob.o (O.alloc zeroValue124 (fun b wy hb hz he hB=>⟨he,b,(0,0),rfl,by have:=hx.size;omega,hB⟩)),
       trivial⟩ (fun w11 he11 v8 hv8=>?_)
     obtain ⟨b12,c12,rfl,hb12,hB12⟩:=hv8
     refine L.o (O.storeAgg sizeOf124 rfl rfl rfl hB12 (Nat.le_refl _) (pC_one (rP r i')) (fun w13 hu13 hB13=>?_))
     have hP13:Blk w13 b12 (pC (rP r i')) 124:=hB13
     have he1013:Ext w10 w13:=he11.upd hu13 (.inr hb12)
     have hX13:=Blk.ext (cs:=eC i' (rA r i') (rB r i')) hBx he1013
     refine L.nil (T.q (L.o (O.loadAgg isAgg124 sizeOf124 rfl rfl hP13.row (L.o (O.fieldAddr runUnderlying315 rfl sizeOf124 rfl (L.o (O.loadAgg isAgg124 sizeOf124 rfl rfl (eC_a hX13) (L.o (O.fieldAddr runUnderlying315 rfl sizeOf124 rfl (L.o (O.loadAgg isAgg124 sizeOf124 rfl rfl (eC_b hX13) (L.o (O.call (xs:=[.tmp 47,.tmp 49,.tmp 51]) call243 rfl rfl (turn_calls (rP r i') (rA r i') (rB r i') w13 nP nA nB) (fun v14 w14 hq=>?_))))))))))))))
     obtain ⟨rfl,he14⟩:=hq
     have he1014:=he1013.trans he14
     have hX14:=Blk.ext (cs:=eC i' (rA r i') (rB r i')) hBx he1014
     have hP14:=Blk.ext (cs:=pC (rP r i')) hP13 he14
     unfold Nr at nP nA nB
     have hx2:x≠b2:=gblk_ne hX14 (Blk.ext hB2x he1014) (by decide)
     refine L.o (O.eql_s rfl rfl (fun hturn=>?_) (fun hturn=>?_))
     ·refine L.m rfl (L.o (O.fieldAddr runUnderlying315 rfl sizeOf124 rfl (L.o (O.fieldAddr runUnderlying124 rfl sizeOf3 rfl (L.o (O.load isAgg3 rfl ((eC_a hX14) 0 _ rfl) (L.o (O.fieldAddr runUnderlying124 rfl sizeOf3 rfl (L.o (O.load isAgg3 rfl (hP14.cell rfl) (L.o (O.sub64 rfl rfl (by omega) (L.o (O.fieldAddr runUnderlying315 rfl sizeOf124 rfl (L.o (O.fieldAddr runUnderlying124 rfl sizeOf3 rfl (L.o (O.load isAgg3 rfl ((eC_b hX14) 0 _ rfl) (L.o (O.fieldAddr runUnderlying315 rfl sizeOf124 rfl (L.o (O.fieldAddr runUnderlying124 rfl sizeOf3 rfl (L.o (O.load isAgg3 rfl ((eC_a hX14) 0 _ rfl) (L.o (O.sub64 rfl rfl (by omega) (?_)))))))))))))))))))))))))))
      have m1:=mul_near (x:=(rA r i').1-(rP r i').1) (y:=(rB r i').1-(rA r i').1) (by omega)
      refine L.o (O.mul64 rfl rfl (by omega) (L.o (O.fieldAddr runUnderlying315 rfl sizeOf124 rfl (L.o (O.fieldAddr runUnderlying124 rfl sizeOf3 rfl (L.o (O.load isAgg3 rfl ((eC_a hX14) 1 _ rfl) (L.o (O.fieldAddr runUnderlying124 rfl sizeOf3 rfl (L.o (O.load isAgg3 rfl (hP14.cell rfl) (L.o (O.sub64 rfl rfl (by omega) (L.o (O.fieldAddr runUnderlying315 rfl sizeOf124 rfl (L.o (O.fieldAddr runUnderlying124 rfl sizeOf3 rfl (L.o (O.load isAgg3 rfl ((eC_b hX14) 1 _ rfl) (L.o (O.fieldAddr runUnderlying315 rfl sizeOf124 rfl (L.o (O.fieldAddr runUnderlying124 rfl sizeOf3 rfl (L.o (O.load isAgg3 rfl ((eC_a hX14) 1 _ rfl) (L.o (O.sub64 rfl rfl (by omega) (?_))))))))))))))))))))))))))))
      have m2:=mul_near (x:=(rA r i').2-(rP r i').2) (y:=(rB r i').2-(rA r i').2) (by omega)
      refine L.o (O.mul64 rfl rfl (by omega) (L.o (O.add64 rfl rfl (by omega) (L.o (O.lss_s rfl rfl (fun hfw=>?_) (fun hfw=>?_))))))
      ·refine L.o (O.pick_true rfl rfl (L.nil (T.ct (T.seq (?_)))))
       refine T.any mixed 3 1 [7,2] rfl [.is _,.is _,.is undef] [[],[0],[]] [none,none,some 0] [[],[0],[],[0,1,2]] (PutI w14 b2 (.int .i64 4)) (fun _ _=>True) (by kernel_rfl) (by kernel_rfl) (by kernel_rfl) rfl trivial (Keep.drew _ _) ⟨fun c wx hx=>ObK.op rfl (O.fieldAddr runUnderlying315 rfl sizeOf3 rfl ⟨⟨trivial,hx⟩,rfl⟩),
         fun c wx hx=>ObK.op rfl (O.load isAgg3 rfl ((hx.blk hX14 hx2).cell rfl) ⟨⟨trivial,hx⟩,rfl⟩),
         fun wx hx=>ObK.op rfl (O.store1 sizeOf3 rfl rfl rfl (Blk.ext (cs:=[.int .i64 0]) (Blk.ext hB2x he1014) hx) (by simp [Value.cells]) (fun w16 hu16 hB16=>⟨⟨trivial,_,hx,hu16,hB16⟩,rfl⟩)),
         trivial⟩ (fun w15 hI15=>?_)
       obtain ⟨W1,hE,hU,hC⟩:=hI15
       refine L.o (O.store1 sizeOf3 rfl rfl rfl (Blk.upd (cs:=[.int .i64 0]) (Blk.ext (Blk.ext hB3x he1014) hE) hU (by omega)) (by simp [Value.cells]) (fun w16 hu16 hB16=>?_))
       have hz14:=he1014.size
       have hz15:=hE.size
       have hzU:=hU.size
       have hz16:=hu16.size
       refine L.nil (T.roundRet ⟨⟨rfl,⟨i',hi,sgn_zero hturn,hfw⟩,fun k hk=>⟨(hS10 k hk).1,by have:=(hS10 k hk).2;omega⟩,_,(Done2.of hE hU hC hu16 hB16 (by omega)).from (he10.trans he1014)⟩,fun k hk=>?_⟩)
       have h1:=hS10 k hk
       rw [hu16.block k (by omega),hU.block k (by omega),hE.block k (Nat.zero_le _) (by omega),he1014.block k (Nat.zero_le _) h1.2]
      ·refine L.o (O.pick_true rfl rfl (L.nil (T.cf (T.skip (T.blk (T.roundEnd ⟨⟨he10.trans he1014,fun k hk=>⟨(hS10 k hk).1,Nat.lt_of_lt_of_le (hS10 k hk).2 he1014.size⟩,fun k hk=>?_⟩,fun k hk=>he1014.block k (Nat.zero_le _) (hS10 k hk).2⟩))))))
       ·by_cases e:k=i'
        ·subst e;exact fun h=>hfw h.2
        ·exact hA10 k (by omega)
     ·refine L.m rfl (L.p (L.p (L.p (L.p (L.p (L.p (L.p (L.p (L.p (L.p (L.p (L.p (L.p (L.p (L.p (L.p (L.p (L.p (L.p (L.p (L.p (L.p (L.p (?_))))))))))))))))))))))))
      refine L.p (L.p (L.p (L.p (L.p (L.p (L.p (L.o (O.pick_false rfl rfl (L.nil (T.cf (T.skip (T.blk (T.roundEnd ⟨⟨he10.trans he1014,fun k hk=>⟨(hS10 k hk).1,Nat.lt_of_lt_of_le (hS10 k hk).2 he1014.size⟩,fun k hk=>?_⟩,fun k hk=>he1014.block k (Nat.zero_le _) (hS10 k hk).2⟩)))))))))))))
      ·by_cases e:k=i'
       ·subst e;exact fun h=>hturn (by rw [h.1];rfl)
       ·exact hA10 k (by omega)
    ·rintro S2 D2 w10 hD2 hS02 hSD2 ⟨he10,hS10,hA10⟩ hD10
     have ho10:Opn [D2,D] w10:=(ho9.ext he10).cons hD10 (by have:=ho9.lt D (by simp);simp;omega)
     have hsp:¬ ∃ i,i<r.length∧spikeI r i:=fun ⟨i,h1,h2⟩=>hA10 i h1 h2
     refine T.blk (T.seq (T.q (L.o (O.load isAgg237 rfl ((Blk.ext (cs:=[p]) hB19 he10).cell rfl) (L.o (O.call (xs:=[.tmp 88]) call242 rfl rfl (edges_calls p r.length (pcs r) lo w10 (hp9.ext he10)) (fun v11 w11 hq=>?_)))))))
     obtain ⟨rfl,he11,hBe11⟩:=hq
     have he911:=he10.trans he11
     have hB1y:=Blk.ext (cs:=[p]) hB19 he911
     have hB2z:=Blk.ext (cs:=[.int .i64 0]) hB29 he911
     have hB3z:=Blk.ext (cs:=[.int .i64 0]) hB39 he911
     have hB4z:=Blk.ext (cs:=[.int .i64 r.length]) hB49 he911
     have he011:=he09.trans he911
     have hp11:=hp.ext he011
     have ho11:=ho10.ext he11
     have hz911:=he911.size
     have hz1011:=he11.size
     refine L.nil (T.block (?_))
     refine T.rangeFuncMH (e1:=fun v x=>[(1,.pointer (some ⟨b1,0,none⟩)),(2,.pointer (some ⟨b2,0,none⟩)),(3,.pointer (some ⟨b3,0,none⟩)),(4,.pointer (some ⟨b4,0,none⟩)),(9,.pointer (some ⟨x,0,none⟩))]) (LI w11 (fun i=>∀ k,k<i→∀ j,j<r.length→¬ crossI r k j)) (fun c S w'=>c = .ret∧LX (∃ i,i<r.length∧∃ j,j<r.length∧crossI r i j) b2 b3 3 3 5 w11 S w') (fun v x w'=>∃ i:Nat,v=eV i (rA r i) (rB r i)∧Blk w' x (eC i (rA r i) (rB r i)) 315) rfl call263 rfl (edges_seq w10.heap.size lo p r) ?_ ?_ ?_ ?_ ?_ ?_ ?_ ?_ ?_ ?_ ?_
     ·exact LI.stab
     ·exact fun c S W W' b h hb hu=>⟨h.1,h.2.upd hb hu (by omega) (by omega)⟩
     ·exact fun i S W h=>⟨hp11.ext h.1,Blk.ext (cs:=[p]) hBe11 h.1⟩
     ·exact LI.start (fun k hk=>absurd hk (Nat.not_lt_zero _))
     ·exact fun k hk=>hk.elim
     ·exact fun W hW=>trivial
     ·rintro v x W W' b' ⟨i,h1,h2⟩ hne hu
      exact ⟨i,h1,h2.upd hu (Ne.symm hne)⟩
     ·intro l Q i j v k W hn hK
      obtain ⟨hi,rfl,_⟩:=hn
      refine T.region (L.o (O.alloc zeroValue315 (fun b8 w8 hb8 hz8 he8 hB8=>?_)))
      refine L.o (O.storeAgg sizeOf315 rfl rfl rfl hB8 (Nat.le_refl _) (by intro u hu;simp at hu;rcases hu with (rfl|rfl|rfl|rfl|rfl) <;> rfl) (fun w9 hu9 hB9=>?_))
      refine L.nil (T.sub ?_ (hK b8 _ (by omega) (he8.upd hu9 (.inr (by omega))) ⟨_,rfl,hB9⟩))
      exact ⟨rfl,rfl,rfl,rfl,rfl,trivial⟩
     ·rintro l i v bx j S w12 ⟨hi,rfl,rfl⟩ ⟨he12,hS12,hA12⟩ ⟨i',hv,hBx⟩ ⟨rc,hrc⟩ hSl
      obtain rfl:i'=i:=by have h:=congrArg Value.cells hv;simp [eV,Value.cells] at h;omega
      have nA:Nr (rA r i'):=hn _ hi
      have nB:Nr (rB r i'):=hn _ (Nat.mod_lt _ (by omega))
      refine T.block (T.q (L.o (O.load isAgg237 rfl ((Blk.ext (cs:=[p]) hB1y he12).cell rfl) (L.o (O.call (xs:=[.tmp 91]) call242 rfl rfl (edges_calls p r.length (pcs r) lo w12 (hp11.ext he12)) (fun v13 w13 hq=>?_))))))
      obtain ⟨rfl,he13,hBe13⟩:=hq
      have he1113:=he12.trans he13
      have hB2y:=Blk.ext (cs:=[.int .i64 0]) hB2z he1113
      have hB3y:=Blk.ext (cs:=[.int .i64 0]) hB3z he1113
      have hB4y:=Blk.ext (cs:=[.int .i64 r.length]) hB4z he1113
      have hX13:=Blk.ext (cs:=eC i' (rA r i') (rB r i')) hBx he13
      have hp13:=hp11.ext he1113
      have hz1213:=he13.size
      have hz1113:=he1113.size
      refine L.nil (T.block (?_))
      refine T.rangeFuncN (e1:=fun v x=>[(2,.pointer (some ⟨b2,0,none⟩)),(3,.pointer (some ⟨b3,0,none⟩)),(4,.pointer (some ⟨b4,0,none⟩)),(9,.pointer (some ⟨bx,0,none⟩)),(10,.pointer (some ⟨x,0,none⟩))]) (LI w13 (fun j=>∀ k,k<j→¬ crossI r i' k)) (fun c S w'=>(c = .exit 6∧LI w13 (fun _:Nat=>∀ k,k<r.length→¬ crossI r i' k) 0 S w')∨c = .ret∧LX (∃ j,j<r.length∧crossI r i' j) b2 b3 3 3 5 w13 S w') (fun v x w'=>∃ i:Nat,v=eV i (rA r i) (rB r i)∧Blk w' x (eC i (rA r i) (rB r i)) 315) rfl (he13.blk (Nat.zero_le _) hrc) rfl call263 rfl (edges_seq w12.heap.size lo p r) ?_ ?_ ?_ ?_ ?_ ?_ ?_ ?_ ?_ ?_ ?_
      ·exact LI.stab
      ·exact fun c S W W' b h hb hu=>h.imp (fun h=>⟨h.1,LI.stab.2 0 S W W' b h.2 hb hu⟩) (fun h=>⟨h.1,h.2.upd hb hu (by omega) (by omega)⟩)
      ·exact fun i S W h=>⟨hp13.ext h.1,Blk.ext (cs:=[p]) hBe13 h.1⟩
      ·exact LI.start (fun k hk=>absurd hk (Nat.not_lt_zero _))
      ·exact fun k hk=>hk.elim
      ·exact fun W hW=>trivial
      ·rintro v x W W' b' ⟨i,h1,h2⟩ hne hu
       exact ⟨i,h1,h2.upd hu (Ne.symm hne)⟩
      ·intro l Q i j v k W hn hK
       obtain ⟨hi,rfl,_⟩:=hn
       refine T.region (L.o (O.alloc zeroValue315 (fun b8 w8 hb8 hz8 he8 hB8=>?_)))
       refine L.o (O.storeAgg sizeOf315 rfl rfl rfl hB8 (Nat.le_refl _) (by intro u hu;simp at hu;rcases hu with (rfl|rfl|rfl|rfl|rfl) <;> rfl) (fun w9 hu9 hB9=>?_))
       refine L.nil (T.sub ?_ (hK b8 _ (by omega) (he8.upd hu9 (.inr (by omega))) ⟨_,rfl,hB9⟩))
       exact ⟨rfl,rfl,rfl,rfl,rfl,trivial⟩
      ·rintro l2 j0 v2 y j2 S2 w14 ⟨hj,rfl,rfl⟩ ⟨he14,hS14,hA14⟩ ⟨j',hv2,hY14⟩ _ _
       obtain rfl:j'=j0:=by have h:=congrArg Value.cells hv2;simp [eV,Value.cells] at h;omega
       have nA2:Nr (rA r j'):=hn _ hj
       have nB2:Nr (rB r j'):=hn _ (Nat.mod_lt _ (by omega))
       have hX14:=Blk.ext (cs:=eC i' (rA r i') (rB r i')) hX13 he14
       have hB4w:=Blk.ext (cs:=[.int .i64 r.length]) hB4y he14
       have he1214:=he14
       refine T.block (T.seq (T.q (L.o (O.fieldAddr runUnderlying315 rfl sizeOf3 rfl (L.o (O.load isAgg3 rfl (hY14.cell rfl) (L.o (O.fieldAddr runUnderlying315 rfl sizeOf3 rfl (L.o (O.load isAgg3 rfl (hX14.cell rfl) (L.o (O.sub64 rfl rfl (by omega) (L.o (O.geq_s rfl rfl (fun hge=>?_) (fun hge=>?_)))))))))))))))
       ·refine L.nil (T.ct (T.roundExit rfl ⟨.inl ⟨rfl,he14,hS14,fun k hk h=>?_⟩,fun k hk=>rfl⟩))
        by_cases e:k<j'
        ·exact hA14 k e h
        ·have:=h.1;omega
       ·refine L.nil (T.cf (T.skip (T.seq (T.q (L.o (O.fieldAddr runUnderlying315 rfl sizeOf3 rfl (L.o (O.load isAgg3 rfl (hY14.cell rfl) (L.o (O.eql_s rfl rfl (fun hz=>?_) (fun hz=>?_)))))))))))
        ·refine L.m rfl (L.o (O.fieldAddr runUnderlying315 rfl sizeOf3 rfl (L.o (O.load isAgg3 rfl (hX14.cell rfl) (L.o (O.load isAgg3 rfl (hB4w.cell rfl) (L.o (O.sub64 rfl rfl (by omega) (L.o (O.eql_s rfl rfl (fun hz2=>?_) (fun hz2=>?_)))))))))))
         ·refine L.o (O.pick_true rfl rfl (L.nil (T.ct (T.exit rfl (T.roundEnd ⟨⟨he14,hS14,fun k hk=>?_⟩,fun k hk=>rfl⟩)))))
          ·by_cases e:k=j'
           ·subst e;exact fun h=>h.2.1 ⟨by omega,by omega⟩
           ·exact hA14 k (by omega)
         ·have hcr:meetI (rA r i') (rB r i') (rA r j') (rB r j')≠0→crossI r i' j':=fun h=>⟨by omega,fun h=>by omega,h⟩
          refine L.o (O.pick_true rfl rfl (L.nil (T.cf (T.skip (T.q (L.o (O.loadAgg isAgg315 sizeOf315 rfl rfl hX14.row (L.o (O.loadAgg isAgg315 sizeOf315 rfl rfl hY14.row (L.o (O.call (xs:=[.tmp 110,.tmp 111]) call244 rfl rfl (meets_calls i' j' (rA r i') (rB r i') (rA r j') (rB r j') w14 nA nB nA2 nB2) (fun v15 w15 hq=>?_))))))))))))
          obtain ⟨rfl,he15⟩:=hq
          have he1215:=he1214.trans he15
          refine L.o (O.neq_s rfl rfl (fun hme=>?_) (fun hme=>?_))
          ·refine L.nil (?_)
           have hX15:=Blk.ext (cs:=eC i' (rA r i') (rB r i')) hX14 he15
           have hx2:bx≠b2:=gblk_ne hX15 (Blk.ext hB2y he1215) (by decide)
           refine T.ct (T.seq (?_))
           refine T.any mixed 3 1 [9,2] rfl [.is _,.is _,.is undef] [[],[0],[]] [none,none,some 0] [[],[0],[],[0,1,2]] (PutI w15 b2 (.int .i64 5)) (fun _ _=>True) (by kernel_rfl) (by kernel_rfl) (by kernel_rfl) rfl trivial (Keep.drew _ _) ⟨fun c wx hx=>ObK.op rfl (O.fieldAddr runUnderlying315 rfl sizeOf3 rfl ⟨⟨trivial,hx⟩,rfl⟩),
             fun c wx hx=>ObK.op rfl (O.load isAgg3 rfl ((hx.blk hX15 hx2).cell rfl) ⟨⟨trivial,hx⟩,rfl⟩),
             fun wx hx=>ObK.op rfl (O.store1 sizeOf3 rfl rfl rfl (Blk.ext (cs:=[.int .i64 0]) (Blk.ext hB2y he1215) hx) (by simp [Value.cells]) (fun w17 hu17 hB17=>⟨⟨trivial,_,hx,hu17,hB17⟩,rfl⟩)),
             trivial⟩ (fun w16 hI16=>?_)
           obtain ⟨W1,hE,hU,hC⟩:=hI16
           refine L.o (O.store1 sizeOf3 rfl rfl rfl (Blk.upd (cs:=[.int .i64 0]) (Blk.ext (Blk.ext hB3y he1215) hE) hU (by omega)) (by simp [Value.cells]) (fun w17 hu17 hB17=>?_))
           have hz15:=he15.size
           have hz16:=hE.size
           have hzU:=hU.size
           have hz17:=hu17.size
           have hz1315:=(he14.trans he15).size
           refine L.nil (T.roundRet ⟨.inr ⟨rfl,⟨j',hj,hcr hme⟩,fun k hk=>⟨(hS14 k hk).1,by have:=(hS14 k hk).2;omega⟩,_,(Done2.of hE hU hC hu17 hB17 (by omega)).from (he14.trans he15)⟩,fun k hk=>?_⟩)
           have h1:=hS14 k hk
           rw [hu17.block k (by omega),hU.block k (by omega),hE.block k (Nat.zero_le _) (by omega),he15.block k (Nat.zero_le _) h1.2]
          ·refine L.nil (T.cf (T.skip (T.blk (T.roundEnd ⟨⟨he14.trans he15,fun k hk=>⟨(hS14 k hk).1,Nat.lt_of_lt_of_le (hS14 k hk).2 he15.size⟩,fun k hk=>?_⟩,fun k hk=>he15.block k (Nat.zero_le _) (hS14 k hk).2⟩))))
           ·by_cases e:k=j'
            ·subst e;exact fun h=>h.2.2 hme
            ·exact hA14 k (by omega)
        ·have hcr:meetI (rA r i') (rB r i') (rA r j') (rB r j')≠0→crossI r i' j':=fun h=>⟨by omega,fun h=>by omega,h⟩
         refine L.m rfl (L.p (L.p (L.p (L.p (L.p (L.o (O.pick_false rfl rfl (L.nil (T.cf (T.skip (T.q (L.o (O.loadAgg isAgg315 sizeOf315 rfl rfl hX14.row (L.o (O.loadAgg isAgg315 sizeOf315 rfl rfl hY14.row (L.o (O.call (xs:=[.tmp 110,.tmp 111]) call244 rfl rfl (meets_calls i' j' (rA r i') (rB r i') (rA r j') (rB r j') w14 nA nB nA2 nB2) (fun v15 w15 hq=>?_))))))))))))))))))
         obtain ⟨rfl,he15⟩:=hq
         have he1215:=he1214.trans he15
         refine L.o (O.neq_s rfl rfl (fun hme=>?_) (fun hme=>?_))
         ·refine L.nil (?_)
          have hX15:=Blk.ext (cs:=eC i' (rA r i') (rB r i')) hX14 he15
          have hx2:bx≠b2:=gblk_ne hX15 (Blk.ext hB2y he1215) (by decide)
          refine T.ct (T.seq (?_))
          refine T.any mixed 3 1 [9,2] rfl [.is _,.is _,.is undef] [[],[0],[]] [none,none,some 0] [[],[0],[],[0,1,2]] (PutI w15 b2 (.int .i64 5)) (fun _ _=>True) (by kernel_rfl) (by kernel_rfl) (by kernel_rfl) rfl trivial (Keep.drew _ _) ⟨fun c wx hx=>ObK.op rfl (O.fieldAddr runUnderlying315 rfl sizeOf3 rfl ⟨⟨trivial,hx⟩,rfl⟩),
            fun c wx hx=>ObK.op rfl (O.load isAgg3 rfl ((hx.blk hX15 hx2).cell rfl) ⟨⟨trivial,hx⟩,rfl⟩),
            fun wx hx=>ObK.op rfl (O.store1 sizeOf3 rfl rfl rfl (Blk.ext (cs:=[.int .i64 0]) (Blk.ext hB2y he1215) hx) (by simp [Value.cells]) (fun w17 hu17 hB17=>⟨⟨trivial,_,hx,hu17,hB17⟩,rfl⟩)),
            trivial⟩ (fun w16 hI16=>?_)
          obtain ⟨W1,hE,hU,hC⟩:=hI16
          refine L.o (O.store1 sizeOf3 rfl rfl rfl (Blk.upd (cs:=[.int .i64 0]) (Blk.ext (Blk.ext hB3y he1215) hE) hU (by omega)) (by simp [Value.cells]) (fun w17 hu17 hB17=>?_))
          have hz15:=he15.size
          have hz16:=hE.size
          have hzU:=hU.size
          have hz17:=hu17.size
          have hz1315:=(he14.trans he15).size
          refine L.nil (T.roundRet ⟨.inr ⟨rfl,⟨j',hj,hcr hme⟩,fun k hk=>⟨(hS14 k hk).1,by have:=(hS14 k hk).2;omega⟩,_,(Done2.of hE hU hC hu17 hB17 (by omega)).from (he14.trans he15)⟩,fun k hk=>?_⟩)
          have h1:=hS14 k hk
          rw [hu17.block k (by omega),hU.block k (by omega),hE.block k (Nat.zero_le _) (by omega),he15.block k (Nat.zero_le _) h1.2]
         ·refine L.nil (T.cf (T.skip (T.blk (T.roundEnd ⟨⟨he14.trans he15,fun k hk=>⟨(hS14 k hk).1,Nat.lt_of_lt_of_le (hS14 k hk).2 he15.size⟩,fun k hk=>?_⟩,fun k hk=>he15.block k (Nat.zero_le _) (hS14 k hk).2⟩))))
          ·by_cases e:k=j'
           ·subst e;exact fun h=>h.2.2 hme
           ·exact hA14 k (by omega)
      ·rintro S3 w14 hS03 ⟨he14,hS14,hA14⟩
       refine T.blk (T.blk (T.roundEnd ⟨⟨he1113.trans he14,fun k hk=>⟨(hS12 k hk).1,Nat.lt_of_lt_of_le (hS12 k hk).2 (he13.trans he14).size⟩,fun k hk j hj=>?_⟩,fun k hk=>(he13.trans he14).block k (Nat.zero_le _) (hS12 k hk).2⟩))
       ·by_cases e:k=i'
        ·subst e;exact hA14 j hj
        ·exact hA12 k (by omega) j hj
      ·rintro c S3 w14 (⟨rfl,he14,hS14,hA14⟩|⟨rfl,hB,hS14,a,hd⟩)
       ·refine T.exit rfl (T.blk (T.roundEnd ⟨⟨he1113.trans he14,fun k hk=>⟨(hS12 k hk).1,Nat.lt_of_lt_of_le (hS12 k hk).2 (he13.trans he14).size⟩,fun k hk j hj=>?_⟩,fun k hk=>(he13.trans he14).block k (Nat.zero_le _) (hS12 k hk).2⟩))
        ·by_cases e:k=i'
         ·subst e;exact hA14 j hj
         ·exact hA12 k (by omega) j hj
       ·refine T.roundRet ⟨⟨rfl,⟨i',hi,hB⟩,fun k hk=>⟨(hS12 k hk).1,by have:=(hS12 k hk).2;have:=hd.size;omega⟩,a,hd.from he1113⟩,fun k hk=>?_⟩
        have h1:=hS12 k hk
        rw [hd.block k (by omega) (by omega) (by omega),he13.block k (Nat.zero_le _) h1.2]
     ·rintro S3 D3 w12 hD3 hS03 hSD3 ⟨he12,hS12,hA12⟩ hD12
      have ho12:Opn [D3,D2,D] w12:=(ho11.ext he12).cons hD12 (by have:=ho11.lt D (by simp);have:=ho11.lt D2 (by simp);simp;omega)
      have hcx:¬ ∃ i,i<r.length∧∃ j,j<r.length∧crossI r i j:=fun ⟨i,h1,j,h2,h3⟩=>hA12 i h1 j h2 h3
      refine T.blk (T.q (L.o (O.store1 sizeOf3 rfl rfl rfl (Blk.ext (cs:=[.int .i64 0]) hB2z he12) (by simp [Value.cells]) (fun w13 hu13 hB13=>?_))))
      refine L.o (O.store1 sizeOf3 rfl rfl rfl (Blk.upd (cs:=[.int .i64 0]) (Blk.ext (cs:=[.int .i64 0]) hB3z he12) hu13 (by omega)) (by simp [Value.cells]) (fun w14 hu14 hB14=>?_))
      have hd12:=Done2.of (Keep.refl 0 w12) hu13 hB13 hu14 hB14 (by omega)
      have ho14:Opn [D3,D2,D] w14:=Opn.done ho12 hd12 (Blk.ext (cs:=[.int .i64 0]) hB2z he12) (Blk.ext (cs:=[.int .i64 0]) hB3z he12)
      have hd:=hd12.from he12
      refine L.nil (T.retC2 results208 isAgg3 isAgg3 rfl rfl ho14 (fun w' hs=>hd.cells ho14 hs) (fun w' hs=>⟨0,by rw [ringK,if_neg hcnt,if_neg hst,if_neg hsp,if_neg hcx],(hd.ext he011 (by omega) (by omega)).shut hs (fun r hr=>by simp at hr;omega)⟩))
     ·rintro c S3 D3 w12 hD3 hSD3 ⟨rfl,hB,hS12,a,hd⟩ hD12
      have ho12:Opn [D3,D2,D] w12:=Opn.cons (Opn.done ho11 hd hB2z hB3z) hD12 (by have:=ho11.lt D (by simp);have:=ho11.lt D2 (by simp);simp;omega)
      refine T.retC2 results208 isAgg3 isAgg3 rfl rfl ho12 (fun w' hs=>hd.cells ho12 hs) (fun w' hs=>⟨a,by rw [ringK,if_neg hcnt,if_neg hst,if_neg hsp,if_pos hB],(hd.ext he011 (by omega) (by omega)).shut hs (fun r hr=>by simp at hr;omega)⟩)
    ·rintro c S2 D2 w10 hD2 hSD2 ⟨rfl,hB,hS10,a,hd⟩ hD10
     have ho10:Opn [D2,D] w10:=Opn.cons (Opn.done ho9 hd hB29 hB39) hD10 (by simp;have:=ho9.lt D (by simp);omega)
     refine T.retC2 results208 isAgg3 isAgg3 rfl rfl ho10 (fun w' hs=>hd.cells ho10 hs) (fun w' hs=>⟨a,by rw [ringK,if_neg hcnt,if_neg hst,if_pos hB],(hd.ext he09 (by omega) (by omega)).shut hs (fun r hr=>by simp at hr;omega)⟩)
   ·rintro c S D w8 hD hSD ⟨rfl,hB,hS8,a,hd⟩ hD8
    have ho8:Opn [D] w8:=(Opn.nil _).cons hD8 (by simp)
    refine T.retC2 results208 isAgg3 isAgg3 rfl rfl ho8 (fun w' hs=>hd.cells ho8 hs) (fun w' hs=>⟨a,by rw [ringK,if_neg hcnt,if_pos hB],(hd.ext he07 (by omega) (by omega)).shut hs (fun r hr=>by rw [List.mem_singleton] at hr;exact .inr (by have:=he07.size;omega))⟩)

theorem ringCheck_calls (lo:Nat) (p:Value) (r:List Pt) (w:World) (hp:Pts lo w p r) (hf:NfL r) :
  Calls Tryz.prog 184 #[p] w (Ret fun v w'=>v = .int .i64 (if 0<ringK r then 140 else 0)∧Ext w w'):=by
 refine T.enter (vs:=[p]) func184 rfl ntmps184 rfl ?_
 refine T.q (L.a rfl (L.nil (T.seq (T.q (L.m rfl (L.o (O.call (xs:=[.tmp 6]) call208 rfl rfl (ringFlaw_calls lo p r w hp hf) (fun v1 w1 hq=>?_))))))))
 obtain ⟨a,rfl,he1⟩:=hq
 refine L.m rfl (L.o (O.extract rfl rfl (L.o (O.extract rfl rfl (L.a rfl (L.a rfl (L.nil (T.q (L.m rfl (L.o (O.gtr_s rfl rfl (fun h0=>?_) (fun h0=>?_))))))))))))
 ·refine L.nil (T.ct (T.q (L.a rfl (L.nil (T.ret1 results184 rfl ⟨by rw [if_pos h0],he1⟩)))))
 ·refine L.nil (T.cf (T.skip (T.q (L.a rfl (L.nil (T.ret1 results184 rfl ⟨by rw [if_neg h0],he1⟩))))))

open Go Go.E

/-- A ring's list of numbers: its value, and what it holds. -/
structure RiV where
 v:Value
 xs:List Int
/-- A face. -/
structure FaV where
 o:RiV
 hv:Value
 hs:List RiV
def FaV.val (f:FaV):Value:=.agg #[f.o.v,f.hv]
def FaV.cells (f:FaV):List Value:=[f.o.v,f.hv]
def riCells (l:List RiV):List Value:=l.map (·.v)
structure FaV.ok (lo:Nat) (w:World) (f:FaV):Prop where
 o:Ints .i64 lo w f.o.v f.o.xs
 sl:Sl lo w f.hv f.hs.length 1 (riCells f.hs)
 hs:∀ h∈f.hs,Ints .i64 lo w h.v h.xs
theorem FaV.ok.ext {lo:Nat} {w w':World} {f:FaV} (h:f.ok lo w) (k:Ext w w'):f.ok lo w':=⟨h.o.ext k,Sl.ext h.sl k,fun x hx=>(h.hs x hx).ext k⟩
def fcells (l:List FaV):List Value:=l.flatMap FaV.cells
/-- A complex. -/
structure CxV where
 pv:Value
 ps:List Pt
 fv:Value
 fs:List FaV
def CxV.val (c:CxV):Value:=.agg #[c.pv,c.fv]
def CxV.cells (c:CxV):List Value:=[c.pv,c.fv]
structure CxV.ok (lo:Nat) (w:World) (c:CxV):Prop where
 p:Pts lo w c.pv c.ps
 sl:Sl lo w c.fv c.fs.length 2 (fcells c.fs)
 fs:∀ f∈c.fs,f.ok lo w
theorem CxV.ok.ext {lo:Nat} {w w':World} {c:CxV} (h:c.ok lo w) (k:Ext w w'):c.ok lo w':=⟨h.p.ext k,Sl.ext h.sl k,fun x hx=>(h.fs x hx).ext k⟩
def f0:FaV:=⟨⟨undef,[]⟩,undef,[]⟩
theorem fcells_get:∀ (r:List FaV) (i:Nat),i<r.length→((fcells r).drop (i*2)).take 2=(r.getD i f0).cells
 | [],i,h=>by simp at h
 | p::r,0,_=>rfl
 | p::r,i+1,h=>by
  have ih:=fcells_get r i (by simpa using h)
  have e:fcells (p::r)=p.o.v::p.hv::fcells r:=rfl
  rw [e,show (i+1)*2=i*2+1+1 by omega,List.drop_succ_cons,List.drop_succ_cons,ih]
  rfl
theorem CxV.ok.row {lo:Nat} {w:World} {c:CxV} (h:c.ok lo w) {i:Nat} (hi:i<c.fs.length):Row w ((sAddr c.fv).add ((i:Int).toNat*2)) (c.fs.getD i f0).cells:=by
 rw [Int.toNat_natCast,← fcells_get c.fs i hi]
 obtain ⟨_,_,_,_,hr⟩:=Sl.there h.sl (by omega)
 exact hr.part (i*2) 2
theorem CxV.ok.at {lo:Nat} {w:World} {c:CxV} (h:c.ok lo w) {i:Nat} (hi:i<c.fs.length):(c.fs.getD i f0).ok lo w:=by
 rw [getD_get hi];exact h.fs _ (List.getElem_mem hi)
/-- Indices of points. -/
def IxL (n:Nat) (l:List Int):Prop:=∀ i,i<l.length→0≤l.getD i 0∧l.getD i 0<n
def corP (ps:List Pt) (t:Int) (x:Int):Pt:=(t*(ps.getD x.toNat (0,0)).1,t*(ps.getD x.toNat (0,0)).2)
/-- The corners of a ring. -/
def cor (ps:List Pt) (t:Int) (l:List Int):List Pt:=l.map (corP ps t)
theorem cor_take (ps:List Pt) (t:Int) (l:List Int) {i:Nat} (hi:i<l.length):cor ps t (l.take (i+1))=cor ps t (l.take i) ++ [corP ps t (l.getD i 0)]:=by
 rw [getD_get hi,cor,cor,List.take_succ_eq_append_getElem hi,List.map_append];rfl
theorem cor_get {ps:List Pt} {t:Int} {l:List Int} {i:Nat} (hi:i<l.length):(cor ps t l).getD i (0,0)=corP ps t (l.getD i 0):=by
 rw [getD_get (by rw [cor,List.length_map];exact hi),getD_get hi];simp [cor]
theorem far_bnd {p:Pt} (h:farB p=false):(-1000000≤p.1∧p.1≤1000000) ∧ -1000000≤p.2∧p.2≤1000000:=by
 simp only [farB,decide_eq_false_iff_not] at h;omega
theorem times_bnd {t x:Int} (ht:t=1∨t=2) (hx : -1000000≤x∧x≤1000000) : -2000000≤t*x∧t*x≤2000000:=by
 rcases ht with rfl|rfl <;> omega
theorem corP_nr {ps:List Pt} {n:Nat} {t x:Int} (hf:NfL ps) (ht:t=1∨t=2) (hx:0≤x∧x<ps.length):(-2000000≤(corP ps t x).1∧(corP ps t x).1≤2000000) ∧ -2000000≤(corP ps t x).2∧(corP ps t x).2≤2000000:=by
 have:=far_bnd (hf x.toNat (by omega))
 exact ⟨times_bnd ht this.1,times_bnd ht this.2⟩
def PtL (q:Pt) (v:Value) (w:World):Prop:=∃ b,v = .slice (some ⟨b,0,none⟩) 1 1∧Blk w b (pC q) 124
theorem PtL.st {q:Pt} : ∀ v w w',Ext w w'→PtL q v w→PtL q v w':=fun v w w' h ⟨b,h1,h2⟩=>⟨b,h1,Blk.ext (cs:=pC q) h2 h⟩
theorem pcs_one (q:Pt):pcs [q]=pC q:=by simp [pcs]
theorem corners_calls (lo lo2:Nat) (c:CxV) (q:Value) (l:List Int) (t:Int) (w:World) (hc:Pts lo w c.pv c.ps) (hq:Ints .i64 lo2 w q l) (hf:NfL c.ps) (ht:t=1∨t=2) (hl:IxL c.ps.length l) (hlen:l.length≤1000000) :
  Calls Tryz.prog 185 #[c.val,q,.int .i64 t] w (Ret fun v w'=>Ext w w'∧Pts w.heap.size w' v (cor c.ps t l)):=by
 refine T.enter (vs:=[c.val,q,.int .i64 t]) func185 rfl ntmps185 rfl ?_
 refine T.q (L.o (O.box rfl (fun b3 w3 hb3 hz3 he3 hB3=>?_)))
 have hC3:Blk w3 b3 c.cells 46:=hB3
 have hc3:=hc.ext he3
 have hq3:=hq.ext he3
 refine L.a rfl (L.nil (T.q (L.a rfl (L.nil (T.seq (T.q (L.m rfl (L.o (O.len runUnderlying30 rfl (Sl.val hq3) (L.m rfl (L.nil (T.block (?_)))))))))))))
 refine T.loop (σ:=Nat × Value) (fun s=>[(1,q),(2,.int .i64 t),(3,.pointer (some ⟨b3,0,none⟩)),(7,s.2),(10,q),(11,.int .i64 l.length),(12,.int .i64 s.1)]) (fun s w'=>s.1≤l.length∧Ext w3 w'∧w'.ownsRow w3.heap.size 124 2 s.2 s.1 (pcs (cor c.ps t (l.take s.1)))) (fun s=>l.length-s.1) ((0,.slice none 0 0)) ⟨rfl,rfl,rfl,rfl,rfl,rfl,rfl,trivial⟩ ⟨Nat.zero_le _,Keep.refl _ _,owns_nil _ _ _ _⟩ ?_
 rintro ⟨i,s⟩ w4 ⟨hi,he4,hO4⟩
 simp only at hi hO4
 refine T.q (L.o (O.lss_s rfl rfl (fun hlt=>?_) (fun hlt=>?_)))
 ·refine L.nil (?_)
  have hlt':i<l.length:=by simp only at hlt;omega
  have hix:=hl i hlt'
  have hq4:=hq3.ext he4
  have hc4:=hc3.ext he4
  have hC4:=Blk.ext (cs:=c.cells) hC3 he4
  refine T.seq (T.ct (T.skip (T.seq (T.block (T.q (L.o (O.indexAddr runUnderlying30 sizeOf3 rfl rfl hq4 (by omega) (by omega) (L.o (O.load isAgg3 rfl (Ints.at hq4 hlt') (?_))))))))))
  obtain ⟨k,hk⟩:∃ k:Nat,l.getD i 0=k:=⟨(l.getD i 0).toNat,by omega⟩
  rw [hk]
  have hkl:k<c.ps.length:=by omega
  have hb:=far_bnd (hf k hkl)
  have hb1:=times_bnd ht hb.1
  have hb2:=times_bnd ht hb.2
  have hcp:corP c.ps t (l.getD i 0)=(t*(c.ps.getD k (0,0)).1,t*(c.ps.getD k (0,0)).2):=by rw [hk];rfl
  refine L.a rfl (L.nil (?_))
  refine T.anyE mixed 19 [7,2,3,9] rfl [.is _,.is _,.is _,.is _,.is _,.is _,.is _,.is _,.is _,.is _,.is _,.is _,.is _,.is _,.is _,.is _,.is _,.is _,.such (PtL (corP c.ps t (l.getD i 0)))] [[],[],[],[2],[],[3,4],[5],[6],[1,7],[],[],[10],[],[11,12],[13],[14],[9,15],[8,16],[17]] [[],[],[],[2],[],[2,3,4],[2,3,4,5],[2,3,4,5,6],[1,2,3,4,5,6,7],[],[],[10],[],[10,11,12],[10,11,12,13],[10,11,12,13,14],[9,10,11,12,13,14,15],[1,2,3,4,5,6,7,8,9,10,11,12,13,14,15,16],[1,2,3,4,5,6,7,8,9,10,11,12,13,14,15,16,17],[0,1,2,3,4,5,6,7,8,9,10,11,12,13,14,15,16,17,18],[0,1,2,3,4,5,6,7,8,9,10,11,12,13,14,15,16,17,18,19]] (by kernel_rfl) (by kernel_rfl) rfl (by kernel_rfl) ⟨PtL.st,trivial⟩ ⟨fun wx hx=>Ob.o (O.move rfl kR),
    fun wx hx=>Ob.o (O.move rfl kR),
    fun wx hx=>Ob.o (O.fieldAddr runUnderlying46 rfl sizeOf43 rfl kR),
    fun wx hx=>Ob.o (O.load isAgg43 rfl ((Blk.ext (cs:=c.cells) hC4 hx).cell rfl) kR),
    fun wx hx=>Ob.o (O.move rfl kR),
    fun wx hx=>Ob.o (O.indexAddr runUnderlying43 sizeOf124 rfl rfl (hc4.ext hx) (by omega) (by omega) kR),
    fun wx hx=>Ob.o (O.fieldAddr runUnderlying124 rfl sizeOf3 rfl kR),
    fun wx hx=>Ob.o (O.load isAgg3 rfl (((hc4.ext hx).row hkl) 0 _ rfl) kR),
    fun wx hx=>Ob.o (O.mul64 rfl rfl (by omega) kR),
    fun wx hx=>Ob.o (O.move rfl kR),
    fun wx hx=>Ob.o (O.fieldAddr runUnderlying46 rfl sizeOf43 rfl kR),
    fun wx hx=>Ob.o (O.load isAgg43 rfl ((Blk.ext (cs:=c.cells) hC4 hx).cell rfl) kR),
    fun wx hx=>Ob.o (O.move rfl kR),
    fun wx hx=>Ob.o (O.indexAddr runUnderlying43 sizeOf124 rfl rfl (hc4.ext hx) (by omega) (by omega) kR),
    fun wx hx=>Ob.o (O.fieldAddr runUnderlying124 rfl sizeOf3 rfl kR),
    fun wx hx=>Ob.o (O.load isAgg3 rfl (((hc4.ext hx).row hkl) 1 _ rfl) kR),
    fun wx hx=>Ob.o (O.mul64 rfl rfl (by omega) kR),
    fun wx hx=>Ob.o (O.build (v:=pV (corP c.ps t (l.getD i 0))) (parts:=[(0,.tmp 24),(1,.tmp 32)]) (vs:=[(0,_),(1,_)]) rfl (fun w=>by rw [hcp];kernel_rfl) kR),
    fun wx hx=>Ob.o (O.buildSlice (el:=124) (parts:=[(0,.tmp 33)]) (vs:=[(0,_)]) (cs:=(pC (corP c.ps t (l.getD i 0)))) rfl (fun w=>by kernel_rfl) (fun b6 w6 hb6 hz6 he6 hB6=>⟨he6,⟨b6,rfl,hB6⟩⟩)),
    trivial⟩ (fun w5 he5 v34 hv34=>?_)
  obtain ⟨b6,rfl,hB6⟩:=hv34
  have hO5:=owns_keep hO4 he5 (Nat.zero_le _)
  have hS5:Sl 0 w5 (.slice (some ⟨b6,0,none⟩) 1 1) 1 2 (pC (corP c.ps t (l.getD i 0))):=Sl.of_blk hB6 rfl (Nat.le_refl _) (by decide) (Nat.zero_le _)
  refine L.o (O.append (size:=2) (bytes:=16) runUnderlying237 Tryz.infoOf124 rfl rfl rfl rfl (by decide) rfl rfl hO5 hS5 (pC_one _) (by omega) (by simp only [maxLen];omega) (by have:=he4.size;have:=he5.size;omega) (fun v7 w7 hO7 hG7=>?_))
  have he57:Ext w3 w7:=Keep.grown0 (he4.trans he5) hO5 hG7 (Nat.le_refl _)
  refine L.a rfl (L.nil (T.blk (T.region (L.o (O.add64 rfl rfl (by simp only;omega) (L.m rfl (L.nil (T.again ((i+1,v7)) (by omega) ⟨rfl,rfl,rfl,rfl,rfl,rfl,rfl,trivial⟩ ⟨hlt',he57,by rw [cor_take c.ps t l hlt',pcs_append,pcs_one];exact hO7⟩))))))))
 ·refine L.nil (?_)
  obtain rfl:i=l.length:=by simp only at hlt;omega
  rw [List.take_length] at hO4
  refine T.seq (T.cf (T.exit rfl (T.q (L.m rfl (L.a rfl (L.nil (T.ret1 results185 rfl ⟨he3.trans he4,?_⟩)))))))
  have:=Sl.of_owns hO4
  have e:l.length=(cor c.ps t l).length:=by rw [cor,List.length_map]
  rw [e] at this
  exact this.mono he3.size

open Go Go.E

/-- The double area, up to an edge. -/
def areaTo (r:List Pt):Nat→Int
 | 0=>0
 | i+1=>areaTo r i+((rA r i).1*(rB r i).2-(rA r i).2*(rB r i).1)
def Nm (p:Pt):Prop:=(-2000000≤p.1∧p.1≤2000000) ∧ -2000000≤p.2∧p.2≤2000000
theorem mul_nm {x y:Int} (h:(-2000000≤x∧x≤2000000) ∧ -2000000≤y∧y≤2000000) : -4000000000000≤x*y∧x*y≤4000000000000:=by
 have:=mul_le (B:=2000000) (C:=2000000) h.1.1 h.1.2 h.2.1 h.2.2
 omega
def NmL (r:List Pt):Prop:=∀ i,i<r.length→Nm (r.getD i (0,0))
theorem area_bnd {r:List Pt} (h:NmL r):∀ i,i≤r.length → -8000000000000*(i:Int)≤areaTo r i∧areaTo r i≤8000000000000*(i:Int)
 | 0,_=>by simp [areaTo]
 | i+1,hi=>by
  have ih:=area_bnd h i (by omega)
  have a:Nm (rA r i):=h i (by omega)
  have b:Nm (rB r i):=h _ (Nat.mod_lt _ (by omega))
  unfold Nm at a b
  have m1:=mul_nm (x:=(rA r i).1) (y:=(rB r i).2) ⟨a.1,b.2⟩
  have m2:=mul_nm (x:=(rA r i).2) (y:=(rB r i).1) ⟨a.2,b.1⟩
  simp only [areaTo]
  omega
theorem area_calls (lo:Nat) (p:Value) (r:List Pt) (w:World) (hp:Pts lo w p r) (hn:NmL r) (hlen:r.length≤1000000) :
  Calls Tryz.prog 188 #[p] w (Ret fun v w'=>v = .int .i64 (areaTo r r.length)∧Ext w w'):=by
 refine T.enter (vs:=[p]) func188 rfl ntmps188 rfl ?_
 refine T.q (L.a rfl (L.nil (T.q (L.a rfl (L.nil (T.seq (T.q (L.m rfl (L.o (O.len runUnderlying237 rfl (Sl.val hp) (L.m rfl (L.nil (T.block (?_))))))))))))))
 refine T.loop (σ:=Nat) (fun i=>[(0,p),(3,.int .i64 (areaTo r i)),(7,p),(8,.int .i64 r.length),(9,.int .i64 i)]) (fun i w'=>i≤r.length∧Ext w w') (fun i=>r.length-i) (0) ⟨rfl,rfl,rfl,rfl,rfl,trivial⟩ ⟨Nat.zero_le _,Keep.refl _ _⟩ ?_
 rintro i w1 ⟨hi,he1⟩
 refine T.q (L.o (O.lss_s rfl rfl (fun hlt=>?_) (fun hlt=>?_)))
 ·refine L.nil (?_)
  have hlt':i<r.length:=by omega
  have hp1:=hp.ext he1
  have hm:(i+1) % r.length<r.length:=Nat.mod_lt _ (by omega)
  have hmi:((i:Int)+1) % (r.length:Int)=(((i+1) % r.length:Nat):Int):=by rw [show (i:Int)+1=((i+1:Nat):Int) by omega];rfl
  have a:Nm (rA r i):=hn i hlt'
  have b:Nm (rB r i):=hn _ hm
  unfold Nm at a b
  have m1:=mul_nm (x:=(rA r i).1) (y:=(rB r i).2) ⟨a.1,b.2⟩
  have m2:=mul_nm (x:=(rA r i).2) (y:=(rB r i).1) ⟨a.2,b.1⟩
  have hbd:=area_bnd hn i hi
  refine T.seq (T.ct (T.skip (T.seq (T.block (T.q (L.m rfl (L.o (O.indexAddr runUnderlying237 sizeOf124 rfl rfl hp1 (by omega) (by omega) (L.o (O.loadAgg isAgg124 sizeOf124 rfl rfl (hp1.row hlt') (L.o (O.alloc zeroValue124 (fun b2 w2 hb2 hz2 he2 hB2=>?_)))))))))))))
  refine L.a rfl (L.o (O.storeAgg sizeOf124 rfl rfl rfl hB2 (Nat.le_refl _) (pC_one _) (fun w3 hu3 hB3=>?_)))
  have hX3:Blk w3 b2 (pC (rA r i)) 124:=hB3
  have he13:Ext w1 w3:=he2.upd hu3 (.inr (by omega))
  have hp3:=hp1.ext he13
  refine L.nil (T.q (L.m rfl (L.m rfl (L.o (O.add64 rfl rfl (by omega) (L.m rfl (L.o (O.len runUnderlying237 rfl (Sl.val hp3) (L.o (O.rem rfl rfl (by omega) (by omega) (?_)))))))))))
  rw [hmi]
  refine L.o (O.indexAddr runUnderlying237 sizeOf124 rfl rfl hp3 (by omega) (by omega) (L.o (O.loadAgg isAgg124 sizeOf124 rfl rfl (hp3.row hm) (L.o (O.alloc zeroValue124 (fun b4 w4 hb4 hz4 he4 hB4=>?_))))))
  refine L.o (O.storeAgg sizeOf124 rfl rfl rfl hB4 (Nat.le_refl _) (pC_one _) (fun w5 hu5 hB5=>?_))
  have hY5:Blk w5 b4 (pC (rB r i)) 124:=hB5
  have he35:Ext w3 w5:=he4.upd hu5 (.inr (by omega))
  have hX5:=Blk.ext (cs:=pC (rA r i)) hX3 he35
  refine L.nil (T.region (L.m rfl (L.o (O.fieldAddr runUnderlying124 rfl sizeOf3 rfl (L.o (O.load isAgg3 rfl (hX5.cell rfl) (L.o (O.fieldAddr runUnderlying124 rfl sizeOf3 rfl (L.o (O.load isAgg3 rfl (hY5.cell rfl) (L.o (O.mul64 rfl rfl (by omega) (L.o (O.fieldAddr runUnderlying124 rfl sizeOf3 rfl (L.o (O.load isAgg3 rfl (hX5.cell rfl) (L.o (O.fieldAddr runUnderlying124 rfl sizeOf3 rfl (L.o (O.load isAgg3 rfl (hY5.cell rfl) (L.o (O.mul64 rfl rfl (by omega) (L.o (O.sub64 rfl rfl (by omega) (L.o (O.add64 rfl rfl (by omega) (L.a rfl (L.nil (T.blk (T.region (L.o (O.add64 rfl rfl (by omega) (L.m rfl (L.nil (T.again (i+1) (by omega) ⟨rfl,rfl,rfl,rfl,rfl,trivial⟩ ⟨hlt',he1.trans (he13.trans he35)⟩)))))))))))))))))))))))))))))))))))
 ·refine L.nil (?_)
  obtain rfl:i=r.length:=by omega
  refine T.seq (T.cf (T.exit rfl (T.q (L.m rfl (L.a rfl (L.nil (T.ret1 results188 rfl ⟨rfl,he1⟩)))))))

open Go Go.E

def onE (a b p:Pt):Prop:=turnD a b p=0∧mn a.1 b.1≤p.1∧p.1≤mx a.1 b.1∧mn a.2 b.2≤p.2∧p.2≤mx a.2 b.2
instance (a b p:Pt):Decidable (onE a b p):=inferInstanceAs (Decidable (_∧_))
def stepW (a b p:Pt):Int:=if a.2≤p.2∧p.2<b.2∧0<turnD a b p then 1 else if p.2<a.2∧b.2≤p.2∧turnD a b p<0 then -1 else 0
def windTo (r:List Pt) (p:Pt):Nat→Int
 | 0=>0
 | i+1=>windTo r p i+stepW (rA r i) (rB r i) p
theorem stepW_bnd (a b p:Pt) : -1≤stepW a b p∧stepW a b p≤1:=by unfold stepW;split <;> (try split) <;> omega
theorem wind_bnd (r:List Pt) (p:Pt):∀ i:Nat,-(i:Int)≤windTo r p i∧windTo r p i≤i
 | 0=>by simp [windTo]
 | i+1=>by
  have ih:=wind_bnd r p i
  have:=stepW_bnd (rA r i) (rB r i) p
  simp only [windTo];omega
/-- On which side of corners a point lies. -/
def sideI (r:List Pt) (p:Pt):Int:=if ∃ i,i<r.length∧onE (rA r i) (rB r i) p then 1 else if windTo r p r.length=0 then 0 else 2
set_option maxHeartbeats 8000000 in
theorem side_calls (lo:Nat) (q:Value) (r:List Pt) (p:Pt) (w:World) (hq:Pts lo w q r) (hn:NrL r) (hp:Nr p) (hlen:r.length≤1000000) :
  Calls Tryz.prog 247 #[q,pV p] w (Ret fun v w'=>v = .int .i64 (sideI r p)∧Ext w w'):=by
 refine T.enter (vs:=[q,pV p]) func247 rfl ntmps247 rfl ?_
 refine T.q (L.o (O.box rfl (fun b3 w3 hb3 hz3 he3 hB3=>?_)))
 have hP3:Blk w3 b3 (pC p) 124:=hB3
 have hq3:=hq.ext he3
 refine L.a rfl (L.nil (T.q (L.a rfl (L.nil (T.seq (T.q (L.m rfl (L.o (O.len runUnderlying237 rfl (Sl.val hq3) (L.m rfl (L.nil (T.block (?_)))))))))))))
 refine T.loop (σ:=Nat) (fun i=>[(0,q),(3,.pointer (some ⟨b3,0,none⟩)),(5,.int .i64 (windTo r p i)),(10,q),(11,.int .i64 r.length),(12,.int .i64 i)]) (fun i w'=>i≤r.length∧Ext w3 w'∧∀ k,k<i→¬ onE (rA r k) (rB r k) p) (fun i=>r.length-i) (0) ⟨rfl,rfl,rfl,rfl,rfl,rfl,trivial⟩ ⟨Nat.zero_le _,Keep.refl _ _,fun k hk=>absurd hk (Nat.not_lt_zero _)⟩ ?_
 rintro i w4 ⟨hi,he4,hall⟩
 refine T.q (L.o (O.lss_s rfl rfl (fun hlt=>?_) (fun hlt=>?_)))
 ·refine L.nil (?_)
  have hlt':i<r.length:=by omega
  have hq4:=hq3.ext he4
  have hP4:=Blk.ext (cs:=pC p) hP3 he4
  have hm:(i+1) % r.length<r.length:=Nat.mod_lt _ (by omega)
  have hmi:((i:Int)+1) % (r.length:Int)=(((i+1) % r.length:Nat):Int):=by rw [show (i:Int)+1=((i+1:Nat):Int) by omega];rfl
  have na:Nr (rA r i):=hn i hlt'
  have nb:Nr (rB r i):=hn _ hm
  have hwb:=wind_bnd r p i
  refine T.seq (T.ct (T.skip (T.seq (T.block (T.q (L.m rfl (L.o (O.indexAddr runUnderlying237 sizeOf124 rfl rfl hq4 (by omega) (by omega) (L.o (O.loadAgg isAgg124 sizeOf124 rfl rfl (hq4.row hlt') (L.o (O.alloc zeroValue124 (fun b5 w5 hb5 hz5 he5 hB5=>?_)))))))))))))
  refine L.a rfl (L.o (O.storeAgg sizeOf124 rfl rfl rfl hB5 (Nat.le_refl _) (pC_one _) (fun w6 hu6 hB6=>?_)))
  have hA6:Blk w6 b5 (pC (rA r i)) 124:=hB6
  have he46:Ext w4 w6:=he5.upd hu6 (.inr (by omega))
  have hq6:=hq4.ext he46
  refine L.nil (T.q (L.m rfl (L.m rfl (L.o (O.add64 rfl rfl (by omega) (L.m rfl (L.o (O.len runUnderlying237 rfl (Sl.val hq6) (L.o (O.rem rfl rfl (by omega) (by omega) (?_)))))))))))
  rw [hmi]
  refine L.o (O.indexAddr runUnderlying237 sizeOf124 rfl rfl hq6 (by omega) (by omega) (L.o (O.loadAgg isAgg124 sizeOf124 rfl rfl (hq6.row hm) (L.o (O.alloc zeroValue124 (fun b7 w7 hb7 hz7 he7 hB7=>?_))))))
  refine L.o (O.storeAgg sizeOf124 rfl rfl rfl hB7 (Nat.le_refl _) (pC_one _) (fun w8 hu8 hB8=>?_))
  have hB:Blk w8 b7 (pC (rB r i)) 124:=hB8
  have he68:Ext w6 w8:=he7.upd hu8 (.inr (by omega))
  have hA:=Blk.ext (cs:=pC (rA r i)) hA6 he68
  have hP:=Blk.ext (cs:=pC p) hP4 (he46.trans he68)
  have he38:=he4.trans (he46.trans he68)
  obtain ⟨a,ha⟩:∃ a,a=rA r i:=⟨_,rfl⟩
  obtain ⟨b,hb⟩:∃ b,b=rB r i:=⟨_,rfl⟩
  have hall':¬ onE a b p→∀ k,k<i+1→¬ onE (rA r k) (rB r k) p:=fun h k hk=>by
   by_cases e:k=i
   ·subst e;rw [← ha,← hb];exact h
   ·exact hall k (by omega)
  have hws:windTo r p (i+1)=windTo r p i+stepW a b p:=by rw [ha,hb];rfl
  rw [← ha] at hA na
  rw [← hb] at hB nb
  unfold Nr at na nb hp
  have h1:=mul_near (x:=b.1-a.1) (y:=p.2-a.2) (by omega)
  have h2:=mul_near (x:=b.2-a.2) (y:=p.1-a.1) (by omega)
  refine L.nil (T.q (L.o (O.fieldAddr runUnderlying124 rfl sizeOf3 rfl (L.o (O.load isAgg3 rfl (hB.cell rfl) (L.o (O.fieldAddr runUnderlying124 rfl sizeOf3 rfl (L.o (O.load isAgg3 rfl (hA.cell rfl) (L.o (O.sub64 rfl rfl (by omega) (L.o (O.fieldAddr runUnderlying124 rfl sizeOf3 rfl (L.o (O.load isAgg3 rfl (hP.cell rfl) (L.o (O.fieldAddr runUnderlying124 rfl sizeOf3 rfl (L.o (O.load isAgg3 rfl (hA.cell rfl) (L.o (O.sub64 rfl rfl (by omega) (L.o (O.mul64 rfl rfl (by omega) (L.o (O.fieldAddr runUnderlying124 rfl sizeOf3 rfl (L.o (O.load isAgg3 rfl (hB.cell rfl) (L.o (O.fieldAddr runUnderlying124 rfl sizeOf3 rfl (L.o (O.load isAgg3 rfl (hA.cell rfl) (L.o (O.sub64 rfl rfl (by omega) (L.o (O.fieldAddr runUnderlying124 rfl sizeOf3 rfl (L.o (O.load isAgg3 rfl (hP.cell rfl) (L.o (O.fieldAddr runUnderlying124 rfl sizeOf3 rfl (L.o (O.load isAgg3 rfl (hA.cell rfl) (L.o (O.sub64 rfl rfl (by omega) (?_))))))))))))))))))))))))))))))))))))))))))))
  refine L.o (O.mul64 rfl rfl (by omega) (L.o (O.sub64 rfl rfl (by omega) (?_))))
  obtain ⟨t,ht⟩:∃ t,t=turnD a b p:=⟨_,rfl⟩
  have ht':(b.1-a.1)*(p.2-a.2)-(b.2-a.2)*(p.1-a.1)=t:=ht.symm
  rw [ht']
  have hon:onE a b p↔t=0∧mn a.1 b.1≤p.1∧p.1≤mx a.1 b.1∧mn a.2 b.2≤p.2∧p.2≤mx a.2 b.2:=by rw [onE,← ht]
  refine L.a rfl (L.nil (T.block (T.seq (?_))))
  refine T.join (σ:=Unit) (fun _=>[(0,q),(3,.pointer (some ⟨b3,0,none⟩)),(5,.int .i64 (windTo r p i)),(7,.pointer (some ⟨b5,0,none⟩)),(8,.pointer (some ⟨b7,0,none⟩)),(9,.int .i64 t),(10,q),(11,.int .i64 r.length),(12,.int .i64 i),(48,.bool (decide (t=0∧mn a.1 b.1≤p.1∧p.1≤mx a.1 b.1∧mn a.2 b.2≤p.2∧p.2≤mx a.2 b.2)))]) (fun _ w'=>w'=w8) ?_ ?_
  ·refine T.region (L.m rfl (L.o (O.eql_s rfl rfl (fun e1=>?_) (fun e1=>?_))))
   ·refine L.m rfl (L.o (O.fieldAddr runUnderlying124 rfl sizeOf3 rfl (L.o (O.load isAgg3 rfl (hA.cell rfl) (L.o (O.fieldAddr runUnderlying124 rfl sizeOf3 rfl (L.o (O.load isAgg3 rfl (hB.cell rfl) (L.o (O.min rfl rfl (L.o (O.fieldAddr runUnderlying124 rfl sizeOf3 rfl (L.o (O.load isAgg3 rfl (hP.cell rfl) (L.o (O.leq_s rfl rfl (fun e2=>?_) (fun e2=>?_)))))))))))))))))
    ·refine L.o (O.pick_true rfl rfl (L.m rfl (L.o (O.fieldAddr runUnderlying124 rfl sizeOf3 rfl (L.o (O.load isAgg3 rfl (hP.cell rfl) (L.o (O.fieldAddr runUnderlying124 rfl sizeOf3 rfl (L.o (O.load isAgg3 rfl (hA.cell rfl) (L.o (O.fieldAddr runUnderlying124 rfl sizeOf3 rfl (L.o (O.load isAgg3 rfl (hB.cell rfl) (L.o (O.max rfl rfl (L.o (O.leq_s rfl rfl (fun e3=>?_) (fun e3=>?_)))))))))))))))))))
     ·refine L.o (O.pick_true rfl rfl (L.m rfl (L.o (O.fieldAddr runUnderlying124 rfl sizeOf3 rfl (L.o (O.load isAgg3 rfl (hA.cell rfl) (L.o (O.fieldAddr runUnderlying124 rfl sizeOf3 rfl (L.o (O.load isAgg3 rfl (hB.cell rfl) (L.o (O.min rfl rfl (L.o (O.fieldAddr runUnderlying124 rfl sizeOf3 rfl (L.o (O.load isAgg3 rfl (hP.cell rfl) (L.o (O.leq_s rfl rfl (fun e4=>?_) (fun e4=>?_)))))))))))))))))))
      ·refine L.o (O.pick_true rfl rfl (L.m rfl (L.o (O.fieldAddr runUnderlying124 rfl sizeOf3 rfl (L.o (O.load isAgg3 rfl (hP.cell rfl) (L.o (O.fieldAddr runUnderlying124 rfl sizeOf3 rfl (L.o (O.load isAgg3 rfl (hA.cell rfl) (L.o (O.fieldAddr runUnderlying124 rfl sizeOf3 rfl (L.o (O.load isAgg3 rfl (hB.cell rfl) (L.o (O.max rfl rfl (L.o (O.leq_s rfl rfl (fun e5=>?_) (fun e5=>?_)))))))))))))))))))
       ·refine L.o (O.pick_true rfl rfl (L.a rfl (L.nil (T.meet (()) ⟨rfl,rfl,rfl,rfl,rfl,rfl,rfl,rfl,rfl,?_,trivial⟩ rfl))))
        ·exact congrArg (fun z=>some (Value.bool z)) (decide_eq_true ⟨e1,e2,e3,e4,e5⟩).symm
       ·refine L.o (O.pick_true rfl rfl (L.a rfl (L.nil (T.meet (()) ⟨rfl,rfl,rfl,rfl,rfl,rfl,rfl,rfl,rfl,?_,trivial⟩ rfl))))
        ·exact congrArg (fun z=>some (Value.bool z)) (decide_eq_false fun h=>e5 h.2.2.2.2).symm
      ·refine L.o (O.pick_true rfl rfl (L.m rfl (L.p (L.p (L.p (L.p (L.p (L.p (L.p (L.p (L.o (O.pick_false rfl rfl (L.a rfl (L.nil (T.meet (()) ⟨rfl,rfl,rfl,rfl,rfl,rfl,rfl,rfl,rfl,?_,trivial⟩ rfl)))))))))))))))
       ·exact congrArg (fun z=>some (Value.bool z)) (decide_eq_false fun h=>e4 h.2.2.2.1).symm
     ·refine L.o (O.pick_true rfl rfl (L.m rfl (L.p (L.p (L.p (L.p (L.p (L.p (L.p (L.p (L.o (O.pick_false rfl rfl (L.m rfl (L.p (L.p (L.p (L.p (L.p (L.p (L.p (L.p (L.o (O.pick_false rfl rfl (L.a rfl (L.nil (T.meet (()) ⟨rfl,rfl,rfl,rfl,rfl,rfl,rfl,rfl,rfl,?_,trivial⟩ rfl))))))))))))))))))))))))))
      ·exact congrArg (fun z=>some (Value.bool z)) (decide_eq_false fun h=>e3 h.2.2.1).symm
    ·refine L.o (O.pick_true rfl rfl (L.m rfl (L.p (L.p (L.p (L.p (L.p (L.p (L.p (L.p (L.o (O.pick_false rfl rfl (L.m rfl (L.p (L.p (L.p (L.p (L.p (L.p (L.p (L.p (L.o (O.pick_false rfl rfl (L.m rfl (L.p (L.p (?_)))))))))))))))))))))))))))
     refine L.p (L.p (L.p (L.p (L.p (L.p (L.o (O.pick_false rfl rfl (L.a rfl (L.nil (T.meet (()) ⟨rfl,rfl,rfl,rfl,rfl,rfl,rfl,rfl,rfl,?_,trivial⟩ rfl))))))))))
     ·exact congrArg (fun z=>some (Value.bool z)) (decide_eq_false fun h=>e2 h.2.1).symm
   ·refine L.m rfl (L.p (L.p (L.p (L.p (L.p (L.p (L.p (L.p (L.o (O.pick_false rfl rfl (L.m rfl (L.p (L.p (L.p (L.p (L.p (L.p (L.p (L.p (L.o (O.pick_false rfl rfl (L.m rfl (L.p (L.p (L.p (?_))))))))))))))))))))))))))
    refine L.p (L.p (L.p (L.p (L.p (L.o (O.pick_false rfl rfl (L.m rfl (L.p (L.p (L.p (L.p (L.p (L.p (L.p (L.p (L.o (O.pick_false rfl rfl (L.a rfl (L.nil (T.meet (()) ⟨rfl,rfl,rfl,rfl,rfl,rfl,rfl,rfl,rfl,?_,trivial⟩ rfl))))))))))))))))))))
    ·exact congrArg (fun z=>some (Value.bool z)) (decide_eq_false fun h=>e1 h.1).symm
  rintro _ w9 rfl
  refine T.cond_dec rfl (fun h0=>?_) (fun h0=>?_)
  ·refine T.q (L.a rfl (L.nil (T.ret1 results247 rfl ⟨by rw [sideI,if_pos ⟨i,hlt',by rw [← ha,← hb];exact hon.2 h0⟩],he3.trans he38⟩)))
  ·have hno:¬ onE a b p:=fun h=>h0 (hon.1 h)
   refine T.seq (?_)
   refine T.join (σ:=Unit) (fun _=>[(0,q),(3,.pointer (some ⟨b3,0,none⟩)),(5,.int .i64 (windTo r p i)),(7,.pointer (some ⟨b5,0,none⟩)),(8,.pointer (some ⟨b7,0,none⟩)),(9,.int .i64 t),(10,q),(11,.int .i64 r.length),(12,.int .i64 i),(91,.bool (decide (a.2≤p.2∧p.2<b.2∧0<t)))]) (fun _ w'=>w'=w9) ?_ ?_
   ·refine T.region (L.o (O.fieldAddr runUnderlying124 rfl sizeOf3 rfl (L.o (O.load isAgg3 rfl (hA.cell rfl) (L.o (O.fieldAddr runUnderlying124 rfl sizeOf3 rfl (L.o (O.load isAgg3 rfl (hP.cell rfl) (L.o (O.leq_s rfl rfl (fun e1=>?_) (fun e1=>?_)))))))))))
    ·refine L.m rfl (L.o (O.fieldAddr runUnderlying124 rfl sizeOf3 rfl (L.o (O.load isAgg3 rfl (hB.cell rfl) (L.o (O.fieldAddr runUnderlying124 rfl sizeOf3 rfl (L.o (O.load isAgg3 rfl (hP.cell rfl) (L.o (O.gtr_s rfl rfl (fun e2=>?_) (fun e2=>?_)))))))))))
     ·refine L.o (O.pick_true rfl rfl (L.m rfl (L.m rfl (L.o (O.gtr_s rfl rfl (fun e3=>?_) (fun e3=>?_))))))
      ·refine L.o (O.pick_true rfl rfl (L.a rfl (L.nil (T.meet (()) ⟨rfl,rfl,rfl,rfl,rfl,rfl,rfl,rfl,rfl,?_,trivial⟩ rfl))))
       ·exact congrArg (fun z=>some (Value.bool z)) (decide_eq_true ⟨e1,e2,e3⟩).symm
      ·refine L.o (O.pick_true rfl rfl (L.a rfl (L.nil (T.meet (()) ⟨rfl,rfl,rfl,rfl,rfl,rfl,rfl,rfl,rfl,?_,trivial⟩ rfl))))
       ·exact congrArg (fun z=>some (Value.bool z)) (decide_eq_false fun h=>e3 h.2.2).symm
     ·refine L.o (O.pick_true rfl rfl (L.m rfl (L.p (L.p (L.o (O.pick_false rfl rfl (L.a rfl (L.nil (T.meet (()) ⟨rfl,rfl,rfl,rfl,rfl,rfl,rfl,rfl,rfl,?_,trivial⟩ rfl)))))))))
      ·exact congrArg (fun z=>some (Value.bool z)) (decide_eq_false fun h=>e2 h.2.1).symm
    ·refine L.m rfl (L.p (L.p (L.p (L.p (L.p (L.o (O.pick_false rfl rfl (L.m rfl (L.p (L.p (L.o (O.pick_false rfl rfl (L.a rfl (L.nil (T.meet (()) ⟨rfl,rfl,rfl,rfl,rfl,rfl,rfl,rfl,rfl,?_,trivial⟩ rfl)))))))))))))))
     ·exact congrArg (fun z=>some (Value.bool z)) (decide_eq_false fun h=>e1 h.1).symm
   rintro _ w10 rfl
   refine T.cond_dec rfl (fun h1=>?_) (fun h1=>?_)
   ·have hsw:stepW a b p=1:=by rw [stepW,← ht,if_pos h1]
    refine T.region (L.m rfl (L.o (O.add64 rfl rfl (by omega) (L.a rfl (L.nil (T.blk (T.blk (T.region (L.o (O.add64 rfl rfl (by omega) (L.m rfl (L.nil (T.again (i+1) (by omega) ⟨rfl,rfl,?_,rfl,rfl,rfl,trivial⟩ ⟨hlt',he38,hall' hno⟩)))))))))))))
    ·rw [hws,hsw];rfl
   ·refine T.seq (?_)
    refine T.join (σ:=Unit) (fun _=>[(0,q),(3,.pointer (some ⟨b3,0,none⟩)),(5,.int .i64 (windTo r p i)),(7,.pointer (some ⟨b5,0,none⟩)),(8,.pointer (some ⟨b7,0,none⟩)),(9,.int .i64 t),(10,q),(11,.int .i64 r.length),(12,.int .i64 i),(110,.bool (decide (p.2<a.2∧b.2≤p.2∧t<0)))]) (fun _ w'=>w'=w10) ?_ ?_
    ·refine T.region (L.o (O.fieldAddr runUnderlying124 rfl sizeOf3 rfl (L.o (O.load isAgg3 rfl (hA.cell rfl) (L.o (O.fieldAddr runUnderlying124 rfl sizeOf3 rfl (L.o (O.load isAgg3 rfl (hP.cell rfl) (L.o (O.gtr_s rfl rfl (fun e1=>?_) (fun e1=>?_)))))))))))
     ·refine L.m rfl (L.o (O.fieldAddr runUnderlying124 rfl sizeOf3 rfl (L.o (O.load isAgg3 rfl (hB.cell rfl) (L.o (O.fieldAddr runUnderlying124 rfl sizeOf3 rfl (L.o (O.load isAgg3 rfl (hP.cell rfl) (L.o (O.leq_s rfl rfl (fun e2=>?_) (fun e2=>?_)))))))))))
      ·refine L.o (O.pick_true rfl rfl (L.m rfl (L.m rfl (L.o (O.lss_s rfl rfl (fun e3=>?_) (fun e3=>?_))))))
       ·refine L.o (O.pick_true rfl rfl (L.a rfl (L.nil (T.meet (()) ⟨rfl,rfl,rfl,rfl,rfl,rfl,rfl,rfl,rfl,?_,trivial⟩ rfl))))
        ·exact congrArg (fun z=>some (Value.bool z)) (decide_eq_true ⟨e1,e2,e3⟩).symm
       ·refine L.o (O.pick_true rfl rfl (L.a rfl (L.nil (T.meet (()) ⟨rfl,rfl,rfl,rfl,rfl,rfl,rfl,rfl,rfl,?_,trivial⟩ rfl))))
        ·exact congrArg (fun z=>some (Value.bool z)) (decide_eq_false fun h=>e3 h.2.2).symm
      ·refine L.o (O.pick_true rfl rfl (L.m rfl (L.p (L.p (L.o (O.pick_false rfl rfl (L.a rfl (L.nil (T.meet (()) ⟨rfl,rfl,rfl,rfl,rfl,rfl,rfl,rfl,rfl,?_,trivial⟩ rfl)))))))))
       ·exact congrArg (fun z=>some (Value.bool z)) (decide_eq_false fun h=>e2 h.2.1).symm
     ·refine L.m rfl (L.p (L.p (L.p (L.p (L.p (L.o (O.pick_false rfl rfl (L.m rfl (L.p (L.p (L.o (O.pick_false rfl rfl (L.a rfl (L.nil (T.meet (()) ⟨rfl,rfl,rfl,rfl,rfl,rfl,rfl,rfl,rfl,?_,trivial⟩ rfl)))))))))))))))
      ·exact congrArg (fun z=>some (Value.bool z)) (decide_eq_false fun h=>e1 h.1).symm
    rintro _ w11 rfl
    refine T.cond_dec rfl (fun h2=>?_) (fun h2=>?_)
    ·have hsw:stepW a b p = -1:=by rw [stepW,← ht,if_neg h1,if_pos h2]
     refine T.region (L.m rfl (L.o (O.sub64 rfl rfl (by omega) (L.a rfl (L.nil (T.blk (T.blk (T.region (L.o (O.add64 rfl rfl (by omega) (L.m rfl (L.nil (T.again (i+1) (by omega) ⟨rfl,rfl,?_,rfl,rfl,rfl,trivial⟩ ⟨hlt',he38,hall' hno⟩)))))))))))))
     ·rw [hws,hsw];rfl
    ·have hsw:stepW a b p=0:=by rw [stepW,← ht,if_neg h1,if_neg h2]
     refine T.skip (T.blk (T.blk (T.region (L.o (O.add64 rfl rfl (by omega) (L.m rfl (L.nil (T.again (i+1) (by omega) ⟨rfl,rfl,?_,rfl,rfl,rfl,trivial⟩ ⟨hlt',he38,hall' hno⟩))))))))
     ·rw [hws,hsw];rw [Int.add_zero];rfl
 ·refine L.nil (?_)
  obtain rfl:i=r.length:=by omega
  have hnon:¬ ∃ i,i<r.length∧onE (rA r i) (rB r i) p:=fun ⟨k,h1,h2⟩=>hall k h1 h2
  refine T.seq (T.cf (T.exit rfl (T.seq (T.q (L.m rfl (L.o (O.eql_s rfl rfl (fun hw0=>?_) (fun hw0=>?_))))))))
  ·refine L.nil (T.ct (T.q (L.a rfl (L.nil (T.ret1 results247 rfl ⟨by rw [sideI,if_neg hnon,if_pos hw0],he3.trans he4⟩)))))
  ·refine L.nil (T.cf (T.skip (T.q (L.a rfl (L.nil (T.ret1 results247 rfl ⟨by rw [sideI,if_neg hnon,if_neg hw0],he3.trans he4⟩))))))

end Go.Proofs.YtnlonpcbgjbbaaaGreatDoor
