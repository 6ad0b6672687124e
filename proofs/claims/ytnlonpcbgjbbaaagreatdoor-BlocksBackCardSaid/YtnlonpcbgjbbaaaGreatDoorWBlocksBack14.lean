/-
  BlocksBack, part 14 of its proof: that it returns true for every input, and each argument reads behind the call as it read before. Conditions: the listed variables read as the program's text lays them (tied by the card).
-/
import Derived.Test.YtnlonpcbgjbbaaaGreatDoorWBlocksBack3
import Derived.Test.YtnlonpcbgjbbaaaGreatDoorWBlocksBack2
import Derived.Stop.IfaceNil
import Derived.Stop.Asserts
import Derived.Test.YtnlonpcbgjbbaaaGreatDoorWBlocksBack13
set_option linter.unusedVariables false
set_option linter.unusedSimpArgs false
set_option maxRecDepth 20000
set_option linter.unusedSectionVars false
set_option linter.unusedVariables false
set_option linter.unusedSimpArgs false
set_option maxRecDepth 20000
namespace Go.Proofs.YtnlonpcbgjbbaaaGreatDoor
open Go.Proofs.Tryz (call103 call104 call108 call109 call110 call118 call119 call149 call158 call25 call26 call59 func103 func104 func107 func108 func110 func118 func119 func149 func158 func53 func55 func57 func58 func66 isAgg131 isAgg171 isAgg3 isAgg31 isAgg4 isAgg9 ntmps103 ntmps104 ntmps107 ntmps108 ntmps110 ntmps118 ntmps119 ntmps149 ntmps158 ntmps53 ntmps55 ntmps57 ntmps58 ntmps66 results103 results104 results107 results108 results110 results118 results119 results149 results158 results53 results55 results57 results58 results66 runUnderlying114 runUnderlying171 runUnderlying3 runUnderlying31 runUnderlying5 runUnderlying61 runUnderlying9 sizeOf184 sizeOf3 sizeOf4 sizeOf9 zeroValue184 zeroValue3 zeroValue65)
open Go Go.E RowKit
attribute [local irreducible] Go.E.T Go.E.L Go.E.O Go.E.Ob
theorem VY {P:Program} {f:FuncId} {args:Array Value} {w:World} {v:Value} (h:Calls P f args w fun e w'=>e = .returned v∧Below w.heap.size w w'):Calls P f args w (Ret fun v' w'=>v'=v∧Ext w w') :=
 h.mono (by rintro e w' ⟨rfl,hb⟩;exact ⟨rfl,Ext.of_below hb⟩)
theorem of_same {P:Program} {f:FuncId} {args:Array Value} {w:World} {v:Value} (h:Calls P f args w fun e w'=>e = .returned v∧w'=w):Calls P f args w (Ret fun v' w'=>v'=v∧w'=w) :=
 h.mono (by rintro e w' ⟨rfl,hb⟩;exact ⟨rfl,hb⟩)
theorem yE (w:World):∀ n,Ext w (w.drewN n)
 | 0=>Keep.refl _ _
 | n+1=>(yE w n).trans (Keep.drew _ _)
theorem VZ {P:Program} {f:FuncId} {args:Array Value} {w:World} {v:Value} (h:Calls P f args w fun e w'=>e = .returned v∧∃ n,w'=w.drewN n):Calls P f args w (Ret fun v' w'=>v'=v∧Ext w w') :=
 h.mono (by rintro e w' ⟨rfl,n,rfl⟩;exact ⟨rfl,yE _ _⟩)
theorem V3 (w:World) (os:Array Obj):Ext w (Sort.grow w os):=⟨rfl,rfl,rfl,by simp [Sort.grow],fun k _ hk=>by simp [Sort.grow,Array.getElem?_append_left hk]⟩
theorem Y2 {P:Program} {f:FuncId} {args:Array Value} {w:World} {v:Value} (h:Calls P f args w fun e w'=>e = .returned v∧∃ k os,w'=Sort.grow (w.drewN k) os):Calls P f args w (Ret fun v' w'=>v'=v∧Ext w w') :=
 h.mono (by rintro e w' ⟨rfl,k,os,rfl⟩;exact ⟨rfl,(yE _ _).trans (V3 _ _)⟩)
theorem Ext.yF {w0 w w':World} (h:Ext w0 w) (k:Below w0.heap.size w w'):Ext w0 w' :=
 ⟨k.os.trans h.os,k.tape.trans h.tape,k.output.trans h.output,Nat.le_trans h.size k.size,fun b h0 hb=>(k.block b hb).trans (h.block b h0 hb)⟩
structure jc (w:World):Prop where
 pow : Lib.TabIs Tryz.prog w "internal/strconv.uint64pow10" .u64 Lib.pow10Tab
 mx:∃ m:Int,w.cell? ⟨0,0,none⟩=some (.int .i64 m)
 es : ∃ t p, w.var? Tryz.prog "strconv.ErrSyntax" = some #[.iface t p]
 er : ∃ t p, w.var? Tryz.prog "strconv.ErrRange" = some #[.iface t p]
theorem RS {P:Program} {w w':World} {nm:String} {cs:Array Value} (h:w.var? P nm=some cs) (k:Ext w w'):w'.var? P nm=some cs:=by
 unfold World.var? at h ⊢
 revert h
 cases P.globalNamed nm with
 | none=>exact id
 | some g =>
  intro h
  have hlt:g<w.heap.size:=by
   rcases Nat.lt_or_ge g w.heap.size with h1|h1
   ·exact h1
   simp [Array.getElem?_eq_none h1] at h
  simpa [k.block g (Nat.zero_le _) hlt] using h
theorem jc.ext {w w':World} (h:jc w) (k:Ext w w'):jc w':=by
 refine ⟨?_,?_,?_,?_⟩
 ·have:=h.pow
  unfold Lib.TabIs World.var? at this ⊢
  revert this
  cases Tryz.prog.globalNamed "internal/strconv.uint64pow10" with
  | none=>exact id
  | some g =>
   intro this
   have hlt:g<w.heap.size:=by
    rcases Nat.lt_or_ge g w.heap.size with h1|h1
    ·exact h1
    simp [Array.getElem?_eq_none h1] at this
   simpa [k.block g (Nat.zero_le _) hlt] using this
 ·obtain ⟨m,hm⟩:=h.mx;exact ⟨m,k.cell (Nat.zero_le _) hm⟩
 ·obtain ⟨t,p,hm⟩:=h.es;exact ⟨t,p,RS hm k⟩
 obtain ⟨t,p,hm⟩:=h.er;exact ⟨t,p,RS hm k⟩
section ops
variable {C:Cx} {e:Env} {w:World} {K:Value→World→Prop} {d:Option Tmp} {ty:TypeId} {pos:String} {aft:Array Edge} {g:Option (Nat × Bool)} {x y z:Operand} {t tx ty' src dst el:TypeId}
theorem O.RU {v:Value} (hc:C.P.concrete t=true) (hx:ev e x=some v) (h:K (.iface t v) w):O C e ⟨d,.makeInterface t x,ty,pos,aft,g⟩ w K :=
 O.of_run (by simp) (fun ac hq=>by simp [execOp,hq.eval hx,run_makeInterface w t v hc]) h
theorem O.Gx {u:TypeId} {v:Value} (hi:C.P.isIface tx=true) (hx:ev e x=some (.iface u v)) (hy:ev e y=some .nilIface) (h:K (.bool false) w):O C e ⟨d,.binOp .eql tx x y ty',ty,pos,aft,g⟩ w K :=
 O.of_run (by simp) (fun ac hq=>by simp [execOp,hq.eval hx,hq.eval hy,eqGuard,run_eql_iface_nil w tx hi u v]) h
theorem O.qX (hi:C.P.isIface tx=true) (hx:ev e x=some .nilIface) (h:K (.bool true) w):O C e ⟨d,.binOp .eql tx x (.const .nilIface) ty',ty,pos,aft,g⟩ w K :=
 O.of_run (by simp) (fun ac hq=>by simp [execOp,hq.eval hx,(show ac.eval (.const .nilIface) = .nilIface from rfl),eqGuard,run_eql_nil_nil_at w tx hi]) h
theorem O.DX {u:TypeId} {v:Value} (hi:C.P.isIface tx=true) (hx:ev e x=some (.iface u v)) (hy:ev e y=some .nilIface) (h:K (.bool true) w):O C e ⟨d,.binOp .neq tx x y ty',ty,pos,aft,g⟩ w K :=
 O.of_run (by simp) (fun ac hq=>by simp [execOp,hq.eval hx,hq.eval hy,eqGuard,run_neq_iface_nil w tx hi u v]) h
theorem O.Gy (hi:C.P.isIface tx=true) (hx:ev e x=some .nilIface) (h:K (.bool false) w):O C e ⟨d,.binOp .neq tx x (.const .nilIface) ty',ty,pos,aft,g⟩ w K :=
 O.of_run (by simp) (fun ac hq=>by simp [execOp,hq.eval hx,(show ac.eval (.const .nilIface) = .nilIface from rfl),eqGuard,run_neq_nil_nil_at w tx hi]) h
theorem O.typeAssert {v r:Value} {ok:Bool} (hx:ev e x=some v) (hr:∀ w,(Instr.typeAssert v tx t ok).run C.P w = .ok r w) (h:K r w):O C e ⟨d,.typeAssert x tx t ok,ty,pos,aft,g⟩ w K :=
 O.of_run (by simp) (fun ac hq=>by simp [execOp,hq.eval hx,hr]) h
end ops
def Bld (B b:Nat) (s:Str) (w:World):Prop:=Lib.IsBuilder 65 5 B b (Lib.byteCells s) w
theorem Bld.afi {B b:Nat} {p:Value} {s:Str} {w:World} (hp:p = .pointer none∨p = .pointer (some ⟨b,0,none⟩)) (h:Lib.BuilderAt 65 5 B b p (Lib.byteCells s) w):Bld B b s w:=by
 rcases hp with rfl|rfl
 ·exact .inl h
 exact .inr h
theorem abY (B b:Nat) (s t:Str) (w:World) (h:Bld B b s w) (hl:s.length+t.length≤140737488355328) (hB:B≤w.heap.size):Calls Tryz.prog 25 #[.pointer (some ⟨b,0,none⟩),str t] w (Ret fun v w'=>v = .tuple #[.int .i64 t.length,.nilIface]∧Bld B b (s++t) w'∧Below B w w'):=by
 refine (Any.Builder_WriteString (P:=Tryz.prog) (ρ:=Tryz.lays156_ren) { Tryz.lays156 with } Tryz.Builder_Extra_156 B b (Lib.byteCells s) ⟨t.toArray⟩ w h ?_ hB).mono ?_
 ·rw [Lib.byteCells_length];exact hl
 rintro e w' ⟨rfl,h1,h2⟩
 refine ⟨rfl,Bld.afi (.inr rfl) ?_,h2⟩
 rw [Lib.byteCells_append];exact h1
theorem RV (B b:Nat) (s:Str) (w:World) (h:Bld B b s w) (hB:B≤w.heap.size):Calls Tryz.prog 26 #[.pointer (some ⟨b,0,none⟩)] w (Ret fun v w'=>v=str s∧Below B w w') :=
 (Tryz.Builder_String_any B b s w h hB).mono (by rintro e w' ⟨rfl,hb⟩;exact ⟨rfl,hb⟩)
theorem oH (n:Int) (w:World) (hL:jc w) (h0 : -9223372036854775808≤n) (h1:n≤9223372036854775807):Calls Tryz.prog 54 #[.int .i64 n] w (Ret fun v w'=>v=str (Lib.itoa n)∧Ext w w'):=Y2 (Tryz.strconv_Itoa n h0 h1 w hL.pow)
theorem qY (s t:Str) (w:World) (hL:jc w) (hs:s.length<4294967281):Calls Tryz.prog 109 #[str s,str t] w (Ret fun v w'=>v = .tuple #[str (Lib.cut s t).1,str (Lib.cut s t).2.1,.bool (Lib.cut s t).2.2]∧Ext w w'):=by
 obtain ⟨m,hm⟩:=hL.mx
 exact VZ (Tryz.strings_Cut ⟨s.toArray⟩ ⟨t.toArray⟩ m w (by simpa [ByteArray.size] using hs) hm)
theorem JE (s:Str) (c:UInt8) (w:World):Calls Tryz.prog 29 #[str s,str [c]] w (Ret fun v w'=>v = .int .i64 (Lib.countByte s c)∧w'=w):=of_same (Tryz.strings_Count_one ⟨s.toArray⟩ c w)
theorem yG (s t:Str) (w:World) (hs:s.length≤9223372036854775807):Calls Tryz.prog 106 #[str s,str t] w (Ret fun v w'=>v = .bool (Lib.hasSuffix s t)∧w'=w):=of_same (Tryz.strings_HasSuffix ⟨s.toArray⟩ ⟨t.toArray⟩ w (by simpa [ByteArray.size] using hs))
theorem wo (s t:Str) (w:World) (hs:s.length≤9223372036854775807):Calls Tryz.prog 27 #[str s,str t] w (Ret fun v w'=>v=str (Lib.trimSuffix s t)∧w'=w):=of_same (Tryz.strings_TrimSuffix ⟨s.toArray⟩ ⟨t.toArray⟩ w (by simpa [ByteArray.size] using hs))
open Go Go.E RowKit
attribute [local irreducible] Go.E.ObX Go.E.ObG Go.E.ObK
def bQ:Value:=.iface 184 (.agg #[])
theorem drop_cons {α:Type} {L r:List α} {d x:α} {j:Nat} (h:L.drop j=x::r):j<L.length∧L.getD j d=x∧L.drop (j+1)=r:=by
 have hlt:j<L.length:=by
  rcases Nat.lt_or_ge j L.length with h' | h'
  ·exact h'
  rw [List.drop_eq_nil_of_le h'] at h;cases h
 rw [List.drop_eq_getElem_cons hlt] at h
 injection h with h1 h2
 exact ⟨hlt,by rw [← h1];simp [List.getD,hlt],h2⟩
theorem V4 {u:Str} {d:UInt8} (h:d∈u):∃ a b,u=a++d::b∧d∉a:=by
 induction u with
 | nil=>cases h
 | cons c r ih =>
  by_cases e:c=d
  ·subst e;exact ⟨[],r,rfl,by simp⟩
  obtain ⟨a,b,h1,h2⟩:=ih (by rcases List.mem_cons.1 h with h|h;exact absurd h.symm e;exact h)
  exact ⟨c::a,b,by rw [h1];rfl,by simp [h2,Ne.symm e]⟩
theorem qZ {w w':World} {b:Nat} {cs:List Value} {t:TypeId} (h:Blk w b cs t) (k:w'.heap[b]?=w.heap[b]?):Blk w' b cs t:=k.trans h
theorem dK (w:World) :
  Calls Tryz.prog 108 #[.bool true] w (Ret fun v w'=>w'=w):=by
 refine T.enter (vs:=[.bool true]) func108 rfl ntmps108 rfl ?_
 refine T.q (L.m rfl (L.o (O.not rfl (L.nil (T.cf (T.skip (T.Po results108 rfl)))))))
theorem dG (w:World) :
  Calls Tryz.prog 108 #[.bool false] w (Pan (bQ) fun w'=>w'=w):=by
 refine T.fP (vs:=[.bool false]) func108 rfl ntmps108 rfl ?_
 refine T.q (L.m rfl (L.o (O.not rfl (L.nil (T.ct (T.region (L.o (O.build (v:=.agg #[]) (parts:=[]) (vs:=[]) rfl (fun w=>by kernel_rfl) (L.o (O.RU (by kernel_rfl) rfl (L.aaJ rfl rfl rfl)))))))))))
theorem JF (b1 l:Nat) (t:Str) (m:Nat) (V:Value) (J:Nat→(Nat→Prop)→World→Prop) (X:World→Prop) (w:World) (hm:m≤(aS 10 t).length) (ht:t.length≤100000) (hJ:zU J) (hInv:∀ i S W,J i S W→jc W) (lU:∀ j S W,j<m→J j S W→Z7 Tryz.prog l #[.int .i64 ((j+1:Nat):Int),str ((aS 10 t).getD j [])] W fun e W'=>e = .returned (.bool true)∧J (j+1) S W'∧∀ k,S k→W'.heap[k]?=W.heap[k]?) (Z8:∀ S W,¬ m=(aS 10 t).length→J m S W→Z7 Tryz.prog l #[.int .i64 ((m+1:Nat):Int),str ((aS 10 t).getD m [])] W fun e W'=>e = .panicked (thrown V)∧X W') (h0:J 0 (fun k=>k=b1) w) (hB:Blk w b1 [str t] 9) :
  Calls Tryz.prog 158 #[.func (.yield l) #[] #[],.pointer (some ⟨b1,0,none⟩)] w (fun e W'=>(m=(aS 10 t).length∧∃ v S,e = .returned v∧(∀ k,k=b1→S k)∧J m S W')∨(¬ m=(aS 10 t).length∧e = .panicked (thrown V)∧X W')):=by
 refine T.aaM (vs:=[.func (.yield l) #[] #[],.pointer (some ⟨b1,0,none⟩)]) func158 rfl ntmps158 rfl ?_
 refine T.scope (fun _ _ _ h=>h) (T.seq (T.label (T.q (L.a rfl (L.nil (T.block (?_)))))))
 refine T.loop (σ:=Nat × Str) (fun g=>[(0,.func (.yield l) #[] #[]),(1,.pointer (some ⟨b1,0,none⟩)),(3,.int .i64 ((g.1+1:Nat):Int))]) (fun g w'=>g.1≤m∧Blk w' b1 [str g.2] 9∧aS 10 g.2=(aS 10 t).drop g.1∧g.2.length≤100000∧g.1≤100000∧g.1+g.2.length≤100000∧∃ S:Nat→Prop,S b1∧J g.1 S w') (fun g=>(aS 10 t).length-g.1) ((0,t)) ⟨rfl,rfl,rfl,trivial⟩ ⟨Nat.zero_le _,hB,rfl,ht,Nat.zero_le _,by simpa using ht,fun k=>k=b1,rfl,h0⟩ ?_
 rintro ⟨j,u⟩ w1 ⟨hj,hB1,hu,hul,hj5,hju,S,hS,hJ1⟩
 simp only at hj hB1 hu hul hj5 hju hJ1
 refine T.seq (T.block (T.q (L.o (O.load isAgg9 rfl (hB1.cell rfl) (?_)))))
 rcases Classical.em ((10:UInt8)∈u) with hmem|hmem
 ·obtain ⟨a,b,rfl,hfree⟩:=V4 hmem
  rw [nX hfree] at hu
  obtain ⟨hlt,hget,hdrop⟩:=drop_cons (d:=[]) hu.symm
  have hal:a.length+b.length+1≤100000:=by simp at hul;omega
  refine L.o (O.call (xs:=[.tmp 10,_]) call109 rfl rfl (qY (a++10::b) [10] w1 (hInv _ _ _ hJ1) (by omega)) (fun v2 w2 hq=>?_))
  obtain ⟨hv2,he2⟩:=hq
  rw [Qg hfree] at hv2
  subst hv2
  have hJ2:=hJ.1 j S S w1 w2 hJ1 he2 (fun k hk=>.inl hk)
  have hB2:=Blk.ext (cs:=[str (a++10::b)]) hB1 he2
  refine L.m rfl (?_)
  rcases Nat.lt_or_ge j m with hjm|hjm
  ·refine L.o (O.extract rfl rfl (L.o (O.extract rfl rfl (L.o (O.extract rfl rfl (L.a rfl (L.a rfl (L.a rfl (L.nil (T.seq (T.q (L.m rfl (L.m rfl (L.m rfl (L.o (O.Xq (xs:=[.tmp 16,.tmp 17]) rfl rfl rfl (by have h:=lU j S w2 hjm hJ2;rw [hget] at h;exact h) (fun v3 w3 hq=>?_)))))))))))))))))
   obtain ⟨rfl,hJ3,hk3⟩:=hq
   refine L.o (O.not rfl (L.nil (T.cf (T.skip (T.q (L.m rfl (L.o (O.store1 sizeOf9 rfl rfl rfl (qZ hB2 (hk3 b1 hS)) (by simp) (fun w4 hu4 hB4=>?_)))))))))
   have hu4:Upd b1 _ _:=hu4
   refine L.nil (T.q (L.m rfl (L.o (O.not rfl (L.nil (T.cf (T.skip (T.blk (T.region (L.m rfl (L.o (O.aI rfl rfl (by (try dsimp only);omega) (L.a rfl (L.nil (T.again ((j+1,b)) (by (try dsimp only);omega) ⟨rfl,rfl,rfl,trivial⟩ ⟨hjm,hB4,hdrop.symm,by (try dsimp only);omega,by (try dsimp only);simp at hju;omega,by (try dsimp only);simp at hju;omega,S,hS,hJ.2 _ _ _ _ _ hJ3 hS hu4⟩)))))))))))))))
  obtain rfl:j=m:=by omega
  have hnf:¬ j=(aS 10 t).length:=by omega
  refine L.o (O.extract rfl rfl (L.o (O.extract rfl rfl (L.o (O.extract rfl rfl (L.a rfl (L.a rfl (L.a rfl (L.nil (T.seq (T.q (L.m rfl (L.m rfl (L.m rfl (L.KP (xs:=[.tmp 16,.tmp 17]) rfl rfl rfl rfl (by have h:=Z8 S w2 hnf hJ2;rw [hget] at h;exact h) (fun w' a hX ha=>⟨ha.defers,.inr ⟨hnf,rfl,hX⟩⟩))))))))))))))))
 rw [AO hmem] at hu
 obtain ⟨hlt,hget,hdrop⟩:=drop_cons (d:=[]) hu.symm
 have hlen:(aS 10 t).length=j+1:=by have:=congrArg List.length hdrop;simp at this;omega
 refine L.o (O.call (xs:=[.tmp 10,_]) call109 rfl rfl (qY u [10] w1 (hInv _ _ _ hJ1) (by omega)) (fun v2 w2 hq=>?_))
 obtain ⟨hv2,he2⟩:=hq
 rw [aaO hmem] at hv2
 subst hv2
 have hJ2:=hJ.1 j S S w1 w2 hJ1 he2 (fun k hk=>.inl hk)
 have hB2:=Blk.ext (cs:=[str u]) hB1 he2
 refine L.m rfl (?_)
 rcases Nat.lt_or_ge j m with hjm|hjm
 ·refine L.o (O.extract rfl rfl (L.o (O.extract rfl rfl (L.o (O.extract rfl rfl (L.a rfl (L.a rfl (L.a rfl (L.nil (T.seq (T.q (L.m rfl (L.m rfl (L.m rfl (L.o (O.Xq (xs:=[.tmp 16,.tmp 17]) rfl rfl rfl (by have h:=lU j S w2 hjm hJ2;rw [hget] at h;exact h) (fun v3 w3 hq=>?_)))))))))))))))))
  obtain ⟨rfl,hJ3,hk3⟩:=hq
  refine L.o (O.not rfl (L.nil (T.cf (T.skip (T.q (L.m rfl (L.o (O.store1 sizeOf9 rfl rfl rfl (qZ hB2 (hk3 b1 hS)) (by simp) (fun w4 hu4 hB4=>?_)))))))))
  have hu4:Upd b1 _ _:=hu4
  obtain rfl:m=j+1:=by omega
  refine L.nil (T.q (L.m rfl (L.o (O.not rfl (L.nil (T.ct (T.exit rfl (T.aiF results158 (.inl ⟨hlen.symm,_,S,rfl,fun k hk=>by rw [hk];exact hS,hJ.2 _ _ _ _ _ hJ3 hS hu4⟩)))))))))
 obtain rfl:j=m:=by omega
 have hnf:¬ j=(aS 10 t).length:=by omega
 refine L.o (O.extract rfl rfl (L.o (O.extract rfl rfl (L.o (O.extract rfl rfl (L.a rfl (L.a rfl (L.a rfl (L.nil (T.seq (T.q (L.m rfl (L.m rfl (L.m rfl (L.KP (xs:=[.tmp 16,.tmp 17]) rfl rfl rfl rfl (by have h:=Z8 S w2 hnf hJ2;rw [hget] at h;exact h) (fun w' a hX ha=>⟨ha.defers,.inr ⟨hnf,rfl,hX⟩⟩))))))))))))))))
theorem JG (t:Str) (w:World) :
  Calls Tryz.prog 119 #[str t] w (Ret fun v w'=>∃ b1,v = .func (.func 158) #[] #[.pointer (some ⟨b1,0,none⟩)]∧b1=w.heap.size∧Ext w w'∧Blk w' b1 [str t] 9):=by
 refine T.enter (vs:=[str t]) func119 rfl ntmps119 rfl ?_
 refine T.q (L.o (O.box rfl (fun b1 w1 hb1 hz1 he1 hB1=>?_)))
 refine L.a rfl (L.nil (T.q (L.o (O.makeFunc (fi:=[]) (ca:=[.tmp 1]) rfl rfl (L.a rfl (L.nil (T.aU results119 rfl ⟨b1,rfl,hb1,he1,hB1⟩)))))))
theorem N7 (b1:Nat) (t:Str) (m:Nat) (V:Value) (hm:m≤(aS 10 t).length) (ht:t.length≤100000):agV Tryz.prog 158 #[.pointer (some ⟨b1,0,none⟩)] V (fun j=>(.int .i64 ((j+1:Nat):Int),str ((aS 10 t).getD j []))) m (m=(aS 10 t).length) jc (fun k=>k=b1) (fun W=>Blk W b1 [str t] 9) :=
 fun l J X W hJ hInv lU Z8 h0 hB=>JF b1 l t m V J X W hm ht hJ hInv lU Z8 h0 hB
open Go Go.E RowKit
theorem Gz {τ:Type} (step:τ→Str→Option τ):∀ (L:List Str) (s0:τ) (n:Nat),∃ m,m≤L.length∧∃ f:Nat→τ,f 0=s0∧(∀ j,j<m→step (f j) (L.getD j [])=some (f (j+1)))∧((m=L.length∧sD step s0 L n = .inl (f m))∨(m<L.length∧step (f m) (L.getD m [])=none∧sD step s0 L n = .inr (n+m)))
 | [],s0,n=>⟨0,Nat.le_refl _,fun _=>s0,rfl,fun j hj=>absurd hj (Nat.not_lt_zero _),.inl ⟨rfl,rfl⟩⟩
 | l::ls,s0,n=>by
  cases hs:step s0 l with
  | none=>exact ⟨0,Nat.zero_le _,fun _=>s0,rfl,fun j hj=>absurd hj (Nat.not_lt_zero _),.inr ⟨by simp,hs,by simp [sD,hs]⟩⟩
  | some s1 =>
   obtain ⟨m,hm,f,h0,h1,h2⟩:=Gz step ls s1 (n+1)
   refine ⟨m+1,by simpa using hm,fun j=>if j=0 then s0 else f (j-1),rfl,fun j hj=>?_,?_⟩
   ·cases j with
    | zero=>simpa [h0] using hs
    | succ j=>simpa using h1 j (by omega)
   rcases h2 with ⟨e,h3⟩|⟨e,h3,h4⟩
   ·exact .inl ⟨by simp [e],by simpa [sD,hs] using h3⟩
   refine .inr ⟨by simpa using e,by simpa using h3,?_⟩
   simp only [sD,hs,h4];congr 1;omega
def DY {τ:Type} (r:τ ⊕ Nat):Int:=match r with | .inl _=>0 | .inr n=>n
def DoC {τ:Type} (g:FuncId) (fi ca:Array Value) (step:τ→Str→Option τ) (B:τ→Nat→Prop) (I:τ→(Nat→Prop)→World→Prop) (X:(Nat→Prop)→World→Prop):Prop :=
 ∀ (s:τ) (S:Nat→Prop) (W:World) (l:Str) (j:Nat),B s j→j≤100000→I s S W→l.length≤100000 →
  (∀ s',step s l=some s'→Calls Tryz.prog g (fi ++ [str l].toArray++ca) W (Ret fun _ W'=>I s' S W'∧∀ k,S k→W'.heap[k]?=W.heap[k]?)) ∧
  (step s l=none→Calls Tryz.prog g (fi ++ [str l].toArray++ca) W (Pan bQ fun W'=>X S W'∧∀ k,S k→W'.heap[k]?=W.heap[k]?))
theorem Bq (d:UInt8):∀ t:Str,(aS d t).length≤t.length+1
 | []=>by simp [aS]
 | c::r=>by
  have ih:=Bq d r
  unfold aS
  split
  ·simpa using ih
  split
  ·simp
  rename_i w ws hw
  rw [hw] at ih
  simp only [List.length_cons] at ih ⊢
  omega
theorem place {τ:Type} {step:τ→Str→Option τ} {B:τ→Nat→Prop} {f:Nat→τ} {L:List Str} {m:Nat} (h0:B (f 0) 0) (hB:∀ s l s' j,B s j→step s l=some s'→B s' (j+1)) (h:∀ j,j<m→step (f j) (L.getD j [])=some (f (j+1))):∀ j,j≤m→B (f j) j
 | 0,_=>h0
 | j+1,hj=>hB _ _ _ _ (place h0 hB h j (by omega)) (h j (by omega))
theorem RX {t:Str} (ht:t.length≤100000):∀ l∈aS 10 t,l.length≤100000:=fun l hl=>by
 have h:∀ (ws:List Str),l∈ws→l.length≤(Lib.join ws [10]).length:=by
  intro ws
  induction ws with
  | nil=>intro h;cases h
  | cons a r ih =>
   intro h
   cases r with
   | nil=>simp at h;subst h;rw [join_one];exact Nat.le_refl _
   | cons b r =>
    rw [su,List.length_append,List.length_cons]
    rcases List.mem_cons.1 h with rfl|h
    ·omega
    have:=ih h;omega
 have:=h _ hl
 rw [xE] at this
 omega
theorem abZ (w:World) :
  CallsDIn (FW none) 0 Tryz.prog 118 #[] (.panicking (thrown bQ)) w (fun e m w'=>(∃ x,e = .returned x)∧m = .panicking [{ v:=bQ,recovered:=true }]∧(fun w'=>Ext w w') w'):=by
 refine T.KN (vs:=[]) (r:=bQ) (u:=.panicking (thrown bQ)) (u':=.panicking [{ v:=bQ,recovered:=true }]) func118 rfl ntmps118 rfl results118 rfl rfl (fun c0 cs hu=>.inl (by simp only [recoverD,hu])) (fun Q0 hQ0=>?_)
 refine T.q (L.m rfl (L.o (O.DX (by kernel_rfl) rfl rfl (L.nil (T.ct (T.q (L.m rfl (L.o (O.typeAssert (r:=.tuple #[.agg #[],.bool true]) rfl (fun w=>by kernel_rfl) (L.m rfl (L.o (O.extract rfl rfl (L.o (O.extract rfl rfl (L.o (O.alloc zeroValue184 (fun b7 w7 hb7 hz7 he7 hB7=>?_)))))))))))))))))
 refine L.o (O.aC sizeOf184 rfl rfl rfl hB7 (Nat.le_refl _) (by simp) (fun w8 hu8 hB8=>?_))
 have hu8:Upd b7 _ _:=hu8
 refine L.a rfl (L.nil (T.q (L.m rfl (L.o (O.not rfl (L.nil (T.cf (T.skip (T.Qc (fun a0 ha0=>hQ0 a0 _ ha0.defers (he7.upd hu8 (.inr (by omega)))))))))))))
theorem ab1 (w:World) :
  CallsDIn (FW none) 0 Tryz.prog 118 #[] (.returning) w (fun e m w'=>(∃ x,e = .returned x)∧m = .returning∧(fun w'=>w'=w) w'):=by
 refine T.KN (vs:=[]) (r:=.nilIface) (u:=.returning) (u':=.returning) func118 rfl ntmps118 rfl results118 rfl rfl (fun c0 cs hu=>.inr ⟨by simp only [recoverD,hu],rfl,rfl⟩) (fun Q0 hQ0=>?_)
 refine T.q (L.m rfl (L.o (O.Gy (by kernel_rfl) rfl (L.nil (T.cf (T.skip (T.Qc (fun a0 ha0=>hQ0 a0 _ ha0.defers rfl))))))))
theorem ru (a:Act) (w:World) (b4:Nat) (x:Int) (h4:a.tmps[4]?=some (.pointer (some ⟨b4,0,none⟩))) (hB:Blk w b4 [.int .i64 x] 3):(results Tryz.f66 a.tmps).run Tryz.prog w = .ok (.int .i64 x) w:=by
 have hc:w.cell? ⟨b4,0,none⟩=some (.int .i64 x):=hB.cell rfl
 simp [results,results66,Array.getD_eq_getD_getElem?,h4,loadVar,asAddr,isAgg3,hc]
theorem wW {D:Nat} {w w':World} (h:Shut [D] w w'):Upd D w w':=⟨h.os,h.tape,h.output,h.size,fun k hk=>h.block k (by simpa using hk)⟩
theorem yH {w:World} {b D:Nat} {cs:List Value} {t:TypeId} (h:Blk w b cs t) (hd:w.heap[D]?=some (.deferred (some []))):b≠D:=fun e=>by
 subst e;unfold Blk at h;rw [hd] at h;cases h
set_option maxHeartbeats 1000000 in
theorem rC {τ:Type} (text:Str) (g:FuncId) (fi ca:Array Value) (step:τ→Str→Option τ) (s0:τ) (B:τ→Nat→Prop) (I:τ→(Nat→Prop)→World→Prop) (X:(Nat→Prop)→World→Prop) (w:World) (ht:text.length≤99999) (hcl:∀ args w,(callFunc g args).run Tryz.prog w = .ok (.enter g args) w) (hI:zU I) (hXe:∀ S W W',X S W→Ext W W'→X S W') (hXu:∀ S W W' b,X S W→S b→Upd b W W'→X S W') (hL:∀ s S W,I s S W→jc W) (hdo:DoC g fi ca step B I X) (hB0:B s0 0) (hBs:∀ s l s' j,B s j→step s l=some s'→B s' (j+1)) (h0:I s0 (fun _=>False) w) :
  Calls Tryz.prog 66 #[str text,.func (.func g) fi ca] w (Ret fun v w'=>v = .int .i64 (DY (sD step s0 (aS 10 text) 1))∧(∀ s,sD step s0 (aS 10 text) 1 = .inl s→∃ S,I s S w')∧(∀ n,sD step s0 (aS 10 text) 1 = .inr n→∃ S,X S w')):=by
 refine T.Pz (vs:=[str text,.func (.func g) fi ca]) func66 rfl ntmps66 rfl ?_
 refine T.q (L.o (O.box rfl (fun b3 w3 hb3 hz3 he3 hB3=>?_)))
 refine L.o (O.alloc zeroValue3 (fun b4 w4 hb4 hz4 he4 hB4=>?_))
 have hl4:Blk w4 b4 [.int .i64 0] 3:=hB4
 have hc4:=Blk.ext (cs:=[.func (.func g) fi ca]) hB3 he4
 refine L.nil (T.q (L.aaN rfl rfl (L.nil (T.seq (T.q (L.m rfl (L.o (O.call (xs:=[.tmp 7]) call119 rfl rfl (JG text w4) (fun v5 w5 hq=>?_)))))))))
 obtain ⟨b1,rfl,hb1,he5,hT5⟩:=hq
 have hl5:=Blk.ext (cs:=[.int .i64 0]) hl4 he5
 have hc5:=Blk.ext (cs:=[.func (.func g) fi ca]) hc4 he5
 have QD:=(he3.trans he4).trans he5
 have hz3:=he3.size
 have hz4:=he4.size
 have hlt3:=Blk.lt (cs:=[.func (.func g) fi ca]) hB3
 have hlt4:=Blk.lt (cs:=[.int .i64 0]) hl4
 have amG:=Blk.lt (cs:=[str text]) hT5
 obtain ⟨m,hm,f,hf0,hf1,hfm⟩:=Gz step (aS 10 text) s0 1
 have hpl:∀ j,j≤m→B (f j) j:=place (by rw [hf0];exact hB0) hBs hf1
 have hwl:=Bq 10 text
 have hlen:∀ j,((aS 10 text).getD j []).length≤100000:=fun j=>by
  rcases Nat.lt_or_ge j (aS 10 text).length with h|h
  ·exact RX (t:=text) (Nat.le_trans ht (by decide)) _ (by rw [List.getD_eq_getElem?_getD,List.getElem?_eq_getElem h];exact List.getElem_mem h)
  rw [List.getD_eq_getElem?_getD,List.getElem?_eq_none h];simp
 refine L.nil (T.block (?_))
 refine T.Nb (e1:=fun v x=>[(3,.pointer (some ⟨b3,0,none⟩)),(4,.pointer (some ⟨b4,0,none⟩)),(5,v.1),(6,v.2)]) (fun j S W=>I (f j) (fun k=>S k∨k=b3∨k=b4) W∧(¬ S b3∧¬ S b4)∧Blk W b3 [.func (.func g) fi ca] 131∧∃ x,Blk W b4 [.int .i64 x] 3) (fun S W=>X (fun k=>S k∨k=b3∨k=b4) W∧Blk W b4 [.int .i64 ((m+1:Nat):Int)] 3) (fun _ _ _=>True) rfl rfl call158 rfl rfl (N7 b1 text m bQ hm (by omega)) ?_ ?_ ?_ ?_ ?_ ?_ ?_ ?_ ?_ ?_ ?_
 ·
  ·refine ⟨?_,?_⟩
   ·rintro j S S' W W' ⟨h1,⟨n3,n4⟩,h3,x,h4⟩ he hS
    refine ⟨hI.1 _ _ _ _ _ h1 he (fun k hk=>?_),⟨fun h=>?_,fun h=>?_⟩,Blk.ext (cs:=[.func (.func g) fi ca]) h3 he,x,Blk.ext (cs:=[.int .i64 x]) h4 he⟩
    ·rcases hk with hk|hk
     ·exact (hS k hk).imp .inl id
     exact .inl (.inr hk)
    ·rcases hS _ h with h|h
     ·exact n3 h
     have:=Blk.lt (cs:=[.func (.func g) fi ca]) h3;omega
    rcases hS _ h with h|h
    ·exact n4 h
    have:=Blk.lt (cs:=[.int .i64 x]) h4;omega
   rintro j S W W' b ⟨h1,⟨n3,n4⟩,h3,x,h4⟩ hb hu
   exact ⟨hI.2 _ _ _ _ _ h1 (.inl hb) hu,⟨n3,n4⟩,Blk.upd (cs:=[.func (.func g) fi ca]) h3 hu (fun e=>n3 (e▸hb)),x,Blk.upd (cs:=[.int .i64 x]) h4 hu (fun e=>n4 (e▸hb))⟩
 ·exact fun j S W h=>hL _ _ _ h.1
 ·
  ·refine ⟨?_,⟨fun h=>?_,fun h=>?_⟩,hc5,0,hl5⟩
   ·rw [hf0]
    refine hI.1 _ _ _ _ _ h0 QD (fun k hk=>.inr ?_)
    rcases hk with rfl|rfl|rfl <;> omega
   ·have:b3=b1:=h
    omega
   have:b4=b1:=h
   omega
 ·exact fun k hk=>by have:k=b1:=hk;omega
 ·exact fun W he=>Blk.ext (cs:=[str text]) hT5 he
 ·exact fun _ _ _ _ _ _ _ _=>trivial
 ·intro l Q j k W hK
  refine T.q (L.a rfl (L.nil (T.region (L.a rfl (L.nil (T.sub ?_ (hK W.heap.size W (Nat.le_refl _) (Keep.refl _ _) trivial)))))))
  exact ⟨rfl,rfl,rfl,rfl,trivial⟩
 ·rintro l j x S W hj ⟨h1,⟨n3,n4⟩,h3,y,h4⟩ _
  refine T.block (T.q (L.m rfl (L.o (O.store1 sizeOf3 rfl rfl rfl h4 (by simp) (fun w9 hu9 hB9=>?_)))))
  have hu9:Upd b4 _ _:=hu9
  have hc9:=Blk.upd (cs:=[.func (.func g) fi ca]) h3 hu9 (by omega)
  refine L.nil (T.region (L.o (O.load isAgg131 rfl (Blk.cell (cs:=[.func (.func g) fi ca]) hc9 rfl) (L.m rfl (L.o (O.call (xs:=[.tmp 13]) hcl rfl rfl ((hdo (f j) _ _ _ j (hpl j (by omega)) (by omega) (hI.2 _ _ _ _ _ h1 (.inr (.inr rfl)) hu9) (hlen j)).1 _ (hf1 j hj)) (fun v10 w10 hq=>?_)))))))
  obtain ⟨h10,hk10⟩:=hq
  refine L.nil (T.blk (T.roundEnd ⟨⟨h10,⟨n3,n4⟩,qZ hc9 (hk10 b3 (.inr (.inl rfl))),_,qZ hB9 (hk10 b4 (.inr (.inr rfl)))⟩,fun k hk=>(hk10 k (.inl hk)).trans (hu9.block k (fun e=>n4 (e▸hk)))⟩))
 ·rintro l x S W a hnf ⟨h1,⟨n3,n4⟩,h3,y,h4⟩ _ ha
  refine Qd (Ye (Qe (C:=rCx _ l (fun _ _ _=>False)) rfl ?_ ha))
  have hst:step (f m) ((aS 10 text).getD m [])=none:=by rcases hfm with ⟨e,_⟩|⟨_,h,_⟩;exact absurd e hnf;exact h
  refine T.region (L.m rfl (L.o (O.store1 sizeOf3 rfl rfl rfl h4 (by simp) (fun w9 hu9 hB9=>?_))))
  have hu9:Upd b4 _ _:=hu9
  have hc9:=Blk.upd (cs:=[.func (.func g) fi ca]) h3 hu9 (by omega)
  refine L.nil (T.ad8 (fun a2 ha2=>UN (P:=Tryz.prog) ha2 ?_))
  refine L.o (O.load isAgg131 rfl (Blk.cell (cs:=[.func (.func g) fi ca]) hc9 rfl) (L.m rfl (L.bJ (xs:=[.tmp 13]) rfl hcl rfl rfl ((hdo (f m) _ _ _ m (hpl m (Nat.le_refl _)) (by omega) (hI.2 _ _ _ _ _ h1 (.inr (.inr rfl)) hu9) (hlen m)).2 hst) (fun w' a hX ha=>⟨_,rfl,rfl,ha.defers,⟨hX.1,qZ hB9 (hX.2 b4 (.inr (.inr rfl)))⟩,fun k hk=>(hX.2 k (.inl hk)).trans (hu9.block k (fun e=>n4 (e▸hk)))⟩))))
 ·rintro S D W hfull hD hS0 hSD ⟨h1,⟨n3,n4⟩,h3,y,h4⟩ hd
  have hr:sD step s0 (aS 10 text) 1 = .inl (f m):=by rcases hfm with ⟨_,h⟩|⟨h,_⟩;exact h;omega
  refine T.blk (T.q (L.o (O.store1 sizeOf3 rfl rfl rfl h4 (by simp) (fun w11 jg oV=>?_))))
  have jg:Upd b4 _ _:=jg
  have hd11:w11.heap[D]?=some (.deferred (some [])):=(jg.block D (fun e=>n4 (e▸hSD))).trans hd
  refine L.nil (T.ret (fun a ha=>?_))
  show LeavesInM _ _ _ _ _ _ a.defers _ _
  rw [ha.defers]
  refine qF (v:=.int .i64 0) (R':=fun w'=>Shut [D] w11 w') (u:=.returning) (u':=.returning) (by simp) call118 hd11 (fun w1 hs=>(ab1 w1).mono (by rintro e m w' ⟨h1,h2,rfl⟩;exact ⟨h1,h2,hs⟩)) rfl ?_
  intro w' hs
  have afj:=Blk.upd (cs:=[.int .i64 0]) oV (wW hs) (yH oV hd11)
  refine ⟨ru a w' b4 _ (ha.sat.get 4 _ rfl) afj,by rw [hr];rfl,fun s hs2=>?_,fun n hn=>by rw [hr] at hn;cases hn⟩
  rw [hr] at hs2
  cases hs2
  exact ⟨_,hI.2 _ _ _ _ _ (hI.2 _ _ _ _ _ h1 (.inr (.inr rfl)) jg) (.inl hSD) (wW hs)⟩
 ·
  ·intro S D W a hnf hD hSD ⟨hX,h4⟩ hd ha
   rcases hfm with ⟨e,_⟩|⟨_,_,hr⟩
   ·exact absurd e hnf
   show LeavesInM _ _ _ _ _ _ a.defers _ _
   rw [ha.defers]
   refine qF (v:=.int .i64 ((m+1:Nat):Int)) (R':=fun w'=>∃ w1,Shut [D] W w1∧Ext w1 w') (u:=.panicking (thrown bQ)) (u':=.panicking [{ v:=bQ,recovered:=true }]) (by simp) call118 hd (fun w1 hs=>(abZ w1).mono (by rintro e m w' ⟨h1,h2,h3⟩;exact ⟨h1,h2,w1,hs,h3⟩)) rfl ?_
   rintro w' ⟨w1,hs,he⟩
   have hne:=yH h4 hd
   have afj:=Blk.ext (cs:=[.int .i64 ((m+1:Nat):Int)]) (Blk.upd (cs:=[.int .i64 ((m+1:Nat):Int)]) h4 (wW hs) hne) he
   refine ⟨ru a w' b4 _ (ha.sat.get 4 _ rfl) afj,?_,fun s hs2=>?_,fun n hn=>?_⟩
   ·rw [hr];simp [DY];omega
   ·rw [hr] at hs2;cases hs2
   exact ⟨_,hXe _ _ _ (hXu _ _ _ _ hX (.inl hSD) (wW hs)) he⟩
open Go Go.E RowKit
theorem Bld.new {B b:Nat} {w:World} (h:Blk w b [.pointer none,.slice none 0 0] 65) (hb:B≤b):Bld B b [] w :=
 .inl ⟨hb,.slice none 0 0,h,eG _ _ _ _,by simp [Value.ownBlock]⟩
def Strs (lo:Nat) (w:World) (v:Value) (xs:List Str):Prop:=Sl lo w v xs.length 1 (xs.map str)
theorem Strs.at {lo:Nat} {w:World} {v:Value} {xs:List Str} (h:Strs lo w v xs) {i:Nat} (h1:i<xs.length):w.cell? ((jd v).add ((i:Int).toNat*1))=some (str (xs.getD i [])):=Sl.at1 h (by simp [List.getD,h1])
theorem Strs.ext {lo:Nat} {w w':World} {v:Value} {xs:List Str} (h:Strs lo w v xs) (k:Ext w w'):Strs lo w' v xs:=Sl.ext h k
theorem Strs.ay {w:World} {b lo:Nat} {xs:List Str} {t:TypeId} {n:Nat} (h:Blk w b (xs.map str) t) (hn:xs.length=n) (hm:n≤maxLen) (hlo:lo≤b):Strs lo w (.slice (some ⟨b,0,none⟩) n n) xs:=by
 subst hn;exact Sl.ay h (by simp) (Nat.le_refl _) hm hlo
def EO (d:Int):Bool:=decide (d<0∨8≤d)
def ng (xs:List Int) (n:Int):Bool:=decide ((xs.length:Int)=n) && xs.all fun d=>!EO d
theorem Y3 {xs:List Int} {i:Nat} (hi:i<xs.length) (h:EO (xs.getD i 0)=true):xs.any EO=true:=List.any_eq_true.2 ⟨_,List.getElem_mem hi,by rw [au hi] at h;exact h⟩
theorem ab2 {xs:List Int} (h:∀ i,i<xs.length→EO (xs.getD i 0)=false):xs.any EO=false:=by
 rw [List.any_eq_false]
 intro x hx
 obtain ⟨i,hi,rfl⟩:=List.getElem_of_mem hx
 have:=h i hi
 rw [au hi] at this
 simp [this]
theorem Y4 (xs:List Int):(xs.all fun d=>!EO d) = !xs.any EO:=by
 induction xs with
 | nil=>rfl
 | cons x r ih=>simp [List.all_cons,List.any_cons,ih,Bool.not_or]
theorem JH (d:Int) (w:World) :
  Calls Tryz.prog 104 #[.int .i64 d] w (Ret fun v w'=>v = .bool (EO d)∧w'=w):=by
 refine T.enter (vs:=[.int .i64 d]) func104 rfl ntmps104 rfl ?_
 refine T.q (L.a rfl (L.nil (T.q (L.m rfl (L.o (O.bF rfl rfl (fun h0=>?_) (fun h0=>?_)))))))
 ·refine L.m rfl (L.p (L.p (L.o (O.ah rfl rfl (L.a rfl (L.nil (T.aU results104 rfl ⟨by rw [EO,decide_eq_true (.inl h0)],rfl⟩)))))))
 refine L.m rfl (L.m rfl (L.o (O.zT rfl rfl (fun h1=>?_) (fun h1=>?_))))
 ·refine L.o (O.aj rfl rfl (L.a rfl (L.nil (T.aU results104 rfl ⟨by rw [EO,decide_eq_true (.inr h1)],rfl⟩))))
 refine L.o (O.aj rfl rfl (L.a rfl (L.nil (T.aU results104 rfl ⟨by rw [EO,decide_eq_false (by omega)],rfl⟩))))
theorem DZ (lo:Nat) (p:Value) (xs:List Int) (w:World) (hp:Ints .i64 lo w p xs) :
  Calls Tryz.prog 149 #[p,.func (.func 104) #[] #[]] w (Ret fun v w'=>∃ n:Int,v = .int .i64 n∧(0≤n↔xs.any EO=true)∧w'=w):=by
 have hle:=Sl.le hp
 refine T.enter (vs:=[p,.func (.func 104) #[] #[]]) func149 rfl ntmps149 rfl ?_
 refine T.q (L.a rfl (L.nil (T.seq (T.q (L.m rfl (L.o (O.len runUnderlying31 rfl (Sl.val hp) (L.m rfl (L.nil (T.block (?_)))))))))))
 refine T.loop (σ:=Nat) (fun i=>[(0,p),(1,.func (.func 104) #[] #[]),(7,.int .i64 xs.length),(8,.int .i64 i)]) (fun i w'=>i≤xs.length∧w'=w∧∀ k,k<i→EO (xs.getD k 0)=false) (fun i=>xs.length-i) (0) ⟨rfl,rfl,rfl,rfl,trivial⟩ ⟨Nat.zero_le _,rfl,fun k hk=>absurd hk (Nat.not_lt_zero _)⟩ ?_
 rintro i w1 ⟨hi,rfl,hall⟩
 refine T.q (L.o (O.bF rfl rfl (fun hlt=>?_) (fun hlt=>?_)))
 ·refine L.nil (?_)
  have hlt':i<xs.length:=by omega
  refine T.seq (T.ct (T.skip (T.seq (T.block (T.q (L.m rfl (L.a rfl (L.nil (T.q (L.m rfl (L.m rfl (L.m rfl (L.o (O.indexAddr runUnderlying31 sizeOf3 rfl rfl hp (by omega) (by omega) (L.o (O.load isAgg3 rfl (Ints.at hp hlt') (L.o (O.call (xs:=[.tmp 15]) call104 rfl rfl (JH (xs.getD i 0) w1) (fun v2 w2 hq=>?_)))))))))))))))))))
  obtain ⟨hv2,rfl⟩:=hq
  cases hb:EO (xs.getD i 0)
  ·refine L.nil (?_)
   rw [hb] at hv2
   subst hv2
   refine T.cf (T.skip (T.blk (T.region (L.o (O.aI rfl rfl (by omega) (L.m rfl (L.nil (T.again (i+1) (by omega) ⟨rfl,rfl,rfl,rfl,trivial⟩ ⟨hlt',rfl,fun k hk=>by rcases Nat.lt_or_ge k i with h|h;exact hall k h;obtain rfl:k=i:=(by omega);exact hb⟩))))))))
  refine L.nil (?_)
  rw [hb] at hv2
  subst hv2
  refine T.ct (T.q (L.m rfl (L.a rfl (L.nil (T.aU results149 rfl ⟨i,rfl,⟨fun _=>Y3 hlt' hb,fun _=>by omega⟩,rfl⟩)))))
 refine L.nil (?_)
 obtain rfl:i=xs.length:=by omega
 refine T.seq (T.cf (T.exit rfl (T.q (L.a rfl (L.nil (T.aU results149 rfl ⟨-1,rfl,by rw [ab2 hall];simp,rfl⟩))))))
theorem D5 (lo:Nat) (p:Value) (xs:List Int) (w:World) (hp:Ints .i64 lo w p xs) :
  Calls Tryz.prog 103 #[p,.func (.func 104) #[] #[]] w (Ret fun v w'=>v = .bool (xs.any EO)∧w'=w):=by
 refine T.enter (vs:=[p,.func (.func 104) #[] #[]]) func103 rfl ntmps103 rfl ?_
 refine T.q (L.a rfl (L.nil (T.q (L.m rfl (L.m rfl (L.o (O.call (xs:=[.tmp 5,.tmp 6]) call149 rfl rfl (DZ lo p xs w hp) (fun v1 w1 hq=>?_))))))))
 obtain ⟨n,rfl,hn,rfl⟩:=hq
 refine L.o (O.geq rfl rfl (L.a rfl (L.nil (T.aU results103 rfl ⟨congrArg Value.bool (by cases h:xs.any EO;exact decide_eq_false (by rw [hn,h];simp);exact decide_eq_true (hn.2 h)),rfl⟩))))
theorem Bv (lo:Nat) (p:Value) (xs:List Int) (n:Int) (w:World) (hp:Ints .i64 lo w p xs) :
  Calls Tryz.prog 53 #[p,.int .i64 n] w (Ret fun v w'=>v = .bool (ng xs n)∧w'=w):=by
 refine T.enter (vs:=[p,.int .i64 n]) func53 rfl ntmps53 rfl ?_
 refine T.q (L.a rfl (L.nil (T.q (L.m rfl (L.o (O.len runUnderlying31 rfl (Sl.val hp) (L.m rfl (L.o (O.jw rfl rfl (fun hl=>?_) (fun hl=>?_))))))))))
 ·refine L.m rfl (L.m rfl (L.o (O.call (xs:=[.tmp 10,.func 104]) call103 rfl rfl (D5 lo p xs w hp) (fun v1 w1 hq=>?_))))
  obtain ⟨rfl,rfl⟩:=hq
  refine L.o (O.not rfl (L.o (O.ah rfl rfl (L.a rfl (L.nil (T.aU results53 rfl ⟨by rw [ng,decide_eq_true hl,Y4];rfl,rfl⟩))))))
 refine L.m rfl (L.p (L.p (L.p (L.o (O.aj rfl rfl (L.a rfl (L.nil (T.aU results53 rfl ⟨by rw [ng,decide_eq_false hl];rfl,rfl⟩))))))))
theorem D6 (lo:Nat) (p:Value) (xs:List Int) (w:World) (hp:Ints .i64 lo w p xs) :
  Calls Tryz.prog 110 #[p,.int .i64 (-1)] w (Ret fun v w'=>∃ n:Int,v = .int .i64 n∧(0≤n↔(-1:Int)∈xs)∧w'=w):=by
 have hle:=Sl.le hp
 refine T.enter (vs:=[p,.int .i64 (-1)]) func110 rfl ntmps110 rfl ?_
 refine T.q (L.a rfl (L.nil (T.seq (T.q (L.m rfl (L.o (O.len runUnderlying31 rfl (Sl.val hp) (L.m rfl (L.nil (T.block (?_)))))))))))
 refine T.loop (σ:=Nat) (fun i=>[(0,p),(1,.int .i64 (-1)),(7,.int .i64 xs.length),(8,.int .i64 i)]) (fun i w'=>i≤xs.length∧w'=w∧∀ k,k<i→xs.getD k 0 ≠ -1) (fun i=>xs.length-i) (0) ⟨rfl,rfl,rfl,rfl,trivial⟩ ⟨Nat.zero_le _,rfl,fun k hk=>absurd hk (Nat.not_lt_zero _)⟩ ?_
 rintro i w1 ⟨hi,rfl,hall⟩
 refine T.q (L.o (O.bF rfl rfl (fun hlt=>?_) (fun hlt=>?_)))
 ·refine L.nil (?_)
  have hlt':i<xs.length:=by omega
  refine T.seq (T.ct (T.skip (T.seq (T.block (T.q (L.m rfl (L.a rfl (L.nil (T.q (L.m rfl (L.m rfl (L.m rfl (L.o (O.indexAddr runUnderlying31 sizeOf3 rfl rfl hp (by omega) (by omega) (L.o (O.load isAgg3 rfl (Ints.at hp hlt') (L.o (O.jw rfl rfl (fun hb=>?_) (fun hb=>?_)))))))))))))))))))
  ·refine L.nil (T.ct (T.q (L.m rfl (L.a rfl (L.nil (T.aU results110 rfl ⟨i,rfl,⟨fun _=>by rw [hb,au hlt'];exact List.getElem_mem hlt',fun _=>by omega⟩,rfl⟩))))))
  refine L.nil (T.cf (T.skip (T.blk (T.region (L.o (O.aI rfl rfl (by omega) (L.m rfl (L.nil (T.again (i+1) (by omega) ⟨rfl,rfl,rfl,rfl,trivial⟩ ⟨hlt',rfl,fun k hk=>by rcases Nat.lt_or_ge k i with h|h;exact hall k h;obtain rfl:k=i:=(by omega);exact fun e=>hb e.symm⟩)))))))))
 refine L.nil (?_)
 obtain rfl:i=xs.length:=by omega
 refine T.seq (T.cf (T.exit rfl (T.q (L.a rfl (L.nil (T.aU results110 rfl ⟨-1,rfl,⟨fun h=>by omega,fun h=>?_⟩,rfl⟩))))))
 obtain ⟨k,hk,e⟩:=List.getElem_of_mem h
 have:=hall k hk
 rw [au hk,e] at this
 exact absurd rfl this
theorem D7 (lo:Nat) (p:Value) (xs:List Int) (w:World) (hp:Ints .i64 lo w p xs) :
  Calls Tryz.prog 58 #[p,.int .i64 (-1)] w (Ret fun v w'=>v = .bool (decide ((-1:Int)∈xs))∧w'=w):=by
 refine T.enter (vs:=[p,.int .i64 (-1)]) func58 rfl ntmps58 rfl ?_
 refine T.q (L.a rfl (L.nil (T.q (L.m rfl (L.m rfl (L.o (O.call (xs:=[.tmp 5,.tmp 6]) call110 rfl rfl (D6 lo p xs w hp) (fun v1 w1 hq=>?_))))))))
 obtain ⟨n,rfl,hn,rfl⟩:=hq
 refine L.o (O.geq rfl rfl (L.a rfl (L.nil (T.aU results58 rfl ⟨congrArg Value.bool (decide_eq_decide.2 hn),rfl⟩))))
theorem vg (lo:Nat) (p:Value) (ls:List Str) (w:World) (hp:Strs lo w p ls) (hl:(aF ls).length≤1000000) :
  Calls Tryz.prog 55 #[p] w (Ret fun v w'=>v=str (aF ls)∧Ext w w'):=by
 have hle:=Sl.le hp
 refine T.enter (vs:=[p]) func55 rfl ntmps55 rfl ?_
 refine T.q (L.a rfl (L.nil (T.q (L.o (O.alloc zeroValue65 (fun b3 w3 hb3 hz3 he3 hB3=>?_))))))
 have hb0:Bld w.heap.size b3 [] w3:=Bld.new hB3 (by omega)
 refine L.nil (T.seq (T.q (L.m rfl (L.o (O.len runUnderlying61 rfl (Sl.val (hp.ext he3)) (L.m rfl (L.nil (T.block (?_)))))))))
 refine T.loop (σ:=Nat) (fun i=>[(3,.pointer (some ⟨b3,0,none⟩)),(6,p),(7,.int .i64 ls.length),(8,.int .i64 i)]) (fun i w'=>i≤ls.length∧Ext w w'∧Bld w.heap.size b3 (aF (ls.take i)) w') (fun i=>ls.length-i) (0) ⟨rfl,rfl,rfl,rfl,trivial⟩ ⟨Nat.zero_le _,he3,hb0⟩ ?_
 rintro i w4 ⟨hi,he4,hb4⟩
 refine T.q (L.o (O.bF rfl rfl (fun hlt=>?_) (fun hlt=>?_)))
 ·refine L.nil (?_)
  have hlt':i<ls.length:=by omega
  have hsn:ls.take (i+1)=ls.take i ++ [ls.getD i []]:=by rw [List.take_succ_eq_append_getElem hlt',au hlt']
  have hpre:(aF (ls.take i)).length+((ls.getD i []).length+1)≤1000000:=by
   have h:aF ls=aF (ls.take (i+1))++aF (ls.drop (i+1)):=by rw [aF,aF,aF,← List.flatMap_append,List.take_append_drop]
   rw [h,hsn,uO] at hl
   simp only [List.length_append,List.length_cons,List.length_nil] at hl
   omega
  refine T.seq (T.ct (T.skip (T.seq (T.block (T.q (L.o (O.indexAddr runUnderlying61 sizeOf9 rfl rfl (hp.ext he4) (by omega) (by omega) (L.o (O.load isAgg9 rfl ((hp.ext he4).at hlt') (L.a rfl (L.nil (T.region (L.m rfl (L.o (O.jV rfl rfl (by simp only [List.length_cons,List.length_nil];omega) (L.o (O.call (xs:=[.tmp 3,.tmp 13]) call25 rfl rfl (abY w.heap.size b3 (aF (ls.take i)) (ls.getD i [] ++ [10]) w4 hb4 (by simp only [List.length_append,List.length_cons,List.length_nil];omega) he4.size) (fun v5 w5 hq=>?_))))))))))))))))))
  obtain ⟨rfl,hb5,hl5⟩:=hq
  refine L.nil (T.blk (T.region (L.o (O.aI rfl rfl (by omega) (L.m rfl (L.nil (T.again (i+1) (by omega) ⟨rfl,rfl,rfl,rfl,trivial⟩ ⟨hlt',Ext.yF he4 hl5,by rw [hsn,uO];exact hb5⟩)))))))
 refine L.nil (?_)
 obtain rfl:i=ls.length:=by omega
 rw [List.take_length] at hb4
 refine T.seq (T.cf (T.exit rfl (T.q (L.o (O.call (xs:=[.tmp 3]) call26 rfl rfl (RV w.heap.size b3 (aF ls) w4 hb4 he4.size) (fun v5 w5 hq=>?_))))))
 obtain ⟨rfl,hl5⟩:=hq
 refine L.a rfl (L.nil (T.aU results55 rfl ⟨rfl,Ext.yF he4 hl5⟩))
open Go Go.E RowKit
section ops
variable {C:Cx} {e:Env} {w:World} {K:Value→World→Prop} {d:Option Tmp} {ty:TypeId} {pos:String} {aft:Array Edge} {g:Option (Nat × Bool)} {x y z:Operand} {t:TypeId}
theorem O.XR {el tb:TypeId} {b off n cap m scap k:Nat} {cs news:List Value} {ad:Addr} (hu:∀ w,(underlying t).run C.P w = .ok (.slice el) w) (hs:∀ w,(sizeOf el).run C.P w = .ok 1 w)
  (hx:ev e x=some (.slice (some ⟨b,off,none⟩) n cap)) (hy:ev e y=some (.slice (some ad) m scap)) (hb:Blk w b cs tb) (hk:Nat.min m n=k) (hl:news.length=k) (hr:Row w ad news) (hfit:off+k≤cs.length) (h1:∀ c∈news,c.oneCell'=true)
  (h:∀ w',Upd b w w'→Blk w' b (cs.take off++news++cs.drop (off+k)) tb→K (.int .i64 k) w'):O C e ⟨d,.call { callee:=.builtin .copy,args:=#[x,y],argTypes:=#[t,t] },ty,pos,aft,g⟩ w K:=by
 have hf:=run_firstCells_some (P:=C.P) w 1 k ad m scap news (by rw [hl,Nat.mul_one]) hr
 have hst:=run_storeCells_at C.P b off tb news 0 cs.toArray w hb (by simp;omega) h1
 have hh:=setRow_heap w b cs.toArray (cs.take (off+0)++news++cs.drop (off+0+news.length)).toArray tb (0,0) hb
 have e2:cs.take (off+0)++news++cs.drop (off+0+news.length)=cs.take off++news++cs.drop (off+k):=by rw [Nat.add_zero,hl]
 refine O.of_run (w':=w.setRow b (cs.take (off+0)++news++cs.drop (off+0+news.length)).toArray) (v:=goInt k) (by simp) (fun a ha=>?_) (h _ ⟨rfl,rfl,rfl,by simp,fun k hk=>setRow_other w b k _ hk⟩ (by unfold Blk;rw [hh,e2]))
 simp only [Nat.add_zero] at hst
 simp [execOp,resolve,invoke,builtin,Builtin.copy_,ha.eval hx,ha.eval hy,hu w,hs w,Builtin.lenOf,hk,hf]
 have hst2:(storeCells (⟨b,off,none⟩:Addr) news).run C.P w = .ok () (w.setRow b (cs.take (off+0)++news++cs.drop (off+0+news.length)).toArray):=by simpa using hst
 simp [hst2]
theorem O.GH {b off len cap k:Nat} {el:TypeId} {kd:IntKind} (hu:∀ w,(underlying t).run C.P w = .ok (.slice el) w) (hs:∀ w,(sizeOf el).run C.P w = .ok 1 w) (hx:ev e x=some (.slice (some ⟨b,off,none⟩) len cap)) (hy:ev e y=some (.int kd (k:Int))) (h1:k<cap) (h2:k≤len)
  (h:K (.slice (some ⟨b,off+k,none⟩) (len-k) (cap-k)) w):O C e ⟨d,.slice t x (some y) none none,ty,pos,aft,g⟩ w K :=
 O.of_run (by simp) (fun a ha=>by
  have hne:¬ cap-k=0:=by omega
  simp [execOp,Instr.sliceAt,Instr.slice,Instr.sliceBounds,Instr.sliceBound,asIntOf,ha.eval hx,ha.eval hy,hu w,hs w,Addr.add,h2,hne]
  rw [if_neg (by omega)]
  by_cases hk:k=0
  ·subst hk;simp
  rw [if_neg hk]) h
end ops
def filled (n k:Nat):List Value:=List.replicate k (.int .i64 (-1))++List.replicate (n-k) (.int .i64 0)
theorem tN {n k:Nat} (h:k≤n):(filled n k).length=n:=by simp [filled];omega
theorem N8 {n k m b:Nat} {w:World} {t:TypeId} (h:Blk w b (filled n k) t) (hm:m≤k):Row w ⟨b,0,none⟩ (List.replicate m (.int .i64 (-1))):=fun j u hj=>by
 have hlt:j<m:=by
  rcases Nat.lt_or_ge j m with h' | h'
  ·exact h'
  rw [List.getElem?_eq_none (by simpa using h')] at hj;cases hj
 refine Row.ay h j u ?_
 rw [List.getElem?_replicate,if_pos hlt] at hj
 rw [filled,List.getElem?_append_left (by simp;omega),List.getElem?_replicate,if_pos (by omega)]
 exact hj
theorem yI {n k m:Nat} (hm:k+m≤n):(filled n k).take k++List.replicate m (.int .i64 (-1))++(filled n k).drop (k+m)=filled n (k+m):=by
 rw [filled,filled,List.take_left' (by simp),List.drop_append,List.drop_eq_nil_of_le (by simp),List.length_replicate,List.drop_replicate,List.replicate_append_replicate,List.nil_append]
 congr 2;omega
def ajW (w:World) (b n k m:Nat):Nat→World→Prop
 | 0,W=>Ext w W
 | _+1,W=>∃ W1,Ext w W1∧Upd b W1 W∧Blk W b (filled n (k+m)) 3
theorem wu (b0 n:Nat) (w:World) (hb:Blk w b0 [.int .i64 (-1)] 3) (h1:1≤n) (hn:n≤1000) :
  Calls Tryz.prog 57 #[.slice (some ⟨b0,0,none⟩) 1 1,.int .i64 n] w (Ret fun v w'=>∃ b,v = .slice (some ⟨b,0,none⟩) n n∧w.heap.size≤b∧Blk w' b (List.replicate n (.int .i64 (-1))) 3∧Ext w w'):=by
 refine T.enter (vs:=[.slice (some ⟨b0,0,none⟩) 1 1,.int .i64 n]) func57 rfl ntmps57 rfl ?_
 refine T.q (L.a rfl (L.nil (T.seq (T.q (L.m rfl (L.o (O.xk rfl rfl (by omega) (L.nil (T.cf (T.skip (T.q (L.m rfl (L.o (O.len runUnderlying31 rfl (Sl.val (Sl.ay (n:=1) (sz:=1) (lo:=0) hb rfl (Nat.le_refl 1) (by decide) (Nat.zero_le _))) (L.o (O.fC rfl (fun w=>⟨_,runUnderlying3 w⟩) runUnderlying114 (IntWalk.u64_in ((1:Nat):Int) ⟨by omega,by omega⟩) (L.m rfl (L.o (O.fC rfl (fun w=>⟨_,runUnderlying3 w⟩) runUnderlying114 (IntWalk.u64_in (n:Int) ⟨by omega,by omega⟩) (L.o (O.call (xs:=[.tmp 15,.tmp 17]) call59 rfl rfl (of_same (Tryz.bits_Mul 1 n (by omega) (by omega) w)) (fun v1 w1 hq=>?_))))))))))))))))))))))
 obtain ⟨rfl,rfl⟩:=hq
 refine L.m rfl (L.o (O.extract rfl rfl (L.o (O.extract rfl rfl (L.a rfl (L.a rfl (L.nil (T.seq (T.q (L.m rfl (L.o (O.zS rfl rfl (by omega) (L.m rfl (L.m rfl (L.o (O.zS rfl rfl (by omega) (L.o (O.aj rfl rfl (L.nil (T.cf (T.skip (T.q (L.m rfl (L.o (O.fC rfl (fun w=>⟨_,runUnderlying114 w⟩) runUnderlying3 (by rw [show 1*n % 18446744073709551616=n by omega];exact IntWalk.i64_in (n:Int) ⟨by omega,by omega⟩) (L.o (O.makeSlice runUnderlying31 Tryz.typeInfo3 sizeOf3 zeroValue3 rfl rfl rfl (by show n*8≤_;omega) (by omega) (fun b7 w7 hb7 hz7 he7 hB7=>?_))))))))))))))))))))))))))))
 have hf0:List.replicate n (Value.int .i64 0)=filled n 0:=by simp [filled]
 rw [hf0] at hB7
 have hlt0:=Blk.lt (cs:=[.int .i64 (-1)]) hb
 have ajX:=Blk.ext (cs:=[.int .i64 (-1)]) hb he7
 refine L.a rfl (L.nil (T.q (L.m rfl (L.m rfl (L.o (O.XR (k:=1) (news:=[.int .i64 (-1)]) runUnderlying31 sizeOf3 rfl rfl hB7 (Nat.min_eq_left h1) rfl (Row.ay ajX) (by rw [tN (Nat.zero_le _)];omega) (by simp [Value.oneCell']) (fun w8 hu8 hB8=>?_)))))))
 have e8:=yI (n:=n) (k:=0) (m:=1) (by omega)
 rw [Nat.zero_add] at e8
 simp only [List.replicate_one,Nat.zero_add,List.nil_append,List.take_zero] at e8
 simp only [Nat.zero_add,List.take_zero,List.nil_append] at hB8
 rw [e8] at hB8
 have hE8:Ext w1 w8:=he7.upd hu8 (.inr (by omega))
 refine L.a rfl (L.nil (T.seq (T.block (?_))))
 refine T.loop (σ:=Nat) (fun k=>[(7,.slice (some ⟨b7,0,none⟩) n n),(8,.int .i64 k)]) (fun k W=>1≤k∧k≤n∧Blk W b7 (filled n k) 3∧Ext w1 W) (fun k=>n-k) (1) ⟨rfl,rfl,trivial⟩ ⟨Nat.le_refl _,h1,hB8,hE8⟩ ?_
 rintro k w9 ⟨hk1,hkn,hB9,hE9⟩
 refine T.seq (T.q (L.m rfl (L.m rfl (L.o (O.len runUnderlying31 rfl (Sl.val (Sl.ay (n:=n) (sz:=1) (lo:=0) hB9 (by rw [tN hkn];omega) (Nat.le_refl n) (by simp only [maxLen];omega) (Nat.zero_le _))) (L.o (O.bF rfl rfl (fun hlt=>?_) (fun hlt=>?_))))))))
 ·refine L.nil (?_)
  obtain ⟨m,hmin⟩:∃ m,min k (n-k)=m:=⟨_,rfl⟩
  have hm1:1≤m∧m≤k∧k+m≤n:=by omega
  obtain ⟨hm1,hm2,hm3⟩:=hm1
  refine T.ct (T.skip (T.block (?_)))
  refine T.any mixed 8 1 [8,7] rfl [.is _,.is _,.is _,.is _,.is _,.is _,.is _,.is (.int .i64 m)] [[],[],[],[1,2],[],[],[4,5],[3,6]] [none,none,none,none,none,none,none,some 0] [[],[],[],[1,2],[],[],[4,5],[1,2,3,4,5,6],[0,1,2,3,4,5,6,7],[0,1,2,3,4,5,6,7,8]] (ajW w9 b7 n k m) (fun _ _=>True) (by kernel_rfl) (by kernel_rfl) (by kernel_rfl) rfl trivial (Keep.drew _ _) ⟨fun c wx hx=>ObK.op rfl (O.move rfl ⟨⟨trivial,hx⟩,rfl⟩),
    fun c wx hx=>ObK.op rfl (O.move rfl ⟨⟨trivial,hx⟩,rfl⟩),
    fun c wx hx=>ObK.op rfl (O.move rfl ⟨⟨trivial,hx⟩,rfl⟩),
    fun c wx hx=>ObK.op rfl (O.GH (k:=k) runUnderlying31 sizeOf3 rfl rfl (by omega) (by omega) ⟨⟨trivial,hx⟩,rfl⟩),
    fun c wx hx=>ObK.op rfl (O.move rfl ⟨⟨trivial,hx⟩,rfl⟩),
    fun c wx hx=>ObK.op rfl (O.move rfl ⟨⟨trivial,hx⟩,rfl⟩),
    fun c wx hx=>ObK.op rfl (O.lq (m:=(k:Int)) runUnderlying31 sizeOf3 rfl rfl (by omega) (by omega) ⟨⟨trivial,hx⟩,rfl⟩),
    fun wx hx=>ObK.op rfl (O.XR (k:=m) (news:=List.replicate m (.int .i64 (-1))) runUnderlying31 sizeOf3 rfl rfl (Blk.ext hB9 hx) hmin (by simp) (N8 (Blk.ext hB9 hx) hm2) (by rw [tN hkn];omega) (by simp [Value.oneCell']) (fun w45 aad Yp=>⟨⟨trivial,_,hx,aad,by rw [← yI hm3];simpa using Yp⟩,rfl⟩)),
    trivial⟩ (fun w9 hI9=>?_)
  obtain ⟨W1,hE,hU,hC⟩:=hI9
  refine L.o (O.aI rfl rfl (by omega) (L.a rfl (L.nil (T.blk (T.again (k+m) (by omega) ⟨rfl,rfl,trivial⟩ ⟨by omega,hm3,hC,(hE9.trans hE).upd hU (.inr (by omega))⟩)))))
 refine L.nil (?_)
 have e:k=n:=by omega
 refine T.cf (T.exit rfl (T.q (L.m rfl (L.a rfl (L.nil (T.aU results57 rfl ⟨b7,rfl,by omega,by subst e;simpa [filled] using hB9,hE9⟩))))))
open Go Go.E RowKit
theorem yJ {α β:Type} (f:α→β):∀ (l:List α) (i:Nat),(l.eraseIdx i).map f=(l.map f).eraseIdx i
 | [],_=>by simp
 | _::_,0=>rfl
 | a::r,i+1=>by simp only [List.eraseIdx_cons_succ,List.map_cons,yJ f r i]
section maps
variable {α β:Type} [DecidableEq α] {kf:α→Value} {vf:β→Value} {kd:TypeDesc}
def Iu (kf:α→Value) (vf:β→Value) (w:World) (b:Nat) (kvs:List (α × β)):Prop :=
 ∃ es clock,w.heap[b]?=some (.map es clock)∧es.toList.map (fun e=>(e.key,e.val))=kvs.map fun p=>(kf p.1,vf p.2)
set_option linter.unusedSectionVars false
theorem Iu.keep {w w':World} {b:Nat} {kvs:List (α × β)} (h:Iu kf vf w b kvs) (k:Ext w w'):Iu kf vf w' b kvs:=by
 obtain ⟨es,c,h1,h2⟩:=h;exact ⟨es,c,k.blk (Nat.zero_le _) h1,h2⟩
theorem Iu.upd {w w':World} {b b':Nat} {kvs:List (α × β)} (h:Iu kf vf w b kvs) (k:Upd b' w w') (hne:b≠b'):Iu kf vf w' b kvs:=by
 obtain ⟨es,c,h1,h2⟩:=h;exact ⟨es,c,k.blk hne h1,h2⟩
theorem Iu.lt {w:World} {b:Nat} {kvs:List (α × β)} (h:Iu kf vf w b kvs):b<w.heap.size:=by
 obtain ⟨es,c,h1,h2⟩:=h;exact (Array.getElem?_eq_some_iff.1 h1).1
theorem GI:∀ (kvs:List (α × β)) (n:Nat),(gEs kf vf n kvs).map (fun e=>(e.key,e.val))=kvs.map fun p=>(kf p.1,vf p.2)
 | [],_=>rfl
 | p::r,n=>by simp only [gEs,List.map_cons,GI r (n+1)];rfl
theorem Iu.ajY {w:World} {b:Nat} {kvs:List (α × β)} (h:o9 kf vf w b kvs):Iu kf vf w b kvs:=⟨_,_,h,by simpa using GI kvs 0⟩
theorem GK (hK:Key kf kd) (k:α):∀ (kvs:List (α × β)) (es:List MapEntry) (i:Nat),es.map (fun e=>(e.key,e.val))=kvs.map (fun p=>(kf p.1,vf p.2))→Instr.findNow kd (kf k) es i=some ((dQ kvs k i).map (fun p=>(p.1,vf p.2)))
 | [],es,i,h=>by
  have:es = []:=by simpa using h
  subst this;rfl
 | p::r,es,i,h=>by
  cases es with
  | nil=>simp at h
  | cons e es =>
   simp only [List.map_cons,List.cons.injEq,Prod.mk.injEq] at h
   simp only [Instr.findNow,h.1.1,hK.same,dQ]
   by_cases hk:k=p.1
   ·simp [hk,h.1.2]
   simp [hk,GK hK k r es (i+1) h.2]
def Ag:List (α × β)→α→List (α × β)
 | [],_=>[]
 | p::r,k=>if k=p.1 then r else p::Ag r k
theorem LY:∀ (r:List (α × β)) (k:α) (n i:Nat) (v:β),dQ r k n=some (i,v)→n≤i
 | [],_,_,_,_,h=>by simp [dQ] at h
 | p::r,k,n,i,v,h=>by
  rw [dQ] at h
  by_cases hk:k=p.1
  ·rw [if_pos hk] at h;simp at h;omega
  rw [if_neg hk] at h;have:=LY r k (n+1) i v h;omega
theorem Bz:∀ (kvs:List (α × β)) (k:α) (n i:Nat) (v:β),dQ kvs k n=some (i,v)→Ag kvs k=kvs.eraseIdx (i-n)
 | [],_,_,_,_,h=>by simp [dQ] at h
 | p::r,k,n,i,v,h=>by
  rw [dQ] at h
  rw [Ag]
  by_cases hk:k=p.1
  ·rw [if_pos hk] at h ⊢
   simp at h
   obtain ⟨rfl,_⟩:=h
   simp
  rw [if_neg hk] at h ⊢
  have h1:=LY r k (n+1) i v h
  rw [Bz r k (n+1) i v h,show i-n=(i-(n+1))+1 by omega,List.eraseIdx_cons_succ]
theorem GL:∀ (kvs:List (α × β)) (k:α) (n:Nat),dQ kvs k n=none→Ag kvs k=kvs
 | [],_,_,_=>rfl
 | p::r,k,n,h=>by
  rw [dQ] at h
  rw [Ag]
  by_cases hk:k=p.1
  ·rw [if_pos hk] at h;cases h
  rw [if_neg hk] at h ⊢;rw [GL r k (n+1) h]
theorem yK:∀ (kvs:List (α × β)) (k:α),((Ag kvs k).map (·.1)).Sublist (kvs.map (·.1))
 | [],_=>.slnil
 | p::r,k=>by
  rw [Ag]
  by_cases hk:k=p.1
  ·rw [if_pos hk];exact .cons _ (List.Sublist.refl _)
  rw [if_neg hk];exact .cons_cons _ (yK r k)
theorem nC {kvs:List (α × β)} {k:α} (h:k∉kvs.map (·.1)):iG kvs k=none:=by
 induction kvs with
 | nil=>rfl
 | cons p r ih=>rw [fD,if_neg (fun e=>h (by rw [e];simp)),ih (fun e=>h (by simp only [List.map_cons];exact List.mem_cons_of_mem _ e))]
theorem wX:∀ (kvs:List (α × β)) (k k':α),(kvs.map (·.1)).Nodup→iG (Ag kvs k) k'=if k'=k then none else iG kvs k'
 | [],_,_,_=>by rw [Ag,KG];split <;> rfl
 | p::r,k,k',h=>by
  rw [List.map_cons,List.nodup_cons] at h
  rw [Ag,fD]
  by_cases hk:k=p.1
  ·rw [if_pos hk]
   by_cases e:k'=k
   ·rw [if_pos e,nC (by rw [e,hk];exact h.1)]
   rw [if_neg e,if_neg (by rw [← hk];exact e)]
  rw [if_neg hk,fD,wX r k k' h.2]
  by_cases e:k'=p.1
  ·rw [if_pos e,if_neg (by rw [e];exact fun x=>hk x.symm),if_pos e]
  rw [if_neg e,if_neg e]
theorem LZ:∀ (kvs:List (α × β)) (k:α) (v:β),iG kvs k=some v→(k,v)∈kvs
 | [],_,_,h=>by cases h
 | p::r,k,v,h=>by
  rw [fD] at h
  by_cases hk:k=p.1
  ·rw [if_pos hk] at h;cases h;subst hk;simp
  rw [if_neg hk] at h;exact List.mem_cons_of_mem _ (LZ r k v h)
theorem L6:∀ (kvs:List (α × β)) (k:α),(Ag kvs k).Sublist kvs
 | [],_=>.slnil
 | p::r,k=>by
  rw [Ag]
  by_cases hk:k=p.1
  ·rw [if_pos hk];exact .cons _ (List.Sublist.refl _)
  rw [if_neg hk];exact .cons_cons _ (L6 r k)
section ops
variable {C:Cx} {e:Env} {w:World} {K:Value→World→Prop} {d:Option Tmp} {ty:TypeId} {pos:String} {aft:Array Edge} {g:Option (Nat × Bool)}
variable {x y z:Operand} {t kt vt:TypeId}
theorem rD {P:Program} (hK:Key kf kd) (hk:P.underlying kt=some kd) (k:α) (kvs:List (α × β)) (es:List MapEntry) (he:es.map (fun e=>(e.key,e.val))=kvs.map fun p=>(kf p.1,vf p.2)) (w:World) :
  (Instr.findKey kt (kf k) es).run P w = .ok ((dQ kvs k 0).map (fun p=>(p.1,vf p.2))) w:=by
 simp [Instr.findKey,run_underlying hk,GK hK k kvs es 0 he]
theorem O.GN {b:Nat} {k:α} {z0:β} {kvs:List (α × β)} (hK:Key kf kd) (hu:∀ w,(underlying t).run C.P w = .ok (.map kt vt) w) (hk:∀ w,(underlying kt).run C.P w = .ok kd w) (hz:∀ w,(zeroValue vt).run C.P w = .ok (vf z0) w)
  (hx:ev e x=some (.map (some b))) (hy:ev e y=some (kf k)) (hm:Iu kf vf w b kvs) (h:K (.tuple #[vf ((iG kvs k).getD z0),.bool (iG kvs k).isSome]) w):O C e ⟨d,.lookup t x y true,ty,pos,aft,g⟩ w K:=by
 obtain ⟨es,cl,hm,he⟩:=hm
 refine O.of_run (by simp) (fun a ha=>?_) h
 have hf:=rD (vf:=vf) hK (aO hk) k kvs es.toList he w
 cases hc:dQ kvs k 0 with
 | none=>rw [hc] at hf;simp [execOp,Instr.lookup,ha.eval hx,ha.eval hy,hu w,MapKept.run_getObj_map hm,hK.check _ _ _ _ _ (aO hk),hf,hz w,iG,hc]
 | some p=>rw [hc] at hf;simp [execOp,Instr.lookup,ha.eval hx,ha.eval hy,hu w,MapKept.run_getObj_map hm,hK.check _ _ _ _ _ (aO hk),hf,iG,hc]
theorem O.Y5 {b:Nat} {k:α} {kvs:List (α × β)} {t2:TypeId} (hK:Key kf kd) (hu:∀ w,(underlying t).run C.P w = .ok (.map kt vt) w) (hk:∀ w,(underlying kt).run C.P w = .ok kd w)
  (hx:ev e x=some (.map (some b))) (hy:ev e y=some (kf k)) (hm:Iu kf vf w b kvs) (h:∀ w',Upd b w w'→Iu kf vf w' b (Ag kvs k)→K (.tuple #[]) w'):O C e ⟨d,.call { callee:=.builtin .delete,args:=#[x,y],argTypes:=#[t,t2] },ty,pos,aft,g⟩ w K:=by
 have hlt:=hm.lt
 obtain ⟨es,cl,hm,he⟩:=hm
 have hf:=rD (vf:=vf) hK (aO hk) k kvs es.toList he w
 cases hc:dQ kvs k 0 with
 | none =>
  rw [hc] at hf
  refine O.of_run (w':={ w with heap:=w.heap.setIfInBounds b (.map es cl) }) (v:=.tuple #[]) (by simp) (fun a ha=>?_) (h _ (aQ w b _) ⟨es,cl,by simp [Array.getElem?_setIfInBounds_self,hlt],by rw [GL _ _ _ hc];exact he⟩)
  simp [execOp,resolve,invoke,builtin,Builtin.delete_,ha.eval hx,ha.eval hy,hu w,MapKept.run_getObj_map hm,hK.check _ _ _ _ _ (aO hk),hf,MapKept.run_setObj_map _ hm]
 | some p =>
  rw [hc] at hf
  have hd:=Bz kvs k 0 p.1 p.2 hc
  rw [Nat.sub_zero] at hd
  have hlen:es.toList.length=kvs.length:=by simpa using congrArg List.length he
  refine O.of_run (w':={ w with heap:=w.heap.setIfInBounds b (.map (es.eraseIdxIfInBounds p.1) cl) }) (v:=.tuple #[]) (by simp) (fun a ha=>?_) (h _ (aQ w b _) ⟨es.eraseIdxIfInBounds p.1,cl,by simp [Array.getElem?_setIfInBounds_self,hlt],?_⟩)
  ·simp [execOp,resolve,invoke,builtin,Builtin.delete_,ha.eval hx,ha.eval hy,hu w,MapKept.run_getObj_map hm,hK.check _ _ _ _ _ (aO hk),hf,MapKept.run_setObj_map _ hm]
  rw [hd,Array.toList_eraseIdxIfInBounds,yJ,yJ,he]
end ops
end maps
open Go Go.E RowKit
section
variable {C:Cx} {e:Env} {w:World} {K:Value→World→Prop} {d:Option Tmp} {ty tx ty':TypeId} {pos:String} {aft:Array Edge} {g:Option (Nat × Bool)} {x y:Operand} {m n:Int}
theorem O.ajZ (hx:ev e x=some (.int .u8 m)) (hy:ev e y=some (.int .u8 n)) (hb:0≤m-n∧m-n≤255) (h:K (.int .u8 (m-n)) w):O C e ⟨d,.binOp .sub tx x y ty',ty,pos,aft,g⟩ w K :=
 O.sub hx hy (by rw [IntWalk.u8_in _ hb];exact h)
end
abbrev nV (i:Nat):Value:=.int .i64 i
def oI:Str:=[117,110,105,116,44,100,105,115,116,114,105,99,116]
abbrev AsT:=Bool × List (Str × Nat) × List Int
def aao (b:Str):Prop:=b.length=1∧49≤(b.getD 0 0).toNat∧(b.getD 0 0).toNat≤56
instance (b:Str):Decidable (aao b):=by unfold aao;infer_instance
def kN:AsT→Str→Option AsT
 | (true,kv,pl),l=>if l=oI then some (false,kv,pl) else none
 | (false,kv,pl),l=>match iG kv (Lib.cut l [44]).1 with
  | none=>none
  | some i=>if aao (Lib.cut l [44]).2.1 then some (false,Ag kv (Lib.cut l [44]).1,pl.set i ((((Lib.cut l [44]).2.1.getD 0 0).toNat-49:Nat):Int)) else none
structure AsI (w0:World) (bh bm bv bp bs n cap:Nat) (s:AsT) (S:Nat→Prop) (W:World):Prop where
 e:Ext w0 W
 h:Blk W bh [.bool s.1] 4
 v:Blk W bv [.map (some bm)] 171
 m:Iu str nV W bm s.2.1
 p:Blk W bp [.slice (some ⟨bs,0,none⟩) n cap] 31
 c:∃ cur,Blk W bs cur 3∧cur.length=cap∧cur.take n=s.2.2.map (.int .i64)
 len:s.2.2.length=n
 cp:n≤cap∧cap≤maxLen
 kv:∀ p∈s.2.1,p.2<n
 o:w0.heap.size≤bp∧bp<bm∧bm<bv∧bv<bs∧bs<bh
 S:∀ k,S k→k≠bh∧k≠bv∧k≠bm∧k≠bp∧k≠bs∧w0.heap.size≤k∧k<W.heap.size
section
variable {w0:World} {bh bm bv bp bs n cap:Nat} {s:AsT} {S:Nat→Prop} {W:World}
theorem AsI.ext (h:AsI w0 bh bm bv bp bs n cap s S W) {W':World} (k:Ext W W'):AsI w0 bh bm bv bp bs n cap s S W':=by
 obtain ⟨cur,h1,h2,h3⟩:=h.c
 exact ⟨h.e.trans k,Blk.ext (cs:=[.bool s.1]) h.h k,Blk.ext (cs:=[.map (some bm)]) h.v k,h.m.keep k,Blk.ext (cs:=[.slice (some ⟨bs,0,none⟩) n cap]) h.p k,⟨cur,Blk.ext h1 k,h2,h3⟩,h.len,h.cp,h.kv,h.o,fun j hj=>by obtain ⟨a1,a2,a3,a4,a5,a6,a7⟩:=h.S j hj;exact ⟨a1,a2,a3,a4,a5,a6,Nat.lt_of_lt_of_le a7 k.size⟩⟩
theorem AsI.upd (h:AsI w0 bh bm bv bp bs n cap s S W) {W':World} {b:Nat} (k:Upd b W W') (h1:b≠bh∧b≠bv∧b≠bm∧b≠bp∧b≠bs) (hl:w0.heap.size≤b):AsI w0 bh bm bv bp bs n cap s S W':=by
 obtain ⟨cur,c1,c2,c3⟩:=h.c
 obtain ⟨a1,a2,a3,a4,a5⟩:=h1
 exact ⟨h.e.upd k (.inr hl),Blk.upd (cs:=[.bool s.1]) h.h k a1.symm,Blk.upd (cs:=[.map (some bm)]) h.v k a2.symm,h.m.upd k a3.symm,Blk.upd (cs:=[.slice (some ⟨bs,0,none⟩) n cap]) h.p k a4.symm,⟨cur,Blk.upd c1 k a5.symm,c2,c3⟩,h.len,h.cp,h.kv,h.o,fun j hj=>by obtain ⟨a1,a2,a3,a4,a5,a6,a7⟩:=h.S j hj;exact ⟨a1,a2,a3,a4,a5,a6,by rw [k.size];exact a7⟩⟩
theorem AsI.FH:zU (AsI w0 bh bm bv bp bs n cap):=by
 refine ⟨fun i S S' W W' h k hS=>?_,fun i S W W' b h hb k=>?_⟩
 ·have h':=h.ext k
  refine { h' with S:=fun k hk=>?_ }
  rcases hS k hk with h1|⟨h1,h2⟩
  ·exact h'.S k h1
  have l1:=Blk.lt (cs:=[.bool i.1]) h.h
  have:=h.o
  have:=h.e.size
  refine ⟨?_,?_,?_,?_,?_,?_,?_⟩ <;> omega
 obtain ⟨a1,a2,a3,a4,a5,a6,_⟩:=h.S b hb
 exact h.upd k ⟨a1,a2,a3,a4,a5⟩ a6
end
theorem JI (w0:World) (bh bm bv bp bs n cap:Nat) (kv:List (Str × Nat)) (pl:List Int) (S:Nat→Prop) (w:World) (hI:AsI w0 bh bm bv bp bs n cap (true,kv,pl) S w) :
  Calls Tryz.prog 107 #[str oI,.pointer (some ⟨bh,0,none⟩),.pointer (some ⟨bv,0,none⟩),.pointer (some ⟨bp,0,none⟩)] w (Ret fun v w'=>AsI w0 bh bm bv bp bs n cap (false,kv,pl) S w'∧∀ k,S k→w'.heap[k]?=w.heap[k]?):=by
 refine T.enter (vs:=[str oI,.pointer (some ⟨bh,0,none⟩),.pointer (some ⟨bv,0,none⟩),.pointer (some ⟨bp,0,none⟩)]) func107 rfl ntmps107 rfl ?_
 refine T.seq (T.q (L.o (O.load isAgg4 rfl (hI.h.cell rfl) (L.nil (T.ct (T.q (L.m rfl (L.o (O.aX runUnderlying9 rfl rfl rfl (L.o (O.call (xs:=[.tmp 12]) call108 rfl rfl (dK w) (fun v1 w1 hq=>?_))))))))))))
 obtain rfl:=hq
 refine L.nil (T.q (L.o (O.store1 sizeOf4 rfl rfl rfl hI.h (by simp [Value.cells]) (fun w2 hu2 hB2=>?_))))
 refine L.nil (T.ac4 results107 ⟨?_,fun k hk=>hu2.block k (hI.S k hk).1⟩)
 obtain ⟨cur,c1,c2,c3⟩:=hI.c
 have ho:=hI.o
 exact ⟨hI.e.upd hu2 (.inr (by omega)),hB2,Blk.upd (cs:=[.map (some bm)]) hI.v hu2 (by omega),hI.m.upd hu2 (by omega),Blk.upd (cs:=[.slice (some ⟨bs,0,none⟩) n cap]) hI.p hu2 (by omega),⟨cur,Blk.upd c1 hu2 (by omega),c2,c3⟩,hI.len,hI.cp,hI.kv,hI.o,fun j hj=>by rw [hu2.size];exact hI.S j hj⟩
theorem N9 (w0:World) (bh bm bv bp bs n cap:Nat) (kv:List (Str × Nat)) (pl:List Int) (S:Nat→Prop) (l:Str) (w:World) (hI:AsI w0 bh bm bv bp bs n cap (true,kv,pl) S w) (hl:l≠oI) :
  Calls Tryz.prog 107 #[str l,.pointer (some ⟨bh,0,none⟩),.pointer (some ⟨bv,0,none⟩),.pointer (some ⟨bp,0,none⟩)] w (Pan (bQ) fun w'=>Ext w w'):=by
 refine T.fP (vs:=[str l,.pointer (some ⟨bh,0,none⟩),.pointer (some ⟨bv,0,none⟩),.pointer (some ⟨bp,0,none⟩)]) func107 rfl ntmps107 rfl ?_
 refine T.seq (T.q (L.o (O.load isAgg4 rfl (hI.h.cell rfl) (L.nil (T.ct (T.q (L.m rfl (L.o (O.aA runUnderlying9 rfl rfl hl (L.bJ (xs:=[.tmp 12]) rfl call108 rfl rfl (dG w) (fun w' a hR ha=>⟨ha.defers,rfl,by rw [hR];exact Keep.refl _ _⟩)))))))))))
theorem XT {w:World} {b n cap:Nat} {cs:List Value} {t:TypeId} (h:Blk w b cs t) (hl:cs.length=cap) (hc:n≤cap) (hm:cap≤maxLen):Sl 0 w (.slice (some ⟨b,0,none⟩) n cap) n 1 (cs.take n) :=
 ⟨by rw [List.length_take];omega,some ⟨b,0,none⟩,cap,rfl,hc,hm,.inr ⟨_,rfl,Nat.zero_le _,(Row.ay h).take n⟩⟩
theorem take_set {α:Type} : ∀ (l:List α) (n i:Nat) (x:α),i<n→(l.set i x).take n=(l.take n).set i x
 | [],n,i,x,_=>by simp
 | a::r,0,i,x,h=>absurd h (Nat.not_lt_zero _)
 | a::r,n+1,0,x,_=>rfl
 | a::r,n+1,i+1,x,h=>by simp only [List.set_cons_succ,List.take_succ_cons,take_set r n i x (by omega)]
theorem JJ (w0:World) (bh bm bv bp bs n cap:Nat) (kv:List (Str × Nat)) (pl:List Int) (S:Nat→Prop) (l:Str) (i:Nat) (w:World) (hI:AsI w0 bh bm bv bp bs n cap (false,kv,pl) S w) (hL:jc w) (hll:l.length≤100000) (hg:iG kv (Lib.cut l [44]).1=some i) (hd:aao (Lib.cut l [44]).2.1) :
  Calls Tryz.prog 107 #[str l,.pointer (some ⟨bh,0,none⟩),.pointer (some ⟨bv,0,none⟩),.pointer (some ⟨bp,0,none⟩)] w (Ret fun v w'=>AsI w0 bh bm bv bp bs n cap (false,Ag kv (Lib.cut l [44]).1,pl.set i ((((Lib.cut l [44]).2.1.getD 0 0).toNat-49:Nat):Int)) S w'∧∀ k,S k→w'.heap[k]?=w.heap[k]?):=by
 refine T.enter (vs:=[str l,.pointer (some ⟨bh,0,none⟩),.pointer (some ⟨bv,0,none⟩),.pointer (some ⟨bp,0,none⟩)]) func107 rfl ntmps107 rfl ?_
 refine T.seq (T.q (L.o (O.load isAgg4 rfl (hI.h.cell rfl) (L.nil (T.cf (T.skip (T.q (L.m rfl (L.o (O.call (xs:=[.tmp 15,_]) call109 rfl rfl (qY l [44] w hL (by omega)) (fun v1 w1 hq=>?_)))))))))))
 obtain ⟨rfl,he1⟩:=hq
 have hI1:=hI.ext he1
 generalize hab:Lib.cut l [44]=ab at hg hd ⊢
 obtain ⟨a,b,fd⟩:=ab
 simp only at hg hd ⊢
 refine L.m rfl (L.o (O.extract rfl rfl (L.o (O.extract rfl rfl (L.o (O.extract rfl rfl (L.a rfl (L.a rfl (L.a rfl (L.nil (T.q (L.o (O.load isAgg171 rfl (hI1.v.cell rfl) (L.m rfl (L.o (O.GN (kf:=str) (vf:=nV) (z0:=0) iW runUnderlying171 runUnderlying9 zeroValue3 rfl rfl hI1.m (?_)))))))))))))))))
 rw [hg,Option.getD_some]
 have hin:i<n:=hI.kv (a,i) (LZ _ _ _ hg)
 refine L.m rfl (L.o (O.extract rfl rfl (L.o (O.extract rfl rfl (L.a rfl (L.a rfl (L.nil (T.q (L.m rfl (L.m rfl (L.m rfl (L.o (O.gu runUnderlying9 rfl (L.o (O.iF rfl rfl (by have:=hd.1;omega) (L.o (O.ah rfl rfl (L.m rfl (L.m rfl (L.o (O.jf runUnderlying9 rfl rfl (by decide) (show 0<b.length by have:=hd.1;omega) (L.o (O.IE rfl rfl (by have:=hd.2.1;show (49:Int)≤((b.getD 0 0).toNat:Int);omega) (L.o (O.ah rfl rfl (L.m rfl (L.m rfl (L.o (O.jf runUnderlying9 rfl rfl (by decide) (show 0<b.length by have:=hd.1;omega) (L.o (O.aaA rfl rfl (by have:=hd.2.2;show ((b.getD 0 0).toNat:Int)≤56;omega) (L.o (O.ah rfl rfl (?_))))))))))))))))))))))))))))))))))
 refine L.o (O.call (xs:=[.tmp 41]) call108 rfl rfl (dK w1) (fun v2 w2 hq=>?_))
 obtain rfl:=hq
 refine L.nil (T.q (L.o (O.load isAgg171 rfl (hI1.v.cell rfl) (L.m rfl (L.o (O.Y5 (kf:=str) (vf:=nV) iW runUnderlying171 runUnderlying9 rfl rfl hI1.m (fun w3 hu3 hM3=>?_)))))))
 obtain ⟨cur,c1,c2,c3⟩:=hI1.c
 have ho:=hI1.o
 have hP3:=Blk.upd (cs:=[.slice (some ⟨bs,0,none⟩) n cap]) hI1.p hu3 (by omega)
 have hC3:Blk w3 bs cur 3:=Blk.upd c1 hu3 (by omega)
 refine L.nil (?_)
 refine T.fJ mixed 6 [3,8,6] rfl [.is _,.is _,.is _,.is _,.is _,.is _] [[],[],[],[2],[3],[4]] [[],[],[],[2],[2,3],[2,3,4],[0,1,2,3,4,5],[0,1,2,3,4,5,6]] (by kernel_rfl) (by kernel_rfl) rfl (by kernel_rfl) trivial ⟨fun wx hx=>Ob.o (O.load isAgg31 rfl ((Blk.ext (cs:=[.slice (some ⟨bs,0,none⟩) n cap]) hP3 hx).cell rfl) kR),
   fun wx hx=>Ob.o (O.move rfl kR),
   fun wx hx=>Ob.o (O.move rfl kR),
   fun wx hx=>Ob.o (O.jf runUnderlying9 rfl rfl (by decide) (show 0<b.length by have:=hd.1;omega) kR),
   fun wx hx=>Ob.o (O.ajZ rfl rfl ⟨by have:=hd.2;show (0:Int)≤((b.getD 0 0).toNat:Int)-49;omega,by have:=hd.2;show ((b.getD 0 0).toNat:Int)-49≤255;omega⟩ kR),
   fun wx hx=>Ob.o (O.fC rfl (fun w=>⟨_,runUnderlying5 w⟩) runUnderlying3 (IntWalk.i64_in _ ⟨by have:=hd.2;show _≤((b.getD 0 0).toNat:Int)-49;omega,by have:=hd.2;show ((b.getD 0 0).toNat:Int)-49≤_;omega⟩) kR),
   trivial⟩ (fun w7 he7=>?_)
 refine L.o (O.indexAddr runUnderlying31 sizeOf3 rfl rfl (XT (Blk.ext hC3 he7) c2 hI1.cp.1 hI1.cp.2) (by omega) (by omega) (?_))
 have hic:i<cur.length:=by have:=hI1.cp.1;omega
 refine L.o (O.bD sizeOf3 rfl rfl rfl (Blk.ext hC3 he7) (by show 0+(i:Int).toNat*1<_;omega) (fun w9 hu9 hB9=>?_))
 rw [show 0+(i:Int).toNat*1=i by omega] at hB9
 have hv:((b.getD 0 0).toNat:Int)-49=(((b.getD 0 0).toNat-49:Nat):Int):=by have:=hd.2.1;omega
 have aj0:Blk w9 bs (cur.set i (.int .i64 (((b.getD 0 0).toNat-49:Nat):Int))) 3:=by rw [← hv];exact hB9
 refine L.nil (T.Po results107 ⟨?_,fun k hk=>?_⟩)
 ·have hE:Ext w0 w7:=(hI1.e.upd hu3 (.inr (by omega))).trans he7
  exact ⟨hE.upd hu9 (.inr (by omega)),Blk.upd (cs:=[.bool false]) (Blk.ext (cs:=[.bool false]) (Blk.upd (cs:=[.bool false]) hI1.h hu3 (by omega)) he7) hu9 (by omega),Blk.upd (cs:=[.map (some bm)]) (Blk.ext (cs:=[.map (some bm)]) (Blk.upd (cs:=[.map (some bm)]) hI1.v hu3 (by omega)) he7) hu9 (by omega),(hM3.keep he7).upd hu9 (by omega),Blk.upd (cs:=[.slice (some ⟨bs,0,none⟩) n cap]) (Blk.ext (cs:=[.slice (some ⟨bs,0,none⟩) n cap]) hP3 he7) hu9 (by omega),⟨_,aj0,by simpa using c2,by rw [take_set _ _ _ _ hin,c3,List.map_set]⟩,by simpa using hI1.len,hI1.cp,fun p hp=>hI1.kv p ((L6 kv a).subset hp),hI1.o,fun j hj=>by obtain ⟨a1,a2,a3,a4,a5,a6,a7⟩:=hI1.S j hj;have:=hu3.size;have:=he7.size;have:=hu9.size;refine ⟨a1,a2,a3,a4,a5,a6,?_⟩;omega⟩
 obtain ⟨a1,a2,a3,a4,a5,a6,a7⟩:=hI.S k hk
 have:=he1.size
 have:=hu3.size
 exact (hu9.block k a5).trans ((he7.block k (Nat.zero_le _) (by omega)).trans ((hu3.block k a3).trans (he1.block k (Nat.zero_le _) a7)))
theorem Oa (w0:World) (bh bm bv bp bs n cap:Nat) (kv:List (Str × Nat)) (pl:List Int) (S:Nat→Prop) (l:Str) (w:World) (hI:AsI w0 bh bm bv bp bs n cap (false,kv,pl) S w) (hL:jc w) (hll:l.length≤100000) (hno:kN (false,kv,pl) l=none) :
  Calls Tryz.prog 107 #[str l,.pointer (some ⟨bh,0,none⟩),.pointer (some ⟨bv,0,none⟩),.pointer (some ⟨bp,0,none⟩)] w (Pan (bQ) fun w'=>Ext w w'):=by
 refine T.fP (vs:=[str l,.pointer (some ⟨bh,0,none⟩),.pointer (some ⟨bv,0,none⟩),.pointer (some ⟨bp,0,none⟩)]) func107 rfl ntmps107 rfl ?_
 refine T.seq (T.q (L.o (O.load isAgg4 rfl (hI.h.cell rfl) (L.nil (T.cf (T.skip (T.q (L.m rfl (L.o (O.call (xs:=[.tmp 15,_]) call109 rfl rfl (qY l [44] w hL (by omega)) (fun v1 w1 hq=>?_)))))))))))
 obtain ⟨rfl,he1⟩:=hq
 have hI1:=hI.ext he1
 simp only [kN] at hno
 generalize hab:Lib.cut l [44]=ab at hno ⊢
 obtain ⟨a,b,fd⟩:=ab
 simp only at hno ⊢
 refine L.m rfl (L.o (O.extract rfl rfl (L.o (O.extract rfl rfl (L.o (O.extract rfl rfl (L.a rfl (L.a rfl (L.a rfl (L.nil (T.q (L.o (O.load isAgg171 rfl (hI1.v.cell rfl) (L.m rfl (L.o (O.GN (kf:=str) (vf:=nV) (z0:=0) iW runUnderlying171 runUnderlying9 zeroValue3 rfl rfl hI1.m (?_)))))))))))))))))
 rcases hg:iG kv a with _|i
 ·refine L.m rfl (L.o (O.extract rfl rfl (L.o (O.extract rfl rfl (L.a rfl (L.a rfl (L.nil (T.q (L.m rfl (L.m rfl (L.p (L.p (L.p (L.o (O.aj rfl rfl (L.m rfl (L.p (L.p (L.p (L.o (O.aj rfl rfl (L.m rfl (L.p (L.p (L.p (L.o (O.aj rfl rfl (?_))))))))))))))))))))))))))))
  refine L.bJ (xs:=[.tmp 41]) rfl call108 rfl rfl (dG w1) (fun w' a hR ha=>⟨ha.defers,rfl,by rw [hR];exact he1⟩)
 rw [hg] at hno
 simp only at hno
 have hd:¬ aao b:=fun h=>by rw [if_pos h] at hno;cases hno
 refine L.m rfl (?_)
 rcases Classical.em (b.length=1) with h1|h1
 ·refine L.o (O.extract rfl rfl (?_))
  rcases Classical.em (49≤(b.getD 0 0).toNat) with h2|h2
  ·have h3:¬ (b.getD 0 0).toNat≤56:=fun h=>hd ⟨h1,h2,h⟩
   refine L.o (O.extract rfl rfl (L.a rfl (L.a rfl (L.nil (T.q (L.m rfl (L.m rfl (L.m rfl (L.o (O.gu runUnderlying9 rfl (L.o (O.iF rfl rfl (by omega) (L.o (O.ah rfl rfl (L.m rfl (L.m rfl (L.o (O.jf runUnderlying9 rfl rfl (by decide) (show 0<b.length by omega) (L.o (O.IE rfl rfl (by show (49:Int)≤((b.getD 0 0).toNat:Int);omega) (L.o (O.ah rfl rfl (L.m rfl (L.m rfl (L.o (O.jf runUnderlying9 rfl rfl (by decide) (show 0<b.length by omega) (L.o (O.aaB rfl rfl (by show ¬ ((b.getD 0 0).toNat:Int)≤56;omega) (L.o (O.ah rfl rfl (L.bJ (xs:=[.tmp 41]) rfl call108 rfl rfl (dG w1) (fun w' a hR ha=>⟨ha.defers,rfl,by rw [hR];exact he1⟩))))))))))))))))))))))))))))))))
  refine L.o (O.extract rfl rfl (L.a rfl (L.a rfl (L.nil (T.q (L.m rfl (L.m rfl (L.m rfl (L.o (O.gu runUnderlying9 rfl (L.o (O.iF rfl rfl (by omega) (L.o (O.ah rfl rfl (L.m rfl (L.m rfl (L.o (O.jf runUnderlying9 rfl rfl (by decide) (show 0<b.length by omega) (L.o (O.Pq rfl rfl (by show ¬ (49:Int)≤((b.getD 0 0).toNat:Int);omega) (L.o (O.ah rfl rfl (L.m rfl (L.p (L.p (L.p (L.o (O.aj rfl rfl (L.bJ (xs:=[.tmp 41]) rfl call108 rfl rfl (dG w1) (fun w' a hR ha=>⟨ha.defers,rfl,by rw [hR];exact he1⟩))))))))))))))))))))))))))))))
 refine L.o (O.extract rfl rfl (L.o (O.extract rfl rfl (L.a rfl (L.a rfl (L.nil (T.q (L.m rfl (L.m rfl (L.m rfl (L.o (O.gu runUnderlying9 rfl (L.o (O.gX rfl rfl (by omega) (L.o (O.ah rfl rfl (L.m rfl (L.p (L.p (L.p (L.o (O.aj rfl rfl (L.m rfl (L.p (L.p (L.p (L.o (O.aj rfl rfl (L.bJ (xs:=[.tmp 41]) rfl call108 rfl rfl (dG w1) (fun w' a hR ha=>⟨ha.defers,rfl,by rw [hR];exact he1⟩))))))))))))))))))))))))))))))
theorem afk (w0:World) (bh bm bv bp bs n cap:Nat) (hL:jc w0):DoC 107 #[] #[.pointer (some ⟨bh,0,none⟩),.pointer (some ⟨bv,0,none⟩),.pointer (some ⟨bp,0,none⟩)] kN (fun _ _=>True) (AsI w0 bh bm bv bp bs n cap) (fun S W=>Ext w0 W∧∀ k,S k→w0.heap.size≤k∧k<W.heap.size):=by
 rintro ⟨hd,kv,pl⟩ S W l _ _ _ hI hl
 have hLW:jc W:=hL.ext hI.e
 have fin:∀ {W':World},Ext W W'→(Ext w0 W'∧∀ k,S k→w0.heap.size≤k∧k<W'.heap.size)∧∀ k,S k→W'.heap[k]?=W.heap[k]?:=fun k=>⟨⟨hI.e.trans k,fun j hj=>by have:=(hI.S j hj).2.2.2.2.2;exact ⟨this.1,Nat.lt_of_lt_of_le this.2 k.size⟩⟩,fun j hj=>k.block j (Nat.zero_le _) (hI.S j hj).2.2.2.2.2.2⟩
 cases hd with
 | true =>
  by_cases e:l=oI
  ·subst e
   refine ⟨fun s' hs=>?_,fun hs=>by simp [kN] at hs⟩
   simp only [kN,if_true,Option.some.injEq] at hs
   subst hs
   exact JI w0 bh bm bv bp bs n cap kv pl S W hI
  refine ⟨fun s' hs=>by simp [kN,e] at hs,fun _=>?_⟩
  refine (N9 w0 bh bm bv bp bs n cap kv pl S l W hI e).mono ?_
  rintro (_|_|_) W' h <;> first|exact ⟨h.1,fin h.2⟩|exact h
 | false =>
  refine ⟨fun s' hs=>?_,fun hs=>?_⟩
  ·simp only [kN] at hs
   cases hg:iG kv (Lib.cut l [44]).1 with
   | none=>rw [hg] at hs;cases hs
   | some i =>
    rw [hg] at hs
    simp only at hs
    by_cases hd:aao (Lib.cut l [44]).2.1
    ·rw [if_pos hd] at hs
     cases hs
     exact JJ w0 bh bm bv bp bs n cap kv pl S l i W hI hLW hl hg hd
    rw [if_neg hd] at hs;cases hs
  refine (Oa w0 bh bm bv bp bs n cap kv pl S l W hI hLW hl hs).mono ?_
  rintro (_|_|_) W' h <;> first|exact ⟨h.1,fin h.2⟩|exact h
end Go.Proofs.YtnlonpcbgjbbaaaGreatDoor
