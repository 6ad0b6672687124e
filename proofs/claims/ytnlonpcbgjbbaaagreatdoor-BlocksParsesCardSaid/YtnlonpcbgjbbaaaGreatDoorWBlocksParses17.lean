/-
  BlocksParses, part 17 of its proof: that it returns true for every input, and each argument reads behind the call as it read before. Conditions: the listed variables read as the program's text lays them (tied by the card).
-/
import Derived.Test.YtnlonpcbgjbbaaaGreatDoorWBlocksParses3
import Derived.Test.YtnlonpcbgjbbaaaGreatDoorWBlocksParses2
import Derived.Stop.IfaceNil
import Derived.Stop.Asserts
import Derived.Test.YtnlonpcbgjbbaaaGreatDoorWBlocksParses16
set_option linter.unusedVariables false
set_option linter.unusedSimpArgs false
set_option maxRecDepth 20000
set_option linter.unusedSectionVars false
namespace Go.Proofs.YtnlonpcbgjbbaaaGreatDoor
open Go.Proofs.Tryz
open Go Go.E RowKit
attribute [local irreducible] Go.E.T Go.E.L Go.E.O Go.E.Ob
variable {cs:List Value} {b k n:Nat} {P:Program} {t:TypeId} {v:Value} {w w':World}
theorem of_same {f:FuncId} {args:Array Value} (h:Calls P f args w fun e w'=>e = .returned v∧w'=w):Calls P f args w (Ret fun a w'=>a=v∧w'=w) :=
 h.mono (by rintro e w' ⟨rfl,hb⟩;exact ⟨rfl,hb⟩)
theorem DT (w:World):∀ n,Ext w (w.drewN n)
 | 0=>Keep.refl _ _
 | n+1=>(DT w n).trans (Keep.drew _ _)
theorem ZJ {f:FuncId} {args:Array Value} (h:Calls P f args w fun e w'=>e = .returned v∧∃ n,w'=w.drewN n):Calls P f args w (Ret fun a w'=>a=v∧Ext w w') :=
 h.mono (by rintro e w' ⟨rfl,n,rfl⟩;exact ⟨rfl,DT _ _⟩)
theorem ZK (w:World) (os:Array Obj):Ext w (Sort.grow w os):=⟨rfl,rfl,rfl,by simp [Sort.grow],fun k _ a=>by simp [Sort.grow,Array.getElem?_append_left a]⟩
theorem acT {f:FuncId} {args:Array Value} (h:Calls P f args w fun e w'=>e = .returned v∧∃ k os,w'=Sort.grow (w.drewN k) os):Calls P f args w (Ret fun a w'=>a=v∧Ext w w') :=
 h.mono (by rintro e w' ⟨rfl,k,os,rfl⟩;exact ⟨rfl,(DT _ _).trans (ZK _ _)⟩)
theorem Ext.DV {w0:World} (h:Ext w0 w) (k:Below w0.heap.size w w'):Ext w0 w' :=
 ⟨k.os.trans h.os,k.tape.trans h.tape,k.output.trans h.output,Nat.le_trans h.size k.size,fun b h0 hb=>(k.block b hb).trans (h.block b h0 hb)⟩
structure sF (w:World):Prop where
 pow : Lib.TabIs Tryz.prog w "internal/strconv.uint64pow10" .u64 Lib.pow10Tab
 mx:∃ m:Int,w.cell? ⟨0,0,none⟩=some (.int .i64 m)
 es : ∃ t p, w.var? Tryz.prog "strconv.ErrSyntax" = some #[.iface t p]
 er : ∃ t p, w.var? Tryz.prog "strconv.ErrRange" = some #[.iface t p]
theorem Xc {nm:String} {cs:Array Value} (h:w.var? P nm=some cs) (k:Ext w w'):w'.var? P nm=some cs:=by
 unfold World.var? at h ⊢
 revert h
 cases P.globalNamed nm with
 | none=>exact id
 | some g =>
  intro h
  have a:g<w.heap.size:=by
   rcases Nat.lt_or_ge g w.heap.size with b|b
   ·exact b
   simp [Array.getElem?_eq_none b] at h
  simpa [k.block g lzX a] using h
theorem sF.ext (h:sF w) (k:Ext w w'):sF w':=by
 refine ⟨?_,?_,?_,?_⟩
 ·have:=h.pow
  unfold Lib.TabIs World.var? at this ⊢
  revert this
  cases Tryz.prog.globalNamed "internal/strconv.uint64pow10" with
  | none=>exact id
  | some g =>
   intro this
   have b:g<w.heap.size:=by
    rcases Nat.lt_or_ge g w.heap.size with c|c
    ·exact c
    simp [Array.getElem?_eq_none c] at this
   simpa [k.block g lzX b] using this
 ·obtain ⟨m,a⟩:=h.mx;exact ⟨m,k.cell lzX a⟩
 ·obtain ⟨t,p,a⟩:=h.es;exact ⟨t,p,Xc a k⟩
 obtain ⟨t,p,a⟩:=h.er;exact ⟨t,p,Xc a k⟩
section ops
variable {C:Cx} {e:Env} {w:World} {K:Value→World→Prop} {d:Option Tmp} {ty:TypeId} {pos:String} {aft:Array Edge} {g:Option (Nat × Bool)} {x y z:Operand} {t tx ty' src dst el:TypeId}
theorem FQ (a:C.P.concrete t=true) (hx:ev e x=some v) (h:K (.iface t v) w):O C e ⟨d,.makeInterface t x,ty,pos,aft,g⟩ w K :=
 bD spX (fun ac b=>by simp [execOp,b.eval hx,run_makeInterface w t v a]) h
theorem zK {u:TypeId} (hi:C.P.isIface tx=true) (hx:ev e x=some (.iface u v)) (hy:ev e y=some .nilIface) (h:K (.bool false) w):O C e ⟨d,.binOp .eql tx x y ty',ty,pos,aft,g⟩ w K :=
 bD spX (fun ac a=>by simp [execOp,a.eval hx,a.eval hy,eqGuard,run_eql_iface_nil w tx hi u v]) h
theorem qj (hi:C.P.isIface tx=true) (hx:ev e x=some .nilIface) (h:K (.bool true) w):O C e ⟨d,.binOp .eql tx x (.const .nilIface) ty',ty,pos,aft,g⟩ w K :=
 bD spX (fun ac a=>by simp [execOp,a.eval hx,(show ac.eval (.const .nilIface) = .nilIface from rfl),eqGuard,run_eql_nil_nil_at w tx hi]) h
theorem yH {u:TypeId} (hi:C.P.isIface tx=true) (hx:ev e x=some (.iface u v)) (hy:ev e y=some .nilIface) (h:K (.bool true) w):O C e ⟨d,.binOp .neq tx x y ty',ty,pos,aft,g⟩ w K :=
 bD spX (fun ac a=>by simp [execOp,a.eval hx,a.eval hy,eqGuard,run_neq_iface_nil w tx hi u v]) h
theorem zL (hi:C.P.isIface tx=true) (hx:ev e x=some .nilIface) (h:K (.bool false) w):O C e ⟨d,.binOp .neq tx x (.const .nilIface) ty',ty,pos,aft,g⟩ w K :=
 bD spX (fun ac a=>by simp [execOp,a.eval hx,(show ac.eval (.const .nilIface) = .nilIface from rfl),eqGuard,run_neq_nil_nil_at w tx hi]) h
theorem DW {r:Value} {ok:Bool} (hx:ev e x=some v) (a:∀ w,(Instr.typeAssert v tx t ok).run C.P w = .ok r w) (h:K r w):O C e ⟨d,.typeAssert x tx t ok,ty,pos,aft,g⟩ w K :=
 bD spX (fun ac b=>by simp [execOp,b.eval hx,a]) h
end ops
def Bld (B b:Nat) (s:Str) (w:World):Prop:=Lib.IsBuilder 65 5 B b (Lib.byteCells s) w
theorem Bld.ai9 {B:Nat} {p:Value} {s:Str} (a:p = .pointer none∨p = .pointer (some ⟨b,0,none⟩)) (h:Lib.BuilderAt 65 5 B b p (Lib.byteCells s) w):Bld B b s w:=by
 rcases a with rfl|rfl
 ·exact .inl h
 exact .inr h
theorem afD (B b:Nat) (s t:Str) (w:World) (h:Bld B b s w) (a:s.length+t.length≤140737488355328) (hB:B≤w.heap.size):Calls Tryz.prog 25 #[.pointer (some ⟨b,0,none⟩),str t] w (Ret fun v w'=>v = .tuple #[.int .i64 t.length,.nilIface]∧Bld B b (s++t) w'∧Below B w w'):=by
 refine (Any.Builder_WriteString (P:=Tryz.prog) (ρ:=Tryz.lays156_ren) { Tryz.lays156 with } Tryz.Builder_Extra_156 B b (Lib.byteCells s) ⟨t.toArray⟩ w h ?_ hB).mono ?_
 ·rw [Lib.byteCells_length];exact a
 rintro e w' ⟨rfl,c,d⟩
 refine ⟨rfl,Bld.ai9 (.inr rfl) ?_,d⟩
 rw [Lib.byteCells_append];exact c
theorem Xd (B b:Nat) (s:Str) (w:World) (h:Bld B b s w) (hB:B≤w.heap.size):Calls Tryz.prog 26 #[.pointer (some ⟨b,0,none⟩)] w (Ret fun v w'=>v=str s∧Below B w w') :=
 (Tryz.Builder_String_any B b s w h hB).mono (by rintro e w' ⟨rfl,hb⟩;exact ⟨rfl,hb⟩)
theorem vI (n:Int) (w:World) (hL:sF w) (h0 : -9223372036854775808≤n) (a:n≤9223372036854775807):Calls Tryz.prog 54 #[.int .i64 n] w (Ret fun v w'=>v=str (Lib.itoa n)∧Ext w w'):=acT (Tryz.strconv_Itoa n h0 a w hL.pow)
theorem yI (s t:Str) (w:World) (hL:sF w) (hs:s.length<4294967281):Calls Tryz.prog 109 #[str s,str t] w (Ret fun v w'=>v = .tuple #[str (Lib.cut s t).1,str (Lib.cut s t).2.1,.bool (Lib.cut s t).2.2]∧Ext w w'):=by
 obtain ⟨m,a⟩:=hL.mx
 exact ZJ (Tryz.strings_Cut ⟨s.toArray⟩ ⟨t.toArray⟩ m w (by simpa [ByteArray.size] using hs) a)
theorem DX (s t:Str) (w:World) (hs:s.length≤9223372036854775807):Calls Tryz.prog 106 #[str s,str t] w (Ret fun v w'=>v = .bool (Lib.hasSuffix s t)∧w'=w):=of_same (Tryz.strings_HasSuffix ⟨s.toArray⟩ ⟨t.toArray⟩ w (by simpa [ByteArray.size] using hs))
theorem Bh (s t:Str) (w:World) (hs:s.length≤9223372036854775807):Calls Tryz.prog 27 #[str s,str t] w (Ret fun v w'=>v=str (Lib.trimSuffix s t)∧w'=w):=of_same (Tryz.strings_TrimSuffix ⟨s.toArray⟩ ⟨t.toArray⟩ w (by simpa [ByteArray.size] using hs))
attribute [local irreducible] Go.E.ObX Go.E.ObG Go.E.ObK
def nN:Value:=.iface 184 (.agg #[])
theorem drop_cons {α:Type} {L r:List α} {d x:α} {j:Nat} (h:L.drop j=x::r):j<L.length∧L.getD j d=x∧L.drop (j+1)=r:=by
 have a:j<L.length:=by
  rcases Nat.lt_or_ge j L.length with b | b
  ·exact b
  rw [List.drop_eq_nil_of_le b] at h;cases h
 rw [List.drop_eq_getElem_cons a] at h
 injection h with c e
 exact ⟨a,by rw [← c];simp [List.getD,a],e⟩
theorem ZL {u:Str} {d:UInt8} (h:d∈u):∃ a b,u=a++d::b∧d∉a:=by
 induction u with
 | nil=>cases h
 | cons c r ih =>
  by_cases e:c=d
  ·subst e;exact ⟨[],r,rfl,spX⟩
  obtain ⟨a,b,f,g⟩:=ih (by rcases List.mem_cons.1 h with h|h;exact absurd h.symm e;exact h)
  exact ⟨c::a,b,by rw [f];rfl,by simp [g,Ne.symm e]⟩
theorem yJ (h:Blk w b cs t) (k:w'.heap[b]?=w.heap[b]?):Blk w' b cs t:=k.trans h
theorem nC (w:World) :
  Calls Tryz.prog 108 #[.bool true] w (Ret fun v w'=>w'=w):=by
 refine aJ (vs:=[.bool true]) func108 Z ntmps108 Z ?_
 refine aQ Z (bT Z (aU (T.skip (xI results108 Z))))
theorem jc (w:World) :
  Calls Tryz.prog 108 #[.bool false] w (Pan (nN) fun w'=>w'=w):=by
 refine mO (vs:=[.bool false]) func108 Z ntmps108 Z ?_
 refine aQ Z (bT Z (aW (aA (L.o (bU (v:=.agg #[]) (parts:=[]) (vs:=[]) Z (fun w=>by kernel_rfl) (L.o (FQ krX rfl (OC Z Z Z))))))))
theorem Pv (b1 l:Nat) (t:Str) (m:Nat) (V:Value) (J:Nat→(Nat→Prop)→World→Prop) (X:World→Prop) (w:World) (U:m≤(dM 10 t).length) (N:t.length≤100000) (I:Kz J) (hInv:∀ i S W,J i S W→sF W) (sS:∀ j S W,j<m→J j S W→adQ Tryz.prog l #[.int .i64 ((j+1:Nat):Int),str ((dM 10 t).getD j [])] W fun e W'=>e = .returned (.bool true)∧J (j+1) S W'∧∀ k,S k→W'.heap[k]?=W.heap[k]?) (adR:∀ S W,¬ m=(dM 10 t).length→J m S W→adQ Tryz.prog l #[.int .i64 ((m+1:Nat):Int),str ((dM 10 t).getD m [])] W fun e W'=>e = .panicked (thrown V)∧X W') (h0:J 0 (fun k=>k=b1) w) (hB:Blk w b1 [str t] 9) :
  Calls Tryz.prog 158 #[.func (.yield l) #[] #[],.pointer (some ⟨b1,0,none⟩)] w (fun e W'=>(m=(dM 10 t).length∧∃ v S,e = .returned v∧(∀ k,k=b1→S k)∧J m S W')∨(¬ m=(dM 10 t).length∧e = .panicked (thrown V)∧X W')):=by
 refine wM (vs:=[.func (.yield l) #[] #[],.pointer (some ⟨b1,0,none⟩)]) func158 Z ntmps158 Z ?_
 refine SS (fun _ _ _ h=>h) (aj (SC (au (ah Z (T.block (?_))))))
 refine bf (σ:=Nat × Str) (fun g=>[(0,.func (.yield l) #[] #[]),(1,.pointer (some ⟨b1,0,none⟩)),(3,.int .i64 ((g.1+1:Nat):Int))]) (fun g w'=>g.1≤m∧Blk w' b1 [str g.2] 9∧dM 10 g.2=(dM 10 t).drop g.1∧g.2.length≤100000∧g.1≤100000∧g.1+g.2.length≤100000∧∃ S:Nat→Prop,S b1∧J g.1 S w') (fun g=>(dM 10 t).length-g.1) ((0,t)) ⟨rfl,rfl,rfl,trivial⟩ ⟨Nat.zero_le _,hB,rfl,N,Nat.zero_le _,by simpa using N,fun k=>k=b1,rfl,h0⟩ ?_
 rintro ⟨j,u⟩ w1 ⟨O,hB1,D,E,K,y,S,hS,q⟩
 simp only at O hB1 D E K y q
 refine aj (T.block (au (cZ Z (hB1.cell Z) (?_))))
 rcases Classical.em ((10:UInt8)∈u) with n|n
 ·obtain ⟨a,b,rfl,hfree⟩:=ZL n
  rw [zk hfree] at D
  obtain ⟨M,c,hdrop⟩:=drop_cons (d:=[]) D.symm
  have P:a.length+b.length+1≤100000:=by simp at E;omega
  refine L.o (ay (xs:=[.tmp 10,_]) call109 Z Z (yI (a++10::b) [10] w1 (hInv _ _ _ q) omX) (fun v2 z A=>?_))
  obtain ⟨r,s⟩:=A
  rw [abN hfree] at r
  subst r
  have hJ2:=I.1 j S S w1 z q s (fun k F=>.inl F)
  have hB2:=Blk.ext (cs:=[str (a++10::b)]) hB1 s
  refine L.m Z (?_)
  rcases Nat.lt_or_ge j m with p|p
  ·refine bK Z Z (bK Z Z (bK Z Z (L.a Z (L.a Z (ah Z (aj (au (aN Z Z (aO Z (CJ (xs:=[.tmp 16,.tmp 17]) Z Z Z (by have h:=sS j S z p hJ2;rw [c] at h;exact h) (fun v3 Q A=>?_)))))))))))
   obtain ⟨rfl,B,C⟩:=A
   refine bT Z (aU (T.skip (au (aO Z (bP sizeOf9 Z Z Z (yJ hB2 (C b1 hS)) spX (fun R f G=>?_))))))
   have f:Upd b1 _ _:=f
   refine ak (aQ Z (bT Z (aU (T.skip (T.blk (aA (aO Z (bG Z Z (by (try dsimp only);omega) (ah Z (aP ((j+1,b)) (by (try dsimp only);omega) ⟨rfl,rfl,rfl,trivial⟩ ⟨p,G,hdrop.symm,by (try dsimp only);omega,by (try dsimp only);simp at y;omega,by (try dsimp only);simp at y;omega,S,hS,I.2 _ _ _ _ _ B hS f⟩))))))))))
  obtain rfl:j=m:=by omega
  have x:¬ j=(dM 10 t).length:=by omega
  refine bK Z Z (bK Z Z (bK Z Z (L.a Z (L.a Z (ah Z (aj (au (aN Z Z (L.m Z (xR (xs:=[.tmp 16,.tmp 17]) Z Z Z Z (by have h:=adR S z x hJ2;rw [c] at h;exact h) (fun w' a hX ha=>⟨ha.defers,.inr ⟨x,rfl,hX⟩⟩)))))))))))
 rw [zi n] at D
 obtain ⟨M,c,hdrop⟩:=drop_cons (d:=[]) D.symm
 have H:(dM 10 t).length=j+1:=by have:=congrArg List.length hdrop;simp at this;omega
 refine L.o (ay (xs:=[.tmp 10,_]) call109 Z Z (yI u [10] w1 (hInv _ _ _ q) omX) (fun v2 z A=>?_))
 obtain ⟨r,s⟩:=A
 rw [aeD n] at r
 subst r
 have hJ2:=I.1 j S S w1 z q s (fun k F=>.inl F)
 have hB2:=Blk.ext (cs:=[str u]) hB1 s
 refine L.m Z (?_)
 rcases Nat.lt_or_ge j m with p|p
 ·refine bK Z Z (bK Z Z (bK Z Z (L.a Z (L.a Z (ah Z (aj (au (aN Z Z (aO Z (CJ (xs:=[.tmp 16,.tmp 17]) Z Z Z (by have h:=sS j S z p hJ2;rw [c] at h;exact h) (fun v3 Q A=>?_)))))))))))
  obtain ⟨rfl,B,C⟩:=A
  refine bT Z (aU (T.skip (au (aO Z (bP sizeOf9 Z Z Z (yJ hB2 (C b1 hS)) spX (fun R f G=>?_))))))
  have f:Upd b1 _ _:=f
  obtain rfl:m=j+1:=by omega
  refine ak (aQ Z (bT Z (aW (aY Z (nJ results158 (.inl ⟨H.symm,_,S,rfl,fun k F=>by rw [F];exact hS,I.2 _ _ _ _ _ B hS f⟩))))))
 obtain rfl:j=m:=by omega
 have x:¬ j=(dM 10 t).length:=by omega
 refine bK Z Z (bK Z Z (bK Z Z (L.a Z (L.a Z (ah Z (aj (au (aN Z Z (L.m Z (xR (xs:=[.tmp 16,.tmp 17]) Z Z Z Z (by have h:=adR S z x hJ2;rw [c] at h;exact h) (fun w' a hX ha=>⟨ha.defers,.inr ⟨x,rfl,hX⟩⟩)))))))))))
theorem Px (t:Str) (w:World) :
  Calls Tryz.prog 119 #[str t] w (Ret fun v w'=>∃ b1,v = .func (.func 158) #[] #[.pointer (some ⟨b1,0,none⟩)]∧b1=w.heap.size∧Ext w w'∧Blk w' b1 [str t] 9):=by
 refine aJ (vs:=[str t]) func119 Z ntmps119 Z ?_
 refine au (bM Z (fun b1 w1 a c b hB1=>?_))
 refine ah Z (au (L.o (eG (fi:=[]) (ca:=[.tmp 1]) Z Z (ah Z (aB results119 Z ⟨b1,rfl,a,b,hB1⟩)))))
theorem Ug (b1:Nat) (t:Str) (m:Nat) (V:Value) (a:m≤(dM 10 t).length) (b:t.length≤100000):alL Tryz.prog 158 #[.pointer (some ⟨b1,0,none⟩)] V (fun j=>(.int .i64 ((j+1:Nat):Int),str ((dM 10 t).getD j []))) m (m=(dM 10 t).length) sF (fun k=>k=b1) (fun W=>Blk W b1 [str t] 9) :=
 fun l J X W c hInv sS adR h0 hB=>Pv b1 l t m V J X W a b c hInv sS adR h0 hB
theorem MV {τ:Type} (step:τ→Str→Option τ):∀ (L:List Str) (a:τ) (n:Nat),∃ m,m≤L.length∧∃ f:Nat→τ,f 0=a∧(∀ j,j<m→step (f j) (L.getD j [])=some (f (j+1)))∧((m=L.length∧BH step a L n = .inl (f m))∨(m<L.length∧step (f m) (L.getD m [])=none∧BH step a L n = .inr (n+m)))
 | [],a,n=>⟨0,Nat.le_refl _,fun _=>a,rfl,fun j b=>absurd b (Nat.not_lt_zero _),.inl ⟨rfl,rfl⟩⟩
 | l::ls,a,n=>by
  cases hs:step a l with
  | none=>exact ⟨0,Nat.zero_le _,fun _=>a,rfl,fun j b=>absurd b (Nat.not_lt_zero _),.inr ⟨spX,hs,by simp [BH,hs]⟩⟩
  | some d =>
   obtain ⟨m,g,f,h0,h,i⟩:=MV step ls d (n+1)
   refine ⟨m+1,by simpa using g,fun j=>if j=0 then a else f (j-1),rfl,fun j b=>?_,?_⟩
   ·cases j with
    | zero=>simpa [h0] using hs
    | succ j=>simpa using h j omX
   rcases i with ⟨e,c⟩|⟨e,c,k⟩
   ·exact .inl ⟨by simp [e],by simpa [BH,hs] using c⟩
   refine .inr ⟨by simpa using e,by simpa using c,?_⟩
   simp only [BH,hs,k];congr 1;omega
def Jr {τ:Type} (r:τ ⊕ Nat):Int:=match r with | .inl _=>0 | .inr n=>n
def DoC {τ:Type} (g:FuncId) (fi ca:Array Value) (step:τ→Str→Option τ) (B:τ→Nat→Prop) (I:τ→(Nat→Prop)→World→Prop) (X:(Nat→Prop)→World→Prop):Prop :=
 ∀ (s:τ) (S:Nat→Prop) (W:World) (l:Str) (j:Nat),B s j→j≤100000→I s S W→l.length≤100000 →
  (∀ s',step s l=some s'→Calls Tryz.prog g (fi ++ [str l].toArray++ca) W (Ret fun _ W'=>I s' S W'∧∀ k,S k→W'.heap[k]?=W.heap[k]?)) ∧
  (step s l=none→Calls Tryz.prog g (fi ++ [str l].toArray++ca) W (Pan nN fun W'=>X S W'∧∀ k,S k→W'.heap[k]?=W.heap[k]?))
theorem zM (d:UInt8):∀ t:Str,(dM d t).length≤t.length+1
 | []=>by simp [dM]
 | c::r=>by
  have ih:=zM d r
  unfold dM
  split
  ·simpa using ih
  split
  ·simp
  rename_i w ws a
  rw [a] at ih
  simp only [List.length_cons] at ih ⊢
  omega
theorem place {τ:Type} {step:τ→Str→Option τ} {B:τ→Nat→Prop} {f:Nat→τ} {L:List Str} {m:Nat} (h0:B (f 0) 0) (hB:∀ s l s' j,B s j→step s l=some s'→B s' (j+1)) (h:∀ j,j<m→step (f j) (L.getD j [])=some (f (j+1))):∀ j,j≤m→B (f j) j
 | 0,_=>h0
 | j+1,a=>hB _ _ _ _ (place h0 hB h j omX) (h j omX)
theorem DY {t:Str} (d:t.length≤100000):∀ l∈dM 10 t,l.length≤100000:=fun l c=>by
 have h:∀ (ws:List Str),l∈ws→l.length≤(Lib.join ws [10]).length:=by
  intro ws
  induction ws with
  | nil=>intro h;cases h
  | cons a r ih =>
   intro h
   cases r with
   | nil=>simp at h;subst h;rw [join_one];exact Nat.le_refl _
   | cons b r =>
    rw [zh,List.length_append,List.length_cons]
    rcases List.mem_cons.1 h with rfl|h
    ·omega
    have:=ih h;omega
 have:=h _ c
 rw [CO] at this
 omega
theorem afE (w:World) :
  CallsDIn (FW none) 0 Tryz.prog 118 #[] (.panicking (thrown nN)) w (fun e m w'=>(∃ x,e = .returned x)∧m = .panicking [{ v:=nN,recovered:=true }]∧(fun w'=>Ext w w') w'):=by
 refine xQ (vs:=[]) (r:=nN) (u:=.panicking (thrown nN)) (u':=.panicking [{ v:=nN,recovered:=true }]) func118 Z ntmps118 Z results118 Z Z (fun c0 cs g=>.inl (by simp only [recoverD,g])) (fun Q0 b=>?_)
 refine au (aO Z (yH krX rfl rfl (aW (au (aO Z (DW (r:=.tuple #[.agg #[],.bool true]) Z (fun w=>by kernel_rfl) (L.m Z (bK Z Z (bK Z Z (L.o (O.alloc zeroValue184 (fun b7 w7 h i c d=>?_))))))))))))
 refine L.o (aK sizeOf184 Z Z Z d leX spX (fun k a j=>?_))
 have a:Upd b7 _ _:=a
 refine ah Z (aQ Z (bT Z (aU (T.skip (Ak (fun a0 f=>b a0 _ f.defers (c.upd a (.inr omX))))))))
theorem afF (w:World) :
  CallsDIn (FW none) 0 Tryz.prog 118 #[] (.returning) w (fun e m w'=>(∃ x,e = .returned x)∧m = .returning∧(fun w'=>w'=w) w'):=by
 refine xQ (vs:=[]) (r:=.nilIface) (u:=.returning) (u':=.returning) func118 Z ntmps118 Z results118 Z Z (fun c0 cs c=>.inr ⟨by simp only [recoverD,c],rfl,rfl⟩) (fun Q0 a=>?_)
 refine au (aO Z (zL krX rfl (aU (T.skip (Ak (fun a0 b=>a a0 _ b.defers rfl))))))
theorem yK (a:Act) (w:World) (b4:Nat) (x:Int) (b:a.tmps[4]?=some (.pointer (some ⟨b4,0,none⟩))) (hB:Blk w b4 [.int .i64 x] 3):(results Tryz.f66 a.tmps).run Tryz.prog w = .ok (.int .i64 x) w:=by
 have c:w.cell? ⟨b4,0,none⟩=some (.int .i64 x):=hB.cell rfl
 simp [results,results66,Array.getD_eq_getD_getElem?,b,loadVar,asAddr,isAgg3,c]
theorem BP {D:Nat} (h:Shut [D] w w'):Upd D w w':=⟨h.os,h.tape,h.output,h.size,fun k a=>h.block k (by simpa using a)⟩
theorem DZ {D:Nat} (h:Blk w b cs t) (a:w.heap[D]?=some (.deferred (some []))):b≠D:=fun e=>by
 subst e;unfold Blk at h;rw [a] at h;cases h
set_option maxHeartbeats 1000000 in
theorem yL {τ:Type} (text:Str) (g:FuncId) (fi ca:Array Value) (step:τ→Str→Option τ) (H:τ) (B:τ→Nat→Prop) (I:τ→(Nat→Prop)→World→Prop) (X:(Nat→Prop)→World→Prop) (w:World) (ht:text.length≤99999) (V:∀ args w,(callFunc g args).run Tryz.prog w = .ok (.enter g args) w) (hI:Kz I) (ai:∀ S W W',X S W→Ext W W'→X S W') (al:∀ S W W' b,X S W→S b→Upd b W W'→X S W') (hL:∀ s S W,I s S W→sF W) (Y:DoC g fi ca step B I X) (hB0:B H 0) (am:∀ s l s' j,B s j→step s l=some s'→B s' (j+1)) (h0:I H (fun _=>False) w) :
  Calls Tryz.prog 66 #[str text,.func (.func g) fi ca] w (Ret fun v w'=>v = .int .i64 (Jr (BH step H (dM 10 text) 1))∧(∀ s,BH step H (dM 10 text) 1 = .inl s→∃ S,I s S w')∧(∀ n,BH step H (dM 10 text) 1 = .inr n→∃ S,X S w')):=by
 refine wI (vs:=[str text,.func (.func g) fi ca]) func66 Z ntmps66 Z ?_
 refine au (bM Z (fun b3 w3 aE an aa hB3=>?_))
 refine L.o (O.alloc zeroValue3 (fun b4 w4 aF ao J ap=>?_))
 have ab:Blk w4 b4 [.int .i64 0] 3:=ap
 have aq:=Blk.ext (cs:=[.func (.func g) fi ca]) hB3 J
 refine ak (au (OG Z Z (ak (aj (au (aO Z (ay (xs:=[.tmp 7]) call119 Z Z (Px text w4) (fun v5 w5 hq=>?_))))))))
 obtain ⟨b1,rfl,aG,K,ac⟩:=hq
 have ar:=Blk.ext (cs:=[.int .i64 0]) ab K
 have av:=Blk.ext (cs:=[.func (.func g) fi ca]) aq K
 have TG:=(aa.trans J).trans K
 have an:=aa.size
 have ao:=J.size
 have aC:=Blk.lt (cs:=[.func (.func g) fi ca]) hB3
 have aD:=Blk.lt (cs:=[.int .i64 0]) ab
 have aty:=Blk.lt (cs:=[str text]) ac
 obtain ⟨m,hm,f,ad,ae,M⟩:=MV step (dM 10 text) H 1
 have af:∀ j,j≤m→B (f j) j:=place (by rw [ad];exact hB0) am ae
 have aH:=zM 10 text
 have E:∀ j,((dM 10 text).getD j []).length≤100000:=fun j=>by
  rcases Nat.lt_or_ge j (dM 10 text).length with h|h
  ·exact DY (t:=text) (Nat.le_trans ht dcX) _ (by rw [List.getD_eq_getElem?_getD,List.getElem?_eq_getElem h];exact List.getElem_mem h)
  rw [List.getD_eq_getElem?_getD,List.getElem?_eq_none h];simp
 refine ak (T.block (?_))
 refine CG (e1:=fun v x=>[(3,.pointer (some ⟨b3,0,none⟩)),(4,.pointer (some ⟨b4,0,none⟩)),(5,v.1),(6,v.2)]) (fun j S W=>I (f j) (fun k=>S k∨k=b3∨k=b4) W∧(¬ S b3∧¬ S b4)∧Blk W b3 [.func (.func g) fi ca] 131∧∃ x,Blk W b4 [.int .i64 x] 3) (fun S W=>X (fun k=>S k∨k=b3∨k=b4) W∧Blk W b4 [.int .i64 ((m+1:Nat):Int)] 3) (fun _ _ _=>True) Z Z call158 Z Z (Ug b1 text m nN hm omX) ?_ ?_ ?_ ?_ ?_ ?_ ?_ ?_ ?_ ?_ ?_
 ·
  ·refine ⟨?_,?_⟩
   ·rintro j S S' W W' ⟨i,⟨n3,n4⟩,q,x,p⟩ F hS
    refine ⟨hI.1 _ _ _ _ _ i F (fun k d=>?_),⟨fun h=>?_,fun h=>?_⟩,Blk.ext (cs:=[.func (.func g) fi ca]) q F,x,Blk.ext (cs:=[.int .i64 x]) p F⟩
    ·rcases d with d|d
     ·exact (hS k d).imp .inl id
     exact .inl (.inr d)
    ·rcases hS _ h with h|h
     ·exact n3 h
     have:=Blk.lt (cs:=[.func (.func g) fi ca]) q;omega
    rcases hS _ h with h|h
    ·exact n4 h
    have:=Blk.lt (cs:=[.int .i64 x]) p;omega
   rintro j S W W' b ⟨i,⟨n3,n4⟩,q,x,p⟩ hb hu
   exact ⟨hI.2 _ _ _ _ _ i (.inl hb) hu,⟨n3,n4⟩,Blk.upd (cs:=[.func (.func g) fi ca]) q hu (fun e=>n3 (e▸hb)),x,Blk.upd (cs:=[.int .i64 x]) p hu (fun e=>n4 (e▸hb))⟩
 ·exact fun j S W h=>hL _ _ _ h.1
 ·
  ·refine ⟨?_,⟨fun h=>?_,fun h=>?_⟩,av,0,ar⟩
   ·rw [ad]
    refine hI.1 _ _ _ _ _ h0 TG (fun k d=>.inr ?_)
    rcases d with rfl|rfl|rfl <;> omega
   ·have:b3=b1:=h
    omega
   have:b4=b1:=h
   omega
 ·exact fun k d=>by have:k=b1:=d;omega
 ·exact fun W F=>Blk.ext (cs:=[str text]) ac F
 ·exact fun _ _ _ _ _ _ _ _=>trivial
 ·intro l Q j k W hK
  refine au (ah Z (aA (ah Z (T.sub ?_ (hK W.heap.size W leX (Keep.refl _ _) trivial)))))
  exact ⟨rfl,rfl,rfl,rfl,trivial⟩
 ·rintro l j x S W hj ⟨i,⟨n3,n4⟩,q,y,p⟩ _
  refine T.block (au (aO Z (bP sizeOf3 Z Z Z p spX (fun w9 c N=>?_))))
  have c:Upd b4 _ _:=c
  have A:=Blk.upd (cs:=[.func (.func g) fi ca]) q c omX
  refine ak (aA (cZ Z (Blk.cell (cs:=[.func (.func g) fi ca]) A Z) (aO Z (ay (xs:=[.tmp 13]) V Z Z ((Y (f j) _ _ _ j (af j omX) omX (hI.2 _ _ _ _ _ i (.inr (.inr Z)) c) (E j)).1 _ (ae j hj)) (fun aI aJ hq=>?_)))))
  obtain ⟨aw,r⟩:=hq
  refine ak (T.blk (eY ⟨⟨aw,⟨n3,n4⟩,yJ A (r b3 (.inr (.inl Z))),_,yJ N (r b4 (.inr (.inr Z)))⟩,fun k d=>(r k (.inl d)).trans (c.block k (fun e=>n4 (e▸d)))⟩))
 ·rintro l x S W a R ⟨i,⟨n3,n4⟩,q,y,p⟩ _ ha
  refine Vm (abK (Vo (C:=rCx _ l (fun _ _ _=>False)) rfl ?_ ha))
  have ax:step (f m) ((dM 10 text).getD m [])=none:=by rcases M with ⟨e,_⟩|⟨_,h,_⟩;exact absurd e R;exact h
  refine aA (aO Z (bP sizeOf3 Z Z Z p spX (fun w9 c N=>?_)))
  have c:Upd b4 _ _:=c
  have A:=Blk.upd (cs:=[.func (.func g) fi ca]) q c omX
  refine ak (SX (fun a2 az=>YU (P:=Tryz.prog) az ?_))
  refine cZ Z (Blk.cell (cs:=[.func (.func g) fi ca]) A Z) (L.m Z (dI (xs:=[.tmp 13]) Z V Z Z ((Y (f m) _ _ _ m (af m leX) omX (hI.2 _ _ _ _ _ i (.inr (.inr Z)) c) (E m)).2 ax) (fun w' a hX ha=>⟨_,rfl,rfl,ha.defers,⟨hX.1,yJ N (hX.2 b4 (.inr (.inr Z)))⟩,fun k d=>(hX.2 k (.inl d)).trans (c.block k (fun e=>n4 (e▸d)))⟩)))
 ·rintro S D W hfull hD hS0 hSD ⟨i,⟨n3,n4⟩,q,y,p⟩ hd
  have U:BH step H (dM 10 text) 1 = .inl (f m):=by rcases M with ⟨_,h⟩|⟨h,_⟩;exact h;omega
  refine T.blk (au (L.o (bP sizeOf3 Z Z Z p spX (fun ag nU rD=>?_))))
  have nU:Upd b4 _ _:=nU
  have G:ag.heap[D]?=some (.deferred (some [])):=(nU.block D (fun e=>n4 (e▸hSD))).trans hd
  refine ak (lq (fun a ha=>?_))
  show LeavesInM _ _ _ _ _ _ a.defers _ _
  rw [ha.defers]
  refine xU (v:=.int .i64 0) (R':=fun w'=>Shut [D] ag w') (u:=.returning) (u':=.returning) spX call118 G (fun w1 hs=>(afF w1).mono (by rintro e m w' ⟨i,h2,rfl⟩;exact ⟨i,h2,hs⟩)) rfl ?_
  intro w' hs
  have aja:=Blk.upd (cs:=[.int .i64 0]) rD (BP hs) (DZ rD G)
  refine ⟨yK a w' b4 _ (ha.sat.get 4 _ rfl) aja,by rw [U];rfl,fun s z=>?_,fun n hn=>by rw [U] at hn;cases hn⟩
  rw [U] at z
  cases z
  exact ⟨_,hI.2 _ _ _ _ _ (hI.2 _ _ _ _ _ i (.inr (.inr rfl)) nU) (.inl hSD) (BP hs)⟩
 ·
  ·intro S D W a R hD hSD ⟨hX,p⟩ hd ha
   rcases M with ⟨e,_⟩|⟨_,_,U⟩
   ·exact absurd e R
   show LeavesInM _ _ _ _ _ _ a.defers _ _
   rw [ha.defers]
   refine xU (v:=.int .i64 ((m+1:Nat):Int)) (R':=fun w'=>∃ w1,Shut [D] W w1∧Ext w1 w') (u:=.panicking (thrown nN)) (u':=.panicking [{ v:=nN,recovered:=true }]) spX call118 hd (fun w1 hs=>(afE w1).mono (by rintro e m w' ⟨i,h2,q⟩;exact ⟨i,h2,w1,hs,q⟩)) rfl ?_
   rintro w' ⟨w1,hs,F⟩
   have aB:=DZ p hd
   have aja:=Blk.ext (cs:=[.int .i64 ((m+1:Nat):Int)]) (Blk.upd (cs:=[.int .i64 ((m+1:Nat):Int)]) p (BP hs) aB) F
   refine ⟨yK a w' b4 _ (ha.sat.get 4 _ rfl) aja,?_,fun s z=>?_,fun n hn=>?_⟩
   ·rw [U];simp [Jr];omega
   ·rw [U] at z;cases z
   exact ⟨_,ai _ _ _ (al _ _ _ _ hX (.inl hSD) (BP hs)) F⟩
theorem Bld.new {B:Nat} (h:Blk w b [.pointer none,.slice none 0 0] 65) (hb:B≤b):Bld B b [] w :=
 .inl ⟨hb,.slice none 0 0,h,iF _ _ _ _,by simp [Value.ownBlock]⟩
def Strs (lo:Nat) (w:World) (v:Value) (xs:List Str):Prop:=Sl lo w v xs.length 1 (xs.map str)
theorem Strs.at {lo:Nat} {xs:List Str} (h:Strs lo w v xs) {i:Nat} (a:i<xs.length):w.cell? ((jX v).add ((i:Int).toNat*1))=some (str (xs.getD i [])):=Sl.at1 h (by simp [List.getD,a])
theorem Strs.ext {lo:Nat} {w w':World} {v:Value} {xs:List Str} (h:Strs lo w v xs) (k:Ext w w'):Strs lo w' v xs:=Sl.ext h k
theorem Strs.bI {w:World} {b lo:Nat} {xs:List Str} {t:TypeId} {n:Nat} (h:Blk w b (xs.map str) t) (hn:xs.length=n) (c:n≤maxLen) (a:lo≤b):Strs lo w (.slice (some ⟨b,0,none⟩) n n) xs:=by
 subst hn;exact Sl.bI h spX leX c a
def MW (d:Int):Bool:=decide (d<0∨8≤d)
def wW (xs:List Int) (n:Int):Bool:=decide ((xs.length:Int)=n) && xs.all fun d=>!MW d
theorem acU {xs:List Int} {i:Nat} (hi:i<xs.length) (h:MW (xs.getD i 0)=true):xs.any MW=true:=List.any_eq_true.2 ⟨_,List.getElem_mem hi,by rw [aX hi] at h;exact h⟩
theorem afG {xs:List Int} (h:∀ i,i<xs.length→MW (xs.getD i 0)=false):xs.any MW=false:=by
 rw [List.any_eq_false]
 intro x hx
 obtain ⟨i,hi,rfl⟩:=List.getElem_of_mem hx
 have:=h i hi
 rw [aX hi] at this
 simp [this]
theorem acV (xs:List Int):(xs.all fun d=>!MW d) = !xs.any MW:=by
 induction xs with
 | nil=>rfl
 | cons x r ih=>simp [List.all_cons,List.any_cons,ih,Bool.not_or]
theorem Py (d:Int) (w:World) :
  Calls Tryz.prog 104 #[.int .i64 d] w (Ret fun v w'=>v = .bool (MW d)∧w'=w):=by
 refine aJ (vs:=[.int .i64 d]) func104 Z ntmps104 Z ?_
 refine au (ah Z (aQ Z (bH Z Z (fun h0=>?_) (fun h0=>?_))))
 ·refine L.m Z (L.pp (aG Z (ah Z (aB results104 Z ⟨by rw [MW,decide_eq_true (.inl h0)],rfl⟩))))
 refine aN Z Z (L.o (fJ Z Z (fun a=>?_) (fun a=>?_)))
 ·refine aI Z (ah Z (aB results104 Z ⟨by rw [MW,decide_eq_true (.inr a)],rfl⟩))
 refine aI Z (ah Z (aB results104 Z ⟨by rw [MW,decide_eq_false omX],rfl⟩))
theorem Js (lo:Nat) (p:Value) (xs:List Int) (w:World) (d:Ints .i64 lo w p xs) :
  Calls Tryz.prog 149 #[p,.func (.func 104) #[] #[]] w (Ret fun v w'=>∃ n:Int,v = .int .i64 n∧(0≤n↔xs.any MW=true)∧w'=w):=by
 have g:=Sl.le d
 refine aJ (vs:=[p,.func (.func 104) #[] #[]]) func149 Z ntmps149 Z ?_
 refine au (ah Z (aj (aQ Z (L.le Z (Sl.val d) (L.m Z (ak (T.block (?_))))))))
 refine bf (σ:=Nat) (fun i=>[(0,p),(1,.func (.func 104) #[] #[]),(7,.int .i64 xs.length),(8,.int .i64 i)]) (fun i w'=>i≤xs.length∧w'=w∧∀ k,k<i→MW (xs.getD k 0)=false) (fun i=>xs.length-i) (0) ⟨rfl,rfl,rfl,rfl,trivial⟩ ⟨Nat.zero_le _,rfl,fun k f=>absurd f (Nat.not_lt_zero _)⟩ ?_
 rintro i w1 ⟨hi,rfl,c⟩
 refine au (bH Z Z (fun e=>?_) (fun e=>?_))
 ·refine ak (?_)
  have a:i<xs.length:=by omega
  refine aj (aZ (T.skip (aj (T.block (aQ Z (ah Z (au (aN Z Z (L.m Z (dG Z Z d (cZ Z (Ints.at d a) (L.o (ay (xs:=[.tmp 15]) call104 Z Z (Py (xs.getD i 0) w1) (fun v2 l j=>?_))))))))))))))
  obtain ⟨b,rfl⟩:=j
  cases hb:MW (xs.getD i 0)
  ·refine ak (?_)
   rw [hb] at b
   subst b
   refine bn (T.skip (T.blk (aA (bF Z Z (L.m Z (ak (aP (i+1) omX ⟨rfl,rfl,rfl,rfl,trivial⟩ ⟨a,rfl,fun k f=>by rcases Nat.lt_or_ge k i with h|h;exact c k h;obtain rfl:k=i:=omX;exact hb⟩)))))))
  refine ak (?_)
  rw [hb] at b
  subst b
  refine aZ (aQ Z (ah Z (aB results149 Z ⟨i,rfl,⟨fun _=>acU a hb,fun _=>by omega⟩,rfl⟩)))
 refine ak (?_)
 obtain rfl:i=xs.length:=by omega
 refine aj (bn (aY Z (au (ah Z (aB results149 Z ⟨-1,rfl,by rw [afG c];simp,rfl⟩)))))
theorem Jt (lo:Nat) (p:Value) (xs:List Int) (w:World) (a:Ints .i64 lo w p xs) :
  Calls Tryz.prog 103 #[p,.func (.func 104) #[] #[]] w (Ret fun v w'=>v = .bool (xs.any MW)∧w'=w):=by
 refine aJ (vs:=[p,.func (.func 104) #[] #[]]) func103 Z ntmps103 Z ?_
 refine au (ah Z (au (aN Z Z (L.o (ay (xs:=[.tmp 5,.tmp 6]) call149 Z Z (Js lo p xs w a) (fun c w1 b=>?_))))))
 obtain ⟨n,rfl,hn,rfl⟩:=b
 refine L.o (kH Z Z (ah Z (aB results103 Z ⟨congrArg Value.bool (by cases h:xs.any MW;exact decide_eq_false (by rw [hn,h];simp);exact decide_eq_true (hn.2 h)),rfl⟩)))
theorem GX (lo:Nat) (p:Value) (xs:List Int) (n:Int) (w:World) (b:Ints .i64 lo w p xs) :
  Calls Tryz.prog 53 #[p,.int .i64 n] w (Ret fun v w'=>v = .bool (wW xs n)∧w'=w):=by
 refine aJ (vs:=[p,.int .i64 n]) func53 Z ntmps53 Z ?_
 refine au (ah Z (aQ Z (L.le Z (Sl.val b) (L.m Z (dK Z Z (fun a=>?_) (fun a=>?_))))))
 ·refine aN Z Z (L.o (ay (xs:=[.tmp 10,.func 104]) call103 Z Z (Jt lo p xs w b) (fun d w1 c=>?_)))
  obtain ⟨rfl,rfl⟩:=c
  refine bT Z (aG Z (ah Z (aB results53 Z ⟨by rw [wW,decide_eq_true a,acV];rfl,rfl⟩)))
 refine L.m Z (L.pp (L.p (aI Z (ah Z (aB results53 Z ⟨by rw [wW,decide_eq_false a];rfl,rfl⟩)))))
theorem Ju (lo:Nat) (p:Value) (xs:List Int) (w:World) (d:Ints .i64 lo w p xs) :
  Calls Tryz.prog 110 #[p,.int .i64 (-1)] w (Ret fun v w'=>∃ n:Int,v = .int .i64 n∧(0≤n↔(-1:Int)∈xs)∧w'=w):=by
 have g:=Sl.le d
 refine aJ (vs:=[p,.int .i64 (-1)]) func110 Z ntmps110 Z ?_
 refine au (ah Z (aj (aQ Z (L.le Z (Sl.val d) (L.m Z (ak (T.block (?_))))))))
 refine bf (σ:=Nat) (fun i=>[(0,p),(1,.int .i64 (-1)),(7,.int .i64 xs.length),(8,.int .i64 i)]) (fun i w'=>i≤xs.length∧w'=w∧∀ k,k<i→xs.getD k 0 ≠ -1) (fun i=>xs.length-i) (0) ⟨rfl,rfl,rfl,rfl,trivial⟩ ⟨Nat.zero_le _,rfl,fun k c=>absurd c (Nat.not_lt_zero _)⟩ ?_
 rintro i w1 ⟨hi,rfl,b⟩
 refine au (bH Z Z (fun f=>?_) (fun f=>?_))
 ·refine ak (?_)
  have a:i<xs.length:=by omega
  refine aj (aZ (T.skip (aj (T.block (aQ Z (ah Z (au (aN Z Z (L.m Z (dG Z Z d (cZ Z (Ints.at d a) (dK Z Z (fun hb=>?_) (fun hb=>?_)))))))))))))
  ·refine aW (aQ Z (ah Z (aB results110 Z ⟨i,rfl,⟨fun _=>by rw [hb,aX a];exact List.getElem_mem a,fun _=>by omega⟩,rfl⟩)))
  refine aU (T.skip (T.blk (aA (bF Z Z (L.m Z (ak (aP (i+1) omX ⟨rfl,rfl,rfl,rfl,trivial⟩ ⟨a,rfl,fun k c=>by rcases Nat.lt_or_ge k i with h|h;exact b k h;obtain rfl:k=i:=omX;exact fun e=>hb e.symm⟩)))))))
 refine ak (?_)
 obtain rfl:i=xs.length:=by omega
 refine aj (bn (aY Z (au (ah Z (aB results110 Z ⟨-1,rfl,⟨fun h=>by omega,fun h=>?_⟩,rfl⟩)))))
 obtain ⟨k,c,e⟩:=List.getElem_of_mem h
 have:=b k c
 rw [aX c,e] at this
 exact absurd rfl this
theorem Jv (lo:Nat) (p:Value) (xs:List Int) (w:World) (a:Ints .i64 lo w p xs) :
  Calls Tryz.prog 58 #[p,.int .i64 (-1)] w (Ret fun v w'=>v = .bool (decide ((-1:Int)∈xs))∧w'=w):=by
 refine aJ (vs:=[p,.int .i64 (-1)]) func58 Z ntmps58 Z ?_
 refine au (ah Z (au (aN Z Z (L.o (ay (xs:=[.tmp 5,.tmp 6]) call110 Z Z (Ju lo p xs w a) (fun c w1 b=>?_))))))
 obtain ⟨n,rfl,hn,rfl⟩:=b
 refine L.o (kH Z Z (ah Z (aB results58 Z ⟨congrArg Value.bool (decide_eq_decide.2 hn),rfl⟩)))
theorem AP (lo:Nat) (p:Value) (ls:List Str) (w:World) (g:Strs lo w p ls) (q:(bZ ls).length≤1000000) :
  Calls Tryz.prog 55 #[p] w (Ret fun v w'=>v=str (bZ ls)∧Ext w w'):=by
 have t:=Sl.le g
 refine aJ (vs:=[p]) func55 Z ntmps55 Z ?_
 refine au (ah Z (au (L.o (O.alloc zeroValue65 (fun b3 u x y e hB3=>?_)))))
 have j:Bld w.heap.size b3 [] u:=Bld.new hB3 omX
 refine ak (aj (aQ Z (L.le Z (Sl.val (g.ext e)) (L.m Z (ak (T.block (?_)))))))
 refine bf (σ:=Nat) (fun i=>[(3,.pointer (some ⟨b3,0,none⟩)),(6,p),(7,.int .i64 ls.length),(8,.int .i64 i)]) (fun i w'=>i≤ls.length∧Ext w w'∧Bld w.heap.size b3 (bZ (ls.take i)) w') (fun i=>ls.length-i) (0) ⟨rfl,rfl,rfl,rfl,trivial⟩ ⟨Nat.zero_le _,e,j⟩ ?_
 rintro i r ⟨hi,b,c⟩
 refine au (bH Z Z (fun k=>?_) (fun k=>?_))
 ·refine ak (?_)
  have a:i<ls.length:=by omega
  have f:ls.take (i+1)=ls.take i ++ [ls.getD i []]:=by rw [List.take_succ_eq_append_getElem a,aX a]
  have s:(bZ (ls.take i)).length+((ls.getD i []).length+1)≤1000000:=by
   have h:bZ ls=bZ (ls.take (i+1))++bZ (ls.drop (i+1)):=by rw [bZ,bZ,bZ,← List.flatMap_append,List.take_append_drop]
   rw [h,f,jK] at q
   simp only [List.length_append,List.length_cons,List.length_nil] at q
   omega
  refine aj (aZ (T.skip (aj (T.block (au (dG Z Z (g.ext b) (cZ Z ((g.ext b).at a) (ah Z (aA (aO Z (bW Z Z (by simp only [List.length_cons,List.length_nil];omega) (L.o (ay (xs:=[.tmp 3,.tmp 13]) call25 Z Z (afD w.heap.size b3 (bZ (ls.take i)) (ls.getD i [] ++ [10]) r c (by simp only [List.length_append,List.length_cons,List.length_nil];omega) b.size) (fun v5 z l=>?_))))))))))))))
  obtain ⟨rfl,n,d⟩:=l
  refine ak (T.blk (aA (bF Z Z (L.m Z (ak (aP (i+1) omX ⟨rfl,rfl,rfl,rfl,trivial⟩ ⟨a,Ext.DV b d,by rw [f,jK];exact n⟩))))))
 refine ak (?_)
 obtain rfl:i=ls.length:=by omega
 rw [List.take_length] at c
 refine aj (bn (aY Z (au (L.o (ay (xs:=[.tmp 3]) call26 Z Z (Xd w.heap.size b3 (bZ ls) r c b.size) (fun v5 z l=>?_))))))
 obtain ⟨rfl,d⟩:=l
 refine ah Z (aB results55 Z ⟨rfl,Ext.DV b d⟩)
section ops
variable {C:Cx} {e:Env} {w:World} {K:Value→World→Prop} {d:Option Tmp} {ty:TypeId} {pos:String} {aft:Array Edge} {g:Option (Nat × Bool)} {x y z:Operand} {t:TypeId}
theorem D5 {el tb:TypeId} {off cap m scap:Nat} {news:List Value} {ad:Addr} (p:∀ w,(underlying t).run C.P w = .ok (.slice el) w) (hs:∀ w,(sizeOf el).run C.P w = .ok 1 w)
  (hx:ev e x=some (.slice (some ⟨b,off,none⟩) n cap)) (hy:ev e y=some (.slice (some ad) m scap)) (hb:Blk w b cs tb) (j:Nat.min m n=k) (l:news.length=k) (q:Row w ad news) (o:off+k≤cs.length) (r:∀ c∈news,c.oneCell'=true)
  (h:∀ w',Upd b w w'→Blk w' b (cs.take off++news++cs.drop (off+k)) tb→K (.int .i64 k) w'):O C e ⟨d,.call { callee:=.builtin .copy,args:=#[x,y],argTypes:=#[t,t] },ty,pos,aft,g⟩ w K:=by
 have hf:=run_firstCells_some (P:=C.P) w 1 k ad m scap news (by rw [l,Nat.mul_one]) q
 have f:=run_storeCells_at C.P b off tb news 0 cs.toArray w hb (by simp;omega) r
 have s:=setRow_heap w b cs.toArray (cs.take (off+0)++news++cs.drop (off+0+news.length)).toArray tb (0,0) hb
 have u:cs.take (off+0)++news++cs.drop (off+0+news.length)=cs.take off++news++cs.drop (off+k):=by rw [Nat.add_zero,l]
 refine bD (w':=w.setRow b (cs.take (off+0)++news++cs.drop (off+0+news.length)).toArray) (v:=goInt k) spX (fun a ha=>?_) (h _ ⟨rfl,rfl,rfl,spX,fun k j=>setRow_other w b k _ j⟩ (by unfold Blk;rw [s,u]))
 simp only [Nat.add_zero] at f
 simp [execOp,resolve,invoke,builtin,Builtin.copy_,ha.eval hx,ha.eval hy,p w,hs w,Builtin.lenOf,j,hf]
 have i:(storeCells (⟨b,off,none⟩:Addr) news).run C.P w = .ok () (w.setRow b (cs.take (off+0)++news++cs.drop (off+0+news.length)).toArray):=by simpa using f
 simp [i]
theorem FT {off len cap:Nat} {el:TypeId} {kd:IntKind} (i:∀ w,(underlying t).run C.P w = .ok (.slice el) w) (hs:∀ w,(sizeOf el).run C.P w = .ok 1 w) (hx:ev e x=some (.slice (some ⟨b,off,none⟩) len cap)) (hy:ev e y=some (.int kd (k:Int))) (l:k<cap) (j:k≤len)
  (h:K (.slice (some ⟨b,off+k,none⟩) (len-k) (cap-k)) w):O C e ⟨d,.slice t x (some y) none none,ty,pos,aft,g⟩ w K :=
 bD spX (fun a ha=>by
  have c:¬ cap-k=0:=by omega
  simp [execOp,Instr.sliceAt,Instr.slice,Instr.sliceBounds,Instr.sliceBound,asIntOf,ha.eval hx,ha.eval hy,i w,hs w,Addr.add,j,c]
  rw [if_neg omX]
  by_cases f:k=0
  ·subst f;simp
  rw [if_neg f]) h
end ops
def filled (n k:Nat):List Value:=List.replicate k (.int .i64 (-1))++List.replicate (n-k) (.int .i64 0)
theorem zN (h:k≤n):(filled n k).length=n:=by simp [filled];omega
theorem Uh {m:Nat} (h:Blk w b (filled n k) t) (e:m≤k):Row w ⟨b,0,none⟩ (List.replicate m (.int .i64 (-1))):=fun j u a=>by
 have c:j<m:=by
  rcases Nat.lt_or_ge j m with d | d
  ·exact d
  rw [List.getElem?_eq_none (by simpa using d)] at a;cases a
 refine Row.bI h j u ?_
 rw [List.getElem?_replicate,if_pos c] at a
 rw [filled,List.getElem?_append_left (by simp;omega),List.getElem?_replicate,if_pos omX]
 exact a
theorem D6 {m:Nat} (a:k+m≤n):(filled n k).take k++List.replicate m (.int .i64 (-1))++(filled n k).drop (k+m)=filled n (k+m):=by
 rw [filled,filled,List.take_left' spX,List.drop_append,List.drop_eq_nil_of_le spX,List.length_replicate,List.drop_replicate,List.replicate_append_replicate,List.nil_append]
 congr 2;omega
def apG (w:World) (b n k m:Nat):Nat→World→Prop
 | 0,W=>Ext w W
 | _+1,W=>∃ W1,Ext w W1∧Upd b W1 W∧Blk W b (filled n (k+m)) 3
theorem Bj (b0 n:Nat) (w:World) (hb:Blk w b0 [.int .i64 (-1)] 3) (B:1≤n) (hn:n≤1000) :
  Calls Tryz.prog 57 #[.slice (some ⟨b0,0,none⟩) 1 1,.int .i64 n] w (Ret fun v w'=>∃ b,v = .slice (some ⟨b,0,none⟩) n n∧w.heap.size≤b∧Blk w' b (List.replicate n (.int .i64 (-1))) 3∧Ext w w'):=by
 refine aJ (vs:=[.slice (some ⟨b0,0,none⟩) 1 1,.int .i64 n]) func57 Z ntmps57 Z ?_
 refine au (ah Z (aj (au (aO Z (fU Z Z omX (aU (T.skip (aQ Z (L.le Z (Sl.val (Sl.bI (n:=1) (sz:=1) (lo:=0) hb Z (Nat.le_refl 1) dcX lzX)) (L.o (dO Z (fun w=>⟨_,runUnderlying3 w⟩) runUnderlying114 (IntWalk.u64_in ((1:Nat):Int) ⟨omX,omX⟩) (aO Z (dO Z (fun w=>⟨_,runUnderlying3 w⟩) runUnderlying114 (IntWalk.u64_in (n:Int) ⟨omX,omX⟩) (L.o (ay (xs:=[.tmp 15,.tmp 17]) call59 Z Z (of_same (Tryz.bits_Mul 1 n omX omX w)) (fun M w1 E=>?_))))))))))))))))
 obtain ⟨rfl,rfl⟩:=E
 refine L.m Z (bK Z Z (bK Z Z (L.a Z (ah Z (aj (au (aO Z (gW Z Z omX (aN Z Z (L.o (gW Z Z omX (aI Z (aU (T.skip (au (aO Z (dO Z (fun w=>⟨_,runUnderlying114 w⟩) runUnderlying3 (by rw [show 1*n % 18446744073709551616=n by omega];exact IntWalk.i64_in (n:Int) ⟨omX,omX⟩) (L.o (E5 runUnderlying31 Tryz.typeInfo3 sizeOf3 zeroValue3 Z Z Z (by show n*8≤_;omega) omX (fun b7 w7 F G h i=>?_))))))))))))))))))))
 have s:List.replicate n (Value.int .i64 0)=filled n 0:=by simp [filled]
 rw [s] at i
 have C:=Blk.lt (cs:=[.int .i64 (-1)]) hb
 have apH:=Blk.ext (cs:=[.int .i64 (-1)]) hb h
 refine ah Z (au (aN Z Z (L.o (D5 (k:=1) (news:=[.int .i64 (-1)]) runUnderlying31 sizeOf3 Z Z i (Nat.min_eq_left B) Z (Row.bI apH) (by rw [zN lzX];omega) (by simp [Value.oneCell']) (fun H t f=>?_)))))
 have u:=D6 (n:=n) (k:=0) (m:=1) omX
 rw [Nat.zero_add] at u
 simp only [List.replicate_one,Nat.zero_add,List.nil_append,List.take_zero] at u
 simp only [Nat.zero_add,List.take_zero,List.nil_append] at f
 rw [u] at f
 have x:Ext w1 H:=h.upd t (.inr omX)
 refine ah Z (aj (T.block (?_)))
 refine bf (σ:=Nat) (fun k=>[(7,.slice (some ⟨b7,0,none⟩) n n),(8,.int .i64 k)]) (fun k W=>1≤k∧k≤n∧Blk W b7 (filled n k) 3∧Ext w1 W) (fun k=>n-k) (1) ⟨rfl,rfl,trivial⟩ ⟨Nat.le_refl _,B,f,x⟩ ?_
 rintro k D ⟨I,j,d,l⟩
 refine aj (au (aN Z Z (L.le Z (Sl.val (Sl.bI (n:=n) (sz:=1) (lo:=0) d (by rw [zN j];omega) (Nat.le_refl n) (by simp only [maxLen];omega) lzX)) (bH Z Z (fun y=>?_) (fun y=>?_)))))
 ·refine ak (?_)
  obtain ⟨m,p⟩:∃ m,min k (n-k)=m:=⟨_,rfl⟩
  have q:1≤m∧m≤k∧k+m≤n:=by omega
  obtain ⟨q,z,r⟩:=q
  refine aZ (T.skip (T.block (?_)))
  refine T.any mixed 8 1 [8,7] Z [.is _,.is _,.is _,.is _,.is _,.is _,.is _,.is (.int .i64 m)] [[],[],[],[1,2],[],[],[4,5],[3,6]] [none,none,none,none,none,none,none,some 0] [[],[],[],[1,2],[],[],[4,5],[1,2,3,4,5,6],[0,1,2,3,4,5,6,7],[0,1,2,3,4,5,6,7,8]] (apG D b7 n k m) (fun _ _=>True) krX krX krX Z trivial (Keep.drew _ _) ⟨fun c g hx=>ObK.op rfl (O.move Z ⟨⟨trivial,hx⟩,rfl⟩),
    fun c g hx=>ObK.op Z (O.move Z ⟨⟨trivial,hx⟩,rfl⟩),
    fun c g hx=>ObK.op Z (O.move Z ⟨⟨trivial,hx⟩,rfl⟩),
    fun c g hx=>ObK.op Z (FT (k:=k) runUnderlying31 sizeOf3 Z Z omX omX ⟨⟨trivial,hx⟩,rfl⟩),
    fun c g hx=>ObK.op Z (O.move Z ⟨⟨trivial,hx⟩,rfl⟩),
    fun c g hx=>ObK.op Z (O.move Z ⟨⟨trivial,hx⟩,rfl⟩),
    fun c g hx=>ObK.op Z (jr (m:=(k:Int)) runUnderlying31 sizeOf3 Z Z omX omX ⟨⟨trivial,hx⟩,rfl⟩),
    fun g hx=>ObK.op Z (D5 (k:=m) (news:=List.replicate m (.int .i64 (-1))) runUnderlying31 sizeOf3 Z Z (Blk.ext d hx) p spX (Uh (Blk.ext d hx) z) (by rw [zN j];omega) (by simp [Value.oneCell']) (fun J Yx K=>⟨⟨trivial,_,hx,Yx,by rw [← D6 r];simpa using K⟩,rfl⟩)),
    trivial⟩ (fun D A=>?_)
  obtain ⟨N,hE,hU,hC⟩:=A
  refine bF Z Z (ah Z (T.blk (aP (k+m) omX ⟨rfl,rfl,trivial⟩ ⟨omX,r,hC,(l.trans hE).upd hU (.inr omX)⟩)))
 refine ak (?_)
 have e:k=n:=by omega
 refine bn (aY Z (aQ Z (ah Z (aB results57 Z ⟨b7,rfl,omX,by subst e;simpa [filled] using d,l⟩))))
theorem D7 {α β:Type} (f:α→β):∀ (l:List α) (i:Nat),(l.eraseIdx i).map f=(l.map f).eraseIdx i
 | [],_=>by simp
 | _::_,0=>rfl
 | a::r,i+1=>by simp only [List.eraseIdx_cons_succ,List.map_cons,D7 f r i]
section maps
variable {α β:Type} [DecidableEq α] {kf:α→Value} {vf:β→Value} {kd:TypeDesc}
def Ox (kf:α→Value) (vf:β→Value) (w:World) (b:Nat) (kvs:List (α × β)):Prop :=
 ∃ es clock,w.heap[b]?=some (.map es clock)∧es.toList.map (fun e=>(e.key,e.val))=kvs.map fun p=>(kf p.1,vf p.2)
theorem Ox.keep {kvs:List (α × β)} (h:Ox kf vf w b kvs) (k:Ext w w'):Ox kf vf w' b kvs:=by
 obtain ⟨es,c,a,d⟩:=h;exact ⟨es,c,k.blk lzX a,d⟩
theorem Ox.upd {b':Nat} {kvs:List (α × β)} (h:Ox kf vf w b kvs) (k:Upd b' w w') (a:b≠b'):Ox kf vf w' b kvs:=by
 obtain ⟨es,c,d,e⟩:=h;exact ⟨es,c,k.blk a d,e⟩
theorem Ox.lt {kvs:List (α × β)} (h:Ox kf vf w b kvs):b<w.heap.size:=by
 obtain ⟨es,c,a,d⟩:=h;exact (Array.getElem?_eq_some_iff.1 a).1
theorem MX:∀ (kvs:List (α × β)) (n:Nat),(gEs kf vf n kvs).map (fun e=>(e.key,e.val))=kvs.map fun p=>(kf p.1,vf p.2)
 | [],_=>rfl
 | p::r,n=>by simp only [gEs,List.map_cons,MX r (n+1)];rfl
theorem Ox.apI {kvs:List (α × β)} (h:wJ kf vf w b kvs):Ox kf vf w b kvs:=⟨_,_,h,by simpa using MX kvs 0⟩
theorem MZ (hK:Key kf kd) (k:α):∀ (kvs:List (α × β)) (es:List MapEntry) (i:Nat),es.map (fun e=>(e.key,e.val))=kvs.map (fun p=>(kf p.1,vf p.2))→Instr.findNow kd (kf k) es i=some ((jl kvs k i).map (fun p=>(p.1,vf p.2)))
 | [],es,i,h=>by
  have:es = []:=by simpa using h
  subst this;rfl
 | p::r,es,i,h=>by
  cases es with
  | nil=>simp at h
  | cons e es =>
   simp only [List.map_cons,List.cons.injEq,Prod.mk.injEq] at h
   simp only [Instr.findNow,h.1.1,hK.same,jl]
   by_cases a:k=p.1
   ·simp [a,h.1.2]
   simp [a,MZ hK k r es (i+1) h.2]
def U2:List (α × β)→α→List (α × β)
 | [],_=>[]
 | p::r,k=>if k=p.1 then r else p::U2 r k
theorem RI:∀ (r:List (α × β)) (k:α) (n i:Nat) (v:β),jl r k n=some (i,v)→n≤i
 | [],_,_,_,_,h=>by simp [jl] at h
 | p::r,k,n,i,v,h=>by
  rw [jl] at h
  by_cases a:k=p.1
  ·rw [if_pos a] at h;simp at h;omega
  rw [if_neg a] at h;have:=RI r k (n+1) i v h;omega
theorem GY:∀ (kvs:List (α × β)) (k:α) (n i:Nat) (v:β),jl kvs k n=some (i,v)→U2 kvs k=kvs.eraseIdx (i-n)
 | [],_,_,_,_,h=>by simp [jl] at h
 | p::r,k,n,i,v,h=>by
  rw [jl] at h
  rw [U2]
  by_cases a:k=p.1
  ·rw [if_pos a] at h ⊢
   simp at h
   obtain ⟨rfl,_⟩:=h
   simp
  rw [if_neg a] at h ⊢
  have b:=RI r k (n+1) i v h
  rw [GY r k (n+1) i v h,show i-n=(i-(n+1))+1 by omega,List.eraseIdx_cons_succ]
theorem Na:∀ (kvs:List (α × β)) (k:α) (n:Nat),jl kvs k n=none→U2 kvs k=kvs
 | [],_,_,_=>rfl
 | p::r,k,n,h=>by
  rw [jl] at h
  rw [U2]
  by_cases a:k=p.1
  ·rw [if_pos a] at h;cases h
  rw [if_neg a] at h ⊢;rw [Na r k (n+1) h]
theorem Xe:∀ (kvs:List (α × β)) (k:α),((U2 kvs k).map (·.1)).Sublist (kvs.map (·.1))
 | [],_=>.slnil
 | p::r,k=>by
  rw [U2]
  by_cases a:k=p.1
  ·rw [if_pos a];exact .cons _ (List.Sublist.refl _)
  rw [if_neg a];exact .cons_cons _ (Xe r k)
theorem Nb {kvs:List (α × β)} {k:α} (h:k∉kvs.map (·.1)):oN kvs k=none:=by
 induction kvs with
 | nil=>rfl
 | cons p r ih=>rw [ku,if_neg (fun e=>h (by rw [e];simp)),ih (fun e=>h (by simp only [List.map_cons];exact List.mem_cons_of_mem _ e))]
theorem RJ:∀ (kvs:List (α × β)) (k:α) (v:β),oN kvs k=some v→(k,v)∈kvs
 | [],_,_,h=>by cases h
 | p::r,k,v,h=>by
  rw [ku] at h
  by_cases a:k=p.1
  ·rw [if_pos a] at h;cases h;subst a;simp
  rw [if_neg a] at h;exact List.mem_cons_of_mem _ (RJ r k v h)
theorem RN:∀ (kvs:List (α × β)) (k:α),(U2 kvs k).Sublist kvs
 | [],_=>.slnil
 | p::r,k=>by
  rw [U2]
  by_cases a:k=p.1
  ·rw [if_pos a];exact .cons _ (List.Sublist.refl _)
  rw [if_neg a];exact .cons_cons _ (RN r k)
section ops
variable {C:Cx} {e:Env} {w:World} {K:Value→World→Prop} {d:Option Tmp} {ty:TypeId} {pos:String} {aft:Array Edge} {g:Option (Nat × Bool)}
variable {x y z:Operand} {t kt vt:TypeId}
theorem yM (hK:Key kf kd) (a:P.underlying kt=some kd) (k:α) (kvs:List (α × β)) (es:List MapEntry) (b:es.map (fun e=>(e.key,e.val))=kvs.map fun p=>(kf p.1,vf p.2)) (w:World) :
  (Instr.findKey kt (kf k) es).run P w = .ok ((jl kvs k 0).map (fun p=>(p.1,vf p.2))) w:=by
 simp [Instr.findKey,run_underlying a,MZ hK k kvs es 0 b]
theorem wB {k:α} {z0:β} {kvs:List (α × β)} (hK:Key kf kd) (j:∀ w,(underlying t).run C.P w = .ok (.map kt vt) w) (i:∀ w,(underlying kt).run C.P w = .ok kd w) (l:∀ w,(zeroValue vt).run C.P w = .ok (vf z0) w)
  (hx:ev e x=some (.map (some b))) (hy:ev e y=some (kf k)) (c:Ox kf vf w b kvs) (h:K (.tuple #[vf ((oN kvs k).getD z0),.bool (oN kvs k).isSome]) w):O C e ⟨d,.lookup t x y true,ty,pos,aft,g⟩ w K:=by
 obtain ⟨es,cl,c,m⟩:=c
 refine bD spX (fun a ha=>?_) h
 have hf:=yM (vf:=vf) hK (dL i) k kvs es.toList m w
 cases f:jl kvs k 0 with
 | none=>rw [f] at hf;simp [execOp,Instr.lookup,ha.eval hx,ha.eval hy,j w,MapKept.run_getObj_map c,hK.check _ _ _ _ _ (dL i),hf,l w,oN,f]
 | some p=>rw [f] at hf;simp [execOp,Instr.lookup,ha.eval hx,ha.eval hy,j w,MapKept.run_getObj_map c,hK.check _ _ _ _ _ (dL i),hf,oN,f]
theorem Nc {k:α} {kvs:List (α × β)} {t2:TypeId} (hK:Key kf kd) (m:∀ w,(underlying t).run C.P w = .ok (.map kt vt) w) (l:∀ w,(underlying kt).run C.P w = .ok kd w)
  (hx:ev e x=some (.map (some b))) (hy:ev e y=some (kf k)) (c:Ox kf vf w b kvs) (h:∀ w',Upd b w w'→Ox kf vf w' b (U2 kvs k)→K (.tuple #[]) w'):O C e ⟨d,.call { callee:=.builtin .delete,args:=#[x,y],argTypes:=#[t,t2] },ty,pos,aft,g⟩ w K:=by
 have f:=c.lt
 obtain ⟨es,cl,c,i⟩:=c
 have hf:=yM (vf:=vf) hK (dL l) k kvs es.toList i w
 cases j:jl kvs k 0 with
 | none =>
  rw [j] at hf
  refine bD (w':={ w with heap:=w.heap.setIfInBounds b (.map es cl) }) (v:=.tuple #[]) spX (fun a ha=>?_) (h _ (fZ w b _) ⟨es,cl,by simp [Array.getElem?_setIfInBounds_self,f],by rw [Na _ _ _ j];exact i⟩)
  simp [execOp,resolve,invoke,builtin,Builtin.delete_,ha.eval hx,ha.eval hy,m w,MapKept.run_getObj_map c,hK.check _ _ _ _ _ (dL l),hf,MapKept.run_setObj_map _ c]
 | some p =>
  rw [j] at hf
  have n:=GY kvs k 0 p.1 p.2 j
  rw [Nat.sub_zero] at n
  have o:es.toList.length=kvs.length:=by simpa using congrArg List.length i
  refine bD (w':={ w with heap:=w.heap.setIfInBounds b (.map (es.eraseIdxIfInBounds p.1) cl) }) (v:=.tuple #[]) spX (fun a ha=>?_) (h _ (fZ w b _) ⟨es.eraseIdxIfInBounds p.1,cl,by simp [Array.getElem?_setIfInBounds_self,f],?_⟩)
  ·simp [execOp,resolve,invoke,builtin,Builtin.delete_,ha.eval hx,ha.eval hy,m w,MapKept.run_getObj_map c,hK.check _ _ _ _ _ (dL l),hf,MapKept.run_setObj_map _ c]
  rw [n,Array.toList_eraseIdxIfInBounds,D7,D7,i]
end ops
end maps
section
variable {C:Cx} {e:Env} {w:World} {K:Value→World→Prop} {d:Option Tmp} {ty tx ty':TypeId} {pos:String} {aft:Array Edge} {g:Option (Nat × Bool)} {x y:Operand} {m n:Int}
theorem D8 (hx:ev e x=some (.int .u8 m)) (hy:ev e y=some (.int .u8 n)) (hb:0≤m-n∧m-n≤255) (h:K (.int .u8 (m-n)) w):O C e ⟨d,.binOp .sub tx x y ty',ty,pos,aft,g⟩ w K :=
 O.sub hx hy (by rw [IntWalk.u8_in _ hb];exact h)
end
abbrev nV (i:Nat):Value:=.int .i64 i
def abo:Str:=[117,110,105,116,44,100,105,115,116,114,105,99,116]
abbrev AsT:=Bool × List (Str × Nat) × List Int
def aee (b:Str):Prop:=b.length=1∧49≤(b.getD 0 0).toNat∧(b.getD 0 0).toNat≤56
instance (b:Str):Decidable (aee b):=by unfold aee;infer_instance
def FU:AsT→Str→Option AsT
 | (true,kv,pl),l=>if l=abo then some (false,kv,pl) else none
 | (false,kv,pl),l=>match oN kv (Lib.cut l [44]).1 with
  | none=>none
  | some i=>if aee (Lib.cut l [44]).2.1 then some (false,U2 kv (Lib.cut l [44]).1,pl.set i ((((Lib.cut l [44]).2.1.getD 0 0).toNat-49:Nat):Int)) else none
structure AsI (w0:World) (bh bm bv bp bs n cap:Nat) (s:AsT) (S:Nat→Prop) (W:World):Prop where
 e:Ext w0 W
 h:Blk W bh [.bool s.1] 4
 v:Blk W bv [.map (some bm)] 171
 m:Ox str nV W bm s.2.1
 p:Blk W bp [.slice (some ⟨bs,0,none⟩) n cap] 31
 c:∃ cur,Blk W bs cur 3∧cur.length=cap∧cur.take n=s.2.2.map (.int .i64)
 len:s.2.2.length=n
 cp:n≤cap∧cap≤maxLen
 kv:∀ p∈s.2.1,p.2<n
 o:w0.heap.size≤bp∧bp<bm∧bm<bv∧bv<bs∧bs<bh
 S:∀ k,S k→k≠bh∧k≠bv∧k≠bm∧k≠bp∧k≠bs∧w0.heap.size≤k∧k<W.heap.size
section
variable {w0:World} {bh bm bv bp bs n cap:Nat} {s:AsT} {S:Nat→Prop} {W:World}
theorem AsI.ext (h:AsI w0 bh bm bv bp bs n cap s S W) {W':World} (k:Ext W W'):AsI w0 bh bm bv bp bs n cap s S W':=by
 obtain ⟨cur,a,b,d⟩:=h.c
 exact ⟨h.e.trans k,Blk.ext (cs:=[.bool s.1]) h.h k,Blk.ext (cs:=[.map (some bm)]) h.v k,h.m.keep k,Blk.ext (cs:=[.slice (some ⟨bs,0,none⟩) n cap]) h.p k,⟨cur,Blk.ext a k,b,d⟩,h.len,h.cp,h.kv,h.o,fun j f=>by obtain ⟨g,a2,a3,a4,a5,i,l⟩:=h.S j f;exact ⟨g,a2,a3,a4,a5,i,Nat.lt_of_lt_of_le l k.size⟩⟩
theorem AsI.upd (h:AsI w0 bh bm bv bp bs n cap s S W) {W':World} {b:Nat} (k:Upd b W W') (d:b≠bh∧b≠bv∧b≠bm∧b≠bp∧b≠bs) (f:w0.heap.size≤b):AsI w0 bh bm bv bp bs n cap s S W':=by
 obtain ⟨cur,c1,c2,c3⟩:=h.c
 obtain ⟨a,a2,a3,a4,a5⟩:=d
 exact ⟨h.e.upd k (.inr f),Blk.upd (cs:=[.bool s.1]) h.h k a.symm,Blk.upd (cs:=[.map (some bm)]) h.v k a2.symm,h.m.upd k a3.symm,Blk.upd (cs:=[.slice (some ⟨bs,0,none⟩) n cap]) h.p k a4.symm,⟨cur,Blk.upd c1 k a5.symm,c2,c3⟩,h.len,h.cp,h.kv,h.o,fun j g=>by obtain ⟨a,a2,a3,a4,a5,i,l⟩:=h.S j g;exact ⟨a,a2,a3,a4,a5,i,by rw [k.size];exact l⟩⟩
theorem AsI.Lh:Kz (AsI w0 bh bm bv bp bs n cap):=by
 refine ⟨fun i S S' W W' h k hS=>?_,fun i S W W' b h hb k=>?_⟩
 ·have a:=h.ext k
  refine { a with S:=fun k d=>?_ }
  rcases hS k d with c|⟨c,j⟩
  ·exact a.S k c
  have l1:=Blk.lt (cs:=[.bool i.1]) h.h
  have:=h.o
  have:=h.e.size
  refine ⟨?_,?_,?_,?_,?_,?_,?_⟩ <;> omega
 obtain ⟨f,a2,a3,a4,a5,g,_⟩:=h.S b hb
 exact h.upd k ⟨f,a2,a3,a4,a5⟩ g
end
theorem Pz (w0:World) (bh bm bv bp bs n cap:Nat) (kv:List (Str × Nat)) (pl:List Int) (S:Nat→Prop) (w:World) (hI:AsI w0 bh bm bv bp bs n cap (true,kv,pl) S w) :
  Calls Tryz.prog 107 #[str abo,.pointer (some ⟨bh,0,none⟩),.pointer (some ⟨bv,0,none⟩),.pointer (some ⟨bp,0,none⟩)] w (Ret fun v w'=>AsI w0 bh bm bv bp bs n cap (false,kv,pl) S w'∧∀ k,S k→w'.heap[k]?=w.heap[k]?):=by
 refine aJ (vs:=[str abo,.pointer (some ⟨bh,0,none⟩),.pointer (some ⟨bv,0,none⟩),.pointer (some ⟨bp,0,none⟩)]) func107 Z ntmps107 Z ?_
 refine aj (au (cZ Z (hI.h.cell Z) (aW (au (aO Z (fD runUnderlying9 Z Z Z (L.o (ay (xs:=[.tmp 12]) call108 Z Z (nC w) (fun g w1 b=>?_)))))))))
 obtain rfl:=b
 refine ak (au (L.o (bP sizeOf4 Z Z Z hI.h (by simp [Value.cells,ofT]) (fun i a hB2=>?_))))
 refine ak (BZ results107 ⟨?_,fun k d=>a.block k (hI.S k d).1⟩)
 obtain ⟨cur,c1,c2,c3⟩:=hI.c
 have ho:=hI.o
 exact ⟨hI.e.upd a (.inr omX),hB2,Blk.upd (cs:=[.map (some bm)]) hI.v a omX,hI.m.upd a omX,Blk.upd (cs:=[.slice (some ⟨bs,0,none⟩) n cap]) hI.p a omX,⟨cur,Blk.upd c1 a omX,c2,c3⟩,hI.len,hI.cp,hI.kv,hI.o,fun j f=>by rw [a.size];exact hI.S j f⟩
theorem Ui (w0:World) (bh bm bv bp bs n cap:Nat) (kv:List (Str × Nat)) (pl:List Int) (S:Nat→Prop) (l:Str) (w:World) (hI:AsI w0 bh bm bv bp bs n cap (true,kv,pl) S w) (b:l≠abo) :
  Calls Tryz.prog 107 #[str l,.pointer (some ⟨bh,0,none⟩),.pointer (some ⟨bv,0,none⟩),.pointer (some ⟨bp,0,none⟩)] w (Pan (nN) fun w'=>Ext w w'):=by
 refine mO (vs:=[str l,.pointer (some ⟨bh,0,none⟩),.pointer (some ⟨bv,0,none⟩),.pointer (some ⟨bp,0,none⟩)]) func107 Z ntmps107 Z ?_
 refine aj (au (cZ Z (hI.h.cell Z) (aW (au (aO Z (fE runUnderlying9 Z Z b (dI (xs:=[.tmp 12]) Z call108 Z Z (jc w) (fun w' a hR ha=>⟨ha.defers,rfl,by rw [hR];exact Keep.refl _ _⟩))))))))
theorem abp {cap:Nat} (h:Blk w b cs t) (d:cs.length=cap) (a:n≤cap) (c:cap≤maxLen):Sl 0 w (.slice (some ⟨b,0,none⟩) n cap) n 1 (cs.take n) :=
 ⟨by rw [List.length_take];omega,some ⟨b,0,none⟩,cap,rfl,a,c,.inr ⟨_,rfl,Nat.zero_le _,(Row.bI h).take n⟩⟩
theorem take_set {α:Type} : ∀ (l:List α) (n i:Nat) (x:α),i<n→(l.set i x).take n=(l.take n).set i x
 | [],n,i,x,_=>by simp
 | a::r,0,i,x,h=>absurd h (Nat.not_lt_zero _)
 | a::r,n+1,0,x,_=>rfl
 | a::r,n+1,i+1,x,h=>by simp only [List.set_cons_succ,List.take_succ_cons,take_set r n i x omX]
theorem PD (w0:World) (bh bm bv bp bs n cap:Nat) (kv:List (Str × Nat)) (pl:List Int) (S:Nat→Prop) (l:Str) (i:Nat) (w:World) (hI:AsI w0 bh bm bv bp bs n cap (false,kv,pl) S w) (hL:sF w) (F:l.length≤100000) (y:oN kv (Lib.cut l [44]).1=some i) (q:aee (Lib.cut l [44]).2.1) :
  Calls Tryz.prog 107 #[str l,.pointer (some ⟨bh,0,none⟩),.pointer (some ⟨bv,0,none⟩),.pointer (some ⟨bp,0,none⟩)] w (Ret fun v w'=>AsI w0 bh bm bv bp bs n cap (false,U2 kv (Lib.cut l [44]).1,pl.set i ((((Lib.cut l [44]).2.1.getD 0 0).toNat-49:Nat):Int)) S w'∧∀ k,S k→w'.heap[k]?=w.heap[k]?):=by
 refine aJ (vs:=[str l,.pointer (some ⟨bh,0,none⟩),.pointer (some ⟨bv,0,none⟩),.pointer (some ⟨bp,0,none⟩)]) func107 Z ntmps107 Z ?_
 refine aj (au (cZ Z (hI.h.cell Z) (aU (T.skip (au (aO Z (ay (xs:=[.tmp 15,_]) call109 Z Z (yI l [44] w hL omX) (fun O w1 z=>?_))))))))
 obtain ⟨rfl,r⟩:=z
 have hI1:=hI.ext r
 generalize G:Lib.cut l [44]=ab at y q ⊢
 obtain ⟨a,b,fd⟩:=ab
 simp only at y q ⊢
 refine L.m Z (bK Z Z (bK Z Z (bK Z Z (L.a Z (L.a Z (ah Z (au (cZ Z (hI1.v.cell Z) (aO Z (wB (kf:=str) (vf:=nV) (z0:=0) nT runUnderlying171 runUnderlying9 zeroValue3 Z Z hI1.m (?_)))))))))))
 rw [y,Option.getD_some]
 have A:i<n:=hI.kv (a,i) (RJ _ _ _ y)
 refine L.m Z (bK Z Z (bK Z Z (L.a Z (ah Z (au (aN Z Z (aO Z (dB runUnderlying9 Z (L.o (eU Z Z (by have:=q.1;omega) (aG Z (aN Z Z (L.o (iy runUnderlying9 Z Z dcX (show 0<b.length by have:=q.1;omega) (L.o (mF Z Z (by have:=q.2.1;show (49:Int)≤((b.getD 0 0).toNat:Int);omega) (aG Z (aN Z Z (L.o (iy runUnderlying9 Z Z dcX (show 0<b.length by have:=q.1;omega) (L.o (F8 Z Z (by have:=q.2.2;show ((b.getD 0 0).toNat:Int)≤56;omega) (aG Z (?_))))))))))))))))))))))))
 refine L.o (ay (xs:=[.tmp 41]) call108 Z Z (nC w1) (fun v2 P z=>?_))
 obtain rfl:=z
 refine ak (au (cZ Z (hI1.v.cell Z) (aO Z (Nc (kf:=str) (vf:=nV) nT runUnderlying171 runUnderlying9 Z Z hI1.m (fun H f B=>?_)))))
 obtain ⟨cur,c1,c2,c3⟩:=hI1.c
 have ho:=hI1.o
 have s:=Blk.upd (cs:=[.slice (some ⟨bs,0,none⟩) n cap]) hI1.p f omX
 have t:Blk H bs cur 3:=Blk.upd c1 f omX
 refine ak (?_)
 refine dn mixed 6 [3,8,6] Z [.is _,.is _,.is _,.is _,.is _,.is _] [[],[],[],[2],[3],[4]] trivial ⟨fun u hx=>aS rfl ((Blk.ext (cs:=[.slice (some ⟨bs,0,none⟩) n cap]) s hx).cell Z),
   fun u hx=>aF rfl,
   fun u hx=>aF rfl,
   fun u hx=>Ob.o (iy runUnderlying9 Z Z dcX (show 0<b.length by have:=q.1;omega) kR),
   fun u hx=>Ob.o (D8 Z Z ⟨by have:=q.2;show (0:Int)≤((b.getD 0 0).toNat:Int)-49;omega,by have:=q.2;show ((b.getD 0 0).toNat:Int)-49≤255;omega⟩ kR),
   fun u hx=>Ob.o (dO Z (fun w=>⟨_,runUnderlying5 w⟩) runUnderlying3 (IntWalk.i64_in _ ⟨by have:=q.2;show _≤((b.getD 0 0).toNat:Int)-49;omega,by have:=q.2;show ((b.getD 0 0).toNat:Int)-49≤_;omega⟩) kR),
   trivial⟩ (fun w7 d=>?_)
 refine dG Z Z (abp (Blk.ext t d) c2 hI1.cp.1 hI1.cp.2) (?_)
 have I:i<cur.length:=by have:=hI1.cp.1;omega
 refine L.o (bV sizeOf3 Z Z Z (Blk.ext t d) (by show 0+(i:Int).toNat*1<_;omega) (fun J g x=>?_))
 rw [show 0+(i:Int).toNat*1=i by omega] at x
 have hv:((b.getD 0 0).toNat:Int)-49=(((b.getD 0 0).toNat-49:Nat):Int):=by have:=q.2.1;omega
 have apJ:Blk J bs (cur.set i (.int .i64 (((b.getD 0 0).toNat-49:Nat):Int))) 3:=by rw [← hv];exact x
 refine ak (xI results107 ⟨?_,fun k K=>?_⟩)
 ·have hE:Ext w0 w7:=(hI1.e.upd f (.inr omX)).trans d
  exact ⟨hE.upd g (.inr omX),Blk.upd (cs:=[.bool false]) (Blk.ext (cs:=[.bool false]) (Blk.upd (cs:=[.bool false]) hI1.h f omX) d) g omX,Blk.upd (cs:=[.map (some bm)]) (Blk.ext (cs:=[.map (some bm)]) (Blk.upd (cs:=[.map (some bm)]) hI1.v f omX) d) g omX,(B.keep d).upd g omX,Blk.upd (cs:=[.slice (some ⟨bs,0,none⟩) n cap]) (Blk.ext (cs:=[.slice (some ⟨bs,0,none⟩) n cap]) s d) g omX,⟨_,apJ,by simpa using c2,by rw [take_set _ _ _ _ A,c3,List.map_set]⟩,by simpa using hI1.len,hI1.cp,fun p M=>hI1.kv p ((RN kv a).subset M),hI1.o,fun j N=>by obtain ⟨C,a2,a3,a4,a5,D,E⟩:=hI1.S j N;have:=f.size;have:=d.size;have:=g.size;refine ⟨C,a2,a3,a4,a5,D,?_⟩;omega⟩
 obtain ⟨C,a2,a3,a4,a5,D,E⟩:=hI.S k K
 have:=r.size
 have:=f.size
 exact (g.block k a5).trans ((d.block k lzX omX).trans ((f.block k a3).trans (r.block k lzX E)))
theorem Uj (w0:World) (bh bm bv bp bs n cap:Nat) (kv:List (Str × Nat)) (pl:List Int) (S:Nat→Prop) (l:Str) (w:World) (hI:AsI w0 bh bm bv bp bs n cap (false,kv,pl) S w) (hL:sF w) (g:l.length≤100000) (c:FU (false,kv,pl) l=none) :
  Calls Tryz.prog 107 #[str l,.pointer (some ⟨bh,0,none⟩),.pointer (some ⟨bv,0,none⟩),.pointer (some ⟨bp,0,none⟩)] w (Pan (nN) fun w'=>Ext w w'):=by
 refine mO (vs:=[str l,.pointer (some ⟨bh,0,none⟩),.pointer (some ⟨bv,0,none⟩),.pointer (some ⟨bp,0,none⟩)]) func107 Z ntmps107 Z ?_
 refine aj (au (cZ Z (hI.h.cell Z) (aU (T.skip (au (aO Z (ay (xs:=[.tmp 15,_]) call109 Z Z (yI l [44] w hL omX) (fun s w1 j=>?_))))))))
 obtain ⟨rfl,d⟩:=j
 have hI1:=hI.ext d
 simp only [FU] at c
 generalize k:Lib.cut l [44]=ab at c ⊢
 obtain ⟨a,b,fd⟩:=ab
 simp only at c ⊢
 refine L.m Z (bK Z Z (bK Z Z (bK Z Z (L.a Z (L.a Z (ah Z (au (cZ Z (hI1.v.cell Z) (aO Z (wB (kf:=str) (vf:=nV) (z0:=0) nT runUnderlying171 runUnderlying9 zeroValue3 Z Z hI1.m (?_)))))))))))
 rcases q:oN kv a with _|i
 ·refine L.m Z (bK Z Z (bK Z Z (L.a Z (ah Z (au (aN Z Z (L.pp (L.p (aI Z (L.m Z (L.pp (L.p (aI Z (L.m Z (L.pp (L.p (aI Z (?_))))))))))))))))))
  refine dI (xs:=[.tmp 41]) Z call108 Z Z (jc w1) (fun w' a hR ha=>⟨ha.defers,rfl,by rw [hR];exact d⟩)
 rw [q] at c
 simp only at c
 have r:¬ aee b:=fun h=>by rw [if_pos h] at c;cases c
 refine L.m Z (?_)
 rcases Classical.em (b.length=1) with e|e
 ·refine bK Z Z (?_)
  rcases Classical.em (49≤(b.getD 0 0).toNat) with f|f
  ·have t:¬ (b.getD 0 0).toNat≤56:=fun h=>r ⟨e,f,h⟩
   refine bK Z Z (L.a Z (ah Z (au (aN Z Z (aO Z (dB runUnderlying9 Z (L.o (eU Z Z omX (aG Z (aN Z Z (L.o (iy runUnderlying9 Z Z dcX (show 0<b.length by omega) (L.o (mF Z Z (by show (49:Int)≤((b.getD 0 0).toNat:Int);omega) (aG Z (aN Z Z (L.o (iy runUnderlying9 Z Z dcX (show 0<b.length by omega) (L.o (vg Z Z (by show ¬ ((b.getD 0 0).toNat:Int)≤56;omega) (aG Z (dI (xs:=[.tmp 41]) Z call108 Z Z (jc w1) (fun w' a hR ha=>⟨ha.defers,rfl,by rw [hR];exact d⟩)))))))))))))))))))))))
  refine bK Z Z (L.a Z (ah Z (au (aN Z Z (aO Z (dB runUnderlying9 Z (L.o (eU Z Z omX (aG Z (aN Z Z (L.o (iy runUnderlying9 Z Z dcX (show 0<b.length by omega) (L.o (oM Z Z (by show ¬ (49:Int)≤((b.getD 0 0).toNat:Int);omega) (aG Z (L.m Z (L.pp (L.p (aI Z (dI (xs:=[.tmp 41]) Z call108 Z Z (jc w1) (fun w' a hR ha=>⟨ha.defers,rfl,by rw [hR];exact d⟩)))))))))))))))))))))
 refine bK Z Z (bK Z Z (L.a Z (ah Z (au (aN Z Z (aO Z (dB runUnderlying9 Z (L.o (fV Z Z omX (aG Z (L.m Z (L.pp (L.p (aI Z (L.m Z (L.pp (L.p (aI Z (dI (xs:=[.tmp 41]) Z call108 Z Z (jc w1) (fun w' a hR ha=>⟨ha.defers,rfl,by rw [hR];exact d⟩))))))))))))))))))))
theorem ajb (w0:World) (bh bm bv bp bs n cap:Nat) (hL:sF w0):DoC 107 #[] #[.pointer (some ⟨bh,0,none⟩),.pointer (some ⟨bv,0,none⟩),.pointer (some ⟨bp,0,none⟩)] FU (fun _ _=>True) (AsI w0 bh bm bv bp bs n cap) (fun S W=>Ext w0 W∧∀ k,S k→w0.heap.size≤k∧k<W.heap.size):=by
 rintro ⟨a,kv,pl⟩ S W l _ _ _ hI f
 have b:sF W:=hL.ext hI.e
 have fin:∀ {W':World},Ext W W'→(Ext w0 W'∧∀ k,S k→w0.heap.size≤k∧k<W'.heap.size)∧∀ k,S k→W'.heap[k]?=W.heap[k]?:=fun k=>⟨⟨hI.e.trans k,fun j c=>by have:=(hI.S j c).2.2.2.2.2;exact ⟨this.1,Nat.lt_of_lt_of_le this.2 k.size⟩⟩,fun j c=>k.block j lzX (hI.S j c).2.2.2.2.2.2⟩
 cases a with
 | true =>
  by_cases e:l=abo
  ·subst e
   refine ⟨fun s' hs=>?_,fun hs=>by simp [FU] at hs⟩
   simp only [FU,if_true,Option.some.injEq] at hs
   subst hs
   exact Pz w0 bh bm bv bp bs n cap kv pl S W hI
  refine ⟨fun s' hs=>by simp [FU,e] at hs,fun _=>?_⟩
  refine (Ui w0 bh bm bv bp bs n cap kv pl S l W hI e).mono ?_
  rintro (_|_|_) W' h <;> first|exact ⟨h.1,fin h.2⟩|exact h
 | false =>
  refine ⟨fun s' hs=>?_,fun hs=>?_⟩
  ·simp only [FU] at hs
   cases d:oN kv (Lib.cut l [44]).1 with
   | none=>rw [d] at hs;cases hs
   | some i =>
    rw [d] at hs
    simp only at hs
    by_cases a:aee (Lib.cut l [44]).2.1
    ·rw [if_pos a] at hs
     cases hs
     exact PD w0 bh bm bv bp bs n cap kv pl S l i W hI b f d a
    rw [if_neg a] at hs;cases hs
  refine (Uj w0 bh bm bv bp bs n cap kv pl S l W hI b f hs).mono ?_
  rintro (_|_|_) W' h <;> first|exact ⟨h.1,fin h.2⟩|exact h
end Go.Proofs.YtnlonpcbgjbbaaaGreatDoor
