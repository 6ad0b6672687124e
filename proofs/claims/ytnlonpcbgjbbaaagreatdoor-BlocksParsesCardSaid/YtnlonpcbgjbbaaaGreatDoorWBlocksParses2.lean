/-
  BlocksParses, part 2 of its proof: that it returns true for every input, and each argument reads behind the call as it read before. Conditions: the listed variables read as the program's text lays them (tied by the card).
-/
import Derived.Test.YtnlonpcbgjbbaaaGreatDoorWBlocksParses1
import Derived.Test.YtnlonpcbgjbbaaaGreatDoorProg
import Derived.KernelRfl
import Derived.RangeFuncRecord
import Derived.MapKept
import Derived.Laws.IdiomRangeMap
import Derived.ProofKit
import Derived.OpenShut
import Derived.ShutString
import Derived.ChangeOld
import Derived.Below
import Derived.Carry
import Derived.Deep.Slices
import Derived.JoinedOf
import Derived.LaidLaws
import Derived.ChangeAgain
set_option linter.unusedVariables false
set_option linter.unusedSimpArgs false
set_option linter.unusedSectionVars false
set_option linter.unnecessarySimpa false
namespace Go.Proofs.YtnlonpcbgjbbaaaGreatDoor
open Go Go.E
theorem mixed:Tryz.prog.follows .mixedOrders=true:=by kernel_rfl
theorem Tryz.rG:Tryz.prog.info? 3=some Tryz.t3:=by kernel_rfl
theorem Tryz.qp:Tryz.prog.info? 9=some Tryz.t9:=by kernel_rfl
theorem Tryz.rH:Tryz.prog.info? 30=some Tryz.t30:=by kernel_rfl
theorem Tryz.Ig:Tryz.prog.info? 51=some Tryz.t51:=by kernel_rfl
theorem Tryz.tY:Tryz.prog.info? 124=some Tryz.t124:=by kernel_rfl
theorem Tryz.oW:Tryz.prog.info? 127=some Tryz.t127:=by kernel_rfl
theorem Tryz.U9:Tryz.prog.info? 277=some Tryz.t277:=by kernel_rfl
theorem Tryz.Va:Tryz.prog.info? 292=some Tryz.t292:=by kernel_rfl
end Go.Proofs.YtnlonpcbgjbbaaaGreatDoor
namespace Go.E
open Go.RowKit
variable {e:Env} {fn:Func} {m:Int} {ds:List Nat} {cs vs:List Value} {b base i j lo n sz:Nat} {P:Program} {σ:Type} {el t:TypeId} {v:Value} {w w1:World}
theorem Keep.Vb {a b:World} {xs:List Value} (h:Keep lo w w1) (hO:a.ownsRow base el sz v n xs) (hG:w1.grownBy b v.ownBlock) (hb:base<lo→False) (d:w.heap.size≤base):Keep lo w b:=by
 refine h.grown hG fun j c=>?_
 rcases hO.2 with ⟨hv,_⟩|⟨g,cap,cur,hv,e,_⟩
 ·subst hv;cases c
 subst hv;cases c;exact .inr (Nat.le_trans d e)
theorem Keep.jg {a b:World} {xs:List Value} (h:Ext w w1) (hO:a.ownsRow base el sz v n xs) (hG:w1.grownBy b v.ownBlock) (c:w.heap.size≤base):Ext w b :=
 Keep.Vb h hO hG (fun h=>absurd h (Nat.not_lt_zero _)) c
theorem iF (w:World) (base:Nat) (el:TypeId) (sz:Nat):w.ownsRow base el sz (.slice none 0 0) 0 []:=⟨spX,.inl ⟨rfl,rfl⟩⟩
section ops
variable {C:Cx} {e:Env} {w:World} {K:Value→World→Prop} {d:Option Tmp} {ty:TypeId} {pos:String} {aft:Array Edge} {g:Option (Nat × Bool)}
variable {x y:Operand} {t:TypeId} {tys:Array TypeId}
theorem iP {kd:IntKind} {a b:Int} (hx:ev e x=some (.int kd a)) (hy:ev e y=some (.int kd b)) (h:K (.int kd (if b<a then b else a)) w) :
  O C e ⟨d,.call { callee:=.builtin .min,args:=#[x,y],argTypes:=tys },ty,pos,aft,g⟩ w K :=
 bD spX (fun q c=>by
  simp [execOp,resolve,invoke,builtin,c.eval hx,c.eval hy,Go.run_min_int2]) h
theorem kJ {kd:IntKind} {a b:Int} (hx:ev e x=some (.int kd a)) (hy:ev e y=some (.int kd b)) (h:K (.int kd (if a<b then b else a)) w) :
  O C e ⟨d,.call { callee:=.builtin .max,args:=#[x,y],argTypes:=tys },ty,pos,aft,g⟩ w K :=
 bD spX (fun q c=>by
  simp [execOp,resolve,invoke,builtin,c.eval hx,c.eval hy,Go.run_max_int2]) h
end ops
theorem fZ (w:World) (l:Nat) (o:Obj):Upd l w (w.putObj l o):=⟨rfl,rfl,rfl,spX,fun k a=>World.putObj_heap_other a⟩
def Yld (P:Program) (l:Nat) (args:Array Value) (w:World) (R:Value→World→Prop):Prop :=
 ∃ f tmps assign body,(Instr.yield l args).run P w = .ok (.round l f tmps assign body) w∧RoundIn (FW none) 0 P l f tmps assign body w (Ret R)
section
variable {C:Cx} {k:List It} {e:Env} {w:World} {K:Value→World→Prop} {d:Option Tmp} {ty:TypeId} {pos:String} {aft:Array Edge} {g:Option (Nat × Bool)}
theorem F9 {l:Nat} {xs:List Operand} {tys:Array TypeId} {fo:Operand} {R:Value→World→Prop} (k:C.r=none) (hf:ev e fo=some (.func (.yield l) #[] #[])) (hx:evs e xs=some vs)
  (m:Yld C.P l vs.toArray w R) (h:∀ v w',R v w'→K v w'):O C e ⟨d,.call { callee:=.value fo,args:=xs.toArray,argTypes:=tys },ty,pos,aft,g⟩ w K:=by
 intro a ha next Q hn
 refine ⟨fun _ _=>trivial,?_⟩
 rw [Oper.semAt_eq _ _ _ spX]
 obtain ⟨f,tmps,assign,body,hy,i⟩:=m
 have b:(execOp a.eval ⟨d,.call { callee:=.value fo,args:=xs.toArray,argTypes:=tys },ty,pos,aft,g⟩).run C.P w = .ok (.round l f tmps assign body) w:=by
  simp [execOp,resolve,Deferred.ofValue,invoke,ha.eval hf,ha.sat.Kv hx,hy]
 rw [b]
 refine ⟨spX,?_⟩
 rw [k]
 refine i.mono ?_
 intro en w' j
 cases en with
 | returned v=>exact hn v w' (h v w' j)
 | panicked c=>exact j.elim
 | outgrown=>exact j.elim
def Kz {σ:Type} (J:σ→(Nat→Prop)→World→Prop):Prop :=
 (∀ i S S' W W',J i S W→Ext W W'→(∀ k,S' k→S k∨W.heap.size≤k∧k<W'.heap.size)→J i S' W') ∧
 (∀ i S W W' b,J i S W→S b→Upd b W W'→J i S W')
def aex (P:Program) (gf:FuncId) (lb:Array Value) {σ:Type} (Next:σ→Value→σ→Prop) (s0 sE:σ) (Inv:World→Prop) (S0:Nat→Prop) (Pre:World→Prop):Prop :=
 ∀ (l:Nat) (J:σ→(Nat→Prop)→World→Prop) (X:World→Prop) (W:World),Kz J→(∀ i S W,J i S W→Inv W) →
  (∀ i v j S W,Next i v j→J i S W→Yld P l #[v] W fun u W'=>(u = .bool true∧J j S W'∧∀ k,S k→W'.heap[k]?=W.heap[k]?)∨(u = .bool false∧X W')) →
  J s0 S0 W→Pre W→Calls P gf (#[.func (.yield l) #[] #[]]++lb) W (Ret fun _ W'=>(∃ S,(∀ k,S0 k→S k)∧J sE S W')∨X W')
abbrev rCx (C:Cx) (l:Nat) (Q:Exit→Act→World→Prop):Cx:={ P:=C.P,r:=some l,n:=C.n,D:=[],Q:=Q }
def RQ {σ:Type} (I:σ→(Nat→Prop)→World→Prop) (X:Code→(Nat→Prop)→World→Prop) (j:σ) (S:Nat→Prop) (W:World):Exit→Act→World→Prop
 | .normal,_,W'=>I j S W'∧∀ k,S k→W'.heap[k]?=W.heap[k]?
 | .ret,_,W'=>X .ret S W'∧∀ k,S k→W'.heap[k]?=W.heap[k]?
 | .exit id,_,W'=>X (.exit id) S W'∧∀ k,S k→W'.heap[k]?=W.heap[k]?
 | _,_,_=>False
theorem Sat.round {t:Array Value} {D D':List Deferred} (h:Sat n e { tmps:=t,defers:=D }) {p:Tmp} {v:Value} (b:iD n (some p)=true):Sat n ((p,v)::e) { tmps:=t.setIfInBounds p v,defers:=D' }:=by
 have a:=h.put (d:=some p) (v:=v) b
 exact ⟨a.size,a.get⟩
theorem AY {l₀:Nat} {r₀:Loop} (h:w.heap[l₀]?=some (.loop r₀)) (fn:FuncId) (tmps:Array Value) (ps:Array Tmp) (assign body:Code) :
  (Instr.enterLoop fn tmps ps assign body (some l₀)).run P w = .ok (w.heap.size,[]) (w.alloc (.loop { state:=.ready,pending:=none,fn,tmps,params:=ps,assign,body,defers:=r₀.defers })):=by
 unfold Instr.enterLoop
 simp only [Sem.run_bind,run_getLoop h,run_newObj_alloc,Result.andThen,Sem.run_pure]
theorem tZ (I:σ→(Nat→Prop)→World→Prop) (X:Code→(Nat→Prop)→World→Prop) {g:Operand} {p:Tmp} {assign body:Code} {gf:FuncId} {lb:Array Value} {Next:σ→Value→σ→Prop} {s0 sE:σ}
  {Inv:World→Prop} {S0:Nat→Prop} {Pre:World→Prop} {e1:Value→Nat→Env} (A:Value→Nat→World→Prop) {L dfr:Nat} {dd:List Deferred} {E:Nat→Prop} {Z:World→Prop}
  (U:∀ fn tmps,∃ t,(Instr.enterLoop fn tmps #[p] assign body (FW C.r).round).run C.P w = .ok (L,dd) t∧Ext w t∧t.heap[L]?=some (.loop { state:=.ready,pending:=none,fn,tmps,params:=#[p],assign,body,defers:=dfr })∧t.heap.size=L+1∧Z t)
  (hL:w.heap.size≤L) (hE:∀ k,E k→w.heap.size≤k∧k<L) (hZ:∀ W W',(∀ k,E k→W'.heap[k]?=W.heap[k]?)→Z W→Z W')
  (hg:ev e g=some (.func (.func gf) #[] lb)) (al:∀ args w,(callFunc gf args).run C.P w = .ok (.enter gf args) w) (hp:iD C.n (some p)=true)
  (V:aex C.P gf lb Next s0 sE Inv S0 Pre) (hI:Kz I) (hX:∀ c S W W' b,X c S W→S b→Upd b W W'→X c S W') (hInv:∀ i S W,I i S W→Inv W) (h0:I s0 S0 w) (hS0:∀ k,S0 k→k<w.heap.size) (abH:∀ W,Ext w W→Pre W)
  (hA:∀ v x W W' b,A v x W→b≠x→Upd b W W'→A v x W')
  (y:∀ (l:Nat) (Q:Exit→Act→World→Prop) (i j:σ) (v:Value) (k:List It) (W:World),Next i v j→(∀ x W',W.heap.size≤x→Ext W W'→A v x W'→T (rCx C l Q) k (e1 v x) W')→T (rCx C l Q) (.code assign::k) ((p,v)::e) W)
  (M:∀ (l:Nat) (i:σ) (v:Value) (x:Nat) (j:σ) (S:Nat→Prop) (W:World),Next i v j→I i S W→A v x W→(∃ r,W.heap[l]?=some (.loop r))→S l→T (rCx C l (RQ I X j S W)) [.code body] (e1 v x) W)
  (hdone:∀ (S:Nat→Prop) (W:World),(∀ k,S0 k→S k)→(∀ k,E k→S k)→I sE S W→Z W→T { C with D:=dd++C.D } k e W)
  (hstop:∀ (c:Code) (S:Nat→Prop) (W:World),(∀ k,E k→S k)→X c S W→Z W→T { C with D:=dd++C.D } (.code c::k) e W) :
  T C (.code (.rangeFunc g #[p] assign body)::k) e w:=fun a ha=>by
 have YQ:∀ (D:List Deferred) (k:List It),run { C with D:=D } k=run C k:=by
  intro D k
  induction k with
  | nil=>rfl
  | cons it k ih=>cases it <;> simp only [run,ih]
 show (Code.rangeFunc g #[p] assign body).wpIn _ _ _ _ _ _
 refine wpIn_rangeFunc ?_
 intro fn ay
 obtain ⟨t,N,Y,hL1,az,am⟩:=U fn a.tmps
 obtain ⟨rec,f⟩:∃ rec:LoopState→Option Code→Loop,rec=fun st pe=>{ state:=st,pending:=pe,fn,tmps:=a.tmps,params:=#[p],assign,body,defers:=dfr }:=⟨_,rfl⟩
 replace hL1:t.heap[L]?=some (.loop (rec .ready none)):=by rw [f];exact hL1
 let Up (S:Nat→Prop):Nat→Prop:=fun k=>S k∨E k∨k=L
 refine ⟨L,dd,t,{ target:=.fn (.func gf) lb,args:=#[.func (.yield L) #[] #[]] },t,gf,#[.func (.yield L) #[] #[]]++lb,t,N,?_,fun _ _=>trivial,?_,spX,CallsIn.xG ?_⟩
 ·simp only [resolve,ha.eval hg]
  simp [go_sem]
 ·simp [invoke,go_sem,al]
 let J:σ→(Nat→Prop)→World→Prop:=fun i S W=>I i (Up S) W∧(∀ k,S k→¬ E k∧k≠L)∧(∀ k,S k→k<W.heap.size)∧W.heap[L]?=some (.loop (rec .ready none))∧Z W
 let X':World→Prop:=fun W=>∃ c S,X c (Up S) W∧W.heap[L]?=some (.loop (rec .done (some c)))∧Z W
 have hJ:Kz J:=by
  refine ⟨?_,?_⟩
  ·rintro i S S' W W' ⟨h1,hn,q,u,d⟩ R hS
   have O:=(Array.getElem?_eq_some_iff.1 u).1
   refine ⟨hI.1 i _ _ W W' h1 R ?_,fun k d=>?_,fun k d=>(hS k d).elim (fun h=>Nat.lt_of_lt_of_le (q k h) R.size) (fun h=>h.2),(R.block _ lzX O).trans u,hZ W W' (fun k d=>R.block k lzX (by have:=hE k d;omega)) d⟩
   ·rintro k (h|h)
    ·exact (hS k h).imp .inl id
    exact .inl (.inr h)
   rcases hS k d with h|h
   ·exact hn k h
   exact ⟨fun h2=>by have:=hE k h2;omega,omX⟩
  rintro i S W W' b ⟨h1,hn,q,u,d⟩ hb hu
  have aa:=hn b hb
  exact ⟨hI.2 i _ W W' b h1 (.inl hb) hu,hn,fun k d=>by rw [hu.size];exact q k d,(hu.block _ aa.2.symm).trans u,hZ W W' (fun k d=>hu.block k (by rintro rfl;exact aa.1 d)) d⟩
 have m:∀ {W:World} (o:Obj),Z W→Z (W.putObj L o):=fun o h=>hZ _ _ (fun k d=>World.putObj_heap_other (by have:=hE k d;omega)) h
 refine (V L J X' t hJ (fun i S W h=>hInv i _ W h.1) ?_ ⟨hI.1 _ _ _ w t h0 Y ?_,fun k h=>by have:=hS0 _ h;exact ⟨fun h2=>by have:=hE k h2;omega,omX⟩,fun k d=>by have:=hS0 k d;omega,hL1,am⟩ (abH _ Y)).mono ?_
 ·rintro i v j S W hn ⟨hi,hnS,q,u,d⟩
  have O:L<W.heap.size:=(Array.getElem?_eq_some_iff.1 u).1
  have hy:=run_yield (P:=C.P) (args:=#[v]) u (by rw [f];rfl)
  have an:(Instr.yield L #[v]).run C.P W = .ok (.round L fn (a.tmps.setIfInBounds p v) assign body) W:=by
   rw [hy,f];simp
  refine ⟨fn,_,assign,body,an,?_⟩
  have aaM:Sat C.n ((p,v)::e) { tmps:=a.tmps.setIfInBounds p v,defers:=[] }:=Sat.round (D:=a.defers) ha.sat hp
  have ab:=y L (fun _ _ _=>False) i j v [.hook (fun a' W'=>∃ x,W.heap.size≤x∧Ext W W'∧A v x W'∧Sat C.n (e1 v x) a'∧a'.defers = [])] W hn (fun x W' hx R hA a' ac=>⟨x,hx,R,hA,ac.sat,ac.defers⟩) _ ⟨aaM,rfl⟩
  refine roundIn_of_wpIn trivial ?_
  refine wpIn_mono ab ?_
  rintro ex a' W' hx
  cases ex with
  | normal =>
   obtain ⟨x,aA,z,ao,ap,aq⟩:=hx
   have ar:=hI.1 i _ (Up S) _ _ hi z (fun k d=>.inl d)
   have ad:=(z.block _ lzX O).trans u
   have au:=hZ W W' (fun k d=>z.block k lzX (by have:=hE k d;omega)) d
   have ae:L<W'.heap.size:=(Array.getElem?_eq_some_iff.1 ad).1
   refine ⟨_,run_beginRound ad (by rw [f]),?_⟩
   have af:(W'.putObj L (.loop { rec .ready none with state:=.busy })).heap[L]?=some (.loop { rec .ready none with state:=.busy }):=World.putObj_heap_same ae
   have av:=m (.loop { rec .ready none with state:=.busy }) au
   have ag:=fZ W' L (.loop { rec .ready none with state:=.busy })
   have aw:=hI.2 i _ _ _ _ ar (.inr (.inr rfl)) ag
   have hb:=M L i v x j (Up S) _ hn aw (hA _ _ _ _ _ ao omX ag) ⟨_,af⟩ (.inr (.inr rfl))
   refine wpIn_mono (hb a' ⟨ap,aq⟩) ?_
   have fin:∀ (jump:Option Code) (B:World),(∀ k,Up S k→B.heap[k]?=(W'.putObj L (.loop { rec .ready none with state:=.busy })).heap[k]?) →
     (Instr.endRound L jump).run C.P B = .ok (.bool jump.isNone) (B.putObj L (.loop (rec (if jump.isNone then .ready else .done) jump))) ∧
     (B.putObj L (.loop (rec (if jump.isNone then .ready else .done) jump))).heap[L]?=some (.loop (rec (if jump.isNone then .ready else .done) jump)) ∧
     Z (B.putObj L (.loop (rec (if jump.isNone then .ready else .done) jump))) ∧
     (∀ k,S k→(B.putObj L (.loop (rec (if jump.isNone then .ready else .done) jump))).heap[k]?=W'.heap[k]?):=fun jump B F=>by
    have ah:=(F _ (.inr (.inr rfl))).trans af
    have:=run_endRound (P:=C.P) jump ah
    refine ⟨by rw [f] at this ⊢;exact this,World.putObj_heap_same (Array.getElem?_eq_some_iff.1 ah).1,m _ (hZ _ _ (fun k d=>F k (.inr (.inl d))) av),fun k d=>?_⟩
    have ai:k≠L:=(hnS k d).2
    rw [World.putObj_heap_other ai,F k (.inl d),World.putObj_heap_other ai]
   rintro ex a3 B s
   cases ex with
   | normal =>
    obtain ⟨ax,F⟩:=s
    obtain ⟨G,H,K,aj⟩:=fin none B F
    refine ⟨_,_,G,.inl ⟨rfl,⟨hI.2 _ _ _ _ _ ax (.inr (.inr rfl)) (fZ _ _ _),hnS,fun k d=>?_,H,K⟩,fun k d=>?_⟩⟩
    ·have ak:=Nat.lt_of_lt_of_le (q k d) z.size
     have h:=aj k d
     rw [Array.getElem?_eq_getElem ak] at h
     exact (Array.getElem?_eq_some_iff.1 h).1
    rw [aj k d]
    exact z.block k lzX (q k d)
   | ret =>
    obtain ⟨G,H,K,_⟩:=fin (some .ret) B s.2
    exact ⟨_,_,G,.inr ⟨rfl,.ret,S,hX _ _ _ _ _ s.1 (.inr (.inr rfl)) (fZ _ _ _),H,K⟩⟩
   | exit id =>
    obtain ⟨G,H,K,_⟩:=fin (some (.exit id)) B s.2
    exact ⟨_,_,G,.inr ⟨rfl,.exit id,S,hX _ _ _ _ _ s.1 (.inr (.inr rfl)) (fZ _ _ _),H,K⟩⟩
   | _=>exact s.elim
  | _=>exact hx.elim
 ·rintro k (h|h)
  ·exact .inl h
  refine .inr ?_
  rcases h with h|rfl
  ·have:=hE k h;omega
  omega
 rintro en W2 hq
 cases en with
 | panicked c=>exact hq.elim
 | outgrown=>exact hq.elim
 | returned v =>
  have hfits:Fits { C with D:=dd++C.D } e { a with defers:=dd++a.defers }:=⟨⟨ha.sat.size,ha.sat.get⟩,by show _++a.defers=_;rw [ha.defers]⟩
  rcases hq with ⟨S,hS,hi,hnS,_,u,d⟩|⟨c,S,hi,u,d⟩
  ·refine ⟨none,_,by have:=run_endLoop (P:=C.P) u (by rw [f];simp);rw [f] at this;exact this,?_⟩
   have:=hdone (Up S) _ (fun k h=>.inl (hS k h)) (fun k h=>.inr (.inl h)) (hI.2 _ _ _ _ _ hi (.inr (.inr rfl)) (fZ _ L (.loop { rec .ready none with state:=.exhausted }))) (m _ d) _ hfits
   rw [YQ] at this
   rw [f] at this
   exact this
  refine ⟨some c,_,by have:=run_endLoop (P:=C.P) u (by rw [f];simp);rw [f] at this;exact this,?_⟩
  have:=hstop c (Up S) _ (fun k h=>.inr (.inl h)) (hX _ _ _ _ _ hi (.inr (.inr rfl)) (fZ _ L (.loop { rec .done (some c) with state:=.exhausted }))) (m _ d) _ hfits
  rw [show run { C with D:=dd++C.D } (.code c::k)=run C (.code c::k) from YQ _ _,f] at this
  exact this
end
theorem Blk.row (h:Blk w b cs t):Row w ⟨b,0,none⟩ cs:=Row.bI h
theorem Sl.at (h:Sl lo w v n sz cs) {u:Value} (a:cs[j+i]?=some u):w.cell? (((jX v).add j).add i)=some u:=by rw [add_add];exact h.cell a
def coll (ds:List Nat):List Deferred:=ds.map fun r=>{ target:=.collected r,args:=#[] }
def Opn (ds:List Nat) (w:World):Prop:=ds.Nodup∧∀ r∈ds,w.heap[r]?=some (.deferred (some []))
structure Shut (ds:List Nat) (w w':World):Prop where
 os:w'.os=w.os
 tape:w'.tape=w.tape
 output:w'.output=w.output
 size:w'.heap.size=w.heap.size
 block:∀ k,k∉ds→w'.heap[k]?=w.heap[k]?
theorem Keep.shut {a:World} (h:Keep lo w w1) (k:Shut ds w1 a) (b:∀ r∈ds,r<lo∨w.heap.size≤r):Keep lo w a :=
 ⟨k.os.trans h.os,k.tape.trans h.tape,k.output.trans h.output,by rw [k.size];exact h.size,fun i c hi=>(k.block i (fun d=>by have:=b i d;omega)).trans (h.block i c hi)⟩
abbrev wH (P:Program) (fn:Func) (n:Nat) (D:List Deferred) (R:Value→World→Prop):Cx:={ P:=P,r:=none,n:=n,D:=D,Q:=bodyPostM (FW none) 0 P fn (Ret R) }
theorem wI {f:FuncId} {c:Code} {R:Value→World→Prop} (hf:P.funcs[f]?=some fn) (hb:fn.body=some c) (hn:fn.ntmps=n) (a:Nat.ble vs.length n=true)
  (h:T (wH P fn n (coll []) R) [.code c] (xH 0 vs) w):Calls P f vs.toArray w (Ret R):=by
 refine (callsIn_wide (n:=0)).1 (callsIn_of_wp_marks hf hb trivial ?_ rfl)
 have g:vs.length≤n:=by simpa [Nat.ble_eq] using a
 refine h _ ⟨⟨by simp [hn];omega,fun i v hi=>?_⟩,rfl⟩
 obtain ⟨_,b⟩:=l9 vs 0 i v hi
 have d:i<vs.length:=by
  rcases Nat.lt_or_ge i vs.length with e | e
  ·exact e
  rw [Nat.sub_zero,List.getElem?_eq_none e] at b;cases b
 rw [Array.getElem?_append_left (by simpa using d)]
 simpa using b
theorem Ai {P:Program} {fn:Func} {tmps:Array Value} {R:Value→World→Prop} {v:Value} : ∀ (ds:List Nat) (w:World),Opn ds w→(∀ w',Shut ds w w'→(results fn tmps).run P w' = .ok v w'∧R v w') →
  LeavesInM (FW none) 0 P fn tmps (Ret R) (coll ds) .returning w
 | [],w,_,h=>by
  obtain ⟨c,d⟩:=h w ⟨rfl,rfl,rfl,rfl,fun _ _=>rfl⟩
  exact ⟨v,c,d⟩
 | r::ds,w,ho,h=>by
  refine ⟨spX,.inl ⟨r,_,rfl,run_takeDeferred (ho.2 r (List.mem_cons_self ..)),?_⟩⟩
  have hn:=List.nodup_cons.1 ho.1
  refine Ai ds _ ⟨hn.2,fun x hx=>?_⟩ fun w' a=>h w' ?_
  ·rw [World.putObj_heap_other (by rintro rfl;exact hn.1 hx)];exact ho.2 x (List.mem_cons_of_mem _ hx)
  refine ⟨a.os,a.tape,a.output,by rw [a.size];simp,fun k b=>?_⟩
  rw [List.mem_cons,not_or] at b
  rw [a.block k b.2,World.putObj_heap_other b.1]
section
variable {C:Cx} {k:List It} {e:Env} {w:World} {K:Value→World→Prop} {d:Option Tmp} {ty:TypeId} {pos:String} {aft:Array Edge} {g:Option (Nat × Bool)}
variable {x y z:Operand} {t:TypeId}
theorem jh {R:Value→World→Prop} {s s':Tmp} {t':TypeId} {i a2:Addr} {d:Value} (b:fn.results=#[.cell s t,.cell s' t']) (j:∀ w,(isAgg t).run P w = .ok false w) (f:∀ w,(isAgg t').run P w = .ok false w)
  (hs:look e s=some (.pointer (some i))) (g:look e s'=some (.pointer (some a2))) (ho:Opn ds w) (l:∀ w',Shut ds w w'→w'.cell? i=some v∧w'.cell? a2=some d) (h:∀ w',Shut ds w w'→R (.tuple #[v,d]) w'):T (wH P fn n (coll ds) R) (.code .ret::k) e w :=
 lq fun a ha=>by
  show LeavesInM _ _ _ _ _ _ a.defers _ _
  rw [ha.defers]
  refine Ai (v:=.tuple #[v,d]) ds w ho fun w' c=>⟨?_,h w' c⟩
  have m:=ha.sat.get s _ hs
  have o:=ha.sat.get s' _ g
  obtain ⟨c1,c2⟩:=l w' c
  simp [results,b,Array.getD_eq_getD_getElem?,m,o,loadVar,asAddr,j,f,c1,c2]
theorem xJ (C:Cx) (D:List Deferred):∀ k,run { C with D:=D } k=run C k
 | []=>rfl
 | .code _::k=>by simp only [run,xJ C D k]
 | .blk _::k=>by simp only [run,xJ C D k]
 | .hook _::k=>by simp only [run,xJ C D k]
theorem eY {l:Nat} {I:σ→(Nat→Prop)→World→Prop} {X:Code→(Nat→Prop)→World→Prop} {j:σ} {S:Nat→Prop} {W W':World} (h:I j S W'∧∀ k,S k→W'.heap[k]?=W.heap[k]?):T (rCx C l (RQ I X j S W)) [] e W':=fun a _=>h
theorem iw {l:Nat} {I:σ→(Nat→Prop)→World→Prop} {X:Code→(Nat→Prop)→World→Prop} {j:σ} {S:Nat→Prop} {W W':World} (h:X .ret S W'∧∀ k,S k→W'.heap[k]?=W.heap[k]?):T (rCx C l (RQ I X j S W)) (.code .ret::k) e W':=lq fun a _=>h
theorem gZ {R:Value→World→Prop} (I:σ→(Nat→Prop)→World→Prop) (X:Code→(Nat→Prop)→World→Prop) {g:Operand} {p:Tmp} {assign body:Code} {gf:FuncId} {lb:Array Value} {Next:σ→Value→σ→Prop} {t sE:σ}
  {Inv:World→Prop} {S0:Nat→Prop} {Pre:World→Prop} {e1:Value→Nat→Env} (A:Value→Nat→World→Prop) (u:ev e g=some (.func (.func gf) #[] lb)) (m:∀ args w,(callFunc gf args).run P w = .ok (.enter gf args) w) (y:iD n (some p)=true)
  (f:aex P gf lb Next t sE Inv S0 Pre) (hI:Kz I) (hX:∀ c S W W' b,X c S W→S b→Upd b W W'→X c S W') (hInv:∀ i S W,I i S W→Inv W) (h0:I t S0 w) (hS0:∀ k,S0 k→k<w.heap.size) (abH:∀ W,Ext w W→Pre W)
  (hA:∀ v x W W' b,A v x W→b≠x→Upd b W W'→A v x W')
  (a:∀ (l:Nat) (Q:Exit→Act→World→Prop) (i j:σ) (v:Value) (k:List It) (W:World),Next i v j→(∀ x W',W.heap.size≤x→Ext W W'→A v x W'→T (rCx (wH P fn n (coll ds) R) l Q) k (e1 v x) W')→T (rCx (wH P fn n (coll ds) R) l Q) (.code assign::k) ((p,v)::e) W)
  (d:∀ (l:Nat) (i:σ) (v:Value) (x:Nat) (j:σ) (S:Nat→Prop) (W:World),Next i v j→I i S W→A v x W→(∃ r,W.heap[l]?=some (.loop r))→S l→T (rCx (wH P fn n (coll ds) R) l (RQ I X j S W)) [.code body] (e1 v x) W)
  (hdone:∀ (S:Nat→Prop) (D:Nat) (W:World),D=w.heap.size→(∀ k,S0 k→S k)→S D→I sE S W→W.heap[D]?=some (.deferred (some []))→T (wH P fn n (coll (D::ds)) R) k e W)
  (hstop:∀ (c:Code) (S:Nat→Prop) (D:Nat) (W:World),D=w.heap.size→S D→X c S W→W.heap[D]?=some (.deferred (some []))→T (wH P fn n (coll (D::ds)) R) (.code c::k) e W) :
  T (wH P fn n (coll ds) R) (.code (.rangeFunc g #[p] assign body)::k) e w :=
 tZ (C:=wH P fn n (coll ds) R) I X A (L:=w.heap.size+1) (dfr:=w.heap.size) (dd:=[{ target:=.collected w.heap.size,args:=#[] }]) (E:=fun k=>k=w.heap.size) (Z:=fun W=>W.heap[w.heap.size]?=some (.deferred (some [])))
  (fun fn tmps=>⟨(w.alloc (.deferred (some []))).alloc (.loop { state:=.ready,pending:=none,fn,tmps,params:=#[p],assign,body,defers:=w.heap.size }),run_enterLoop_outer _ _ _ _ _,(Keep.alloc 0 w _).trans (Keep.alloc 0 _ _),by have:=World.alloc_heap_new (w.alloc (.deferred (some []))) (.loop { state:=.ready,pending:=none,fn,tmps,params:=#[p],assign,body,defers:=w.heap.size });rwa [World.size_alloc] at this,spX,(Below.heap_alloc _ _ _ spX).trans (World.alloc_heap_new w _)⟩)
  (Nat.le_succ _) (fun k h=>by subst h;exact ⟨Nat.le_refl _,Nat.lt_succ_self _⟩) (fun W W' h z=>(h _ rfl).trans z) u m y f hI hX hInv h0 hS0 abH hA a d (fun S W B o q s=>hdone S _ W rfl B (o _ rfl) q s) (fun c S W o q s=>hstop c S _ W rfl (o _ rfl) q s)
theorem Opn.nil (w:World):Opn [] w:=⟨List.nodup_nil,fun _ h=>by cases h⟩
theorem Opn.ext {w':World} (h:Opn ds w) (k:Ext w w'):Opn ds w':=⟨h.1,fun r a=>k.blk lzX (h.2 r a)⟩
theorem Opn.upd {w':World} (h:Opn ds w) (k:Upd b w w') (hb:∀ r∈ds,r≠b):Opn ds w':=⟨h.1,fun r a=>k.blk (hb r a) (h.2 r a)⟩
theorem Opn.cons {D:Nat} (h:Opn ds w) (hD:w.heap[D]?=some (.deferred (some []))) (hn:D∉ds):Opn (D::ds) w:=⟨List.nodup_cons.2 ⟨hn,h.1⟩,fun r a=>(List.mem_cons.1 a).elim (fun e=>e▸hD) (h.2 r)⟩
theorem Opn.lt (h:Opn ds w):∀ r∈ds,r<w.heap.size:=fun r a=>(Array.getElem?_eq_some_iff.1 (h.2 r a)).1
theorem dO {kd a:IntKind} {m':Int} {src dst:TypeId} (hx:ev e x=some (.int kd m)) (hs:∀ w,∃ ds,(underlying src).run C.P w = .ok ds w) (b:∀ w,(underlying dst).run C.P w = .ok (.int a) w) (c:a.wrap m=m') (h:K (.int a m') w) :
  O C e ⟨d,.convert src dst x,ty,pos,aft,g⟩ w K:=U7 hx hs b (c▸h)
theorem aK {off:Nat} {tb:TypeId} (hs:∀ w,(sizeOf t).run C.P w = .ok n w) (hn:vs.length=n) (hx:ev e x=some (.pointer (some ⟨b,off,none⟩))) (hy:ev e y=some (.agg vs.toArray)) (hb:Blk w b cs tb)
  (a:off+n≤cs.length) (f:∀ u∈vs,u.oneCell'=true) (h:∀ w',Upd b w w'→Blk w' b (cs.take off++vs++cs.drop (off+n)) tb→K undef w'):O C e ⟨d,.store t x y,ty,pos,aft,g⟩ w K:=by
 subst hn
 refine O.store (v:=.agg vs.toArray) (by simpa [Value.cells] using hs) hx hy hb (by simpa [Value.cells] using a) (by simpa [Value.cells] using f) ?_
 intro w' i c
 refine h w' i ?_
 simpa [Value.cells] using c
theorem jr {oa:Option Addr} {len cap:Nat} {kd:IntKind} (b:∀ w,(underlying t).run C.P w = .ok (.slice el) w) (hs:∀ w,(sizeOf el).run C.P w = .ok sz w) (hx:ev e x=some (.slice oa len cap)) (hy:ev e y=some (.int kd m)) (h0:0≤m) (c:m≤cap)
  (h:K (.slice oa m.toNat cap) w):O C e ⟨d,.slice t x none (some y) none,ty,pos,aft,g⟩ w K :=
 bD spX (fun a ha=>by
  simp [execOp,Instr.sliceAt,Instr.slice,Instr.sliceBounds,Instr.sliceBound,asIntOf,ha.eval hx,ha.eval hy,b w,hs w,h0,c,Addr.add]) h
theorem E8 {s:ByteArray} {kd:IntKind} {b:UInt8} (c:∀ w,(underlying t).run C.P w = .ok .string w) (hx:ev e x=some (.string s)) (hy:ev e y=some (.int kd m)) (h0:0≤m) (hb:s[m.toNat]?=some b) (h:K (.int .u8 b.toNat) w) :
  O C e ⟨d,.index t x y,ty,pos,aft,g⟩ w K :=
 bD spX (fun a ha=>by
  simp [execOp,Instr.index,asIntOf,ha.eval hx,ha.eval hy,c w,h0,hb]) h
end
theorem KA (w:World) (base:Nat) (t ty e:TypeId) (i:TypeInfo) (z:Value) (size bytes:Nat) (p:P.underlying t=some (.slice e)) (hi:P.info? e=some i) (y:i.zero=some z)
  (hsize:i.size=size) (q:i.bytes=bytes) (B:z.cells.size=size) (C:0<size) (v:Value) (n:Nat) (xs:List Value) (d:w.ownsRow base e size v n xs)
  (a:Addr) (m c:Nat) (news:List Value) (l:news.length=m*size) (hnews:∀ j u,news[j]?=some u→w.cell? (a.add j)=some u) (D:∀ u∈news,u.oneCell'=true)
  (r:n+m≤maxLen) (b:(n+m)*bytes≤140737488355328) {A:Value} {w':World} (f:(Builtin.append_ #[t,t] ty #[v,.slice (some a) m c]).run P w = .ok A w') :
  ∀ j,A.ownBlock=some j→v.ownBlock=some j∨w.heap.size≤j:=by
 subst hsize
 subst q
 have hsmall:n+m≤9223372036854775807:=by simp only [maxLen] at r;omega
 rcases d.2 with ⟨rfl,rfl⟩|⟨g,cap,cur,rfl,E,F,G,H,s,x⟩
 ·by_cases I:m=0
  ·subst I
   have hn:news = []:=List.eq_nil_of_length_eq_zero (by simpa using l)
   subst hn
   have h:(Builtin.append_ #[t,t] ty #[.slice none 0 0,.slice (some a) 0 c]).run P w = .ok (.slice none 0 0) w:=by
    simp [Builtin.append_,run_underlying p,sizeOf,typeInfo,hi,Builtin.lenOf,Builtin.firstCells,loadCells,loadCellsFrom]
   rw [h] at f
   cases f
   intro j k;cases k
  have h:=run_append_nil (P:=P) w t ty e i z p hi y a m c news l hnews omX omX (by have hb:=b;simp only [Nat.zero_add] at hb;omega)
  rw [h] at f
  cases f
  intro j k;cases k;exact .inr leX
 by_cases hroom:n+m≤cap
 ·have o:n*i.size+news.length≤cur.size:=by rw [l,s,← Nat.add_mul];exact Nat.mul_le_mul_right _ hroom
  have h:=run_append_room (P:=P) w t ty e i p hi g n cap cur F a m c news l hnews D hroom o
  rw [h] at f
  cases f
  intro j k;exact .inl k
 have holds:∀ j u,xs[j]?=some u→w.cell? ((⟨g,0,none⟩:Addr).add j)=some u:=d.cells (g:=g) rfl
 have h:=run_append_grow (P:=P) w t ty e i z p hi y ⟨g,0,none⟩ n cap xs d.1 holds a m c news l hnews omX omX (growslice_fits omX b)
 rw [h] at f
 cases f
 intro j k;cases k;exact .inr leX
theorem qG {xs:List Value} (h:w.ownsRow base el sz v n xs) (a:v.ownBlock=some j):base≤j∧j<w.heap.size:=by
 rcases h.2 with ⟨hv,_⟩|⟨g,cap,cur,hv,hb,b,_⟩
 ·subst hv;cases a
 subst hv;cases a;exact ⟨hb,(Array.getElem?_eq_some_iff.1 b).1⟩
theorem Blk.grown {w':World} {row:Option Nat} (h:Blk w b cs t) (hG:w.grownBy w' row) (a:∀ j,row=some j→j≠b):Blk w' b cs t :=
 (hG.block b h.lt (fun e=>a b e.symm rfl)).trans h
section ops
variable {C:Cx} {e:Env} {w:World} {K:Value→World→Prop} {d:Option Tmp} {ty:TypeId} {pos:String} {aft:Array Edge} {g:Option (Nat × Bool)}
variable {x y:Operand} {t:TypeId}
theorem iQ {i:TypeInfo} {zv:Value} {size bytes:Nat} (F:∀ w,(underlying t).run C.P w = .ok (.slice el) w) (hi:C.P.info? el=some i) (u:i.zero=some zv)
  (hsize:i.size=size) (k:i.bytes=bytes) (l:zv.cells.size=size) (o:0<size) {v:Value} {n m c:Nat} {xs news:List Value} {ad:Addr}
  (hx:ev e x=some v) (hy:ev e y=some (.slice (some ad) m c)) (f:w.ownsRow base el size v n xs) (z:news.length=m*size) (A:Row w ad news) (B:∀ c∈news,c.oneCell'=true) (b:(n+m)*bytes≤140737488355328) (p:n+m≤maxLen) (hbase:base≤w.heap.size)
  (h:∀ r w',w'.ownsRow base el size r (n+m) (xs++news)→w.grownBy w' v.ownBlock→(∀ j,r.ownBlock=some j→v.ownBlock=some j∨w.heap.size≤j)→K r w') :
  O C e ⟨d,.call { callee:=.builtin .append,args:=#[x,y],argTypes:=#[t,t] },ty,pos,aft,g⟩ w K:=by
 have s:C.P.underlying t=some (.slice el):=by
  have:=F w
  simp only [underlying,Sem.run_bind,run_program,Result.andThen_ok] at this
  cases D:C.P.underlying t with
  | none=>simp [D,stuck] at this
  | some q=>simp [D] at this;rw [this]
 obtain ⟨r,w',E,G,H,_⟩:=run_append_own (P:=C.P) w base t ty el i zv size bytes s hi u hsize k l o v n xs f ad m c news z A B p b hbase
 have I:=KA (P:=C.P) w base t ty el i zv size bytes s hi u hsize k l o v n xs f ad m c news z A B p b E
 exact bD spX (fun a ha=>by simp [execOp,resolve,invoke,builtin,ha.eval hx,ha.eval hy,E]) (h r w' G H I)
end ops
section ops
variable {C:Cx} {e:Env} {w:World} {K:Value→World→Prop} {d:Option Tmp} {ty:TypeId} {pos:String} {aft:Array Edge} {g:Option (Nat × Bool)}
variable {x y z:Operand} {t kt vt:TypeId}
theorem dL {d:TypeDesc} (h:∀ w,(underlying t).run P w = .ok d w):P.underlying t=some d:=by
 have:=h default
 simp only [underlying,Sem.run_bind,run_program,Result.andThen_ok] at this
 cases a:P.underlying t with
 | none=>simp [a,stuck] at this
 | some q=>simp [a] at this;rw [this]
end ops
def ObK (C:Cx) (ops:Array Oper) (e:Env) (o:Oper) (f:Fact) (w:World) (J:World→Prop):Prop :=
 (fF ops e o=some true∧O C e o w (fun v w'=>J w'∧f.holds v w'))∨(fF ops e o=some false∧f.holds undef w∧J w)
theorem ObK.op {C:Cx} {ops:Array Oper} {o:Oper} {f:Fact} {J:World→Prop} (a:fF ops e o=some true) (h:O C e o w (fun v w'=>J w'∧f.holds v w')):ObK C ops e o f w J:=.inl ⟨a,h⟩
section
variable {C:Cx} {k:List It} {l:List Oper} {fs:List Fact} {e:Env} {w:World} {S:List Nat} {e':Env} {Inv:Nat→World→Prop} {ch:List (Option Nat)}
end
theorem jZ {k:List It} {m:Nat} {R:Value→World→Prop} {s:Tmp} {ad:Addr} (b:fn.results=#[.cell s t]) (c:∀ w,(isAgg t).run P w = .ok true w) (hs:∀ w,(sizeOf t).run P w = .ok m w) (hn:cs.length=m)
  (hv:look e s=some (.pointer (some ad))) (d:Row w ad cs) (h:R (.agg cs.toArray) w):T (YP P fn n R) (.code .ret::k) e w :=
 lq fun a ha=>bodyPost_ret (v:=.agg cs.toArray) (by
  subst hn
  have f:=ha.sat.get s _ hv
  simp [results,b,Array.getD_eq_getD_getElem?,f,loadVar,asAddr,c,hs,run_loadCells_list w ad cs d]) ha.defers h
section ops
variable {C:Cx} {e:Env} {w:World} {K:Value→World→Prop} {d:Option Tmp} {ty:TypeId} {pos:String} {aft:Array Edge} {g:Option (Nat × Bool)}
variable {x y:Operand} {tx ty':TypeId}
theorem KC {yk:IntKind} {a s:Nat} (hx:ev e x=some (.int .i64 a)) (hy:ev e y=some (.int yk s)) (hs:s<64) (h:K (.int .i64 ((a / 2 ^ s:Nat):Int)) w) :
  O C e ⟨d,.binOp .shr tx x y ty',ty,pos,aft,g⟩ w K:=YO hx hy (Int.natCast_nonneg _) (by
 have e1:((2:Int) ^ Min.min ((s:Int)).toNat IntKind.i64.bits)=((2 ^ s:Nat):Int):=by
  rw [Int.toNat_natCast,show IntKind.i64.bits=64 from rfl,Nat.min_eq_left omX];simp
 have b:((a:Int)).fdiv ((2 ^ s:Nat):Int)=((a / 2 ^ s:Nat):Int):=by rw [Int.fdiv_eq_ediv_of_nonneg _ (Int.natCast_nonneg _)];rfl
 rw [e1,b];exact h)
theorem uf {o:Nat} {tb:TypeId} (hs:∀ w,(sizeOf t).run C.P w = .ok 1 w) (c:v.oneCell'=true) (hx:ev e x=some (.pointer (some (((⟨b,o,none⟩:Addr).add j).add i)))) (hy:ev e y=some v) (hb:Blk w b cs tb)
  (a:o+(j+i)<cs.length) (h:∀ w',Upd b w w'→Blk w' b (cs.set (o+(j+i)) v) tb→K undef w'):O C e ⟨d,.store t x y,ty,pos,aft,g⟩ w K :=
 bV hs c (by rw [hx,add_add]) hy hb a h
end ops
def Cb (Rel:World→World→Prop):List Fact→Prop
 | []=>True
 | .is _::r=>Cb Rel r
 | .such φ::r=>(∀ v w w',Rel w w'→φ v w→φ v w')∧Cb Rel r
theorem BA {Rel:World→World→Prop} : ∀ {fs:List Fact},Cb Rel fs→∀ (i:Nat) (f:Fact),fs[i]?=some f→∀ v w w',Rel w w'→f.holds v w→f.holds v w'
 | .is u::fs,h,0,a,hf=>by simp at hf;subst hf;exact fun v w w' _ b=>b
 | .is u::fs,h,i+1,a,hf=>BA (fs:=fs) h i a (by simpa using hf)
 | .such _::fs,h,0,a,hf=>by simp at hf;subst hf;exact h.1
 | .such _::fs,h,i+1,a,hf=>BA h.2 i a (by simpa using hf)
 | [],_,i,_,hf=>by simp at hf
def abI (G:Nat→Oper→Fact→List Nat→Option Nat→Prop):Nat→List Oper→List Fact→List (List Nat)→List (Option Nat)→Prop
 | i,o::os,f::fr,ds::dr,q::ch=>G i o f ds q∧abI G (i+1) os fr dr ch
 | _,_,_,_,_=>True
theorem y8 {G:Nat→Oper→Fact→List Nat→Option Nat→Prop} {o:Oper} {f:Fact} {d:List Nat} {q:Option Nat} : ∀ {i i0:Nat} {os:List Oper} {fr:List Fact} {dr:List (List Nat)} {ch:List (Option Nat)},abI G i0 os fr dr ch→os[i]?=some o→fr[i]?=some f→dr[i]?=some d→ch[i]?=some q→G (i0+i) o f d q
 | i,i0,os,fr,dr,ch,h,ho,hf,a,b=>by
  cases os with
  | nil=>simp at ho
  | cons o' os =>
   cases fr with
   | nil=>simp at hf
   | cons c fr =>
    cases dr with
    | nil=>simp at a
    | cons d' dr =>
     cases ch with
     | nil=>simp at b
     | cons q' ch =>
      cases i with
      | zero=>simp at ho hf a b;subst ho hf a b;exact h.1
      | succ i =>
       rw [show i0+(i+1)=i0+1+i by omega]
       exact y8 h.2 (by simpa using ho) (by simpa using hf) (by simpa using a) (by simpa using b)
def nx:Option Nat→Nat→Nat
 | some _,c=>c+1
 | none,c=>c
def wt (A:List (List Nat)) (i j:Nat):Bool:=match A[i]? with|some s=>s.contains j|none=>false
def Cc (l:List Oper) (A:List (List Nat)):Bool :=
 (l.zipIdx.all fun (o,i)=>match A[i]? with|some s=>s.all fun j=>o.after.toList.any fun e=>Region.binds .any e && (e.on == j || wt A e.on j)|none=>true)
def Ih (n:Nat) (l:List Oper) (m:Nat) (ds:List (List Nat)) (S:List Nat) (A:List (List Nat)):Bool :=
 let dst (j:Nat):Option Tmp:=(l[j]?).bind (·.dst)
 let pre:=(List.range m).filterMap dst
 (l.zipIdx.all fun (o,i)=>o.after.toList.all fun e=>!Region.binds .any e || decide (e.on<i)) &&
 decide (m≤l.length) && decide (ds.length=m) &&
 (l.all fun o=>iD n o.dst) &&
 ((List.range m).all fun j=>(List.range m).all fun i=>i == j || (match dst i,dst j with|some a,some b=>a != b|_,_=>true)) &&
 ((ds.zipIdx).all fun (d,i)=>d.all fun j=>decide (j<m) && wt A i j) &&
 (S.all fun s=>!pre.contains s) &&
 (l.zipIdx.all fun (o,i)=>decide (i<m) || (List.range i).all fun j=>wt A i j)
def oz (A:List (List Nat)) (m:Nat) (ch:List (Option Nat)) (len:Nat):Bool :=
 decide (ch.length=m) &&
 ((List.range ch.length).all fun i=>match ch[i]? with|some (some p)=>decide (p<len) && ((List.range len).all fun q=>!decide (q<p) || ((List.range ch.length).any fun j=>(ch[j]? == some (some q)) && wt A i j))|_=>true) &&
 ((List.range ch.length).all fun i=>(List.range ch.length).all fun j=>match ch[i]?,ch[j]? with|some (some p),some (some q)=>!(p == q) || i == j|_,_=>true) &&
 ((List.range len).all fun q=>(List.range ch.length).any fun j=>ch[j]? == some (some q))
abbrev BD:=Nat→Option Value
def upV (σ:BD) (i:Nat) (v:Value):BD:=fun j=>bif Nat.beq i j then some v else σ j
theorem oC (σ:BD) (i:Nat) (v:Value):upV σ i v i=some v:=by simp [upV]
theorem qH (σ:BD) (v:Value) (h:i≠j):upV σ i v j=σ j:=by simp [upV,rF h]
def Links (l:List Oper) (σ:BD) (en:Env) (ds:List Nat):Prop:=∀ j∈ds,∀ oj d,l[j]?=some oj→oj.dst=some d→look en d=σ j
def ObG (C:Cx) (ops:Array Oper) (e:Env) (o:Oper) (f:Fact) (w:World) (J:Value→World→Prop):Prop :=
 (fF ops e o=some true∧O C e o w (fun v w'=>J v w'∧f.holds v w'))∨(fF ops e o=some false∧f.holds undef w∧J undef w)
theorem ObG.op {C:Cx} {ops:Array Oper} {o:Oper} {f:Fact} {J:Value→World→Prop} (a:fF ops e o=some true) (h:O C e o w (fun v w'=>J v w'∧f.holds v w')):ObG C ops e o f w J:=.inl ⟨a,h⟩
def Made (σ:BD) (ds:List Nat):Prop:=∀ j∈ds,∃ v,σ j=some v
def agS (C:Cx) (k:List It) (e:Env) (o:Oper) (w:World):Prop:=∀ a,Fits C e a→∀ next,o.wpIn (FW C.r) 0 C.P a w next (run C k)
theorem Vd {en:Env} {d:Nat} (h:look en d=some v):look (en++e) d=some v:=by
 induction en with
 | nil=>cases h
 | cons p r ih =>
  obtain ⟨s,u⟩:=p
  simp only [List.cons_append,look] at h ⊢
  cases a:s.beq d
  ·rw [a] at h;exact ih h
  rw [a] at h;exact h
theorem Ii {w:World} {a:Act} {e:Env} : ∀ (fs:List (Option Tmp × Fact)) (K:Env→Prop),Bind w fs K→(∀ p∈fs,∃ v,(∀ d,p.1=some d→a.tmps[d]?=some v)∧p.2.holds v w) →
  ∃ en,K en∧(∀ i v,look (en++e) i=some v→a.tmps[i]?=some v∨(look e i=some v∧∀ p∈fs,p.1≠some i))∧∀ p∈fs,∀ d,p.1=some d→∃ v,look en d=some v
 | [],K,h,_=>⟨[],h,fun i v hi=>.inr ⟨hi,fun p b=>by cases b⟩,fun p b=>by cases b⟩
 | (d,f)::r,K,h,b=>by
  obtain ⟨v,hv,t⟩:=b _ (List.mem_cons_self ..)
  have l:∀ en:Env,(∀ i v,look (en++e) i=some v→a.tmps[i]?=some v∨(look e i=some v∧∀ p∈r,p.1≠some i)) →
    ∀ i u,look (lW d v en++e) i=some u→a.tmps[i]?=some u∨(look e i=some u∧∀ p∈(d,f)::r,p.1≠some i):=fun en g i u hi=>by
   cases d with
   | none =>
    rcases g i u hi with j|⟨j,m⟩
    ·exact .inl j
    refine .inr ⟨j,fun p b=>?_⟩
    rcases List.mem_cons.1 b with rfl|b
    ·simp
    exact m p b
   | some d =>
    simp only [lW,List.cons_append,look] at hi
    by_cases n:d=i
    ·subst n;simp at hi;subst hi;exact .inl (hv d rfl)
    rw [rF n] at hi
    rcases g i u hi with j|⟨j,m⟩
    ·exact .inl j
    refine .inr ⟨j,fun p b=>?_⟩
    rcases List.mem_cons.1 b with rfl|b
    ·simpa using n
    exact m p b
  have alF:∀ en:Env,(∀ p∈r,∀ d,p.1=some d→∃ v,look en d=some v)→∀ p∈(d,f)::r,∀ d',p.1=some d'→∃ u,look (lW d v en) d'=some u:=fun en g p c d' k=>by
   cases d with
   | none =>
    rcases List.mem_cons.1 c with rfl|c
    ·cases k
    exact g p c d' k
   | some d =>
    simp only [lW,look]
    by_cases o:d=d'
    ·subst o;exact ⟨v,spX⟩
    rw [rF o]
    rcases List.mem_cons.1 c with rfl|c
    ·exact absurd (Option.some.inj k) o
    exact g p c d' k
  cases f with
  | is u =>
   obtain rfl:v=u:=t
   obtain ⟨en,j,m,s⟩:=Ii r _ h (fun p q=>b p (List.mem_cons_of_mem _ q))
   exact ⟨_,j,l en m,alF en s⟩
  | such φ =>
   obtain ⟨en,j,m,s⟩:=Ii r _ (h v t) (fun p q=>b p (List.mem_cons_of_mem _ q))
   exact ⟨_,j,l en m,alF en s⟩
section
variable {C:Cx} {k:List It} {l:List Oper} {m:Nat} {fs:List Fact} {e:Env} {w:World} {S:List Nat} {e':Env} {ch:List (Option Nat)}
structure QA (C:Cx) (l:List Oper) (m:Nat) (fs:List Fact) (e:Env) (Inv:Nat→BD→World→Prop) (ch:List (Option Nat)) (len c:Nat) (σ:BD) (listed:Array Bool) (a:Act) (w1:World):Prop where
 size:listed.size=l.length
 closed:∀ (i:Nat) (o:Oper),l[i]?=some o→listed[i]?=some true→∀ x∈o.after,Region.binds .any x=true→listed.getD x.on false=true
 far:c≤len
 inv:Inv c σ w1
 link:∀ j p:Nat,ch[j]?=some (some p)→(listed[j]?=some true↔p<c)
 none':∀ j,¬ listed[j]?=some true→σ j=none
 defers:a.defers=C.D
 YR:a.tmps.size=C.n
 base:∀ (i:Nat) (v:Value),look e i=some v→(∀ (j:Nat) (o:Oper),j<m→l[j]?=some o→o.dst≠some i)→a.tmps[i]?=some v
 tail:∀ j,m≤j→j<l.length→listed[j]?=some false
 done:∀ (j:Nat) (o:Oper),j<m→l[j]?=some o→listed[j]?=some true→∃ v,σ j=some v∧(∀ d,o.dst=some d→a.tmps[d]?=some v)∧∀ f,fs[j]?=some f→f.holds v w1
theorem Ce {listed:Array Bool} (h:listed.getD i false=true):listed[i]?=some true:=by
 rw [Array.getD_eq_getD_getElem?] at h
 cases a:listed[i]? with
 | none=>simp [a] at h
 | some b=>simp [a] at h;rw [h]
theorem Ve {A:List (List Nat)} (hA:Cc l A=true) {listed:Array Bool} (i:Nat) (o:Oper) (ho:l[i]?=some o) (b:∀ x∈o.after,Region.binds .any x=true→listed.getD x.on false=true) (j:Nat) (d:wt A i j=true)
  (h:∀ x∈o.after,Region.binds .any x=true→wt A x.on j=true→listed[j]?=some true):listed[j]?=some true:=by
 have e:=List.all_eq_true.1 hA (o,i) (by rw [List.mem_zipIdx_iff_getElem?];exact ho)
 unfold wt at d
 simp only at e
 cases g:A[i]? with
 | none=>simp [g] at d
 | some s =>
  simp only [g] at e d
  have k:=List.all_eq_true.1 e j (by simpa using d)
  obtain ⟨x,hx,a⟩:=List.any_eq_true.1 k
  simp only [Bool.and_eq_true,Bool.or_eq_true,beq_iff_eq] at a
  have c:=Array.mem_toList_iff.1 hx
  rcases a.2 with f|f
  ·subst f;exact Ce (b x c a.1)
  exact h x c a.1 f
theorem KD {A:List (List Nat)} (hA:Cc l A=true) (b:∀ i o,l[i]?=some o→∀ x∈o.after,Region.binds .any x=true→x.on<i) {listed:Array Bool}
  (f:listed.size=l.length) (g:∀ (i:Nat) (o:Oper),l[i]?=some o→listed[i]?=some true→∀ x∈o.after,Region.binds .any x=true→listed.getD x.on false=true) :
  ∀ (n i:Nat) (o:Oper),i≤n→l[i]?=some o→(∀ x∈o.after,Region.binds .any x=true→listed.getD x.on false=true)→∀ j,wt A i j=true→listed[j]?=some true:=by
 intro n
 induction n with
 | zero =>
  intro i o hi ho a j e
  exact Ve hA i o ho a j e fun x hx hb=>by have:=b i o ho x hx hb;omega
 | succ n ih =>
  intro i o hi ho a j e
  refine Ve hA i o ho a j e fun x hx hb h=>?_
  have k:=b i o ho x hx hb
  have c:=Ce (a x hx hb)
  have d:x.on<l.length:=by have:=(Array.getElem?_eq_some_iff.1 c).1;omega
  exact ih x.on l[x.on] omX (List.getElem?_eq_getElem d) (g x.on _ (List.getElem?_eq_getElem d) c) j h
theorem Gf {A:List (List Nat)} (hA:Cc l A=true) (F:∀ i,m≤i→i<l.length→∀ j,j<i→wt A i j=true)
  (d:∀ i o,l[i]?=some o→∀ x∈o.after,Region.binds .any x=true→x.on<i) {Q:Exit→Act→World→Prop} :
  ∀ (r p:Nat) (listed:Array Bool) (a:Act) (w1:World),p+r=l.length→m≤p→listed.size=l.length→(∀ j,j<p→listed[j]?=some true)→(∀ j,p≤j→j<l.length→listed[j]?=some false) →
   wpListIn (FW C.r) 0 C.P l.toArray Q (l.drop p) a w1→∀ fuel,r≤fuel→wpAnyIn (FW C.r) 0 C.P .any l.toArray Q fuel listed a w1:=by
 intro r
 induction r with
 | zero =>
  intro p listed a w1 G H hs e f h fuel _
  have hnone:Region.ready .any l.toArray listed = []:=by
   apply List.eq_nil_iff_forall_not_mem.2
   intro i hi
   have:=mem_ready.1 hi
   obtain ⟨g,o,ho,_⟩:=this
   have k:i<l.length:=by
    have:=(Array.getElem?_eq_some_iff.1 ho).1;simpa using this
   have:=e i omX
   rw [Array.getD_eq_getD_getElem?,this] at g
   simp at g
  rw [List.drop_eq_nil_of_le omX] at h
  cases fuel with
  | zero=>exact ⟨hnone,h⟩
  | succ fuel=>exact ⟨fun _=>h,fun i hi=>by rw [hnone] at hi;cases hi⟩
 | succ r ih =>
  intro p listed a w1 G H hs e f h fuel hf
  obtain ⟨fuel,rfl⟩:∃ q,fuel=q+1:=⟨fuel-1,omX⟩
  have Ol:p<l.length:=by omega
  have n:l[p]?=some l[p]:=List.getElem?_eq_getElem Ol
  have b:∀ (i:Nat) (o:Oper),l[i]?=some o→listed[i]?=some true→∀ x∈o.after,Region.binds .any x=true→listed.getD x.on false=true:=by
   intro i o ho E x hx hb
   have I:i<p:=by
    rcases Nat.lt_or_ge i p with y | y
    ·exact y
    have:=f i y (List.getElem?_eq_some_iff.1 ho).1
    rw [this] at E;cases E
   have:=d i o ho x hx hb
   rw [Array.getD_eq_getD_getElem?,e x.on omX];rfl
  have ahQ:∀ i∈Region.ready .any l.toArray listed,i=p:=by
   intro i hi
   obtain ⟨g,o,ho,s⟩:=mem_ready.1 hi
   have t:l[i]?=some o:=by simpa using ho
   have k:i<l.length:=(List.getElem?_eq_some_iff.1 t).1
   rcases Nat.lt_trichotomy i p with u | rfl|z
   ·have:=e i u
    rw [Array.getD_eq_getD_getElem?,this] at g;simp at g
   ·rfl
   have:=KD hA d hs b i i o leX t s p (F i omX k p z)
   rw [f p leX Ol] at this;cases this
  have c:p∈Region.ready .any l.toArray listed:=by
   refine mem_ready.2 ⟨by rw [Array.getD_eq_getD_getElem?,f p leX Ol];rfl,l[p],spX,?_⟩
   intro x hx hb
   have:=d p _ n x hx hb
   rw [Array.getD_eq_getD_getElem?,e _ this];rfl
  refine ⟨fun h0=>(by rw [h0] at c;cases c),fun i hi=>?_⟩
  obtain rfl:=ahQ i hi
  unfold wpOpIn
  have anW:l.toArray[i]?=some l[i]:=by simpa using n
  simp only [anW]
  rw [List.drop_eq_getElem_cons Ol] at h
  unfold wpListIn at h
  have next:∀ a2 w,wpListIn (FW C.r) 0 C.P l.toArray Q (l.drop (i+1)) a2 w→wpAnyIn (FW C.r) 0 C.P .any l.toArray Q fuel (listed.setIfInBounds i true) a2 w:=fun a2 w J=>by
   refine ih (i+1) (listed.setIfInBounds i true) a2 w omX omX (by simpa using hs) ?_ ?_ J fuel omX
   ·intro j K
    by_cases v:i=j
    ·subst v;rw [Array.getElem?_setIfInBounds_self];simp [hs,Ol]
    rw [Array.getElem?_setIfInBounds_ne v];exact e j omX
   intro j K B
   rw [Array.getElem?_setIfInBounds_ne omX];exact f j omX B
  split
  ·rename_i D;rw [if_pos D] at h;exact Oper.wpIn_mono next h
  rename_i D;rw [if_neg D] at h;exact ⟨h.1,next _ _ h.2⟩
theorem aaN {Inv:Nat→BD→World→Prop} {len c:Nat} {σ:BD} {listed:Array Bool} {a:Act} {dd:List Nat} {K:Env→Prop} (x:Env) (z:fs.length=m) (hU:QA C l m fs e Inv ch len c σ listed a w1) (g:∀ j∈dd,j<m∧listed[j]?=some true) (hB:Made σ dd→Bind w1 (fH l fs dd) (fun en=>Links l σ en dd→K en)) :
  ∃ en,K en∧∀ s v,look (en++x) s=some v→a.tmps[s]?=some v∨(look x s=some v∧∀ j∈dd,∀ o,l[j]?=some o→o.dst≠some s):=by
 have hf:∀ j∈dd,∃ f,fs[j]?=some f:=fun j b=>⟨fs[j]'(by have:=(g j b).1;omega),List.getElem?_eq_getElem _⟩
 have D:Made σ dd:=fun j b=>by
  have E:j<l.length:=by rw [← hU.size];exact (Array.getElem?_eq_some_iff.1 (g j b).2).1
  obtain ⟨v,hv,_⟩:=hU.done j l[j] (g j b).1 (List.getElem?_eq_getElem E) (g j b).2
  exact ⟨v,hv⟩
 obtain ⟨en,F,A,G⟩:=Ii (a:=a) (e:=x) _ _ (hB D) (fun p H=>by
  obtain ⟨j,o,b,ho,I,hf⟩:=tX H
  obtain ⟨v,_,i,k⟩:=hU.done j o (g j b).1 ho (g j b).2
  exact ⟨v,fun d y=>i d (by rw [I];exact y),k _ hf⟩)
 refine ⟨en,F fun j b oj d r n=>?_,fun s v hv=>(A s v hv).imp_right fun h=>⟨h.1,fun j b o ho=>?_⟩⟩
 ·obtain ⟨v,i,k,_⟩:=hU.done j oj (g j b).1 r (g j b).2
  obtain ⟨f,q⟩:=hf j b
  have t:=tV r q b
  obtain ⟨u,B⟩:=G _ t d n
  rcases A d u (Vd B) with w|⟨_,w⟩
  ·rw [k d n] at w;cases w;rw [B,i]
  exact absurd n (w _ t)
 obtain ⟨f,q⟩:=hf j b
 exact h.2 _ (tV ho q b)
theorem ug {id:Nat} {Inv:Nat→BD→World→Prop} {Rel:World→World→Prop} (OB:C.P.follows .mixedOrders=true) (m len:Nat) (S:List Nat) (he:AX e S=some e') (fs:List Fact) (ds:List (List Nat)) (ch:List (Option Nat)) (A:List (List Nat)) (hA:Cc l A=true) (af:Ih C.n l m ds S A=true) (ag:oz A m ch len=true) (U:fs.length=m)
  (aw:Cb Rel fs) (h0:Inv 0 (fun _=>none) w.drew)
  (ax:∀ i o f dd q,(l.take m)[i]?=some o→fs[i]?=some f→ds[i]?=some dd→ch[i]?=some q→∀ c σ w1,Inv c σ w1→(∀ p,q=some p→p=c)→σ i=none→Made σ dd →
   Bind w1 (fH l fs dd) (fun en=>Links l σ en dd→ObG C l.toArray (en++e') o f w1 (fun v w'=>Rel w1 w'∧Inv (nx q c) (upV σ i v) w')∨(fF l.toArray (en++e') o=some true∧agS C k (en++e') o w1)))
  (ah:∀ σ w1,Inv len σ w1→Made σ (List.range m)→Bind w1 (fH l fs (List.range m)) (fun en=>Links l σ en (List.range m)→L C k l.toArray (l.drop m) (en++e) w1)) :
  T C (.code (.region id l.toArray true)::k) e w:=by
 simp only [Ih,Bool.and_eq_true,decide_eq_true_eq] at af
 obtain ⟨⟨⟨⟨⟨⟨⟨ay,aS⟩,aT⟩,ai⟩,aj⟩,anX⟩,hS⟩,az⟩:=af
 simp only [oz,Bool.and_eq_true,decide_eq_true_eq] at ag
 obtain ⟨⟨⟨aA,aB⟩,aC⟩,aD⟩:=ag
 have agT:∀ i o,l[i]?=some o→∀ x∈o.after,Region.binds .any x=true→x.on<i:=by
  intro i o ho x hx hb
  have t:=List.all_eq_true.1 ay (o,i) (by rw [List.mem_zipIdx_iff_getElem?];exact ho)
  have F:=List.all_eq_true.1 t x (Array.mem_toList_iff.2 hx)
  simpa [hb] using F
 have ahR:∀ i,m≤i→i<l.length→∀ j,j<i→wt A i j=true:=by
  intro i hi D j b
  have t:=List.all_eq_true.1 az (l[i],i) (by rw [List.mem_zipIdx_iff_getElem?];exact List.getElem?_eq_getElem D)
  have V:¬ i<m:=by omega
  simp only [V,decide_false,Bool.false_or] at t
  exact List.all_eq_true.1 t j (by simpa using b)
 have ahS:∀ (i:Nat) (o:Oper),l[i]?=some o→iD C.n o.dst=true:=fun i o ho=>List.all_eq_true.1 ai o (List.mem_of_getElem? ho)
 have ahT:∀ (i j:Nat) (oi oj:Oper),i<m→j<m→i≠j→l[i]?=some oi→l[j]?=some oj→∀ d,oi.dst=some d→oj.dst≠some d:=by
  intro i j oi oj hi b N aE J d aF aG
  have t:=List.all_eq_true.1 aj j (by simpa using b)
  have F:=List.all_eq_true.1 t i (by simpa using hi)
  have hb:(i == j)=false:=by simpa using N
  simp [hb,aE,J,aF,aG] at F
 have aey:∀ (i:Nat) (dd:List Nat),ds[i]?=some dd→∀ j∈dd,j<m∧wt A i j=true:=by
  intro i dd O j b
  have t:=List.all_eq_true.1 anX (dd,i) (by rw [List.mem_zipIdx_iff_getElem?];exact O)
  have F:=List.all_eq_true.1 t j b
  simpa using F
 have hS':∀ s∈S,∀ (j:Nat) (o:Oper),j<m→l[j]?=some o→o.dst≠some s:=by
  intro s hs j o b ho O
  have t:=List.all_eq_true.1 hS s hs
  simp only [Bool.not_eq_true',List.contains_eq_mem,decide_eq_false_iff_not] at t
  exact t (List.mem_filterMap.2 ⟨j,by simpa using b,by simp [ho,O]⟩)
 have alG:∀ (i p:Nat) (o:Oper),ch[i]?=some (some p)→l[i]?=some o→p<len∧∀ q,q<p→∃ j,ch[j]?=some (some q)∧wt A i j=true:=by
  intro i p o hp ho
  have hi:i<ch.length:=(List.getElem?_eq_some_iff.1 hp).1
  have t:=List.all_eq_true.1 aB i (by simpa using hi)
  simp only [hp,Bool.and_eq_true,decide_eq_true_eq] at t
  refine ⟨t.1,fun q hq=>?_⟩
  have F:=List.all_eq_true.1 t.2 q (by simp;omega)
  simp only [hq,decide_true,Bool.not_true,Bool.false_or] at F
  obtain ⟨j,b,V⟩:=List.any_eq_true.1 F
  simp only [Bool.and_eq_true,beq_iff_eq] at V
  exact ⟨j,V.1,V.2⟩
 have anY:∀ (i j p:Nat),ch[i]?=some (some p)→ch[j]?=some (some p)→i=j:=by
  intro i j p hi b
  have D:i<ch.length:=(List.getElem?_eq_some_iff.1 hi).1
  have E:j<ch.length:=(List.getElem?_eq_some_iff.1 b).1
  have t:=List.all_eq_true.1 (List.all_eq_true.1 aC i (by simpa using D)) j (by simpa using E)
  simp only [hi,b,beq_self_eq_true,Bool.not_true,Bool.false_or,beq_iff_eq] at t
  exact t
 have anZ:∀ q:Nat,q<len→∃ j:Nat,j<m∧ch[j]?=some (some q):=by
  intro q hq
  have t:=List.all_eq_true.1 aD q (by simpa using hq)
  obtain ⟨j,Z,b⟩:=List.any_eq_true.1 t
  exact ⟨j,by simpa [aA] using Z,by simpa using b⟩
 intro a0 aa
 show (Code.region id l.toArray true).wpIn _ _ _ _ _ _
 refine wpIn_region_any OB ?_
 rw [show l.toArray.size=l.length by simp]
 have fin:∀ {c:Nat} {σ:BD} {listed:Array Bool} {a:Act} {w1:World},QA C l m fs e Inv ch len c σ listed a w1→(∀ j,j<m→listed[j]?=some true)→∃ en,Fits C (en++e) a∧L C k l.toArray (l.drop m) (en++e) w1:=by
  intro c σ listed a w1 hU g
  have ahU:c=len:=by
   rcases Nat.lt_or_ge c len with h|h
   ·obtain ⟨j,aH,b⟩:=anZ c h
    have:=(hU.link j c b).1 (g j aH)
    omega
   have:=hU.far;omega
  subst ahU
  have hr:∀ j∈List.range m,j<m∧listed[j]?=some true:=fun j b=>⟨by simpa using b,g j (by simpa using b)⟩
  obtain ⟨en,t,F⟩:=aaN e U hU hr (ah σ w1 hU.inv)
  refine ⟨en,⟨⟨hU.YR,fun i v hi=>?_⟩,hU.defers⟩,t⟩
  rcases F i v hi with h|⟨V,h4⟩
  ·exact h
  exact hU.base i v V fun j o b ho=>h4 j (by simpa using b) o ho
 have main:∀ (fuel c:Nat) (σ:BD) (listed:Array Bool) (a:Act) (w1:World),QA C l m fs e Inv ch len c σ listed a w1→(∀ j,j<l.length→listed[j]?=some true∨listed[j]?=some false)→(listed.toList.filter (! ·)).length≤fuel →
   wpAnyIn (FW C.r) 0 C.P .any l.toArray (run C k) fuel listed a w1:=by
  intro fuel
  induction fuel with
  | zero =>
   intro c σ listed a w1 hU K W
   have g:∀ j,j<l.length→listed[j]?=some true:=by
    intro j b
    rcases K j b with h|h
    ·exact h
    have hm:false∈listed.toList:=List.mem_of_getElem? (i:=j) (by simpa using h)
    have:false∈listed.toList.filter (! ·):=List.mem_filter.2 ⟨hm,rfl⟩
    rw [List.eq_nil_of_length_eq_zero (Nat.le_zero.1 W)] at this
    cases this
   have hm:m=l.length:=by
    rcases Nat.lt_or_ge m l.length with h|h
    ·have t:=hU.tail m leX h
     rw [g m h] at t;cases t
    omega
   obtain ⟨en,z,hL⟩:=fin hU (fun j b=>g j omX)
   exact Gf hA ahR agT 0 l.length listed a w1 omX omX (by rw [hU.size]) g (fun j t F=>by omega) (by rw [hm] at hL;exact hL a z) 0 leX
  | succ fuel ih =>
   intro c σ listed a w1 hU K W
   by_cases g:∀ j,j<m→listed[j]?=some true
   ·obtain ⟨en,z,hL⟩:=fin hU g
    have YS:l.length-m≤fuel+1:=by
     have:=wG listed.toList m (fun j t F=>by have:=hU.tail j t (by have:=hU.size;simpa [this] using F);simpa using this)
     have aR:=hU.size
     simp at this
     omega
    exact Gf hA ahR agT (l.length-m) m listed a w1 omX leX (by rw [hU.size]) g hU.tail (hL a z) (fuel+1) YS
   refine ⟨fun h0=>?_,fun i hi=>?_⟩
   ·exfalso
    obtain ⟨j,Z,ab,aI⟩:=F6 g
    have E:j<l.length:=by omega
    have X:j∈Region.ready .any l.toArray listed:=by
     have hfalse:listed[j]?=some false:=by (rcases K j E with h|h;exact absurd h ab;exact h)
     refine mem_ready.2 ⟨by rw [Array.getD_eq_getD_getElem?,hfalse];rfl,l[j],by simp [E],?_⟩
     intro x hx hb
     have:=agT j _ (List.getElem?_eq_getElem E) x hx hb
     rw [Array.getD_eq_getD_getElem?,aI _ this];rfl
    rw [h0] at X;cases X
   obtain ⟨t,o,ho,aez⟩:=mem_ready.1 hi
   have B:l[i]?=some o:=by simpa using ho
   have D:i<l.length:=(List.getElem?_eq_some_iff.1 B).1
   have seen:∀ j,wt A i j=true→listed[j]?=some true:=KD hA agT hU.size hU.closed i i o leX B aez
   have ac:i<m:=by
    rcases Nat.lt_or_ge i m with h|h
    ·exact h
    exfalso
    obtain ⟨j,Z,ab,_⟩:=F6 g
    exact ab (seen j (ahR i h D j omX))
   obtain ⟨f,ak⟩:∃ f,fs[i]?=some f:=⟨fs[i]'omX,List.getElem?_eq_getElem omX⟩
   obtain ⟨dd,ad⟩:∃ dd,ds[i]?=some dd:=⟨ds[i]'omX,List.getElem?_eq_getElem omX⟩
   obtain ⟨q,G⟩:∃ q,ch[i]?=some q:=⟨ch[i]'omX,List.getElem?_eq_getElem omX⟩
   have ae:¬ listed[i]?=some true:=fun h=>by rw [Array.getD_eq_getD_getElem?,h] at t;simp at t
   have Q:∀ p,q=some p→p=c:=by
    rintro p rfl
    have aU:¬ p<c:=fun h=>ae ((hU.link i p G).2 h)
    have aV:p≤c:=Classical.byContradiction fun hn=>by
     obtain ⟨j,b,hw⟩:=(alG i p o G B).2 c omX
     have:=(hU.link j c b).1 (seen j hw)
     omega
    omega
   obtain ⟨en,hOb,aJ⟩:=aaN e' U hU (fun j b=>⟨(aey i dd ad j b).1,seen j (aey i dd ad j b).2⟩) (ax i o f dd q (by rw [List.getElem?_take,if_pos ac];exact B) ak ad G c σ w1 hU.inv Q (hU.none' i ae))
   have z:Fits C (en++e') a:=⟨⟨hU.YR,fun s v hs=>by
    rcases aJ s v hs with h|⟨h,_⟩
    ·exact h
    obtain ⟨aK,aL⟩:=F5 he s v h
    exact hU.base s v aL fun j oj b H=>hS' s aK j oj b H⟩,hU.defers⟩
   have YS:((listed.setIfInBounds i true).toList.filter (! ·)).length≤fuel:=by
    have:=count_set (listed:=listed) (i:=i) (by rcases K i D with h|h;exact absurd h ae;exact h)
    omega
   have hself:(listed.setIfInBounds i true)[i]?=some true:=by rw [Array.getElem?_setIfInBounds_self];simp [hU.size,D]
   have hother:∀ {j},i≠j→(listed.setIfInBounds i true)[j]?=listed[j]?:=fun h=>Array.getElem?_setIfInBounds_ne h
   have alH:∀ j,j<l.length→(listed.setIfInBounds i true)[j]?=some true∨(listed.setIfInBounds i true)[j]?=some false:=by
    intro j b
    by_cases y:i=j
    ·subst y;exact .inl hself
    rw [hother y];exact K j b
   have hnext:∀ v w2,Rel w1 w2→Inv (nx q c) (upV σ i v) w2→f.holds v w2→QA C l m fs e Inv ch len (nx q c) (upV σ i v) (listed.setIfInBounds i true) (a.put o.dst v) w2:=by
    intro v w2 al hx hh
    have Y:∀ d u,o.dst≠some d→a.tmps[d]?=some u→(a.put o.dst v).tmps[d]?=some u:=fun d u N hu=>by
     cases aM:o.dst with
     | none=>exact hu
     | some d' =>
      simp only [Act.put]
      rw [Array.getElem?_setIfInBounds_ne (fun e=>N (by rw [aM,e]))];exact hu
    refine ⟨by simpa using hU.size,?_,?_,hx,fun j p b=>?_,fun j b=>?_,?_,?_,?_,?_,?_⟩
    ·intro i2 o2 J am x an ao
     have aN:listed.getD x.on false=true:=by
      by_cases ap:i=i2
      ·subst ap;rw [B] at J;cases J;exact aez x an ao
      rw [hother ap] at am;exact hU.closed i2 o2 J am x an ao
     rw [Array.getD_eq_getD_getElem?]
     by_cases aq:i=x.on
     ·rw [← aq,hself];rfl
     rw [hother aq,Ce aN];rfl
    ·cases q with
     | none=>exact hU.far
     | some p=>have:=Q p rfl;have:=(alG i p o G B).1;show c+1≤len;omega
    ·by_cases y:i=j
     ·subst y
      rw [G] at b;cases b
      have:=Q p rfl
      simp only [hself,true_iff]
      show p<c+1
      omega
     rw [hother y,hU.link j p b]
     cases q with
     | none=>exact Iff.rfl
     | some p2 =>
      have V:=Q p2 rfl
      have N:p≠p2:=fun e=>y (anY i j p2 G (e▸b))
      show p<c↔p<c+1
      omega
    ·by_cases y:i=j
     ·subst y;exact absurd hself b
     rw [qH _ _ y]
     rw [hother y] at b
     exact hU.none' j b
    ·cases o.dst <;> exact hU.defers
    ·cases o.dst <;> simp [Act.put,hU.YR]
    ·exact fun s u hs I=>Y s u (I i o ac B) (hU.base s u hs I)
    ·intro j b E
     rw [hother omX];exact hU.tail j b E
    intro j oj b H ar
    by_cases y:i=j
    ·subst y
     rw [B] at H;cases H
     refine ⟨v,oC _ _ _,fun d O=>?_,fun f' M=>?_⟩
     ·have au:=ahS i o B
      rw [O] at au
      have av:d<C.n:=by simpa [iD,Nat.blt_eq] using au
      rw [O]
      simp only [Act.put]
      rw [Array.getElem?_setIfInBounds_self];simp [hU.YR,av]
     rw [ak] at M;cases M;exact hh
    rw [hother y] at ar
    obtain ⟨u,aO,aP,aQ⟩:=hU.done j oj b H ar
    exact ⟨u,by rw [qH _ _ y];exact aO,fun d O=>Y d u (fun e=>ahT i j o oj ac b y B H d e O) (aP d O),fun f' M=>BA aw j f' M _ _ _ al (aQ f' M)⟩
   unfold wpOpIn
   simp only [ho]
   rcases hOb with (⟨hw,hO⟩|⟨hw,hu,hJ⟩)|⟨hw,hP⟩
   ·rw [if_pos (lu z hw)]
    exact hO a z _ _ (fun v w2 ⟨hx,hh⟩=>ih _ _ _ _ _ (hnext v w2 hx.1 hx.2 hh) alH YS)
   ·rw [if_neg (by rw [lu z hw];simp)]
    exact ⟨fun _ _=>trivial,ih _ _ _ _ _ (hnext undef w1 hJ.1 hJ.2 hu) alH YS⟩
   rw [if_pos (lu z hw)]
   exact hP a z _
 have I:∀ {j:Nat} {P:Prop},(Array.replicate l.length false)[j]?=some true→P:=fun {j P} R=>by
  rw [Array.getElem?_replicate] at R
  split at R <;> cases R
 refine main l.length 0 _ (Array.replicate l.length false) a0 _ ⟨spX,fun i o ho R=>I R,Nat.zero_le _,h0,fun j p _=>⟨fun R=>I R,fun h=>absurd h (Nat.not_lt_zero _)⟩,fun _ _=>rfl,aa.defers,aa.sat.size,fun i v hi _=>aa.sat.get i v hi,fun j _ b=>by simp [b],fun j o b ho R=>I R⟩ (fun j b=>by right;simp [b]) ?_
 simp
end
theorem O.mono {C:Cx} {o:Oper} {K b:Value→World→Prop} (h:O C e o w K) (c:∀ v w',K v w'→b v w'):O C e o w b:=fun a ha next Q hn=>h a ha next Q fun v w' hv=>hn v w' (c v w' hv)
theorem Bind.mono {w:World} : ∀ (fs:List (Option Tmp × Fact)) {K a:Env→Prop},(∀ en,K en→a en)→Bind w fs K→Bind w fs a
 | [],K,a,h,hb=>h _ hb
 | (d,.is v)::r,K,a,h,hb=>Bind.mono r (K:=fun en=>K (lW d v en)) (fun en b=>h _ b) hb
 | (d,.such φ)::r,K,a,h,hb=>fun v hv=>Bind.mono r (K:=fun en=>K (lW d v en)) (fun en b=>h _ b) (hb v hv)
def an0 (C:Cx) (l:List Oper) (fs:List Fact) (e:Env) (Inv:Nat→World→Prop) (Rel:World→World→Prop):List Oper→List Fact→List (List Nat)→List (Option Nat)→Prop :=
 abI (fun _ o f ds q=>match q with
  | none=>∀ c w1,Inv c w1→Bind w1 (fH l fs ds) (fun en=>ObK C l.toArray (en++e) o f w1 (fun w'=>Rel w1 w'∧Inv c w'))
  | some p=>∀ w1,Inv p w1→Bind w1 (fH l fs ds) (fun en=>ObK C l.toArray (en++e) o f w1 (fun w'=>Rel w1 w'∧Inv (p+1) w'))) 0
section
variable {C:Cx} {k:List It} {l:List Oper} {m:Nat} {fs:List Fact} {e:Env} {w:World} {S:List Nat} {e':Env} {ch:List (Option Nat)}
theorem T.any {id:Nat} (OB:C.P.follows .mixedOrders=true) (m len:Nat) (S:List Nat) (s:AX e S=some e') (fs:List Fact) (ds:List (List Nat)) (ch:List (Option Nat)) (A:List (List Nat)) (Inv:Nat→World→Prop) (Rel:World→World→Prop) (hA:Cc l A=true) (d:Ih C.n l m ds S A=true) (g:oz A m ch len=true) (a:fs.length=m)
  (j:Cb Rel fs) (h0:Inv 0 w.drew) (r:an0 C l fs e' Inv Rel (l.take m) fs ds ch)
  (b:∀ w1,Inv len w1→Bind w1 (fH l fs (List.range m)) (fun en=>L C k l.toArray (l.drop m) (en++e) w1)) :
  T C (.code (.region id l.toArray true)::k) e w:=by
 refine ug (Inv:=fun c _=>Inv c) (Rel:=Rel) OB m len S s fs ds ch A hA d g a j h0 (fun i o f dd q ho hf t u c σ w1 hI v _ _=>?_) (fun σ w1 h _=>Bind.mono _ (fun en h _=>h) (b w1 h))
 have h:=y8 r ho hf t u
 cases q with
 | none=>exact Bind.mono _ (fun en h _=>.inl h) (h c w1 hI)
 | some p=>obtain rfl:=v p rfl;exact Bind.mono _ (fun en h _=>.inl h) (h w1 hI)
def alI (C:Cx) (l:List Oper) (fs:List Fact) (e:Env) (w:World) (os:List Oper) (fr:List Fact) (dr:List (List Nat)):Prop :=
 abI (fun _ o f ds _=>∀ w1,Ext w w1→Bind w1 (fH l fs ds) (fun en=>Ob C l.toArray (en++e) o f w1)) 0 os fr dr (os.map fun _=>none)
theorem uh {id:Nat} (OB:C.P.follows .mixedOrders=true) (m:Nat) (S:List Nat) (t:AX e S=some e') (fs:List Fact) (ds:List (List Nat)) (A:List (List Nat)) (hA:Cc l A=true) (d:Ih C.n l m ds S A=true) (a:fs.length=m)
  (g:oz A m (List.replicate m none) 0=true) (j:Cb Ext fs) (p:alI C l fs e' w (l.take m) fs ds)
  (b:∀ w1,Ext w w1→Bind w1 (fH l fs (List.range m)) (fun en=>L C k l.toArray (l.drop m) (en++e) w1)) :
  T C (.code (.region id l.toArray true)::k) e w:=by
 refine ug (Inv:=fun _ _ w1=>Ext w w1) (Rel:=Ext) OB m 0 S t fs ds (List.replicate m none) A hA d g a j (Keep.drew _ _) (fun i o f dd q ho hf u x c σ w1 hI _ _ _=>?_) (fun σ w1 h _=>Bind.mono _ (fun en h _=>h) (b w1 h))
 have h:=y8 p ho hf u (q:=none) (by rw [List.getElem?_map,ho];rfl)
 refine Bind.mono _ (fun en h _=>.inl ?_) (h w1 hI)
 rcases h with ⟨r,s⟩|⟨r,s⟩
 ·exact .inl ⟨r,s.mono fun v w' hv=>⟨⟨hv.1,hI.trans hv.1⟩,hv.2⟩⟩
 exact .inr ⟨r,s,Keep.refl _ _,hI⟩
end
section ops
variable {C:Cx} {e:Env} {w:World} {K:Value→World→Prop} {d:Option Tmp} {ty:TypeId} {pos:String} {aft:Array Edge} {g:Option (Nat × Bool)}
variable {x y z:Operand} {t kt vt:TypeId}
theorem Ci {tx ty':TypeId} {p q:Bool} (a:∀ w,(underlying tx).run C.P w = .ok .bool w) (hx:ev e x=some (.bool p)) (hy:ev e y=some (.bool q)) (b:p=q) (h:K (.bool true) w):O C e ⟨d,.binOp .eql tx x y ty',ty,pos,aft,g⟩ w K :=
 ou a hx hy (by subst b;simpa using h)
theorem Fa {kd:IntKind} (b:∀ w,(underlying t).run C.P w = .ok (.array n el) w) (c:∀ w,(isAgg el).run C.P w = .ok true w) (hs:∀ w,(sizeOf el).run C.P w = .ok sz w)
  (hx:ev e x=some (.agg cs.toArray)) (hy:ev e y=some (.int kd m)) (h0:0≤m) (f:m<n) (h:K (.agg ((cs.drop (m.toNat*sz)).take sz).toArray) w):O C e ⟨d,.index t x y,ty,pos,aft,g⟩ w K:=by
 have e1:cs.toArray.extract (m.toNat*sz) (m.toNat*sz+sz)=((cs.drop (m.toNat*sz)).take sz).toArray:=by
  rw [List.extract_toArray,List.extract_eq_take_drop,Nat.add_sub_cancel_left]
 exact bD spX (fun a ha=>by simp [execOp,Instr.index,asIntOf,ha.eval hx,ha.eval hy,b w,h0,f,hs w,Go.part,c w,e1]) h
theorem qI {kd:IntKind} (a:∀ w,(underlying t).run C.P w = .ok (.array n el) w) (b:∀ w,(isAgg el).run C.P w = .ok true w) (hs:∀ w,(sizeOf el).run C.P w = .ok sz w)
  (hx:ev e x=some (.agg cs.toArray)) (hy:ev e y=some (.int kd m)) (h0:0≤m) (c:m<n) (hv:(cs.drop (m.toNat*sz)).take sz=vs) (h:K (.agg vs.toArray) w):O C e ⟨d,.index t x y,ty,pos,aft,g⟩ w K :=
 Fa a b hs hx hy h0 c (hv▸h)
theorem Fb {cs:Array Value} {kd:IntKind} (b:∀ w,(underlying t).run C.P w = .ok (.array n el) w) (c:∀ w,(isAgg el).run C.P w = .ok false w) (hs:∀ w,(sizeOf el).run C.P w = .ok 1 w)
  (hx:ev e x=some (.agg cs)) (hy:ev e y=some (.int kd m)) (h0:0≤m) (f:m<n) (hv:cs[m.toNat]?=some v) (h:K v w):O C e ⟨d,.index t x y,ty,pos,aft,g⟩ w K :=
 bD spX (fun a ha=>by simp [execOp,Instr.index,asIntOf,ha.eval hx,ha.eval hy,b w,h0,f,hs w,Go.part,c w,hv]) h
end ops
open Go.ChangeShapes Go.WideShapes
def Rok (P:Program) (w:World) (t:TypeId) (cs:List Value):Prop:=∃ (H:Type) (enc:TypeId × Value→H) (n:Nat) (y:DataW H × List MemPlace),DataW.trod enc P w 0 (fun _=>true) true n t cs=some y
section
variable {P:Program} {w:World} {t:TypeId} {cs:List Value}
theorem Rok.int {k:IntKind} (h:Rok P w t cs) (a:P.underlying t=some (.int k)):∃ n,cs = [.int k n]∧(Lit.int k n).wf=true:=by
 obtain ⟨H,enc,n,y,h⟩:=h
 cases n with
 | zero=>simp [DataW.trod] at h
 | succ n =>
  simp only [DataW.trod,a] at h
  split at h <;> simp_all
theorem Rok.bool (h:Rok P w t cs) (a:P.underlying t=some .bool):∃ b,cs = [.bool b]:=by
 obtain ⟨H,enc,n,y,h⟩:=h
 cases n with
 | zero=>simp [DataW.trod] at h
 | succ n =>
  simp only [DataW.trod,a] at h
  split at h <;> simp_all
theorem Rok.string (h:Rok P w t cs) (a:P.underlying t=some .string):∃ s,cs = [.string s]∧s.size≤maxLen:=by
 obtain ⟨H,enc,n,y,h⟩:=h
 cases n with
 | zero=>simp [DataW.trod] at h
 | succ n =>
  simp only [DataW.trod,a] at h
  split at h <;> simp_all
theorem Rok.struct {fs:Array Field} (h:Rok P w t cs) (a:P.underlying t=some (.struct fs)):cs.length=P.cellsOf t∧∀ (i:Nat) (f:Field),fs[i]?=some f→Rok P w f.type ((cs.drop f.offset).take (P.cellsOf f.type)):=by
 obtain ⟨H,enc,n,y,h⟩:=h
 obtain ⟨xs,n',rfl,rfl,b,c,d⟩:=DataW.trod_struct a h
 refine ⟨b,fun i f hf=>?_⟩
 have hi:i<xs.length:=by rw [c];exact (Array.getElem?_eq_some_iff.1 hf).1
 exact ⟨H,enc,n',xs[i],(d i f hf).trans (List.getElem?_eq_getElem hi)⟩
theorem Rok.fld {fs:Array Field} (h:Rok P w t cs) (b:P.underlying t=some (.struct fs)) (i ft off n:Nat) (hf:(fs[i]?).map (fun f=>(f.type,f.offset))=some (ft,off)) (c:P.cellsOf ft=n):Rok P w ft ((cs.drop off).take n):=by
 cases a:fs[i]? with
 | none=>rw [a] at hf;cases hf
 | some f =>
  rw [a] at hf
  simp at hf
  obtain ⟨rfl,rfl⟩:=hf
  rw [← c];exact (h.struct b).2 i f a
theorem QB {α β:Type} {f:α→Option β} : ∀ {l:List α} {ys:List β},l.mapM f=some ys→∀ x∈l,∃ y,f x=some y
 | [],_,_,x,hx=>by cases hx
 | a::l,ys,h,x,hx=>by
  simp only [List.mapM_cons,Option.bind_eq_bind,Option.bind_eq_some_iff] at h
  obtain ⟨y,b,c,d,_⟩:=h
  rcases List.mem_cons.1 hx with rfl|hx
  ·exact ⟨y,b⟩
  exact QB d x hx
theorem Rok.array {n:Nat} {e:TypeId} (h:Rok P w t cs) (a:P.underlying t=some (.array n e)):cs.length=P.cellsOf t∧∀ i,i<n→Rok P w e ((cs.drop (i*P.cellsOf e)).take (P.cellsOf e)):=by
 obtain ⟨H,enc,q,y,h⟩:=h
 cases q with
 | zero=>simp [DataW.trod] at h
 | succ q =>
  unfold DataW.trod at h
  rw [a] at h
  split at h <;> simp_all
  obtain ⟨c,xs,b,_⟩:=h
  intro i hi
  obtain ⟨y,hy⟩:=QB b i (by simpa using hi)
  exact ⟨H,enc,q,y,hy⟩
theorem flat_get {α:Type} {c:Nat} : ∀ (css:List (List α)),(∀ x∈css,x.length=c)→∀ (j:Nat) (u:α),css.flatten[j]?=some u→∃ i k,i<css.length∧k<c∧j=i*c+k∧(css.getD i [])[k]?=some u
 | [],_,j,u,h=>by simp at h
 | x::r,a,j,u,h=>by
  have hx:=a x (List.mem_cons_self ..)
  rw [List.flatten_cons] at h
  by_cases b:j<c
  ·rw [List.getElem?_append_left omX] at h
   exact ⟨0,j,spX,b,spX,by simpa using h⟩
  rw [List.getElem?_append_right omX,hx] at h
  obtain ⟨i,k,d,e,g,f⟩:=flat_get r (fun y hy=>a y (List.mem_cons_of_mem _ hy)) (j-c) u h
  exact ⟨i+1,k,by simpa using d,e,by rw [Nat.add_mul];omega,by simpa using f⟩
theorem Rok.slice {e:TypeId} (h:Rok P w t cs) (B:P.underlying t=some (.slice e)):∃ (v:Value) (css:List (List Value)),cs = [v]∧Sl 0 w v css.length (P.cellsOf e) css.flatten∧∀ x∈css,x.length=P.cellsOf e∧Rok P w e x:=by
 obtain ⟨H,enc,n,y,h⟩:=h
 rcases Go.Deep.open_slice B h with ⟨rfl,_⟩|⟨a,len,cap,m,n',D,Pl,rfl,hb,C,E,o,hx,hi⟩
 ·exact ⟨_,[],rfl,Sl.nil 0 w _,fun x hx=>by cases hx⟩
 have F:len≤m:=by rw [o];split <;> omega
 have g:∀ i:Nat,∃ c:List Value,i<len→(w.cells? 0 (a.add (i*P.cellsOf e)) (P.cellsOf e)=some c∧Rok P w e c):=fun i=>by
  by_cases b:i<len
  ·obtain ⟨c,p,q⟩:=hi i omX
   exact ⟨c,fun _=>⟨p,H,enc,n',_,q⟩⟩
  exact ⟨[],fun h=>absurd h b⟩
 let f:=fun i=>Classical.choose (g i)
 have hf:∀ i,i<len→w.cells? 0 (a.add (i*P.cellsOf e)) (P.cellsOf e)=some (f i)∧Rok P w e (f i):=fun i b=>Classical.choose_spec (g i) b
 have d:∀ x∈(List.range len).map f,x.length=P.cellsOf e∧Rok P w e x:=fun x hx=>by
  obtain ⟨i,hi,rfl⟩:=List.mem_map.1 hx
  have b:i<len:=by simpa using hi
  exact ⟨(World.cells?_some (hf i b).1).2.1,(hf i b).2⟩
 refine ⟨_,(List.range len).map f,rfl,⟨?_,some a,cap,spX,by simpa using C,E,?_⟩,d⟩
 ·have:∀ (l:List (List Value)),(∀ x∈l,x.length=P.cellsOf e)→l.flatten.length=l.length*P.cellsOf e:=by
   intro l
   induction l with
   | nil=>intro _;simp
   | cons x r ih =>
    intro s
    rw [List.flatten_cons,List.length_append,ih (fun y hy=>s y (List.mem_cons_of_mem _ hy)),s x (List.mem_cons_self ..),List.length_cons,Nat.add_mul];omega
  exact this _ fun x hx=>(d x hx).1
 right
 refine ⟨a,rfl,Nat.zero_le _,fun j u G=>?_⟩
 obtain ⟨i,k,p,q,rfl,z⟩:=flat_get _ (fun x hx=>(d x hx).1) j u G
 have b:i<len:=by simpa using p
 have A:=(World.cells?_some (hf i b).1).2.2 k q
 rw [add_add] at A
 rw [A]
 rw [List.getD_eq_getElem?_getD,List.getElem?_map,List.getElem?_range b] at z
 exact z
end
theorem KE {α:Type} {c:Nat} : ∀ (css:List (List α)) (i:Nat) (x:List α),(∀ x∈css,x.length=c)→css[i]?=some x→(css.flatten.drop (i*c)).take c=x
 | y::r,0,x,a,h=>by
  simp at h;subst h
  have:=a y (List.mem_cons_self ..)
  rw [Nat.zero_mul,List.drop_zero,List.flatten_cons,List.take_append_of_le_length omX,List.take_of_length_le omX]
 | y::r,i+1,x,a,h=>by
  have hy:=a y (List.mem_cons_self ..)
  have e:(i+1)*c=y.length+i*c:=by rw [hy,Nat.add_mul];omega
  rw [e,List.flatten_cons,List.drop_append]
  simp only [Nat.add_sub_cancel_left]
  rw [List.drop_eq_nil_of_le omX,List.nil_append]
  exact KE r i x (fun z b=>a z (List.mem_cons_of_mem _ b)) (by simpa using h)
 | [],i,x,_,h=>by simp at h
theorem Sl.elem {css:List (List Value)} {x:List Value} (h:Sl lo w v n sz css.flatten) (a:∀ c∈css,c.length=sz) (hi:css[i]?=some x) (hn:0<n):Row w ((jX v).add (i*sz)) x:=by
 obtain ⟨_,_,_,_,b⟩:=h.there hn
 have:=b.part (i*sz) sz
 rwa [KE css i x a hi] at this
theorem Sl.at1 {u:Value} (h:Sl lo w v n 1 cs) (hi:cs[i]?=some u):w.cell? ((jX v).add ((i:Int).toNat*1))=some u:=h.cell (by rw [Int.toNat_natCast,Nat.mul_one];exact hi)
structure Arg (P:Program) (w:World) (t:TypeId) (v:Value):Prop where
 ok:Value.okWide P w .any 0 t v
 reads:Rok P w t v.cells.toList
section
variable {P:Program} {w:World} {t:TypeId} {v:Value}
theorem Arg.string (h:Arg P w t v) (a:P.underlying t=some .string):∃ s,v = .string s∧s.size≤maxLen:=by
 obtain ⟨s,rfl⟩:=okWide_string a h.ok
 obtain ⟨s',b,c⟩:=h.reads.string a
 simp [Value.cells] at b
 subst b;exact ⟨s,rfl,c⟩
theorem Arg.struct {fs:Array Field} (h:Arg P w t v) (b:P.underlying t=some (.struct fs)):∃ cs:List Value,v = .agg cs.toArray∧cs.length=P.cellsOf t∧Rok P w t cs:=by
 obtain ⟨cs,rfl,a⟩:=okWide_struct b h.ok
 exact ⟨cs.toList,spX,by simpa using a,by simpa [Value.cells] using h.reads⟩
theorem Arg.array {n:Nat} {e:TypeId} (h:Arg P w t v) (b:P.underlying t=some (.array n e)):∃ cs:List Value,v = .agg cs.toArray∧cs.length=P.cellsOf t∧Rok P w t cs:=by
 obtain ⟨cs,rfl,a⟩:∃ cs,v = .agg cs∧cs.size=P.cellsOf t:=by
  have:=h.ok
  simp only [Value.okWide,b] at this
  obtain ⟨cs,c,d,_⟩:=this
  exact ⟨cs,c,d⟩
 exact ⟨cs.toList,spX,by simpa using a,by simpa [Value.cells] using h.reads⟩
theorem Vf {k:IntKind} {e:TypeId} {css:List (List Value)} (g:P.underlying e=some (.int k)) (h:P.cellsOf e=1) (hs:Sl 0 w v css.length (P.cellsOf e) css.flatten) (ha:∀ x∈css,x.length=P.cellsOf e∧Rok P w e x) :
  ∃ xs,Ints k 0 w v xs∧∀ n∈xs,(Lit.int k n).wf=true:=by
 have key:∀ (l:List (List Value)),(∀ x∈l,Rok P w e x)→∃ xs:List Int,l.flatten=xs.map (Value.int k)∧xs.length=l.length∧∀ n∈xs,(Lit.int k n).wf=true:=by
  intro l
  induction l with
  | nil=>intro _;exact ⟨[],rfl,rfl,fun n hn=>by cases hn⟩
  | cons x r ih =>
   intro f
   obtain ⟨xs,a,b,c⟩:=ih fun y hy=>f y (List.mem_cons_of_mem _ hy)
   obtain ⟨n,rfl,hn⟩:=(f x (List.mem_cons_self ..)).int g
   exact ⟨n::xs,by simp [a],by simp [b],fun m d=>by rcases List.mem_cons.1 d with rfl|d;exact hn;exact c m d⟩
 obtain ⟨xs,a,b,c⟩:=key css fun x hx=>(ha x hx).2
 refine ⟨xs,?_,c⟩
 unfold Ints
 rw [b,← a,← h];exact hs
end
theorem xK {H:Type} {enc:TypeId × Value→H} {P:Program} {W W':World} (c:laidOutB P=true) (hb:Below W.heap.size W W'):∀ {ts:List TypeId} {vs:List Value} {ds:List (DataW H)} {ps:List MemPlace},
  (ts.all fun t=>P.readableRec t && decide (t<P.types.size))=true→DataW.TrodAll enc P W 0 (fun _=>true) true ts vs ds ps→DataW.TrodAll enc P W' 0 (fun b=>decide (b<W.heap.size)) true ts vs ds ps
 | [],vs,ds,ps,_,h=>by
  obtain ⟨rfl,rfl,rfl⟩:=trodAll_nil h
  exact trodAll_mk0
 | t::ts,vs,ds,ps,a,h=>by
  obtain ⟨v,f,d,g,p,q,rfl,rfl,rfl,e,i⟩:=trodAll_cons h
  simp only [List.all_cons,Bool.and_eq_true,decide_eq_true_eq] at a
  have lt:∀ x∈p,x.block<W.heap.size:=by obtain ⟨m,j⟩:=e;exact DataW.trod_lt m _ _ _ j
  exact trodAll_cons_mk (Below.trod c a.1.1 a.1.2 e hb lt) (xK c hb (by simpa using a.2) i)
theorem Vg {H:Type} {enc:TypeId × Value→H} {P:Program} {W:World} : ∀ {ts:List TypeId} {vs:List Value} {ds:List (DataW H)} {ps:List MemPlace},DataW.TrodAll enc P W 0 (fun _=>true) true ts vs ds ps →
  (∀ (j:Nat) t v,ts[j]?=some t→vs[j]?=some v→Value.okWide P W .any 0 t v)→vs.length=ts.length∧∀ (j:Nat) t v,ts[j]?=some t→vs[j]?=some v→Arg P W t v
 | [],vs,ds,ps,h,_=>by
  obtain ⟨rfl,rfl,rfl⟩:=trodAll_nil h
  exact ⟨rfl,fun j t v b=>by simp at b⟩
 | t::ts,vs,ds,ps,h,hv=>by
  obtain ⟨v,c,d,e,p,q,rfl,rfl,rfl,f,g⟩:=trodAll_cons h
  obtain ⟨i,k⟩:=Vg g fun j t v b a=>hv (j+1) t v (by simpa using b) (by simpa using a)
  refine ⟨by simp [i],fun j t' l b a=>?_⟩
  cases j with
  | zero =>
   simp at b a
   subst b a
   obtain ⟨m,n⟩:=f
   exact ⟨hv 0 t v rfl rfl,H,enc,m,_,n⟩
  | succ j=>exact k j t' l (by simpa using b) (by simpa using a)
end Go.E
namespace Go.E
open Go.Proofs Go.RowKit
variable {ad:Addr} {m:Int} {cs:List Value} {i lo n z:Nat} {tx ty2:TypeId} {v:Value} {w₁:World}
def ofT (t i:Nat):Nat:=match t with
 |48=>[0,2].getD i 0
 |59=>[0,5,6,7,8,9].getD i 0
 |129=>[0,6].getD i 0
 |315=>[0,1,3].getD i 0
 |_=>i
def szT (t:Nat):Nat:=match t with
 |25=>4
 |46=>2
 |48=>6
 |51=>6
 |56=>5
 |59=>10
 |89=>4
 |124=>2
 |127=>2
 |277=>4
 |292=>4
 |315=>5
 |_=>1
def elT (t:Nat):Nat:=match t with
 |23=>51
 |30=>3
 |31=>3
 |43=>124
 |44=>127
 |54=>5
 |57=>87
 |61=>9
 |125=>30
 |204=>4
 |237=>124
 |280=>277
 |289=>292
 |308=>125
 |_=>0
def okF (t i:Nat):Bool:=[(25,0),(25,1),(25,2),(25,3),(46,0),(46,1),(48,0),(48,1),(51,0),(51,1),(51,2),(51,3),(51,4),(51,5),(56,0),(56,1),(56,2),(56,3),(56,4),(59,0),(59,1),(59,2),(59,3),(59,4),(59,5),(89,0),(89,1),(89,2),(89,3),(124,0),(124,1),(127,0),(127,1),(129,0),(129,1),(277,0),(277,1),(277,2),(277,3),(292,0),(292,1),(292,2),(292,3),(315,0),(315,1),(315,2)].contains (t,i)
def okN (t:Nat):Bool:=[3,4,5,9,23,30,31,43,44,54,57,87,125,131,171,237,251,272,280,284].contains t
def okA (t:Nat):Bool:=[25,46,48,51,56,59,89,124,127,277,292,315].contains t
def okS (t:Nat):Bool:=[23,30,31,43,44,54,57,61,125,204,237,280,289,308].contains t
def okL (t:Nat):Bool:=[23,30,31,43,44,54,57,61,125,204,237,280,289,308].contains t
theorem tF (t i:Nat) (h:okF t i=true):∃ (fs:Array Field) (f:Field) (s:Nat),(∀ w,(underlying t).run Tryz.prog w=.ok (.struct fs) w)∧fs[i]?=some f∧(∀ w,(sizeOf f.type).run Tryz.prog w=.ok (s+1) w)∧f.offset=ofT t i:=by
 replace h:t=25∧i=0∨t=25∧i=1∨t=25∧i=2∨t=25∧i=3∨t=46∧i=0∨t=46∧i=1∨t=48∧i=0∨t=48∧i=1∨t=51∧i=0∨t=51∧i=1∨t=51∧i=2∨t=51∧i=3∨t=51∧i=4∨t=51∧i=5∨t=56∧i=0∨t=56∧i=1∨t=56∧i=2∨t=56∧i=3∨t=56∧i=4∨t=59∧i=0∨t=59∧i=1∨t=59∧i=2∨t=59∧i=3∨t=59∧i=4∨t=59∧i=5∨t=89∧i=0∨t=89∧i=1∨t=89∧i=2∨t=89∧i=3∨t=124∧i=0∨t=124∧i=1∨t=127∧i=0∨t=127∧i=1∨t=129∧i=0∨t=129∧i=1∨t=277∧i=0∨t=277∧i=1∨t=277∧i=2∨t=277∧i=3∨t=292∧i=0∨t=292∧i=1∨t=292∧i=2∨t=292∧i=3∨t=315∧i=0∨t=315∧i=1∨t=315∧i=2:=by simpa [okF] using h
 rcases h with ⟨rfl,rfl⟩|⟨rfl,rfl⟩|⟨rfl,rfl⟩|⟨rfl,rfl⟩|⟨rfl,rfl⟩|⟨rfl,rfl⟩|⟨rfl,rfl⟩|⟨rfl,rfl⟩|⟨rfl,rfl⟩|⟨rfl,rfl⟩|⟨rfl,rfl⟩|⟨rfl,rfl⟩|⟨rfl,rfl⟩|⟨rfl,rfl⟩|⟨rfl,rfl⟩|⟨rfl,rfl⟩|⟨rfl,rfl⟩|⟨rfl,rfl⟩|⟨rfl,rfl⟩|⟨rfl,rfl⟩|⟨rfl,rfl⟩|⟨rfl,rfl⟩|⟨rfl,rfl⟩|⟨rfl,rfl⟩|⟨rfl,rfl⟩|⟨rfl,rfl⟩|⟨rfl,rfl⟩|⟨rfl,rfl⟩|⟨rfl,rfl⟩|⟨rfl,rfl⟩|⟨rfl,rfl⟩|⟨rfl,rfl⟩|⟨rfl,rfl⟩|⟨rfl,rfl⟩|⟨rfl,rfl⟩|⟨rfl,rfl⟩|⟨rfl,rfl⟩|⟨rfl,rfl⟩|⟨rfl,rfl⟩|⟨rfl,rfl⟩|⟨rfl,rfl⟩|⟨rfl,rfl⟩|⟨rfl,rfl⟩|⟨rfl,rfl⟩|⟨rfl,rfl⟩|⟨rfl,rfl⟩
 ·exact ⟨_,_,_,Tryz.runUnderlying25,rfl,Tryz.sizeOf3,rfl⟩
 ·exact ⟨_,_,_,Tryz.runUnderlying25,rfl,Tryz.sizeOf3,rfl⟩
 ·exact ⟨_,_,_,Tryz.runUnderlying25,rfl,Tryz.sizeOf3,rfl⟩
 ·exact ⟨_,_,_,Tryz.runUnderlying25,rfl,Tryz.sizeOf23,rfl⟩
 ·exact ⟨_,_,_,Tryz.runUnderlying46,rfl,Tryz.sizeOf43,rfl⟩
 ·exact ⟨_,_,_,Tryz.runUnderlying46,rfl,Tryz.sizeOf44,rfl⟩
 ·exact ⟨_,_,_,Tryz.runUnderlying48,rfl,Tryz.sizeOf46,rfl⟩
 ·exact ⟨_,_,_,Tryz.runUnderlying48,rfl,Tryz.sizeOf25,rfl⟩
 ·exact ⟨_,_,_,Tryz.runUnderlying51,rfl,Tryz.sizeOf9,rfl⟩
 ·exact ⟨_,_,_,Tryz.runUnderlying51,rfl,Tryz.sizeOf3,rfl⟩
 ·exact ⟨_,_,_,Tryz.runUnderlying51,rfl,Tryz.sizeOf30,rfl⟩
 ·exact ⟨_,_,_,Tryz.runUnderlying51,rfl,Tryz.sizeOf30,rfl⟩
 ·exact ⟨_,_,_,Tryz.runUnderlying51,rfl,Tryz.sizeOf30,rfl⟩
 ·exact ⟨_,_,_,Tryz.runUnderlying51,rfl,Tryz.sizeOf4,rfl⟩
 ·exact ⟨_,_,_,Tryz.runUnderlying56,rfl,Tryz.sizeOf5,rfl⟩
 ·exact ⟨_,_,_,Tryz.runUnderlying56,rfl,Tryz.sizeOf5,rfl⟩
 ·exact ⟨_,_,_,Tryz.runUnderlying56,rfl,Tryz.sizeOf54,rfl⟩
 ·exact ⟨_,_,_,Tryz.runUnderlying56,rfl,Tryz.sizeOf54,rfl⟩
 ·exact ⟨_,_,_,Tryz.runUnderlying56,rfl,Tryz.sizeOf4,rfl⟩
 ·exact ⟨_,_,_,Tryz.runUnderlying59,rfl,Tryz.sizeOf56,rfl⟩
 ·exact ⟨_,_,_,Tryz.runUnderlying59,rfl,Tryz.sizeOf5,rfl⟩
 ·exact ⟨_,_,_,Tryz.runUnderlying59,rfl,Tryz.sizeOf5,rfl⟩
 ·exact ⟨_,_,_,Tryz.runUnderlying59,rfl,Tryz.sizeOf5,rfl⟩
 ·exact ⟨_,_,_,Tryz.runUnderlying59,rfl,Tryz.sizeOf57,rfl⟩
 ·exact ⟨_,_,_,Tryz.runUnderlying59,rfl,Tryz.sizeOf5,rfl⟩
 ·exact ⟨_,_,_,Tryz.runUnderlying89,rfl,Tryz.sizeOf87,rfl⟩
 ·exact ⟨_,_,_,Tryz.runUnderlying89,rfl,Tryz.sizeOf5,rfl⟩
 ·exact ⟨_,_,_,Tryz.runUnderlying89,rfl,Tryz.sizeOf9,rfl⟩
 ·exact ⟨_,_,_,Tryz.runUnderlying89,rfl,Tryz.sizeOf4,rfl⟩
 ·exact ⟨_,_,_,Tryz.runUnderlying124,rfl,Tryz.sizeOf3,rfl⟩
 ·exact ⟨_,_,_,Tryz.runUnderlying124,rfl,Tryz.sizeOf3,rfl⟩
 ·exact ⟨_,_,_,Tryz.runUnderlying127,rfl,Tryz.sizeOf30,rfl⟩
 ·exact ⟨_,_,_,Tryz.runUnderlying127,rfl,Tryz.sizeOf125,rfl⟩
 ·exact ⟨_,_,_,Tryz.runUnderlying129,rfl,Tryz.sizeOf48,rfl⟩
 ·exact ⟨_,_,_,Tryz.runUnderlying129,rfl,Tryz.sizeOf9,rfl⟩
 ·exact ⟨_,_,_,Tryz.runUnderlying277,rfl,Tryz.sizeOf3,rfl⟩
 ·exact ⟨_,_,_,Tryz.runUnderlying277,rfl,Tryz.sizeOf3,rfl⟩
 ·exact ⟨_,_,_,Tryz.runUnderlying277,rfl,Tryz.sizeOf3,rfl⟩
 ·exact ⟨_,_,_,Tryz.runUnderlying277,rfl,Tryz.sizeOf3,rfl⟩
 ·exact ⟨_,_,_,Tryz.runUnderlying292,rfl,Tryz.sizeOf3,rfl⟩
 ·exact ⟨_,_,_,Tryz.runUnderlying292,rfl,Tryz.sizeOf3,rfl⟩
 ·exact ⟨_,_,_,Tryz.runUnderlying292,rfl,Tryz.sizeOf3,rfl⟩
 ·exact ⟨_,_,_,Tryz.runUnderlying292,rfl,Tryz.sizeOf3,rfl⟩
 ·exact ⟨_,_,_,Tryz.runUnderlying315,rfl,Tryz.sizeOf3,rfl⟩
 ·exact ⟨_,_,_,Tryz.runUnderlying315,rfl,Tryz.sizeOf124,rfl⟩
 exact ⟨_,_,_,Tryz.runUnderlying315,rfl,Tryz.sizeOf124,rfl⟩
theorem tN (t:Nat) (h:okN t=true):∀ w,(isAgg t).run Tryz.prog w=.ok false w:=by
 replace h:t=3∨t=4∨t=5∨t=9∨t=23∨t=30∨t=31∨t=43∨t=44∨t=54∨t=57∨t=87∨t=125∨t=131∨t=171∨t=237∨t=251∨t=272∨t=280∨t=284:=by simpa [okN] using h
 rcases h with rfl|rfl|rfl|rfl|rfl|rfl|rfl|rfl|rfl|rfl|rfl|rfl|rfl|rfl|rfl|rfl|rfl|rfl|rfl|rfl
 ·exact Tryz.isAgg3
 ·exact Tryz.isAgg4
 ·exact Tryz.isAgg5
 ·exact Tryz.isAgg9
 ·exact Tryz.isAgg23
 ·exact Tryz.isAgg30
 ·exact Tryz.isAgg31
 ·exact Tryz.isAgg43
 ·exact Tryz.isAgg44
 ·exact Tryz.isAgg54
 ·exact Tryz.isAgg57
 ·exact Tryz.isAgg87
 ·exact Tryz.isAgg125
 ·exact Tryz.isAgg131
 ·exact Tryz.isAgg171
 ·exact Tryz.isAgg237
 ·exact Tryz.isAgg251
 ·exact Tryz.isAgg272
 ·exact Tryz.isAgg280
 exact Tryz.isAgg284
theorem tA (t:Nat) (h:okA t=true):(∀ w,(isAgg t).run Tryz.prog w=.ok true w)∧∀ w,(sizeOf t).run Tryz.prog w=.ok (szT t) w:=by
 replace h:t=25∨t=46∨t=48∨t=51∨t=56∨t=59∨t=89∨t=124∨t=127∨t=277∨t=292∨t=315:=by simpa [okA] using h
 rcases h with rfl|rfl|rfl|rfl|rfl|rfl|rfl|rfl|rfl|rfl|rfl|rfl
 ·exact ⟨Tryz.isAgg25,Tryz.sizeOf25⟩
 ·exact ⟨Tryz.isAgg46,Tryz.sizeOf46⟩
 ·exact ⟨Tryz.isAgg48,Tryz.sizeOf48⟩
 ·exact ⟨Tryz.isAgg51,Tryz.sizeOf51⟩
 ·exact ⟨Tryz.isAgg56,Tryz.sizeOf56⟩
 ·exact ⟨Tryz.isAgg59,Tryz.sizeOf59⟩
 ·exact ⟨Tryz.isAgg89,Tryz.sizeOf89⟩
 ·exact ⟨Tryz.isAgg124,Tryz.sizeOf124⟩
 ·exact ⟨Tryz.isAgg127,Tryz.sizeOf127⟩
 ·exact ⟨Tryz.isAgg277,Tryz.sizeOf277⟩
 ·exact ⟨Tryz.isAgg292,Tryz.sizeOf292⟩
 exact ⟨Tryz.isAgg315,Tryz.sizeOf315⟩
theorem tS (t:Nat) (h:okS t=true):(∀ w,(underlying t).run Tryz.prog w=.ok (.slice (elT t)) w)∧∀ w,(sizeOf (elT t)).run Tryz.prog w=.ok (szT (elT t)) w:=by
 replace h:t=23∨t=30∨t=31∨t=43∨t=44∨t=54∨t=57∨t=61∨t=125∨t=204∨t=237∨t=280∨t=289∨t=308:=by simpa [okS] using h
 rcases h with rfl|rfl|rfl|rfl|rfl|rfl|rfl|rfl|rfl|rfl|rfl|rfl|rfl|rfl
 ·exact ⟨Tryz.runUnderlying23,Tryz.sizeOf51⟩
 ·exact ⟨Tryz.runUnderlying30,Tryz.sizeOf3⟩
 ·exact ⟨Tryz.runUnderlying31,Tryz.sizeOf3⟩
 ·exact ⟨Tryz.runUnderlying43,Tryz.sizeOf124⟩
 ·exact ⟨Tryz.runUnderlying44,Tryz.sizeOf127⟩
 ·exact ⟨Tryz.runUnderlying54,Tryz.sizeOf5⟩
 ·exact ⟨Tryz.runUnderlying57,Tryz.sizeOf87⟩
 ·exact ⟨Tryz.runUnderlying61,Tryz.sizeOf9⟩
 ·exact ⟨Tryz.runUnderlying125,Tryz.sizeOf30⟩
 ·exact ⟨Tryz.runUnderlying204,Tryz.sizeOf4⟩
 ·exact ⟨Tryz.runUnderlying237,Tryz.sizeOf124⟩
 ·exact ⟨Tryz.runUnderlying280,Tryz.sizeOf277⟩
 ·exact ⟨Tryz.runUnderlying289,Tryz.sizeOf292⟩
 exact ⟨Tryz.runUnderlying308,Tryz.sizeOf125⟩
theorem tL (t:Nat) (h:okL t=true):∃ el,∀ w,(underlying t).run Tryz.prog w=.ok (.slice el) w:=by
 replace h:t=23∨t=30∨t=31∨t=43∨t=44∨t=54∨t=57∨t=61∨t=125∨t=204∨t=237∨t=280∨t=289∨t=308:=by simpa [okL] using h
 rcases h with rfl|rfl|rfl|rfl|rfl|rfl|rfl|rfl|rfl|rfl|rfl|rfl|rfl|rfl
 ·exact ⟨_,Tryz.runUnderlying23⟩
 ·exact ⟨_,Tryz.runUnderlying30⟩
 ·exact ⟨_,Tryz.runUnderlying31⟩
 ·exact ⟨_,Tryz.runUnderlying43⟩
 ·exact ⟨_,Tryz.runUnderlying44⟩
 ·exact ⟨_,Tryz.runUnderlying54⟩
 ·exact ⟨_,Tryz.runUnderlying57⟩
 ·exact ⟨_,Tryz.runUnderlying61⟩
 ·exact ⟨_,Tryz.runUnderlying125⟩
 ·exact ⟨_,Tryz.runUnderlying204⟩
 ·exact ⟨_,Tryz.runUnderlying237⟩
 ·exact ⟨_,Tryz.runUnderlying280⟩
 ·exact ⟨_,Tryz.runUnderlying289⟩
 exact ⟨_,Tryz.runUnderlying308⟩
section
variable {C:Cx} {e:Env} {w:World} {K:Value→World→Prop} {d:Option Tmp} {ty:TypeId} {pos:String} {aft:Array Edge} {g:Option (Nat×Bool)} {x y:Operand} {t:TypeId}
theorem O.fa (hx:ev e x=some (.pointer (some ad))) (h:K (.pointer (some (ad.add (ofT t i)))) w) (a:C.P=Tryz.prog:=by rfl) (ho:okF t i=true:=by rfl):O C e ⟨d,.fieldAddr t x i,ty,pos,aft,g⟩ w K:=by
 obtain ⟨fs,f,s,b,c,j,k⟩:=tF t i ho
 rw [←k] at h
 exact EZ (by rw [a];exact b) c (by rw [a];exact j) hx h
theorem dR (hx:ev e x=some (.pointer (some ad))) (a:w.cell? ad=some v) (h:K v w) (b:C.P=Tryz.prog:=by rfl) (ho:okN t=true:=by rfl):O C e ⟨d,.load t x,ty,pos,aft,g⟩ w K:=U8 (by rw [b];exact tN t ho) hx a h
theorem jC (hn:cs.length=szT t) (hx:ev e x=some (.pointer (some ad))) (b:Row w ad cs) (h:K (.agg cs.toArray) w) (a:C.P=Tryz.prog:=by rfl) (ho:okA t=true:=by rfl):O C e ⟨d,.load t x,ty,pos,aft,g⟩ w K:=Ah (by rw [a];exact (tA t ho).1) (by rw [a];exact (tA t ho).2) hn hx b h
theorem ig {kd:IntKind} (hx:ev e x=some v) (hy:ev e y=some (.int kd m)) (hv:Sl lo w₁ v n z cs) (h0:0≤m) (b:m<n) (h:K (.pointer (some ((jX v).add (m.toNat*z)))) w) (a:C.P=Tryz.prog:=by rfl) (ho:okS t=true:=by rfl) (c:szT (elT t)=z:=by rfl):O C e ⟨d,.indexAddr t x y,ty,pos,aft,g⟩ w K:=by
 subst c
 exact EY (by rw [a];exact (tS t ho).1) (by rw [a];exact (tS t ho).2) hx hy hv h0 b h
theorem O.le (hx:ev e x=some v) (hv:∃ oa cap,v=.slice oa n cap∧n≤cap∧cap≤maxLen) (h:K (.int .i64 n) w) (a:C.P=Tryz.prog:=by rfl) (ho:okL t=true:=by rfl):O C e ⟨d,.call {callee:=.builtin .len,args:=#[x],argTypes:=#[t]},ty,pos,aft,g⟩ w K:=by
 obtain ⟨el,b⟩:=tL t ho
 exact O.len (by rw [a];exact b) hx hv h
variable {k:List It} {ops:Array Oper} {rest:List Oper} {v:Value} {X Y:Code} {d':Option Tmp} {ty':TypeId} {pos':String} {agU:Array Edge} {g':Option (Nat×Bool)} {o o':Oper} {u:Value} {id:Nat} {l:List Oper} {c:Operand}
theorem ah (hx:ev e x=some v) (h:T C k (lW d v e) w) (b:fF ops e ⟨d,.assign x,ty,pos,aft,g⟩=some true:=by rfl) (c:iD C.n d=true:=by rfl):L C k ops [⟨d,.assign x,ty,pos,aft,g⟩] e w:=L.a hx (ak h) b c
theorem aO (hx:ev e x=some v) (h:O C (lW d v e) o w (fun v2 c=>L C k ops rest (lW o.dst v2 (lW d v e)) c)) (f:fF ops e ⟨d,.move x,ty,pos,aft,g⟩=some true:=by rfl) (i:iD C.n d=true:=by rfl) (a:fF ops (lW d v e) o=some true:=by rfl) (b:iD C.n o.dst=true:=by rfl):L C k ops (⟨d,.move x,ty,pos,aft,g⟩::o::rest) e w:=L.m hx (L.o h a b) f i
theorem aN (hx:ev e x=some v) (hy:ev (lW d v e) y=some u) (h:L C k ops rest (lW d' u (lW d v e)) w) (c:fF ops e ⟨d,.move x,ty,pos,aft,g⟩=some true:=by rfl) (f:iD C.n d=true:=by rfl) (a:fF ops (lW d v e) ⟨d',.move y,ty',pos',agU,g'⟩=some true:=by rfl) (b:iD C.n d'=true:=by rfl):L C k ops (⟨d,.move x,ty,pos,aft,g⟩::⟨d',.move y,ty',pos',agU,g'⟩::rest) e w:=L.m hx (L.m hy h a b) c f
theorem L.pp (h:L C k ops rest (lW o'.dst undef (lW o.dst undef e)) w) (c:fF ops e o=some false:=by rfl) (d:iD C.n o.dst=true:=by rfl) (a:fF ops (lW o.dst undef e) o'=some false:=by rfl) (b:iD C.n o'.dst=true:=by rfl):L C k ops (o::o'::rest) e w:=L.p (L.p h a b) c d
theorem aQ (hx:ev e x=some v) (h:L C (.code Y::k) (⟨d,.move x,ty,pos,aft,g⟩::rest).toArray rest (lW d v e) w) (a:fF (⟨d,.move x,ty,pos,aft,g⟩::rest).toArray e ⟨d,.move x,ty,pos,aft,g⟩=some true:=by rfl) (b:iD C.n d=true:=by rfl):T C (.code (.seq (.region id (⟨d,.move x,ty,pos,aft,g⟩::rest).toArray false) Y)::k) e w:=au (L.m hx h a b)
theorem fK (hx:ev e x=some v) (h:L C (.code Y::k) (⟨d,.assign x,ty,pos,aft,g⟩::rest).toArray rest (lW d v e) w) (b:fF (⟨d,.assign x,ty,pos,aft,g⟩::rest).toArray e ⟨d,.assign x,ty,pos,aft,g⟩=some true:=by rfl) (c:iD C.n d=true:=by rfl):T C (.code (.seq (.region id (⟨d,.assign x,ty,pos,aft,g⟩::rest).toArray false) Y)::k) e w:=au (L.a hx h b c)
theorem aU (h:T C (.code Y::k) e w) (a:ev e c=some (.bool false):=by rfl):L C (.code (.cond c X Y)::k) ops [] e w:=ak (bn h a)
theorem aW (h:T C (.code X::k) e w) (a:ev e c=some (.bool true):=by rfl):L C (.code (.cond c X Y)::k) ops [] e w:=ak (aZ h a)
theorem bF {n:Int} (hx:ev e x=some (.int .i64 m)) (hy:ev e y=some (.int .i64 n)) (h:L C k ops rest (lW d (.int .i64 (m+n)) e) w) (hb:-9223372036854775808≤m+n∧m+n≤9223372036854775807:=by omega) (a:fF ops e ⟨d,.binOp .add tx x y ty2,ty,pos,aft,g⟩=some true:=by rfl) (b:iD C.n d=true:=by rfl):L C k ops (⟨d,.binOp .add tx x y ty2,ty,pos,aft,g⟩::rest) e w:=L.o (bG hx hy hb h) a b
theorem bM (hx:ev e x=some v) (h:∀ b w',b=w.heap.size→w'.heap.size=b+1→Ext w w'→Blk w' b v.cells.toList t→L C k ops rest (lW d (.pointer (some ⟨b,0,none⟩)) e) w') (a:fF ops e ⟨d,.box t x,ty,pos,aft,g⟩=some true:=by rfl) (c:iD C.n d=true:=by rfl):L C k ops (⟨d,.box t x,ty,pos,aft,g⟩::rest) e w:=L.o (O.box hx h) a c
theorem dK {kd:IntKind} {n:Int} (hx:ev e x=some (.int kd m)) (hy:ev e y=some (.int kd n)) (a:m=n→L C k ops rest (lW d (.bool true) e) w) (hf:¬m=n→L C k ops rest (lW d (.bool false) e) w) (b:fF ops e ⟨d,.binOp .eql tx x y ty2,ty,pos,aft,g⟩=some true:=by rfl) (c:iD C.n d=true:=by rfl):L C k ops (⟨d,.binOp .eql tx x y ty2,ty,pos,aft,g⟩::rest) e w:=L.o (SI hx hy a hf) b c
theorem bK {vs:Array Value} (hx:ev e x=some (.tuple vs)) (hv:vs[i]?=some v) (h:L C k ops rest (lW d v e) w) (a:fF ops e ⟨d,.extract x i,ty,pos,aft,g⟩=some true:=by rfl) (b:iD C.n d=true:=by rfl):L C k ops (⟨d,.extract x i,ty,pos,aft,g⟩::rest) e w:=L.o (O.extract hx hv h) a b
theorem L.fa {ad:Addr} {i:Nat} (hx:ev e x=some (.pointer (some ad))) (h:L C k ops rest (lW d (.pointer (some (ad.add (ofT t i)))) e) w) (a:C.P=Tryz.prog:=by rfl) (ho:okF t i=true:=by rfl) (b:fF ops e ⟨d,.fieldAddr t x i,ty,pos,aft,g⟩=some true:=by rfl) (c:iD C.n d=true:=by rfl):L C k ops (⟨d,.fieldAddr t x i,ty,pos,aft,g⟩::rest) e w:=L.o (O.fa hx h a ho) b c
theorem dY {kd:IntKind} {n:Int} (hx:ev e x=some (.int kd m)) (hy:ev e y=some (.int kd n)) (a:n<m→L C k ops rest (lW d (.bool true) e) w) (hf:¬n<m→L C k ops rest (lW d (.bool false) e) w) (b:fF ops e ⟨d,.binOp .gtr tx x y ty2,ty,pos,aft,g⟩=some true:=by rfl) (c:iD C.n d=true:=by rfl):L C k ops (⟨d,.binOp .gtr tx x y ty2,ty,pos,aft,g⟩::rest) e w:=L.o (SH hx hy a hf) b c
theorem jI {kd:IntKind} (hx:ev e x=some v) (hy:ev e y=some (.int kd m)) (hv:Sl lo w₁ v n z cs) (h0:0≤m) (a:m<n) (h:L C k ops rest (lW d (.pointer (some ((jX v).add (m.toNat*z)))) e) w) (b:C.P=Tryz.prog:=by rfl) (ho:okS t=true:=by rfl) (c:szT (elT t)=z:=by rfl) (f:fF ops e ⟨d,.indexAddr t x y,ty,pos,aft,g⟩=some true:=by rfl) (i:iD C.n d=true:=by rfl):L C k ops (⟨d,.indexAddr t x y,ty,pos,aft,g⟩::rest) e w:=L.o (ig hx hy hv h0 a h b ho c) f i
theorem dG {kd:IntKind} (hx:ev e x=some v) (hy:ev e y=some (.int kd m)) (hv:Sl lo w₁ v n z cs) (h:L C k ops rest (lW d (.pointer (some ((jX v).add (m.toNat*z)))) e) w) (h0:0≤m:=by omega) (a:m<n:=by omega) (b:C.P=Tryz.prog:=by rfl) (ho:okS t=true:=by rfl) (c:szT (elT t)=z:=by rfl) (f:fF ops e ⟨d,.indexAddr t x y,ty,pos,aft,g⟩=some true:=by rfl) (i:iD C.n d=true:=by rfl):L C k ops (⟨d,.indexAddr t x y,ty,pos,aft,g⟩::rest) e w:=L.o (ig hx hy hv h0 a h b ho c) f i
theorem cZ (hx:ev e x=some (.pointer (some ad))) (a:w.cell? ad=some v) (h:L C k ops rest (lW d v e) w) (b:C.P=Tryz.prog:=by rfl) (ho:okN t=true:=by rfl) (c:fF ops e ⟨d,.load t x,ty,pos,aft,g⟩=some true:=by rfl) (f:iD C.n d=true:=by rfl):L C k ops (⟨d,.load t x,ty,pos,aft,g⟩::rest) e w:=L.o (dR hx a h b ho) c f
theorem L.le {v:Value} {n:Nat} (hx:ev e x=some v) (hv:∃ oa cap,v=.slice oa n cap∧n≤cap∧cap≤maxLen) (h:L C k ops rest (lW d (.int .i64 n) e) w) (a:C.P=Tryz.prog:=by rfl) (ho:okL t=true:=by rfl) (b:fF ops e ⟨d,.call {callee:=.builtin .len,args:=#[x],argTypes:=#[t]},ty,pos,aft,g⟩=some true:=by rfl) (c:iD C.n d=true:=by rfl):L C k ops (⟨d,.call {callee:=.builtin .len,args:=#[x],argTypes:=#[t]},ty,pos,aft,g⟩::rest) e w:=L.o (O.le hx hv h a ho) b c
theorem aT (hn:cs.length=szT t) (hx:ev e x=some (.pointer (some ad))) (a:Row w ad cs) (h:L C k ops rest (lW d (.agg cs.toArray) e) w) (b:C.P=Tryz.prog:=by rfl) (ho:okA t=true:=by rfl) (c:fF ops e ⟨d,.load t x,ty,pos,aft,g⟩=some true:=by rfl) (f:iD C.n d=true:=by rfl):L C k ops (⟨d,.load t x,ty,pos,aft,g⟩::rest) e w:=L.o (jC hn hx a h b ho) c f
theorem bH {kd:IntKind} {n:Int} (hx:ev e x=some (.int kd m)) (hy:ev e y=some (.int kd n)) (a:m<n→L C k ops rest (lW d (.bool true) e) w) (hf:¬m<n→L C k ops rest (lW d (.bool false) e) w) (b:fF ops e ⟨d,.binOp .lss tx x y ty2,ty,pos,aft,g⟩=some true:=by rfl) (c:iD C.n d=true:=by rfl):L C k ops (⟨d,.binOp .lss tx x y ty2,ty,pos,aft,g⟩::rest) e w:=L.o (SG hx hy a hf) b c
theorem bT {b:Bool} (hx:ev e x=some (.bool b)) (h:L C k ops rest (lW d (.bool (!b)) e) w) (a:fF ops e ⟨d,.unOp .not tx x,ty,pos,aft,g⟩=some true:=by rfl) (c:iD C.n d=true:=by rfl):L C k ops (⟨d,.unOp .not tx x,ty,pos,aft,g⟩::rest) e w:=L.o (oq hx h) a c
theorem mG (hx:ev e x=some (.pointer (some ad))) (h:L C k ops rest (lW d (.pointer (some ad)) e) w) (a:fF ops e ⟨d,.nilCheck x,ty,pos,aft,g⟩=some true:=by rfl) (b:iD C.n d=true:=by rfl):L C k ops (⟨d,.nilCheck x,ty,pos,aft,g⟩::rest) e w:=L.o (gI hx h) a b
theorem L.ne {kd:IntKind} {n:Int} (hx:ev e x=some (.int kd m)) (hy:ev e y=some (.int kd n)) (a:m≠n→L C k ops rest (lW d (.bool true) e) w) (hf:m=n→L C k ops rest (lW d (.bool false) e) w) (b:fF ops e ⟨d,.binOp .neq tx x y ty2,ty,pos,aft,g⟩=some true:=by rfl) (c:iD C.n d=true:=by rfl):L C k ops (⟨d,.binOp .neq tx x y ty2,ty,pos,aft,g⟩::rest) e w:=L.o (SK hx hy a hf) b c
theorem aI {c:Operand} (hx:ev e y=some v) (h:L C k ops rest (lW d v e) w) (a:ev e c=some (.bool false):=by rfl) (b:fF ops e ⟨d,.pick c x y,ty,pos,aft,g⟩=some true:=by rfl) (f:iD C.n d=true:=by rfl):L C k ops (⟨d,.pick c x y,ty,pos,aft,g⟩::rest) e w:=L.o (tK a hx h) b f
theorem aG {c:Operand} (hx:ev e x=some v) (h:L C k ops rest (lW d v e) w) (a:ev e c=some (.bool true):=by rfl) (b:fF ops e ⟨d,.pick c x y,ty,pos,aft,g⟩=some true:=by rfl) (f:iD C.n d=true:=by rfl):L C k ops (⟨d,.pick c x y,ty,pos,aft,g⟩::rest) e w:=L.o (vZ a hx h) b f
theorem BF {vs:Array Value} (hx:ev e x=some (.tuple vs)) (hv:vs[i]?=some v) (a:fF ops e ⟨d,.extract x i,ty,pos,aft,g⟩=some true:=by rfl):Ob C ops e ⟨d,.extract x i,ty,pos,aft,g⟩ (.is v) w:=Ob.o (O.extract hx hv kR) a
theorem Ob.fa {ad:Addr} {i:Nat} (hx:ev e x=some (.pointer (some ad))) (a:C.P=Tryz.prog:=by rfl) (ho:okF t i=true:=by rfl) (b:fF ops e ⟨d,.fieldAddr t x i,ty,pos,aft,g⟩=some true:=by rfl):Ob C ops e ⟨d,.fieldAddr t x i,ty,pos,aft,g⟩ (.is (.pointer (some (ad.add (ofT t i))))) w:=Ob.o (O.fa hx kR a ho) b
theorem qc {kd:IntKind} (hx:ev e x=some v) (hy:ev e y=some (.int kd m)) (hv:Sl lo w₁ v n z cs) (h0:0≤m) (a:m<n) (b:C.P=Tryz.prog:=by rfl) (ho:okS t=true:=by rfl) (c:szT (elT t)=z:=by rfl) (f:fF ops e ⟨d,.indexAddr t x y,ty,pos,aft,g⟩=some true:=by rfl):Ob C ops e ⟨d,.indexAddr t x y,ty,pos,aft,g⟩ (.is (.pointer (some ((jX v).add (m.toNat*z))))) w:=Ob.o (ig hx hy hv h0 a kR b ho c) f
theorem bQ {kd:IntKind} (hx:ev e x=some v) (hy:ev e y=some (.int kd m)) (hv:Sl lo w₁ v n z cs) (h0:0≤m:=by omega) (a:m<n:=by omega) (b:C.P=Tryz.prog:=by rfl) (ho:okS t=true:=by rfl) (c:szT (elT t)=z:=by rfl) (f:fF ops e ⟨d,.indexAddr t x y,ty,pos,aft,g⟩=some true:=by rfl):Ob C ops e ⟨d,.indexAddr t x y,ty,pos,aft,g⟩ (.is (.pointer (some ((jX v).add (m.toNat*z))))) w:=Ob.o (ig hx hy hv h0 a kR b ho c) f
theorem aS (hx:ev e x=some (.pointer (some ad))) (a:w.cell? ad=some v) (b:C.P=Tryz.prog:=by rfl) (ho:okN t=true:=by rfl) (c:fF ops e ⟨d,.load t x,ty,pos,aft,g⟩=some true:=by rfl):Ob C ops e ⟨d,.load t x,ty,pos,aft,g⟩ (.is v) w:=Ob.o (dR hx a kR b ho) c
theorem bJ (hn:cs.length=szT t) (hx:ev e x=some (.pointer (some ad))) (a:Row w ad cs) (b:C.P=Tryz.prog:=by rfl) (ho:okA t=true:=by rfl) (c:fF ops e ⟨d,.load t x,ty,pos,aft,g⟩=some true:=by rfl):Ob C ops e ⟨d,.load t x,ty,pos,aft,g⟩ (.is (.agg cs.toArray)) w:=Ob.o (jC hn hx a kR b ho) c
theorem aF (hx:ev e x=some v) (a:fF ops e ⟨d,.move x,ty,pos,aft,g⟩=some true:=by rfl):Ob C ops e ⟨d,.move x,ty,pos,aft,g⟩ (.is v) w:=Ob.o (O.move hx kR) a
theorem jF (hx:ev e x=some (.pointer (some ad))) (a:fF ops e ⟨d,.nilCheck x,ty,pos,aft,g⟩=some true:=by rfl):Ob C ops e ⟨d,.nilCheck x,ty,pos,aft,g⟩ (.is (.pointer (some ad))) w:=Ob.o (gI hx kR) a
theorem oD {c:Operand} (hx:ev e y=some v) (a:ev e c=some (.bool false):=by rfl) (b:fF ops e ⟨d,.pick c x y,ty,pos,aft,g⟩=some true:=by rfl):Ob C ops e ⟨d,.pick c x y,ty,pos,aft,g⟩ (.is v) w:=Ob.o (tK a hx kR) b
theorem jU {c:Operand} (hx:ev e x=some v) (a:ev e c=some (.bool true):=by rfl) (b:fF ops e ⟨d,.pick c x y,ty,pos,aft,g⟩=some true:=by rfl):Ob C ops e ⟨d,.pick c x y,ty,pos,aft,g⟩ (.is v) w:=Ob.o (vZ a hx kR) b
theorem Ob.sg (hx:ev e x=some v) (a:fF ops e ⟨d,.assign x,ty,pos,aft,g⟩=some true:=by rfl):Ob C ops e ⟨d,.assign x,ty,pos,aft,g⟩ (.is v) w:=Ob.o (wF hx kR) a
theorem aC (hx:ev e x=some (.pointer (some ad))) (f:w.cell? (ad.add (ofT t i))=some v) (h:L C k ops rest (lW d' v (lW d (.pointer (some (ad.add (ofT t i)))) e)) w) (c:C.P=Tryz.prog:=by rfl) (ho:okF t i=true:=by rfl) (hn:okN ty'=true:=by rfl) (hy:ev (lW d (.pointer (some (ad.add (ofT t i)))) e) y=some (.pointer (some (ad.add (ofT t i)))):=by rfl) (j:fF ops e ⟨d,.fieldAddr t x i,ty,pos,aft,g⟩=some true:=by rfl) (l:iD C.n d=true:=by rfl) (a:fF ops (lW d (.pointer (some (ad.add (ofT t i)))) e) ⟨d',.load ty' y,ty2,pos',agU,g'⟩=some true:=by rfl) (b:iD C.n d'=true:=by rfl):L C k ops (⟨d,.fieldAddr t x i,ty,pos,aft,g⟩::⟨d',.load ty' y,ty2,pos',agU,g'⟩::rest) e w:=L.o (O.fa hx (L.o (dR hy f h c hn) a b) c ho) j l
end
def agV (l:List Oper):List (List Nat):=l.foldl (fun A o=>A ++ [(o.after.toList.foldl (fun s x=>if Region.binds .any x = true then x.on::(A.getD x.on [] ++ s) else s) []).eraseDups]) []
theorem dn {C:Cx} {k:List It} {l:List Oper} {e:Env} {w:World} {e':Env} {id:Nat} (OB:C.P.follows .mixedOrders=true) (m:Nat) (S:List Nat) (h:AX e S=some e') (fs:List Fact) (ds:List (List Nat)) (c:Cb Ext fs) (d:alI C l fs e' w (l.take m) fs ds) (a:∀ w1,Ext w w1→Bind w1 (fH l fs (List.range m)) (fun en=>L C k l.toArray (l.drop m) (en ++ e) w1)) (hA:Cc l (agV l)=true:=by kernel_rfl) (f:Ih C.n l m ds S (agV l)=true:=by kernel_rfl) (b:fs.length=m:=by rfl) (g:oz (agV l) m (List.replicate m none) 0=true:=by kernel_rfl):T C (.code (.region id l.toArray true)::k) e w:=uh OB m S h fs ds (agV l) hA f b g c d a
end Go.E
