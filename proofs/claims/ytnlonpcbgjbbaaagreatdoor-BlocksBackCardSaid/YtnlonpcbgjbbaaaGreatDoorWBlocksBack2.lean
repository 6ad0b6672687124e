/-
  BlocksBack, part 2 of its proof: that it returns true for every input, and each argument reads behind the call as it read before. Conditions: the listed variables read as the program's text lays them (tied by the card).
-/
import Derived.Test.YtnlonpcbgjbbaaaGreatDoorWBlocksBack1
import Derived.Test.YtnlonpcbgjbbaaaGreatDoorProg
import Derived.KernelRfl
import Derived.RangeFuncRecord
import Derived.MapKept
import Derived.Laws.IdiomRangeMap
import Derived.ProofKit
import Derived.OpenShut
import Derived.ShutString
import Derived.ChangeOld
import Derived.Below
import Derived.Carry
import Derived.Deep.Slices
import Derived.JoinedOf
import Derived.LaidLaws
import Derived.ChangeAgain
set_option linter.unusedVariables false
set_option linter.unusedSimpArgs false
set_option linter.unusedSectionVars false
set_option linter.unnecessarySimpa false
namespace Go.Proofs.YtnlonpcbgjbbaaaGreatDoor
open Go Go.E
theorem mixed:Tryz.prog.follows .mixedOrders=true:=by kernel_rfl
theorem Tryz.jU:Tryz.prog.info? 3=some Tryz.t3:=by kernel_rfl
theorem Tryz.rY:Tryz.prog.info? 9=some Tryz.t9:=by kernel_rfl
theorem Tryz.nT:Tryz.prog.info? 30=some Tryz.t30:=by kernel_rfl
theorem Tryz.KC:Tryz.prog.info? 51=some Tryz.t51:=by kernel_rfl
theorem Tryz.xq:Tryz.prog.info? 124=some Tryz.t124:=by kernel_rfl
theorem Tryz.ku:Tryz.prog.info? 127=some Tryz.t127:=by kernel_rfl
theorem Tryz.Pv:Tryz.prog.info? 277=some Tryz.t277:=by kernel_rfl
end Go.Proofs.YtnlonpcbgjbbaaaGreatDoor
namespace Go.E
open Go.RowKit
theorem Keep.Px {lo base n sz:Nat} {el:TypeId} {w w1 w1' w2:World} {v:Value} {xs:List Value} (h:Keep lo w w1) (hO:w1'.ownsRow base el sz v n xs) (hG:w1.grownBy w2 v.ownBlock) (hb:base<lo→False) (hw:w.heap.size≤base):Keep lo w w2:=by
 refine h.grown hG fun j hj=>?_
 rcases hO.2 with ⟨hv,_⟩|⟨g,cap,cur,hv,hg,_⟩
 ·subst hv;cases hj
 subst hv;cases hj;exact .inr (Nat.le_trans hw hg)
theorem Keep.fO {base n sz:Nat} {el:TypeId} {w w1 w1' w2:World} {v:Value} {xs:List Value} (h:Ext w w1) (hO:w1'.ownsRow base el sz v n xs) (hG:w1.grownBy w2 v.ownBlock) (hw:w.heap.size≤base):Ext w w2 :=
 Keep.Px h hO hG (fun h=>absurd h (Nat.not_lt_zero _)) hw
theorem eG (w:World) (base:Nat) (el:TypeId) (sz:Nat):w.ownsRow base el sz (.slice none 0 0) 0 []:=⟨by simp,.inl ⟨rfl,rfl⟩⟩
section ops
variable {C:Cx} {e:Env} {w:World} {K:Value→World→Prop} {d:Option Tmp} {ty:TypeId} {pos:String} {aft:Array Edge} {g:Option (Nat × Bool)}
variable {x y:Operand} {t:TypeId} {tys:Array TypeId}
theorem O.min {kd:IntKind} {a b:Int} (hx:ev e x=some (.int kd a)) (hy:ev e y=some (.int kd b)) (h:K (.int kd (if b<a then b else a)) w) :
  O C e ⟨d,.call { callee:=.builtin .min,args:=#[x,y],argTypes:=tys },ty,pos,aft,g⟩ w K :=
 O.of_run (by simp) (fun q hq=>by
  simp [execOp,resolve,invoke,builtin,hq.eval hx,hq.eval hy,Go.run_min_int2]) h
theorem O.max {kd:IntKind} {a b:Int} (hx:ev e x=some (.int kd a)) (hy:ev e y=some (.int kd b)) (h:K (.int kd (if a<b then b else a)) w) :
  O C e ⟨d,.call { callee:=.builtin .max,args:=#[x,y],argTypes:=tys },ty,pos,aft,g⟩ w K :=
 O.of_run (by simp) (fun q hq=>by
  simp [execOp,resolve,invoke,builtin,hq.eval hx,hq.eval hy,Go.run_max_int2]) h
end ops
open Go.RowKit
theorem aQ (w:World) (l:Nat) (o:Obj):Upd l w (w.putObj l o):=⟨rfl,rfl,rfl,by simp,fun k hk=>World.putObj_heap_other hk⟩
def Yld (P:Program) (l:Nat) (args:Array Value) (w:World) (R:Value→World→Prop):Prop :=
 ∃ f tmps assign body,(Instr.yield l args).run P w = .ok (.round l f tmps assign body) w∧RoundIn (FW none) 0 P l f tmps assign body w (Ret R)
section
variable {C:Cx} {k:List It} {e:Env} {w:World} {K:Value→World→Prop} {d:Option Tmp} {ty:TypeId} {pos:String} {aft:Array Edge} {g:Option (Nat × Bool)}
theorem O.yield {l:Nat} {xs:List Operand} {vs:List Value} {tys:Array TypeId} {fo:Operand} {R:Value→World→Prop} (hr:C.r=none) (hf:ev e fo=some (.func (.yield l) #[] #[])) (hx:evs e xs=some vs)
  (hc:Yld C.P l vs.toArray w R) (h:∀ v w',R v w'→K v w'):O C e ⟨d,.call { callee:=.value fo,args:=xs.toArray,argTypes:=tys },ty,pos,aft,g⟩ w K:=by
 intro a ha next Q hn
 refine ⟨fun _ _=>trivial,?_⟩
 rw [Oper.semAt_eq _ _ _ (by simp)]
 obtain ⟨f,tmps,assign,body,hy,hrd⟩:=hc
 have hrun:(execOp a.eval ⟨d,.call { callee:=.value fo,args:=xs.toArray,argTypes:=tys },ty,pos,aft,g⟩).run C.P w = .ok (.round l f tmps assign body) w:=by
  simp [execOp,resolve,Deferred.ofValue,invoke,ha.eval hf,ha.sat.EP hx,hy]
 rw [hrun]
 refine ⟨by simp,?_⟩
 rw [hr]
 refine hrd.mono ?_
 intro en w' hq
 cases en with
 | returned v=>exact hn v w' (h v w' hq)
 | panicked c=>exact hq.elim
 | outgrown=>exact hq.elim
def zU {σ:Type} (J:σ→(Nat→Prop)→World→Prop):Prop :=
 (∀ i S S' W W',J i S W→Ext W W'→(∀ k,S' k→S k∨W.heap.size≤k∧k<W'.heap.size)→J i S' W') ∧
 (∀ i S W W' b,J i S W→S b→Upd b W W'→J i S W')
def X6 (P:Program) (gf:FuncId) (lb:Array Value) {σ:Type} (Next:σ→Value→σ→Prop) (s0 sE:σ) (Inv:World→Prop) (S0:Nat→Prop) (Pre:World→Prop):Prop :=
 ∀ (l:Nat) (J:σ→(Nat→Prop)→World→Prop) (X:World→Prop) (W:World),zU J→(∀ i S W,J i S W→Inv W) →
  (∀ i v j S W,Next i v j→J i S W→Yld P l #[v] W fun u W'=>(u = .bool true∧J j S W'∧∀ k,S k→W'.heap[k]?=W.heap[k]?)∨(u = .bool false∧X W')) →
  J s0 S0 W→Pre W→Calls P gf (#[.func (.yield l) #[] #[]]++lb) W (Ret fun _ W'=>(∃ S,(∀ k,S0 k→S k)∧J sE S W')∨X W')
abbrev rCx (C:Cx) (l:Nat) (Q:Exit→Act→World→Prop):Cx:={ P:=C.P,r:=some l,n:=C.n,D:=[],Q:=Q }
def RQ {σ:Type} (I:σ→(Nat→Prop)→World→Prop) (X:Code→(Nat→Prop)→World→Prop) (j:σ) (S:Nat→Prop) (W:World):Exit→Act→World→Prop
 | .normal,_,W'=>I j S W'∧∀ k,S k→W'.heap[k]?=W.heap[k]?
 | .ret,_,W'=>X .ret S W'∧∀ k,S k→W'.heap[k]?=W.heap[k]?
 | .exit id,_,W'=>X (.exit id) S W'∧∀ k,S k→W'.heap[k]?=W.heap[k]?
 | _,_,_=>False
theorem Sat.round {n:Nat} {e:Env} {t:Array Value} {D D':List Deferred} (h:Sat n e { tmps:=t,defers:=D }) {p:Tmp} {v:Value} (hp:gK n (some p)=true):Sat n ((p,v)::e) { tmps:=t.setIfInBounds p v,defers:=D' }:=by
 have h1:=h.put (d:=some p) (v:=v) hp
 exact ⟨h1.size,h1.get⟩
theorem T.rangeFunc {σ:Type} (I:σ→(Nat→Prop)→World→Prop) (X:Code→(Nat→Prop)→World→Prop) {g:Operand} {p:Tmp} {assign body:Code} {gf:FuncId} {lb:Array Value} {Next:σ→Value→σ→Prop} {s0 sE:σ}
  {Inv:World→Prop} {S0:Nat→Prop} {Pre:World→Prop} {e1:Value→Nat→Env} (A:Value→Nat→World→Prop) (hr:C.r=none) (hg:ev e g=some (.func (.func gf) #[] lb)) (hcl:∀ args w,(callFunc gf args).run C.P w = .ok (.enter gf args) w) (hp:gK C.n (some p)=true)
  (hseq:X6 C.P gf lb Next s0 sE Inv S0 Pre) (hI:zU I) (hX:∀ c S W W' b,X c S W→S b→Upd b W W'→X c S W') (hInv:∀ i S W,I i S W→Inv W) (h0:I s0 S0 w) (hS0:∀ k,S0 k→k<w.heap.size) (Py:∀ W,Ext w W→Pre W)
  (hA:∀ v x W W' b,A v x W→b≠x→Upd b W W'→A v x W')
  (hassign:∀ (l:Nat) (Q:Exit→Act→World→Prop) (i j:σ) (v:Value) (k:List It) (W:World),Next i v j→(∀ x W',W.heap.size≤x→Ext W W'→A v x W'→T (rCx C l Q) k (e1 v x) W')→T (rCx C l Q) (.code assign::k) ((p,v)::e) W)
  (hbody:∀ (l:Nat) (i:σ) (v:Value) (x:Nat) (j:σ) (S:Nat→Prop) (W:World),Next i v j→I i S W→A v x W→T (rCx C l (RQ I X j S W)) [.code body] (e1 v x) W)
  (hdone:∀ (S:Nat→Prop) (D:Nat) (W:World),D=w.heap.size→(∀ k,S0 k→S k)→S D→I sE S W→W.heap[D]?=some (.deferred (some []))→T { C with D:={ target:=.collected D,args:=#[] } :: C.D } k e W)
  (hstop:∀ (c:Code) (S:Nat→Prop) (D:Nat) (W:World),D=w.heap.size→S D→X c S W→W.heap[D]?=some (.deferred (some []))→T { C with D:={ target:=.collected D,args:=#[] } :: C.D } (.code c::k) e W) :
  T C (.code (.rangeFunc g #[p] assign body)::k) e w:=fun a ha=>by
 have II:∀ (D:List Deferred) (k:List It),run { C with D:=D } k=run C k:=by
  intro D k
  induction k with
  | nil=>rfl
  | cons it k ih=>cases it <;> simp only [run,ih]
 show (Code.rangeFunc g #[p] assign body).wpIn _ _ _ _ _ _
 refine wpIn_rangeFunc ?_
 intro fn hfn
 rw [show (FW C.r).round=none from hr]
 obtain ⟨rec,hrec⟩:∃ rec:LoopState→Option Code→Loop,rec=fun st pe=>{ state:=st,pending:=pe,fn,tmps:=a.tmps,params:=#[p],assign,body,defers:=w.heap.size }:=⟨_,rfl⟩
 obtain ⟨W1,hW1⟩:∃ W1,(w.alloc (.deferred (some []))).alloc (.loop (rec .ready none))=W1:=⟨_,rfl⟩
 have hL1:W1.heap[w.heap.size+1]?=some (.loop (rec .ready none)):=by
  rw [← hW1];have:=World.alloc_heap_new (w.alloc (.deferred (some []))) (.loop (rec .ready none));rwa [World.size_alloc] at this
 have hK1:W1.heap[w.heap.size]?=some (.deferred (some [])):=by
  rw [← hW1];exact (Below.heap_alloc _ _ _ (by simp)).trans (World.alloc_heap_new w _)
 have he1:Ext w W1:=by rw [← hW1];exact (Keep.alloc 0 w _).trans (Keep.alloc 0 _ _)
 have hz1:W1.heap.size=w.heap.size+2:=by rw [← hW1];simp
 let Up (S:Nat→Prop):Nat→Prop:=fun k=>S k∨k=w.heap.size∨k=w.heap.size+1
 refine ⟨w.heap.size+1,[{ target:=.collected w.heap.size,args:=#[] }],W1,{ target:=.fn (.func gf) lb,args:=#[.func (.yield (w.heap.size+1)) #[] #[]] },W1,gf,
  #[.func (.yield (w.heap.size + 1)) #[] #[]] ++ lb, W1, ?_, ?_, fun _ _ => trivial, ?_, by simp, CallsIn.kY ?_⟩
 ·rw [← hW1,hrec];exact run_enterLoop_outer _ _ _ _ _
 ·simp only [resolve,ha.eval hg]
  simp [go_sem]
 ·simp [invoke,go_sem,hcl]
 let J:σ→(Nat→Prop)→World→Prop:=fun i S W=>I i (Up S) W∧(¬ S w.heap.size∧¬ S (w.heap.size+1))∧(∀ k,S k→k<W.heap.size)∧W.heap[w.heap.size+1]?=some (.loop (rec .ready none))∧W.heap[w.heap.size]?=some (.deferred (some []))
 let X':World→Prop:=fun W=>∃ c S,X c (Up S) W∧W.heap[w.heap.size+1]?=some (.loop (rec .done (some c)))∧W.heap[w.heap.size]?=some (.deferred (some []))
 have hJ:zU J:=by
  refine ⟨?_,?_⟩
  ·rintro i S S' W W' ⟨h1,⟨hn1,hn2⟩,hSb,hl,hk⟩ he hS
   have hlt:=(Array.getElem?_eq_some_iff.1 hl).1
   refine ⟨hI.1 i _ _ W W' h1 he ?_,⟨?_,?_⟩,fun k hk=>(hS k hk).elim (fun h=>Nat.lt_of_lt_of_le (hSb k h) he.size) (fun h=>h.2),(he.block _ (Nat.zero_le _) hlt).trans hl,(he.block _ (Nat.zero_le _) (by omega)).trans hk⟩
   ·rintro k (h|h)
    ·exact (hS k h).imp .inl id
    exact .inl (.inr h)
   ·intro h;rcases hS _ h with h|h
    ·exact hn1 h
    omega
   intro h;rcases hS _ h with h|h
   ·exact hn2 h
   omega
  rintro i S W W' b ⟨h1,⟨hn1,hn2⟩,hSb,hl,hk⟩ hb hu
  refine ⟨hI.2 i _ W W' b h1 (.inl hb) hu,⟨hn1,hn2⟩,fun k hk=>by rw [hu.size];exact hSb k hk,(hu.block _ ?_).trans hl,(hu.block _ ?_).trans hk⟩
  ·rintro rfl;exact hn2 hb
  rintro rfl;exact hn1 hb
 refine (hseq (w.heap.size+1) J X' W1 hJ (fun i S W h=>hInv i _ W h.1) ?_ ⟨hI.1 _ _ _ w W1 h0 he1 ?_,⟨fun h=>by have:=hS0 _ h;omega,fun h=>by have:=hS0 _ h;omega⟩,fun k hk=>by have:=hS0 k hk;omega,hL1,hK1⟩ (Py _ he1)).mono ?_
 ·rintro i v j S W hn ⟨hi,hnS,hSb,hl,hk⟩
  have hlt:w.heap.size+1<W.heap.size:=(Array.getElem?_eq_some_iff.1 hl).1
  have hy:=run_yield (P:=C.P) (args:=#[v]) hl (by rw [hrec];rfl)
  have hy2:(Instr.yield (w.heap.size+1) #[v]).run C.P W = .ok (.round (w.heap.size+1) fn (a.tmps.setIfInBounds p v) assign body) W:=by
   rw [hy,hrec];simp
  refine ⟨fn,_,assign,body,hy2,?_⟩
  have O5:Sat C.n ((p,v)::e) { tmps:=a.tmps.setIfInBounds p v,defers:=[] }:=Sat.round (D:=a.defers) ha.sat hp
  have hrun:=hassign (w.heap.size+1) (fun _ _ _=>False) i j v [.hook (fun a' W'=>∃ x,W.heap.size≤x∧Ext W W'∧A v x W'∧Sat C.n (e1 v x) a'∧a'.defers = [])] W hn (fun x W' hx he hA a' ha'=>⟨x,hx,he,hA,ha'.sat,ha'.defers⟩) _ ⟨O5,rfl⟩
  refine roundIn_of_wpIn trivial ?_
  refine wpIn_mono hrun ?_
  rintro ex a' W' hx
  cases ex with
  | normal =>
   obtain ⟨x,hxs,heW,hAx,hs',hd'⟩:=hx
   have hi':=hI.1 i _ (Up S) _ _ hi heW (fun k hk=>.inl hk)
   have hl':=(heW.block _ (Nat.zero_le _) hlt).trans hl
   have hk':=(heW.block _ (Nat.zero_le _) (by omega:w.heap.size<W.heap.size)).trans hk
   have hlt':w.heap.size+1<W'.heap.size:=(Array.getElem?_eq_some_iff.1 hl').1
   refine ⟨_,run_beginRound hl' (by rw [hrec]),?_⟩
   have hl2:(W'.putObj (w.heap.size+1) (.loop { rec .ready none with state:=.busy })).heap[w.heap.size+1]?=some (.loop { rec .ready none with state:=.busy }):=World.putObj_heap_same hlt'
   have hk2:(W'.putObj (w.heap.size+1) (.loop { rec .ready none with state:=.busy })).heap[w.heap.size]?=some (.deferred (some [])):=(World.putObj_heap_other (by omega)).trans hk'
   have hu2:=aQ W' (w.heap.size+1) (.loop { rec .ready none with state:=.busy })
   have hi2:=hI.2 i _ _ _ _ hi' (.inr (.inr rfl)) hu2
   have hb:=hbody (w.heap.size+1) i v x j (Up S) _ hn hi2 (hA _ _ _ _ _ hAx (by omega) hu2)
   refine wpIn_mono (hb a' ⟨hs',hd'⟩) ?_
   have fin:∀ (jump:Option Code) (W3:World),(∀ k,Up S k→W3.heap[k]?=(W'.putObj (w.heap.size+1) (.loop { rec .ready none with state:=.busy })).heap[k]?) →
     (Instr.endRound (w.heap.size+1) jump).run C.P W3 = .ok (.bool jump.isNone) (W3.putObj (w.heap.size+1) (.loop (rec (if jump.isNone then .ready else .done) jump))) ∧
     (W3.putObj (w.heap.size+1) (.loop (rec (if jump.isNone then .ready else .done) jump))).heap[w.heap.size+1]?=some (.loop (rec (if jump.isNone then .ready else .done) jump)) ∧
     (W3.putObj (w.heap.size+1) (.loop (rec (if jump.isNone then .ready else .done) jump))).heap[w.heap.size]?=some (.deferred (some [])) ∧
     (∀ k,S k→(W3.putObj (w.heap.size+1) (.loop (rec (if jump.isNone then .ready else .done) jump))).heap[k]?=W'.heap[k]?):=fun jump W3 hk3=>by
    have hl3:=(hk3 _ (.inr (.inr rfl))).trans hl2
    have:=run_endRound (P:=C.P) jump hl3
    have hk4:=(hk3 _ (.inr (.inl rfl))).trans hk2
    refine ⟨by rw [hrec] at this ⊢;exact this,World.putObj_heap_same (Array.getElem?_eq_some_iff.1 hl3).1,(World.putObj_heap_other (by omega)).trans hk4,fun k hk=>?_⟩
    have hne:k≠w.heap.size+1:=by rintro rfl;exact hnS.2 hk
    rw [World.putObj_heap_other hne,hk3 k (.inl hk),World.putObj_heap_other hne]
   rintro ex a3 W3 hp3
   cases ex with
   | normal =>
    obtain ⟨hi3,hk3⟩:=hp3
    obtain ⟨hr3,hl4,hk4,hS4⟩:=fin none W3 hk3
    refine ⟨_,_,hr3,.inl ⟨rfl,⟨hI.2 _ _ _ _ _ hi3 (.inr (.inr rfl)) (aQ _ _ _),hnS,fun k hk=>?_,hl4,hk4⟩,fun k hk=>?_⟩⟩
    ·have hlt3:=Nat.lt_of_lt_of_le (hSb k hk) heW.size
     have h:=hS4 k hk
     rw [Array.getElem?_eq_getElem hlt3] at h
     exact (Array.getElem?_eq_some_iff.1 h).1
    rw [hS4 k hk]
    exact heW.block k (Nat.zero_le _) (hSb k hk)
   | ret =>
    obtain ⟨hi3,hk3⟩:=hp3
    obtain ⟨hr3,hl4,hk4,_⟩:=fin (some .ret) W3 hk3
    exact ⟨_,_,hr3,.inr ⟨rfl,.ret,S,hX _ _ _ _ _ hi3 (.inr (.inr rfl)) (aQ _ _ _),hl4,hk4⟩⟩
   | exit id =>
    obtain ⟨hi3,hk3⟩:=hp3
    obtain ⟨hr3,hl4,hk4,_⟩:=fin (some (.exit id)) W3 hk3
    exact ⟨_,_,hr3,.inr ⟨rfl,.exit id,S,hX _ _ _ _ _ hi3 (.inr (.inr rfl)) (aQ _ _ _),hl4,hk4⟩⟩
   | goto t=>exact hp3.elim
   | panic ch=>exact hp3.elim
   | outgrown=>exact hp3.elim
  | ret=>exact hx.elim
  | exit id=>exact hx.elim
  | goto t=>exact hx.elim
  | panic ch=>exact hx.elim
  | outgrown=>exact hx.elim
 ·rintro k (h|h)
  ·exact .inl h
  exact .inr (by omega)
 rintro en W2 hq
 cases en with
 | panicked c=>exact hq.elim
 | outgrown=>exact hq.elim
 | returned v =>
  have hfits:∀ D,D=w.heap.size→Fits { C with D:={ target:=.collected D,args:=#[] } :: C.D } e { a with defers:=[{ target:=.collected w.heap.size,args:=#[] }]++a.defers }:=by
   rintro D rfl
   exact ⟨⟨ha.sat.size,ha.sat.get⟩,by show _++a.defers=_;rw [ha.defers];rfl⟩
  rcases hq with ⟨S,hS,hi,hnS,_,hl,hk⟩|⟨c,S,hi,hl,hk⟩
  ·refine ⟨none,_,by have:=run_endLoop (P:=C.P) hl (by rw [hrec];simp);rw [hrec] at this;exact this,?_⟩
   have:=hdone (Up S) _ _ rfl (fun k h=>.inl (hS k h)) (.inr (.inl rfl)) (hI.2 _ _ _ _ _ hi (.inr (.inr rfl)) (aQ _ (w.heap.size+1) (.loop { rec .ready none with state:=.exhausted }))) ((World.putObj_heap_other (by omega)).trans hk) _ (hfits _ rfl)
   rw [II] at this
   rw [hrec] at this
   exact this
  refine ⟨some c,_,by have:=run_endLoop (P:=C.P) hl (by rw [hrec];simp);rw [hrec] at this;exact this,?_⟩
  have:=hstop c (Up S) _ _ rfl (.inr (.inl rfl)) (hX _ _ _ _ _ hi (.inr (.inr rfl)) (aQ _ (w.heap.size+1) (.loop { rec .done (some c) with state:=.exhausted }))) ((World.putObj_heap_other (by omega)).trans hk) _ (hfits _ rfl)
  have h2:run { C with D:={ target:=.collected w.heap.size,args:=#[] } :: C.D } (.code c::k)=run C (.code c::k):=II _ _
  rw [h2] at this
  rw [hrec] at this
  exact this
end
open Go.RowKit
theorem Blk.row {w:World} {b:Nat} {cs:List Value} {t:TypeId} (h:Blk w b cs t):Row w ⟨b,0,none⟩ cs:=Row.ay h
theorem Sl.at {w:World} {v:Value} {n sz lo:Nat} {cs:List Value} (h:Sl lo w v n sz cs) {j i:Nat} {u:Value} (hj:cs[j+i]?=some u):w.cell? (((jd v).add j).add i)=some u:=by rw [add_add];exact h.cell hj
def coll (ds:List Nat):List Deferred:=ds.map fun r=>{ target:=.collected r,args:=#[] }
def Opn (ds:List Nat) (w:World):Prop:=ds.Nodup∧∀ r∈ds,w.heap[r]?=some (.deferred (some []))
structure Shut (ds:List Nat) (w w':World):Prop where
 os:w'.os=w.os
 tape:w'.tape=w.tape
 output:w'.output=w.output
 size:w'.heap.size=w.heap.size
 block:∀ k,k∉ds→w'.heap[k]?=w.heap[k]?
theorem Keep.shut {lo:Nat} {w w1 w2:World} {ds:List Nat} (h:Keep lo w w1) (k:Shut ds w1 w2) (hd:∀ r∈ds,r<lo∨w.heap.size≤r):Keep lo w w2 :=
 ⟨k.os.trans h.os,k.tape.trans h.tape,k.output.trans h.output,by rw [k.size];exact h.size,fun i hl hi=>(k.block i (fun hm=>by have:=hd i hm;omega)).trans (h.block i hl hi)⟩
abbrev jI (P:Program) (fn:Func) (n:Nat) (D:List Deferred) (R:Value→World→Prop):Cx:={ P:=P,r:=none,n:=n,D:=D,Q:=bodyPostM (FW none) 0 P fn (Ret R) }
theorem T.Pz {P:Program} {f:FuncId} {fn:Func} {c:Code} {vs:List Value} {w:World} {R:Value→World→Prop} {n:Nat} (hf:P.funcs[f]?=some fn) (hb:fn.body=some c) (hn:fn.ntmps=n) (hle:Nat.ble vs.length n=true)
  (h:T (jI P fn n (coll []) R) [.code c] (qm 0 vs) w):Calls P f vs.toArray w (Ret R):=by
 refine (callsIn_wide (n:=0)).1 (callsIn_of_wp_marks hf hb trivial ?_ rfl)
 have hle':vs.length≤n:=by simpa [Nat.ble_eq] using hle
 refine h _ ⟨⟨by simp [hn];omega,fun i v hi=>?_⟩,rfl⟩
 obtain ⟨_,h2⟩:=iD vs 0 i v hi
 have hlt:i<vs.length:=by
  rcases Nat.lt_or_ge i vs.length with h' | h'
  ·exact h'
  rw [Nat.sub_zero,List.getElem?_eq_none h'] at h2;cases h2
 rw [Array.getElem?_append_left (by simpa using hlt)]
 simpa using h2
theorem uN {P:Program} {fn:Func} {tmps:Array Value} {R:Value→World→Prop} {v:Value} : ∀ (ds:List Nat) (w:World),Opn ds w→(∀ w',Shut ds w w'→(results fn tmps).run P w' = .ok v w'∧R v w') →
  LeavesInM (FW none) 0 P fn tmps (Ret R) (coll ds) .returning w
 | [],w,_,h=>by
  obtain ⟨h1,h2⟩:=h w ⟨rfl,rfl,rfl,rfl,fun _ _=>rfl⟩
  exact ⟨v,h1,h2⟩
 | r::ds,w,ho,h=>by
  refine ⟨by simp,.inl ⟨r,_,rfl,run_takeDeferred (ho.2 r (List.mem_cons_self ..)),?_⟩⟩
  have hn:=List.nodup_cons.1 ho.1
  refine uN ds _ ⟨hn.2,fun x hx=>?_⟩ fun w' hw'=>h w' ?_
  ·rw [World.putObj_heap_other (by rintro rfl;exact hn.1 hx)];exact ho.2 x (List.mem_cons_of_mem _ hx)
  refine ⟨hw'.os,hw'.tape,hw'.output,by rw [hw'.size];simp,fun k hk=>?_⟩
  rw [List.mem_cons,not_or] at hk
  rw [hw'.block k hk.2,World.putObj_heap_other hk.1]
section
variable {C:Cx} {k:List It} {e:Env} {w:World} {K:Value→World→Prop} {d:Option Tmp} {ty:TypeId} {pos:String} {aft:Array Edge} {g:Option (Nat × Bool)}
variable {x y z:Operand} {t:TypeId}
theorem T.xu {P:Program} {fn:Func} {n:Nat} {R:Value→World→Prop} {s s':Tmp} {t t':TypeId} {a1 a2:Addr} {v v':Value} {ds:List Nat} (hres:fn.results=#[.cell s t,.cell s' t']) (hg:∀ w,(isAgg t).run P w = .ok false w) (hg':∀ w,(isAgg t').run P w = .ok false w)
  (hs:look e s=some (.pointer (some a1))) (hs':look e s'=some (.pointer (some a2))) (ho:Opn ds w) (hc:∀ w',Shut ds w w'→w'.cell? a1=some v∧w'.cell? a2=some v') (h:∀ w',Shut ds w w'→R (.tuple #[v,v']) w'):T (jI P fn n (coll ds) R) (.code .ret::k) e w :=
 T.ret fun a ha=>by
  show LeavesInM _ _ _ _ _ _ a.defers _ _
  rw [ha.defers]
  refine uN (v:=.tuple #[v,v']) ds w ho fun w' hw'=>⟨?_,h w' hw'⟩
  have h1:=ha.sat.get s _ hs
  have h2:=ha.sat.get s' _ hs'
  obtain ⟨c1,c2⟩:=hc w' hw'
  simp [results,hres,Array.getD_eq_getD_getElem?,h1,h2,loadVar,asAddr,hg,hg',c1,c2]
theorem qo (C:Cx) (D:List Deferred):∀ k,run { C with D:=D } k=run C k
 | []=>rfl
 | .code _::k=>by simp only [run,qo C D k]
 | .blk _::k=>by simp only [run,qo C D k]
 | .hook _::k=>by simp only [run,qo C D k]
theorem T.roundEnd {l:Nat} {σ:Type} {I:σ→(Nat→Prop)→World→Prop} {X:Code→(Nat→Prop)→World→Prop} {j:σ} {S:Nat→Prop} {W W':World} (h:I j S W'∧∀ k,S k→W'.heap[k]?=W.heap[k]?):T (rCx C l (RQ I X j S W)) [] e W':=fun a _=>h
theorem T.je {l:Nat} {σ:Type} {I:σ→(Nat→Prop)→World→Prop} {X:Code→(Nat→Prop)→World→Prop} {j:σ} {S:Nat→Prop} {W W':World} (h:X .ret S W'∧∀ k,S k→W'.heap[k]?=W.heap[k]?):T (rCx C l (RQ I X j S W)) (.code .ret::k) e W':=T.ret fun a _=>h
theorem T.jm {P:Program} {fn:Func} {n:Nat} {R:Value→World→Prop} {ds:List Nat} {σ:Type} (I:σ→(Nat→Prop)→World→Prop) (X:Code→(Nat→Prop)→World→Prop) {g:Operand} {p:Tmp} {assign body:Code} {gf:FuncId} {lb:Array Value} {Next:σ→Value→σ→Prop} {s0 sE:σ}
  {Inv:World→Prop} {S0:Nat→Prop} {Pre:World→Prop} {e1:Value→Nat→Env} (A:Value→Nat→World→Prop) (hg:ev e g=some (.func (.func gf) #[] lb)) (hcl:∀ args w,(callFunc gf args).run P w = .ok (.enter gf args) w) (hp:gK n (some p)=true)
  (hseq:X6 P gf lb Next s0 sE Inv S0 Pre) (hI:zU I) (hX:∀ c S W W' b,X c S W→S b→Upd b W W'→X c S W') (hInv:∀ i S W,I i S W→Inv W) (h0:I s0 S0 w) (hS0:∀ k,S0 k→k<w.heap.size) (Py:∀ W,Ext w W→Pre W)
  (hA:∀ v x W W' b,A v x W→b≠x→Upd b W W'→A v x W')
  (hassign:∀ (l:Nat) (Q:Exit→Act→World→Prop) (i j:σ) (v:Value) (k:List It) (W:World),Next i v j→(∀ x W',W.heap.size≤x→Ext W W'→A v x W'→T (rCx (jI P fn n (coll ds) R) l Q) k (e1 v x) W')→T (rCx (jI P fn n (coll ds) R) l Q) (.code assign::k) ((p,v)::e) W)
  (hbody:∀ (l:Nat) (i:σ) (v:Value) (x:Nat) (j:σ) (S:Nat→Prop) (W:World),Next i v j→I i S W→A v x W→T (rCx (jI P fn n (coll ds) R) l (RQ I X j S W)) [.code body] (e1 v x) W)
  (hdone:∀ (S:Nat→Prop) (D:Nat) (W:World),D=w.heap.size→(∀ k,S0 k→S k)→S D→I sE S W→W.heap[D]?=some (.deferred (some []))→T (jI P fn n (coll (D::ds)) R) k e W)
  (hstop:∀ (c:Code) (S:Nat→Prop) (D:Nat) (W:World),D=w.heap.size→S D→X c S W→W.heap[D]?=some (.deferred (some []))→T (jI P fn n (coll (D::ds)) R) (.code c::k) e W) :
  T (jI P fn n (coll ds) R) (.code (.rangeFunc g #[p] assign body)::k) e w :=
 T.rangeFunc (C:=jI P fn n (coll ds) R) I X A rfl hg hcl hp hseq hI hX hInv h0 hS0 Py hA hassign hbody hdone hstop
theorem Opn.nil (w:World):Opn [] w:=⟨List.nodup_nil,fun _ h=>by cases h⟩
theorem Opn.ext {ds:List Nat} {w w':World} (h:Opn ds w) (k:Ext w w'):Opn ds w':=⟨h.1,fun r hr=>k.blk (Nat.zero_le _) (h.2 r hr)⟩
theorem Opn.upd {ds:List Nat} {w w':World} {b:Nat} (h:Opn ds w) (k:Upd b w w') (hb:∀ r∈ds,r≠b):Opn ds w':=⟨h.1,fun r hr=>k.blk (hb r hr) (h.2 r hr)⟩
theorem Opn.cons {ds:List Nat} {w:World} {D:Nat} (h:Opn ds w) (hD:w.heap[D]?=some (.deferred (some []))) (hn:D∉ds):Opn (D::ds) w:=⟨List.nodup_cons.2 ⟨hn,h.1⟩,fun r hr=>(List.mem_cons.1 hr).elim (fun e=>e▸hD) (h.2 r)⟩
theorem Opn.lt {ds:List Nat} {w:World} (h:Opn ds w):∀ r∈ds,r<w.heap.size:=fun r hr=>(Array.getElem?_eq_some_iff.1 (h.2 r hr)).1
theorem O.fC {kd kd':IntKind} {m m':Int} {src dst:TypeId} (hx:ev e x=some (.int kd m)) (hs:∀ w,∃ ds,(underlying src).run C.P w = .ok ds w) (hd:∀ w,(underlying dst).run C.P w = .ok (.int kd') w) (hw:kd'.wrap m=m') (h:K (.int kd' m') w) :
  O C e ⟨d,.convert src dst x,ty,pos,aft,g⟩ w K:=O.conv hx hs hd (hw▸h)
theorem O.aC {b off n:Nat} {cs vs:List Value} {tb:TypeId} (hs:∀ w,(sizeOf t).run C.P w = .ok n w) (hn:vs.length=n) (hx:ev e x=some (.pointer (some ⟨b,off,none⟩))) (hy:ev e y=some (.agg vs.toArray)) (hb:Blk w b cs tb)
  (hfit:off+n≤cs.length) (h1:∀ u∈vs,u.oneCell'=true) (h:∀ w',Upd b w w'→Blk w' b (cs.take off++vs++cs.drop (off+n)) tb→K undef w'):O C e ⟨d,.store t x y,ty,pos,aft,g⟩ w K:=by
 subst hn
 refine O.store (v:=.agg vs.toArray) (by simpa [Value.cells] using hs) hx hy hb (by simpa [Value.cells] using hfit) (by simpa [Value.cells] using h1) ?_
 intro w' hu hb'
 refine h w' hu ?_
 simpa [Value.cells] using hb'
theorem O.lq {oa:Option Addr} {len cap:Nat} {el:TypeId} {sz:Nat} {kd:IntKind} {m:Int} (hu:∀ w,(underlying t).run C.P w = .ok (.slice el) w) (hs:∀ w,(sizeOf el).run C.P w = .ok sz w) (hx:ev e x=some (.slice oa len cap)) (hy:ev e y=some (.int kd m)) (h0:0≤m) (h1:m≤cap)
  (h:K (.slice oa m.toNat cap) w):O C e ⟨d,.slice t x none (some y) none,ty,pos,aft,g⟩ w K :=
 O.of_run (by simp) (fun a ha=>by
  simp [execOp,Instr.sliceAt,Instr.slice,Instr.sliceBounds,Instr.sliceBound,asIntOf,ha.eval hx,ha.eval hy,hu w,hs w,h0,h1,Addr.add]) h
theorem O.PD {s:ByteArray} {kd:IntKind} {m:Int} {b:UInt8} (hu:∀ w,(underlying t).run C.P w = .ok .string w) (hx:ev e x=some (.string s)) (hy:ev e y=some (.int kd m)) (h0:0≤m) (hb:s[m.toNat]?=some b) (h:K (.int .u8 b.toNat) w) :
  O C e ⟨d,.index t x y,ty,pos,aft,g⟩ w K :=
 O.of_run (by simp) (fun a ha=>by
  simp [execOp,Instr.index,asIntOf,ha.eval hx,ha.eval hy,hu w,h0,hb]) h
end
open Go.RowKit
theorem ES {P:Program} (w:World) (base:Nat) (t ty e:TypeId) (i:TypeInfo) (z:Value) (size bytes:Nat) (ht:P.underlying t=some (.slice e)) (hi:P.info? e=some i) (hz:i.zero=some z)
  (hsize:i.size=size) (hby:i.bytes=bytes) (hzs:z.cells.size=size) (hsz:0<size) (v:Value) (n:Nat) (xs:List Value) (hown:w.ownsRow base e size v n xs)
  (a:Addr) (m c:Nat) (news:List Value) (hl:news.length=m*size) (hnews:∀ j u,news[j]?=some u→w.cell? (a.add j)=some u) (h1:∀ u∈news,u.oneCell'=true)
  (h63:n+m≤maxLen) (hbytes:(n+m)*bytes≤140737488355328) {v':Value} {w':World} (hr:(Builtin.append_ #[t,t] ty #[v,.slice (some a) m c]).run P w = .ok v' w') :
  ∀ j,v'.ownBlock=some j→v.ownBlock=some j∨w.heap.size≤j:=by
 subst hsize
 subst hby
 have hsmall:n+m≤9223372036854775807:=by simp only [maxLen] at h63;omega
 rcases hown.2 with ⟨rfl,rfl⟩|⟨g,cap,cur,rfl,hbg,hg,hnc,hcm,hcs,htake⟩
 ·by_cases hm:m=0
  ·subst hm
   have hn:news = []:=List.eq_nil_of_length_eq_zero (by simpa using hl)
   subst hn
   have h2:(Builtin.append_ #[t,t] ty #[.slice none 0 0,.slice (some a) 0 c]).run P w = .ok (.slice none 0 0) w:=by
    simp [Builtin.append_,run_underlying ht,sizeOf,typeInfo,hi,Builtin.lenOf,Builtin.firstCells,loadCells,loadCellsFrom]
   rw [h2] at hr
   cases hr
   intro j hj;cases hj
  have h2:=run_append_nil (P:=P) w t ty e i z ht hi hz a m c news hl hnews (by omega) (by omega) (by have hb:=hbytes;simp only [Nat.zero_add] at hb;omega)
  rw [h2] at hr
  cases hr
  intro j hj;cases hj;exact .inr (Nat.le_refl _)
 by_cases hroom:n+m≤cap
 ·have hfit:n*i.size+news.length≤cur.size:=by rw [hl,hcs,← Nat.add_mul];exact Nat.mul_le_mul_right _ hroom
  have h2:=run_append_room (P:=P) w t ty e i ht hi g n cap cur hg a m c news hl hnews h1 hroom hfit
  rw [h2] at hr
  cases hr
  intro j hj;exact .inl hj
 have holds:∀ j u,xs[j]?=some u→w.cell? ((⟨g,0,none⟩:Addr).add j)=some u:=hown.cells (g:=g) rfl
 have h2:=run_append_grow (P:=P) w t ty e i z ht hi hz ⟨g,0,none⟩ n cap xs hown.1 holds a m c news hl hnews (by omega) (by omega) (growslice_fits (by omega) hbytes)
 rw [h2] at hr
 cases hr
 intro j hj;cases hj;exact .inr (Nat.le_refl _)
theorem kC {w:World} {base n sz:Nat} {el:TypeId} {v:Value} {xs:List Value} (h:w.ownsRow base el sz v n xs) {j:Nat} (hj:v.ownBlock=some j):base≤j∧j<w.heap.size:=by
 rcases h.2 with ⟨hv,_⟩|⟨g,cap,cur,hv,hb,hg,_⟩
 ·subst hv;cases hj
 subst hv;cases hj;exact ⟨hb,(Array.getElem?_eq_some_iff.1 hg).1⟩
theorem Blk.grown {w w':World} {b:Nat} {cs:List Value} {t:TypeId} {row:Option Nat} (h:Blk w b cs t) (hG:w.grownBy w' row) (hne:∀ j,row=some j→j≠b):Blk w' b cs t :=
 (hG.block b h.lt (fun e=>hne b e.symm rfl)).trans h
section ops
variable {C:Cx} {e:Env} {w:World} {K:Value→World→Prop} {d:Option Tmp} {ty:TypeId} {pos:String} {aft:Array Edge} {g:Option (Nat × Bool)}
variable {x y:Operand} {t:TypeId}
theorem O.xw {base:Nat} {el:TypeId} {i:TypeInfo} {zv:Value} {size bytes:Nat} (ht:∀ w,(underlying t).run C.P w = .ok (.slice el) w) (hi:C.P.info? el=some i) (hz:i.zero=some zv)
  (hsize:i.size=size) (hby:i.bytes=bytes) (hzs:zv.cells.size=size) (hsz:0<size) {v:Value} {n m c:Nat} {xs news:List Value} {ad:Addr}
  (hx:ev e x=some v) (hy:ev e y=some (.slice (some ad) m c)) (hown:w.ownsRow base el size v n xs) (hl:news.length=m*size) (hr:Row w ad news) (h1:∀ c∈news,c.oneCell'=true) (hbytes:(n+m)*bytes≤140737488355328) (h63:n+m≤maxLen) (hbase:base≤w.heap.size)
  (h:∀ v' w',w'.ownsRow base el size v' (n+m) (xs++news)→w.grownBy w' v.ownBlock→(∀ j,v'.ownBlock=some j→v.ownBlock=some j∨w.heap.size≤j)→K v' w') :
  O C e ⟨d,.call { callee:=.builtin .append,args:=#[x,y],argTypes:=#[t,t] },ty,pos,aft,g⟩ w K:=by
 have ht':C.P.underlying t=some (.slice el):=by
  have:=ht w
  simp only [underlying,Sem.run_bind,run_program,Result.andThen_ok] at this
  cases hq:C.P.underlying t with
  | none=>simp [hq,stuck] at this
  | some q=>simp [hq] at this;rw [this]
 obtain ⟨v',w',h2,h3,h4,_⟩:=run_append_own (P:=C.P) w base t ty el i zv size bytes ht' hi hz hsize hby hzs hsz v n xs hown ad m c news hl hr h1 h63 hbytes hbase
 have h5:=ES (P:=C.P) w base t ty el i zv size bytes ht' hi hz hsize hby hzs hsz v n xs hown ad m c news hl hr h1 h63 hbytes h2
 exact O.of_run (by simp) (fun a ha=>by simp [execOp,resolve,invoke,builtin,ha.eval hx,ha.eval hy,h2]) (h v' w' h3 h4 h5)
end ops
open Go.RowKit
section ops
variable {C:Cx} {e:Env} {w:World} {K:Value→World→Prop} {d:Option Tmp} {ty:TypeId} {pos:String} {aft:Array Edge} {g:Option (Nat × Bool)}
variable {x y z:Operand} {t kt vt:TypeId}
theorem aO {P:Program} {t:TypeId} {d:TypeDesc} (h:∀ w,(underlying t).run P w = .ok d w):P.underlying t=some d:=by
 have:=h default
 simp only [underlying,Sem.run_bind,run_program,Result.andThen_ok] at this
 cases hq:P.underlying t with
 | none=>simp [hq,stuck] at this
 | some q=>simp [hq] at this;rw [this]
end ops
open Go.RowKit
def ObK (C:Cx) (ops:Array Oper) (e:Env) (o:Oper) (f:Fact) (w:World) (J:World→Prop):Prop :=
 (gQ ops e o=some true∧O C e o w (fun v w'=>J w'∧f.holds v w'))∨(gQ ops e o=some false∧f.holds undef w∧J w)
theorem ObK.op {C:Cx} {ops:Array Oper} {e:Env} {o:Oper} {f:Fact} {w:World} {J:World→Prop} (hw:gQ ops e o=some true) (h:O C e o w (fun v w'=>J w'∧f.holds v w')):ObK C ops e o f w J:=.inl ⟨hw,h⟩
section
variable {C:Cx} {k:List It} {l:List Oper} {fs:List Fact} {e:Env} {w:World} {S:List Nat} {e':Env} {Inv:Nat→World→Prop} {ch:List (Option Nat)}
end
open Go.RowKit
theorem T.retA {k:List It} {e:Env} {w:World} {P:Program} {fn:Func} {n m:Nat} {R:Value→World→Prop} {s:Tmp} {t:TypeId} {ad:Addr} {cs:List Value} (hres:fn.results=#[.cell s t]) (hg:∀ w,(isAgg t).run P w = .ok true w) (hs:∀ w,(sizeOf t).run P w = .ok m w) (hn:cs.length=m)
  (hv:look e s=some (.pointer (some ad))) (hr:Row w ad cs) (h:R (.agg cs.toArray) w):T (UK P fn n R) (.code .ret::k) e w :=
 T.ret fun a ha=>bodyPost_ret (v:=.agg cs.toArray) (by
  subst hn
  have h1:=ha.sat.get s _ hv
  simp [results,hres,Array.getD_eq_getD_getElem?,h1,loadVar,asAddr,hg,hs,run_loadCells_list w ad cs hr]) ha.defers h
section ops
variable {C:Cx} {e:Env} {w:World} {K:Value→World→Prop} {d:Option Tmp} {ty:TypeId} {pos:String} {aft:Array Edge} {g:Option (Nat × Bool)}
variable {x y:Operand} {tx ty':TypeId}
theorem O.X7 {yk:IntKind} {a s:Nat} (hx:ev e x=some (.int .i64 a)) (hy:ev e y=some (.int yk s)) (hs:s<64) (h:K (.int .i64 ((a / 2 ^ s:Nat):Int)) w) :
  O C e ⟨d,.binOp .shr tx x y ty',ty,pos,aft,g⟩ w K:=O.shr hx hy (Int.natCast_nonneg _) (by
 have e1:((2:Int) ^ Min.min ((s:Int)).toNat IntKind.i64.bits)=((2 ^ s:Nat):Int):=by
  rw [Int.toNat_natCast,show IntKind.i64.bits=64 from rfl,Nat.min_eq_left (by omega)];simp
 have e2:((a:Int)).fdiv ((2 ^ s:Nat):Int)=((a / 2 ^ s:Nat):Int):=by rw [Int.fdiv_eq_ediv_of_nonneg _ (Int.natCast_nonneg _)];rfl
 rw [e1,e2];exact h)
theorem O.MR {t:TypeId} {b o j i:Nat} {cs:List Value} {tb:TypeId} {v:Value} (hs:∀ w,(sizeOf t).run C.P w = .ok 1 w) (h1:v.oneCell'=true) (hx:ev e x=some (.pointer (some (((⟨b,o,none⟩:Addr).add j).add i)))) (hy:ev e y=some v) (hb:Blk w b cs tb)
  (hfit:o+(j+i)<cs.length) (h:∀ w',Upd b w w'→Blk w' b (cs.set (o+(j+i)) v) tb→K undef w'):O C e ⟨d,.store t x y,ty,pos,aft,g⟩ w K :=
 O.bD hs h1 (by rw [hx,add_add]) hy hb hfit h
end ops
open Go.RowKit
def CB (Rel:World→World→Prop):List Fact→Prop
 | []=>True
 | .is _::r=>CB Rel r
 | .such φ::r=>(∀ v w w',Rel w w'→φ v w→φ v w')∧CB Rel r
theorem nU {Rel:World→World→Prop} : ∀ {fs:List Fact},CB Rel fs→∀ (i:Nat) (f:Fact),fs[i]?=some f→∀ v w w',Rel w w'→f.holds v w→f.holds v w'
 | .is u::fs,h,0,f',hf=>by simp at hf;subst hf;exact fun v w w' _ hh=>hh
 | .is u::fs,h,i+1,f',hf=>nU (fs:=fs) h i f' (by simpa using hf)
 | .such _::fs,h,0,f',hf=>by simp at hf;subst hf;exact h.1
 | .such _::fs,h,i+1,f',hf=>nU h.2 i f' (by simpa using hf)
 | [],_,i,_,hf=>by simp at hf
def aaC (C:Cx) (l:List Oper) (fs:List Fact) (e:Env) (Inv:Nat→World→Prop) (Rel:World→World→Prop):List Oper→List Fact→List (List Nat)→List (Option Nat)→Prop
 | o::os,f::fr,ds::dr,none::ch=>(∀ c w1,Inv c w1→Bind w1 (bf l fs ds) (fun en=>ObK C l.toArray (en++e) o f w1 (fun w'=>Rel w1 w'∧Inv c w')))∧aaC C l fs e Inv Rel os fr dr ch
 | o::os,f::fr,ds::dr,some p::ch=>(∀ w1,Inv p w1→Bind w1 (bf l fs ds) (fun en=>ObK C l.toArray (en++e) o f w1 (fun w'=>Rel w1 w'∧Inv (p+1) w')))∧aaC C l fs e Inv Rel os fr dr ch
 | _,_,_,_=>True
theorem IJ {C:Cx} {l:List Oper} {fs:List Fact} {e:Env} {Inv:Nat→World→Prop} {Rel:World→World→Prop} : ∀ {os:List Oper} {fr:List Fact} {dr:List (List Nat)} {ch:List (Option Nat)},aaC C l fs e Inv Rel os fr dr ch→∀ (i:Nat) (o:Oper) (f:Fact) (ds:List Nat) (q:Option Nat),os[i]?=some o→fr[i]?=some f→dr[i]?=some ds→ch[i]?=some q →
  ∀ c w1,Inv c w1→(∀ p,q=some p→p=c)→Bind w1 (bf l fs ds) (fun en=>ObK C l.toArray (en++e) o f w1 (fun w'=>Rel w1 w'∧Inv (match q with|some _=>c+1|none=>c) w'))
 | o::os,f::fr,ds::dr,none::ch,h,0,o',f',ds',q,ho,hf,hd,hq=>by
  simp at ho hf hd hq;subst ho hf hd hq;exact fun c w1 hI _=>h.1 c w1 hI
 | o::os,f::fr,ds::dr,some p::ch,h,0,o',f',ds',q,ho,hf,hd,hq=>by
  simp at ho hf hd hq;subst ho hf hd hq
  intro c w1 hI hp
  obtain rfl:=hp p rfl
  exact h.1 w1 hI
 | o::os,f::fr,ds::dr,none::ch,h,i+1,o',f',ds',q,ho,hf,hd,hq=>IJ h.2 i o' f' ds' q (by simpa using ho) (by simpa using hf) (by simpa using hd) (by simpa using hq)
 | o::os,f::fr,ds::dr,some p::ch,h,i+1,o',f',ds',q,ho,hf,hd,hq=>IJ h.2 i o' f' ds' q (by simpa using ho) (by simpa using hf) (by simpa using hd) (by simpa using hq)
 | [],_,_,_,_,i,_,_,_,_,ho,_,_,_=>by simp at ho
 | _::_,[],_,_,_,i,_,_,_,_,_,hf,_,_=>by simp at hf
 | _::_,_::_,[],_,_,i,_,_,_,_,_,_,hd,_=>by simp at hd
 | _::_,_::_,_::_,[],_,i,_,_,_,_,_,_,_,hq=>by simp at hq
def wt (A:List (List Nat)) (i j:Nat):Bool:=match A[i]? with|some s=>s.contains j|none=>false
def CG (l:List Oper) (A:List (List Nat)):Bool :=
 (l.zipIdx.all fun (o,i)=>match A[i]? with|some s=>s.all fun j=>o.after.toList.any fun e=>Region.binds .any e && (e.on == j || wt A e.on j)|none=>true)
def zV (n:Nat) (l:List Oper) (m:Nat) (ds:List (List Nat)) (S:List Nat) (A:List (List Nat)):Bool :=
 let dst (j:Nat):Option Tmp:=(l[j]?).bind (·.dst)
 let pre:=(List.range m).filterMap dst
 (l.zipIdx.all fun (o,i)=>o.after.toList.all fun e=>!Region.binds .any e || decide (e.on<i)) &&
 decide (m≤l.length) && decide (ds.length=m) &&
 (l.all fun o=>gK n o.dst) &&
 ((List.range m).all fun j=>(List.range m).all fun i=>i == j || (match dst i,dst j with|some a,some b=>a != b|_,_=>true)) &&
 ((ds.zipIdx).all fun (d,i)=>d.all fun j=>decide (j<m) && wt A i j) &&
 (S.all fun s=>!pre.contains s) &&
 (l.zipIdx.all fun (o,i)=>decide (i<m) || (List.range i).all fun j=>wt A i j)
def iP (A:List (List Nat)) (m:Nat) (ch:List (Option Nat)) (len:Nat):Bool :=
 decide (ch.length=m) &&
 ((List.range ch.length).all fun i=>match ch[i]? with|some (some p)=>decide (p<len) && ((List.range len).all fun q=>!decide (q<p) || ((List.range ch.length).any fun j=>(ch[j]? == some (some q)) && wt A i j))|_=>true) &&
 ((List.range ch.length).all fun i=>(List.range ch.length).all fun j=>match ch[i]?,ch[j]? with|some (some p),some (some q)=>!(p == q) || i == j|_,_=>true) &&
 ((List.range len).all fun q=>(List.range ch.length).any fun j=>ch[j]? == some (some q))
section
variable {C:Cx} {k:List It} {l:List Oper} {m:Nat} {fs:List Fact} {e:Env} {w:World} {S:List Nat} {e':Env} {Inv:Nat→World→Prop} {ch:List (Option Nat)}
structure ET (C:Cx) (l:List Oper) (m:Nat) (fs:List Fact) (e:Env) (Inv:Nat→World→Prop) (ch:List (Option Nat)) (len:Nat) (listed:Array Bool) (a:Act) (w1:World):Prop where
 size:listed.size=l.length
 closed:∀ (i:Nat) (o:Oper),l[i]?=some o→listed[i]?=some true→∀ x∈o.after,Region.binds .any x=true→listed.getD x.on false=true
 inv:∃ c:Nat,c≤len∧Inv c w1∧∀ j p:Nat,ch[j]?=some (some p)→(listed[j]?=some true↔p<c)
 defers:a.defers=C.D
 jy:a.tmps.size=C.n
 base:∀ (i:Nat) (v:Value),look e i=some v→(∀ (j:Nat) (o:Oper),j<m→l[j]?=some o→o.dst≠some i)→a.tmps[i]?=some v
 tail:∀ j,m≤j→j<l.length→listed[j]?=some false
 done:∀ (j:Nat) (o:Oper) (f:Fact),j<m→l[j]?=some o→fs[j]?=some f→listed[j]?=some true→∃ v,(∀ d,o.dst=some d→a.tmps[d]?=some v)∧f.holds v w1
theorem kE {listed:Array Bool} {i:Nat} (h:listed.getD i false=true):listed[i]?=some true:=by
 rw [Array.getD_eq_getD_getElem?] at h
 cases hl:listed[i]? with
 | none=>simp [hl] at h
 | some b=>simp [hl] at h;rw [h]
theorem PE {A:List (List Nat)} (hA:CG l A=true) {listed:Array Bool} (i:Nat) (o:Oper) (ho:l[i]?=some o) (hall:∀ x∈o.after,Region.binds .any x=true→listed.getD x.on false=true) (j:Nat) (hj:wt A i j=true)
  (hr:∀ x∈o.after,Region.binds .any x=true→wt A x.on j=true→listed[j]?=some true):listed[j]?=some true:=by
 have h1:=List.all_eq_true.1 hA (o,i) (by rw [List.mem_zipIdx_iff_getElem?];exact ho)
 unfold wt at hj
 simp only at h1
 cases hq:A[i]? with
 | none=>simp [hq] at hj
 | some s =>
  simp only [hq] at h1 hj
  have h2:=List.all_eq_true.1 h1 j (by simpa using hj)
  obtain ⟨x,hx,hxx⟩:=List.any_eq_true.1 h2
  simp only [Bool.and_eq_true,Bool.or_eq_true,beq_iff_eq] at hxx
  have hx':=Array.mem_toList_iff.1 hx
  rcases hxx.2 with h3|h3
  ·subst h3;exact kE (hall x hx' hxx.1)
  exact hr x hx' hxx.1 h3
theorem bZ {A:List (List Nat)} (hA:CG l A=true) (hto:∀ i o,l[i]?=some o→∀ x∈o.after,Region.binds .any x=true→x.on<i) {listed:Array Bool}
  (hsz:listed.size=l.length) (hc:∀ (i:Nat) (o:Oper),l[i]?=some o→listed[i]?=some true→∀ x∈o.after,Region.binds .any x=true→listed.getD x.on false=true) :
  ∀ (n i:Nat) (o:Oper),i≤n→l[i]?=some o→(∀ x∈o.after,Region.binds .any x=true→listed.getD x.on false=true)→∀ j,wt A i j=true→listed[j]?=some true:=by
 intro n
 induction n with
 | zero =>
  intro i o hi ho hall j hj
  exact PE hA i o ho hall j hj fun x hx hb=>by have:=hto i o ho x hx hb;omega
 | succ n ih =>
  intro i o hi ho hall j hj
  refine PE hA i o ho hall j hj fun x hx hb hw=>?_
  have hlt:=hto i o ho x hx hb
  have hxl:=kE (hall x hx hb)
  have hxs:x.on<l.length:=by have:=(Array.getElem?_eq_some_iff.1 hxl).1;omega
  exact ih x.on l[x.on] (by omega) (List.getElem?_eq_getElem hxs) (hc x.on _ (List.getElem?_eq_getElem hxs) hxl) j hw
theorem gB {A:List (List Nat)} (hA:CG l A=true) (ht:∀ i,m≤i→i<l.length→∀ j,j<i→wt A i j=true)
  (hto:∀ i o,l[i]?=some o→∀ x∈o.after,Region.binds .any x=true→x.on<i) {Q:Exit→Act→World→Prop} :
  ∀ (r p:Nat) (listed:Array Bool) (a:Act) (w1:World),p+r=l.length→m≤p→listed.size=l.length→(∀ j,j<p→listed[j]?=some true)→(∀ j,p≤j→j<l.length→listed[j]?=some false) →
   wpListIn (FW C.r) 0 C.P l.toArray Q (l.drop p) a w1→∀ fuel,r≤fuel→wpAnyIn (FW C.r) 0 C.P .any l.toArray Q fuel listed a w1:=by
 intro r
 induction r with
 | zero =>
  intro p listed a w1 hp hm hs hd hu h fuel _
  have hnone:Region.ready .any l.toArray listed = []:=by
   apply List.eq_nil_iff_forall_not_mem.2
   intro i hi
   have:=mem_ready.1 hi
   obtain ⟨h1,o,ho,_⟩:=this
   have hlt:i<l.length:=by
    have:=(Array.getElem?_eq_some_iff.1 ho).1;simpa using this
   have:=hd i (by omega)
   rw [Array.getD_eq_getD_getElem?,this] at h1
   simp at h1
  rw [List.drop_eq_nil_of_le (by omega)] at h
  cases fuel with
  | zero=>exact ⟨hnone,h⟩
  | succ fuel=>exact ⟨fun _=>h,fun i hi=>by rw [hnone] at hi;cases hi⟩
 | succ r ih =>
  intro p listed a w1 hp hm hs hd hu h fuel hf
  obtain ⟨fuel,rfl⟩:∃ q,fuel=q+1:=⟨fuel-1,by omega⟩
  have aaD:p<l.length:=by omega
  have hop:l[p]?=some l[p]:=List.getElem?_eq_getElem aaD
  have hclosed:∀ (i:Nat) (o:Oper),l[i]?=some o→listed[i]?=some true→∀ x∈o.after,Region.binds .any x=true→listed.getD x.on false=true:=by
   intro i o ho hl x hx hb
   have hip:i<p:=by
    rcases Nat.lt_or_ge i p with h' | h'
    ·exact h'
    have:=hu i h' (List.getElem?_eq_some_iff.1 ho).1
    rw [this] at hl;cases hl
   have:=hto i o ho x hx hb
   rw [Array.getD_eq_getD_getElem?,hd x.on (by omega)];rfl
  have ad3:∀ i∈Region.ready .any l.toArray listed,i=p:=by
   intro i hi
   obtain ⟨h1,o,ho,hall⟩:=mem_ready.1 hi
   have ho':l[i]?=some o:=by simpa using ho
   have hlt:i<l.length:=(List.getElem?_eq_some_iff.1 ho').1
   rcases Nat.lt_trichotomy i p with hlt' | rfl|hgt
   ·have:=hd i hlt'
    rw [Array.getD_eq_getD_getElem?,this] at h1;simp at h1
   ·rfl
   have:=bZ hA hto hs hclosed i i o (Nat.le_refl _) ho' hall p (ht i (by omega) hlt p hgt)
   rw [hu p (Nat.le_refl _) aaD] at this;cases this
  have hmem:p∈Region.ready .any l.toArray listed:=by
   refine mem_ready.2 ⟨by rw [Array.getD_eq_getD_getElem?,hu p (Nat.le_refl _) aaD];rfl,l[p],by simp,?_⟩
   intro x hx hb
   have:=hto p _ hop x hx hb
   rw [Array.getD_eq_getD_getElem?,hd _ this];rfl
  refine ⟨fun h0=>(by rw [h0] at hmem;cases hmem),fun i hi=>?_⟩
  obtain rfl:=ad3 i hi
  unfold wpOpIn
  have aiA:l.toArray[i]?=some l[i]:=by simpa using hop
  simp only [aiA]
  rw [List.drop_eq_getElem_cons aaD] at h
  unfold wpListIn at h
  have next:∀ a2 w2,wpListIn (FW C.r) 0 C.P l.toArray Q (l.drop (i+1)) a2 w2→wpAnyIn (FW C.r) 0 C.P .any l.toArray Q fuel (listed.setIfInBounds i true) a2 w2:=fun a2 w2 h2=>by
   refine ih (i+1) (listed.setIfInBounds i true) a2 w2 (by omega) (by omega) (by simpa using hs) ?_ ?_ h2 fuel (by omega)
   ·intro j hj
    by_cases hji:i=j
    ·subst hji;rw [Array.getElem?_setIfInBounds_self];simp [hs,aaD]
    rw [Array.getElem?_setIfInBounds_ne hji];exact hd j (by omega)
   intro j hj hjl
   rw [Array.getElem?_setIfInBounds_ne (by omega)];exact hu j (by omega) hjl
  split
  ·rename_i hw;rw [if_pos hw] at h;exact Oper.wpIn_mono next h
  rename_i hw;rw [if_neg hw] at h;exact ⟨h.1,next _ _ h.2⟩
theorem CJ {len:Nat} {listed:Array Bool} {a:Act} {w1:World} (hlen:fs.length=m) (hml:m≤l.length) (hfin:∀ w1,Inv len w1→Bind w1 (bf l fs (List.range m)) (fun en=>L C k l.toArray (l.drop m) (en++e) w1))
  (EU:∀ q:Nat,q<len→∃ j:Nat,j<m∧ch[j]?=some (some q))
  (hU:ET C l m fs e Inv ch len listed a w1) (hall:∀ j,j<m→listed[j]?=some true):∃ en,Fits C (en++e) a∧L C k l.toArray (l.drop m) (en++e) w1:=by
 obtain ⟨c,Ut,hI,hcc⟩:=hU.inv
 have PG:c=len:=by
  rcases Nat.lt_or_ge c len with h|h
  ·obtain ⟨j,hjm,hj⟩:=EU c h
   have:=(hcc j c hj).1 (hall j hjm)
   omega
  omega
 subst PG
 obtain ⟨en,h1,h2⟩:=rX (a:=a) (e:=e) _ _ (hfin w1 hI) (fun p hp=>by
  obtain ⟨j,o,hj,ho,hd,hf⟩:=dB hp
  have hjm:j<m:=by simpa using hj
  obtain ⟨v,hv1,hv2⟩:=hU.done j o p.2 hjm ho hf (hall j hjm)
  exact ⟨v,fun d hdd=>hv1 d (by rw [hd];exact hdd),hv2⟩)
 refine ⟨en,⟨⟨hU.jy,fun i v hi=>?_⟩,hU.defers⟩,h1⟩
 rcases h2 i v hi with h|⟨h3,h4⟩
 ·exact h
 refine hU.base i v h3 (fun j o hj ho hd=>?_)
 have hf:fs[j]?=some (fs[j]'(by omega)):=List.getElem?_eq_getElem (by omega)
 exact h4 _ (fB ho hf (by simpa using hj)) hd
theorem T.any {id:Nat} (PI:C.P.follows .mixedOrders=true) (m len:Nat) (S:List Nat) (he:zO e S=some e') (fs:List Fact) (ds:List (List Nat)) (ch:List (Option Nat)) (A:List (List Nat)) (Inv:Nat→World→Prop) (Rel:World→World→Prop) (hA:CG l A=true) (hok:zV C.n l m ds S A=true) (hch:iP A m ch len=true) (hlen:fs.length=m)
  (hst:CB Rel fs) (h0:Inv 0 w.drew) (hob:aaC C l fs e' Inv Rel (l.take m) fs ds ch)
  (hfin:∀ w1,Inv len w1→Bind w1 (bf l fs (List.range m)) (fun en=>L C k l.toArray (l.drop m) (en++e) w1)) :
  T C (.code (.region id l.toArray true)::k) e w:=by
 simp only [zV,Bool.and_eq_true,decide_eq_true_eq] at hok
 obtain ⟨⟨⟨⟨⟨⟨⟨hto,hml⟩,hdl⟩,hdst⟩,hdis⟩,X8⟩,hS⟩,htl⟩:=hok
 simp only [iP,Bool.and_eq_true,decide_eq_true_eq] at hch
 obtain ⟨⟨⟨hcl,hc1⟩,hc2⟩,hc3⟩:=hch
 have qp:∀ i o,l[i]?=some o→∀ x∈o.after,Region.binds .any x=true→x.on<i:=by
  intro i o ho x hx hb
  have h1:=List.all_eq_true.1 hto (o,i) (by rw [List.mem_zipIdx_iff_getElem?];exact ho)
  have h2:=List.all_eq_true.1 h1 x (Array.mem_toList_iff.2 hx)
  simpa [hb] using h2
 have IK:∀ i,m≤i→i<l.length→∀ j,j<i→wt A i j=true:=by
  intro i hi hil j hj
  have h1:=List.all_eq_true.1 htl (l[i],i) (by rw [List.mem_zipIdx_iff_getElem?];exact List.getElem?_eq_getElem hil)
  have h3:¬ i<m:=by omega
  simp only [h3,decide_false,Bool.false_or] at h1
  exact List.all_eq_true.1 h1 j (by simpa using hj)
 have CO:∀ (i:Nat) (o:Oper),l[i]?=some o→gK C.n o.dst=true:=fun i o ho=>List.all_eq_true.1 hdst o (List.mem_of_getElem? ho)
 have CP:∀ (i j:Nat) (oi oj:Oper),i<m→j<m→i≠j→l[i]?=some oi→l[j]?=some oj→∀ d,oi.dst=some d→oj.dst≠some d:=by
  intro i j oi oj hi hj hne ho1 ho2 d hd1 hd2
  have h1:=List.all_eq_true.1 hdis j (by simpa using hj)
  have h2:=List.all_eq_true.1 h1 i (by simpa using hi)
  have hb:(i == j)=false:=by simpa using hne
  simp [hb,ho1,ho2,hd1,hd2] at h2
 have xA:∀ (i:Nat) (dd:List Nat),ds[i]?=some dd→∀ j∈dd,j<m∧wt A i j=true:=by
  intro i dd hd j hj
  have h1:=List.all_eq_true.1 X8 (dd,i) (by rw [List.mem_zipIdx_iff_getElem?];exact hd)
  have h2:=List.all_eq_true.1 h1 j hj
  simpa using h2
 have hS':∀ s∈S,∀ (j:Nat) (o:Oper),j<m→l[j]?=some o→o.dst≠some s:=by
  intro s hs j o hj ho hd
  have h1:=List.all_eq_true.1 hS s hs
  simp only [Bool.not_eq_true',List.contains_eq_mem,decide_eq_false_iff_not] at h1
  exact h1 (List.mem_filterMap.2 ⟨j,by simpa using hj,by simp [ho,hd]⟩)
 have PK:∀ (i p:Nat) (o:Oper),ch[i]?=some (some p)→l[i]?=some o→p<len∧∀ q,q<p→∃ j,ch[j]?=some (some q)∧wt A i j=true:=by
  intro i p o hp ho
  have hi:i<ch.length:=(List.getElem?_eq_some_iff.1 hp).1
  have h1:=List.all_eq_true.1 hc1 i (by simpa using hi)
  simp only [hp,Bool.and_eq_true,decide_eq_true_eq] at h1
  refine ⟨h1.1,fun q hq=>?_⟩
  have h2:=List.all_eq_true.1 h1.2 q (by simp;omega)
  simp only [hq,decide_true,Bool.not_true,Bool.false_or] at h2
  obtain ⟨j,hj,h3⟩:=List.any_eq_true.1 h2
  simp only [Bool.and_eq_true,beq_iff_eq] at h3
  exact ⟨j,h3.1,h3.2⟩
 have X9:∀ (i j p:Nat),ch[i]?=some (some p)→ch[j]?=some (some p)→i=j:=by
  intro i j p hi hj
  have hil:i<ch.length:=(List.getElem?_eq_some_iff.1 hi).1
  have hjl:j<ch.length:=(List.getElem?_eq_some_iff.1 hj).1
  have h1:=List.all_eq_true.1 (List.all_eq_true.1 hc2 i (by simpa using hil)) j (by simpa using hjl)
  simp only [hi,hj,beq_self_eq_true,Bool.not_true,Bool.false_or,beq_iff_eq] at h1
  exact h1
 have EU:∀ q:Nat,q<len→∃ j:Nat,j<m∧ch[j]?=some (some q):=by
  intro q hq
  have h1:=List.all_eq_true.1 hc3 q (by simpa using hq)
  obtain ⟨j,hj1,hj⟩:=List.any_eq_true.1 h1
  exact ⟨j,by simpa [hcl] using hj1,by simpa using hj⟩
 intro a0 ha0
 show (Code.region id l.toArray true).wpIn _ _ _ _ _ _
 refine wpIn_region_any PI ?_
 have hsz:l.toArray.size=l.length:=by simp
 rw [hsz]
 have main:∀ (fuel:Nat) (listed:Array Bool) (a:Act) (w1:World),ET C l m fs e Inv ch len listed a w1→(∀ j,j<l.length→listed[j]?=some true∨listed[j]?=some false)→(listed.toList.filter (! ·)).length≤fuel →
   wpAnyIn (FW C.r) 0 C.P .any l.toArray (run C k) fuel listed a w1:=by
  intro fuel
  induction fuel with
  | zero =>
   intro listed a w1 hU htf hcnt
   have hall:∀ j,j<l.length→listed[j]?=some true:=by
    intro j hj
    rcases htf j hj with h|h
    ·exact h
    have hm:false∈listed.toList:=List.mem_of_getElem? (i:=j) (by simpa using h)
    have:false∈listed.toList.filter (! ·):=List.mem_filter.2 ⟨hm,rfl⟩
    rw [List.eq_nil_of_length_eq_zero (Nat.le_zero.1 hcnt)] at this
    cases this
   have hm:m=l.length:=by
    rcases Nat.lt_or_ge m l.length with h|h
    ·have h1:=hU.tail m (Nat.le_refl _) h
     rw [hall m h] at h1;cases h1
    omega
   obtain ⟨en,hfit,hL⟩:=CJ hlen hml hfin EU hU (fun j hj=>hall j (by omega))
   exact gB hA IK qp 0 l.length listed a w1 (by omega) (by omega) (by rw [hU.size]) hall (fun j h1 h2=>by omega) (by rw [hm] at hL;exact hL a hfit) 0 (Nat.le_refl _)
  | succ fuel ih =>
   intro listed a w1 hU htf hcnt
   by_cases hall:∀ j,j<m→listed[j]?=some true
   ·obtain ⟨en,hfit,hL⟩:=CJ hlen hml hfin EU hU hall
    have lu:l.length-m≤fuel+1:=by
     have:=iE listed.toList m (fun j h1 h2=>by have:=hU.tail j h1 (by have:=hU.size;simpa [this] using h2);simpa using this)
     have hsz':=hU.size
     simp at this
     omega
    exact gB hA IK qp (l.length-m) m listed a w1 (by omega) (Nat.le_refl _) (by rw [hU.size]) hall hU.tail (hL a hfit) (fuel+1) lu
   refine ⟨fun h0=>?_,fun i hi=>?_⟩
   ·exfalso
    obtain ⟨j,hj1,hj2,hj3⟩:=gy hall
    have hjl:j<l.length:=by omega
    have hmem:j∈Region.ready .any l.toArray listed:=by
     have hfalse:listed[j]?=some false:=by (rcases htf j hjl with h|h;exact absurd h hj2;exact h)
     refine mem_ready.2 ⟨by rw [Array.getD_eq_getD_getElem?,hfalse];rfl,l[j],by simp [hjl],?_⟩
     intro x hx hb
     have:=qp j _ (List.getElem?_eq_getElem hjl) x hx hb
     rw [Array.getD_eq_getD_getElem?,hj3 _ this];rfl
    rw [h0] at hmem;cases hmem
   obtain ⟨h1,o,ho,kF⟩:=mem_ready.1 hi
   have ho':l[i]?=some o:=by simpa using ho
   have hil:i<l.length:=(List.getElem?_eq_some_iff.1 ho').1
   have him:i<m:=by
    rcases Nat.lt_or_ge i m with h|h
    ·exact h
    exfalso
    obtain ⟨j,hj1,hj2,_⟩:=gy hall
    exact hj2 (bZ hA qp hU.size hU.closed i i o (Nat.le_refl _) ho' kF j (IK i h hil j (by omega)))
   obtain ⟨f,hfi⟩:∃ f,fs[i]?=some f:=⟨fs[i]'(by omega),List.getElem?_eq_getElem (by omega)⟩
   obtain ⟨dd,hdi⟩:∃ dd,ds[i]?=some dd:=⟨ds[i]'(by omega),List.getElem?_eq_getElem (by omega)⟩
   obtain ⟨q,hqi⟩:∃ q,ch[i]?=some q:=⟨ch[i]'(by omega),List.getElem?_eq_getElem (by omega)⟩
   obtain ⟨c,Ut,hI,hcc⟩:=hU.inv
   have hli:¬ listed[i]?=some true:=fun h=>by rw [Array.getD_eq_getD_getElem?,h] at h1;simp at h1
   have hpc:∀ p,q=some p→p=c:=by
    rintro p rfl
    have hge:¬ p<c:=fun h=>hli ((hcc i p hqi).2 h)
    have hle:p≤c:=Classical.byContradiction fun hn=>by
     obtain ⟨j,hj,hw⟩:=(PK i p o hqi ho').2 c (by omega)
     have:=(hcc j c hj).1 (bZ hA qp hU.size hU.closed i i o (Nat.le_refl _) ho' kF j hw)
     omega
    omega
   have hB:=IJ hob i o f dd q (by rw [List.getElem?_take,if_pos him];exact ho') hfi hdi hqi c w1 hI hpc
   have hbase:Fits C e' a:=⟨⟨hU.jy,fun s v hs=>by
    obtain ⟨hs1,hs2⟩:=jZ he s v hs
    exact hU.base s v hs2 (fun j oj hj hoj=>hS' s hs1 j oj hj hoj)⟩,hU.defers⟩
   obtain ⟨en,hOb,hlk⟩:=rX (a:=a) (e:=e') _ _ hB (fun p hp=>by
    obtain ⟨j,oj,hj1,hj2,hj3,hj4⟩:=dB hp
    obtain ⟨hjm,hjw⟩:=xA i dd hdi j hj1
    obtain ⟨v,hv1,hv2⟩:=hU.done j oj p.2 hjm hj2 hj4 (bZ hA qp hU.size hU.closed i i o (Nat.le_refl _) ho' kF j hjw)
    exact ⟨v,fun d hd=>hv1 d (by rw [hj3];exact hd),hv2⟩)
   have hfit:Fits C (en++e') a:=⟨⟨hU.jy,fun s v hs=>by
    rcases hlk s v hs with h|⟨h,_⟩
    ·exact h
    exact hbase.sat.get s v h⟩,hU.defers⟩
   have lu:((listed.setIfInBounds i true).toList.filter (! ·)).length≤fuel:=by
    have:=count_set (listed:=listed) (i:=i) (by rcases htf i hil with h|h;exact absurd h hli;exact h)
    omega
   have PL:∀ j,j<l.length→(listed.setIfInBounds i true)[j]?=some true∨(listed.setIfInBounds i true)[j]?=some false:=by
    intro j hj
    by_cases hji:i=j
    ·subst hji;left;rw [Array.getElem?_setIfInBounds_self];simp [hU.size,hil]
    rw [Array.getElem?_setIfInBounds_ne hji];exact htf j hj
   have hnext:∀ v w2,Rel w1 w2→Inv (match q with|some _=>c+1|none=>c) w2→f.holds v w2→ET C l m fs e Inv ch len (listed.setIfInBounds i true) (a.put o.dst v) w2:=by
    intro v w2 hrel hx hh
    refine ⟨by simpa using hU.size,?_,?_,?_,?_,?_,?_,?_⟩
    ·intro i2 o2 ho2 hl2 x hx2 hb2
     have hgx:listed.getD x.on false=true:=by
      by_cases hii:i=i2
      ·subst hii;rw [ho'] at ho2;cases ho2;exact kF x hx2 hb2
      rw [Array.getElem?_setIfInBounds_ne hii] at hl2;exact hU.closed i2 o2 ho2 hl2 x hx2 hb2
     have Ya:=kE hgx
     rw [Array.getD_eq_getD_getElem?]
     by_cases hxi:i=x.on
     ·rw [← hxi,Array.getElem?_setIfInBounds_self];simp [hU.size,hil]
     rw [Array.getElem?_setIfInBounds_ne hxi,Ya];rfl
    ·refine ⟨_,?_,hx,fun j p hj=>?_⟩
     ·cases q with
      | none=>exact Ut
      | some p=>have:=hpc p rfl;have:=(PK i p o hqi ho').1;show c+1≤len;omega
     by_cases hji:i=j
     ·subst hji
      rw [hqi] at hj;cases hj
      have:=hpc p rfl
      rw [Array.getElem?_setIfInBounds_self]
      simp only [hU.size,hil,if_true,true_iff]
      omega
     rw [Array.getElem?_setIfInBounds_ne hji,hcc j p hj]
     cases q with
     | none=>exact Iff.rfl
     | some p2 =>
      have h3:=hpc p2 rfl
      have hne:p≠p2:=fun e=>hji (X9 i j p2 hqi (e▸hj))
      show p<c↔p<c+1
      omega
    ·cases o.dst <;> exact hU.defers
    ·cases o.dst <;> simp [Act.put,hU.jy]
    ·intro s u hs hno
     have h0:=hU.base s u hs hno
     cases hd:o.dst with
     | none=>exact h0
     | some d =>
      have hne:d≠s:=fun e=>hno i o him ho' (by rw [hd,e])
      simp only [Act.put]
      rw [Array.getElem?_setIfInBounds_ne hne];exact h0
    ·intro j hj hjl
     rw [Array.getElem?_setIfInBounds_ne (by omega)];exact hU.tail j hj hjl
    intro j oj fj hj hoj hfj hlj
    by_cases hji:i=j
    ·subst hji
     rw [ho'] at hoj;cases hoj
     rw [hfi] at hfj;cases hfj
     refine ⟨v,fun d hd=>?_,hh⟩
     have hlt:=CO i o ho'
     rw [hd] at hlt
     have hlt':d<C.n:=by simpa [gK,Nat.blt_eq] using hlt
     rw [hd]
     simp only [Act.put]
     rw [Array.getElem?_setIfInBounds_self];simp [hU.jy,hlt']
    rw [Array.getElem?_setIfInBounds_ne hji] at hlj
    obtain ⟨u,hu1,hu2⟩:=hU.done j oj fj hj hoj hfj hlj
    refine ⟨u,fun d hd=>?_,nU hst j fj hfj _ _ _ hrel hu2⟩
    have:=hu1 d hd
    cases hod:o.dst with
    | none=>exact this
    | some d' =>
     have hne:d'≠d:=fun e=>CP i j o oj him hj hji ho' hoj d' hod (by rw [hd,e])
     simp only [Act.put]
     rw [Array.getElem?_setIfInBounds_ne hne];exact this
   unfold wpOpIn
   simp only [ho]
   rcases hOb with ⟨hw,hO⟩|⟨hw,hu,hJ⟩
   ·rw [if_pos (bY hfit hw)]
    exact hO a hfit _ _ (fun v w2 ⟨hx,hh⟩=>ih _ _ _ (hnext v w2 hx.1 hx.2 hh) PL lu)
   rw [if_neg (by rw [bY hfit hw];simp)]
   exact ⟨fun _ _=>trivial,ih _ _ _ (hnext undef w1 hJ.1 hJ.2 hu) PL lu⟩
 refine main l.length (Array.replicate l.length false) a0 _ ⟨by simp,fun i o ho hl=>?_,⟨0,Nat.zero_le _,h0,fun j p hj=>?_⟩,ha0.defers,ha0.sat.size,fun i v hi _=>ha0.sat.get i v hi,fun j _ hj=>by simp [hj],fun j o f _ hj _ hl=>?_⟩ (fun j hj=>by right;simp [hj]) ?_
 ·have hil:=(List.getElem?_eq_some_iff.1 ho).1
  simp [hil] at hl
 ·have hjl:j<l.length:=by have:=(List.getElem?_eq_some_iff.1 hj).1;omega
  simp [hjl]
 ·have hjl:=(List.getElem?_eq_some_iff.1 hj).1
  simp [hjl] at hl
 simp
theorem O.mono {C:Cx} {e:Env} {o:Oper} {w:World} {K K':Value→World→Prop} (h:O C e o w K) (hk:∀ v w',K v w'→K' v w'):O C e o w K':=fun a ha next Q hn=>h a ha next Q fun v w' hv=>hn v w' (hk v w' hv)
theorem Bind.mono {w:World} : ∀ (fs:List (Option Tmp × Fact)) {K K':Env→Prop},(∀ en,K en→K' en)→Bind w fs K→Bind w fs K'
 | [],K,K',h,hb=>h _ hb
 | (d,.is v)::r,K,K',h,hb=>Bind.mono r (K:=fun en=>K (Aw d v en)) (fun en hk=>h _ hk) hb
 | (d,.such φ)::r,K,K',h,hb=>fun v hv=>Bind.mono r (K:=fun en=>K (Aw d v en)) (fun en hk=>h _ hk) (hb v hv)
theorem PN {C:Cx} {l:List Oper} {fs:List Fact} {e:Env} {w:World} : ∀ {os:List Oper} {fr:List Fact} {dr:List (List Nat)} {n:Nat},Obs C l fs e w os fr dr→aaC C l fs e (fun _ w1=>Ext w w1) Ext os fr dr (List.replicate n none)
 | o::os,f::fr,ds::dr,n+1,h=>⟨fun c w1 hx=>Bind.mono _ (fun en hk=>by
   rcases hk with ⟨h1,h2⟩|⟨h1,h2⟩
   ·exact .inl ⟨h1,h2.mono fun v w' hv=>⟨⟨hv.1,hx.trans hv.1⟩,hv.2⟩⟩
   exact .inr ⟨h1,h2,Keep.refl _ _,hx⟩) (h.1 w1 hx),PN h.2⟩
 | o::os,f::fr,ds::dr,0,h=>trivial
 | [],_,_,_,_=>by cases ‹Nat› <;> trivial
 | _::_,[],_,_,_=>by cases ‹Nat› <;> trivial
 | _::_,_::_,[],_,_=>by cases ‹Nat› <;> trivial
theorem T.fJ {id:Nat} (PI:C.P.follows .mixedOrders=true) (m:Nat) (S:List Nat) (he:zO e S=some e') (fs:List Fact) (ds:List (List Nat)) (A:List (List Nat)) (hA:CG l A=true) (hok:zV C.n l m ds S A=true) (hlen:fs.length=m)
  (hch:iP A m (List.replicate m none) 0=true) (hst:CB Ext fs) (hob:Obs C l fs e' w (l.take m) fs ds)
  (hfin:∀ w1,Ext w w1→Bind w1 (bf l fs (List.range m)) (fun en=>L C k l.toArray (l.drop m) (en++e) w1)) :
  T C (.code (.region id l.toArray true)::k) e w :=
 T.any PI m 0 S he fs ds (List.replicate m none) A (fun _ w1=>Ext w w1) Ext hA hok hch hlen hst (Keep.drew _ _) (PN hob) hfin
end
open Go.RowKit
section ops
variable {C:Cx} {e:Env} {w:World} {K:Value→World→Prop} {d:Option Tmp} {ty:TypeId} {pos:String} {aft:Array Edge} {g:Option (Nat × Bool)}
variable {x y z:Operand} {t kt vt:TypeId}
theorem O.MS {tx ty':TypeId} {p q:Bool} (hu:∀ w,(underlying tx).run C.P w = .ok .bool w) (hx:ev e x=some (.bool p)) (hy:ev e y=some (.bool q)) (hp:p=q) (h:K (.bool true) w):O C e ⟨d,.binOp .eql tx x y ty',ty,pos,aft,g⟩ w K :=
 O.Ci hu hx hy (by subst hp;simpa using h)
theorem O.PO {cs:List Value} {n sz:Nat} {el:TypeId} {kd:IntKind} {m:Int} (hu:∀ w,(underlying t).run C.P w = .ok (.array n el) w) (hg:∀ w,(isAgg el).run C.P w = .ok true w) (hs:∀ w,(sizeOf el).run C.P w = .ok sz w)
  (hx:ev e x=some (.agg cs.toArray)) (hy:ev e y=some (.int kd m)) (h0:0≤m) (h1:m<n) (h:K (.agg ((cs.drop (m.toNat*sz)).take sz).toArray) w):O C e ⟨d,.index t x y,ty,pos,aft,g⟩ w K:=by
 have e1:cs.toArray.extract (m.toNat*sz) (m.toNat*sz+sz)=((cs.drop (m.toNat*sz)).take sz).toArray:=by
  rw [List.extract_toArray,List.extract_eq_take_drop,Nat.add_sub_cancel_left]
 exact O.of_run (by simp) (fun a ha=>by simp [execOp,Instr.index,asIntOf,ha.eval hx,ha.eval hy,hu w,h0,h1,hs w,Go.part,hg w,e1]) h
theorem O.EW {cs vs:List Value} {n sz:Nat} {el:TypeId} {kd:IntKind} {m:Int} (hu:∀ w,(underlying t).run C.P w = .ok (.array n el) w) (hg:∀ w,(isAgg el).run C.P w = .ok true w) (hs:∀ w,(sizeOf el).run C.P w = .ok sz w)
  (hx:ev e x=some (.agg cs.toArray)) (hy:ev e y=some (.int kd m)) (h0:0≤m) (h1:m<n) (hv:(cs.drop (m.toNat*sz)).take sz=vs) (h:K (.agg vs.toArray) w):O C e ⟨d,.index t x y,ty,pos,aft,g⟩ w K :=
 O.PO hu hg hs hx hy h0 h1 (hv▸h)
end ops
open Go.RowKit Go.ChangeShapes Go.WideShapes
def Rok (P:Program) (w:World) (t:TypeId) (cs:List Value):Prop:=∃ (H:Type) (enc:TypeId × Value→H) (n:Nat) (y:DataW H × List MemPlace),DataW.trod enc P w 0 (fun _=>true) true n t cs=some y
section
variable {P:Program} {w:World} {t:TypeId} {cs:List Value}
theorem Rok.int {k:IntKind} (h:Rok P w t cs) (ht:P.underlying t=some (.int k)):∃ n,cs = [.int k n]∧(Lit.int k n).wf=true:=by
 obtain ⟨H,enc,n,y,h⟩:=h
 cases n with
 | zero=>simp [DataW.trod] at h
 | succ n =>
  simp only [DataW.trod,ht] at h
  split at h <;> simp_all
theorem Rok.bool (h:Rok P w t cs) (ht:P.underlying t=some .bool):∃ b,cs = [.bool b]:=by
 obtain ⟨H,enc,n,y,h⟩:=h
 cases n with
 | zero=>simp [DataW.trod] at h
 | succ n =>
  simp only [DataW.trod,ht] at h
  split at h <;> simp_all
theorem Rok.struct {fs:Array Field} (h:Rok P w t cs) (ht:P.underlying t=some (.struct fs)):cs.length=P.cellsOf t∧∀ (i:Nat) (f:Field),fs[i]?=some f→Rok P w f.type ((cs.drop f.offset).take (P.cellsOf f.type)):=by
 obtain ⟨H,enc,n,y,h⟩:=h
 obtain ⟨xs,n',rfl,rfl,h1,h2,h3⟩:=DataW.trod_struct ht h
 refine ⟨h1,fun i f hf=>?_⟩
 have hi:i<xs.length:=by rw [h2];exact (Array.getElem?_eq_some_iff.1 hf).1
 exact ⟨H,enc,n',xs[i],(h3 i f hf).trans (List.getElem?_eq_getElem hi)⟩
theorem Rok.fld {fs:Array Field} (h:Rok P w t cs) (ht:P.underlying t=some (.struct fs)) (i ft off n:Nat) (hf:(fs[i]?).map (fun f=>(f.type,f.offset))=some (ft,off)) (hc:P.cellsOf ft=n):Rok P w ft ((cs.drop off).take n):=by
 cases hfi:fs[i]? with
 | none=>rw [hfi] at hf;cases hf
 | some f =>
  rw [hfi] at hf
  simp at hf
  obtain ⟨rfl,rfl⟩:=hf
  rw [← hc];exact (h.struct ht).2 i f hfi
theorem flat_get {α:Type} {c:Nat} : ∀ (css:List (List α)),(∀ x∈css,x.length=c)→∀ (j:Nat) (u:α),css.flatten[j]?=some u→∃ i k,i<css.length∧k<c∧j=i*c+k∧(css.getD i [])[k]?=some u
 | [],_,j,u,h=>by simp at h
 | x::r,hl,j,u,h=>by
  have hx:=hl x (List.mem_cons_self ..)
  rw [List.flatten_cons] at h
  by_cases hj:j<c
  ·rw [List.getElem?_append_left (by omega)] at h
   exact ⟨0,j,by simp,hj,by simp,by simpa using h⟩
  rw [List.getElem?_append_right (by omega),hx] at h
  obtain ⟨i,k,h1,h2,h3,h4⟩:=flat_get r (fun y hy=>hl y (List.mem_cons_of_mem _ hy)) (j-c) u h
  exact ⟨i+1,k,by simpa using h1,h2,by rw [Nat.add_mul];omega,by simpa using h4⟩
theorem Rok.slice {e:TypeId} (h:Rok P w t cs) (ht:P.underlying t=some (.slice e)):∃ (v:Value) (css:List (List Value)),cs = [v]∧Sl 0 w v css.length (P.cellsOf e) css.flatten∧∀ x∈css,x.length=P.cellsOf e∧Rok P w e x:=by
 obtain ⟨H,enc,n,y,h⟩:=h
 rcases Go.Deep.open_slice ht h with ⟨rfl,_⟩|⟨a,len,cap,m,n',D,Pl,rfl,hb,hl,hm,hmm,hx,hi⟩
 ·exact ⟨_,[],rfl,Sl.nil 0 w _,fun x hx=>by cases hx⟩
 have hle:len≤m:=by rw [hmm];split <;> omega
 have hch:∀ i:Nat,∃ c:List Value,i<len→(w.cells? 0 (a.add (i*P.cellsOf e)) (P.cellsOf e)=some c∧Rok P w e c):=fun i=>by
  by_cases hil:i<len
  ·obtain ⟨c,h1,h2⟩:=hi i (by omega)
   exact ⟨c,fun _=>⟨h1,H,enc,n',_,h2⟩⟩
  exact ⟨[],fun h=>absurd h hil⟩
 let f:=fun i=>Classical.choose (hch i)
 have hf:∀ i,i<len→w.cells? 0 (a.add (i*P.cellsOf e)) (P.cellsOf e)=some (f i)∧Rok P w e (f i):=fun i hil=>Classical.choose_spec (hch i) hil
 have hall:∀ x∈(List.range len).map f,x.length=P.cellsOf e∧Rok P w e x:=fun x hx=>by
  obtain ⟨i,hi,rfl⟩:=List.mem_map.1 hx
  have hil:i<len:=by simpa using hi
  exact ⟨(World.cells?_some (hf i hil).1).2.1,(hf i hil).2⟩
 refine ⟨_,(List.range len).map f,rfl,⟨?_,some a,cap,by simp,by simpa using hl,hm,?_⟩,hall⟩
 ·have:∀ (l:List (List Value)),(∀ x∈l,x.length=P.cellsOf e)→l.flatten.length=l.length*P.cellsOf e:=by
   intro l
   induction l with
   | nil=>intro _;simp
   | cons x r ih =>
    intro hh
    rw [List.flatten_cons,List.length_append,ih (fun y hy=>hh y (List.mem_cons_of_mem _ hy)),hh x (List.mem_cons_self ..),List.length_cons,Nat.add_mul];omega
  exact this _ fun x hx=>(hall x hx).1
 right
 refine ⟨a,rfl,Nat.zero_le _,fun j u hj=>?_⟩
 obtain ⟨i,k,h1,h2,rfl,h4⟩:=flat_get _ (fun x hx=>(hall x hx).1) j u hj
 have hil:i<len:=by simpa using h1
 have h5:=(World.cells?_some (hf i hil).1).2.2 k h2
 rw [add_add] at h5
 rw [h5]
 rw [List.getD_eq_getElem?_getD,List.getElem?_map,List.getElem?_range hil] at h4
 exact h4
end
theorem EY {α:Type} {c:Nat} : ∀ (css:List (List α)) (i:Nat) (x:List α),(∀ x∈css,x.length=c)→css[i]?=some x→(css.flatten.drop (i*c)).take c=x
 | y::r,0,x,hl,h=>by
  simp at h;subst h
  have:=hl y (List.mem_cons_self ..)
  rw [Nat.zero_mul,List.drop_zero,List.flatten_cons,List.take_append_of_le_length (by omega),List.take_of_length_le (by omega)]
 | y::r,i+1,x,hl,h=>by
  have hy:=hl y (List.mem_cons_self ..)
  have e:(i+1)*c=y.length+i*c:=by rw [hy,Nat.add_mul];omega
  rw [e,List.flatten_cons,List.drop_append]
  simp only [Nat.add_sub_cancel_left]
  rw [List.drop_eq_nil_of_le (by omega),List.nil_append]
  exact EY r i x (fun z hz=>hl z (List.mem_cons_of_mem _ hz)) (by simpa using h)
 | [],i,x,_,h=>by simp at h
theorem Sl.elem {w:World} {v:Value} {n sz lo i:Nat} {css:List (List Value)} {x:List Value} (h:Sl lo w v n sz css.flatten) (hl:∀ c∈css,c.length=sz) (hi:css[i]?=some x) (hn:0<n):Row w ((jd v).add (i*sz)) x:=by
 obtain ⟨_,_,_,_,hr⟩:=h.there hn
 have:=hr.part (i*sz) sz
 rwa [EY css i x hl hi] at this
theorem Sl.at1 {w:World} {v u:Value} {n lo i:Nat} {cs:List Value} (h:Sl lo w v n 1 cs) (hi:cs[i]?=some u):w.cell? ((jd v).add ((i:Int).toNat*1))=some u:=h.cell (by rw [Int.toNat_natCast,Nat.mul_one];exact hi)
structure Arg (P:Program) (w:World) (t:TypeId) (v:Value):Prop where
 ok:Value.okWide P w .any 0 t v
 reads:Rok P w t v.cells.toList
section
variable {P:Program} {w:World} {t:TypeId} {v:Value}
theorem Arg.int {k:IntKind} (h:Arg P w t v) (ht:P.underlying t=some (.int k)):∃ n,v = .int k n∧(Lit.int k n).wf=true:=by
 obtain ⟨n,rfl⟩:=okWide_int ht h.ok
 obtain ⟨m,h1,h2⟩:=h.reads.int ht
 simp [Value.cells] at h1
 subst h1;exact ⟨n,rfl,h2⟩
theorem Arg.slice {e:TypeId} (h:Arg P w t v) (ht:P.underlying t=some (.slice e)):∃ css:List (List Value),Sl 0 w v css.length (P.cellsOf e) css.flatten∧∀ x∈css,x.length=P.cellsOf e∧Rok P w e x:=by
 obtain ⟨a,len,cap,rfl⟩:=okWide_slice ht h.ok
 obtain ⟨v,css,h1,h2,h3⟩:=h.reads.slice ht
 simp [Value.cells] at h1
 subst h1;exact ⟨css,h2,h3⟩
theorem Arg.struct {fs:Array Field} (h:Arg P w t v) (ht:P.underlying t=some (.struct fs)):∃ cs:List Value,v = .agg cs.toArray∧cs.length=P.cellsOf t∧Rok P w t cs:=by
 obtain ⟨cs,rfl,hsz⟩:=okWide_struct ht h.ok
 exact ⟨cs.toList,by simp,by simpa using hsz,by simpa [Value.cells] using h.reads⟩
theorem IL {k:IntKind} {e:TypeId} {v:Value} {css:List (List Value)} (he:P.underlying e=some (.int k)) (hc:P.cellsOf e=1) (hs:Sl 0 w v css.length (P.cellsOf e) css.flatten) (ha:∀ x∈css,x.length=P.cellsOf e∧Rok P w e x) :
  ∃ xs,Ints k 0 w v xs∧∀ n∈xs,(Lit.int k n).wf=true:=by
 have key:∀ (l:List (List Value)),(∀ x∈l,Rok P w e x)→∃ xs:List Int,l.flatten=xs.map (Value.int k)∧xs.length=l.length∧∀ n∈xs,(Lit.int k n).wf=true:=by
  intro l
  induction l with
  | nil=>intro _;exact ⟨[],rfl,rfl,fun n hn=>by cases hn⟩
  | cons x r ih =>
   intro hh
   obtain ⟨xs,h1,h2,h3⟩:=ih fun y hy=>hh y (List.mem_cons_of_mem _ hy)
   obtain ⟨n,rfl,hn⟩:=(hh x (List.mem_cons_self ..)).int he
   exact ⟨n::xs,by simp [h1],by simp [h2],fun m hm=>by rcases List.mem_cons.1 hm with rfl|hm;exact hn;exact h3 m hm⟩
 obtain ⟨xs,h1,h2,h3⟩:=key css fun x hx=>(ha x hx).2
 refine ⟨xs,?_,h3⟩
 unfold Ints
 rw [h2,← h1,← hc];exact hs
end
theorem qw {H:Type} {enc:TypeId × Value→H} {P:Program} {W W':World} (hl:laidOutB P=true) (hb:Below W.heap.size W W'):∀ {ts:List TypeId} {vs:List Value} {ds:List (DataW H)} {ps:List MemPlace},
  (ts.all fun t=>P.readableRec t && decide (t<P.types.size))=true→DataW.TrodAll enc P W 0 (fun _=>true) true ts vs ds ps→DataW.TrodAll enc P W' 0 (fun b=>decide (b<W.heap.size)) true ts vs ds ps
 | [],vs,ds,ps,_,h=>by
  obtain ⟨rfl,rfl,rfl⟩:=trodAll_nil h
  exact trodAll_mk0
 | t::ts,vs,ds,ps,ht,h=>by
  obtain ⟨v,vs',d,ds',p,q,rfl,rfl,rfl,h1,h2⟩:=trodAll_cons h
  simp only [List.all_cons,Bool.and_eq_true,decide_eq_true_eq] at ht
  have lt:∀ x∈p,x.block<W.heap.size:=by obtain ⟨m,hm⟩:=h1;exact DataW.trod_lt m _ _ _ hm
  exact trodAll_cons_mk (Below.trod hl ht.1.1 ht.1.2 h1 hb lt) (qw hl hb (by simpa using ht.2) h2)
theorem PV {H:Type} {enc:TypeId × Value→H} {P:Program} {W:World} : ∀ {ts:List TypeId} {vs:List Value} {ds:List (DataW H)} {ps:List MemPlace},DataW.TrodAll enc P W 0 (fun _=>true) true ts vs ds ps →
  (∀ (j:Nat) t v,ts[j]?=some t→vs[j]?=some v→Value.okWide P W .any 0 t v)→vs.length=ts.length∧∀ (j:Nat) t v,ts[j]?=some t→vs[j]?=some v→Arg P W t v
 | [],vs,ds,ps,h,_=>by
  obtain ⟨rfl,rfl,rfl⟩:=trodAll_nil h
  exact ⟨rfl,fun j t v hj=>by simp at hj⟩
 | t::ts,vs,ds,ps,h,hv=>by
  obtain ⟨v,vs',d,ds',p,q,rfl,rfl,rfl,h1,h2⟩:=trodAll_cons h
  obtain ⟨h3,h4⟩:=PV h2 fun j t v hj hv'=>hv (j+1) t v (by simpa using hj) (by simpa using hv')
  refine ⟨by simp [h3],fun j t' v' hj hv'=>?_⟩
  cases j with
  | zero =>
   simp at hj hv'
   subst hj hv'
   obtain ⟨m,hm⟩:=h1
   exact ⟨hv 0 t v rfl rfl,H,enc,m,_,hm⟩
  | succ j=>exact h4 j t' v' (by simpa using hj) (by simpa using hv')
end Go.E
