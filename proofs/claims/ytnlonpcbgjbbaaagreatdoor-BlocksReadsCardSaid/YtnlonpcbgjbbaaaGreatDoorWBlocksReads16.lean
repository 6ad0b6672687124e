/-
  BlocksReads, part 16 of its proof: that it returns true for every input, and each argument reads behind the call as it read before. Conditions: the listed variables read as the program's text lays them (tied by the card).
-/
import Derived.Test.YtnlonpcbgjbbaaaGreatDoorWBlocksReads15
set_option linter.unusedVariables false
set_option linter.unusedSimpArgs false
set_option maxRecDepth 20000
set_option linter.unusedVariables false
set_option linter.unusedSimpArgs false
set_option maxRecDepth 20000
namespace Go.Proofs.YtnlonpcbgjbbaaaGreatDoor
open Go.Proofs.Tryz (call108 call120 call122 call68 func67 isAgg3 isAgg43 isAgg44 isAgg9 ntmps67 results67 runUnderlying129 runUnderlying25 runUnderlying30 runUnderlying43 runUnderlying44 runUnderlying46 runUnderlying48 runUnderlying61 runUnderlying9 sizeOf25 sizeOf3 sizeOf43 sizeOf44 sizeOf46 sizeOf48 sizeOf9)
open Go Go.E RowKit
attribute [local irreducible] Go.E.T Go.E.L Go.E.O Go.E.Ob
attribute [local irreducible] Go.E.ObX Go.E.ObG Go.E.ObK
structure dA (ob:Option Nat) (w w':World):Prop where
 os:w'.os=w.os
 tape:w'.tape=w.tape
 output:w'.output=w.output
 size:w.heap.size≤w'.heap.size
 block:∀ k,k<w.heap.size→ob≠some k→w'.heap[k]?=w.heap[k]?
theorem dA.aW {ob:Option Nat} {w w':World} (h:Ext w w'):dA ob w w':=⟨h.os,h.tape,h.output,h.size,fun k hk _=>h.block k (Nat.zero_le _) hk⟩
theorem dA.refl (ob:Option Nat) (w:World):dA ob w w:=.aW (Keep.refl _ _)
theorem dA.trans {ob:Option Nat} {w w1 w2:World} (h:dA ob w w1) (k:dA ob w1 w2):dA ob w w2 :=
 ⟨k.os.trans h.os,k.tape.trans h.tape,k.output.trans h.output,Nat.le_trans h.size k.size,fun i hi ho=>(k.block i (Nat.lt_of_lt_of_le hi h.size) ho).trans (h.block i hi ho)⟩
theorem dA.jh {ob:Option Nat} {w w':World} (h:w.grownBy w' ob):dA ob w w' :=
 have h0:Keep w.heap.size w w':=by
  refine Keep.grown (Keep.refl _ _) h fun j _=>?_
  exact Nat.lt_or_ge _ _
 ⟨h0.os,h0.tape,h0.output,h0.size,fun k hk ho=>h.block k hk (fun e=>ho e.symm)⟩
theorem dA.ext {ob:Option Nat} {w w':World} (h:dA ob w w') {w0:World} (hw:Ext w0 w) (hn:∀ k,ob=some k→w0.heap.size≤k):Ext w0 w' :=
 ⟨h.os.trans hw.os,h.tape.trans hw.tape,h.output.trans hw.output,Nat.le_trans hw.size h.size,fun k _ hk=>(h.block k (Nat.lt_of_lt_of_le hk hw.size) (fun e=>by have:=hn k e;omega)).trans (hw.block k (Nat.zero_le _) hk)⟩
theorem dA.blk {ob:Option Nat} {w w':World} {b:Nat} {cs:List Value} {t:TypeId} (h:dA ob w w') (hB:Blk w b cs t) (hn:ob≠some b):Blk w' b cs t:=(h.block b hB.lt hn).trans hB
theorem ng {w:World} {base n sz b:Nat} {el t:TypeId} {v:Value} {xs cs:List Value} (h:w.ownsRow base el sz v n xs) (hb:Blk w b cs t) (he:el≠t):v.ownBlock≠some b:=fun e=>OZ h hb he b e rfl
def dJ (Q:Nat→Prop) (W:World) (v:Value) (xs:List Int):Prop :=
 (v = .slice none 0 0∧xs = [])∨∃ k off cap cs,v = .slice (some ⟨k,off,none⟩) xs.length cap∧xs.length≤cap∧cap≤maxLen∧Q k∧Blk W k cs 3∧(cs.drop off).take xs.length=xs.map (Value.int .i64)
theorem dJ.ints {Q:Nat→Prop} {W:World} {v:Value} {xs:List Int} (h:dJ Q W v xs):Ints .i64 0 W v xs:=by
 rcases h with ⟨rfl,rfl⟩|⟨k,off,cap,cs,rfl,h1,h2,h3,h4,h5⟩
 ·exact Sl.nil _ _ _
 refine ⟨by simp,some ⟨k,off,none⟩,cap,rfl,h1,h2,.inr ⟨_,rfl,Nat.zero_le _,?_⟩⟩
 have:=((Row.ay h4).drop off).take xs.length
 rw [h5] at this
 exact this.of_eq (by rw [zS];simp)
theorem dJ.aU {base:Nat} {Q:Nat→Prop} {W:World} {v:Value} {xs:List Int} (h:W.ownsRow base 3 1 v xs.length (xs.map (Value.int .i64))) (hQ:∀ k,base≤k→k<W.heap.size→Q k):dJ Q W v xs:=by
 rcases h.2 with ⟨h1,h2⟩|⟨g,cap,cur,rfl,hb,hg,hn,hm,hsz,htk⟩
 ·exact .inl ⟨h1,List.length_eq_zero_iff.1 h2⟩
 have hB:Blk W g cur.toList 3:=by unfold Blk;simpa using hg
 exact .inr ⟨g,0,cap,cur.toList,rfl,hn,hm,hQ g hb hB.lt,hB,by simpa using htk⟩
theorem dJ.stay {Q Q':Nat→Prop} {W W':World} {v:Value} {xs:List Int} (h:dJ Q W v xs) (hk:∀ k cs,Q k→Blk W k cs 3→Q' k∧Blk W' k cs 3):dJ Q' W' v xs:=by
 rcases h with h|⟨b,off,cap,cs,h0,h1,h2,h3,h4,h5⟩
 ·exact .inl h
 obtain ⟨k1,k2⟩:=hk b cs h3 h4
 exact .inr ⟨b,off,cap,cs,h0,h1,h2,k1,k2,h5⟩
def AV (Q:Nat→Prop) (W:World) (el:TypeId) (sz:Nat) (v:Value) (n:Nat) (xs:List Value):Prop:=W.ownsRow 0 el sz v n xs∧∀ k,v.ownBlock=some k→Q k
theorem AV.nil (Q:Nat→Prop) (W:World) (el:TypeId) (sz:Nat):AV Q W el sz (.slice none 0 0) 0 []:=⟨dW _ _ _ _,fun k h=>by cases h⟩
theorem AV.stay {Q Q':Nat→Prop} {W W':World} {el:TypeId} {sz n:Nat} {v:Value} {xs:List Value} (h:AV Q W el sz v n xs) (hk:∀ k cs,Q k→v.ownBlock=some k→Blk W k cs el→Q' k∧Blk W' k cs el):AV Q' W' el sz v n xs:=by
 obtain ⟨⟨h1,h2⟩,h3⟩:=h
 rcases h2 with ⟨h4,h5⟩|⟨g,cap,cur,rfl,hb,hg,hn,hm,hsz,htk⟩
 ·subst h4
  exact ⟨⟨h1,.inl ⟨rfl,h5⟩⟩,fun k h=>by cases h⟩
 have hB:Blk W g cur.toList el:=by unfold Blk;simpa using hg
 obtain ⟨k1,k2⟩:=hk g _ (h3 g rfl) rfl hB
 exact ⟨⟨h1,.inr ⟨g,cap,cur,rfl,hb,by unfold Blk at k2;simpa using k2,hn,hm,hsz,htk⟩⟩,fun k e=>by cases e;exact k1⟩
structure PU where
 nm:Str
 pp:Int
 gs:List Int
 vs:List Int
 qs:List Int
 wt:Bool
structure PS where
 ps:List Pt
 fs:List (List Int × List (List Int))
 G:Int
 P:Int
 L:Int
 us:List PU
 last:Str
def PS0:PS:=⟨[],[],0,0,0,[],[]⟩
def cO:Str:=[117,110,105,116]
def ade:Str:=[119,97,116,101,114]
def tV (s:PS) (r:List Str):Option PU :=
 let wt:=decide (1<r.length) && decide (r.getD (r.length-1) []=ade)
 let q:=if wt then r.take (r.length-1) else r
 if 0≤s.G∧0≤s.P∧0≤s.L∧(q.length:Int)=2+s.G+s.P+s.L then
  match dN (q.drop 1) with
  | some xs=>some ⟨q.getD 0 [],xs.getD 0 0,(xs.drop 1).take s.G.toNat,(xs.drop (1+s.G.toNat)).take s.P.toNat,xs.drop (1+s.G.toNat+s.P.toNat),wt⟩
  | none=>none
 else none
def zx (fs:List (List Int × List (List Int))) (h:List Int):List (List Int × List (List Int)):=match fs.getLast? with
 | some f=>fs.dropLast ++ [(f.1,f.2 ++ [h])]
 | none=>fs
def iq (s:PS) (l:Str):Option PS:=match fieldsB l with
 | []=>some s
 | k::r =>
  if k=bH then
   (if s.last = []∧r.length=3 then (match dN r with|some xs=>some { s with G:=xs.getD 0 0,P:=xs.getD 1 0,L:=xs.getD 2 0,last:=k } | none=>none) else none)
  else if k=aS then
   (if s.last ∈ [bH,aS]∧r.length=2 then (match dN r with|some xs=>some { s with ps:=s.ps ++ [(xs.getD 0 0,xs.getD 1 0)],last:=k } | none=>none) else none)
  else if k=bF then
   (if s.last ∈ [bH,aS,bF,bG] then (match dN r with|some xs=>some { s with fs:=s.fs ++ [(xs,[])],last:=k } | none=>none) else none)
  else if k=bG then
   (if s.last ∈ [bF,bG] then (match dN r with|some xs=>some { s with fs:=zx s.fs xs,last:=k } | none=>none) else none)
  else if k=cO then
   (if s.last ∉ [[],fH] then (match tV s r with|some u=>some { s with us:=s.us ++ [u],last:=k } | none=>none) else none)
  else if k=fH then
   (if s.last ∉ [[],fH]∧r.length=0 then some { s with last:=k } else none)
  else none
theorem Md {s s':PS} {l:Str} (h:iq s l=some s') (hs:s.last ∈ [bF,bG]→s.fs ≠ []):s'.last ∈ [bF,bG]→s'.fs ≠ []:=by
 unfold iq at h
 split at h
 ·cases h;exact hs
 split at h
 ·split at h
  ·split at h
   ·cases h;rename_i hk _ _ _ _;intro hm;simp [hk,bH,bF,bG] at hm
   cases h
  cases h
 split at h
 ·split at h
  ·split at h
   ·cases h;rename_i hk _ _ _ _;intro hm;simp [hk,aS,bF,bG] at hm
   cases h
  cases h
 split at h
 ·split at h
  ·split at h
   ·cases h;intro _;simp
   cases h
  cases h
 split at h
 ·split at h
  ·split at h
   ·cases h
    rename_i hl _ _ _
    intro _
    have:=hs hl
    simp only [zx]
    cases hg:s.fs.getLast? with
    | none=>exact absurd (List.getLast?_eq_none_iff.1 hg) this
    | some f=>simp
   cases h
  cases h
 split at h
 ·split at h
  ·split at h
   ·cases h;rename_i hk _ _ _ _;intro hm;simp [hk,cO,bF,bG] at hm
   cases h
  cases h
 split at h
 ·split at h
  ·cases h;rename_i hk _;intro hm;simp [hk,fH,bF,bG] at hm
  cases h
 cases h
open Go Go.E RowKit
def pu0:PU:=⟨[],0,[],[],[],false⟩
structure FaO (Q:Nat→Prop) (W:World) (v:FaV) (f:List Int × List (List Int)):Prop where
 ox:v.o.xs=f.1
 oi:dJ Q W v.o.v f.1
 hx:v.hs.map (·.xs)=f.2
 hv:AV Q W 30 1 v.hv v.hs.length (aJ v.hs)
 ri:∀ h∈v.hs,dJ Q W h.v h.xs
structure UnO (Q:Nat→Prop) (W:World) (v:UnV) (u:PU):Prop where
 nm:v.nm=u.nm
 pp:v.pp=u.pp
 gs:v.gs=u.gs
 vs:v.vs=u.vs
 qs:v.ps=u.qs
 wt:v.wt=u.wt
 gi:dJ Q W v.gv u.gs
 vi:dJ Q W v.vv u.vs
 qi:dJ Q W v.pv u.qs
theorem FaO.stay {Q Q':Nat→Prop} {W W':World} {v:FaV} {f:List Int × List (List Int)} (h:FaO Q W v f) (hk:∀ k cs t,Q k→Blk W k cs t→Q' k∧Blk W' k cs t):FaO Q' W' v f :=
 ⟨h.ox,h.oi.stay fun k cs q b=>hk k cs _ q b,h.hx,h.hv.stay fun k cs q _ b=>hk k cs _ q b,fun x hx=>(h.ri x hx).stay fun k cs q b=>hk k cs _ q b⟩
theorem UnO.stay {Q Q':Nat→Prop} {W W':World} {v:UnV} {u:PU} (h:UnO Q W v u) (hk:∀ k cs,Q k→Blk W k cs 3→Q' k∧Blk W' k cs 3):UnO Q' W' v u :=
 ⟨h.nm,h.pp,h.gs,h.vs,h.qs,h.wt,h.gi.stay hk,h.vi.stay hk,h.qi.stay hk⟩
structure RdD where
 pv:Value
 fv:Value
 uv:Value
 vs:List FaV
 us:List UnV
def aG (d:RdD) (s:PS):List Value:=[d.pv,d.fv,.int .i64 s.G,.int .i64 s.P,.int .i64 s.L,d.uv,str s.last]
def RdQ (w0:World) (b:Nat) (S:Nat→Prop) (k:Nat):Prop:=w0.heap.size≤k∧k≠b∧¬ S k
structure RdK (w0:World) (b:Nat) (d:RdD) (s:PS) (S:Nat→Prop) (W:World):Prop where
 e:Ext w0 W
 lo:w0.heap.size≤b
 row:Blk W b (aG d s) 129
 pts:AV (RdQ w0 b S) W 124 2 d.pv s.ps.length (pcs s.ps)
 fsr:AV (RdQ w0 b S) W 127 2 d.fv d.vs.length (dI d.vs)
 fsl:d.vs.length=s.fs.length
 fa:∀ i,i<d.vs.length→FaO (RdQ w0 b S) W (d.vs.getD i f0) (s.fs.getD i ([],[]))
 sep:∀ i,i+1<d.vs.length→∀ k,(d.vs.getD (d.vs.length-1) f0).hv.ownBlock=some k→(d.vs.getD i f0).hv.ownBlock≠some k
 usr:AV (RdQ w0 b S) W 51 6 d.uv d.us.length (eH d.us)
 usl:d.us.length=s.us.length
 un:∀ i,i<d.us.length→UnO (RdQ w0 b S) W (d.us.getD i u0) (s.us.getD i pu0)
 big:(-1000000000≤s.G∧s.G≤1000000000)∧(-1000000000≤s.P∧s.P≤1000000000) ∧ -1000000000≤s.L∧s.L≤1000000000
 S:∀ k,S k→w0.heap.size≤k∧k<W.heap.size∧k≠b
theorem RdK.stay {w0:World} {b:Nat} {d:RdD} {s:PS} {S S':Nat→Prop} {W W':World} (h:RdK w0 b d s S W) (he:Ext w0 W') (hb:Blk W' b (aG d s) 129) (hS:∀ k,S' k→w0.heap.size≤k∧k<W'.heap.size∧k≠b)
  (hk:∀ k cs t,RdQ w0 b S k→Blk W k cs t→RdQ w0 b S' k∧Blk W' k cs t):RdK w0 b d s S' W' :=
 ⟨he,h.lo,hb,h.pts.stay fun k cs q _ B=>hk k cs _ q B,h.fsr.stay fun k cs q _ B=>hk k cs _ q B,h.fsl,fun i hi=>(h.fa i hi).stay hk,h.sep,h.usr.stay fun k cs q _ B=>hk k cs _ q B,h.usl,fun i hi=>(h.un i hi).stay fun k cs q B=>hk k cs _ q B,h.big,hS⟩
theorem RdK.ext {w0:World} {b:Nat} {d:RdD} {s:PS} {S:Nat→Prop} {W W':World} (h:RdK w0 b d s S W) (k:Ext W W'):RdK w0 b d s S W' :=
 h.stay (h.e.trans k) (Blk.ext (cs:=aG d s) h.row k) (fun j hj=>by obtain ⟨a1,a2,a3⟩:=h.S j hj;exact ⟨a1,Nat.lt_of_lt_of_le a2 k.size,a3⟩) fun j cs t q B=>⟨q,Blk.ext B k⟩
def RdI (w0:World) (b:Nat) (s:PS) (S:Nat→Prop) (W:World):Prop:=∃ d,RdK w0 b d s S W
theorem RdI.EL (w0:World) (b:Nat):zf (RdI w0 b):=by
 refine ⟨?_,?_⟩
 ·rintro s S S' W W' ⟨d,h⟩ k hS
  have hlt:=Blk.lt (cs:=aG d s) h.row
  refine ⟨d,h.stay (h.e.trans k) (Blk.ext (cs:=aG d s) h.row k) (fun j hj=>?_) fun j cs t q B=>⟨⟨q.1,q.2.1,fun hj=>?_⟩,Blk.ext B k⟩⟩
  ·rcases hS j hj with h1|⟨h1,h2⟩
   ·obtain ⟨a1,a2,a3⟩:=h.S j h1
    exact ⟨a1,Nat.lt_of_lt_of_le a2 k.size,a3⟩
   have:=h.e.size
   exact ⟨by omega,h2,by omega⟩
  rcases hS j hj with h1|⟨h1,_⟩
  ·exact q.2.2 h1
  have:=B.lt;omega
 rintro s S W W' j ⟨d,h⟩ hj k
 obtain ⟨a1,a2,a3⟩:=h.S j hj
 refine ⟨d,h.stay (h.e.upd k (.inr a1)) (Blk.upd (cs:=aG d s) h.row k (Ne.symm a3)) (fun i hi=>by rw [k.size];exact h.S i hi) fun i cs t q B=>⟨q,Blk.upd B k (fun e=>q.2.2 (by rw [e];exact hj))⟩⟩
theorem RdI.Me {w0:World} {b:Nat} {s:PS} {S:Nat→Prop} {W:World} (h:RdI w0 b s S W):Ext w0 W:=by obtain ⟨d,h⟩:=h;exact h.e
def Rj (s:PS) (j:Nat):Prop:=s.ps.length≤j∧s.fs.length≤j∧s.us.length≤j∧∀ f∈s.fs,f.2.length≤j
theorem Rj.more {s:PS} {j:Nat} (h:Rj s j):Rj s (j+1):=⟨by have:=h.1;omega,by have:=h.2.1;omega,by have:=h.2.2.1;omega,fun f hf=>by have:=h.2.2.2 f hf;omega⟩
theorem Rj.step {s s':PS} {l:Str} {j:Nat} (h:Rj s j) (hs:iq s l=some s'):Rj s' (j+1):=by
 obtain ⟨h1,h2,h3,h4⟩:=h
 unfold iq at hs
 split at hs
 ·cases hs;exact Rj.more ⟨h1,h2,h3,h4⟩
 split at hs
 ·split at hs
  ·split at hs
   ·cases hs;exact Rj.more ⟨h1,h2,h3,h4⟩
   cases hs
  cases hs
 split at hs
 ·split at hs
  ·split at hs
   ·cases hs;exact ⟨by simp;omega,by simp only;omega,by simp only;omega,fun f hf=>by have:=h4 f hf;omega⟩
   cases hs
  cases hs
 split at hs
 ·split at hs
  ·split at hs
   ·cases hs
    refine ⟨by simp only;omega,by simp;omega,by simp only;omega,fun f hf=>?_⟩
    rcases List.mem_append.1 hf with hf|hf
    ·have:=h4 f hf;omega
    rw [List.mem_singleton.1 hf];simp
   cases hs
  cases hs
 split at hs
 ·split at hs
  ·split at hs
   ·cases hs
    rename_i xs _
    refine ⟨by simp only;omega,?_,by simp only;omega,fun f hf=>?_⟩
    ·simp only [zx]
     cases hg:s.fs.getLast? with
     | none=>simp only;omega
     | some f=>simp;omega
    simp only [zx] at hf
    cases hg:s.fs.getLast? with
    | none=>rw [hg] at hf;have:=h4 f hf;omega
    | some g =>
     rw [hg] at hf
     simp only [List.mem_append,List.mem_singleton] at hf
     rcases hf with hf|hf
     ·have:=h4 f ((List.dropLast_sublist _).subset hf);omega
     have:=h4 g (List.mem_of_getLast? hg)
     rw [hf];simp;omega
   cases hs
  cases hs
 split at hs
 ·split at hs
  ·split at hs
   ·cases hs;exact ⟨by simp only;omega,by simp only;omega,by simp;omega,fun f hf=>by have:=h4 f hf;omega⟩
   cases hs
  cases hs
 split at hs
 ·split at hs
  ·cases hs;exact Rj.more ⟨h1,h2,h3,h4⟩
  cases hs
 cases hs
open Go Go.E RowKit
def pR (sz:Nat):Value→Nat→Nat→Value
 | .slice oa _ cap,l,h=>.slice (if cap=l then oa else oa.map (·.add (l*sz))) (h-l) (cap-l)
 | v,_,_=>v
theorem Kr {lo:Nat} {w:World} {v:Value} {n l h sz:Nat} {cs:List Value} (hv:Sl lo w v n sz cs) (h1:l≤h) (h2:h≤n):Sl lo w (pR sz v l h) (h-l) sz ((cs.drop (l*sz)).take ((h-l)*sz)):=by
 obtain ⟨hl,oa,cap,rfl,hc,hm,hr⟩:=hv
 refine ⟨?_,_,cap-l,rfl,by omega,by omega,?_⟩
 ·rw [List.length_take,List.length_drop,hl]
  refine Nat.min_eq_left ?_
  rw [← Nat.sub_mul];exact Nat.mul_le_mul_right _ (by omega)
 rcases hr with hr|⟨ad,e1,e2,e3⟩
 ·left;omega
 by_cases hc2:cap=l
 ·left;omega
 refine .inr ⟨ad.add (l*sz),by rw [if_neg hc2,e1];rfl,by rw [add_block];exact e2,(e3.drop _).take _⟩
theorem O.Va {C:Cx} {e:Env} {w w₁:World} {K:Value→World→Prop} {d:Option Tmp} {ty:TypeId} {pos:String} {aft:Array Edge} {g:Option (Nat × Bool)} {x y z:Operand} {t:TypeId} {v:Value} {n sz lo l h:Nat} {cs:List Value} {el:TypeId} (hu:∀ w,(underlying t).run C.P w = .ok (.slice el) w) (hs:∀ w,(sizeOf el).run C.P w = .ok sz w) (hx:ev e x=some v) (hy:ev e y=some (.int .i64 l)) (hz:ev e z=some (.int .i64 h))
  (hv:Sl lo w₁ v n sz cs) (h1:l≤h) (h2:h≤n) (hk:K (pR sz v l h) w):O C e ⟨d,.slice t x (some y) (some z) none,ty,pos,aft,g⟩ w K:=by
 obtain ⟨hl,oa,cap,rfl,hc,hm,hr⟩:=hv
 exact O.of_run (by simp) (fun a ha=>by
  simp [execOp,Instr.sliceAt,Instr.slice,Instr.sliceBounds,Instr.sliceBound,asIntOf,ha.eval hx,ha.eval hy,ha.eval hz,hu w,hs w,h1,show h≤cap by omega]
  rfl) hk
theorem O.jk {C:Cx} {e:Env} {w w₁:World} {K:Value→World→Prop} {d:Option Tmp} {ty:TypeId} {pos:String} {aft:Array Edge} {g:Option (Nat × Bool)} {x y:Operand} {t:TypeId} {v:Value} {n sz lo l:Nat} {cs:List Value} {el:TypeId} (hu:∀ w,(underlying t).run C.P w = .ok (.slice el) w) (hs:∀ w,(sizeOf el).run C.P w = .ok sz w) (hx:ev e x=some v) (hy:ev e y=some (.int .i64 l))
  (hv:Sl lo w₁ v n sz cs) (h1:l≤n) (hk:K (pR sz v l n) w):O C e ⟨d,.slice t x (some y) none none,ty,pos,aft,g⟩ w K:=by
 obtain ⟨hl,oa,cap,rfl,hc,hm,hr⟩:=hv
 exact O.of_run (by simp) (fun a ha=>by
  simp [execOp,Instr.sliceAt,Instr.slice,Instr.sliceBounds,Instr.sliceBound,asIntOf,ha.eval hx,ha.eval hy,hu w,hs w,h1]
  rfl) hk
theorem PZ {s:Str} : ∀ w∈fieldsB s,w.length≤100000∨s.length > 100000:=fun w hw=>by
 rcases Nat.lt_or_ge 100000 s.length with h|h
 ·exact .inr h
 refine .inl ?_
 simp only [fieldsB,List.mem_map,Lib.goFieldsP] at hw
 obtain ⟨x,⟨y,_,rfl⟩,rfl⟩:=hw
 have:(ByteArray.extract ⟨s.toArray⟩ y.1 y.2).data.toList.length≤s.length:=by
  simp [ByteArray.data_extract];omega
 omega
theorem P5 (w0:World) (b:Nat) (s:PS) (S:Nat→Prop) (l:Str) (w:World) (hI:RdI w0 b s S w) (hl:l.length≤100000) (hf:fieldsB l = []) :
  Calls Tryz.prog 67 #[.pointer (some ⟨b,0,none⟩),str l] w (Ret fun v w'=>RdI w0 b s S w'∧∀ k,S k→w'.heap[k]?=w.heap[k]?):=by
 refine T.enter (vs:=[.pointer (some ⟨b,0,none⟩),str l]) func67 rfl ntmps67 rfl ?_
 refine T.q (L.m rfl (L.o (O.call (xs:=[.tmp 10,.func 121]) call120 rfl rfl (aQ l w hl) (fun v1 w1 hq=>?_))))
 obtain ⟨A,rfl,hS1,he1⟩:=hq
 rw [hf]
 rw [hf] at hS1
 refine L.a rfl (L.nil (T.seq (T.q (L.m rfl (L.o (O.len runUnderlying61 rfl (Sl.val hS1) (L.o (O.iW rfl rfl (by simp) (L.nil (T.ct (T.aax results67 ⟨?_,fun k hk=>?_⟩)))))))))))
 ·obtain ⟨d,h⟩:=hI;exact ⟨d,h.ext he1⟩
 obtain ⟨d,h⟩:=hI;exact he1.block k (Nat.zero_le _) (h.S k hk).2.1
theorem bC {lo A:Nat} {w:World} {k:Str} {r:List Str} {n:Nat} (h:Strs lo w (.slice (some ⟨A,0,none⟩) n n) (k::r)) (hn:n=r.length+1):Strs lo w (pR 1 (.slice (some ⟨A,0,none⟩) n n) 1 n) r:=by
 subst hn
 have:=Kr (l:=1) (h:=r.length+1) (h:Sl lo w _ _ _ _) (by omega) (Nat.le_refl _)
 have e:(((k::r).map str).drop (1*1)).take ((r.length+1-1)*1)=r.map str:=by simp;exact List.take_of_length_le (by simp)
 rw [e,show r.length+1-1=r.length by omega] at this
 exact this
theorem RdK.setLast {w0:World} {b:Nat} {d:RdD} {s:PS} {S:Nat→Prop} {W W':World} (h:RdK w0 b d s S W) {k:Str} (hu:Upd b W W') (hB:Blk W' b ((aG d s).set 6 (str k)) 129):RdK w0 b d { s with last:=k } S W':=by
 have h1:=h.stay (S':=S) (W':=W) h.e h.row h.S (fun j cs t q B=>⟨q,B⟩)
 have hk:∀ j cs t,RdQ w0 b S j→Blk W j cs t→RdQ w0 b S j∧Blk W' j cs t:=fun j cs t q B=>⟨q,Blk.upd B hu q.2.1⟩
 exact ⟨h.e.upd hu (.inr h.lo),h.lo,hB,h.pts.stay fun k cs q _ B=>hk k cs _ q B,h.fsr.stay fun k cs q _ B=>hk k cs _ q B,h.fsl,fun i hi=>(h.fa i hi).stay hk,h.sep,h.usr.stay fun k cs q _ B=>hk k cs _ q B,h.usl,fun i hi=>(h.un i hi).stay fun k cs q B=>hk k cs _ q B,h.big,fun j hj=>by rw [hu.size];exact h.S j hj⟩
theorem TS (w0:World) (b:Nat) (s:PS) (S:Nat→Prop) (l:Str) (w:World) (hI:RdI w0 b s S w) (hl:l.length≤100000) (hf:fieldsB l = [fH]) (hlast:s.last ∉ [[],fH]) :
  Calls Tryz.prog 67 #[.pointer (some ⟨b,0,none⟩),str l] w (Ret fun v w'=>RdI w0 b { s with last:=fH } S w'∧∀ k,S k→w'.heap[k]?=w.heap[k]?):=by
 refine T.enter (vs:=[.pointer (some ⟨b,0,none⟩),str l]) func67 rfl ntmps67 rfl ?_
 refine T.q (L.m rfl (L.o (O.call (xs:=[.tmp 10,.func 121]) call120 rfl rfl (aQ l w hl) (fun v1 w1 hq=>?_))))
 obtain ⟨A,rfl,hS1,he1⟩:=hq
 obtain ⟨d,hK⟩:=hI
 have hK1:=hK.ext he1
 rw [hf]
 rw [hf] at hS1
 refine L.a rfl (L.nil (T.seq (T.q (L.m rfl (L.o (O.len runUnderlying61 rfl (Sl.val hS1) (L.o (O.dY rfl rfl (by simp) (L.nil (T.cf (T.skip (T.seq (?_)))))))))))))
 refine T.dL mixed 6 [4] rfl [.is _,.is _,.is _,.is _,.is _,.is _] [[],[0],[1],[],[3],[2]] [[],[0],[0,1],[],[3],[0,1,2],[0,1,2,3,4,5]] (by kernel_rfl) (by kernel_rfl) rfl (by kernel_rfl) trivial ⟨fun wx hx=>Ob.o (O.move rfl kR),
   fun wx hx=>Ob.o (O.indexAddr runUnderlying61 sizeOf9 rfl rfl (hS1.ext hx) (by decide) (by simp) kR),
   fun wx hx=>Ob.o (O.load isAgg9 rfl ((hS1.ext hx).at (show 0<([fH]:List Str).length by decide)) kR),
   fun wx hx=>Ob.o (O.move rfl kR),
   fun wx hx=>Ob.o (O.jk (l:=1) runUnderlying61 sizeOf9 rfl rfl hS1 (by simp) kR),
   fun wx hx=>Ob.o (O.assign rfl kR),
   trivial⟩ (fun w2 he2=>?_)
 have hR2:=bC (hS1.ext he2) rfl
 refine L.a rfl (L.nil (T.seq (T.q (L.m rfl (L.nil (T.block (T.q (L.o (O.aA runUnderlying9 rfl rfl (by decide) (L.a rfl (L.nil (T.cf (T.q (L.o (O.aA runUnderlying9 rfl rfl (by decide) (L.a rfl (L.nil (T.cf (T.q (L.o (O.aA runUnderlying9 rfl rfl (by decide) (L.a rfl (?_)))))))))))))))))))))))
 refine L.nil (T.cf (T.q (L.o (O.aA runUnderlying9 rfl rfl (by decide) (L.a rfl (L.nil (T.cf (T.q (L.o (O.aA runUnderlying9 rfl rfl (by decide) (L.a rfl (L.nil (T.cf (T.q (L.o (O.aY runUnderlying9 rfl rfl rfl (L.a rfl (L.nil (T.ct (T.region (L.m rfl (L.o (O.buildSlice (el:=9) (parts:=[(0,_),(1,_)]) (vs:=[(0,_),(1,_)]) (cs:=([[],fH].map str)) rfl (fun w=>by kernel_rfl) (fun afr Zz ZA ZB zy P6=>?_))))))))))))))))))))))))
 have WV:=(hK1.ext he2).ext zy
 refine L.o (O.call (xs:=[.tmp 158,.tmp 159]) call68 rfl rfl (aX 0 _ [[],fH] b (aG d s) s.last Zz (Strs.ay P6 rfl (by decide) (Nat.zero_le _)) WV.row rfl) (fun v160 aip hq=>?_))
 obtain ⟨rfl,rfl⟩:=hq
 rw [decide_eq_false hlast]
 refine L.o (O.not rfl (L.m rfl (L.m rfl (L.o (O.len runUnderlying61 rfl (Sl.val (hR2.ext zy)) (L.o (O.iW rfl rfl (by simp) (L.o (O.aj rfl rfl (L.o (O.call (xs:=[.tmp 166]) call108 rfl rfl (dF aip) (fun v167 akN hq=>?_))))))))))))
 obtain rfl:=hq
 refine L.nil (T.blk (T.region (L.m rfl (L.m rfl (L.o (O.nilCheck rfl (L.o (O.fieldAddr runUnderlying129 rfl sizeOf9 rfl (L.o (O.bf sizeOf9 rfl rfl rfl WV.row (by simp [aG]) (fun GZ iJ yw=>?_)))))))))))
 refine L.nil (T.Nw results67 ⟨⟨d,WV.setLast iJ yw⟩,fun k hk=>?_⟩)
 have h3:=hK.S k hk
 have z1:=he1.size
 have z2:=he2.size
 exact (iJ.block k h3.2.2).trans ((zy.block k (Nat.zero_le _) (by omega)).trans ((he2.block k (Nat.zero_le _) (by omega)).trans (he1.block k (Nat.zero_le _) h3.2.1)))
open Go Go.E RowKit
def I7 (w:World) (b:Nat) (t:TypeId) (rows:List (List Value)) (c:Nat) (W:World):Prop:=dA (some b) w W∧Blk W b (rows.getD c []) t
theorem I7.start {w W:World} {b:Nat} {t:TypeId} {row:List Value} {rows:List (List Value)} (h:Blk w b row t) (k:Ext w W):I7 w b t (row::rows) 0 W:=⟨.aW k,Blk.ext h k⟩
theorem I7.next {w W W':World} {b c:Nat} {t:TypeId} {rows:List (List Value)} (h:I7 w b t rows c W) (hu:Upd b W W') {row:List Value} (hB:Blk W' b row t) (hr:rows.getD (c+1) []=row):I7 w b t rows (c+1) W' :=
 ⟨h.1.trans ⟨hu.os,hu.tape,hu.output,Nat.le_of_eq hu.size.symm,fun k _ hk=>hu.block k (fun e=>hk (by rw [e]))⟩,by rw [hr];exact hB⟩
theorem I7.ints {w W:World} {b c:Nat} {t:TypeId} {rows:List (List Value)} (h:I7 w b t rows c W) {v:Value} {xs:List Int} {Q:Nat→Prop} (hI:dJ Q w v xs) (hQ:∀ k,Q k→k≠b):Ints .i64 0 W v xs :=
 (hI.stay (Q':=Q) fun k cs q B=>⟨q,h.1.blk B (fun e=>hQ k q (by cases e;rfl))⟩).ints
def P7 (s:PS) (xs:List Int):PS:={ s with G:=xs.getD 0 0,P:=xs.getD 1 0,L:=xs.getD 2 0,last:=bH }
theorem RdK.WW {w0:World} {b:Nat} {d:RdD} {s:PS} {S:Nat→Prop} {W W':World} (h:RdK w0 b d s S W) {xs:List Int} (hb:(-1000000000≤xs.getD 0 0∧xs.getD 0 0≤1000000000)∧(-1000000000≤xs.getD 1 0∧xs.getD 1 0≤1000000000) ∧ -1000000000≤xs.getD 2 0∧xs.getD 2 0≤1000000000)
  (hu:dA (some b) W W') (hB:Blk W' b (aG d (P7 s xs)) 129):RdK w0 b d (P7 s xs) S W':=by
 have hk:∀ j cs t,RdQ w0 b S j→Blk W j cs t→RdQ w0 b S j∧Blk W' j cs t:=fun j cs t q B=>⟨q,hu.blk B (fun e=>q.2.1 (by cases e;rfl))⟩
 exact ⟨hu.ext h.e (fun k e=>by cases e;exact h.lo),h.lo,hB,h.pts.stay fun k cs q _ B=>hk k cs _ q B,h.fsr.stay fun k cs q _ B=>hk k cs _ q B,h.fsl,fun i hi=>(h.fa i hi).stay hk,h.sep,h.usr.stay fun k cs q _ B=>hk k cs _ q B,h.usl,fun i hi=>(h.un i hi).stay fun k cs q B=>hk k cs _ q B,hb,fun j hj=>by obtain ⟨a1,a2,a3⟩:=h.S j hj;exact ⟨a1,Nat.lt_of_lt_of_le a2 hu.size,a3⟩⟩
theorem Dw:∀ (ws:List Str) (xs:List Int),dN ws=some xs→∀ i,i<xs.length → -1000000000≤xs.getD i 0∧xs.getD i 0≤1000000000:=fun ws xs h i hi=>by
 obtain ⟨h1,h2⟩:=jq ws xs h
 exact (tN (h2 i (by omega))).2.2
theorem bZ {l:Str} {k:Str} {r:List Str} (hl:l.length≤100000) (hf:fieldsB l=k::r):∀ x∈r,x.length≤100000:=fun x hx=>by
 rcases PZ (s:=l) x (by rw [hf];exact List.mem_cons_of_mem _ hx) with h|h
 ·exact h
 omega
set_option maxHeartbeats 1000000 in
theorem P8 (w0:World) (b:Nat) (s:PS) (S:Nat→Prop) (l:Str) (r:List Str) (xs:List Int) (w:World) (hI:RdI w0 b s S w) (hL:ji w) (hl:l.length≤100000) (hf:fieldsB l=bH::r) (hlast:s.last = []) (h3:r.length=3) (hn:dN r=some xs) :
  Calls Tryz.prog 67 #[.pointer (some ⟨b,0,none⟩),str l] w (Ret fun v w'=>RdI w0 b (P7 s xs) S w'∧∀ k,S k→w'.heap[k]?=w.heap[k]?):=by
 refine T.enter (vs:=[.pointer (some ⟨b,0,none⟩),str l]) func67 rfl ntmps67 rfl ?_
 refine T.q (L.m rfl (L.o (O.call (xs:=[.tmp 10,.func 121]) call120 rfl rfl (aQ l w hl) (fun v1 w1 hq=>?_))))
 obtain ⟨A,rfl,hS1,he1⟩:=hq
 obtain ⟨d,hK⟩:=hI
 have hK1:=hK.ext he1
 rw [hf]
 rw [hf] at hS1
 have hx3:xs.length=3:=by rw [← (jq r xs hn).1];exact h3
 refine L.a rfl (L.nil (T.seq (T.q (L.m rfl (L.o (O.len runUnderlying61 rfl (Sl.val hS1) (L.o (O.dY rfl rfl (by simp;omega) (L.nil (T.cf (T.skip (T.seq (?_)))))))))))))
 refine T.dL mixed 6 [4] rfl [.is _,.is _,.is _,.is _,.is _,.is _] [[],[0],[1],[],[3],[2]] [[],[0],[0,1],[],[3],[0,1,2],[0,1,2,3,4,5]] (by kernel_rfl) (by kernel_rfl) rfl (by kernel_rfl) trivial ⟨fun wx hx=>Ob.o (O.move rfl kR),
   fun wx hx=>Ob.o (O.indexAddr runUnderlying61 sizeOf9 rfl rfl (hS1.ext hx) (by decide) (by simp) kR),
   fun wx hx=>Ob.o (O.load isAgg9 rfl ((hS1.ext hx).at (show 0<(bH::r).length by simp)) kR),
   fun wx hx=>Ob.o (O.move rfl kR),
   fun wx hx=>Ob.o (O.jk (l:=1) runUnderlying61 sizeOf9 rfl rfl hS1 (by simp) kR),
   fun wx hx=>Ob.o (O.assign rfl kR),
   trivial⟩ (fun w2 he2=>?_)
 have hR2:=bC (hS1.ext he2) rfl
 refine L.a rfl (L.nil (T.seq (T.q (L.m rfl (L.nil (T.block (T.q (L.o (O.aY runUnderlying9 rfl rfl rfl (L.a rfl (L.nil (T.ct (T.q (L.m rfl (L.o (O.buildSlice (el:=9) (parts:=[(0,_)]) (vs:=[(0,_)]) (cs:=([[]].map str)) rfl (fun w=>by kernel_rfl) (fun b25 w25 adf adg zA yZ=>?_)))))))))))))))))
 have pU:=(hK1.ext he2).ext zA
 refine L.o (O.call (xs:=[.tmp 24,.tmp 25]) call68 rfl rfl (aX 0 _ [[]] b (aG d s) s.last w25 (Strs.ay yZ rfl (by decide) (Nat.zero_le _)) pU.row rfl) (fun v26 w26 hq=>?_))
 obtain ⟨rfl,rfl⟩:=hq
 rw [decide_eq_true (show s.last ∈ [[]] by rw [hlast];simp)]
 refine L.m rfl (L.m rfl (L.o (O.len runUnderlying61 rfl (Sl.val (hR2.ext zA)) (L.o (O.iW rfl rfl (by omega) (L.o (O.aj rfl rfl (L.o (O.call (xs:=[.tmp 31]) call108 rfl rfl (dF w26) (fun v32 w32 hq=>?_))))))))))
 obtain rfl:=hq
 have WX:=(he1.trans he2).trans zA
 refine L.nil (T.q (L.m rfl (L.o (O.call (xs:=[.tmp 33]) call122 rfl rfl (jB _ _ r xs w32 (hR2.ext zA) (hL.ext WX) (bZ hl hf) hn (by omega)) (fun v34 w34 hq=>?_)))))
 obtain ⟨Om,LD⟩:=hq
 have afs:=pU.ext LD
 have hz:=pU.e.size
 have Yd:dJ (fun k ↦ w32.heap.size≤k) w34 v34 xs:=dJ.aU Om (fun k h _ ↦ h)
 have akO:=Blk.lt (cs:=aG d s) pU.row
 refine L.a rfl (L.nil (?_))
 refine T.any mixed 22 2 [0,7] rfl [.is _,.is _,.is _,.is _,.is _,.is _,.is _,.is _,.is _,.is _,.is _,.is _,.is _,.is _,.is _,.is _,.is undef,.is _,.is _,.is _,.is _,.is undef] [[],[],[],[],[3],[4],[],[6],[7],[],[9],[10],[0],[12],[13],[14],[15,5],[1],[17],[18],[19],[20,8]] [none,none,none,none,none,none,none,none,none,none,none,none,none,none,none,none,some 0,none,none,none,none,some 1] [[],[],[],[],[3],[3,4],[],[6],[6,7],[],[9],[9,10],[0,3,4,5,6,7,8,9,10,11],[0,3,4,5,6,7,8,9,10,11,12],[0,3,4,5,6,7,8,9,10,11,12,13],[0,3,4,5,6,7,8,9,10,11,12,13,14],[0,3,4,5,6,7,8,9,10,11,12,13,14,15],[0,1,3,4,5,6,7,8,9,10,11,12,13,14,15,16],[0,1,3,4,5,6,7,8,9,10,11,12,13,14,15,16,17],[0,1,3,4,5,6,7,8,9,10,11,12,13,14,15,16,17,18],[0,1,3,4,5,6,7,8,9,10,11,12,13,14,15,16,17,18,19],[0,1,3,4,5,6,7,8,9,10,11,12,13,14,15,16,17,18,19,20],[0,1,2,3,4,5,6,7,8,9,10,11,12,13,14,15,16,17,18,19,20,21],[0,1,2,3,4,5,6,7,8,9,10,11,12,13,14,15,16,17,18,19,20,21,22],[0,1,2,3,4,5,6,7,8,9,10,11,12,13,14,15,16,17,18,19,20,21,22,23],[0,1,2,3,4,5,6,7,8,9,10,11,12,13,14,15,16,17,18,19,20,21,22,23,24],[0,1,2,3,4,5,6,7,8,9,10,11,12,13,14,15,16,17,18,19,20,21,22,23,24,25]] (I7 w34 b 129 [aG d s,(aG d s).set 2 (.int .i64 (xs.getD 0 0)),((aG d s).set 2 (.int .i64 (xs.getD 0 0))).set 3 (.int .i64 (xs.getD 1 0))]) (fun _ _=>True) (by kernel_rfl) (by kernel_rfl) (by kernel_rfl) rfl trivial (I7.start afs.row (Keep.drew _ _)) ⟨fun c wx hx=>ObK.op rfl (O.move rfl ⟨⟨trivial,hx⟩,rfl⟩),
   fun c wx hx=>ObK.op rfl (O.move rfl ⟨⟨trivial,hx⟩,rfl⟩),
   fun c wx hx=>ObK.op rfl (O.move rfl ⟨⟨trivial,hx⟩,rfl⟩),
   fun c wx hx=>ObK.op rfl (O.move rfl ⟨⟨trivial,hx⟩,rfl⟩),
   fun c wx hx=>ObK.op rfl (O.indexAddr runUnderlying30 sizeOf3 rfl rfl (hx.ints Yd (fun k h ↦ by omega)) (by decide) (by show (0:Int)<xs.length;omega) ⟨⟨trivial,hx⟩,rfl⟩),
   fun c wx hx=>ObK.op rfl (O.load isAgg3 rfl (Ints.at (hx.ints Yd (fun k h ↦ by omega)) (show 0<xs.length by omega)) ⟨⟨trivial,hx⟩,rfl⟩),
   fun c wx hx=>ObK.op rfl (O.move rfl ⟨⟨trivial,hx⟩,rfl⟩),
   fun c wx hx=>ObK.op rfl (O.indexAddr runUnderlying30 sizeOf3 rfl rfl (hx.ints Yd (fun k h ↦ by omega)) (by decide) (by show (1:Int)<xs.length;omega) ⟨⟨trivial,hx⟩,rfl⟩),
   fun c wx hx=>ObK.op rfl (O.load isAgg3 rfl (Ints.at (hx.ints Yd (fun k h ↦ by omega)) (show 1<xs.length by omega)) ⟨⟨trivial,hx⟩,rfl⟩),
   fun c wx hx=>ObK.op rfl (O.move rfl ⟨⟨trivial,hx⟩,rfl⟩),
   fun c wx hx=>ObK.op rfl (O.indexAddr runUnderlying30 sizeOf3 rfl rfl (hx.ints Yd (fun k h ↦ by omega)) (by decide) (by show (2:Int)<xs.length;omega) ⟨⟨trivial,hx⟩,rfl⟩),
   fun c wx hx=>ObK.op rfl (O.load isAgg3 rfl (Ints.at (hx.ints Yd (fun k h ↦ by omega)) (show 2<xs.length by omega)) ⟨⟨trivial,hx⟩,rfl⟩),
   fun c wx hx=>ObK.op rfl (O.nilCheck rfl ⟨⟨trivial,hx⟩,rfl⟩),
   fun c wx hx=>ObK.op rfl (O.fieldAddr runUnderlying129 rfl sizeOf48 rfl ⟨⟨trivial,hx⟩,rfl⟩),
   fun c wx hx=>ObK.op rfl (O.fieldAddr runUnderlying48 rfl sizeOf25 rfl ⟨⟨trivial,hx⟩,rfl⟩),
   fun c wx hx=>ObK.op rfl (O.fieldAddr runUnderlying25 rfl sizeOf3 rfl ⟨⟨trivial,hx⟩,rfl⟩),
   fun wx hx=>ObK.op rfl (O.bf sizeOf3 rfl rfl rfl hx.2 (show (2:Nat)<7 by decide) (fun w50 aiq acW=>⟨⟨trivial,hx.next aiq acW rfl⟩,rfl⟩)),
   fun c wx hx=>ObK.op rfl (O.nilCheck rfl ⟨⟨trivial,hx⟩,rfl⟩),
   fun c wx hx=>ObK.op rfl (O.fieldAddr runUnderlying129 rfl sizeOf48 rfl ⟨⟨trivial,hx⟩,rfl⟩),
   fun c wx hx=>ObK.op rfl (O.fieldAddr runUnderlying48 rfl sizeOf25 rfl ⟨⟨trivial,hx⟩,rfl⟩),
   fun c wx hx=>ObK.op rfl (O.fieldAddr runUnderlying25 rfl sizeOf3 rfl ⟨⟨trivial,hx⟩,rfl⟩),
   fun wx hx=>ObK.op rfl (O.bf sizeOf3 rfl rfl rfl hx.2 (show (3:Nat)<7 by decide) (fun w54 air ais=>⟨⟨trivial,hx.next air ais rfl⟩,rfl⟩)),
   trivial⟩ (fun w8 hI8=>?_)
 obtain ⟨hB8,hR8⟩:=hI8
 refine L.o (O.nilCheck rfl (L.o (O.fieldAddr runUnderlying129 rfl sizeOf48 rfl (L.o (O.fieldAddr runUnderlying48 rfl sizeOf25 rfl (L.o (O.fieldAddr runUnderlying25 rfl sizeOf3 rfl (L.o (O.bf sizeOf3 rfl rfl rfl hR8 (show (4:Nat)<7 by decide) (fun w58 ZC SQ=>?_))))))))))
 refine L.nil (T.blk (T.region (L.m rfl (L.m rfl (L.o (O.nilCheck rfl (L.o (O.fieldAddr runUnderlying129 rfl sizeOf9 rfl (L.o (O.bf sizeOf9 rfl rfl rfl SQ (show (6:Nat)<7 by decide) (fun GZ iJ yw=>?_)))))))))))
 have hz32:=WX.size
 have hBO:dA (some b) w34 GZ:=hB8.trans ⟨iJ.os.trans ZC.os,iJ.tape.trans ZC.tape,iJ.output.trans ZC.output,Nat.le_of_eq ((iJ.size.trans ZC.size).symm),fun k _ hk ↦ (iJ.block k (fun e ↦ hk (congrArg some e.symm))).trans (ZC.block k (fun e ↦ hk (congrArg some e.symm)))⟩
 refine L.nil (T.Nw results67 ⟨⟨d,afs.WW ⟨Dw r xs hn 0 (by omega),Dw r xs hn 1 (by omega),Dw r xs hn 2 (by omega)⟩ hBO yw⟩,fun k hk=>?_⟩)
 have hs:=hK.S k hk
 have z1:=LD.size
 exact (hBO.block k (by omega) (fun e=>hs.2.2 (by cases e;rfl))).trans ((LD.block k (Nat.zero_le _) (by omega)).trans (WX.block k (Nat.zero_le _) hs.2.1))
open Go Go.E RowKit
def ZE (ob:Option Nat) (el:TypeId) (cs:List Value) (v:Value) (W:World):Prop:=∃ k,v = .slice (some ⟨k,0,none⟩) 1 1∧ob≠some k∧Blk W k cs el
theorem ZE.st {ob:Option Nat} {el:TypeId} {cs:List Value} : ∀ v w w',dA ob w w'→ZE ob el cs v w→ZE ob el cs v w':=fun _ _ _ h ⟨k,h1,h2,h3⟩=>⟨k,h1,h2,h.blk h3 h2⟩
def I8 (ob:Option Nat) (m:Nat) (el:TypeId) (sz n:Nat) (xs:List Value) (v:Value) (W:World):Prop:=W.ownsRow 0 el sz v n xs∧∀ k,v.ownBlock=some k→ob=some k∨m≤k
theorem I8.ext {ob:Option Nat} {m:Nat} {el:TypeId} {sz n:Nat} {xs:List Value} {v:Value} {W W':World} (h:I8 ob m el sz n xs v W) (k:Ext W W'):I8 ob m el sz n xs v W':=⟨aH h.1 k (Nat.zero_le _),h.2⟩
theorem I8.updB {ob:Option Nat} {m b:Nat} {el t:TypeId} {sz n:Nat} {xs cs:List Value} {v:Value} {W W':World} (h:I8 ob m el sz n xs v W) (k:Upd b W W') (hB:Blk W b cs t) (ht:el≠t):I8 ob m el sz n xs v W' :=
 ⟨(AV.stay (Q:=fun _=>True) (Q':=fun _=>True) ⟨h.1,fun _ _=>trivial⟩ fun j _ _ e B=>⟨trivial,Blk.upd B k (fun e2=>ng h.1 hB ht (by rw [e,e2]))⟩).1,h.2⟩
def G5 (w:World) (ob:Option Nat) (i:Nat) (G:Value→World→Prop) (_:Nat) (σ:Jw) (W:World):Prop:=(σ i=none∧Ext w W)∨∃ v,σ i=some v∧dA ob w W∧G v W
section
variable {w W W':World} {ob:Option Nat} {i c:Nat} {G:Value→World→Prop} {σ:Jw}
theorem G5.but (h:G5 w ob i G c σ W):dA ob w W:=by
 rcases h with ⟨_,h⟩|⟨v,_,h,_⟩
 ·exact .aW h
 exact h
theorem G5.Me (h:G5 w ob i G c σ W) (hn:σ i=none):Ext w W:=by
 rcases h with ⟨_,h⟩|⟨v,h,_⟩
 ·exact h
 rw [hn] at h;cases h
theorem G5.nop (h:G5 w ob i G c σ W) {k:Nat} {u:Value} (he:Ext W W') (hG:∀ v,G v W→G v W') (hi:k≠i):G5 w ob i G c (upV σ k u) W':=by
 rcases h with ⟨h1,h2⟩|⟨v,h1,h2,h3⟩
 ·exact .inl ⟨by rw [Jz _ _ hi];exact h1,h2.trans he⟩
 exact .inr ⟨v,by rw [Jz _ _ hi];exact h1,h2.trans (.aW he),hG v h3⟩
theorem G5.app {c':Nat} (h:G5 w ob i G c σ W) {u:Value} (hn:σ i=none) (hg:W.grownBy W' ob) (hG:G u W'):G5 w ob i G c' (upV σ i u) W':=.inr ⟨u,Jy _ _ _,(dA.aW (h.Me hn)).trans (.jh hg),hG⟩
theorem G5.done {u:Value} (h:G5 w ob i G c σ W) (hs:σ i=some u):dA ob w W∧G u W:=by
 rcases h with ⟨h1,_⟩|⟨v,h1,h2,h3⟩
 ·rw [hs] at h1;cases h1
 rw [hs] at h1;cases h1;exact ⟨h2,h3⟩
end
theorem yx {base n sz k:Nat} {el:TypeId} {W:World} {v:Value} {xs:List Value} (h:W.ownsRow base el sz v n xs) (e:v.ownBlock=some k):k<W.heap.size:=by
 rcases h.2 with ⟨h4,_⟩|⟨g,cap,cur,rfl,_,hg,_⟩
 ·subst h4;cases e
 cases e;exact (Array.getElem?_eq_some_iff.1 hg).1
def ru (s:PS) (xs:List Int):PS:={ s with ps:=s.ps ++ [(xs.getD 0 0,xs.getD 1 0)],last:=aS }
theorem RdK.TT {w0:World} {b:Nat} {d:RdD} {s:PS} {S:Nat→Prop} {W W':World} (h:RdK w0 b d s S W) {xs:List Int} {pv':Value} (hu:∀ k,k<W.heap.size→k≠b→d.pv.ownBlock≠some k→W'.heap[k]?=W.heap[k]?) (he:Ext w0 W') (hz:W.heap.size≤W'.heap.size)
  (hB:Blk W' b (aG { d with pv:=pv' } (ru s xs)) 129) (hP:I8 d.pv.ownBlock W.heap.size 124 2 (s.ps.length+1) (pcs s.ps++pC (xs.getD 0 0,xs.getD 1 0)) pv' W'):RdK w0 b { d with pv:=pv' } (ru s xs) S W':=by
 have hk:∀ j cs t,t≠124→RdQ w0 b S j→Blk W j cs t→RdQ w0 b S j∧Blk W' j cs t:=fun j cs t ht q B=>⟨q,(hu j B.lt q.2.1 (ng h.pts.1 B (Ne.symm ht))).trans B⟩
 have hkI:∀ k cs,RdQ w0 b S k→Blk W k cs 3→RdQ w0 b S k∧Blk W' k cs 3:=fun k cs q B=>hk k cs _ (by decide) q B
 refine ⟨he,h.lo,hB,⟨?_,fun k e=>?_⟩,h.fsr.stay fun k cs q _ B=>hk k cs _ (by decide) q B,h.fsl,fun i hi=>?_,h.sep,h.usr.stay fun k cs q _ B=>hk k cs _ (by decide) q B,h.usl,fun i hi=>(h.un i hi).stay hkI,h.big,fun j hj=>by obtain ⟨a1,a2,a3⟩:=h.S j hj;exact ⟨a1,Nat.lt_of_lt_of_le a2 hz,a3⟩⟩
 ·have e1:(ru s xs).ps.length=s.ps.length+1:=by simp [ru]
  have e2:pcs (ru s xs).ps=pcs s.ps++pC (xs.getD 0 0,xs.getD 1 0):=by simp [ru,pcs]
  rw [e1,e2];exact hP.1
 ·have hlt:=Blk.lt (cs:=aG d s) h.row
  have hz0:=h.e.size
  rcases hP.2 k e with h1|h1
  ·exact h.pts.2 k h1
  exact ⟨by omega,by omega,fun hk=>by have:=(h.S k hk).2.1;omega⟩
 have f:=h.fa i hi
 exact ⟨f.ox,f.oi.stay hkI,f.hx,f.hv.stay fun k cs q _ B=>hk k cs _ (by decide) q B,fun x hx=>(f.ri x hx).stay hkI⟩
set_option maxHeartbeats 1000000 in
theorem MB (w0:World) (b:Nat) (s:PS) (S:Nat→Prop) (l:Str) (r:List Str) (xs:List Int) (w:World) (hI:RdI w0 b s S w) (hL:ji w) (hl:l.length≤100000) (hf:fieldsB l=aS::r) (hlast:s.last ∈ [bH,aS]) (h3:r.length=2) (hn:dN r=some xs) (hc:s.ps.length≤100000) :
  Calls Tryz.prog 67 #[.pointer (some ⟨b,0,none⟩),str l] w (Ret fun v w'=>RdI w0 b (ru s xs) S w'∧∀ k,S k→w'.heap[k]?=w.heap[k]?):=by
 refine T.enter (vs:=[.pointer (some ⟨b,0,none⟩),str l]) func67 rfl ntmps67 rfl ?_
 refine T.q (L.m rfl (L.o (O.call (xs:=[.tmp 10,.func 121]) call120 rfl rfl (aQ l w hl) (fun v1 w1 hq=>?_))))
 obtain ⟨A,rfl,hS1,he1⟩:=hq
 obtain ⟨d,hK⟩:=hI
 have hK1:=hK.ext he1
 rw [hf]
 rw [hf] at hS1
 have hx3:xs.length=2:=by rw [← (jq r xs hn).1];exact h3
 refine L.a rfl (L.nil (T.seq (T.q (L.m rfl (L.o (O.len runUnderlying61 rfl (Sl.val hS1) (L.o (O.dY rfl rfl (by simp;omega) (L.nil (T.cf (T.skip (T.seq (?_)))))))))))))
 refine T.dL mixed 6 [4] rfl [.is _,.is _,.is _,.is _,.is _,.is _] [[],[0],[1],[],[3],[2]] [[],[0],[0,1],[],[3],[0,1,2],[0,1,2,3,4,5]] (by kernel_rfl) (by kernel_rfl) rfl (by kernel_rfl) trivial ⟨fun wx hx=>Ob.o (O.move rfl kR),
   fun wx hx=>Ob.o (O.indexAddr runUnderlying61 sizeOf9 rfl rfl (hS1.ext hx) (by decide) (by simp) kR),
   fun wx hx=>Ob.o (O.load isAgg9 rfl ((hS1.ext hx).at (show 0<(aS::r).length by simp)) kR),
   fun wx hx=>Ob.o (O.move rfl kR),
   fun wx hx=>Ob.o (O.jk (l:=1) runUnderlying61 sizeOf9 rfl rfl hS1 (by simp) kR),
   fun wx hx=>Ob.o (O.assign rfl kR),
   trivial⟩ (fun w2 he2=>?_)
 have hR2:=bC (hS1.ext he2) rfl
 refine L.a rfl (L.nil (T.seq (T.q (L.m rfl (L.nil (T.block (T.q (L.o (O.aA runUnderlying9 rfl rfl (show ¬ aS=bH by decide) (L.a rfl (L.nil (T.cf (T.q (L.o (O.aY runUnderlying9 rfl rfl rfl (L.a rfl (L.nil (T.ct (T.q (L.m rfl (L.o (O.buildSlice (el:=9) (parts:=[(0,_),(1,_)]) (vs:=[(0,_),(1,_)]) (cs:=([bH,aS].map str)) rfl (fun w=>by kernel_rfl) (fun b62 w62 adh adi zB RV=>?_)))))))))))))))))))))))
 have pU:=(hK1.ext he2).ext zB
 refine L.o (O.call (xs:=[.tmp 61,.tmp 62]) call68 rfl rfl (aX 0 _ [bH,aS] b (aG d s) s.last w62 (Strs.ay RV rfl (by decide) (Nat.zero_le _)) pU.row rfl) (fun v63 w63 hq=>?_))
 obtain ⟨rfl,rfl⟩:=hq
 rw [decide_eq_true hlast]
 refine L.m rfl (L.m rfl (L.o (O.len runUnderlying61 rfl (Sl.val (hR2.ext zB)) (L.o (O.iW rfl rfl (by omega) (L.o (O.aj rfl rfl (L.o (O.call (xs:=[.tmp 68]) call108 rfl rfl (dF w63) (fun v69 w69 hq=>?_))))))))))
 obtain rfl:=hq
 have WY:=(he1.trans he2).trans zB
 refine L.nil (T.q (L.m rfl (L.o (O.call (xs:=[.tmp 70]) call122 rfl rfl (jB _ _ r xs w69 (hR2.ext zB) (hL.ext WY) (bZ hl hf) hn (by omega)) (fun v71 w71 hq=>?_)))))
 obtain ⟨ait,WZ⟩:=hq
 have MC:=pU.ext WZ
 have aiu:dJ (fun k ↦ w69.heap.size≤k) w71 v71 xs:=dJ.aU ait (fun k h _ ↦ h)
 have hint:∀ W,dA d.pv.ownBlock w71 W→Ints .i64 0 W v71 xs:=fun W h ↦ (aiu.stay (Q':=fun _ ↦ True) fun k cs q B ↦ ⟨trivial,h.blk B (ng MC.pts.1 B (by decide))⟩).ints
 have hpb:d.pv.ownBlock≠some b:=fun e ↦ (MC.pts.2 b e).2.1 rfl
 refine L.a rfl (L.nil (?_))
 refine T.aaz mixed 16 0 [0,8] rfl [.is _,.is _,.is _,.is _,.is _,.is _,.is _,.is _,.is _,.is _,.is _,.is _,.is _,.is _,.such (ZE d.pv.ownBlock 124 (pC (xs.getD 0 0,xs.getD 1 0))),.such (fun _ _=>True)] [[],[],[1],[2],[3],[4],[5],[],[7],[8],[],[10],[11],[9,12],[13],[6,14]] [none,none,none,none,none,none,none,none,none,none,none,none,none,none,none,none] [[],[],[1],[1,2],[1,2,3],[1,2,3,4],[1,2,3,4,5],[],[7],[7,8],[],[10],[10,11],[7,8,9,10,11,12],[7,8,9,10,11,12,13],[1,2,3,4,5,6,7,8,9,10,11,12,13,14],[0,1,2,3,4,5,6,7,8,9,10,11,12,13,14,15],[0,1,2,3,4,5,6,7,8,9,10,11,12,13,14,15,16],[0,1,2,3,4,5,6,7,8,9,10,11,12,13,14,15,16,17],[0,1,2,3,4,5,6,7,8,9,10,11,12,13,14,15,16,17,18],[0,1,2,3,4,5,6,7,8,9,10,11,12,13,14,15,16,17,18,19]] (G5 w71 d.pv.ownBlock 15 (I8 d.pv.ownBlock w71.heap.size 124 2 (s.ps.length+1) (pcs s.ps++pC (xs.getD 0 0,xs.getD 1 0)))) (dA d.pv.ownBlock) (by kernel_rfl) (by kernel_rfl) (by kernel_rfl) rfl ⟨ZE.st,fun _ _ _ _ _=>trivial,trivial⟩ (.inl ⟨rfl,Keep.drew _ _⟩) ⟨fun c σ wx hx hn hl=>ObG.op rfl (O.move rfl ⟨⟨dA.refl _ _,hx.nop (Keep.refl _ _) (fun _ g ↦ g) (by decide)⟩,rfl⟩),
   fun c σ wx hx hn hl=>ObG.op rfl (O.move rfl ⟨⟨dA.refl _ _,hx.nop (Keep.refl _ _) (fun _ g ↦ g) (by decide)⟩,rfl⟩),
   fun c σ wx hx hn hl=>ObG.op rfl (O.nilCheck rfl ⟨⟨dA.refl _ _,hx.nop (Keep.refl _ _) (fun _ g ↦ g) (by decide)⟩,rfl⟩),
   fun c σ wx hx hn hl=>ObG.op rfl (O.fieldAddr runUnderlying129 rfl sizeOf48 rfl ⟨⟨dA.refl _ _,hx.nop (Keep.refl _ _) (fun _ g ↦ g) (by decide)⟩,rfl⟩),
   fun c σ wx hx hn hl=>ObG.op rfl (O.fieldAddr runUnderlying48 rfl sizeOf46 rfl ⟨⟨dA.refl _ _,hx.nop (Keep.refl _ _) (fun _ g ↦ g) (by decide)⟩,rfl⟩),
   fun c σ wx hx hn hl=>ObG.op rfl (O.fieldAddr runUnderlying46 rfl sizeOf43 rfl ⟨⟨dA.refl _ _,hx.nop (Keep.refl _ _) (fun _ g ↦ g) (by decide)⟩,rfl⟩),
   fun c σ wx hx hn hl=>ObG.op rfl (O.load isAgg43 rfl ((hx.but.blk (cs:=aG d s) MC.row hpb).cell rfl) ⟨⟨dA.refl _ _,hx.nop (Keep.refl _ _) (fun _ g ↦ g) (by decide)⟩,rfl⟩),
   fun c σ wx hx hn hl=>ObG.op rfl (O.move rfl ⟨⟨dA.refl _ _,hx.nop (Keep.refl _ _) (fun _ g ↦ g) (by decide)⟩,rfl⟩),
   fun c σ wx hx hn hl=>ObG.op rfl (O.indexAddr runUnderlying30 sizeOf3 rfl rfl (hint _ hx.but) (by decide) (by show (0:Int)<xs.length;omega) ⟨⟨dA.refl _ _,hx.nop (Keep.refl _ _) (fun _ g ↦ g) (by decide)⟩,rfl⟩),
   fun c σ wx hx hn hl=>ObG.op rfl (O.load isAgg3 rfl (Ints.at (hint _ hx.but) (show 0<xs.length by omega)) ⟨⟨dA.refl _ _,hx.nop (Keep.refl _ _) (fun _ g ↦ g) (by decide)⟩,rfl⟩),
   fun c σ wx hx hn hl=>ObG.op rfl (O.move rfl ⟨⟨dA.refl _ _,hx.nop (Keep.refl _ _) (fun _ g ↦ g) (by decide)⟩,rfl⟩),
   fun c σ wx hx hn hl=>ObG.op rfl (O.indexAddr runUnderlying30 sizeOf3 rfl rfl (hint _ hx.but) (by decide) (by show (1:Int)<xs.length;omega) ⟨⟨dA.refl _ _,hx.nop (Keep.refl _ _) (fun _ g ↦ g) (by decide)⟩,rfl⟩),
   fun c σ wx hx hn hl=>ObG.op rfl (O.load isAgg3 rfl (Ints.at (hint _ hx.but) (show 1<xs.length by omega)) ⟨⟨dA.refl _ _,hx.nop (Keep.refl _ _) (fun _ g ↦ g) (by decide)⟩,rfl⟩),
   fun c σ wx hx hn hl=>ObG.op rfl (O.build (v:=.agg #[.int .i64 (xs.getD 0 0),.int .i64 (xs.getD 1 0)]) (parts:=[(0,.tmp 81),(1,.tmp 84)]) (vs:=[(0,_),(1,_)]) rfl (fun w=>by kernel_rfl) ⟨⟨dA.refl _ _,hx.nop (Keep.refl _ _) (fun _ g ↦ g) (by decide)⟩,rfl⟩),
   fun c σ wx hx hn hl=>ObG.op rfl (O.buildSlice (el:=124) (parts:=[(0,.tmp 85)]) (vs:=[(0,_)]) (cs:=(pC (xs.getD 0 0,xs.getD 1 0))) rfl (fun w=>by kernel_rfl) (fun b86 w86 akP akQ adk aiv=>⟨⟨dA.aW adk,hx.nop adk (fun _ g ↦ g.ext adk) (by decide)⟩,b86,rfl,fun e=>by have:=yx MC.pts.1 e;have:=hx.but.size;omega,aiv⟩)),
   fun c σ wx hx hn v86 afu hl=>by { obtain ⟨bl,rfl,hbn,hBl⟩:=afu;exact ObG.op rfl (O.wM (size:=2) (bytes:=16) runUnderlying43 Tryz.wK rfl rfl rfl rfl (by decide) rfl rfl (aH MC.pts.1 (hx.Me hn) (Nat.zero_le _)) rfl (Row.ay hBl) (gW _) (by omega) (by simp only [maxLen];omega) (Nat.zero_le _) (fun v87 w87 aiw afv aix=>⟨⟨dA.jh afv,hx.app hn afv ⟨aiw,fun k e=>(aix k e).imp id (fun h=>Nat.le_trans (hx.Me hn).size h)⟩⟩,trivial⟩)) },
   trivial⟩ (fun akR w12 WC v86 afu v87 akS hl12=>?_)
 obtain ⟨xg,afw⟩:=WC.done (hl12 15 (by decide) _ _ rfl rfl).symm
 refine L.o (O.nilCheck rfl (L.o (O.fieldAddr runUnderlying129 rfl sizeOf48 rfl (L.o (O.fieldAddr runUnderlying48 rfl sizeOf46 rfl (L.o (O.fieldAddr runUnderlying46 rfl sizeOf43 rfl (L.o (O.bf sizeOf43 (Sl.one (Sl.aU afw.1)) rfl rfl (xg.blk (cs:=aG d s) MC.row hpb) (show (0:Nat)<7 by decide) (fun w91 abe afx=>?_))))))))))
 refine L.nil (T.blk (T.region (L.m rfl (L.m rfl (L.o (O.nilCheck rfl (L.o (O.fieldAddr runUnderlying129 rfl sizeOf9 rfl (L.o (O.bf sizeOf9 rfl rfl rfl afx (show (6:Nat)<7 by decide) (fun GZ iJ yw=>?_)))))))))))
 have adl:I8 d.pv.ownBlock w71.heap.size 124 2 (s.ps.length+1) (pcs s.ps++pC (xs.getD 0 0,xs.getD 1 0)) v87 GZ:=(afw.updB abe (xg.blk (cs:=aG d s) MC.row hpb) (by decide)).updB iJ afx (by decide)
 have P9:Ext w0 GZ:=((xg.ext MC.e (fun k e ↦ (MC.pts.2 k e).1)).upd abe (.inr MC.lo)).upd iJ (.inr MC.lo)
 have Qa:w71.heap.size≤GZ.heap.size:=by have:=xg.size;have:=abe.size;have:=iJ.size;omega
 have hkeep:∀ k,k<w71.heap.size→k≠b→d.pv.ownBlock≠some k→GZ.heap[k]?=w71.heap[k]?:=fun k h1 h2 h3 ↦ (iJ.block k h2).trans ((abe.block k h2).trans (xg.block k h1 h3))
 refine L.nil (T.Nw results67 ⟨⟨{ d with pv:=v87 },MC.TT hkeep P9 Qa yw adl⟩,fun k hk=>?_⟩)
 have hs:=hK.S k hk
 have z1:=WZ.size
 have z2:=WY.size
 exact (hkeep k (by omega) hs.2.2 (fun e=>(MC.pts.2 k e).2.2 hk)).trans ((WZ.block k (Nat.zero_le _) (by omega)).trans (WY.block k (Nat.zero_le _) hs.2.1))
open Go Go.E RowKit
theorem dA.keep {ob:Option Nat} {lo:Nat} {w w':World} (h:dA ob w w') (hm:∀ k,ob=some k→k<lo):Keep lo w w':=⟨h.os,h.tape,h.output,h.size,fun k hl hk=>h.block k hk (fun e=>by have:=hm k e;omega)⟩
def AX (m:Nat) (k:Nat):Prop:=m≤k
def W9 (m:Nat) (xs:List Int) (v:Value) (W:World):Prop:=∃ oa cp,v = .slice oa xs.length cp∧dJ (AX m) W v xs
theorem dJ.form {Q:Nat→Prop} {W:World} {v:Value} {xs:List Int} (h:dJ Q W v xs):∃ oa cp,v = .slice oa xs.length cp:=by
 rcases h with ⟨rfl,rfl⟩|⟨k,off,cap,cs,rfl,_⟩
 ·exact ⟨none,0,rfl⟩
 exact ⟨_,_,rfl⟩
theorem dJ.Vb {ob:Option Nat} {m:Nat} {W W':World} {v:Value} {xs:List Int} (hm:∀ k,ob=some k→k<m) (h:dJ (AX m) W v xs) (k:dA ob W W'):dJ (AX m) W' v xs:=h.stay fun j cs q B=>⟨q,k.blk B (fun e=>by have:=hm j e;unfold AX at q;omega)⟩
theorem W9.st {ob:Option Nat} {m:Nat} {xs:List Int} (hm:∀ k,ob=some k→k<m):∀ v w w',dA ob w w'→W9 m xs v w→W9 m xs v w':=fun _ _ _ h ⟨oa,cp,h1,h2⟩=>⟨oa,cp,h1,h2.Vb hm h⟩
def ZF (m:Nat) (xs:List Int) (v:Value) (W:World):Prop:=∃ oa cp,v = .agg #[.slice oa xs.length cp,.slice none 0 0]∧dJ (AX m) W (.slice oa xs.length cp) xs
theorem ZF.st {ob:Option Nat} {m:Nat} {xs:List Int} (hm:∀ k,ob=some k→k<m):∀ v w w',dA ob w w'→ZF m xs v w→ZF m xs v w':=fun _ _ _ h ⟨oa,cp,h1,h2⟩=>⟨oa,cp,h1,h2.Vb hm h⟩
def ZG (ob:Option Nat) (m:Nat) (xs:List Int) (v:Value) (W:World):Prop:=∃ k oa cp,v = .slice (some ⟨k,0,none⟩) 1 1∧ob≠some k∧Blk W k [.slice oa xs.length cp,.slice none 0 0] 127∧dJ (AX m) W (.slice oa xs.length cp) xs
theorem ZG.st {ob:Option Nat} {m:Nat} {xs:List Int} (hm:∀ k,ob=some k→k<m):∀ v w w',dA ob w w'→ZG ob m xs v w→ZG ob m xs v w':=fun _ _ _ h ⟨k,oa,cp,h1,h2,h3,h4⟩=>⟨k,oa,cp,h1,h2,h.blk (cs:=[.slice oa xs.length cp,.slice none 0 0]) h3 h2,h4.Vb hm h⟩
def Xa (ob:Option Nat) (m:Nat) (vs:List FaV) (xs:List Int) (v:Value) (W:World):Prop:=∃ u,I8 ob m 127 2 (vs.length+1) (dI vs ++ [u,.slice none 0 0]) v W∧dJ (AX m) W u xs
theorem Xa.ext {ob:Option Nat} {m:Nat} {vs:List FaV} {xs:List Int} {v:Value} {W W':World} (h:Xa ob m vs xs v W) (k:Ext W W'):Xa ob m vs xs v W':=by
 obtain ⟨u,h1,h2⟩:=h
 exact ⟨u,h1.ext k,h2.stay fun j cs q B=>⟨q,Blk.ext B k⟩⟩
def F7 (s:PS) (xs:List Int):PS:={ s with fs:=s.fs ++ [(xs,[])],last:=bF }
def yA (d:RdD) (v u:Value) (xs:List Int):RdD:={ d with fv:=v,vs:=d.vs ++ [⟨⟨u,xs⟩,.slice none 0 0,[]⟩] }
theorem Xa.updB {ob:Option Nat} {m b:Nat} {t:TypeId} {vs:List FaV} {xs:List Int} {cs:List Value} {v:Value} {W W':World} (h:Xa ob m vs xs v W) (k:Upd b W W') (hB:Blk W b cs t) (ht:127≠t) (hm:b<m):Xa ob m vs xs v W':=by
 obtain ⟨u,h1,h2⟩:=h
 exact ⟨u,h1.updB k hB ht,h2.stay fun j cs q B=>⟨q,Blk.upd B k (fun e=>by unfold AX at q;omega)⟩⟩
theorem ou {α:Type} {l r:List α} {i:Nat} {x:α} (h:i<l.length):(l++r).getD i x=l.getD i x:=by
 rw [List.getD_eq_getElem?_getD,List.getElem?_append_left h,← List.getD_eq_getElem?_getD]
theorem kG {α:Type} {l:List α} {i:Nat} {x y:α} (h:i=l.length):(l ++ [y]).getD i x=y:=by
 subst h;simp [List.getD]
theorem RdK.Xb {w0:World} {b:Nat} {d:RdD} {s:PS} {S:Nat→Prop} {W W':World} (h:RdK w0 b d s S W) {xs:List Int} {v u:Value} (hu:∀ k,k<W.heap.size→k≠b→d.fv.ownBlock≠some k→W'.heap[k]?=W.heap[k]?) (he:Ext w0 W') (hz:W.heap.size≤W'.heap.size)
  (hB:Blk W' b (aG (yA d v u xs) (F7 s xs)) 129) (hG:I8 d.fv.ownBlock W.heap.size 127 2 (d.vs.length+1) (dI d.vs ++ [u,.slice none 0 0]) v W') (hI:dJ (AX W.heap.size) W' u xs):RdK w0 b (yA d v u xs) (F7 s xs) S W':=by
 have hk:∀ j cs t,t≠127→RdQ w0 b S j→Blk W j cs t→RdQ w0 b S j∧Blk W' j cs t:=fun j cs t ht q B=>⟨q,(hu j B.lt q.2.1 (ng h.fsr.1 B (Ne.symm ht))).trans B⟩
 have hkI:∀ k cs,RdQ w0 b S k→Blk W k cs 3→RdQ w0 b S k∧Blk W' k cs 3:=fun k cs q B=>hk k cs _ (by decide) q B
 have hlt:=Blk.lt (cs:=aG d s) h.row
 have hz0:=h.e.size
 have hnew:∀ k,W.heap.size≤k→RdQ w0 b S k:=fun k h1=>⟨by omega,by omega,fun hk=>by have:=(h.S k hk).2.1;omega⟩
 have hvl:(yA d v u xs).vs.length=d.vs.length+1:=by simp [yA]
 have hfl:=h.fsl
 refine ⟨he,h.lo,hB,h.pts.stay fun k cs q _ B=>hk k cs _ (by decide) q B,⟨?_,fun k e=>?_⟩,by simp [yA,F7,hfl],fun i hi=>?_,fun i hi k e=>?_,h.usr.stay fun k cs q _ B=>hk k cs _ (by decide) q B,h.usl,fun i hi=>(h.un i hi).stay hkI,h.big,fun j hj=>by obtain ⟨a1,a2,a3⟩:=h.S j hj;exact ⟨a1,Nat.lt_of_lt_of_le a2 hz,a3⟩⟩
 ·have e2:dI (yA d v u xs).vs=dI d.vs ++ [u,.slice none 0 0]:=by simp [yA,dI,FaV.cells]
  rw [hvl,e2];exact hG.1
 ·rcases hG.2 k e with h1|h1
  ·exact h.fsr.2 k h1
  exact hnew k h1
 ·rw [hvl] at hi
  rcases Nat.lt_or_ge i d.vs.length with h1|h1
  ·have f:=h.fa i h1
   have e1:(yA d v u xs).vs.getD i f0=d.vs.getD i f0:=ou h1
   have e2:(F7 s xs).fs.getD i ([],[])=s.fs.getD i ([],[]):=ou (by omega)
   rw [e1,e2]
   exact ⟨f.ox,f.oi.stay hkI,f.hx,f.hv.stay fun k cs q _ B=>hk k cs _ (by decide) q B,fun x hx=>(f.ri x hx).stay hkI⟩
  have e1:(yA d v u xs).vs.getD i f0=⟨⟨u,xs⟩,.slice none 0 0,[]⟩:=kG (by omega)
  have e2:(F7 s xs).fs.getD i ([],[])=(xs,[]):=kG (by omega)
  rw [e1,e2]
  exact ⟨rfl,hI.stay fun k cs q B=>⟨hnew k q,B⟩,rfl,AV.nil _ _ _ _,fun x hx=>by cases hx⟩
 rw [hvl] at e
 have e1:(yA d v u xs).vs.getD (d.vs.length+1-1) f0=⟨⟨u,xs⟩,.slice none 0 0,[]⟩:=kG (by omega)
 rw [e1] at e
 cases e
set_option maxHeartbeats 1000000 in
theorem Qb (w0:World) (b:Nat) (s:PS) (S:Nat→Prop) (l:Str) (r:List Str) (xs:List Int) (w:World) (hI:RdI w0 b s S w) (hL0:ji w0) (hll:l.length≤100000) (hf:fieldsB l=bF::r) (hlast:s.last ∈ [bH,aS,bF,bG]) (hr:r.length≤100000) (hnum:dN r=some xs) (hc:s.fs.length≤100000) :
  Calls Tryz.prog 67 #[.pointer (some ⟨b,0,none⟩),str l] w (Ret fun v w'=>RdI w0 b (F7 s xs) S w'∧∀ k,S k→w'.heap[k]?=w.heap[k]?):=by
 refine T.enter (vs:=[.pointer (some ⟨b,0,none⟩),str l]) func67 rfl ntmps67 rfl ?_
 refine T.q (L.m rfl (L.o (O.call (xs:=[.tmp 10,.func 121]) call120 rfl rfl (aQ l w hll) (fun v1 w1 hq=>?_))))
 obtain ⟨A,rfl,hS1,he1⟩:=hq
 obtain ⟨d,hK⟩:=hI
 have hK1:=hK.ext he1
 rw [hf]
 rw [hf] at hS1
 refine L.a rfl (L.nil (T.seq (T.q (L.m rfl (L.o (O.len runUnderlying61 rfl (Sl.val hS1) (L.o (O.dY rfl rfl (by simp;omega) (L.nil (T.cf (T.skip (T.seq (?_)))))))))))))
 refine T.dL mixed 6 [4] rfl [.is _,.is _,.is _,.is _,.is _,.is _] [[],[0],[1],[],[3],[2]] [[],[0],[0,1],[],[3],[0,1,2],[0,1,2,3,4,5]] (by kernel_rfl) (by kernel_rfl) rfl (by kernel_rfl) trivial ⟨fun wx hx=>Ob.o (O.move rfl kR),
   fun wx hx=>Ob.o (O.indexAddr runUnderlying61 sizeOf9 rfl rfl (hS1.ext hx) (by decide) (by simp) kR),
   fun wx hx=>Ob.o (O.load isAgg9 rfl ((hS1.ext hx).at (show 0<(bF::r).length by simp)) kR),
   fun wx hx=>Ob.o (O.move rfl kR),
   fun wx hx=>Ob.o (O.jk (l:=1) runUnderlying61 sizeOf9 rfl rfl hS1 (by simp) kR),
   fun wx hx=>Ob.o (O.assign rfl kR),
   trivial⟩ (fun w2 he2=>?_)
 have hR2:=bC (hS1.ext he2) rfl
 refine L.a rfl (L.nil (T.seq (T.q (L.m rfl (L.nil (T.block (T.q (L.o (O.aA runUnderlying9 rfl rfl (show ¬ bF=bH by decide) (L.a rfl (L.nil (T.cf (T.q (L.o (O.aA runUnderlying9 rfl rfl (show ¬ bF=aS by decide) (L.a rfl (L.nil (T.cf (T.q (L.o (O.aY runUnderlying9 rfl rfl rfl (L.a rfl (?_)))))))))))))))))))))))
 refine L.nil (T.ct (T.q (L.m rfl (L.o (O.buildSlice (el:=9) (parts:=[(0,_),(1,_),(2,_),(3,_)]) (vs:=[(0,_),(1,_),(2,_),(3,_)]) (cs:=([bH,aS,bF,bG].map str)) rfl (fun w=>by kernel_rfl) (fun b95 w95 afy afz Rk ZH=>?_))))))
 have pU:=(hK1.ext he2).ext Rk
 refine L.o (O.call (xs:=[.tmp 94,.tmp 95]) call68 rfl rfl (aX 0 _ [bH,aS,bF,bG] b (aG d s) s.last w95 (Strs.ay ZH rfl (by decide) (Nat.zero_le _)) pU.row rfl) (fun v96 w96 hq=>?_))
 obtain ⟨rfl,rfl⟩:=hq
 rw [decide_eq_true hlast]
 refine L.o (O.call (xs:=[.tmp 96]) call108 rfl rfl (dF w96) (fun v97 w97 hq=>?_))
 obtain rfl:=hq
 have ZI:=(he1.trans he2).trans Rk
 have hpb:d.fv.ownBlock≠some b:=fun e ↦ (pU.fsr.2 b e).2.1 rfl
 have hm:∀ k,d.fv.ownBlock=some k→k<w97.heap.size:=fun k e ↦ yx pU.fsr.1 e
 have hvl:=pU.fsl
 refine L.nil (?_)
 refine T.aaz mixed 12 0 [0,6] rfl [.is _,.is _,.is _,.is _,.is _,.is _,.is _,.is _,.such (W9 w97.heap.size xs),.such (ZF w97.heap.size xs),.such (ZG d.fv.ownBlock w97.heap.size xs),.such (fun _ _=>True)] [[],[],[1],[2],[3],[4],[5],[],[7],[8],[9],[6,10]] [none,none,none,none,none,none,none,none,none,none,none,none] [[],[],[1],[1,2],[1,2,3],[1,2,3,4],[1,2,3,4,5],[],[7],[7,8],[7,8,9],[1,2,3,4,5,6,7,8,9,10],[0,1,2,3,4,5,6,7,8,9,10,11],[0,1,2,3,4,5,6,7,8,9,10,11,12],[0,1,2,3,4,5,6,7,8,9,10,11,12,13],[0,1,2,3,4,5,6,7,8,9,10,11,12,13,14],[0,1,2,3,4,5,6,7,8,9,10,11,12,13,14,15]] (G5 w97 d.fv.ownBlock 11 (Xa d.fv.ownBlock w97.heap.size d.vs xs)) (dA d.fv.ownBlock) (by kernel_rfl) (by kernel_rfl) (by kernel_rfl) rfl ⟨W9.st hm,ZF.st hm,ZG.st hm,fun _ _ _ _ _=>trivial,trivial⟩ (.inl ⟨rfl,Keep.drew _ _⟩) ⟨fun c σ wx hx hn hl=>ObG.op rfl (O.move rfl ⟨⟨dA.refl _ _,hx.nop (Keep.refl _ _) (fun _ g ↦ g) (by decide)⟩,rfl⟩),
   fun c σ wx hx hn hl=>ObG.op rfl (O.move rfl ⟨⟨dA.refl _ _,hx.nop (Keep.refl _ _) (fun _ g ↦ g) (by decide)⟩,rfl⟩),
   fun c σ wx hx hn hl=>ObG.op rfl (O.nilCheck rfl ⟨⟨dA.refl _ _,hx.nop (Keep.refl _ _) (fun _ g ↦ g) (by decide)⟩,rfl⟩),
   fun c σ wx hx hn hl=>ObG.op rfl (O.fieldAddr runUnderlying129 rfl sizeOf48 rfl ⟨⟨dA.refl _ _,hx.nop (Keep.refl _ _) (fun _ g ↦ g) (by decide)⟩,rfl⟩),
   fun c σ wx hx hn hl=>ObG.op rfl (O.fieldAddr runUnderlying48 rfl sizeOf46 rfl ⟨⟨dA.refl _ _,hx.nop (Keep.refl _ _) (fun _ g ↦ g) (by decide)⟩,rfl⟩),
   fun c σ wx hx hn hl=>ObG.op rfl (O.fieldAddr runUnderlying46 rfl sizeOf44 rfl ⟨⟨dA.refl _ _,hx.nop (Keep.refl _ _) (fun _ g ↦ g) (by decide)⟩,rfl⟩),
   fun c σ wx hx hn hl=>ObG.op rfl (O.load isAgg44 rfl ((hx.but.blk (cs:=aG d s) pU.row hpb).cell rfl) ⟨⟨dA.refl _ _,hx.nop (Keep.refl _ _) (fun _ g ↦ g) (by decide)⟩,rfl⟩),
   fun c σ wx hx hn hl=>ObG.op rfl (O.move rfl ⟨⟨dA.refl _ _,hx.nop (Keep.refl _ _) (fun _ g ↦ g) (by decide)⟩,rfl⟩),
   fun c σ wx hx hn hl=>ObG.op rfl (O.call (xs:=[.tmp 105]) call122 rfl rfl (jB 0 _ r xs wx (Sl.mono (Sl.keep (Strs.ext hR2 Rk) (hx.but.keep (lo:=w.heap.size) (fun k e ↦ yx hK.fsr.1 e))) (Nat.zero_le _)) (hL0.ext (hx.but.ext pU.e (fun k e ↦ (pU.fsr.2 k e).1))) (bZ hll hf) hnum (by omega)) (fun v wy h=>⟨⟨dA.aW h.2,hx.nop h.2 (fun _ g ↦ g.ext h.2) (by decide)⟩,by obtain ⟨h1,h2⟩:=h;have hB:=dJ.aU (Q:=AX w97.heap.size) h1 (fun k hk _ ↦ Nat.le_trans hx.but.size hk);obtain ⟨oa,cp,e⟩:=hB.form;exact ⟨oa,cp,e,hB⟩⟩)),
   fun c σ wx hx hn adn MF hl=>by { obtain ⟨oa,cp,rfl,hI⟩:=MF;exact ObG.op rfl (O.build (v:=.agg #[.slice oa xs.length cp,.slice none 0 0]) (parts:=[(0,.tmp 106)]) (vs:=[(0,_)]) rfl (fun w=>by kernel_rfl) ⟨⟨dA.refl _ _,hx.nop (Keep.refl _ _) (fun _ g ↦ g) (by decide)⟩,oa,cp,rfl,hI⟩) },
   fun c σ wx hx hn v107 Qc hl=>by { obtain ⟨oa,cp,rfl,hI⟩:=Qc;exact ObG.op rfl (O.buildSlice (el:=127) (parts:=[(0,.tmp 107)]) (vs:=[(0,_)]) (cs:=[.slice oa xs.length cp,.slice none 0 0]) rfl (fun w=>by kernel_rfl) (fun aiy akT aiz aiA TU ado=>⟨⟨dA.aW TU,hx.nop TU (fun _ g ↦ g.ext TU) (by decide)⟩,aiy,oa,cp,rfl,fun e=>by have:=hm _ e;have:=hx.but.size;omega,ado,hI.Vb hm (dA.aW TU)⟩)) },
   fun c σ wx hx hn adp Qd hl=>by { obtain ⟨bl,oa,cp,rfl,hbn,hBl,hIl⟩:=Qd;exact ObG.op rfl (O.wM (size:=2) (bytes:=48) runUnderlying44 Tryz.jP rfl rfl rfl rfl (by decide) rfl rfl (aH pU.fsr.1 (hx.Me hn) (Nat.zero_le _)) rfl (Row.ay hBl) (by intro u hu;simp at hu;obtain (rfl|rfl):=hu <;> rfl) (by omega) (by simp only [maxLen];omega) (Nat.zero_le _) (fun v109 akU adq Xc adr=>⟨⟨dA.jh Xc,hx.app hn Xc ⟨.slice oa xs.length cp,⟨adq,fun k e=>(adr k e).imp id (fun h=>Nat.le_trans (hx.Me hn).size h)⟩,hIl.Vb hm (dA.jh Xc)⟩⟩,trivial⟩)) },
   trivial⟩ (fun akV w15 aaR adn MF v107 Qc adp Qd v109 ads aa1=>?_)
 obtain ⟨Aa,afA⟩:=aaR.done (aa1 11 (by decide) _ _ rfl rfl).symm
 refine L.o (O.nilCheck rfl (L.o (O.fieldAddr runUnderlying129 rfl sizeOf48 rfl (L.o (O.fieldAddr runUnderlying48 rfl sizeOf46 rfl (L.o (O.fieldAddr runUnderlying46 rfl sizeOf44 rfl (L.o (O.bf sizeOf44 (by obtain ⟨u,h1,_⟩:=afA;exact Sl.one (Sl.aU h1.1)) rfl rfl (Aa.blk (cs:=aG d s) pU.row hpb) (show (1:Nat)<7 by decide) (fun aiB MG TV=>?_))))))))))
 refine L.nil (T.blk (T.region (L.m rfl (L.m rfl (L.o (O.nilCheck rfl (L.o (O.fieldAddr runUnderlying129 rfl sizeOf9 rfl (L.o (O.bf sizeOf9 rfl rfl rfl TV (show (6:Nat)<7 by decide) (fun GZ iJ yw=>?_)))))))))))
 have afB:=Blk.lt (cs:=aG d s) pU.row
 obtain ⟨u,hGu,hIu⟩:=(afA.updB MG (Aa.blk (cs:=aG d s) pU.row hpb) (by decide) afB).updB iJ TV (by decide) afB
 have P9:Ext w0 GZ:=((Aa.ext pU.e (fun k e ↦ (pU.fsr.2 k e).1)).upd MG (.inr pU.lo)).upd iJ (.inr pU.lo)
 have Qa:w97.heap.size≤GZ.heap.size:=by have:=Aa.size;have:=MG.size;have:=iJ.size;omega
 have hkeep:∀ k,k<w97.heap.size→k≠b→d.fv.ownBlock≠some k→GZ.heap[k]?=w97.heap[k]?:=fun k h1 h2 h3 ↦ (iJ.block k h2).trans ((MG.block k h2).trans (Aa.block k h1 h3))
 refine L.nil (T.Nw results67 ⟨⟨yA d v109 u xs,pU.Xb hkeep P9 Qa yw hGu hIu⟩,fun k hk=>?_⟩)
 have hs:=hK.S k hk
 have z2:=ZI.size
 exact (hkeep k (by omega) hs.2.2 (fun e=>(pU.fsr.2 k e).2.2 hk)).trans (ZI.block k (Nat.zero_le _) hs.2.1)
open Go Go.E RowKit
theorem TW (w0:World) (b:Nat) (s:PS) (S:Nat→Prop) (l:Str) (r:List Str) (w:World) (hI:RdI w0 b s S w) (hll:l.length≤100000) (k:Str) (hf:fieldsB l=k::r) (hk:k≠bH∧k≠aS∧k≠bF∧k≠bG∧k≠cO∧k≠fH) :
  Calls Tryz.prog 67 #[.pointer (some ⟨b,0,none⟩),str l] w (Pan (bU) fun w'=>Ext w w'):=by
 refine T.fA (vs:=[.pointer (some ⟨b,0,none⟩),str l]) func67 rfl ntmps67 rfl ?_
 refine T.q (L.m rfl (L.o (O.call (xs:=[.tmp 10,.func 121]) call120 rfl rfl (aQ l w hll) (fun v1 w1 hq=>?_))))
 obtain ⟨A,rfl,hS1,he1⟩:=hq
 obtain ⟨d,hK⟩:=hI
 have hK1:=hK.ext he1
 rw [hf]
 rw [hf] at hS1
 refine L.a rfl (L.nil (T.seq (T.q (L.m rfl (L.o (O.len runUnderlying61 rfl (Sl.val hS1) (L.o (O.dY rfl rfl (by simp;omega) (L.nil (T.cf (T.skip (T.seq (?_)))))))))))))
 refine T.dL mixed 6 [4] rfl [.is _,.is _,.is _,.is _,.is _,.is _] [[],[0],[1],[],[3],[2]] [[],[0],[0,1],[],[3],[0,1,2],[0,1,2,3,4,5]] (by kernel_rfl) (by kernel_rfl) rfl (by kernel_rfl) trivial ⟨fun wx hx=>Ob.o (O.move rfl kR),
   fun wx hx=>Ob.o (O.indexAddr runUnderlying61 sizeOf9 rfl rfl (hS1.ext hx) (by decide) (by simp) kR),
   fun wx hx=>Ob.o (O.load isAgg9 rfl ((hS1.ext hx).at (show 0<(k::r).length by simp)) kR),
   fun wx hx=>Ob.o (O.move rfl kR),
   fun wx hx=>Ob.o (O.jk (l:=1) runUnderlying61 sizeOf9 rfl rfl hS1 (by simp) kR),
   fun wx hx=>Ob.o (O.assign rfl kR),
   trivial⟩ (fun w2 he2=>?_)
 have hR2:=bC (hS1.ext he2) rfl
 refine L.a rfl (L.nil (T.seq (T.q (L.m rfl (L.nil (T.block (T.q (L.o (O.aA runUnderlying9 rfl rfl hk.1 (L.a rfl (L.nil (T.cf (T.q (L.o (O.aA runUnderlying9 rfl rfl hk.2.1 (L.a rfl (L.nil (T.cf (T.q (L.o (O.aA runUnderlying9 rfl rfl hk.2.2.1 (L.a rfl (?_)))))))))))))))))))))))
 refine L.nil (T.cf (T.q (L.o (O.aA runUnderlying9 rfl rfl hk.2.2.2.1 (L.a rfl (L.nil (T.cf (T.q (L.o (O.aA runUnderlying9 rfl rfl hk.2.2.2.2.1 (L.a rfl (L.nil (T.cf (T.q (L.o (O.aA runUnderlying9 rfl rfl hk.2.2.2.2.2 (L.a rfl (L.nil (T.cf (T.region (L.bJ (xs:=[.const (.bool false)]) rfl call108 rfl rfl (dw w2) (fun w' a hR ha=>⟨ha.defers,rfl,by rw [hR];exact he1.trans he2⟩))))))))))))))))))))))
theorem yB (w0:World) (b:Nat) (s:PS) (S:Nat→Prop) (l:Str) (r:List Str) (w:World) (hI:RdI w0 b s S w) (hll:l.length≤100000) (hf:fieldsB l=bH::r) (hlast:s.last ∉ [[]]) :
  Calls Tryz.prog 67 #[.pointer (some ⟨b,0,none⟩),str l] w (Pan (bU) fun w'=>Ext w w'):=by
 refine T.fA (vs:=[.pointer (some ⟨b,0,none⟩),str l]) func67 rfl ntmps67 rfl ?_
 refine T.q (L.m rfl (L.o (O.call (xs:=[.tmp 10,.func 121]) call120 rfl rfl (aQ l w hll) (fun v1 w1 hq=>?_))))
 obtain ⟨A,rfl,hS1,he1⟩:=hq
 obtain ⟨d,hK⟩:=hI
 have hK1:=hK.ext he1
 rw [hf]
 rw [hf] at hS1
 refine L.a rfl (L.nil (T.seq (T.q (L.m rfl (L.o (O.len runUnderlying61 rfl (Sl.val hS1) (L.o (O.dY rfl rfl (by simp;omega) (L.nil (T.cf (T.skip (T.seq (?_)))))))))))))
 refine T.dL mixed 6 [4] rfl [.is _,.is _,.is _,.is _,.is _,.is _] [[],[0],[1],[],[3],[2]] [[],[0],[0,1],[],[3],[0,1,2],[0,1,2,3,4,5]] (by kernel_rfl) (by kernel_rfl) rfl (by kernel_rfl) trivial ⟨fun wx hx=>Ob.o (O.move rfl kR),
   fun wx hx=>Ob.o (O.indexAddr runUnderlying61 sizeOf9 rfl rfl (hS1.ext hx) (by decide) (by simp) kR),
   fun wx hx=>Ob.o (O.load isAgg9 rfl ((hS1.ext hx).at (show 0<(bH::r).length by simp)) kR),
   fun wx hx=>Ob.o (O.move rfl kR),
   fun wx hx=>Ob.o (O.jk (l:=1) runUnderlying61 sizeOf9 rfl rfl hS1 (by simp) kR),
   fun wx hx=>Ob.o (O.assign rfl kR),
   trivial⟩ (fun w2 he2=>?_)
 have hR2:=bC (hS1.ext he2) rfl
 refine L.a rfl (L.nil (T.seq (T.q (L.m rfl (L.nil (T.block (T.q (L.o (O.aY runUnderlying9 rfl rfl rfl (L.a rfl (L.nil (T.ct (T.q (L.m rfl (L.o (O.buildSlice (el:=9) (parts:=[(0,_)]) (vs:=[(0,_)]) (cs:=([[]].map str)) rfl (fun w=>by kernel_rfl) (fun b25 w25 adf adg zA yZ=>?_)))))))))))))))))
 have hK3:=(hK1.ext he2).ext zA
 refine L.o (O.call (xs:=[.tmp 24,.tmp 25]) call68 rfl rfl (aX 0 _ [[]] b (aG d s) s.last w25 (Strs.ay yZ rfl (by decide) (Nat.zero_le _)) hK3.row rfl) (fun v3 w3 hq=>?_))
 obtain ⟨rfl,rfl⟩:=hq
 rw [decide_eq_false hlast]
 refine L.m rfl (L.p (L.p (L.p (L.o (O.ah rfl rfl (L.bJ (xs:=[.tmp 31]) rfl call108 rfl rfl (dw w3) (fun w' a hR ha=>⟨ha.defers,rfl,by rw [hR];exact (he1.trans he2).trans zA⟩)))))))
theorem vO (w0:World) (b:Nat) (s:PS) (S:Nat→Prop) (l:Str) (r:List Str) (w:World) (hI:RdI w0 b s S w) (hll:l.length≤100000) (hf:fieldsB l=aS::r) (hlast:s.last ∉ [bH,aS]) :
  Calls Tryz.prog 67 #[.pointer (some ⟨b,0,none⟩),str l] w (Pan (bU) fun w'=>Ext w w'):=by
 refine T.fA (vs:=[.pointer (some ⟨b,0,none⟩),str l]) func67 rfl ntmps67 rfl ?_
 refine T.q (L.m rfl (L.o (O.call (xs:=[.tmp 10,.func 121]) call120 rfl rfl (aQ l w hll) (fun v1 w1 hq=>?_))))
 obtain ⟨A,rfl,hS1,he1⟩:=hq
 obtain ⟨d,hK⟩:=hI
 have hK1:=hK.ext he1
 rw [hf]
 rw [hf] at hS1
 refine L.a rfl (L.nil (T.seq (T.q (L.m rfl (L.o (O.len runUnderlying61 rfl (Sl.val hS1) (L.o (O.dY rfl rfl (by simp;omega) (L.nil (T.cf (T.skip (T.seq (?_)))))))))))))
 refine T.dL mixed 6 [4] rfl [.is _,.is _,.is _,.is _,.is _,.is _] [[],[0],[1],[],[3],[2]] [[],[0],[0,1],[],[3],[0,1,2],[0,1,2,3,4,5]] (by kernel_rfl) (by kernel_rfl) rfl (by kernel_rfl) trivial ⟨fun wx hx=>Ob.o (O.move rfl kR),
   fun wx hx=>Ob.o (O.indexAddr runUnderlying61 sizeOf9 rfl rfl (hS1.ext hx) (by decide) (by simp) kR),
   fun wx hx=>Ob.o (O.load isAgg9 rfl ((hS1.ext hx).at (show 0<(aS::r).length by simp)) kR),
   fun wx hx=>Ob.o (O.move rfl kR),
   fun wx hx=>Ob.o (O.jk (l:=1) runUnderlying61 sizeOf9 rfl rfl hS1 (by simp) kR),
   fun wx hx=>Ob.o (O.assign rfl kR),
   trivial⟩ (fun w2 he2=>?_)
 have hR2:=bC (hS1.ext he2) rfl
 refine L.a rfl (L.nil (T.seq (T.q (L.m rfl (L.nil (T.block (T.q (L.o (O.aA runUnderlying9 rfl rfl (show ¬ aS=bH by decide) (L.a rfl (L.nil (T.cf (T.q (L.o (O.aY runUnderlying9 rfl rfl rfl (L.a rfl (L.nil (T.ct (T.q (L.m rfl (L.o (O.buildSlice (el:=9) (parts:=[(0,_),(1,_)]) (vs:=[(0,_),(1,_)]) (cs:=([bH,aS].map str)) rfl (fun w=>by kernel_rfl) (fun b62 w62 adh adi zB RV=>?_)))))))))))))))))))))))
 have hK3:=(hK1.ext he2).ext zB
 refine L.o (O.call (xs:=[.tmp 61,.tmp 62]) call68 rfl rfl (aX 0 _ [bH,aS] b (aG d s) s.last w62 (Strs.ay RV rfl (by decide) (Nat.zero_le _)) hK3.row rfl) (fun v3 w3 hq=>?_))
 obtain ⟨rfl,rfl⟩:=hq
 rw [decide_eq_false hlast]
 refine L.m rfl (L.p (L.p (L.p (L.o (O.ah rfl rfl (L.bJ (xs:=[.tmp 68]) rfl call108 rfl rfl (dw w3) (fun w' a hR ha=>⟨ha.defers,rfl,by rw [hR];exact (he1.trans he2).trans zB⟩)))))))
theorem yC (w0:World) (b:Nat) (s:PS) (S:Nat→Prop) (l:Str) (r:List Str) (w:World) (hI:RdI w0 b s S w) (hll:l.length≤100000) (hf:fieldsB l=bF::r) (hlast:s.last ∉ [bH,aS,bF,bG]) :
  Calls Tryz.prog 67 #[.pointer (some ⟨b,0,none⟩),str l] w (Pan (bU) fun w'=>Ext w w'):=by
 refine T.fA (vs:=[.pointer (some ⟨b,0,none⟩),str l]) func67 rfl ntmps67 rfl ?_
 refine T.q (L.m rfl (L.o (O.call (xs:=[.tmp 10,.func 121]) call120 rfl rfl (aQ l w hll) (fun v1 w1 hq=>?_))))
 obtain ⟨A,rfl,hS1,he1⟩:=hq
 obtain ⟨d,hK⟩:=hI
 have hK1:=hK.ext he1
 rw [hf]
 rw [hf] at hS1
 refine L.a rfl (L.nil (T.seq (T.q (L.m rfl (L.o (O.len runUnderlying61 rfl (Sl.val hS1) (L.o (O.dY rfl rfl (by simp;omega) (L.nil (T.cf (T.skip (T.seq (?_)))))))))))))
 refine T.dL mixed 6 [4] rfl [.is _,.is _,.is _,.is _,.is _,.is _] [[],[0],[1],[],[3],[2]] [[],[0],[0,1],[],[3],[0,1,2],[0,1,2,3,4,5]] (by kernel_rfl) (by kernel_rfl) rfl (by kernel_rfl) trivial ⟨fun wx hx=>Ob.o (O.move rfl kR),
   fun wx hx=>Ob.o (O.indexAddr runUnderlying61 sizeOf9 rfl rfl (hS1.ext hx) (by decide) (by simp) kR),
   fun wx hx=>Ob.o (O.load isAgg9 rfl ((hS1.ext hx).at (show 0<(bF::r).length by simp)) kR),
   fun wx hx=>Ob.o (O.move rfl kR),
   fun wx hx=>Ob.o (O.jk (l:=1) runUnderlying61 sizeOf9 rfl rfl hS1 (by simp) kR),
   fun wx hx=>Ob.o (O.assign rfl kR),
   trivial⟩ (fun w2 he2=>?_)
 have hR2:=bC (hS1.ext he2) rfl
 refine L.a rfl (L.nil (T.seq (T.q (L.m rfl (L.nil (T.block (T.q (L.o (O.aA runUnderlying9 rfl rfl (show ¬ bF=bH by decide) (L.a rfl (L.nil (T.cf (T.q (L.o (O.aA runUnderlying9 rfl rfl (show ¬ bF=aS by decide) (L.a rfl (L.nil (T.cf (T.q (L.o (O.aY runUnderlying9 rfl rfl rfl (L.a rfl (?_)))))))))))))))))))))))
 refine L.nil (T.ct (T.q (L.m rfl (L.o (O.buildSlice (el:=9) (parts:=[(0,_),(1,_),(2,_),(3,_)]) (vs:=[(0,_),(1,_),(2,_),(3,_)]) (cs:=([bH,aS,bF,bG].map str)) rfl (fun w=>by kernel_rfl) (fun b95 w95 afy afz Rk ZH=>?_))))))
 have hK3:=(hK1.ext he2).ext Rk
 refine L.o (O.call (xs:=[.tmp 94,.tmp 95]) call68 rfl rfl (aX 0 _ [bH,aS,bF,bG] b (aG d s) s.last w95 (Strs.ay ZH rfl (by decide) (Nat.zero_le _)) hK3.row rfl) (fun v3 w3 hq=>?_))
 obtain ⟨rfl,rfl⟩:=hq
 rw [decide_eq_false hlast]
 refine L.bJ (xs:=[.tmp 96]) rfl call108 rfl rfl (dw w3) (fun w' a hR ha=>⟨ha.defers,rfl,by rw [hR];exact (he1.trans he2).trans Rk⟩)
theorem yD (w0:World) (b:Nat) (s:PS) (S:Nat→Prop) (l:Str) (r:List Str) (w:World) (hI:RdI w0 b s S w) (hll:l.length≤100000) (hf:fieldsB l=bG::r) (hlast:s.last ∉ [bF,bG]) :
  Calls Tryz.prog 67 #[.pointer (some ⟨b,0,none⟩),str l] w (Pan (bU) fun w'=>Ext w w'):=by
 refine T.fA (vs:=[.pointer (some ⟨b,0,none⟩),str l]) func67 rfl ntmps67 rfl ?_
 refine T.q (L.m rfl (L.o (O.call (xs:=[.tmp 10,.func 121]) call120 rfl rfl (aQ l w hll) (fun v1 w1 hq=>?_))))
 obtain ⟨A,rfl,hS1,he1⟩:=hq
 obtain ⟨d,hK⟩:=hI
 have hK1:=hK.ext he1
 rw [hf]
 rw [hf] at hS1
 refine L.a rfl (L.nil (T.seq (T.q (L.m rfl (L.o (O.len runUnderlying61 rfl (Sl.val hS1) (L.o (O.dY rfl rfl (by simp;omega) (L.nil (T.cf (T.skip (T.seq (?_)))))))))))))
 refine T.dL mixed 6 [4] rfl [.is _,.is _,.is _,.is _,.is _,.is _] [[],[0],[1],[],[3],[2]] [[],[0],[0,1],[],[3],[0,1,2],[0,1,2,3,4,5]] (by kernel_rfl) (by kernel_rfl) rfl (by kernel_rfl) trivial ⟨fun wx hx=>Ob.o (O.move rfl kR),
   fun wx hx=>Ob.o (O.indexAddr runUnderlying61 sizeOf9 rfl rfl (hS1.ext hx) (by decide) (by simp) kR),
   fun wx hx=>Ob.o (O.load isAgg9 rfl ((hS1.ext hx).at (show 0<(bG::r).length by simp)) kR),
   fun wx hx=>Ob.o (O.move rfl kR),
   fun wx hx=>Ob.o (O.jk (l:=1) runUnderlying61 sizeOf9 rfl rfl hS1 (by simp) kR),
   fun wx hx=>Ob.o (O.assign rfl kR),
   trivial⟩ (fun w2 he2=>?_)
 have hR2:=bC (hS1.ext he2) rfl
 refine L.a rfl (L.nil (T.seq (T.q (L.m rfl (L.nil (T.block (T.q (L.o (O.aA runUnderlying9 rfl rfl (show ¬ bG=bH by decide) (L.a rfl (L.nil (T.cf (T.q (L.o (O.aA runUnderlying9 rfl rfl (show ¬ bG=aS by decide) (L.a rfl (L.nil (T.cf (T.q (L.o (O.aA runUnderlying9 rfl rfl (show ¬ bG=bF by decide) (L.a rfl (?_)))))))))))))))))))))))
 refine L.nil (T.cf (T.q (L.o (O.aY runUnderlying9 rfl rfl rfl (L.a rfl (L.nil (T.ct (T.q (L.m rfl (L.o (O.buildSlice (el:=9) (parts:=[(0,_),(1,_)]) (vs:=[(0,_),(1,_)]) (cs:=([bF,bG].map str)) rfl (fun w=>by kernel_rfl) (fun afC PX ZJ Xd vN I9=>?_))))))))))))
 have hK3:=(hK1.ext he2).ext vN
 refine L.o (O.call (xs:=[.tmp 116,.tmp 117]) call68 rfl rfl (aX 0 _ [bF,bG] b (aG d s) s.last PX (Strs.ay I9 rfl (by decide) (Nat.zero_le _)) hK3.row rfl) (fun v3 w3 hq=>?_))
 obtain ⟨rfl,rfl⟩:=hq
 rw [decide_eq_false hlast]
 refine L.bJ (xs:=[.tmp 118]) rfl call108 rfl rfl (dw w3) (fun w' a hR ha=>⟨ha.defers,rfl,by rw [hR];exact (he1.trans he2).trans vN⟩)
theorem vP (w0:World) (b:Nat) (s:PS) (S:Nat→Prop) (l:Str) (r:List Str) (w:World) (hI:RdI w0 b s S w) (hll:l.length≤100000) (hf:fieldsB l=cO::r) (hlast:s.last ∈ [[],fH]) :
  Calls Tryz.prog 67 #[.pointer (some ⟨b,0,none⟩),str l] w (Pan (bU) fun w'=>Ext w w'):=by
 refine T.fA (vs:=[.pointer (some ⟨b,0,none⟩),str l]) func67 rfl ntmps67 rfl ?_
 refine T.q (L.m rfl (L.o (O.call (xs:=[.tmp 10,.func 121]) call120 rfl rfl (aQ l w hll) (fun v1 w1 hq=>?_))))
 obtain ⟨A,rfl,hS1,he1⟩:=hq
 obtain ⟨d,hK⟩:=hI
 have hK1:=hK.ext he1
 rw [hf]
 rw [hf] at hS1
 refine L.a rfl (L.nil (T.seq (T.q (L.m rfl (L.o (O.len runUnderlying61 rfl (Sl.val hS1) (L.o (O.dY rfl rfl (by simp;omega) (L.nil (T.cf (T.skip (T.seq (?_)))))))))))))
 refine T.dL mixed 6 [4] rfl [.is _,.is _,.is _,.is _,.is _,.is _] [[],[0],[1],[],[3],[2]] [[],[0],[0,1],[],[3],[0,1,2],[0,1,2,3,4,5]] (by kernel_rfl) (by kernel_rfl) rfl (by kernel_rfl) trivial ⟨fun wx hx=>Ob.o (O.move rfl kR),
   fun wx hx=>Ob.o (O.indexAddr runUnderlying61 sizeOf9 rfl rfl (hS1.ext hx) (by decide) (by simp) kR),
   fun wx hx=>Ob.o (O.load isAgg9 rfl ((hS1.ext hx).at (show 0<(cO::r).length by simp)) kR),
   fun wx hx=>Ob.o (O.move rfl kR),
   fun wx hx=>Ob.o (O.jk (l:=1) runUnderlying61 sizeOf9 rfl rfl hS1 (by simp) kR),
   fun wx hx=>Ob.o (O.assign rfl kR),
   trivial⟩ (fun w2 he2=>?_)
 have hR2:=bC (hS1.ext he2) rfl
 refine L.a rfl (L.nil (T.seq (T.q (L.m rfl (L.nil (T.block (T.q (L.o (O.aA runUnderlying9 rfl rfl (show ¬ cO=bH by decide) (L.a rfl (L.nil (T.cf (T.q (L.o (O.aA runUnderlying9 rfl rfl (show ¬ cO=aS by decide) (L.a rfl (L.nil (T.cf (T.q (L.o (O.aA runUnderlying9 rfl rfl (show ¬ cO=bF by decide) (L.a rfl (?_)))))))))))))))))))))))
 refine L.nil (T.cf (T.q (L.o (O.aA runUnderlying9 rfl rfl (show ¬ cO=bG by decide) (L.a rfl (L.nil (T.cf (T.q (L.o (O.aY runUnderlying9 rfl rfl rfl (L.a rfl (L.nil (T.ct (T.q (L.m rfl (L.o (O.buildSlice (el:=9) (parts:=[(0,_),(1,_)]) (vs:=[(0,_),(1,_)]) (cs:=([[],fH].map str)) rfl (fun w=>by kernel_rfl) (fun afD ZK ZL ZM zC Qe=>?_))))))))))))))))))
 have hK3:=(hK1.ext he2).ext zC
 refine L.o (O.call (xs:=[.tmp 148,.tmp 149]) call68 rfl rfl (aX 0 _ [[],fH] b (aG d s) s.last ZK (Strs.ay Qe rfl (by decide) (Nat.zero_le _)) hK3.row rfl) (fun v3 w3 hq=>?_))
 obtain ⟨rfl,rfl⟩:=hq
 rw [decide_eq_true hlast]
 refine L.o (O.not rfl (L.bJ (xs:=[.tmp 151]) rfl call108 rfl rfl (dw w3) (fun w' a hR ha=>⟨ha.defers,rfl,by rw [hR];exact (he1.trans he2).trans zC⟩)))
theorem zD (w0:World) (b:Nat) (s:PS) (S:Nat→Prop) (l:Str) (r:List Str) (w:World) (hI:RdI w0 b s S w) (hll:l.length≤100000) (hf:fieldsB l=fH::r) (hlast:s.last ∈ [[],fH]) :
  Calls Tryz.prog 67 #[.pointer (some ⟨b,0,none⟩),str l] w (Pan (bU) fun w'=>Ext w w'):=by
 refine T.fA (vs:=[.pointer (some ⟨b,0,none⟩),str l]) func67 rfl ntmps67 rfl ?_
 refine T.q (L.m rfl (L.o (O.call (xs:=[.tmp 10,.func 121]) call120 rfl rfl (aQ l w hll) (fun v1 w1 hq=>?_))))
 obtain ⟨A,rfl,hS1,he1⟩:=hq
 obtain ⟨d,hK⟩:=hI
 have hK1:=hK.ext he1
 rw [hf]
 rw [hf] at hS1
 refine L.a rfl (L.nil (T.seq (T.q (L.m rfl (L.o (O.len runUnderlying61 rfl (Sl.val hS1) (L.o (O.dY rfl rfl (by simp;omega) (L.nil (T.cf (T.skip (T.seq (?_)))))))))))))
 refine T.dL mixed 6 [4] rfl [.is _,.is _,.is _,.is _,.is _,.is _] [[],[0],[1],[],[3],[2]] [[],[0],[0,1],[],[3],[0,1,2],[0,1,2,3,4,5]] (by kernel_rfl) (by kernel_rfl) rfl (by kernel_rfl) trivial ⟨fun wx hx=>Ob.o (O.move rfl kR),
   fun wx hx=>Ob.o (O.indexAddr runUnderlying61 sizeOf9 rfl rfl (hS1.ext hx) (by decide) (by simp) kR),
   fun wx hx=>Ob.o (O.load isAgg9 rfl ((hS1.ext hx).at (show 0<(fH::r).length by simp)) kR),
   fun wx hx=>Ob.o (O.move rfl kR),
   fun wx hx=>Ob.o (O.jk (l:=1) runUnderlying61 sizeOf9 rfl rfl hS1 (by simp) kR),
   fun wx hx=>Ob.o (O.assign rfl kR),
   trivial⟩ (fun w2 he2=>?_)
 have hR2:=bC (hS1.ext he2) rfl
 refine L.a rfl (L.nil (T.seq (T.q (L.m rfl (L.nil (T.block (T.q (L.o (O.aA runUnderlying9 rfl rfl (show ¬ fH=bH by decide) (L.a rfl (L.nil (T.cf (T.q (L.o (O.aA runUnderlying9 rfl rfl (show ¬ fH=aS by decide) (L.a rfl (L.nil (T.cf (T.q (L.o (O.aA runUnderlying9 rfl rfl (show ¬ fH=bF by decide) (L.a rfl (?_)))))))))))))))))))))))
 refine L.nil (T.cf (T.q (L.o (O.aA runUnderlying9 rfl rfl (show ¬ fH=bG by decide) (L.a rfl (L.nil (T.cf (T.q (L.o (O.aA runUnderlying9 rfl rfl (show ¬ fH=cO by decide) (L.a rfl (L.nil (T.cf (T.q (L.o (O.aY runUnderlying9 rfl rfl rfl (L.a rfl (L.nil (T.ct (T.region (L.m rfl (L.o (O.buildSlice (el:=9) (parts:=[(0,_),(1,_)]) (vs:=[(0,_),(1,_)]) (cs:=([[],fH].map str)) rfl (fun w=>by kernel_rfl) (fun afr Zz ZA ZB zy P6=>?_))))))))))))))))))))))))
 have hK3:=(hK1.ext he2).ext zy
 refine L.o (O.call (xs:=[.tmp 158,.tmp 159]) call68 rfl rfl (aX 0 _ [[],fH] b (aG d s) s.last Zz (Strs.ay P6 rfl (by decide) (Nat.zero_le _)) hK3.row rfl) (fun v3 w3 hq=>?_))
 obtain ⟨rfl,rfl⟩:=hq
 rw [decide_eq_true hlast]
 refine L.o (O.not rfl (L.m rfl (L.p (L.p (L.p (L.o (O.ah rfl rfl (L.bJ (xs:=[.tmp 166]) rfl call108 rfl rfl (dw w3) (fun w' a hR ha=>⟨ha.defers,rfl,by rw [hR];exact (he1.trans he2).trans zy⟩)))))))))
open Go Go.E RowKit
theorem yE (w0:World) (b:Nat) (s:PS) (S:Nat→Prop) (l:Str) (r:List Str) (w:World) (hI:RdI w0 b s S w) (hll:l.length≤100000) (hf:fieldsB l=bH::r) (hlast:s.last ∈ [[]]) (hr:¬ r.length=3) :
  Calls Tryz.prog 67 #[.pointer (some ⟨b,0,none⟩),str l] w (Pan (bU) fun w'=>Ext w w'):=by
 refine T.fA (vs:=[.pointer (some ⟨b,0,none⟩),str l]) func67 rfl ntmps67 rfl ?_
 refine T.q (L.m rfl (L.o (O.call (xs:=[.tmp 10,.func 121]) call120 rfl rfl (aQ l w hll) (fun v1 w1 hq=>?_))))
 obtain ⟨A,rfl,hS1,he1⟩:=hq
 obtain ⟨d,hK⟩:=hI
 have hK1:=hK.ext he1
 rw [hf]
 rw [hf] at hS1
 refine L.a rfl (L.nil (T.seq (T.q (L.m rfl (L.o (O.len runUnderlying61 rfl (Sl.val hS1) (L.o (O.dY rfl rfl (by simp;omega) (L.nil (T.cf (T.skip (T.seq (?_)))))))))))))
 refine T.dL mixed 6 [4] rfl [.is _,.is _,.is _,.is _,.is _,.is _] [[],[0],[1],[],[3],[2]] [[],[0],[0,1],[],[3],[0,1,2],[0,1,2,3,4,5]] (by kernel_rfl) (by kernel_rfl) rfl (by kernel_rfl) trivial ⟨fun wx hx=>Ob.o (O.move rfl kR),
   fun wx hx=>Ob.o (O.indexAddr runUnderlying61 sizeOf9 rfl rfl (hS1.ext hx) (by decide) (by simp) kR),
   fun wx hx=>Ob.o (O.load isAgg9 rfl ((hS1.ext hx).at (show 0<(bH::r).length by simp)) kR),
   fun wx hx=>Ob.o (O.move rfl kR),
   fun wx hx=>Ob.o (O.jk (l:=1) runUnderlying61 sizeOf9 rfl rfl hS1 (by simp) kR),
   fun wx hx=>Ob.o (O.assign rfl kR),
   trivial⟩ (fun w2 he2=>?_)
 have hR2:=bC (hS1.ext he2) rfl
 refine L.a rfl (L.nil (T.seq (T.q (L.m rfl (L.nil (T.block (T.q (L.o (O.aY runUnderlying9 rfl rfl rfl (L.a rfl (L.nil (T.ct (T.q (L.m rfl (L.o (O.buildSlice (el:=9) (parts:=[(0,_)]) (vs:=[(0,_)]) (cs:=([[]].map str)) rfl (fun w=>by kernel_rfl) (fun b25 w25 adf adg zA yZ=>?_)))))))))))))))))
 have hK3:=(hK1.ext he2).ext zA
 refine L.o (O.call (xs:=[.tmp 24,.tmp 25]) call68 rfl rfl (aX 0 _ [[]] b (aG d s) s.last w25 (Strs.ay yZ rfl (by decide) (Nat.zero_le _)) hK3.row rfl) (fun v3 w3 hq=>?_))
 obtain ⟨rfl,rfl⟩:=hq
 rw [decide_eq_true hlast]
 refine L.m rfl (L.m rfl (L.o (O.len runUnderlying61 rfl (Sl.val (hR2.ext zA)) (L.o (O.dY rfl rfl (by omega) (L.o (O.aj rfl rfl (L.bJ (xs:=[.tmp 31]) rfl call108 rfl rfl (dw w3) (fun w' a hR ha=>⟨ha.defers,rfl,by rw [hR];exact (he1.trans he2).trans zA⟩)))))))))
theorem zF (w0:World) (b:Nat) (s:PS) (S:Nat→Prop) (l:Str) (r:List Str) (w:World) (hI:RdI w0 b s S w) (hll:l.length≤100000) (hf:fieldsB l=bH::r) (hlast:s.last ∈ [[]]) (hr:r.length=3) (hL:ji w) (hn:dN r=none) :
  Calls Tryz.prog 67 #[.pointer (some ⟨b,0,none⟩),str l] w (Pan (bU) fun w'=>Ext w w'):=by
 refine T.fA (vs:=[.pointer (some ⟨b,0,none⟩),str l]) func67 rfl ntmps67 rfl ?_
 refine T.q (L.m rfl (L.o (O.call (xs:=[.tmp 10,.func 121]) call120 rfl rfl (aQ l w hll) (fun v1 w1 hq=>?_))))
 obtain ⟨A,rfl,hS1,he1⟩:=hq
 obtain ⟨d,hK⟩:=hI
 have hK1:=hK.ext he1
 rw [hf]
 rw [hf] at hS1
 refine L.a rfl (L.nil (T.seq (T.q (L.m rfl (L.o (O.len runUnderlying61 rfl (Sl.val hS1) (L.o (O.dY rfl rfl (by simp;omega) (L.nil (T.cf (T.skip (T.seq (?_)))))))))))))
 refine T.dL mixed 6 [4] rfl [.is _,.is _,.is _,.is _,.is _,.is _] [[],[0],[1],[],[3],[2]] [[],[0],[0,1],[],[3],[0,1,2],[0,1,2,3,4,5]] (by kernel_rfl) (by kernel_rfl) rfl (by kernel_rfl) trivial ⟨fun wx hx=>Ob.o (O.move rfl kR),
   fun wx hx=>Ob.o (O.indexAddr runUnderlying61 sizeOf9 rfl rfl (hS1.ext hx) (by decide) (by simp) kR),
   fun wx hx=>Ob.o (O.load isAgg9 rfl ((hS1.ext hx).at (show 0<(bH::r).length by simp)) kR),
   fun wx hx=>Ob.o (O.move rfl kR),
   fun wx hx=>Ob.o (O.jk (l:=1) runUnderlying61 sizeOf9 rfl rfl hS1 (by simp) kR),
   fun wx hx=>Ob.o (O.assign rfl kR),
   trivial⟩ (fun w2 he2=>?_)
 have hR2:=bC (hS1.ext he2) rfl
 refine L.a rfl (L.nil (T.seq (T.q (L.m rfl (L.nil (T.block (T.q (L.o (O.aY runUnderlying9 rfl rfl rfl (L.a rfl (L.nil (T.ct (T.q (L.m rfl (L.o (O.buildSlice (el:=9) (parts:=[(0,_)]) (vs:=[(0,_)]) (cs:=([[]].map str)) rfl (fun w=>by kernel_rfl) (fun b25 w25 adf adg zA yZ=>?_)))))))))))))))))
 have hK3:=(hK1.ext he2).ext zA
 refine L.o (O.call (xs:=[.tmp 24,.tmp 25]) call68 rfl rfl (aX 0 _ [[]] b (aG d s) s.last w25 (Strs.ay yZ rfl (by decide) (Nat.zero_le _)) hK3.row rfl) (fun v3 w3 hq=>?_))
 obtain ⟨rfl,rfl⟩:=hq
 rw [decide_eq_true hlast]
 refine L.m rfl (L.m rfl (L.o (O.len runUnderlying61 rfl (Sl.val (hR2.ext zA)) (L.o (O.iW rfl rfl (by omega) (L.o (O.aj rfl rfl (L.o (O.call (xs:=[.tmp 31]) call108 rfl rfl (dF w3) (fun v4 w4 hq=>?_))))))))))
 obtain rfl:=hq
 refine L.nil (T.q (L.m rfl (L.bJ (xs:=[.tmp 33]) rfl call122 rfl rfl (kF _ _ r w4 (hR2.ext zA) (hL.ext ((he1.trans he2).trans zA)) (bZ hll hf) hn (by omega)) (fun w' a hR ha=>⟨ha.defers,rfl,((he1.trans he2).trans zA).trans hR⟩))))
theorem vS (w0:World) (b:Nat) (s:PS) (S:Nat→Prop) (l:Str) (r:List Str) (w:World) (hI:RdI w0 b s S w) (hll:l.length≤100000) (hf:fieldsB l=aS::r) (hlast:s.last ∈ [bH,aS]) (hr:¬ r.length=2) :
  Calls Tryz.prog 67 #[.pointer (some ⟨b,0,none⟩),str l] w (Pan (bU) fun w'=>Ext w w'):=by
 refine T.fA (vs:=[.pointer (some ⟨b,0,none⟩),str l]) func67 rfl ntmps67 rfl ?_
 refine T.q (L.m rfl (L.o (O.call (xs:=[.tmp 10,.func 121]) call120 rfl rfl (aQ l w hll) (fun v1 w1 hq=>?_))))
 obtain ⟨A,rfl,hS1,he1⟩:=hq
 obtain ⟨d,hK⟩:=hI
 have hK1:=hK.ext he1
 rw [hf]
 rw [hf] at hS1
 refine L.a rfl (L.nil (T.seq (T.q (L.m rfl (L.o (O.len runUnderlying61 rfl (Sl.val hS1) (L.o (O.dY rfl rfl (by simp;omega) (L.nil (T.cf (T.skip (T.seq (?_)))))))))))))
 refine T.dL mixed 6 [4] rfl [.is _,.is _,.is _,.is _,.is _,.is _] [[],[0],[1],[],[3],[2]] [[],[0],[0,1],[],[3],[0,1,2],[0,1,2,3,4,5]] (by kernel_rfl) (by kernel_rfl) rfl (by kernel_rfl) trivial ⟨fun wx hx=>Ob.o (O.move rfl kR),
   fun wx hx=>Ob.o (O.indexAddr runUnderlying61 sizeOf9 rfl rfl (hS1.ext hx) (by decide) (by simp) kR),
   fun wx hx=>Ob.o (O.load isAgg9 rfl ((hS1.ext hx).at (show 0<(aS::r).length by simp)) kR),
   fun wx hx=>Ob.o (O.move rfl kR),
   fun wx hx=>Ob.o (O.jk (l:=1) runUnderlying61 sizeOf9 rfl rfl hS1 (by simp) kR),
   fun wx hx=>Ob.o (O.assign rfl kR),
   trivial⟩ (fun w2 he2=>?_)
 have hR2:=bC (hS1.ext he2) rfl
 refine L.a rfl (L.nil (T.seq (T.q (L.m rfl (L.nil (T.block (T.q (L.o (O.aA runUnderlying9 rfl rfl (show ¬ aS=bH by decide) (L.a rfl (L.nil (T.cf (T.q (L.o (O.aY runUnderlying9 rfl rfl rfl (L.a rfl (L.nil (T.ct (T.q (L.m rfl (L.o (O.buildSlice (el:=9) (parts:=[(0,_),(1,_)]) (vs:=[(0,_),(1,_)]) (cs:=([bH,aS].map str)) rfl (fun w=>by kernel_rfl) (fun b62 w62 adh adi zB RV=>?_)))))))))))))))))))))))
 have hK3:=(hK1.ext he2).ext zB
 refine L.o (O.call (xs:=[.tmp 61,.tmp 62]) call68 rfl rfl (aX 0 _ [bH,aS] b (aG d s) s.last w62 (Strs.ay RV rfl (by decide) (Nat.zero_le _)) hK3.row rfl) (fun v3 w3 hq=>?_))
 obtain ⟨rfl,rfl⟩:=hq
 rw [decide_eq_true hlast]
 refine L.m rfl (L.m rfl (L.o (O.len runUnderlying61 rfl (Sl.val (hR2.ext zB)) (L.o (O.dY rfl rfl (by omega) (L.o (O.aj rfl rfl (L.bJ (xs:=[.tmp 68]) rfl call108 rfl rfl (dw w3) (fun w' a hR ha=>⟨ha.defers,rfl,by rw [hR];exact (he1.trans he2).trans zB⟩)))))))))
theorem yF (w0:World) (b:Nat) (s:PS) (S:Nat→Prop) (l:Str) (r:List Str) (w:World) (hI:RdI w0 b s S w) (hll:l.length≤100000) (hf:fieldsB l=aS::r) (hlast:s.last ∈ [bH,aS]) (hr:r.length=2) (hL:ji w) (hn:dN r=none) :
  Calls Tryz.prog 67 #[.pointer (some ⟨b,0,none⟩),str l] w (Pan (bU) fun w'=>Ext w w'):=by
 refine T.fA (vs:=[.pointer (some ⟨b,0,none⟩),str l]) func67 rfl ntmps67 rfl ?_
 refine T.q (L.m rfl (L.o (O.call (xs:=[.tmp 10,.func 121]) call120 rfl rfl (aQ l w hll) (fun v1 w1 hq=>?_))))
 obtain ⟨A,rfl,hS1,he1⟩:=hq
 obtain ⟨d,hK⟩:=hI
 have hK1:=hK.ext he1
 rw [hf]
 rw [hf] at hS1
 refine L.a rfl (L.nil (T.seq (T.q (L.m rfl (L.o (O.len runUnderlying61 rfl (Sl.val hS1) (L.o (O.dY rfl rfl (by simp;omega) (L.nil (T.cf (T.skip (T.seq (?_)))))))))))))
 refine T.dL mixed 6 [4] rfl [.is _,.is _,.is _,.is _,.is _,.is _] [[],[0],[1],[],[3],[2]] [[],[0],[0,1],[],[3],[0,1,2],[0,1,2,3,4,5]] (by kernel_rfl) (by kernel_rfl) rfl (by kernel_rfl) trivial ⟨fun wx hx=>Ob.o (O.move rfl kR),
   fun wx hx=>Ob.o (O.indexAddr runUnderlying61 sizeOf9 rfl rfl (hS1.ext hx) (by decide) (by simp) kR),
   fun wx hx=>Ob.o (O.load isAgg9 rfl ((hS1.ext hx).at (show 0<(aS::r).length by simp)) kR),
   fun wx hx=>Ob.o (O.move rfl kR),
   fun wx hx=>Ob.o (O.jk (l:=1) runUnderlying61 sizeOf9 rfl rfl hS1 (by simp) kR),
   fun wx hx=>Ob.o (O.assign rfl kR),
   trivial⟩ (fun w2 he2=>?_)
 have hR2:=bC (hS1.ext he2) rfl
 refine L.a rfl (L.nil (T.seq (T.q (L.m rfl (L.nil (T.block (T.q (L.o (O.aA runUnderlying9 rfl rfl (show ¬ aS=bH by decide) (L.a rfl (L.nil (T.cf (T.q (L.o (O.aY runUnderlying9 rfl rfl rfl (L.a rfl (L.nil (T.ct (T.q (L.m rfl (L.o (O.buildSlice (el:=9) (parts:=[(0,_),(1,_)]) (vs:=[(0,_),(1,_)]) (cs:=([bH,aS].map str)) rfl (fun w=>by kernel_rfl) (fun b62 w62 adh adi zB RV=>?_)))))))))))))))))))))))
 have hK3:=(hK1.ext he2).ext zB
 refine L.o (O.call (xs:=[.tmp 61,.tmp 62]) call68 rfl rfl (aX 0 _ [bH,aS] b (aG d s) s.last w62 (Strs.ay RV rfl (by decide) (Nat.zero_le _)) hK3.row rfl) (fun v3 w3 hq=>?_))
 obtain ⟨rfl,rfl⟩:=hq
 rw [decide_eq_true hlast]
 refine L.m rfl (L.m rfl (L.o (O.len runUnderlying61 rfl (Sl.val (hR2.ext zB)) (L.o (O.iW rfl rfl (by omega) (L.o (O.aj rfl rfl (L.o (O.call (xs:=[.tmp 68]) call108 rfl rfl (dF w3) (fun v4 w4 hq=>?_))))))))))
 obtain rfl:=hq
 refine L.nil (T.q (L.m rfl (L.bJ (xs:=[.tmp 70]) rfl call122 rfl rfl (kF _ _ r w4 (hR2.ext zB) (hL.ext ((he1.trans he2).trans zB)) (bZ hll hf) hn (by omega)) (fun w' a hR ha=>⟨ha.defers,rfl,((he1.trans he2).trans zB).trans hR⟩))))
theorem zG (w0:World) (b:Nat) (s:PS) (S:Nat→Prop) (l:Str) (r:List Str) (w:World) (hI:RdI w0 b s S w) (hll:l.length≤100000) (hf:fieldsB l=fH::r) (hlast:s.last ∉ [[],fH]) (hr:¬ r.length=0) :
  Calls Tryz.prog 67 #[.pointer (some ⟨b,0,none⟩),str l] w (Pan (bU) fun w'=>Ext w w'):=by
 refine T.fA (vs:=[.pointer (some ⟨b,0,none⟩),str l]) func67 rfl ntmps67 rfl ?_
 refine T.q (L.m rfl (L.o (O.call (xs:=[.tmp 10,.func 121]) call120 rfl rfl (aQ l w hll) (fun v1 w1 hq=>?_))))
 obtain ⟨A,rfl,hS1,he1⟩:=hq
 obtain ⟨d,hK⟩:=hI
 have hK1:=hK.ext he1
 rw [hf]
 rw [hf] at hS1
 refine L.a rfl (L.nil (T.seq (T.q (L.m rfl (L.o (O.len runUnderlying61 rfl (Sl.val hS1) (L.o (O.dY rfl rfl (by simp;omega) (L.nil (T.cf (T.skip (T.seq (?_)))))))))))))
 refine T.dL mixed 6 [4] rfl [.is _,.is _,.is _,.is _,.is _,.is _] [[],[0],[1],[],[3],[2]] [[],[0],[0,1],[],[3],[0,1,2],[0,1,2,3,4,5]] (by kernel_rfl) (by kernel_rfl) rfl (by kernel_rfl) trivial ⟨fun wx hx=>Ob.o (O.move rfl kR),
   fun wx hx=>Ob.o (O.indexAddr runUnderlying61 sizeOf9 rfl rfl (hS1.ext hx) (by decide) (by simp) kR),
   fun wx hx=>Ob.o (O.load isAgg9 rfl ((hS1.ext hx).at (show 0<(fH::r).length by simp)) kR),
   fun wx hx=>Ob.o (O.move rfl kR),
   fun wx hx=>Ob.o (O.jk (l:=1) runUnderlying61 sizeOf9 rfl rfl hS1 (by simp) kR),
   fun wx hx=>Ob.o (O.assign rfl kR),
   trivial⟩ (fun w2 he2=>?_)
 have hR2:=bC (hS1.ext he2) rfl
 refine L.a rfl (L.nil (T.seq (T.q (L.m rfl (L.nil (T.block (T.q (L.o (O.aA runUnderlying9 rfl rfl (show ¬ fH=bH by decide) (L.a rfl (L.nil (T.cf (T.q (L.o (O.aA runUnderlying9 rfl rfl (show ¬ fH=aS by decide) (L.a rfl (L.nil (T.cf (T.q (L.o (O.aA runUnderlying9 rfl rfl (show ¬ fH=bF by decide) (L.a rfl (?_)))))))))))))))))))))))
 refine L.nil (T.cf (T.q (L.o (O.aA runUnderlying9 rfl rfl (show ¬ fH=bG by decide) (L.a rfl (L.nil (T.cf (T.q (L.o (O.aA runUnderlying9 rfl rfl (show ¬ fH=cO by decide) (L.a rfl (L.nil (T.cf (T.q (L.o (O.aY runUnderlying9 rfl rfl rfl (L.a rfl (L.nil (T.ct (T.region (L.m rfl (L.o (O.buildSlice (el:=9) (parts:=[(0,_),(1,_)]) (vs:=[(0,_),(1,_)]) (cs:=([[],fH].map str)) rfl (fun w=>by kernel_rfl) (fun afr Zz ZA ZB zy P6=>?_))))))))))))))))))))))))
 have hK3:=(hK1.ext he2).ext zy
 refine L.o (O.call (xs:=[.tmp 158,.tmp 159]) call68 rfl rfl (aX 0 _ [[],fH] b (aG d s) s.last Zz (Strs.ay P6 rfl (by decide) (Nat.zero_le _)) hK3.row rfl) (fun v3 w3 hq=>?_))
 obtain ⟨rfl,rfl⟩:=hq
 rw [decide_eq_false hlast]
 refine L.o (O.not rfl (L.m rfl (L.m rfl (L.o (O.len runUnderlying61 rfl (Sl.val (hR2.ext zy)) (L.o (O.dY rfl rfl (by omega) (L.o (O.aj rfl rfl (L.bJ (xs:=[.tmp 166]) rfl call108 rfl rfl (dw w3) (fun w' a hR ha=>⟨ha.defers,rfl,by rw [hR];exact (he1.trans he2).trans zy⟩)))))))))))
open Go Go.E RowKit
theorem zH (w0:World) (b:Nat) (s:PS) (S:Nat→Prop) (l:Str) (r:List Str) (w:World) (hI:RdI w0 b s S w) (hll:l.length≤100000) (hf:fieldsB l=bF::r) (hlast:s.last ∈ [bH,aS,bF,bG]) (hL:ji w) (hn:dN r=none) (hr:r.length≤100000) :
  Calls Tryz.prog 67 #[.pointer (some ⟨b,0,none⟩),str l] w (Pan (bU) fun w'=>Ext w w'):=by
 refine T.fA (vs:=[.pointer (some ⟨b,0,none⟩),str l]) func67 rfl ntmps67 rfl ?_
 refine T.q (L.m rfl (L.o (O.call (xs:=[.tmp 10,.func 121]) call120 rfl rfl (aQ l w hll) (fun v1 w1 hq=>?_))))
 obtain ⟨A,rfl,hS1,he1⟩:=hq
 obtain ⟨d,hK⟩:=hI
 have hK1:=hK.ext he1
 rw [hf]
 rw [hf] at hS1
 refine L.a rfl (L.nil (T.seq (T.q (L.m rfl (L.o (O.len runUnderlying61 rfl (Sl.val hS1) (L.o (O.dY rfl rfl (by simp;omega) (L.nil (T.cf (T.skip (T.seq (?_)))))))))))))
 refine T.dL mixed 6 [4] rfl [.is _,.is _,.is _,.is _,.is _,.is _] [[],[0],[1],[],[3],[2]] [[],[0],[0,1],[],[3],[0,1,2],[0,1,2,3,4,5]] (by kernel_rfl) (by kernel_rfl) rfl (by kernel_rfl) trivial ⟨fun wx hx=>Ob.o (O.move rfl kR),
   fun wx hx=>Ob.o (O.indexAddr runUnderlying61 sizeOf9 rfl rfl (hS1.ext hx) (by decide) (by simp) kR),
   fun wx hx=>Ob.o (O.load isAgg9 rfl ((hS1.ext hx).at (show 0<(bF::r).length by simp)) kR),
   fun wx hx=>Ob.o (O.move rfl kR),
   fun wx hx=>Ob.o (O.jk (l:=1) runUnderlying61 sizeOf9 rfl rfl hS1 (by simp) kR),
   fun wx hx=>Ob.o (O.assign rfl kR),
   trivial⟩ (fun w2 he2=>?_)
 have hR2:=bC (hS1.ext he2) rfl
 refine L.a rfl (L.nil (T.seq (T.q (L.m rfl (L.nil (T.block (T.q (L.o (O.aA runUnderlying9 rfl rfl (show ¬ bF=bH by decide) (L.a rfl (L.nil (T.cf (T.q (L.o (O.aA runUnderlying9 rfl rfl (show ¬ bF=aS by decide) (L.a rfl (L.nil (T.cf (T.q (L.o (O.aY runUnderlying9 rfl rfl rfl (L.a rfl (?_)))))))))))))))))))))))
 refine L.nil (T.ct (T.q (L.m rfl (L.o (O.buildSlice (el:=9) (parts:=[(0,_),(1,_),(2,_),(3,_)]) (vs:=[(0,_),(1,_),(2,_),(3,_)]) (cs:=([bH,aS,bF,bG].map str)) rfl (fun w=>by kernel_rfl) (fun b95 w95 afy afz Rk ZH=>?_))))))
 have hK3:=(hK1.ext he2).ext Rk
 refine L.o (O.call (xs:=[.tmp 94,.tmp 95]) call68 rfl rfl (aX 0 _ [bH,aS,bF,bG] b (aG d s) s.last w95 (Strs.ay ZH rfl (by decide) (Nat.zero_le _)) hK3.row rfl) (fun v3 w3 hq=>?_))
 obtain ⟨rfl,rfl⟩:=hq
 rw [decide_eq_true hlast]
 refine L.o (O.call (xs:=[.tmp 96]) call108 rfl rfl (dF w3) (fun v4 w4 hq=>?_))
 obtain rfl:=hq
 have jV:=(he1.trans he2).trans Rk
 refine L.nil (?_)
 refine T.aen mixed 12 0 [0,6] rfl [.is _,.is _,.is _,.is _,.is _,.is _,.is _,.is _,.such (fun _ _=>False),.such (fun _ _=>False),.such (fun _ _=>False),.such (fun _ _=>False)] [[],[],[1],[2],[3],[4],[5],[],[7],[8],[9],[6,10]] [none,none,none,none,none,none,none,none,none,none,none,none] [[],[],[1],[1,2],[1,2,3],[1,2,3,4],[1,2,3,4,5],[],[7],[7,8],[7,8,9],[1,2,3,4,5,6,7,8,9,10],[0,1,2,3,4,5,6,7,8,9,10,11],[0,1,2,3,4,5,6,7,8,9,10,11,12],[0,1,2,3,4,5,6,7,8,9,10,11,12,13],[0,1,2,3,4,5,6,7,8,9,10,11,12,13,14],[0,1,2,3,4,5,6,7,8,9,10,11,12,13,14,15]] (fun _ W=>Ext w4 W) (Ext) (by kernel_rfl) (by kernel_rfl) (by kernel_rfl) rfl ⟨fun _ _ _ _ h=>h,fun _ _ _ _ h=>h,fun _ _ _ _ h=>h,fun _ _ _ _ h=>h,trivial⟩ (Keep.drew _ _) ⟨fun c wx hx=>vZ.op rfl (O.move rfl ⟨⟨Keep.refl _ _,hx⟩,rfl⟩),
   fun c wx hx=>vZ.op rfl (O.move rfl ⟨⟨Keep.refl _ _,hx⟩,rfl⟩),
   fun c wx hx=>vZ.op rfl (O.nilCheck rfl ⟨⟨Keep.refl _ _,hx⟩,rfl⟩),
   fun c wx hx=>vZ.op rfl (O.fieldAddr runUnderlying129 rfl sizeOf48 rfl ⟨⟨Keep.refl _ _,hx⟩,rfl⟩),
   fun c wx hx=>vZ.op rfl (O.fieldAddr runUnderlying48 rfl sizeOf46 rfl ⟨⟨Keep.refl _ _,hx⟩,rfl⟩),
   fun c wx hx=>vZ.op rfl (O.fieldAddr runUnderlying46 rfl sizeOf44 rfl ⟨⟨Keep.refl _ _,hx⟩,rfl⟩),
   fun c wx hx=>vZ.op rfl (O.load isAgg44 rfl ((Blk.ext (cs:=aG d s) hK3.row hx).cell rfl) ⟨⟨Keep.refl _ _,hx⟩,rfl⟩),
   fun c wx hx=>vZ.op rfl (O.move rfl ⟨⟨Keep.refl _ _,hx⟩,rfl⟩),
   fun c wx hx=>vZ.pan rfl (XL.call (xs:=[.tmp 105]) call122 rfl rfl (kF _ _ r wx ((hR2.ext Rk).ext hx) (hL.ext (jV.trans hx)) (bZ hll hf) hn (by omega)) (fun w' a hR ha=>⟨ha.defers,rfl,(jV.trans hx).trans hR⟩)),
   fun c wx hx adn MF=>MF.elim,
   fun c wx hx v107 Qc=>Qc.elim,
   fun c wx hx adp Qd=>Qd.elim,
   trivial⟩ (fun w15 aaR adn MF v107 Qc adp Qd v109 ads=>?_)
 exact MF.elim
end Go.Proofs.YtnlonpcbgjbbaaaGreatDoor
