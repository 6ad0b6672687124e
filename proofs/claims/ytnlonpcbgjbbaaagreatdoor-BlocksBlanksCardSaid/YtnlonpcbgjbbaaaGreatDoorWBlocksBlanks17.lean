/-
  BlocksBlanks, part 17 of its proof: that it returns true for every input, and each argument reads behind the call as it read before. Conditions: the listed variables read as the program's text lays them (tied by the card).
-/
import Derived.Test.YtnlonpcbgjbbaaaGreatDoorWBlocksBlanks16
set_option linter.unusedVariables false
set_option linter.unusedSimpArgs false
set_option maxRecDepth 20000
set_option linter.unusedVariables false
set_option linter.unusedSimpArgs false
set_option maxRecDepth 20000
namespace Go.Proofs.YtnlonpcbgjbbaaaGreatDoor
open Go.Proofs.Tryz (call108 call120 call122 call68 func67 isAgg3 isAgg43 isAgg44 isAgg9 ntmps67 results67 runUnderlying129 runUnderlying25 runUnderlying30 runUnderlying43 runUnderlying44 runUnderlying46 runUnderlying48 runUnderlying61 runUnderlying9 sizeOf25 sizeOf3 sizeOf43 sizeOf44 sizeOf46 sizeOf48 sizeOf9)
open Go Go.E RowKit
attribute [local irreducible] Go.E.T Go.E.L Go.E.O Go.E.Ob
attribute [local irreducible] Go.E.ObX Go.E.ObG Go.E.ObK
structure dI (ob:Option Nat) (w w':World):Prop where
 os:w'.os=w.os
 tape:w'.tape=w.tape
 output:w'.output=w.output
 size:w.heap.size≤w'.heap.size
 block:∀ k,k<w.heap.size→ob≠some k→w'.heap[k]?=w.heap[k]?
theorem dI.aT {ob:Option Nat} {w w':World} (h:Ext w w'):dI ob w w':=⟨h.os,h.tape,h.output,h.size,fun k hk _=>h.block k (Nat.zero_le _) hk⟩
theorem dI.refl (ob:Option Nat) (w:World):dI ob w w:=.aT (Keep.refl _ _)
theorem dI.trans {ob:Option Nat} {w w1 w2:World} (h:dI ob w w1) (k:dI ob w1 w2):dI ob w w2 :=
 ⟨k.os.trans h.os,k.tape.trans h.tape,k.output.trans h.output,Nat.le_trans h.size k.size,fun i hi ho=>(k.block i (Nat.lt_of_lt_of_le hi h.size) ho).trans (h.block i hi ho)⟩
theorem dI.jq {ob:Option Nat} {w w':World} (h:w.grownBy w' ob):dI ob w w' :=
 have h0:Keep w.heap.size w w':=by
  refine Keep.grown (Keep.refl _ _) h fun j _=>?_
  exact Nat.lt_or_ge _ _
 ⟨h0.os,h0.tape,h0.output,h0.size,fun k hk ho=>h.block k hk (fun e=>ho e.symm)⟩
theorem dI.ext {ob:Option Nat} {w w':World} (h:dI ob w w') {w0:World} (hw:Ext w0 w) (hn:∀ k,ob=some k→w0.heap.size≤k):Ext w0 w' :=
 ⟨h.os.trans hw.os,h.tape.trans hw.tape,h.output.trans hw.output,Nat.le_trans hw.size h.size,fun k _ hk=>(h.block k (Nat.lt_of_lt_of_le hk hw.size) (fun e=>by have:=hn k e;omega)).trans (hw.block k (Nat.zero_le _) hk)⟩
theorem dI.blk {ob:Option Nat} {w w':World} {b:Nat} {cs:List Value} {t:TypeId} (h:dI ob w w') (hB:Blk w b cs t) (hn:ob≠some b):Blk w' b cs t:=(h.block b hB.lt hn).trans hB
theorem nN {w:World} {base n sz b:Nat} {el t:TypeId} {v:Value} {xs cs:List Value} (h:w.ownsRow base el sz v n xs) (hb:Blk w b cs t) (he:el≠t):v.ownBlock≠some b:=fun e=>DL h hb he b e rfl
def dO (Q:Nat→Prop) (W:World) (v:Value) (xs:List Int):Prop :=
 (v = .slice none 0 0∧xs = [])∨∃ k off cap cs,v = .slice (some ⟨k,off,none⟩) xs.length cap∧xs.length≤cap∧cap≤maxLen∧Q k∧Blk W k cs 3∧(cs.drop off).take xs.length=xs.map (Value.int .i64)
theorem dO.ints {Q:Nat→Prop} {W:World} {v:Value} {xs:List Int} (h:dO Q W v xs):Ints .i64 0 W v xs:=by
 rcases h with ⟨rfl,rfl⟩|⟨k,off,cap,cs,rfl,h1,h2,h3,h4,h5⟩
 ·exact Sl.nil _ _ _
 refine ⟨by simp,some ⟨k,off,none⟩,cap,rfl,h1,h2,.inr ⟨_,rfl,Nat.zero_le _,?_⟩⟩
 have:=((Row.aA h4).drop off).take xs.length
 rw [h5] at this
 exact this.of_eq (by rw [Au];simp)
theorem dO.aS {base:Nat} {Q:Nat→Prop} {W:World} {v:Value} {xs:List Int} (h:W.ownsRow base 3 1 v xs.length (xs.map (Value.int .i64))) (hQ:∀ k,base≤k→k<W.heap.size→Q k):dO Q W v xs:=by
 rcases h.2 with ⟨h1,h2⟩|⟨g,cap,cur,rfl,hb,hg,hn,hm,hsz,htk⟩
 ·exact .inl ⟨h1,List.length_eq_zero_iff.1 h2⟩
 have hB:Blk W g cur.toList 3:=by unfold Blk;simpa using hg
 exact .inr ⟨g,0,cap,cur.toList,rfl,hn,hm,hQ g hb hB.lt,hB,by simpa using htk⟩
theorem dO.stay {Q Q':Nat→Prop} {W W':World} {v:Value} {xs:List Int} (h:dO Q W v xs) (hk:∀ k cs,Q k→Blk W k cs 3→Q' k∧Blk W' k cs 3):dO Q' W' v xs:=by
 rcases h with h|⟨b,off,cap,cs,h0,h1,h2,h3,h4,h5⟩
 ·exact .inl h
 obtain ⟨k1,k2⟩:=hk b cs h3 h4
 exact .inr ⟨b,off,cap,cs,h0,h1,h2,k1,k2,h5⟩
def BH (Q:Nat→Prop) (W:World) (el:TypeId) (sz:Nat) (v:Value) (n:Nat) (xs:List Value):Prop:=W.ownsRow 0 el sz v n xs∧∀ k,v.ownBlock=some k→Q k
theorem BH.nil (Q:Nat→Prop) (W:World) (el:TypeId) (sz:Nat):BH Q W el sz (.slice none 0 0) 0 []:=⟨fH _ _ _ _,fun k h=>by cases h⟩
theorem BH.stay {Q Q':Nat→Prop} {W W':World} {el:TypeId} {sz n:Nat} {v:Value} {xs:List Value} (h:BH Q W el sz v n xs) (hk:∀ k cs,Q k→v.ownBlock=some k→Blk W k cs el→Q' k∧Blk W' k cs el):BH Q' W' el sz v n xs:=by
 obtain ⟨⟨h1,h2⟩,h3⟩:=h
 rcases h2 with ⟨h4,h5⟩|⟨g,cap,cur,rfl,hb,hg,hn,hm,hsz,htk⟩
 ·subst h4
  exact ⟨⟨h1,.inl ⟨rfl,h5⟩⟩,fun k h=>by cases h⟩
 have hB:Blk W g cur.toList el:=by unfold Blk;simpa using hg
 obtain ⟨k1,k2⟩:=hk g _ (h3 g rfl) rfl hB
 exact ⟨⟨h1,.inr ⟨g,cap,cur,rfl,hb,by unfold Blk at k2;simpa using k2,hn,hm,hsz,htk⟩⟩,fun k e=>by cases e;exact k1⟩
structure PU where
 nm:Str
 pp:Int
 gs:List Int
 vs:List Int
 qs:List Int
 wt:Bool
structure PS where
 ps:List Pt
 fs:List (List Int × List (List Int))
 G:Int
 P:Int
 L:Int
 us:List PU
 last:Str
def PS0:PS:=⟨[],[],0,0,0,[],[]⟩
def bP:Str:=[117,110,105,116]
def Ir:Str:=[119,97,116,101,114]
def uo (s:PS) (r:List Str):Option PU :=
 let wt:=decide (1<r.length) && decide (r.getD (r.length-1) []=Ir)
 let q:=if wt then r.take (r.length-1) else r
 if 0≤s.G∧0≤s.P∧0≤s.L∧(q.length:Int)=2+s.G+s.P+s.L then
  match dY (q.drop 1) with
  | some xs=>some ⟨q.getD 0 [],xs.getD 0 0,(xs.drop 1).take s.G.toNat,(xs.drop (1+s.G.toNat)).take s.P.toNat,xs.drop (1+s.G.toNat+s.P.toNat),wt⟩
  | none=>none
 else none
def rJ (fs:List (List Int × List (List Int))) (h:List Int):List (List Int × List (List Int)):=match fs.getLast? with
 | some f=>fs.dropLast ++ [(f.1,f.2 ++ [h])]
 | none=>fs
def eP (s:PS) (l:Str):Option PS:=match fieldsB l with
 | []=>some s
 | k::r =>
  if k=bD then
   (if s.last = []∧r.length=3 then (match dY r with|some xs=>some { s with G:=xs.getD 0 0,P:=xs.getD 1 0,L:=xs.getD 2 0,last:=k } | none=>none) else none)
  else if k=aN then
   (if s.last ∈ [bD,aN]∧r.length=2 then (match dY r with|some xs=>some { s with ps:=s.ps ++ [(xs.getD 0 0,xs.getD 1 0)],last:=k } | none=>none) else none)
  else if k=aZ then
   (if s.last ∈ [bD,aN,aZ,bn] then (match dY r with|some xs=>some { s with fs:=s.fs ++ [(xs,[])],last:=k } | none=>none) else none)
  else if k=bn then
   (if s.last ∈ [aZ,bn] then (match dY r with|some xs=>some { s with fs:=rJ s.fs xs,last:=k } | none=>none) else none)
  else if k=bP then
   (if s.last ∉ [[],dL] then (match uo s r with|some u=>some { s with us:=s.us ++ [u],last:=k } | none=>none) else none)
  else if k=dL then
   (if s.last ∉ [[],dL]∧r.length=0 then some { s with last:=k } else none)
  else none
theorem Oa {s s':PS} {l:Str} (h:eP s l=some s') (hs:s.last ∈ [aZ,bn]→s.fs ≠ []):s'.last ∈ [aZ,bn]→s'.fs ≠ []:=by
 unfold eP at h
 split at h
 ·cases h;exact hs
 split at h
 ·split at h
  ·split at h
   ·cases h;rename_i hk _ _ _ _;intro hm;simp [hk,bD,aZ,bn] at hm
   cases h
  cases h
 split at h
 ·split at h
  ·split at h
   ·cases h;rename_i hk _ _ _ _;intro hm;simp [hk,aN,aZ,bn] at hm
   cases h
  cases h
 split at h
 ·split at h
  ·split at h
   ·cases h;intro _;simp
   cases h
  cases h
 split at h
 ·split at h
  ·split at h
   ·cases h
    rename_i hl _ _ _
    intro _
    have:=hs hl
    simp only [rJ]
    cases hg:s.fs.getLast? with
    | none=>exact absurd (List.getLast?_eq_none_iff.1 hg) this
    | some f=>simp
   cases h
  cases h
 split at h
 ·split at h
  ·split at h
   ·cases h;rename_i hk _ _ _ _;intro hm;simp [hk,bP,aZ,bn] at hm
   cases h
  cases h
 split at h
 ·split at h
  ·cases h;rename_i hk _;intro hm;simp [hk,dL,aZ,bn] at hm
  cases h
 cases h
open Go Go.E RowKit
def pu0:PU:=⟨[],0,[],[],[],false⟩
structure FaO (Q:Nat→Prop) (W:World) (v:FaV) (f:List Int × List (List Int)):Prop where
 ox:v.o.xs=f.1
 oi:dO Q W v.o.v f.1
 hx:v.hs.map (·.xs)=f.2
 hv:BH Q W 30 1 v.hv v.hs.length (aJ v.hs)
 ri:∀ h∈v.hs,dO Q W h.v h.xs
structure UnO (Q:Nat→Prop) (W:World) (v:UnV) (u:PU):Prop where
 nm:v.nm=u.nm
 pp:v.pp=u.pp
 gs:v.gs=u.gs
 vs:v.vs=u.vs
 qs:v.ps=u.qs
 wt:v.wt=u.wt
 gi:dO Q W v.gv u.gs
 vi:dO Q W v.vv u.vs
 qi:dO Q W v.pv u.qs
theorem FaO.stay {Q Q':Nat→Prop} {W W':World} {v:FaV} {f:List Int × List (List Int)} (h:FaO Q W v f) (hk:∀ k cs t,Q k→Blk W k cs t→Q' k∧Blk W' k cs t):FaO Q' W' v f :=
 ⟨h.ox,h.oi.stay fun k cs q b=>hk k cs _ q b,h.hx,h.hv.stay fun k cs q _ b=>hk k cs _ q b,fun x hx=>(h.ri x hx).stay fun k cs q b=>hk k cs _ q b⟩
theorem UnO.stay {Q Q':Nat→Prop} {W W':World} {v:UnV} {u:PU} (h:UnO Q W v u) (hk:∀ k cs,Q k→Blk W k cs 3→Q' k∧Blk W' k cs 3):UnO Q' W' v u :=
 ⟨h.nm,h.pp,h.gs,h.vs,h.qs,h.wt,h.gi.stay hk,h.vi.stay hk,h.qi.stay hk⟩
structure RdD where
 pv:Value
 fv:Value
 uv:Value
 vs:List FaV
 us:List UnV
def aG (d:RdD) (s:PS):List Value:=[d.pv,d.fv,.int .i64 s.G,.int .i64 s.P,.int .i64 s.L,d.uv,str s.last]
def RdQ (w0:World) (b:Nat) (S:Nat→Prop) (k:Nat):Prop:=w0.heap.size≤k∧k≠b∧¬ S k
structure RdK (w0:World) (b:Nat) (d:RdD) (s:PS) (S:Nat→Prop) (W:World):Prop where
 e:Ext w0 W
 lo:w0.heap.size≤b
 row:Blk W b (aG d s) 129
 pts:BH (RdQ w0 b S) W 124 2 d.pv s.ps.length (pcs s.ps)
 fsr:BH (RdQ w0 b S) W 127 2 d.fv d.vs.length (bT d.vs)
 fsl:d.vs.length=s.fs.length
 fa:∀ i,i<d.vs.length→FaO (RdQ w0 b S) W (d.vs.getD i f0) (s.fs.getD i ([],[]))
 sep:∀ i,i+1<d.vs.length→∀ k,(d.vs.getD (d.vs.length-1) f0).hv.ownBlock=some k→(d.vs.getD i f0).hv.ownBlock≠some k
 usr:BH (RdQ w0 b S) W 51 6 d.uv d.us.length (fD d.us)
 usl:d.us.length=s.us.length
 un:∀ i,i<d.us.length→UnO (RdQ w0 b S) W (d.us.getD i u0) (s.us.getD i pu0)
 big:(-1000000000≤s.G∧s.G≤1000000000)∧(-1000000000≤s.P∧s.P≤1000000000) ∧ -1000000000≤s.L∧s.L≤1000000000
 S:∀ k,S k→w0.heap.size≤k∧k<W.heap.size∧k≠b
theorem RdK.stay {w0:World} {b:Nat} {d:RdD} {s:PS} {S S':Nat→Prop} {W W':World} (h:RdK w0 b d s S W) (he:Ext w0 W') (hb:Blk W' b (aG d s) 129) (hS:∀ k,S' k→w0.heap.size≤k∧k<W'.heap.size∧k≠b)
  (hk:∀ k cs t,RdQ w0 b S k→Blk W k cs t→RdQ w0 b S' k∧Blk W' k cs t):RdK w0 b d s S' W' :=
 ⟨he,h.lo,hb,h.pts.stay fun k cs q _ B=>hk k cs _ q B,h.fsr.stay fun k cs q _ B=>hk k cs _ q B,h.fsl,fun i hi=>(h.fa i hi).stay hk,h.sep,h.usr.stay fun k cs q _ B=>hk k cs _ q B,h.usl,fun i hi=>(h.un i hi).stay fun k cs q B=>hk k cs _ q B,h.big,hS⟩
theorem RdK.ext {w0:World} {b:Nat} {d:RdD} {s:PS} {S:Nat→Prop} {W W':World} (h:RdK w0 b d s S W) (k:Ext W W'):RdK w0 b d s S W' :=
 h.stay (h.e.trans k) (Blk.ext (cs:=aG d s) h.row k) (fun j hj=>by obtain ⟨a1,a2,a3⟩:=h.S j hj;exact ⟨a1,Nat.lt_of_lt_of_le a2 k.size,a3⟩) fun j cs t q B=>⟨q,Blk.ext B k⟩
def RdI (w0:World) (b:Nat) (s:PS) (S:Nat→Prop) (W:World):Prop:=∃ d,RdK w0 b d s S W
theorem RdI.Fp (w0:World) (b:Nat):zQ (RdI w0 b):=by
 refine ⟨?_,?_⟩
 ·rintro s S S' W W' ⟨d,h⟩ k hS
  have hlt:=Blk.lt (cs:=aG d s) h.row
  refine ⟨d,h.stay (h.e.trans k) (Blk.ext (cs:=aG d s) h.row k) (fun j hj=>?_) fun j cs t q B=>⟨⟨q.1,q.2.1,fun hj=>?_⟩,Blk.ext B k⟩⟩
  ·rcases hS j hj with h1|⟨h1,h2⟩
   ·obtain ⟨a1,a2,a3⟩:=h.S j h1
    exact ⟨a1,Nat.lt_of_lt_of_le a2 k.size,a3⟩
   have:=h.e.size
   exact ⟨by omega,h2,by omega⟩
  rcases hS j hj with h1|⟨h1,_⟩
  ·exact q.2.2 h1
  have:=B.lt;omega
 rintro s S W W' j ⟨d,h⟩ hj k
 obtain ⟨a1,a2,a3⟩:=h.S j hj
 refine ⟨d,h.stay (h.e.upd k (.inr a1)) (Blk.upd (cs:=aG d s) h.row k (Ne.symm a3)) (fun i hi=>by rw [k.size];exact h.S i hi) fun i cs t q B=>⟨q,Blk.upd B k (fun e=>q.2.2 (by rw [e];exact hj))⟩⟩
theorem RdI.Oc {w0:World} {b:Nat} {s:PS} {S:Nat→Prop} {W:World} (h:RdI w0 b s S W):Ext w0 W:=by obtain ⟨d,h⟩:=h;exact h.e
def Us (s:PS) (j:Nat):Prop:=s.ps.length≤j∧s.fs.length≤j∧s.us.length≤j∧∀ f∈s.fs,f.2.length≤j
theorem Us.more {s:PS} {j:Nat} (h:Us s j):Us s (j+1):=⟨by have:=h.1;omega,by have:=h.2.1;omega,by have:=h.2.2.1;omega,fun f hf=>by have:=h.2.2.2 f hf;omega⟩
theorem Us.step {s s':PS} {l:Str} {j:Nat} (h:Us s j) (hs:eP s l=some s'):Us s' (j+1):=by
 obtain ⟨h1,h2,h3,h4⟩:=h
 unfold eP at hs
 split at hs
 ·cases hs;exact Us.more ⟨h1,h2,h3,h4⟩
 split at hs
 ·split at hs
  ·split at hs
   ·cases hs;exact Us.more ⟨h1,h2,h3,h4⟩
   cases hs
  cases hs
 split at hs
 ·split at hs
  ·split at hs
   ·cases hs;exact ⟨by simp;omega,by simp only;omega,by simp only;omega,fun f hf=>by have:=h4 f hf;omega⟩
   cases hs
  cases hs
 split at hs
 ·split at hs
  ·split at hs
   ·cases hs
    refine ⟨by simp only;omega,by simp;omega,by simp only;omega,fun f hf=>?_⟩
    rcases List.mem_append.1 hf with hf|hf
    ·have:=h4 f hf;omega
    rw [List.mem_singleton.1 hf];simp
   cases hs
  cases hs
 split at hs
 ·split at hs
  ·split at hs
   ·cases hs
    rename_i xs _
    refine ⟨by simp only;omega,?_,by simp only;omega,fun f hf=>?_⟩
    ·simp only [rJ]
     cases hg:s.fs.getLast? with
     | none=>simp only;omega
     | some f=>simp;omega
    simp only [rJ] at hf
    cases hg:s.fs.getLast? with
    | none=>rw [hg] at hf;have:=h4 f hf;omega
    | some g =>
     rw [hg] at hf
     simp only [List.mem_append,List.mem_singleton] at hf
     rcases hf with hf|hf
     ·have:=h4 f ((List.dropLast_sublist _).subset hf);omega
     have:=h4 g (List.mem_of_getLast? hg)
     rw [hf];simp;omega
   cases hs
  cases hs
 split at hs
 ·split at hs
  ·split at hs
   ·cases hs;exact ⟨by simp only;omega,by simp only;omega,by simp;omega,fun f hf=>by have:=h4 f hf;omega⟩
   cases hs
  cases hs
 split at hs
 ·split at hs
  ·cases hs;exact Us.more ⟨h1,h2,h3,h4⟩
  cases hs
 cases hs
open Go Go.E RowKit
def pU (sz:Nat):Value→Nat→Nat→Value
 | .slice oa _ cap,l,h=>.slice (if cap=l then oa else oa.map (·.add (l*sz))) (h-l) (cap-l)
 | v,_,_=>v
theorem L8 {lo:Nat} {w:World} {v:Value} {n l h sz:Nat} {cs:List Value} (hv:Sl lo w v n sz cs) (h1:l≤h) (h2:h≤n):Sl lo w (pU sz v l h) (h-l) sz ((cs.drop (l*sz)).take ((h-l)*sz)):=by
 obtain ⟨hl,oa,cap,rfl,hc,hm,hr⟩:=hv
 refine ⟨?_,_,cap-l,rfl,by omega,by omega,?_⟩
 ·rw [List.length_take,List.length_drop,hl]
  refine Nat.min_eq_left ?_
  rw [← Nat.sub_mul];exact Nat.mul_le_mul_right _ (by omega)
 rcases hr with hr|⟨ad,e1,e2,e3⟩
 ·left;omega
 by_cases hc2:cap=l
 ·left;omega
 refine .inr ⟨ad.add (l*sz),by rw [if_neg hc2,e1];rfl,by rw [add_block];exact e2,(e3.drop _).take _⟩
theorem O.XJ {C:Cx} {e:Env} {w w₁:World} {K:Value→World→Prop} {d:Option Tmp} {ty:TypeId} {pos:String} {aft:Array Edge} {g:Option (Nat × Bool)} {x y z:Operand} {t:TypeId} {v:Value} {n sz lo l h:Nat} {cs:List Value} {el:TypeId} (hu:∀ w,(underlying t).run C.P w = .ok (.slice el) w) (hs:∀ w,(sizeOf el).run C.P w = .ok sz w) (hx:ev e x=some v) (hy:ev e y=some (.int .i64 l)) (hz:ev e z=some (.int .i64 h))
  (hv:Sl lo w₁ v n sz cs) (h1:l≤h) (h2:h≤n) (hk:K (pU sz v l h) w):O C e ⟨d,.slice t x (some y) (some z) none,ty,pos,aft,g⟩ w K:=by
 obtain ⟨hl,oa,cap,rfl,hc,hm,hr⟩:=hv
 exact O.of_run (by simp) (fun a ha=>by
  simp [execOp,Instr.sliceAt,Instr.slice,Instr.sliceBounds,Instr.sliceBound,asIntOf,ha.eval hx,ha.eval hy,ha.eval hz,hu w,hs w,h1,show h≤cap by omega]
  rfl) hk
theorem O.jr {C:Cx} {e:Env} {w w₁:World} {K:Value→World→Prop} {d:Option Tmp} {ty:TypeId} {pos:String} {aft:Array Edge} {g:Option (Nat × Bool)} {x y:Operand} {t:TypeId} {v:Value} {n sz lo l:Nat} {cs:List Value} {el:TypeId} (hu:∀ w,(underlying t).run C.P w = .ok (.slice el) w) (hs:∀ w,(sizeOf el).run C.P w = .ok sz w) (hx:ev e x=some v) (hy:ev e y=some (.int .i64 l))
  (hv:Sl lo w₁ v n sz cs) (h1:l≤n) (hk:K (pU sz v l n) w):O C e ⟨d,.slice t x (some y) none none,ty,pos,aft,g⟩ w K:=by
 obtain ⟨hl,oa,cap,rfl,hc,hm,hr⟩:=hv
 exact O.of_run (by simp) (fun a ha=>by
  simp [execOp,Instr.sliceAt,Instr.slice,Instr.sliceBounds,Instr.sliceBound,asIntOf,ha.eval hx,ha.eval hy,hu w,hs w,h1]
  rfl) hk
theorem SC {s:Str} : ∀ w∈fieldsB s,w.length≤100000∨s.length > 100000:=fun w hw=>by
 rcases Nat.lt_or_ge 100000 s.length with h|h
 ·exact .inr h
 refine .inl ?_
 simp only [fieldsB,List.mem_map,Lib.goFieldsP] at hw
 obtain ⟨x,⟨y,_,rfl⟩,rfl⟩:=hw
 have:(ByteArray.extract ⟨s.toArray⟩ y.1 y.2).data.toList.length≤s.length:=by
  simp [ByteArray.data_extract];omega
 omega
theorem SE (w0:World) (b:Nat) (s:PS) (S:Nat→Prop) (l:Str) (w:World) (hI:RdI w0 b s S w) (hl:l.length≤100000) (hf:fieldsB l = []) :
  Calls Tryz.prog 67 #[.pointer (some ⟨b,0,none⟩),str l] w (Ret fun v w'=>RdI w0 b s S w'∧∀ k,S k→w'.heap[k]?=w.heap[k]?):=by
 refine T.enter (vs:=[.pointer (some ⟨b,0,none⟩),str l]) func67 rfl ntmps67 rfl ?_
 refine T.q (L.m rfl (L.o (O.call (xs:=[.tmp 10,.func 121]) call120 rfl rfl (aP l w hl) (fun v1 w1 hq=>?_))))
 obtain ⟨A,rfl,hS1,he1⟩:=hq
 rw [hf]
 rw [hf] at hS1
 refine L.a rfl (L.nil (T.seq (T.q (L.m rfl (L.o (O.len runUnderlying61 rfl (Sl.val hS1) (L.o (O.jk rfl rfl (by simp) (L.nil (T.ct (T.acJ results67 ⟨?_,fun k hk=>?_⟩)))))))))))
 ·obtain ⟨d,h⟩:=hI;exact ⟨d,h.ext he1⟩
 obtain ⟨d,h⟩:=hI;exact he1.block k (Nat.zero_le _) (h.S k hk).2.1
theorem bF {lo A:Nat} {w:World} {k:Str} {r:List Str} {n:Nat} (h:Strs lo w (.slice (some ⟨A,0,none⟩) n n) (k::r)) (hn:n=r.length+1):Strs lo w (pU 1 (.slice (some ⟨A,0,none⟩) n n) 1 n) r:=by
 subst hn
 have:=L8 (l:=1) (h:=r.length+1) (h:Sl lo w _ _ _ _) (by omega) (Nat.le_refl _)
 have e:(((k::r).map str).drop (1*1)).take ((r.length+1-1)*1)=r.map str:=by simp;exact List.take_of_length_le (by simp)
 rw [e,show r.length+1-1=r.length by omega] at this
 exact this
theorem RdK.setLast {w0:World} {b:Nat} {d:RdD} {s:PS} {S:Nat→Prop} {W W':World} (h:RdK w0 b d s S W) {k:Str} (hu:Upd b W W') (hB:Blk W' b ((aG d s).set 6 (str k)) 129):RdK w0 b d { s with last:=k } S W':=by
 have h1:=h.stay (S':=S) (W':=W) h.e h.row h.S (fun j cs t q B=>⟨q,B⟩)
 have hk:∀ j cs t,RdQ w0 b S j→Blk W j cs t→RdQ w0 b S j∧Blk W' j cs t:=fun j cs t q B=>⟨q,Blk.upd B hu q.2.1⟩
 exact ⟨h.e.upd hu (.inr h.lo),h.lo,hB,h.pts.stay fun k cs q _ B=>hk k cs _ q B,h.fsr.stay fun k cs q _ B=>hk k cs _ q B,h.fsl,fun i hi=>(h.fa i hi).stay hk,h.sep,h.usr.stay fun k cs q _ B=>hk k cs _ q B,h.usl,fun i hi=>(h.un i hi).stay fun k cs q B=>hk k cs _ q B,h.big,fun j hj=>by rw [hu.size];exact h.S j hj⟩
theorem V7 (w0:World) (b:Nat) (s:PS) (S:Nat→Prop) (l:Str) (w:World) (hI:RdI w0 b s S w) (hl:l.length≤100000) (hf:fieldsB l = [dL]) (hlast:s.last ∉ [[],dL]) :
  Calls Tryz.prog 67 #[.pointer (some ⟨b,0,none⟩),str l] w (Ret fun v w'=>RdI w0 b { s with last:=dL } S w'∧∀ k,S k→w'.heap[k]?=w.heap[k]?):=by
 refine T.enter (vs:=[.pointer (some ⟨b,0,none⟩),str l]) func67 rfl ntmps67 rfl ?_
 refine T.q (L.m rfl (L.o (O.call (xs:=[.tmp 10,.func 121]) call120 rfl rfl (aP l w hl) (fun v1 w1 hq=>?_))))
 obtain ⟨A,rfl,hS1,he1⟩:=hq
 obtain ⟨d,hK⟩:=hI
 have hK1:=hK.ext he1
 rw [hf]
 rw [hf] at hS1
 refine L.a rfl (L.nil (T.seq (T.q (L.m rfl (L.o (O.len runUnderlying61 rfl (Sl.val hS1) (L.o (O.gW rfl rfl (by simp) (L.nil (T.cf (T.skip (T.seq (?_)))))))))))))
 refine T.fM mixed 6 [4] rfl [.is _,.is _,.is _,.is _,.is _,.is _] [[],[0],[1],[],[3],[2]] [[],[0],[0,1],[],[3],[0,1,2],[0,1,2,3,4,5]] (by kernel_rfl) (by kernel_rfl) rfl (by kernel_rfl) trivial ⟨fun wx hx=>Ob.o (O.move rfl kR),
   fun wx hx=>Ob.o (O.indexAddr runUnderlying61 sizeOf9 rfl rfl (hS1.ext hx) (by decide) (by simp) kR),
   fun wx hx=>Ob.o (O.load isAgg9 rfl ((hS1.ext hx).at (show 0<([dL]:List Str).length by decide)) kR),
   fun wx hx=>Ob.o (O.move rfl kR),
   fun wx hx=>Ob.o (O.jr (l:=1) runUnderlying61 sizeOf9 rfl rfl hS1 (by simp) kR),
   fun wx hx=>Ob.o (O.assign rfl kR),
   trivial⟩ (fun w2 he2=>?_)
 have hR2:=bF (hS1.ext he2) rfl
 refine L.a rfl (L.nil (T.seq (T.q (L.m rfl (L.nil (T.block (T.q (L.o (O.aB runUnderlying9 rfl rfl (by decide) (L.a rfl (L.nil (T.cf (T.q (L.o (O.aB runUnderlying9 rfl rfl (by decide) (L.a rfl (L.nil (T.cf (T.q (L.o (O.aB runUnderlying9 rfl rfl (by decide) (L.a rfl (?_)))))))))))))))))))))))
 refine L.nil (T.cf (T.q (L.o (O.aB runUnderlying9 rfl rfl (by decide) (L.a rfl (L.nil (T.cf (T.q (L.o (O.aB runUnderlying9 rfl rfl (by decide) (L.a rfl (L.nil (T.cf (T.q (L.o (O.bf runUnderlying9 rfl rfl rfl (L.a rfl (L.nil (T.ct (T.region (L.m rfl (L.o (O.buildSlice (el:=9) (parts:=[(0,_),(1,_)]) (vs:=[(0,_),(1,_)]) (cs:=([[],dL].map str)) rfl (fun w=>by kernel_rfl) (fun ahq abX abY abZ Af SG=>?_))))))))))))))))))))))))
 have Za:=(hK1.ext he2).ext Af
 refine L.o (O.call (xs:=[.tmp 158,.tmp 159]) call68 rfl rfl (aV 0 _ [[],dL] b (aG d s) s.last abX (Strs.aA SG rfl (by decide) (Nat.zero_le _)) Za.row rfl) (fun v160 akd hq=>?_))
 obtain ⟨rfl,rfl⟩:=hq
 rw [decide_eq_false hlast]
 refine L.o (O.not rfl (L.m rfl (L.m rfl (L.o (O.len runUnderlying61 rfl (Sl.val (hR2.ext Af)) (L.o (O.jk rfl rfl (by simp) (L.o (O.ah rfl rfl (L.o (O.call (xs:=[.tmp 166]) call108 rfl rfl (dK akd) (fun v167 amw hq=>?_))))))))))))
 obtain rfl:=hq
 refine L.nil (T.blk (T.region (L.m rfl (L.m rfl (L.o (O.nilCheck rfl (L.o (O.fieldAddr runUnderlying129 rfl sizeOf9 rfl (L.o (O.bG sizeOf9 rfl rfl rfl Za.row (by simp [aG]) (fun Iu iM yU=>?_)))))))))))
 refine L.nil (T.O3 results67 ⟨⟨d,Za.setLast iM yU⟩,fun k hk=>?_⟩)
 have h3:=hK.S k hk
 have z1:=he1.size
 have z2:=he2.size
 exact (iM.block k h3.2.2).trans ((Af.block k (Nat.zero_le _) (by omega)).trans ((he2.block k (Nat.zero_le _) (by omega)).trans (he1.block k (Nat.zero_le _) h3.2.1)))
open Go Go.E RowKit
def JO (w:World) (b:Nat) (t:TypeId) (rows:List (List Value)) (c:Nat) (W:World):Prop:=dI (some b) w W∧Blk W b (rows.getD c []) t
theorem JO.start {w W:World} {b:Nat} {t:TypeId} {row:List Value} {rows:List (List Value)} (h:Blk w b row t) (k:Ext w W):JO w b t (row::rows) 0 W:=⟨.aT k,Blk.ext h k⟩
theorem JO.next {w W W':World} {b c:Nat} {t:TypeId} {rows:List (List Value)} (h:JO w b t rows c W) (hu:Upd b W W') {row:List Value} (hB:Blk W' b row t) (hr:rows.getD (c+1) []=row):JO w b t rows (c+1) W' :=
 ⟨h.1.trans ⟨hu.os,hu.tape,hu.output,Nat.le_of_eq hu.size.symm,fun k _ hk=>hu.block k (fun e=>hk (by rw [e]))⟩,by rw [hr];exact hB⟩
theorem JO.ints {w W:World} {b c:Nat} {t:TypeId} {rows:List (List Value)} (h:JO w b t rows c W) {v:Value} {xs:List Int} {Q:Nat→Prop} (hI:dO Q w v xs) (hQ:∀ k,Q k→k≠b):Ints .i64 0 W v xs :=
 (hI.stay (Q':=Q) fun k cs q B=>⟨q,h.1.blk B (fun e=>hQ k q (by cases e;rfl))⟩).ints
def SH (s:PS) (xs:List Int):PS:={ s with G:=xs.getD 0 0,P:=xs.getD 1 0,L:=xs.getD 2 0,last:=bD }
theorem RdK.Zb {w0:World} {b:Nat} {d:RdD} {s:PS} {S:Nat→Prop} {W W':World} (h:RdK w0 b d s S W) {xs:List Int} (hb:(-1000000000≤xs.getD 0 0∧xs.getD 0 0≤1000000000)∧(-1000000000≤xs.getD 1 0∧xs.getD 1 0≤1000000000) ∧ -1000000000≤xs.getD 2 0∧xs.getD 2 0≤1000000000)
  (hu:dI (some b) W W') (hB:Blk W' b (aG d (SH s xs)) 129):RdK w0 b d (SH s xs) S W':=by
 have hk:∀ j cs t,RdQ w0 b S j→Blk W j cs t→RdQ w0 b S j∧Blk W' j cs t:=fun j cs t q B=>⟨q,hu.blk B (fun e=>q.2.1 (by cases e;rfl))⟩
 exact ⟨hu.ext h.e (fun k e=>by cases e;exact h.lo),h.lo,hB,h.pts.stay fun k cs q _ B=>hk k cs _ q B,h.fsr.stay fun k cs q _ B=>hk k cs _ q B,h.fsl,fun i hi=>(h.fa i hi).stay hk,h.sep,h.usr.stay fun k cs q _ B=>hk k cs _ q B,h.usl,fun i hi=>(h.un i hi).stay fun k cs q B=>hk k cs _ q B,hb,fun j hj=>by obtain ⟨a1,a2,a3⟩:=h.S j hj;exact ⟨a1,Nat.lt_of_lt_of_le a2 hu.size,a3⟩⟩
theorem Ea:∀ (ws:List Str) (xs:List Int),dY ws=some xs→∀ i,i<xs.length → -1000000000≤xs.getD i 0∧xs.getD i 0≤1000000000:=fun ws xs h i hi=>by
 obtain ⟨h1,h2⟩:=jB ws xs h
 exact (um (h2 i (by omega))).2.2
theorem cO {l:Str} {k:Str} {r:List Str} (hl:l.length≤100000) (hf:fieldsB l=k::r):∀ x∈r,x.length≤100000:=fun x hx=>by
 rcases SC (s:=l) x (by rw [hf];exact List.mem_cons_of_mem _ hx) with h|h
 ·exact h
 omega
set_option maxHeartbeats 1000000 in
theorem SI (w0:World) (b:Nat) (s:PS) (S:Nat→Prop) (l:Str) (r:List Str) (xs:List Int) (w:World) (hI:RdI w0 b s S w) (hL:je w) (hl:l.length≤100000) (hf:fieldsB l=bD::r) (hlast:s.last = []) (h3:r.length=3) (hn:dY r=some xs) :
  Calls Tryz.prog 67 #[.pointer (some ⟨b,0,none⟩),str l] w (Ret fun v w'=>RdI w0 b (SH s xs) S w'∧∀ k,S k→w'.heap[k]?=w.heap[k]?):=by
 refine T.enter (vs:=[.pointer (some ⟨b,0,none⟩),str l]) func67 rfl ntmps67 rfl ?_
 refine T.q (L.m rfl (L.o (O.call (xs:=[.tmp 10,.func 121]) call120 rfl rfl (aP l w hl) (fun v1 w1 hq=>?_))))
 obtain ⟨A,rfl,hS1,he1⟩:=hq
 obtain ⟨d,hK⟩:=hI
 have hK1:=hK.ext he1
 rw [hf]
 rw [hf] at hS1
 have hx3:xs.length=3:=by rw [← (jB r xs hn).1];exact h3
 refine L.a rfl (L.nil (T.seq (T.q (L.m rfl (L.o (O.len runUnderlying61 rfl (Sl.val hS1) (L.o (O.gW rfl rfl (by simp;omega) (L.nil (T.cf (T.skip (T.seq (?_)))))))))))))
 refine T.fM mixed 6 [4] rfl [.is _,.is _,.is _,.is _,.is _,.is _] [[],[0],[1],[],[3],[2]] [[],[0],[0,1],[],[3],[0,1,2],[0,1,2,3,4,5]] (by kernel_rfl) (by kernel_rfl) rfl (by kernel_rfl) trivial ⟨fun wx hx=>Ob.o (O.move rfl kR),
   fun wx hx=>Ob.o (O.indexAddr runUnderlying61 sizeOf9 rfl rfl (hS1.ext hx) (by decide) (by simp) kR),
   fun wx hx=>Ob.o (O.load isAgg9 rfl ((hS1.ext hx).at (show 0<(bD::r).length by simp)) kR),
   fun wx hx=>Ob.o (O.move rfl kR),
   fun wx hx=>Ob.o (O.jr (l:=1) runUnderlying61 sizeOf9 rfl rfl hS1 (by simp) kR),
   fun wx hx=>Ob.o (O.assign rfl kR),
   trivial⟩ (fun w2 he2=>?_)
 have hR2:=bF (hS1.ext he2) rfl
 refine L.a rfl (L.nil (T.seq (T.q (L.m rfl (L.nil (T.block (T.q (L.o (O.bf runUnderlying9 rfl rfl rfl (L.a rfl (L.nil (T.ct (T.q (L.m rfl (L.o (O.buildSlice (el:=9) (parts:=[(0,_)]) (vs:=[(0,_)]) (cs:=([[]].map str)) rfl (fun w=>by kernel_rfl) (fun b25 w25 afi afj wW Dh=>?_)))))))))))))))))
 have pW:=(hK1.ext he2).ext wW
 refine L.o (O.call (xs:=[.tmp 24,.tmp 25]) call68 rfl rfl (aV 0 _ [[]] b (aG d s) s.last w25 (Strs.aA Dh rfl (by decide) (Nat.zero_le _)) pW.row rfl) (fun v26 w26 hq=>?_))
 obtain ⟨rfl,rfl⟩:=hq
 rw [decide_eq_true (show s.last ∈ [[]] by rw [hlast];simp)]
 refine L.m rfl (L.m rfl (L.o (O.len runUnderlying61 rfl (Sl.val (hR2.ext wW)) (L.o (O.jk rfl rfl (by omega) (L.o (O.ah rfl rfl (L.o (O.call (xs:=[.tmp 31]) call108 rfl rfl (dK w26) (fun v32 w32 hq=>?_))))))))))
 obtain rfl:=hq
 have Zc:=(he1.trans he2).trans wW
 refine L.nil (T.q (L.m rfl (L.o (O.call (xs:=[.tmp 33]) call122 rfl rfl (jJ _ _ r xs w32 (hR2.ext wW) (hL.ext Zc) (cO hl hf) hn (by omega)) (fun v34 w34 hq=>?_)))))
 obtain ⟨Qc,Yo⟩:=hq
 have ahr:=pW.ext Yo
 have hz:=pW.e.size
 have aac:dO (fun k ↦ w32.heap.size≤k) w34 v34 xs:=dO.aS Qc (fun k h _ ↦ h)
 have amx:=Blk.lt (cs:=aG d s) pW.row
 refine L.a rfl (L.nil (?_))
 refine T.any mixed 22 2 [0,7] rfl [.is _,.is _,.is _,.is _,.is _,.is _,.is _,.is _,.is _,.is _,.is _,.is _,.is _,.is _,.is _,.is _,.is undef,.is _,.is _,.is _,.is _,.is undef] [[],[],[],[],[3],[4],[],[6],[7],[],[9],[10],[0],[12],[13],[14],[15,5],[1],[17],[18],[19],[20,8]] [none,none,none,none,none,none,none,none,none,none,none,none,none,none,none,none,some 0,none,none,none,none,some 1] [[],[],[],[],[3],[3,4],[],[6],[6,7],[],[9],[9,10],[0,3,4,5,6,7,8,9,10,11],[0,3,4,5,6,7,8,9,10,11,12],[0,3,4,5,6,7,8,9,10,11,12,13],[0,3,4,5,6,7,8,9,10,11,12,13,14],[0,3,4,5,6,7,8,9,10,11,12,13,14,15],[0,1,3,4,5,6,7,8,9,10,11,12,13,14,15,16],[0,1,3,4,5,6,7,8,9,10,11,12,13,14,15,16,17],[0,1,3,4,5,6,7,8,9,10,11,12,13,14,15,16,17,18],[0,1,3,4,5,6,7,8,9,10,11,12,13,14,15,16,17,18,19],[0,1,3,4,5,6,7,8,9,10,11,12,13,14,15,16,17,18,19,20],[0,1,2,3,4,5,6,7,8,9,10,11,12,13,14,15,16,17,18,19,20,21],[0,1,2,3,4,5,6,7,8,9,10,11,12,13,14,15,16,17,18,19,20,21,22],[0,1,2,3,4,5,6,7,8,9,10,11,12,13,14,15,16,17,18,19,20,21,22,23],[0,1,2,3,4,5,6,7,8,9,10,11,12,13,14,15,16,17,18,19,20,21,22,23,24],[0,1,2,3,4,5,6,7,8,9,10,11,12,13,14,15,16,17,18,19,20,21,22,23,24,25]] (JO w34 b 129 [aG d s,(aG d s).set 2 (.int .i64 (xs.getD 0 0)),((aG d s).set 2 (.int .i64 (xs.getD 0 0))).set 3 (.int .i64 (xs.getD 1 0))]) (fun _ _=>True) (by kernel_rfl) (by kernel_rfl) (by kernel_rfl) rfl trivial (JO.start ahr.row (Keep.drew _ _)) ⟨fun c wx hx=>ObK.op rfl (O.move rfl ⟨⟨trivial,hx⟩,rfl⟩),
   fun c wx hx=>ObK.op rfl (O.move rfl ⟨⟨trivial,hx⟩,rfl⟩),
   fun c wx hx=>ObK.op rfl (O.move rfl ⟨⟨trivial,hx⟩,rfl⟩),
   fun c wx hx=>ObK.op rfl (O.move rfl ⟨⟨trivial,hx⟩,rfl⟩),
   fun c wx hx=>ObK.op rfl (O.indexAddr runUnderlying30 sizeOf3 rfl rfl (hx.ints aac (fun k h ↦ by omega)) (by decide) (by show (0:Int)<xs.length;omega) ⟨⟨trivial,hx⟩,rfl⟩),
   fun c wx hx=>ObK.op rfl (O.load isAgg3 rfl (Ints.at (hx.ints aac (fun k h ↦ by omega)) (show 0<xs.length by omega)) ⟨⟨trivial,hx⟩,rfl⟩),
   fun c wx hx=>ObK.op rfl (O.move rfl ⟨⟨trivial,hx⟩,rfl⟩),
   fun c wx hx=>ObK.op rfl (O.indexAddr runUnderlying30 sizeOf3 rfl rfl (hx.ints aac (fun k h ↦ by omega)) (by decide) (by show (1:Int)<xs.length;omega) ⟨⟨trivial,hx⟩,rfl⟩),
   fun c wx hx=>ObK.op rfl (O.load isAgg3 rfl (Ints.at (hx.ints aac (fun k h ↦ by omega)) (show 1<xs.length by omega)) ⟨⟨trivial,hx⟩,rfl⟩),
   fun c wx hx=>ObK.op rfl (O.move rfl ⟨⟨trivial,hx⟩,rfl⟩),
   fun c wx hx=>ObK.op rfl (O.indexAddr runUnderlying30 sizeOf3 rfl rfl (hx.ints aac (fun k h ↦ by omega)) (by decide) (by show (2:Int)<xs.length;omega) ⟨⟨trivial,hx⟩,rfl⟩),
   fun c wx hx=>ObK.op rfl (O.load isAgg3 rfl (Ints.at (hx.ints aac (fun k h ↦ by omega)) (show 2<xs.length by omega)) ⟨⟨trivial,hx⟩,rfl⟩),
   fun c wx hx=>ObK.op rfl (O.nilCheck rfl ⟨⟨trivial,hx⟩,rfl⟩),
   fun c wx hx=>ObK.op rfl (O.fieldAddr runUnderlying129 rfl sizeOf48 rfl ⟨⟨trivial,hx⟩,rfl⟩),
   fun c wx hx=>ObK.op rfl (O.fieldAddr runUnderlying48 rfl sizeOf25 rfl ⟨⟨trivial,hx⟩,rfl⟩),
   fun c wx hx=>ObK.op rfl (O.fieldAddr runUnderlying25 rfl sizeOf3 rfl ⟨⟨trivial,hx⟩,rfl⟩),
   fun wx hx=>ObK.op rfl (O.bG sizeOf3 rfl rfl rfl hx.2 (show (2:Nat)<7 by decide) (fun w50 ake ae3=>⟨⟨trivial,hx.next ake ae3 rfl⟩,rfl⟩)),
   fun c wx hx=>ObK.op rfl (O.nilCheck rfl ⟨⟨trivial,hx⟩,rfl⟩),
   fun c wx hx=>ObK.op rfl (O.fieldAddr runUnderlying129 rfl sizeOf48 rfl ⟨⟨trivial,hx⟩,rfl⟩),
   fun c wx hx=>ObK.op rfl (O.fieldAddr runUnderlying48 rfl sizeOf25 rfl ⟨⟨trivial,hx⟩,rfl⟩),
   fun c wx hx=>ObK.op rfl (O.fieldAddr runUnderlying25 rfl sizeOf3 rfl ⟨⟨trivial,hx⟩,rfl⟩),
   fun wx hx=>ObK.op rfl (O.bG sizeOf3 rfl rfl rfl hx.2 (show (3:Nat)<7 by decide) (fun w54 akf akg=>⟨⟨trivial,hx.next akf akg rfl⟩,rfl⟩)),
   trivial⟩ (fun w8 hI8=>?_)
 obtain ⟨hB8,hR8⟩:=hI8
 refine L.o (O.nilCheck rfl (L.o (O.fieldAddr runUnderlying129 rfl sizeOf48 rfl (L.o (O.fieldAddr runUnderlying48 rfl sizeOf25 rfl (L.o (O.fieldAddr runUnderlying25 rfl sizeOf3 rfl (L.o (O.bG sizeOf3 rfl rfl rfl hR8 (show (4:Nat)<7 by decide) (fun w58 ab1 Va=>?_))))))))))
 refine L.nil (T.blk (T.region (L.m rfl (L.m rfl (L.o (O.nilCheck rfl (L.o (O.fieldAddr runUnderlying129 rfl sizeOf9 rfl (L.o (O.bG sizeOf9 rfl rfl rfl Va (show (6:Nat)<7 by decide) (fun Iu iM yU=>?_)))))))))))
 have hz32:=Zc.size
 have hBO:dI (some b) w34 Iu:=hB8.trans ⟨iM.os.trans ab1.os,iM.tape.trans ab1.tape,iM.output.trans ab1.output,Nat.le_of_eq ((iM.size.trans ab1.size).symm),fun k _ hk ↦ (iM.block k (fun e ↦ hk (congrArg some e.symm))).trans (ab1.block k (fun e ↦ hk (congrArg some e.symm)))⟩
 refine L.nil (T.O3 results67 ⟨⟨d,ahr.Zb ⟨Ea r xs hn 0 (by omega),Ea r xs hn 1 (by omega),Ea r xs hn 2 (by omega)⟩ hBO yU⟩,fun k hk=>?_⟩)
 have hs:=hK.S k hk
 have z1:=Yo.size
 exact (hBO.block k (by omega) (fun e=>hs.2.2 (by cases e;rfl))).trans ((Yo.block k (Nat.zero_le _) (by omega)).trans (Zc.block k (Nat.zero_le _) hs.2.1))
open Go Go.E RowKit
def ab2 (ob:Option Nat) (el:TypeId) (cs:List Value) (v:Value) (W:World):Prop:=∃ k,v = .slice (some ⟨k,0,none⟩) 1 1∧ob≠some k∧Blk W k cs el
theorem ab2.st {ob:Option Nat} {el:TypeId} {cs:List Value} : ∀ v w w',dI ob w w'→ab2 ob el cs v w→ab2 ob el cs v w':=fun _ _ _ h ⟨k,h1,h2,h3⟩=>⟨k,h1,h2,h.blk h3 h2⟩
def JQ (ob:Option Nat) (m:Nat) (el:TypeId) (sz n:Nat) (xs:List Value) (v:Value) (W:World):Prop:=W.ownsRow 0 el sz v n xs∧∀ k,v.ownBlock=some k→ob=some k∨m≤k
theorem JQ.ext {ob:Option Nat} {m:Nat} {el:TypeId} {sz n:Nat} {xs:List Value} {v:Value} {W W':World} (h:JQ ob m el sz n xs v W) (k:Ext W W'):JQ ob m el sz n xs v W':=⟨aI h.1 k (Nat.zero_le _),h.2⟩
theorem JQ.updB {ob:Option Nat} {m b:Nat} {el t:TypeId} {sz n:Nat} {xs cs:List Value} {v:Value} {W W':World} (h:JQ ob m el sz n xs v W) (k:Upd b W W') (hB:Blk W b cs t) (ht:el≠t):JQ ob m el sz n xs v W' :=
 ⟨(BH.stay (Q:=fun _=>True) (Q':=fun _=>True) ⟨h.1,fun _ _=>trivial⟩ fun j _ _ e B=>⟨trivial,Blk.upd B k (fun e2=>nN h.1 hB ht (by rw [e,e2]))⟩).1,h.2⟩
def Iw (w:World) (ob:Option Nat) (i:Nat) (G:Value→World→Prop) (_:Nat) (σ:Kz) (W:World):Prop:=(σ i=none∧Ext w W)∨∃ v,σ i=some v∧dI ob w W∧G v W
section
variable {w W W':World} {ob:Option Nat} {i c:Nat} {G:Value→World→Prop} {σ:Kz}
theorem Iw.but (h:Iw w ob i G c σ W):dI ob w W:=by
 rcases h with ⟨_,h⟩|⟨v,_,h,_⟩
 ·exact .aT h
 exact h
theorem Iw.Oc (h:Iw w ob i G c σ W) (hn:σ i=none):Ext w W:=by
 rcases h with ⟨_,h⟩|⟨v,h,_⟩
 ·exact h
 rw [hn] at h;cases h
theorem Iw.nop (h:Iw w ob i G c σ W) {k:Nat} {u:Value} (he:Ext W W') (hG:∀ v,G v W→G v W') (hi:k≠i):Iw w ob i G c (upV σ k u) W':=by
 rcases h with ⟨h1,h2⟩|⟨v,h1,h2,h3⟩
 ·exact .inl ⟨by rw [KC _ _ hi];exact h1,h2.trans he⟩
 exact .inr ⟨v,by rw [KC _ _ hi];exact h1,h2.trans (.aT he),hG v h3⟩
theorem Iw.app {c':Nat} (h:Iw w ob i G c σ W) {u:Value} (hn:σ i=none) (hg:W.grownBy W' ob) (hG:G u W'):Iw w ob i G c' (upV σ i u) W':=.inr ⟨u,KA _ _ _,(dI.aT (h.Oc hn)).trans (.jq hg),hG⟩
theorem Iw.done {u:Value} (h:Iw w ob i G c σ W) (hs:σ i=some u):dI ob w W∧G u W:=by
 rcases h with ⟨h1,_⟩|⟨v,h1,h2,h3⟩
 ·rw [hs] at h1;cases h1
 rw [hs] at h1;cases h1;exact ⟨h2,h3⟩
end
theorem yV {base n sz k:Nat} {el:TypeId} {W:World} {v:Value} {xs:List Value} (h:W.ownsRow base el sz v n xs) (e:v.ownBlock=some k):k<W.heap.size:=by
 rcases h.2 with ⟨h4,_⟩|⟨g,cap,cur,rfl,_,hg,_⟩
 ·subst h4;cases e
 cases e;exact (Array.getElem?_eq_some_iff.1 hg).1
def rM (s:PS) (xs:List Int):PS:={ s with ps:=s.ps ++ [(xs.getD 0 0,xs.getD 1 0)],last:=aN }
theorem RdK.V8 {w0:World} {b:Nat} {d:RdD} {s:PS} {S:Nat→Prop} {W W':World} (h:RdK w0 b d s S W) {xs:List Int} {pv':Value} (hu:∀ k,k<W.heap.size→k≠b→d.pv.ownBlock≠some k→W'.heap[k]?=W.heap[k]?) (he:Ext w0 W') (hz:W.heap.size≤W'.heap.size)
  (hB:Blk W' b (aG { d with pv:=pv' } (rM s xs)) 129) (hP:JQ d.pv.ownBlock W.heap.size 124 2 (s.ps.length+1) (pcs s.ps++pC (xs.getD 0 0,xs.getD 1 0)) pv' W'):RdK w0 b { d with pv:=pv' } (rM s xs) S W':=by
 have hk:∀ j cs t,t≠124→RdQ w0 b S j→Blk W j cs t→RdQ w0 b S j∧Blk W' j cs t:=fun j cs t ht q B=>⟨q,(hu j B.lt q.2.1 (nN h.pts.1 B (Ne.symm ht))).trans B⟩
 have hkI:∀ k cs,RdQ w0 b S k→Blk W k cs 3→RdQ w0 b S k∧Blk W' k cs 3:=fun k cs q B=>hk k cs _ (by decide) q B
 refine ⟨he,h.lo,hB,⟨?_,fun k e=>?_⟩,h.fsr.stay fun k cs q _ B=>hk k cs _ (by decide) q B,h.fsl,fun i hi=>?_,h.sep,h.usr.stay fun k cs q _ B=>hk k cs _ (by decide) q B,h.usl,fun i hi=>(h.un i hi).stay hkI,h.big,fun j hj=>by obtain ⟨a1,a2,a3⟩:=h.S j hj;exact ⟨a1,Nat.lt_of_lt_of_le a2 hz,a3⟩⟩
 ·have e1:(rM s xs).ps.length=s.ps.length+1:=by simp [rM]
  have e2:pcs (rM s xs).ps=pcs s.ps++pC (xs.getD 0 0,xs.getD 1 0):=by simp [rM,pcs]
  rw [e1,e2];exact hP.1
 ·have hlt:=Blk.lt (cs:=aG d s) h.row
  have hz0:=h.e.size
  rcases hP.2 k e with h1|h1
  ·exact h.pts.2 k h1
  exact ⟨by omega,by omega,fun hk=>by have:=(h.S k hk).2.1;omega⟩
 have f:=h.fa i hi
 exact ⟨f.ox,f.oi.stay hkI,f.hx,f.hv.stay fun k cs q _ B=>hk k cs _ (by decide) q B,fun x hx=>(f.ri x hx).stay hkI⟩
set_option maxHeartbeats 1000000 in
theorem Oe (w0:World) (b:Nat) (s:PS) (S:Nat→Prop) (l:Str) (r:List Str) (xs:List Int) (w:World) (hI:RdI w0 b s S w) (hL:je w) (hl:l.length≤100000) (hf:fieldsB l=aN::r) (hlast:s.last ∈ [bD,aN]) (h3:r.length=2) (hn:dY r=some xs) (hc:s.ps.length≤100000) :
  Calls Tryz.prog 67 #[.pointer (some ⟨b,0,none⟩),str l] w (Ret fun v w'=>RdI w0 b (rM s xs) S w'∧∀ k,S k→w'.heap[k]?=w.heap[k]?):=by
 refine T.enter (vs:=[.pointer (some ⟨b,0,none⟩),str l]) func67 rfl ntmps67 rfl ?_
 refine T.q (L.m rfl (L.o (O.call (xs:=[.tmp 10,.func 121]) call120 rfl rfl (aP l w hl) (fun v1 w1 hq=>?_))))
 obtain ⟨A,rfl,hS1,he1⟩:=hq
 obtain ⟨d,hK⟩:=hI
 have hK1:=hK.ext he1
 rw [hf]
 rw [hf] at hS1
 have hx3:xs.length=2:=by rw [← (jB r xs hn).1];exact h3
 refine L.a rfl (L.nil (T.seq (T.q (L.m rfl (L.o (O.len runUnderlying61 rfl (Sl.val hS1) (L.o (O.gW rfl rfl (by simp;omega) (L.nil (T.cf (T.skip (T.seq (?_)))))))))))))
 refine T.fM mixed 6 [4] rfl [.is _,.is _,.is _,.is _,.is _,.is _] [[],[0],[1],[],[3],[2]] [[],[0],[0,1],[],[3],[0,1,2],[0,1,2,3,4,5]] (by kernel_rfl) (by kernel_rfl) rfl (by kernel_rfl) trivial ⟨fun wx hx=>Ob.o (O.move rfl kR),
   fun wx hx=>Ob.o (O.indexAddr runUnderlying61 sizeOf9 rfl rfl (hS1.ext hx) (by decide) (by simp) kR),
   fun wx hx=>Ob.o (O.load isAgg9 rfl ((hS1.ext hx).at (show 0<(aN::r).length by simp)) kR),
   fun wx hx=>Ob.o (O.move rfl kR),
   fun wx hx=>Ob.o (O.jr (l:=1) runUnderlying61 sizeOf9 rfl rfl hS1 (by simp) kR),
   fun wx hx=>Ob.o (O.assign rfl kR),
   trivial⟩ (fun w2 he2=>?_)
 have hR2:=bF (hS1.ext he2) rfl
 refine L.a rfl (L.nil (T.seq (T.q (L.m rfl (L.nil (T.block (T.q (L.o (O.aB runUnderlying9 rfl rfl (show ¬ aN=bD by decide) (L.a rfl (L.nil (T.cf (T.q (L.o (O.bf runUnderlying9 rfl rfl rfl (L.a rfl (L.nil (T.ct (T.q (L.m rfl (L.o (O.buildSlice (el:=9) (parts:=[(0,_),(1,_)]) (vs:=[(0,_),(1,_)]) (cs:=([bD,aN].map str)) rfl (fun w=>by kernel_rfl) (fun b62 w62 afk afl Eb UO=>?_)))))))))))))))))))))))
 have pW:=(hK1.ext he2).ext Eb
 refine L.o (O.call (xs:=[.tmp 61,.tmp 62]) call68 rfl rfl (aV 0 _ [bD,aN] b (aG d s) s.last w62 (Strs.aA UO rfl (by decide) (Nat.zero_le _)) pW.row rfl) (fun v63 w63 hq=>?_))
 obtain ⟨rfl,rfl⟩:=hq
 rw [decide_eq_true hlast]
 refine L.m rfl (L.m rfl (L.o (O.len runUnderlying61 rfl (Sl.val (hR2.ext Eb)) (L.o (O.jk rfl rfl (by omega) (L.o (O.ah rfl rfl (L.o (O.call (xs:=[.tmp 68]) call108 rfl rfl (dK w63) (fun v69 w69 hq=>?_))))))))))
 obtain rfl:=hq
 have Zd:=(he1.trans he2).trans Eb
 refine L.nil (T.q (L.m rfl (L.o (O.call (xs:=[.tmp 70]) call122 rfl rfl (jJ _ _ r xs w69 (hR2.ext Eb) (hL.ext Zd) (cO hl hf) hn (by omega)) (fun v71 w71 hq=>?_)))))
 obtain ⟨akh,afm⟩:=hq
 have Og:=pW.ext afm
 have aki:dO (fun k ↦ w69.heap.size≤k) w71 v71 xs:=dO.aS akh (fun k h _ ↦ h)
 have hint:∀ W,dI d.pv.ownBlock w71 W→Ints .i64 0 W v71 xs:=fun W h ↦ (aki.stay (Q':=fun _ ↦ True) fun k cs q B ↦ ⟨trivial,h.blk B (nN Og.pts.1 B (by decide))⟩).ints
 have hpb:d.pv.ownBlock≠some b:=fun e ↦ (Og.pts.2 b e).2.1 rfl
 refine L.a rfl (L.nil (?_))
 refine T.acL mixed 16 0 [0,8] rfl [.is _,.is _,.is _,.is _,.is _,.is _,.is _,.is _,.is _,.is _,.is _,.is _,.is _,.is _,.such (ab2 d.pv.ownBlock 124 (pC (xs.getD 0 0,xs.getD 1 0))),.such (fun _ _=>True)] [[],[],[1],[2],[3],[4],[5],[],[7],[8],[],[10],[11],[9,12],[13],[6,14]] [none,none,none,none,none,none,none,none,none,none,none,none,none,none,none,none] [[],[],[1],[1,2],[1,2,3],[1,2,3,4],[1,2,3,4,5],[],[7],[7,8],[],[10],[10,11],[7,8,9,10,11,12],[7,8,9,10,11,12,13],[1,2,3,4,5,6,7,8,9,10,11,12,13,14],[0,1,2,3,4,5,6,7,8,9,10,11,12,13,14,15],[0,1,2,3,4,5,6,7,8,9,10,11,12,13,14,15,16],[0,1,2,3,4,5,6,7,8,9,10,11,12,13,14,15,16,17],[0,1,2,3,4,5,6,7,8,9,10,11,12,13,14,15,16,17,18],[0,1,2,3,4,5,6,7,8,9,10,11,12,13,14,15,16,17,18,19]] (Iw w71 d.pv.ownBlock 15 (JQ d.pv.ownBlock w71.heap.size 124 2 (s.ps.length+1) (pcs s.ps++pC (xs.getD 0 0,xs.getD 1 0)))) (dI d.pv.ownBlock) (by kernel_rfl) (by kernel_rfl) (by kernel_rfl) rfl ⟨ab2.st,fun _ _ _ _ _=>trivial,trivial⟩ (.inl ⟨rfl,Keep.drew _ _⟩) ⟨fun c σ wx hx hn hl=>ObG.op rfl (O.move rfl ⟨⟨dI.refl _ _,hx.nop (Keep.refl _ _) (fun _ g ↦ g) (by decide)⟩,rfl⟩),
   fun c σ wx hx hn hl=>ObG.op rfl (O.move rfl ⟨⟨dI.refl _ _,hx.nop (Keep.refl _ _) (fun _ g ↦ g) (by decide)⟩,rfl⟩),
   fun c σ wx hx hn hl=>ObG.op rfl (O.nilCheck rfl ⟨⟨dI.refl _ _,hx.nop (Keep.refl _ _) (fun _ g ↦ g) (by decide)⟩,rfl⟩),
   fun c σ wx hx hn hl=>ObG.op rfl (O.fieldAddr runUnderlying129 rfl sizeOf48 rfl ⟨⟨dI.refl _ _,hx.nop (Keep.refl _ _) (fun _ g ↦ g) (by decide)⟩,rfl⟩),
   fun c σ wx hx hn hl=>ObG.op rfl (O.fieldAddr runUnderlying48 rfl sizeOf46 rfl ⟨⟨dI.refl _ _,hx.nop (Keep.refl _ _) (fun _ g ↦ g) (by decide)⟩,rfl⟩),
   fun c σ wx hx hn hl=>ObG.op rfl (O.fieldAddr runUnderlying46 rfl sizeOf43 rfl ⟨⟨dI.refl _ _,hx.nop (Keep.refl _ _) (fun _ g ↦ g) (by decide)⟩,rfl⟩),
   fun c σ wx hx hn hl=>ObG.op rfl (O.load isAgg43 rfl ((hx.but.blk (cs:=aG d s) Og.row hpb).cell rfl) ⟨⟨dI.refl _ _,hx.nop (Keep.refl _ _) (fun _ g ↦ g) (by decide)⟩,rfl⟩),
   fun c σ wx hx hn hl=>ObG.op rfl (O.move rfl ⟨⟨dI.refl _ _,hx.nop (Keep.refl _ _) (fun _ g ↦ g) (by decide)⟩,rfl⟩),
   fun c σ wx hx hn hl=>ObG.op rfl (O.indexAddr runUnderlying30 sizeOf3 rfl rfl (hint _ hx.but) (by decide) (by show (0:Int)<xs.length;omega) ⟨⟨dI.refl _ _,hx.nop (Keep.refl _ _) (fun _ g ↦ g) (by decide)⟩,rfl⟩),
   fun c σ wx hx hn hl=>ObG.op rfl (O.load isAgg3 rfl (Ints.at (hint _ hx.but) (show 0<xs.length by omega)) ⟨⟨dI.refl _ _,hx.nop (Keep.refl _ _) (fun _ g ↦ g) (by decide)⟩,rfl⟩),
   fun c σ wx hx hn hl=>ObG.op rfl (O.move rfl ⟨⟨dI.refl _ _,hx.nop (Keep.refl _ _) (fun _ g ↦ g) (by decide)⟩,rfl⟩),
   fun c σ wx hx hn hl=>ObG.op rfl (O.indexAddr runUnderlying30 sizeOf3 rfl rfl (hint _ hx.but) (by decide) (by show (1:Int)<xs.length;omega) ⟨⟨dI.refl _ _,hx.nop (Keep.refl _ _) (fun _ g ↦ g) (by decide)⟩,rfl⟩),
   fun c σ wx hx hn hl=>ObG.op rfl (O.load isAgg3 rfl (Ints.at (hint _ hx.but) (show 1<xs.length by omega)) ⟨⟨dI.refl _ _,hx.nop (Keep.refl _ _) (fun _ g ↦ g) (by decide)⟩,rfl⟩),
   fun c σ wx hx hn hl=>ObG.op rfl (O.build (v:=.agg #[.int .i64 (xs.getD 0 0),.int .i64 (xs.getD 1 0)]) (parts:=[(0,.tmp 81),(1,.tmp 84)]) (vs:=[(0,_),(1,_)]) rfl (fun w=>by kernel_rfl) ⟨⟨dI.refl _ _,hx.nop (Keep.refl _ _) (fun _ g ↦ g) (by decide)⟩,rfl⟩),
   fun c σ wx hx hn hl=>ObG.op rfl (O.buildSlice (el:=124) (parts:=[(0,.tmp 85)]) (vs:=[(0,_)]) (cs:=(pC (xs.getD 0 0,xs.getD 1 0))) rfl (fun w=>by kernel_rfl) (fun b86 w86 amy amz afn akj=>⟨⟨dI.aT afn,hx.nop afn (fun _ g ↦ g.ext afn) (by decide)⟩,b86,rfl,fun e=>by have:=yV Og.pts.1 e;have:=hx.but.size;omega,akj⟩)),
   fun c σ wx hx hn v86 ahs hl=>by { obtain ⟨bl,rfl,hbn,hBl⟩:=ahs;exact ObG.op rfl (O.xu (size:=2) (bytes:=16) runUnderlying43 Tryz.xk rfl rfl rfl rfl (by decide) rfl rfl (aI Og.pts.1 (hx.Oc hn) (Nat.zero_le _)) rfl (Row.aA hBl) (gZ _) (by omega) (by simp only [maxLen];omega) (Nat.zero_le _) (fun v87 w87 akk aht akl=>⟨⟨dI.jq aht,hx.app hn aht ⟨akk,fun k e=>(akl k e).imp id (fun h=>Nat.le_trans (hx.Oc hn).size h)⟩⟩,trivial⟩)) },
   trivial⟩ (fun amA w12 akm v86 ahs v87 amB hl12=>?_)
 obtain ⟨Jf,ahu⟩:=akm.done (hl12 15 (by decide) _ _ rfl rfl).symm
 refine L.o (O.nilCheck rfl (L.o (O.fieldAddr runUnderlying129 rfl sizeOf48 rfl (L.o (O.fieldAddr runUnderlying48 rfl sizeOf46 rfl (L.o (O.fieldAddr runUnderlying46 rfl sizeOf43 rfl (L.o (O.bG sizeOf43 (Sl.one (Sl.aS ahu.1)) rfl rfl (Jf.blk (cs:=aG d s) Og.row hpb) (show (0:Nat)<7 by decide) (fun w91 ady ahv=>?_))))))))))
 refine L.nil (T.blk (T.region (L.m rfl (L.m rfl (L.o (O.nilCheck rfl (L.o (O.fieldAddr runUnderlying129 rfl sizeOf9 rfl (L.o (O.bG sizeOf9 rfl rfl rfl ahv (show (6:Nat)<7 by decide) (fun Iu iM yU=>?_)))))))))))
 have afo:JQ d.pv.ownBlock w71.heap.size 124 2 (s.ps.length+1) (pcs s.ps++pC (xs.getD 0 0,xs.getD 1 0)) v87 Iu:=(ahu.updB ady (Jf.blk (cs:=aG d s) Og.row hpb) (by decide)).updB iM ahv (by decide)
 have SK:Ext w0 Iu:=((Jf.ext Og.e (fun k e ↦ (Og.pts.2 k e).1)).upd ady (.inr Og.lo)).upd iM (.inr Og.lo)
 have SL:w71.heap.size≤Iu.heap.size:=by have:=Jf.size;have:=ady.size;have:=iM.size;omega
 have hkeep:∀ k,k<w71.heap.size→k≠b→d.pv.ownBlock≠some k→Iu.heap[k]?=w71.heap[k]?:=fun k h1 h2 h3 ↦ (iM.block k h2).trans ((ady.block k h2).trans (Jf.block k h1 h3))
 refine L.nil (T.O3 results67 ⟨⟨{ d with pv:=v87 },Og.V8 hkeep SK SL yU afo⟩,fun k hk=>?_⟩)
 have hs:=hK.S k hk
 have z1:=afm.size
 have z2:=Zd.size
 exact (hkeep k (by omega) hs.2.2 (fun e=>(Og.pts.2 k e).2.2 hk)).trans ((afm.block k (Nat.zero_le _) (by omega)).trans (Zd.block k (Nat.zero_le _) hs.2.1))
open Go Go.E RowKit
theorem dI.keep {ob:Option Nat} {lo:Nat} {w w':World} (h:dI ob w w') (hm:∀ k,ob=some k→k<lo):Keep lo w w':=⟨h.os,h.tape,h.output,h.size,fun k hl hk=>h.block k hk (fun e=>by have:=hm k e;omega)⟩
def BI (m:Nat) (k:Nat):Prop:=m≤k
def Ze (m:Nat) (xs:List Int) (v:Value) (W:World):Prop:=∃ oa cp,v = .slice oa xs.length cp∧dO (BI m) W v xs
theorem dO.form {Q:Nat→Prop} {W:World} {v:Value} {xs:List Int} (h:dO Q W v xs):∃ oa cp,v = .slice oa xs.length cp:=by
 rcases h with ⟨rfl,rfl⟩|⟨k,off,cap,cs,rfl,_⟩
 ·exact ⟨none,0,rfl⟩
 exact ⟨_,_,rfl⟩
theorem dO.XK {ob:Option Nat} {m:Nat} {W W':World} {v:Value} {xs:List Int} (hm:∀ k,ob=some k→k<m) (h:dO (BI m) W v xs) (k:dI ob W W'):dO (BI m) W' v xs:=h.stay fun j cs q B=>⟨q,k.blk B (fun e=>by have:=hm j e;unfold BI at q;omega)⟩
theorem Ze.st {ob:Option Nat} {m:Nat} {xs:List Int} (hm:∀ k,ob=some k→k<m):∀ v w w',dI ob w w'→Ze m xs v w→Ze m xs v w':=fun _ _ _ h ⟨oa,cp,h1,h2⟩=>⟨oa,cp,h1,h2.XK hm h⟩
def ab3 (m:Nat) (xs:List Int) (v:Value) (W:World):Prop:=∃ oa cp,v = .agg #[.slice oa xs.length cp,.slice none 0 0]∧dO (BI m) W (.slice oa xs.length cp) xs
theorem ab3.st {ob:Option Nat} {m:Nat} {xs:List Int} (hm:∀ k,ob=some k→k<m):∀ v w w',dI ob w w'→ab3 m xs v w→ab3 m xs v w':=fun _ _ _ h ⟨oa,cp,h1,h2⟩=>⟨oa,cp,h1,h2.XK hm h⟩
def ab4 (ob:Option Nat) (m:Nat) (xs:List Int) (v:Value) (W:World):Prop:=∃ k oa cp,v = .slice (some ⟨k,0,none⟩) 1 1∧ob≠some k∧Blk W k [.slice oa xs.length cp,.slice none 0 0] 127∧dO (BI m) W (.slice oa xs.length cp) xs
theorem ab4.st {ob:Option Nat} {m:Nat} {xs:List Int} (hm:∀ k,ob=some k→k<m):∀ v w w',dI ob w w'→ab4 ob m xs v w→ab4 ob m xs v w':=fun _ _ _ h ⟨k,oa,cp,h1,h2,h3,h4⟩=>⟨k,oa,cp,h1,h2,h.blk (cs:=[.slice oa xs.length cp,.slice none 0 0]) h3 h2,h4.XK hm h⟩
def Zf (ob:Option Nat) (m:Nat) (vs:List FaV) (xs:List Int) (v:Value) (W:World):Prop:=∃ u,JQ ob m 127 2 (vs.length+1) (bT vs ++ [u,.slice none 0 0]) v W∧dO (BI m) W u xs
theorem Zf.ext {ob:Option Nat} {m:Nat} {vs:List FaV} {xs:List Int} {v:Value} {W W':World} (h:Zf ob m vs xs v W) (k:Ext W W'):Zf ob m vs xs v W':=by
 obtain ⟨u,h1,h2⟩:=h
 exact ⟨u,h1.ext k,h2.stay fun j cs q B=>⟨q,Blk.ext B k⟩⟩
def G5 (s:PS) (xs:List Int):PS:={ s with fs:=s.fs ++ [(xs,[])],last:=aZ }
def yX (d:RdD) (v u:Value) (xs:List Int):RdD:={ d with fv:=v,vs:=d.vs ++ [⟨⟨u,xs⟩,.slice none 0 0,[]⟩] }
theorem Zf.updB {ob:Option Nat} {m b:Nat} {t:TypeId} {vs:List FaV} {xs:List Int} {cs:List Value} {v:Value} {W W':World} (h:Zf ob m vs xs v W) (k:Upd b W W') (hB:Blk W b cs t) (ht:127≠t) (hm:b<m):Zf ob m vs xs v W':=by
 obtain ⟨u,h1,h2⟩:=h
 exact ⟨u,h1.updB k hB ht,h2.stay fun j cs q B=>⟨q,Blk.upd B k (fun e=>by unfold BI at q;omega)⟩⟩
theorem oK {α:Type} {l r:List α} {i:Nat} {x:α} (h:i<l.length):(l++r).getD i x=l.getD i x:=by
 rw [List.getD_eq_getElem?_getD,List.getElem?_append_left h,← List.getD_eq_getElem?_getD]
theorem kZ {α:Type} {l:List α} {i:Nat} {x y:α} (h:i=l.length):(l ++ [y]).getD i x=y:=by
 subst h;simp [List.getD]
theorem RdK.Zg {w0:World} {b:Nat} {d:RdD} {s:PS} {S:Nat→Prop} {W W':World} (h:RdK w0 b d s S W) {xs:List Int} {v u:Value} (hu:∀ k,k<W.heap.size→k≠b→d.fv.ownBlock≠some k→W'.heap[k]?=W.heap[k]?) (he:Ext w0 W') (hz:W.heap.size≤W'.heap.size)
  (hB:Blk W' b (aG (yX d v u xs) (G5 s xs)) 129) (hG:JQ d.fv.ownBlock W.heap.size 127 2 (d.vs.length+1) (bT d.vs ++ [u,.slice none 0 0]) v W') (hI:dO (BI W.heap.size) W' u xs):RdK w0 b (yX d v u xs) (G5 s xs) S W':=by
 have hk:∀ j cs t,t≠127→RdQ w0 b S j→Blk W j cs t→RdQ w0 b S j∧Blk W' j cs t:=fun j cs t ht q B=>⟨q,(hu j B.lt q.2.1 (nN h.fsr.1 B (Ne.symm ht))).trans B⟩
 have hkI:∀ k cs,RdQ w0 b S k→Blk W k cs 3→RdQ w0 b S k∧Blk W' k cs 3:=fun k cs q B=>hk k cs _ (by decide) q B
 have hlt:=Blk.lt (cs:=aG d s) h.row
 have hz0:=h.e.size
 have hnew:∀ k,W.heap.size≤k→RdQ w0 b S k:=fun k h1=>⟨by omega,by omega,fun hk=>by have:=(h.S k hk).2.1;omega⟩
 have hvl:(yX d v u xs).vs.length=d.vs.length+1:=by simp [yX]
 have hfl:=h.fsl
 refine ⟨he,h.lo,hB,h.pts.stay fun k cs q _ B=>hk k cs _ (by decide) q B,⟨?_,fun k e=>?_⟩,by simp [yX,G5,hfl],fun i hi=>?_,fun i hi k e=>?_,h.usr.stay fun k cs q _ B=>hk k cs _ (by decide) q B,h.usl,fun i hi=>(h.un i hi).stay hkI,h.big,fun j hj=>by obtain ⟨a1,a2,a3⟩:=h.S j hj;exact ⟨a1,Nat.lt_of_lt_of_le a2 hz,a3⟩⟩
 ·have e2:bT (yX d v u xs).vs=bT d.vs ++ [u,.slice none 0 0]:=by simp [yX,bT,FaV.cells]
  rw [hvl,e2];exact hG.1
 ·rcases hG.2 k e with h1|h1
  ·exact h.fsr.2 k h1
  exact hnew k h1
 ·rw [hvl] at hi
  rcases Nat.lt_or_ge i d.vs.length with h1|h1
  ·have f:=h.fa i h1
   have e1:(yX d v u xs).vs.getD i f0=d.vs.getD i f0:=oK h1
   have e2:(G5 s xs).fs.getD i ([],[])=s.fs.getD i ([],[]):=oK (by omega)
   rw [e1,e2]
   exact ⟨f.ox,f.oi.stay hkI,f.hx,f.hv.stay fun k cs q _ B=>hk k cs _ (by decide) q B,fun x hx=>(f.ri x hx).stay hkI⟩
  have e1:(yX d v u xs).vs.getD i f0=⟨⟨u,xs⟩,.slice none 0 0,[]⟩:=kZ (by omega)
  have e2:(G5 s xs).fs.getD i ([],[])=(xs,[]):=kZ (by omega)
  rw [e1,e2]
  exact ⟨rfl,hI.stay fun k cs q B=>⟨hnew k q,B⟩,rfl,BH.nil _ _ _ _,fun x hx=>by cases hx⟩
 rw [hvl] at e
 have e1:(yX d v u xs).vs.getD (d.vs.length+1-1) f0=⟨⟨u,xs⟩,.slice none 0 0,[]⟩:=kZ (by omega)
 rw [e1] at e
 cases e
set_option maxHeartbeats 1000000 in
theorem SN (w0:World) (b:Nat) (s:PS) (S:Nat→Prop) (l:Str) (r:List Str) (xs:List Int) (w:World) (hI:RdI w0 b s S w) (hL0:je w0) (hll:l.length≤100000) (hf:fieldsB l=aZ::r) (hlast:s.last ∈ [bD,aN,aZ,bn]) (hr:r.length≤100000) (hnum:dY r=some xs) (hc:s.fs.length≤100000) :
  Calls Tryz.prog 67 #[.pointer (some ⟨b,0,none⟩),str l] w (Ret fun v w'=>RdI w0 b (G5 s xs) S w'∧∀ k,S k→w'.heap[k]?=w.heap[k]?):=by
 refine T.enter (vs:=[.pointer (some ⟨b,0,none⟩),str l]) func67 rfl ntmps67 rfl ?_
 refine T.q (L.m rfl (L.o (O.call (xs:=[.tmp 10,.func 121]) call120 rfl rfl (aP l w hll) (fun v1 w1 hq=>?_))))
 obtain ⟨A,rfl,hS1,he1⟩:=hq
 obtain ⟨d,hK⟩:=hI
 have hK1:=hK.ext he1
 rw [hf]
 rw [hf] at hS1
 refine L.a rfl (L.nil (T.seq (T.q (L.m rfl (L.o (O.len runUnderlying61 rfl (Sl.val hS1) (L.o (O.gW rfl rfl (by simp;omega) (L.nil (T.cf (T.skip (T.seq (?_)))))))))))))
 refine T.fM mixed 6 [4] rfl [.is _,.is _,.is _,.is _,.is _,.is _] [[],[0],[1],[],[3],[2]] [[],[0],[0,1],[],[3],[0,1,2],[0,1,2,3,4,5]] (by kernel_rfl) (by kernel_rfl) rfl (by kernel_rfl) trivial ⟨fun wx hx=>Ob.o (O.move rfl kR),
   fun wx hx=>Ob.o (O.indexAddr runUnderlying61 sizeOf9 rfl rfl (hS1.ext hx) (by decide) (by simp) kR),
   fun wx hx=>Ob.o (O.load isAgg9 rfl ((hS1.ext hx).at (show 0<(aZ::r).length by simp)) kR),
   fun wx hx=>Ob.o (O.move rfl kR),
   fun wx hx=>Ob.o (O.jr (l:=1) runUnderlying61 sizeOf9 rfl rfl hS1 (by simp) kR),
   fun wx hx=>Ob.o (O.assign rfl kR),
   trivial⟩ (fun w2 he2=>?_)
 have hR2:=bF (hS1.ext he2) rfl
 refine L.a rfl (L.nil (T.seq (T.q (L.m rfl (L.nil (T.block (T.q (L.o (O.aB runUnderlying9 rfl rfl (show ¬ aZ=bD by decide) (L.a rfl (L.nil (T.cf (T.q (L.o (O.aB runUnderlying9 rfl rfl (show ¬ aZ=aN by decide) (L.a rfl (L.nil (T.cf (T.q (L.o (O.bf runUnderlying9 rfl rfl rfl (L.a rfl (?_)))))))))))))))))))))))
 refine L.nil (T.ct (T.q (L.m rfl (L.o (O.buildSlice (el:=9) (parts:=[(0,_),(1,_),(2,_),(3,_)]) (vs:=[(0,_),(1,_),(2,_),(3,_)]) (cs:=([bD,aN,aZ,bn].map str)) rfl (fun w=>by kernel_rfl) (fun b95 w95 ahw ahx Ut ab5=>?_))))))
 have pW:=(hK1.ext he2).ext Ut
 refine L.o (O.call (xs:=[.tmp 94,.tmp 95]) call68 rfl rfl (aV 0 _ [bD,aN,aZ,bn] b (aG d s) s.last w95 (Strs.aA ab5 rfl (by decide) (Nat.zero_le _)) pW.row rfl) (fun v96 w96 hq=>?_))
 obtain ⟨rfl,rfl⟩:=hq
 rw [decide_eq_true hlast]
 refine L.o (O.call (xs:=[.tmp 96]) call108 rfl rfl (dK w96) (fun v97 w97 hq=>?_))
 obtain rfl:=hq
 have ab6:=(he1.trans he2).trans Ut
 have hpb:d.fv.ownBlock≠some b:=fun e ↦ (pW.fsr.2 b e).2.1 rfl
 have hm:∀ k,d.fv.ownBlock=some k→k<w97.heap.size:=fun k e ↦ yV pW.fsr.1 e
 have hvl:=pW.fsl
 refine L.nil (?_)
 refine T.acL mixed 12 0 [0,6] rfl [.is _,.is _,.is _,.is _,.is _,.is _,.is _,.is _,.such (Ze w97.heap.size xs),.such (ab3 w97.heap.size xs),.such (ab4 d.fv.ownBlock w97.heap.size xs),.such (fun _ _=>True)] [[],[],[1],[2],[3],[4],[5],[],[7],[8],[9],[6,10]] [none,none,none,none,none,none,none,none,none,none,none,none] [[],[],[1],[1,2],[1,2,3],[1,2,3,4],[1,2,3,4,5],[],[7],[7,8],[7,8,9],[1,2,3,4,5,6,7,8,9,10],[0,1,2,3,4,5,6,7,8,9,10,11],[0,1,2,3,4,5,6,7,8,9,10,11,12],[0,1,2,3,4,5,6,7,8,9,10,11,12,13],[0,1,2,3,4,5,6,7,8,9,10,11,12,13,14],[0,1,2,3,4,5,6,7,8,9,10,11,12,13,14,15]] (Iw w97 d.fv.ownBlock 11 (Zf d.fv.ownBlock w97.heap.size d.vs xs)) (dI d.fv.ownBlock) (by kernel_rfl) (by kernel_rfl) (by kernel_rfl) rfl ⟨Ze.st hm,ab3.st hm,ab4.st hm,fun _ _ _ _ _=>trivial,trivial⟩ (.inl ⟨rfl,Keep.drew _ _⟩) ⟨fun c σ wx hx hn hl=>ObG.op rfl (O.move rfl ⟨⟨dI.refl _ _,hx.nop (Keep.refl _ _) (fun _ g ↦ g) (by decide)⟩,rfl⟩),
   fun c σ wx hx hn hl=>ObG.op rfl (O.move rfl ⟨⟨dI.refl _ _,hx.nop (Keep.refl _ _) (fun _ g ↦ g) (by decide)⟩,rfl⟩),
   fun c σ wx hx hn hl=>ObG.op rfl (O.nilCheck rfl ⟨⟨dI.refl _ _,hx.nop (Keep.refl _ _) (fun _ g ↦ g) (by decide)⟩,rfl⟩),
   fun c σ wx hx hn hl=>ObG.op rfl (O.fieldAddr runUnderlying129 rfl sizeOf48 rfl ⟨⟨dI.refl _ _,hx.nop (Keep.refl _ _) (fun _ g ↦ g) (by decide)⟩,rfl⟩),
   fun c σ wx hx hn hl=>ObG.op rfl (O.fieldAddr runUnderlying48 rfl sizeOf46 rfl ⟨⟨dI.refl _ _,hx.nop (Keep.refl _ _) (fun _ g ↦ g) (by decide)⟩,rfl⟩),
   fun c σ wx hx hn hl=>ObG.op rfl (O.fieldAddr runUnderlying46 rfl sizeOf44 rfl ⟨⟨dI.refl _ _,hx.nop (Keep.refl _ _) (fun _ g ↦ g) (by decide)⟩,rfl⟩),
   fun c σ wx hx hn hl=>ObG.op rfl (O.load isAgg44 rfl ((hx.but.blk (cs:=aG d s) pW.row hpb).cell rfl) ⟨⟨dI.refl _ _,hx.nop (Keep.refl _ _) (fun _ g ↦ g) (by decide)⟩,rfl⟩),
   fun c σ wx hx hn hl=>ObG.op rfl (O.move rfl ⟨⟨dI.refl _ _,hx.nop (Keep.refl _ _) (fun _ g ↦ g) (by decide)⟩,rfl⟩),
   fun c σ wx hx hn hl=>ObG.op rfl (O.call (xs:=[.tmp 105]) call122 rfl rfl (jJ 0 _ r xs wx (Sl.mono (Sl.keep (Strs.ext hR2 Ut) (hx.but.keep (lo:=w.heap.size) (fun k e ↦ yV hK.fsr.1 e))) (Nat.zero_le _)) (hL0.ext (hx.but.ext pW.e (fun k e ↦ (pW.fsr.2 k e).1))) (cO hll hf) hnum (by omega)) (fun v wy h=>⟨⟨dI.aT h.2,hx.nop h.2 (fun _ g ↦ g.ext h.2) (by decide)⟩,by obtain ⟨h1,h2⟩:=h;have hB:=dO.aS (Q:=BI w97.heap.size) h1 (fun k hk _ ↦ Nat.le_trans hx.but.size hk);obtain ⟨oa,cp,e⟩:=hB.form;exact ⟨oa,cp,e,hB⟩⟩)),
   fun c σ wx hx hn adz Oh hl=>by { obtain ⟨oa,cp,rfl,hI⟩:=Oh;exact ObG.op rfl (O.build (v:=.agg #[.slice oa xs.length cp,.slice none 0 0]) (parts:=[(0,.tmp 106)]) (vs:=[(0,_)]) rfl (fun w=>by kernel_rfl) ⟨⟨dI.refl _ _,hx.nop (Keep.refl _ _) (fun _ g ↦ g) (by decide)⟩,oa,cp,rfl,hI⟩) },
   fun c σ wx hx hn v107 SQ hl=>by { obtain ⟨oa,cp,rfl,hI⟩:=SQ;exact ObG.op rfl (O.buildSlice (el:=127) (parts:=[(0,.tmp 107)]) (vs:=[(0,_)]) (cs:=[.slice oa xs.length cp,.slice none 0 0]) rfl (fun w=>by kernel_rfl) (fun akn amC ako akp V9 afp=>⟨⟨dI.aT V9,hx.nop V9 (fun _ g ↦ g.ext V9) (by decide)⟩,akn,oa,cp,rfl,fun e=>by have:=hm _ e;have:=hx.but.size;omega,afp,hI.XK hm (dI.aT V9)⟩)) },
   fun c σ wx hx hn afq SS hl=>by { obtain ⟨bl,oa,cp,rfl,hbn,hBl,hIl⟩:=SS;exact ObG.op rfl (O.xu (size:=2) (bytes:=48) runUnderlying44 Tryz.kJ rfl rfl rfl rfl (by decide) rfl rfl (aI pW.fsr.1 (hx.Oc hn) (Nat.zero_le _)) rfl (Row.aA hBl) (by intro u hu;simp at hu;obtain (rfl|rfl):=hu <;> rfl) (by omega) (by simp only [maxLen];omega) (Nat.zero_le _) (fun v109 amD afr Zh afs=>⟨⟨dI.jq Zh,hx.app hn Zh ⟨.slice oa xs.length cp,⟨afr,fun k e=>(afs k e).imp id (fun h=>Nat.le_trans (hx.Oc hn).size h)⟩,hIl.XK hm (dI.jq Zh)⟩⟩,trivial⟩)) },
   trivial⟩ (fun amE w15 acZ adz Oh v107 SQ afq SS v109 afu ac8=>?_)
 obtain ⟨zZ,adr⟩:=acZ.done (ac8 11 (by decide) _ _ rfl rfl).symm
 refine L.o (O.nilCheck rfl (L.o (O.fieldAddr runUnderlying129 rfl sizeOf48 rfl (L.o (O.fieldAddr runUnderlying48 rfl sizeOf46 rfl (L.o (O.fieldAddr runUnderlying46 rfl sizeOf44 rfl (L.o (O.bG sizeOf44 (by obtain ⟨u,h1,_⟩:=adr;exact Sl.one (Sl.aS h1.1)) rfl rfl (zZ.blk (cs:=aG d s) pW.row hpb) (show (1:Nat)<7 by decide) (fun akq Oi Wh=>?_))))))))))
 refine L.nil (T.blk (T.region (L.m rfl (L.m rfl (L.o (O.nilCheck rfl (L.o (O.fieldAddr runUnderlying129 rfl sizeOf9 rfl (L.o (O.bG sizeOf9 rfl rfl rfl Wh (show (6:Nat)<7 by decide) (fun Iu iM yU=>?_)))))))))))
 have ahy:=Blk.lt (cs:=aG d s) pW.row
 obtain ⟨u,hGu,hIu⟩:=(adr.updB Oi (zZ.blk (cs:=aG d s) pW.row hpb) (by decide) ahy).updB iM Wh (by decide) ahy
 have SK:Ext w0 Iu:=((zZ.ext pW.e (fun k e ↦ (pW.fsr.2 k e).1)).upd Oi (.inr pW.lo)).upd iM (.inr pW.lo)
 have SL:w97.heap.size≤Iu.heap.size:=by have:=zZ.size;have:=Oi.size;have:=iM.size;omega
 have hkeep:∀ k,k<w97.heap.size→k≠b→d.fv.ownBlock≠some k→Iu.heap[k]?=w97.heap[k]?:=fun k h1 h2 h3 ↦ (iM.block k h2).trans ((Oi.block k h2).trans (zZ.block k h1 h3))
 refine L.nil (T.O3 results67 ⟨⟨yX d v109 u xs,pW.Zg hkeep SK SL yU hGu hIu⟩,fun k hk=>?_⟩)
 have hs:=hK.S k hk
 have z2:=ab6.size
 exact (hkeep k (by omega) hs.2.2 (fun e=>(pW.fsr.2 k e).2.2 hk)).trans (ab6.block k (Nat.zero_le _) hs.2.1)
open Go Go.E RowKit
theorem Wj (w0:World) (b:Nat) (s:PS) (S:Nat→Prop) (l:Str) (r:List Str) (w:World) (hI:RdI w0 b s S w) (hll:l.length≤100000) (k:Str) (hf:fieldsB l=k::r) (hk:k≠bD∧k≠aN∧k≠aZ∧k≠bn∧k≠bP∧k≠dL) :
  Calls Tryz.prog 67 #[.pointer (some ⟨b,0,none⟩),str l] w (Pan (bU) fun w'=>Ext w w'):=by
 refine T.fO (vs:=[.pointer (some ⟨b,0,none⟩),str l]) func67 rfl ntmps67 rfl ?_
 refine T.q (L.m rfl (L.o (O.call (xs:=[.tmp 10,.func 121]) call120 rfl rfl (aP l w hll) (fun v1 w1 hq=>?_))))
 obtain ⟨A,rfl,hS1,he1⟩:=hq
 obtain ⟨d,hK⟩:=hI
 have hK1:=hK.ext he1
 rw [hf]
 rw [hf] at hS1
 refine L.a rfl (L.nil (T.seq (T.q (L.m rfl (L.o (O.len runUnderlying61 rfl (Sl.val hS1) (L.o (O.gW rfl rfl (by simp;omega) (L.nil (T.cf (T.skip (T.seq (?_)))))))))))))
 refine T.fM mixed 6 [4] rfl [.is _,.is _,.is _,.is _,.is _,.is _] [[],[0],[1],[],[3],[2]] [[],[0],[0,1],[],[3],[0,1,2],[0,1,2,3,4,5]] (by kernel_rfl) (by kernel_rfl) rfl (by kernel_rfl) trivial ⟨fun wx hx=>Ob.o (O.move rfl kR),
   fun wx hx=>Ob.o (O.indexAddr runUnderlying61 sizeOf9 rfl rfl (hS1.ext hx) (by decide) (by simp) kR),
   fun wx hx=>Ob.o (O.load isAgg9 rfl ((hS1.ext hx).at (show 0<(k::r).length by simp)) kR),
   fun wx hx=>Ob.o (O.move rfl kR),
   fun wx hx=>Ob.o (O.jr (l:=1) runUnderlying61 sizeOf9 rfl rfl hS1 (by simp) kR),
   fun wx hx=>Ob.o (O.assign rfl kR),
   trivial⟩ (fun w2 he2=>?_)
 have hR2:=bF (hS1.ext he2) rfl
 refine L.a rfl (L.nil (T.seq (T.q (L.m rfl (L.nil (T.block (T.q (L.o (O.aB runUnderlying9 rfl rfl hk.1 (L.a rfl (L.nil (T.cf (T.q (L.o (O.aB runUnderlying9 rfl rfl hk.2.1 (L.a rfl (L.nil (T.cf (T.q (L.o (O.aB runUnderlying9 rfl rfl hk.2.2.1 (L.a rfl (?_)))))))))))))))))))))))
 refine L.nil (T.cf (T.q (L.o (O.aB runUnderlying9 rfl rfl hk.2.2.2.1 (L.a rfl (L.nil (T.cf (T.q (L.o (O.aB runUnderlying9 rfl rfl hk.2.2.2.2.1 (L.a rfl (L.nil (T.cf (T.q (L.o (O.aB runUnderlying9 rfl rfl hk.2.2.2.2.2 (L.a rfl (L.nil (T.cf (T.region (L.bM (xs:=[.const (.bool false)]) rfl call108 rfl rfl (dG w2) (fun w' a hR ha=>⟨ha.defers,rfl,by rw [hR];exact he1.trans he2⟩))))))))))))))))))))))
theorem yY (w0:World) (b:Nat) (s:PS) (S:Nat→Prop) (l:Str) (r:List Str) (w:World) (hI:RdI w0 b s S w) (hll:l.length≤100000) (hf:fieldsB l=bD::r) (hlast:s.last ∉ [[]]) :
  Calls Tryz.prog 67 #[.pointer (some ⟨b,0,none⟩),str l] w (Pan (bU) fun w'=>Ext w w'):=by
 refine T.fO (vs:=[.pointer (some ⟨b,0,none⟩),str l]) func67 rfl ntmps67 rfl ?_
 refine T.q (L.m rfl (L.o (O.call (xs:=[.tmp 10,.func 121]) call120 rfl rfl (aP l w hll) (fun v1 w1 hq=>?_))))
 obtain ⟨A,rfl,hS1,he1⟩:=hq
 obtain ⟨d,hK⟩:=hI
 have hK1:=hK.ext he1
 rw [hf]
 rw [hf] at hS1
 refine L.a rfl (L.nil (T.seq (T.q (L.m rfl (L.o (O.len runUnderlying61 rfl (Sl.val hS1) (L.o (O.gW rfl rfl (by simp;omega) (L.nil (T.cf (T.skip (T.seq (?_)))))))))))))
 refine T.fM mixed 6 [4] rfl [.is _,.is _,.is _,.is _,.is _,.is _] [[],[0],[1],[],[3],[2]] [[],[0],[0,1],[],[3],[0,1,2],[0,1,2,3,4,5]] (by kernel_rfl) (by kernel_rfl) rfl (by kernel_rfl) trivial ⟨fun wx hx=>Ob.o (O.move rfl kR),
   fun wx hx=>Ob.o (O.indexAddr runUnderlying61 sizeOf9 rfl rfl (hS1.ext hx) (by decide) (by simp) kR),
   fun wx hx=>Ob.o (O.load isAgg9 rfl ((hS1.ext hx).at (show 0<(bD::r).length by simp)) kR),
   fun wx hx=>Ob.o (O.move rfl kR),
   fun wx hx=>Ob.o (O.jr (l:=1) runUnderlying61 sizeOf9 rfl rfl hS1 (by simp) kR),
   fun wx hx=>Ob.o (O.assign rfl kR),
   trivial⟩ (fun w2 he2=>?_)
 have hR2:=bF (hS1.ext he2) rfl
 refine L.a rfl (L.nil (T.seq (T.q (L.m rfl (L.nil (T.block (T.q (L.o (O.bf runUnderlying9 rfl rfl rfl (L.a rfl (L.nil (T.ct (T.q (L.m rfl (L.o (O.buildSlice (el:=9) (parts:=[(0,_)]) (vs:=[(0,_)]) (cs:=([[]].map str)) rfl (fun w=>by kernel_rfl) (fun b25 w25 afi afj wW Dh=>?_)))))))))))))))))
 have hK3:=(hK1.ext he2).ext wW
 refine L.o (O.call (xs:=[.tmp 24,.tmp 25]) call68 rfl rfl (aV 0 _ [[]] b (aG d s) s.last w25 (Strs.aA Dh rfl (by decide) (Nat.zero_le _)) hK3.row rfl) (fun v3 w3 hq=>?_))
 obtain ⟨rfl,rfl⟩:=hq
 rw [decide_eq_false hlast]
 refine L.m rfl (L.p (L.p (L.p (L.o (O.aj rfl rfl (L.bM (xs:=[.tmp 31]) rfl call108 rfl rfl (dG w3) (fun w' a hR ha=>⟨ha.defers,rfl,by rw [hR];exact (he1.trans he2).trans wW⟩)))))))
theorem wB (w0:World) (b:Nat) (s:PS) (S:Nat→Prop) (l:Str) (r:List Str) (w:World) (hI:RdI w0 b s S w) (hll:l.length≤100000) (hf:fieldsB l=aN::r) (hlast:s.last ∉ [bD,aN]) :
  Calls Tryz.prog 67 #[.pointer (some ⟨b,0,none⟩),str l] w (Pan (bU) fun w'=>Ext w w'):=by
 refine T.fO (vs:=[.pointer (some ⟨b,0,none⟩),str l]) func67 rfl ntmps67 rfl ?_
 refine T.q (L.m rfl (L.o (O.call (xs:=[.tmp 10,.func 121]) call120 rfl rfl (aP l w hll) (fun v1 w1 hq=>?_))))
 obtain ⟨A,rfl,hS1,he1⟩:=hq
 obtain ⟨d,hK⟩:=hI
 have hK1:=hK.ext he1
 rw [hf]
 rw [hf] at hS1
 refine L.a rfl (L.nil (T.seq (T.q (L.m rfl (L.o (O.len runUnderlying61 rfl (Sl.val hS1) (L.o (O.gW rfl rfl (by simp;omega) (L.nil (T.cf (T.skip (T.seq (?_)))))))))))))
 refine T.fM mixed 6 [4] rfl [.is _,.is _,.is _,.is _,.is _,.is _] [[],[0],[1],[],[3],[2]] [[],[0],[0,1],[],[3],[0,1,2],[0,1,2,3,4,5]] (by kernel_rfl) (by kernel_rfl) rfl (by kernel_rfl) trivial ⟨fun wx hx=>Ob.o (O.move rfl kR),
   fun wx hx=>Ob.o (O.indexAddr runUnderlying61 sizeOf9 rfl rfl (hS1.ext hx) (by decide) (by simp) kR),
   fun wx hx=>Ob.o (O.load isAgg9 rfl ((hS1.ext hx).at (show 0<(aN::r).length by simp)) kR),
   fun wx hx=>Ob.o (O.move rfl kR),
   fun wx hx=>Ob.o (O.jr (l:=1) runUnderlying61 sizeOf9 rfl rfl hS1 (by simp) kR),
   fun wx hx=>Ob.o (O.assign rfl kR),
   trivial⟩ (fun w2 he2=>?_)
 have hR2:=bF (hS1.ext he2) rfl
 refine L.a rfl (L.nil (T.seq (T.q (L.m rfl (L.nil (T.block (T.q (L.o (O.aB runUnderlying9 rfl rfl (show ¬ aN=bD by decide) (L.a rfl (L.nil (T.cf (T.q (L.o (O.bf runUnderlying9 rfl rfl rfl (L.a rfl (L.nil (T.ct (T.q (L.m rfl (L.o (O.buildSlice (el:=9) (parts:=[(0,_),(1,_)]) (vs:=[(0,_),(1,_)]) (cs:=([bD,aN].map str)) rfl (fun w=>by kernel_rfl) (fun b62 w62 afk afl Eb UO=>?_)))))))))))))))))))))))
 have hK3:=(hK1.ext he2).ext Eb
 refine L.o (O.call (xs:=[.tmp 61,.tmp 62]) call68 rfl rfl (aV 0 _ [bD,aN] b (aG d s) s.last w62 (Strs.aA UO rfl (by decide) (Nat.zero_le _)) hK3.row rfl) (fun v3 w3 hq=>?_))
 obtain ⟨rfl,rfl⟩:=hq
 rw [decide_eq_false hlast]
 refine L.m rfl (L.p (L.p (L.p (L.o (O.aj rfl rfl (L.bM (xs:=[.tmp 68]) rfl call108 rfl rfl (dG w3) (fun w' a hR ha=>⟨ha.defers,rfl,by rw [hR];exact (he1.trans he2).trans Eb⟩)))))))
theorem yZ (w0:World) (b:Nat) (s:PS) (S:Nat→Prop) (l:Str) (r:List Str) (w:World) (hI:RdI w0 b s S w) (hll:l.length≤100000) (hf:fieldsB l=aZ::r) (hlast:s.last ∉ [bD,aN,aZ,bn]) :
  Calls Tryz.prog 67 #[.pointer (some ⟨b,0,none⟩),str l] w (Pan (bU) fun w'=>Ext w w'):=by
 refine T.fO (vs:=[.pointer (some ⟨b,0,none⟩),str l]) func67 rfl ntmps67 rfl ?_
 refine T.q (L.m rfl (L.o (O.call (xs:=[.tmp 10,.func 121]) call120 rfl rfl (aP l w hll) (fun v1 w1 hq=>?_))))
 obtain ⟨A,rfl,hS1,he1⟩:=hq
 obtain ⟨d,hK⟩:=hI
 have hK1:=hK.ext he1
 rw [hf]
 rw [hf] at hS1
 refine L.a rfl (L.nil (T.seq (T.q (L.m rfl (L.o (O.len runUnderlying61 rfl (Sl.val hS1) (L.o (O.gW rfl rfl (by simp;omega) (L.nil (T.cf (T.skip (T.seq (?_)))))))))))))
 refine T.fM mixed 6 [4] rfl [.is _,.is _,.is _,.is _,.is _,.is _] [[],[0],[1],[],[3],[2]] [[],[0],[0,1],[],[3],[0,1,2],[0,1,2,3,4,5]] (by kernel_rfl) (by kernel_rfl) rfl (by kernel_rfl) trivial ⟨fun wx hx=>Ob.o (O.move rfl kR),
   fun wx hx=>Ob.o (O.indexAddr runUnderlying61 sizeOf9 rfl rfl (hS1.ext hx) (by decide) (by simp) kR),
   fun wx hx=>Ob.o (O.load isAgg9 rfl ((hS1.ext hx).at (show 0<(aZ::r).length by simp)) kR),
   fun wx hx=>Ob.o (O.move rfl kR),
   fun wx hx=>Ob.o (O.jr (l:=1) runUnderlying61 sizeOf9 rfl rfl hS1 (by simp) kR),
   fun wx hx=>Ob.o (O.assign rfl kR),
   trivial⟩ (fun w2 he2=>?_)
 have hR2:=bF (hS1.ext he2) rfl
 refine L.a rfl (L.nil (T.seq (T.q (L.m rfl (L.nil (T.block (T.q (L.o (O.aB runUnderlying9 rfl rfl (show ¬ aZ=bD by decide) (L.a rfl (L.nil (T.cf (T.q (L.o (O.aB runUnderlying9 rfl rfl (show ¬ aZ=aN by decide) (L.a rfl (L.nil (T.cf (T.q (L.o (O.bf runUnderlying9 rfl rfl rfl (L.a rfl (?_)))))))))))))))))))))))
 refine L.nil (T.ct (T.q (L.m rfl (L.o (O.buildSlice (el:=9) (parts:=[(0,_),(1,_),(2,_),(3,_)]) (vs:=[(0,_),(1,_),(2,_),(3,_)]) (cs:=([bD,aN,aZ,bn].map str)) rfl (fun w=>by kernel_rfl) (fun b95 w95 ahw ahx Ut ab5=>?_))))))
 have hK3:=(hK1.ext he2).ext Ut
 refine L.o (O.call (xs:=[.tmp 94,.tmp 95]) call68 rfl rfl (aV 0 _ [bD,aN,aZ,bn] b (aG d s) s.last w95 (Strs.aA ab5 rfl (by decide) (Nat.zero_le _)) hK3.row rfl) (fun v3 w3 hq=>?_))
 obtain ⟨rfl,rfl⟩:=hq
 rw [decide_eq_false hlast]
 refine L.bM (xs:=[.tmp 96]) rfl call108 rfl rfl (dG w3) (fun w' a hR ha=>⟨ha.defers,rfl,by rw [hR];exact (he1.trans he2).trans Ut⟩)
theorem y5 (w0:World) (b:Nat) (s:PS) (S:Nat→Prop) (l:Str) (r:List Str) (w:World) (hI:RdI w0 b s S w) (hll:l.length≤100000) (hf:fieldsB l=bn::r) (hlast:s.last ∉ [aZ,bn]) :
  Calls Tryz.prog 67 #[.pointer (some ⟨b,0,none⟩),str l] w (Pan (bU) fun w'=>Ext w w'):=by
 refine T.fO (vs:=[.pointer (some ⟨b,0,none⟩),str l]) func67 rfl ntmps67 rfl ?_
 refine T.q (L.m rfl (L.o (O.call (xs:=[.tmp 10,.func 121]) call120 rfl rfl (aP l w hll) (fun v1 w1 hq=>?_))))
 obtain ⟨A,rfl,hS1,he1⟩:=hq
 obtain ⟨d,hK⟩:=hI
 have hK1:=hK.ext he1
 rw [hf]
 rw [hf] at hS1
 refine L.a rfl (L.nil (T.seq (T.q (L.m rfl (L.o (O.len runUnderlying61 rfl (Sl.val hS1) (L.o (O.gW rfl rfl (by simp;omega) (L.nil (T.cf (T.skip (T.seq (?_)))))))))))))
 refine T.fM mixed 6 [4] rfl [.is _,.is _,.is _,.is _,.is _,.is _] [[],[0],[1],[],[3],[2]] [[],[0],[0,1],[],[3],[0,1,2],[0,1,2,3,4,5]] (by kernel_rfl) (by kernel_rfl) rfl (by kernel_rfl) trivial ⟨fun wx hx=>Ob.o (O.move rfl kR),
   fun wx hx=>Ob.o (O.indexAddr runUnderlying61 sizeOf9 rfl rfl (hS1.ext hx) (by decide) (by simp) kR),
   fun wx hx=>Ob.o (O.load isAgg9 rfl ((hS1.ext hx).at (show 0<(bn::r).length by simp)) kR),
   fun wx hx=>Ob.o (O.move rfl kR),
   fun wx hx=>Ob.o (O.jr (l:=1) runUnderlying61 sizeOf9 rfl rfl hS1 (by simp) kR),
   fun wx hx=>Ob.o (O.assign rfl kR),
   trivial⟩ (fun w2 he2=>?_)
 have hR2:=bF (hS1.ext he2) rfl
 refine L.a rfl (L.nil (T.seq (T.q (L.m rfl (L.nil (T.block (T.q (L.o (O.aB runUnderlying9 rfl rfl (show ¬ bn=bD by decide) (L.a rfl (L.nil (T.cf (T.q (L.o (O.aB runUnderlying9 rfl rfl (show ¬ bn=aN by decide) (L.a rfl (L.nil (T.cf (T.q (L.o (O.aB runUnderlying9 rfl rfl (show ¬ bn=aZ by decide) (L.a rfl (?_)))))))))))))))))))))))
 refine L.nil (T.cf (T.q (L.o (O.bf runUnderlying9 rfl rfl rfl (L.a rfl (L.nil (T.ct (T.q (L.m rfl (L.o (O.buildSlice (el:=9) (parts:=[(0,_),(1,_)]) (vs:=[(0,_),(1,_)]) (cs:=([aZ,bn].map str)) rfl (fun w=>by kernel_rfl) (fun ahz SA ab7 Zi wz JR=>?_))))))))))))
 have hK3:=(hK1.ext he2).ext wz
 refine L.o (O.call (xs:=[.tmp 116,.tmp 117]) call68 rfl rfl (aV 0 _ [aZ,bn] b (aG d s) s.last SA (Strs.aA JR rfl (by decide) (Nat.zero_le _)) hK3.row rfl) (fun v3 w3 hq=>?_))
 obtain ⟨rfl,rfl⟩:=hq
 rw [decide_eq_false hlast]
 refine L.bM (xs:=[.tmp 118]) rfl call108 rfl rfl (dG w3) (fun w' a hR ha=>⟨ha.defers,rfl,by rw [hR];exact (he1.trans he2).trans wz⟩)
theorem wC (w0:World) (b:Nat) (s:PS) (S:Nat→Prop) (l:Str) (r:List Str) (w:World) (hI:RdI w0 b s S w) (hll:l.length≤100000) (hf:fieldsB l=bP::r) (hlast:s.last ∈ [[],dL]) :
  Calls Tryz.prog 67 #[.pointer (some ⟨b,0,none⟩),str l] w (Pan (bU) fun w'=>Ext w w'):=by
 refine T.fO (vs:=[.pointer (some ⟨b,0,none⟩),str l]) func67 rfl ntmps67 rfl ?_
 refine T.q (L.m rfl (L.o (O.call (xs:=[.tmp 10,.func 121]) call120 rfl rfl (aP l w hll) (fun v1 w1 hq=>?_))))
 obtain ⟨A,rfl,hS1,he1⟩:=hq
 obtain ⟨d,hK⟩:=hI
 have hK1:=hK.ext he1
 rw [hf]
 rw [hf] at hS1
 refine L.a rfl (L.nil (T.seq (T.q (L.m rfl (L.o (O.len runUnderlying61 rfl (Sl.val hS1) (L.o (O.gW rfl rfl (by simp;omega) (L.nil (T.cf (T.skip (T.seq (?_)))))))))))))
 refine T.fM mixed 6 [4] rfl [.is _,.is _,.is _,.is _,.is _,.is _] [[],[0],[1],[],[3],[2]] [[],[0],[0,1],[],[3],[0,1,2],[0,1,2,3,4,5]] (by kernel_rfl) (by kernel_rfl) rfl (by kernel_rfl) trivial ⟨fun wx hx=>Ob.o (O.move rfl kR),
   fun wx hx=>Ob.o (O.indexAddr runUnderlying61 sizeOf9 rfl rfl (hS1.ext hx) (by decide) (by simp) kR),
   fun wx hx=>Ob.o (O.load isAgg9 rfl ((hS1.ext hx).at (show 0<(bP::r).length by simp)) kR),
   fun wx hx=>Ob.o (O.move rfl kR),
   fun wx hx=>Ob.o (O.jr (l:=1) runUnderlying61 sizeOf9 rfl rfl hS1 (by simp) kR),
   fun wx hx=>Ob.o (O.assign rfl kR),
   trivial⟩ (fun w2 he2=>?_)
 have hR2:=bF (hS1.ext he2) rfl
 refine L.a rfl (L.nil (T.seq (T.q (L.m rfl (L.nil (T.block (T.q (L.o (O.aB runUnderlying9 rfl rfl (show ¬ bP=bD by decide) (L.a rfl (L.nil (T.cf (T.q (L.o (O.aB runUnderlying9 rfl rfl (show ¬ bP=aN by decide) (L.a rfl (L.nil (T.cf (T.q (L.o (O.aB runUnderlying9 rfl rfl (show ¬ bP=aZ by decide) (L.a rfl (?_)))))))))))))))))))))))
 refine L.nil (T.cf (T.q (L.o (O.aB runUnderlying9 rfl rfl (show ¬ bP=bn by decide) (L.a rfl (L.nil (T.cf (T.q (L.o (O.bf runUnderlying9 rfl rfl rfl (L.a rfl (L.nil (T.ct (T.q (L.m rfl (L.o (O.buildSlice (el:=9) (parts:=[(0,_),(1,_)]) (vs:=[(0,_),(1,_)]) (cs:=([[],dL].map str)) rfl (fun w=>by kernel_rfl) (fun ahA ab8 ab9 acd Ag SV=>?_))))))))))))))))))
 have hK3:=(hK1.ext he2).ext Ag
 refine L.o (O.call (xs:=[.tmp 148,.tmp 149]) call68 rfl rfl (aV 0 _ [[],dL] b (aG d s) s.last ab8 (Strs.aA SV rfl (by decide) (Nat.zero_le _)) hK3.row rfl) (fun v3 w3 hq=>?_))
 obtain ⟨rfl,rfl⟩:=hq
 rw [decide_eq_true hlast]
 refine L.o (O.not rfl (L.bM (xs:=[.tmp 151]) rfl call108 rfl rfl (dG w3) (fun w' a hR ha=>⟨ha.defers,rfl,by rw [hR];exact (he1.trans he2).trans Ag⟩)))
theorem Ah (w0:World) (b:Nat) (s:PS) (S:Nat→Prop) (l:Str) (r:List Str) (w:World) (hI:RdI w0 b s S w) (hll:l.length≤100000) (hf:fieldsB l=dL::r) (hlast:s.last ∈ [[],dL]) :
  Calls Tryz.prog 67 #[.pointer (some ⟨b,0,none⟩),str l] w (Pan (bU) fun w'=>Ext w w'):=by
 refine T.fO (vs:=[.pointer (some ⟨b,0,none⟩),str l]) func67 rfl ntmps67 rfl ?_
 refine T.q (L.m rfl (L.o (O.call (xs:=[.tmp 10,.func 121]) call120 rfl rfl (aP l w hll) (fun v1 w1 hq=>?_))))
 obtain ⟨A,rfl,hS1,he1⟩:=hq
 obtain ⟨d,hK⟩:=hI
 have hK1:=hK.ext he1
 rw [hf]
 rw [hf] at hS1
 refine L.a rfl (L.nil (T.seq (T.q (L.m rfl (L.o (O.len runUnderlying61 rfl (Sl.val hS1) (L.o (O.gW rfl rfl (by simp;omega) (L.nil (T.cf (T.skip (T.seq (?_)))))))))))))
 refine T.fM mixed 6 [4] rfl [.is _,.is _,.is _,.is _,.is _,.is _] [[],[0],[1],[],[3],[2]] [[],[0],[0,1],[],[3],[0,1,2],[0,1,2,3,4,5]] (by kernel_rfl) (by kernel_rfl) rfl (by kernel_rfl) trivial ⟨fun wx hx=>Ob.o (O.move rfl kR),
   fun wx hx=>Ob.o (O.indexAddr runUnderlying61 sizeOf9 rfl rfl (hS1.ext hx) (by decide) (by simp) kR),
   fun wx hx=>Ob.o (O.load isAgg9 rfl ((hS1.ext hx).at (show 0<(dL::r).length by simp)) kR),
   fun wx hx=>Ob.o (O.move rfl kR),
   fun wx hx=>Ob.o (O.jr (l:=1) runUnderlying61 sizeOf9 rfl rfl hS1 (by simp) kR),
   fun wx hx=>Ob.o (O.assign rfl kR),
   trivial⟩ (fun w2 he2=>?_)
 have hR2:=bF (hS1.ext he2) rfl
 refine L.a rfl (L.nil (T.seq (T.q (L.m rfl (L.nil (T.block (T.q (L.o (O.aB runUnderlying9 rfl rfl (show ¬ dL=bD by decide) (L.a rfl (L.nil (T.cf (T.q (L.o (O.aB runUnderlying9 rfl rfl (show ¬ dL=aN by decide) (L.a rfl (L.nil (T.cf (T.q (L.o (O.aB runUnderlying9 rfl rfl (show ¬ dL=aZ by decide) (L.a rfl (?_)))))))))))))))))))))))
 refine L.nil (T.cf (T.q (L.o (O.aB runUnderlying9 rfl rfl (show ¬ dL=bn by decide) (L.a rfl (L.nil (T.cf (T.q (L.o (O.aB runUnderlying9 rfl rfl (show ¬ dL=bP by decide) (L.a rfl (L.nil (T.cf (T.q (L.o (O.bf runUnderlying9 rfl rfl rfl (L.a rfl (L.nil (T.ct (T.region (L.m rfl (L.o (O.buildSlice (el:=9) (parts:=[(0,_),(1,_)]) (vs:=[(0,_),(1,_)]) (cs:=([[],dL].map str)) rfl (fun w=>by kernel_rfl) (fun ahq abX abY abZ Af SG=>?_))))))))))))))))))))))))
 have hK3:=(hK1.ext he2).ext Af
 refine L.o (O.call (xs:=[.tmp 158,.tmp 159]) call68 rfl rfl (aV 0 _ [[],dL] b (aG d s) s.last abX (Strs.aA SG rfl (by decide) (Nat.zero_le _)) hK3.row rfl) (fun v3 w3 hq=>?_))
 obtain ⟨rfl,rfl⟩:=hq
 rw [decide_eq_true hlast]
 refine L.o (O.not rfl (L.m rfl (L.p (L.p (L.p (L.o (O.aj rfl rfl (L.bM (xs:=[.tmp 166]) rfl call108 rfl rfl (dG w3) (fun w' a hR ha=>⟨ha.defers,rfl,by rw [hR];exact (he1.trans he2).trans Af⟩)))))))))
open Go Go.E RowKit
theorem y7 (w0:World) (b:Nat) (s:PS) (S:Nat→Prop) (l:Str) (r:List Str) (w:World) (hI:RdI w0 b s S w) (hll:l.length≤100000) (hf:fieldsB l=bD::r) (hlast:s.last ∈ [[]]) (hr:¬ r.length=3) :
  Calls Tryz.prog 67 #[.pointer (some ⟨b,0,none⟩),str l] w (Pan (bU) fun w'=>Ext w w'):=by
 refine T.fO (vs:=[.pointer (some ⟨b,0,none⟩),str l]) func67 rfl ntmps67 rfl ?_
 refine T.q (L.m rfl (L.o (O.call (xs:=[.tmp 10,.func 121]) call120 rfl rfl (aP l w hll) (fun v1 w1 hq=>?_))))
 obtain ⟨A,rfl,hS1,he1⟩:=hq
 obtain ⟨d,hK⟩:=hI
 have hK1:=hK.ext he1
 rw [hf]
 rw [hf] at hS1
 refine L.a rfl (L.nil (T.seq (T.q (L.m rfl (L.o (O.len runUnderlying61 rfl (Sl.val hS1) (L.o (O.gW rfl rfl (by simp;omega) (L.nil (T.cf (T.skip (T.seq (?_)))))))))))))
 refine T.fM mixed 6 [4] rfl [.is _,.is _,.is _,.is _,.is _,.is _] [[],[0],[1],[],[3],[2]] [[],[0],[0,1],[],[3],[0,1,2],[0,1,2,3,4,5]] (by kernel_rfl) (by kernel_rfl) rfl (by kernel_rfl) trivial ⟨fun wx hx=>Ob.o (O.move rfl kR),
   fun wx hx=>Ob.o (O.indexAddr runUnderlying61 sizeOf9 rfl rfl (hS1.ext hx) (by decide) (by simp) kR),
   fun wx hx=>Ob.o (O.load isAgg9 rfl ((hS1.ext hx).at (show 0<(bD::r).length by simp)) kR),
   fun wx hx=>Ob.o (O.move rfl kR),
   fun wx hx=>Ob.o (O.jr (l:=1) runUnderlying61 sizeOf9 rfl rfl hS1 (by simp) kR),
   fun wx hx=>Ob.o (O.assign rfl kR),
   trivial⟩ (fun w2 he2=>?_)
 have hR2:=bF (hS1.ext he2) rfl
 refine L.a rfl (L.nil (T.seq (T.q (L.m rfl (L.nil (T.block (T.q (L.o (O.bf runUnderlying9 rfl rfl rfl (L.a rfl (L.nil (T.ct (T.q (L.m rfl (L.o (O.buildSlice (el:=9) (parts:=[(0,_)]) (vs:=[(0,_)]) (cs:=([[]].map str)) rfl (fun w=>by kernel_rfl) (fun b25 w25 afi afj wW Dh=>?_)))))))))))))))))
 have hK3:=(hK1.ext he2).ext wW
 refine L.o (O.call (xs:=[.tmp 24,.tmp 25]) call68 rfl rfl (aV 0 _ [[]] b (aG d s) s.last w25 (Strs.aA Dh rfl (by decide) (Nat.zero_le _)) hK3.row rfl) (fun v3 w3 hq=>?_))
 obtain ⟨rfl,rfl⟩:=hq
 rw [decide_eq_true hlast]
 refine L.m rfl (L.m rfl (L.o (O.len runUnderlying61 rfl (Sl.val (hR2.ext wW)) (L.o (O.gW rfl rfl (by omega) (L.o (O.ah rfl rfl (L.bM (xs:=[.tmp 31]) rfl call108 rfl rfl (dG w3) (fun w' a hR ha=>⟨ha.defers,rfl,by rw [hR];exact (he1.trans he2).trans wW⟩)))))))))
theorem Ai (w0:World) (b:Nat) (s:PS) (S:Nat→Prop) (l:Str) (r:List Str) (w:World) (hI:RdI w0 b s S w) (hll:l.length≤100000) (hf:fieldsB l=bD::r) (hlast:s.last ∈ [[]]) (hr:r.length=3) (hL:je w) (hn:dY r=none) :
  Calls Tryz.prog 67 #[.pointer (some ⟨b,0,none⟩),str l] w (Pan (bU) fun w'=>Ext w w'):=by
 refine T.fO (vs:=[.pointer (some ⟨b,0,none⟩),str l]) func67 rfl ntmps67 rfl ?_
 refine T.q (L.m rfl (L.o (O.call (xs:=[.tmp 10,.func 121]) call120 rfl rfl (aP l w hll) (fun v1 w1 hq=>?_))))
 obtain ⟨A,rfl,hS1,he1⟩:=hq
 obtain ⟨d,hK⟩:=hI
 have hK1:=hK.ext he1
 rw [hf]
 rw [hf] at hS1
 refine L.a rfl (L.nil (T.seq (T.q (L.m rfl (L.o (O.len runUnderlying61 rfl (Sl.val hS1) (L.o (O.gW rfl rfl (by simp;omega) (L.nil (T.cf (T.skip (T.seq (?_)))))))))))))
 refine T.fM mixed 6 [4] rfl [.is _,.is _,.is _,.is _,.is _,.is _] [[],[0],[1],[],[3],[2]] [[],[0],[0,1],[],[3],[0,1,2],[0,1,2,3,4,5]] (by kernel_rfl) (by kernel_rfl) rfl (by kernel_rfl) trivial ⟨fun wx hx=>Ob.o (O.move rfl kR),
   fun wx hx=>Ob.o (O.indexAddr runUnderlying61 sizeOf9 rfl rfl (hS1.ext hx) (by decide) (by simp) kR),
   fun wx hx=>Ob.o (O.load isAgg9 rfl ((hS1.ext hx).at (show 0<(bD::r).length by simp)) kR),
   fun wx hx=>Ob.o (O.move rfl kR),
   fun wx hx=>Ob.o (O.jr (l:=1) runUnderlying61 sizeOf9 rfl rfl hS1 (by simp) kR),
   fun wx hx=>Ob.o (O.assign rfl kR),
   trivial⟩ (fun w2 he2=>?_)
 have hR2:=bF (hS1.ext he2) rfl
 refine L.a rfl (L.nil (T.seq (T.q (L.m rfl (L.nil (T.block (T.q (L.o (O.bf runUnderlying9 rfl rfl rfl (L.a rfl (L.nil (T.ct (T.q (L.m rfl (L.o (O.buildSlice (el:=9) (parts:=[(0,_)]) (vs:=[(0,_)]) (cs:=([[]].map str)) rfl (fun w=>by kernel_rfl) (fun b25 w25 afi afj wW Dh=>?_)))))))))))))))))
 have hK3:=(hK1.ext he2).ext wW
 refine L.o (O.call (xs:=[.tmp 24,.tmp 25]) call68 rfl rfl (aV 0 _ [[]] b (aG d s) s.last w25 (Strs.aA Dh rfl (by decide) (Nat.zero_le _)) hK3.row rfl) (fun v3 w3 hq=>?_))
 obtain ⟨rfl,rfl⟩:=hq
 rw [decide_eq_true hlast]
 refine L.m rfl (L.m rfl (L.o (O.len runUnderlying61 rfl (Sl.val (hR2.ext wW)) (L.o (O.jk rfl rfl (by omega) (L.o (O.ah rfl rfl (L.o (O.call (xs:=[.tmp 31]) call108 rfl rfl (dK w3) (fun v4 w4 hq=>?_))))))))))
 obtain rfl:=hq
 refine L.nil (T.q (L.m rfl (L.bM (xs:=[.tmp 33]) rfl call122 rfl rfl (kY _ _ r w4 (hR2.ext wW) (hL.ext ((he1.trans he2).trans wW)) (cO hll hf) hn (by omega)) (fun w' a hR ha=>⟨ha.defers,rfl,((he1.trans he2).trans wW).trans hR⟩))))
theorem wE (w0:World) (b:Nat) (s:PS) (S:Nat→Prop) (l:Str) (r:List Str) (w:World) (hI:RdI w0 b s S w) (hll:l.length≤100000) (hf:fieldsB l=aN::r) (hlast:s.last ∈ [bD,aN]) (hr:¬ r.length=2) :
  Calls Tryz.prog 67 #[.pointer (some ⟨b,0,none⟩),str l] w (Pan (bU) fun w'=>Ext w w'):=by
 refine T.fO (vs:=[.pointer (some ⟨b,0,none⟩),str l]) func67 rfl ntmps67 rfl ?_
 refine T.q (L.m rfl (L.o (O.call (xs:=[.tmp 10,.func 121]) call120 rfl rfl (aP l w hll) (fun v1 w1 hq=>?_))))
 obtain ⟨A,rfl,hS1,he1⟩:=hq
 obtain ⟨d,hK⟩:=hI
 have hK1:=hK.ext he1
 rw [hf]
 rw [hf] at hS1
 refine L.a rfl (L.nil (T.seq (T.q (L.m rfl (L.o (O.len runUnderlying61 rfl (Sl.val hS1) (L.o (O.gW rfl rfl (by simp;omega) (L.nil (T.cf (T.skip (T.seq (?_)))))))))))))
 refine T.fM mixed 6 [4] rfl [.is _,.is _,.is _,.is _,.is _,.is _] [[],[0],[1],[],[3],[2]] [[],[0],[0,1],[],[3],[0,1,2],[0,1,2,3,4,5]] (by kernel_rfl) (by kernel_rfl) rfl (by kernel_rfl) trivial ⟨fun wx hx=>Ob.o (O.move rfl kR),
   fun wx hx=>Ob.o (O.indexAddr runUnderlying61 sizeOf9 rfl rfl (hS1.ext hx) (by decide) (by simp) kR),
   fun wx hx=>Ob.o (O.load isAgg9 rfl ((hS1.ext hx).at (show 0<(aN::r).length by simp)) kR),
   fun wx hx=>Ob.o (O.move rfl kR),
   fun wx hx=>Ob.o (O.jr (l:=1) runUnderlying61 sizeOf9 rfl rfl hS1 (by simp) kR),
   fun wx hx=>Ob.o (O.assign rfl kR),
   trivial⟩ (fun w2 he2=>?_)
 have hR2:=bF (hS1.ext he2) rfl
 refine L.a rfl (L.nil (T.seq (T.q (L.m rfl (L.nil (T.block (T.q (L.o (O.aB runUnderlying9 rfl rfl (show ¬ aN=bD by decide) (L.a rfl (L.nil (T.cf (T.q (L.o (O.bf runUnderlying9 rfl rfl rfl (L.a rfl (L.nil (T.ct (T.q (L.m rfl (L.o (O.buildSlice (el:=9) (parts:=[(0,_),(1,_)]) (vs:=[(0,_),(1,_)]) (cs:=([bD,aN].map str)) rfl (fun w=>by kernel_rfl) (fun b62 w62 afk afl Eb UO=>?_)))))))))))))))))))))))
 have hK3:=(hK1.ext he2).ext Eb
 refine L.o (O.call (xs:=[.tmp 61,.tmp 62]) call68 rfl rfl (aV 0 _ [bD,aN] b (aG d s) s.last w62 (Strs.aA UO rfl (by decide) (Nat.zero_le _)) hK3.row rfl) (fun v3 w3 hq=>?_))
 obtain ⟨rfl,rfl⟩:=hq
 rw [decide_eq_true hlast]
 refine L.m rfl (L.m rfl (L.o (O.len runUnderlying61 rfl (Sl.val (hR2.ext Eb)) (L.o (O.gW rfl rfl (by omega) (L.o (O.ah rfl rfl (L.bM (xs:=[.tmp 68]) rfl call108 rfl rfl (dG w3) (fun w' a hR ha=>⟨ha.defers,rfl,by rw [hR];exact (he1.trans he2).trans Eb⟩)))))))))
theorem y8 (w0:World) (b:Nat) (s:PS) (S:Nat→Prop) (l:Str) (r:List Str) (w:World) (hI:RdI w0 b s S w) (hll:l.length≤100000) (hf:fieldsB l=aN::r) (hlast:s.last ∈ [bD,aN]) (hr:r.length=2) (hL:je w) (hn:dY r=none) :
  Calls Tryz.prog 67 #[.pointer (some ⟨b,0,none⟩),str l] w (Pan (bU) fun w'=>Ext w w'):=by
 refine T.fO (vs:=[.pointer (some ⟨b,0,none⟩),str l]) func67 rfl ntmps67 rfl ?_
 refine T.q (L.m rfl (L.o (O.call (xs:=[.tmp 10,.func 121]) call120 rfl rfl (aP l w hll) (fun v1 w1 hq=>?_))))
 obtain ⟨A,rfl,hS1,he1⟩:=hq
 obtain ⟨d,hK⟩:=hI
 have hK1:=hK.ext he1
 rw [hf]
 rw [hf] at hS1
 refine L.a rfl (L.nil (T.seq (T.q (L.m rfl (L.o (O.len runUnderlying61 rfl (Sl.val hS1) (L.o (O.gW rfl rfl (by simp;omega) (L.nil (T.cf (T.skip (T.seq (?_)))))))))))))
 refine T.fM mixed 6 [4] rfl [.is _,.is _,.is _,.is _,.is _,.is _] [[],[0],[1],[],[3],[2]] [[],[0],[0,1],[],[3],[0,1,2],[0,1,2,3,4,5]] (by kernel_rfl) (by kernel_rfl) rfl (by kernel_rfl) trivial ⟨fun wx hx=>Ob.o (O.move rfl kR),
   fun wx hx=>Ob.o (O.indexAddr runUnderlying61 sizeOf9 rfl rfl (hS1.ext hx) (by decide) (by simp) kR),
   fun wx hx=>Ob.o (O.load isAgg9 rfl ((hS1.ext hx).at (show 0<(aN::r).length by simp)) kR),
   fun wx hx=>Ob.o (O.move rfl kR),
   fun wx hx=>Ob.o (O.jr (l:=1) runUnderlying61 sizeOf9 rfl rfl hS1 (by simp) kR),
   fun wx hx=>Ob.o (O.assign rfl kR),
   trivial⟩ (fun w2 he2=>?_)
 have hR2:=bF (hS1.ext he2) rfl
 refine L.a rfl (L.nil (T.seq (T.q (L.m rfl (L.nil (T.block (T.q (L.o (O.aB runUnderlying9 rfl rfl (show ¬ aN=bD by decide) (L.a rfl (L.nil (T.cf (T.q (L.o (O.bf runUnderlying9 rfl rfl rfl (L.a rfl (L.nil (T.ct (T.q (L.m rfl (L.o (O.buildSlice (el:=9) (parts:=[(0,_),(1,_)]) (vs:=[(0,_),(1,_)]) (cs:=([bD,aN].map str)) rfl (fun w=>by kernel_rfl) (fun b62 w62 afk afl Eb UO=>?_)))))))))))))))))))))))
 have hK3:=(hK1.ext he2).ext Eb
 refine L.o (O.call (xs:=[.tmp 61,.tmp 62]) call68 rfl rfl (aV 0 _ [bD,aN] b (aG d s) s.last w62 (Strs.aA UO rfl (by decide) (Nat.zero_le _)) hK3.row rfl) (fun v3 w3 hq=>?_))
 obtain ⟨rfl,rfl⟩:=hq
 rw [decide_eq_true hlast]
 refine L.m rfl (L.m rfl (L.o (O.len runUnderlying61 rfl (Sl.val (hR2.ext Eb)) (L.o (O.jk rfl rfl (by omega) (L.o (O.ah rfl rfl (L.o (O.call (xs:=[.tmp 68]) call108 rfl rfl (dK w3) (fun v4 w4 hq=>?_))))))))))
 obtain rfl:=hq
 refine L.nil (T.q (L.m rfl (L.bM (xs:=[.tmp 70]) rfl call122 rfl rfl (kY _ _ r w4 (hR2.ext Eb) (hL.ext ((he1.trans he2).trans Eb)) (cO hll hf) hn (by omega)) (fun w' a hR ha=>⟨ha.defers,rfl,((he1.trans he2).trans Eb).trans hR⟩))))
theorem Aj (w0:World) (b:Nat) (s:PS) (S:Nat→Prop) (l:Str) (r:List Str) (w:World) (hI:RdI w0 b s S w) (hll:l.length≤100000) (hf:fieldsB l=dL::r) (hlast:s.last ∉ [[],dL]) (hr:¬ r.length=0) :
  Calls Tryz.prog 67 #[.pointer (some ⟨b,0,none⟩),str l] w (Pan (bU) fun w'=>Ext w w'):=by
 refine T.fO (vs:=[.pointer (some ⟨b,0,none⟩),str l]) func67 rfl ntmps67 rfl ?_
 refine T.q (L.m rfl (L.o (O.call (xs:=[.tmp 10,.func 121]) call120 rfl rfl (aP l w hll) (fun v1 w1 hq=>?_))))
 obtain ⟨A,rfl,hS1,he1⟩:=hq
 obtain ⟨d,hK⟩:=hI
 have hK1:=hK.ext he1
 rw [hf]
 rw [hf] at hS1
 refine L.a rfl (L.nil (T.seq (T.q (L.m rfl (L.o (O.len runUnderlying61 rfl (Sl.val hS1) (L.o (O.gW rfl rfl (by simp;omega) (L.nil (T.cf (T.skip (T.seq (?_)))))))))))))
 refine T.fM mixed 6 [4] rfl [.is _,.is _,.is _,.is _,.is _,.is _] [[],[0],[1],[],[3],[2]] [[],[0],[0,1],[],[3],[0,1,2],[0,1,2,3,4,5]] (by kernel_rfl) (by kernel_rfl) rfl (by kernel_rfl) trivial ⟨fun wx hx=>Ob.o (O.move rfl kR),
   fun wx hx=>Ob.o (O.indexAddr runUnderlying61 sizeOf9 rfl rfl (hS1.ext hx) (by decide) (by simp) kR),
   fun wx hx=>Ob.o (O.load isAgg9 rfl ((hS1.ext hx).at (show 0<(dL::r).length by simp)) kR),
   fun wx hx=>Ob.o (O.move rfl kR),
   fun wx hx=>Ob.o (O.jr (l:=1) runUnderlying61 sizeOf9 rfl rfl hS1 (by simp) kR),
   fun wx hx=>Ob.o (O.assign rfl kR),
   trivial⟩ (fun w2 he2=>?_)
 have hR2:=bF (hS1.ext he2) rfl
 refine L.a rfl (L.nil (T.seq (T.q (L.m rfl (L.nil (T.block (T.q (L.o (O.aB runUnderlying9 rfl rfl (show ¬ dL=bD by decide) (L.a rfl (L.nil (T.cf (T.q (L.o (O.aB runUnderlying9 rfl rfl (show ¬ dL=aN by decide) (L.a rfl (L.nil (T.cf (T.q (L.o (O.aB runUnderlying9 rfl rfl (show ¬ dL=aZ by decide) (L.a rfl (?_)))))))))))))))))))))))
 refine L.nil (T.cf (T.q (L.o (O.aB runUnderlying9 rfl rfl (show ¬ dL=bn by decide) (L.a rfl (L.nil (T.cf (T.q (L.o (O.aB runUnderlying9 rfl rfl (show ¬ dL=bP by decide) (L.a rfl (L.nil (T.cf (T.q (L.o (O.bf runUnderlying9 rfl rfl rfl (L.a rfl (L.nil (T.ct (T.region (L.m rfl (L.o (O.buildSlice (el:=9) (parts:=[(0,_),(1,_)]) (vs:=[(0,_),(1,_)]) (cs:=([[],dL].map str)) rfl (fun w=>by kernel_rfl) (fun ahq abX abY abZ Af SG=>?_))))))))))))))))))))))))
 have hK3:=(hK1.ext he2).ext Af
 refine L.o (O.call (xs:=[.tmp 158,.tmp 159]) call68 rfl rfl (aV 0 _ [[],dL] b (aG d s) s.last abX (Strs.aA SG rfl (by decide) (Nat.zero_le _)) hK3.row rfl) (fun v3 w3 hq=>?_))
 obtain ⟨rfl,rfl⟩:=hq
 rw [decide_eq_false hlast]
 refine L.o (O.not rfl (L.m rfl (L.m rfl (L.o (O.len runUnderlying61 rfl (Sl.val (hR2.ext Af)) (L.o (O.gW rfl rfl (by omega) (L.o (O.ah rfl rfl (L.bM (xs:=[.tmp 166]) rfl call108 rfl rfl (dG w3) (fun w' a hR ha=>⟨ha.defers,rfl,by rw [hR];exact (he1.trans he2).trans Af⟩)))))))))))
open Go Go.E RowKit
theorem Ak (w0:World) (b:Nat) (s:PS) (S:Nat→Prop) (l:Str) (r:List Str) (w:World) (hI:RdI w0 b s S w) (hll:l.length≤100000) (hf:fieldsB l=aZ::r) (hlast:s.last ∈ [bD,aN,aZ,bn]) (hL:je w) (hn:dY r=none) (hr:r.length≤100000) :
  Calls Tryz.prog 67 #[.pointer (some ⟨b,0,none⟩),str l] w (Pan (bU) fun w'=>Ext w w'):=by
 refine T.fO (vs:=[.pointer (some ⟨b,0,none⟩),str l]) func67 rfl ntmps67 rfl ?_
 refine T.q (L.m rfl (L.o (O.call (xs:=[.tmp 10,.func 121]) call120 rfl rfl (aP l w hll) (fun v1 w1 hq=>?_))))
 obtain ⟨A,rfl,hS1,he1⟩:=hq
 obtain ⟨d,hK⟩:=hI
 have hK1:=hK.ext he1
 rw [hf]
 rw [hf] at hS1
 refine L.a rfl (L.nil (T.seq (T.q (L.m rfl (L.o (O.len runUnderlying61 rfl (Sl.val hS1) (L.o (O.gW rfl rfl (by simp;omega) (L.nil (T.cf (T.skip (T.seq (?_)))))))))))))
 refine T.fM mixed 6 [4] rfl [.is _,.is _,.is _,.is _,.is _,.is _] [[],[0],[1],[],[3],[2]] [[],[0],[0,1],[],[3],[0,1,2],[0,1,2,3,4,5]] (by kernel_rfl) (by kernel_rfl) rfl (by kernel_rfl) trivial ⟨fun wx hx=>Ob.o (O.move rfl kR),
   fun wx hx=>Ob.o (O.indexAddr runUnderlying61 sizeOf9 rfl rfl (hS1.ext hx) (by decide) (by simp) kR),
   fun wx hx=>Ob.o (O.load isAgg9 rfl ((hS1.ext hx).at (show 0<(aZ::r).length by simp)) kR),
   fun wx hx=>Ob.o (O.move rfl kR),
   fun wx hx=>Ob.o (O.jr (l:=1) runUnderlying61 sizeOf9 rfl rfl hS1 (by simp) kR),
   fun wx hx=>Ob.o (O.assign rfl kR),
   trivial⟩ (fun w2 he2=>?_)
 have hR2:=bF (hS1.ext he2) rfl
 refine L.a rfl (L.nil (T.seq (T.q (L.m rfl (L.nil (T.block (T.q (L.o (O.aB runUnderlying9 rfl rfl (show ¬ aZ=bD by decide) (L.a rfl (L.nil (T.cf (T.q (L.o (O.aB runUnderlying9 rfl rfl (show ¬ aZ=aN by decide) (L.a rfl (L.nil (T.cf (T.q (L.o (O.bf runUnderlying9 rfl rfl rfl (L.a rfl (?_)))))))))))))))))))))))
 refine L.nil (T.ct (T.q (L.m rfl (L.o (O.buildSlice (el:=9) (parts:=[(0,_),(1,_),(2,_),(3,_)]) (vs:=[(0,_),(1,_),(2,_),(3,_)]) (cs:=([bD,aN,aZ,bn].map str)) rfl (fun w=>by kernel_rfl) (fun b95 w95 ahw ahx Ut ab5=>?_))))))
 have hK3:=(hK1.ext he2).ext Ut
 refine L.o (O.call (xs:=[.tmp 94,.tmp 95]) call68 rfl rfl (aV 0 _ [bD,aN,aZ,bn] b (aG d s) s.last w95 (Strs.aA ab5 rfl (by decide) (Nat.zero_le _)) hK3.row rfl) (fun v3 w3 hq=>?_))
 obtain ⟨rfl,rfl⟩:=hq
 rw [decide_eq_true hlast]
 refine L.o (O.call (xs:=[.tmp 96]) call108 rfl rfl (dK w3) (fun v4 w4 hq=>?_))
 obtain rfl:=hq
 have uT:=(he1.trans he2).trans Ut
 refine L.nil (?_)
 refine T.agl mixed 12 0 [0,6] rfl [.is _,.is _,.is _,.is _,.is _,.is _,.is _,.is _,.such (fun _ _=>False),.such (fun _ _=>False),.such (fun _ _=>False),.such (fun _ _=>False)] [[],[],[1],[2],[3],[4],[5],[],[7],[8],[9],[6,10]] [none,none,none,none,none,none,none,none,none,none,none,none] [[],[],[1],[1,2],[1,2,3],[1,2,3,4],[1,2,3,4,5],[],[7],[7,8],[7,8,9],[1,2,3,4,5,6,7,8,9,10],[0,1,2,3,4,5,6,7,8,9,10,11],[0,1,2,3,4,5,6,7,8,9,10,11,12],[0,1,2,3,4,5,6,7,8,9,10,11,12,13],[0,1,2,3,4,5,6,7,8,9,10,11,12,13,14],[0,1,2,3,4,5,6,7,8,9,10,11,12,13,14,15]] (fun _ W=>Ext w4 W) (Ext) (by kernel_rfl) (by kernel_rfl) (by kernel_rfl) rfl ⟨fun _ _ _ _ h=>h,fun _ _ _ _ h=>h,fun _ _ _ _ h=>h,fun _ _ _ _ h=>h,trivial⟩ (Keep.drew _ _) ⟨fun c wx hx=>wO.op rfl (O.move rfl ⟨⟨Keep.refl _ _,hx⟩,rfl⟩),
   fun c wx hx=>wO.op rfl (O.move rfl ⟨⟨Keep.refl _ _,hx⟩,rfl⟩),
   fun c wx hx=>wO.op rfl (O.nilCheck rfl ⟨⟨Keep.refl _ _,hx⟩,rfl⟩),
   fun c wx hx=>wO.op rfl (O.fieldAddr runUnderlying129 rfl sizeOf48 rfl ⟨⟨Keep.refl _ _,hx⟩,rfl⟩),
   fun c wx hx=>wO.op rfl (O.fieldAddr runUnderlying48 rfl sizeOf46 rfl ⟨⟨Keep.refl _ _,hx⟩,rfl⟩),
   fun c wx hx=>wO.op rfl (O.fieldAddr runUnderlying46 rfl sizeOf44 rfl ⟨⟨Keep.refl _ _,hx⟩,rfl⟩),
   fun c wx hx=>wO.op rfl (O.load isAgg44 rfl ((Blk.ext (cs:=aG d s) hK3.row hx).cell rfl) ⟨⟨Keep.refl _ _,hx⟩,rfl⟩),
   fun c wx hx=>wO.op rfl (O.move rfl ⟨⟨Keep.refl _ _,hx⟩,rfl⟩),
   fun c wx hx=>wO.pan rfl (ZK.call (xs:=[.tmp 105]) call122 rfl rfl (kY _ _ r wx ((hR2.ext Ut).ext hx) (hL.ext (uT.trans hx)) (cO hll hf) hn (by omega)) (fun w' a hR ha=>⟨ha.defers,rfl,(uT.trans hx).trans hR⟩)),
   fun c wx hx adz Oh=>Oh.elim,
   fun c wx hx v107 SQ=>SQ.elim,
   fun c wx hx afq SS=>SS.elim,
   trivial⟩ (fun w15 acZ adz Oh v107 SQ afq SS v109 afu=>?_)
 exact Oh.elim
end Go.Proofs.YtnlonpcbgjbbaaaGreatDoor
