/-
  BlocksBack, part 17 of its proof: that it returns true for every input, and each argument reads behind the call as it read before. Conditions: the listed variables read as the program's text lays them (tied by the card).
-/
import Derived.Test.YtnlonpcbgjbbaaaGreatDoorWBlocksBack16
set_option linter.unusedVariables false
set_option linter.unusedSimpArgs false
set_option maxRecDepth 20000
set_option linter.unusedVariables false
set_option linter.unusedSimpArgs false
set_option maxRecDepth 20000
namespace Go.Proofs.YtnlonpcbgjbbaaaGreatDoor
open Go.Proofs.Tryz (call108 call120 call122 call68 func67 isAgg3 isAgg43 isAgg44 isAgg9 ntmps67 results67 runUnderlying129 runUnderlying25 runUnderlying30 runUnderlying43 runUnderlying44 runUnderlying46 runUnderlying48 runUnderlying61 runUnderlying9 sizeOf25 sizeOf3 sizeOf43 sizeOf44 sizeOf46 sizeOf48 sizeOf9)
open Go Go.E RowKit
attribute [local irreducible] Go.E.T Go.E.L Go.E.O Go.E.Ob
attribute [local irreducible] Go.E.ObX Go.E.ObG Go.E.ObK
structure dI (ob:Option Nat) (w w':World):Prop where
 os:w'.os=w.os
 tape:w'.tape=w.tape
 output:w'.output=w.output
 size:w.heap.size≤w'.heap.size
 block:∀ k,k<w.heap.size→ob≠some k→w'.heap[k]?=w.heap[k]?
theorem dI.aV {ob:Option Nat} {w w':World} (h:Ext w w'):dI ob w w':=⟨h.os,h.tape,h.output,h.size,fun k hk _=>h.block k (Nat.zero_le _) hk⟩
theorem dI.refl (ob:Option Nat) (w:World):dI ob w w:=.aV (Keep.refl _ _)
theorem dI.trans {ob:Option Nat} {w w1 w2:World} (h:dI ob w w1) (k:dI ob w1 w2):dI ob w w2 :=
 ⟨k.os.trans h.os,k.tape.trans h.tape,k.output.trans h.output,Nat.le_trans h.size k.size,fun i hi ho=>(k.block i (Nat.lt_of_lt_of_le hi h.size) ho).trans (h.block i hi ho)⟩
theorem dI.jh {ob:Option Nat} {w w':World} (h:w.grownBy w' ob):dI ob w w' :=
 have h0:Keep w.heap.size w w':=by
  refine Keep.grown (Keep.refl _ _) h fun j _=>?_
  exact Nat.lt_or_ge _ _
 ⟨h0.os,h0.tape,h0.output,h0.size,fun k hk ho=>h.block k hk (fun e=>ho e.symm)⟩
theorem dI.ext {ob:Option Nat} {w w':World} (h:dI ob w w') {w0:World} (hw:Ext w0 w) (hn:∀ k,ob=some k→w0.heap.size≤k):Ext w0 w' :=
 ⟨h.os.trans hw.os,h.tape.trans hw.tape,h.output.trans hw.output,Nat.le_trans hw.size h.size,fun k _ hk=>(h.block k (Nat.lt_of_lt_of_le hk hw.size) (fun e=>by have:=hn k e;omega)).trans (hw.block k (Nat.zero_le _) hk)⟩
theorem dI.blk {ob:Option Nat} {w w':World} {b:Nat} {cs:List Value} {t:TypeId} (h:dI ob w w') (hB:Blk w b cs t) (hn:ob≠some b):Blk w' b cs t:=(h.block b hB.lt hn).trans hB
theorem nG {w:World} {base n sz b:Nat} {el t:TypeId} {v:Value} {xs cs:List Value} (h:w.ownsRow base el sz v n xs) (hb:Blk w b cs t) (he:el≠t):v.ownBlock≠some b:=fun e=>DV h hb he b e rfl
def dO (Q:Nat→Prop) (W:World) (v:Value) (xs:List Int):Prop :=
 (v = .slice none 0 0∧xs = [])∨∃ k off cap cs,v = .slice (some ⟨k,off,none⟩) xs.length cap∧xs.length≤cap∧cap≤maxLen∧Q k∧Blk W k cs 3∧(cs.drop off).take xs.length=xs.map (Value.int .i64)
theorem dO.ints {Q:Nat→Prop} {W:World} {v:Value} {xs:List Int} (h:dO Q W v xs):Ints .i64 0 W v xs:=by
 rcases h with ⟨rfl,rfl⟩|⟨k,off,cap,cs,rfl,h1,h2,h3,h4,h5⟩
 ·exact Sl.nil _ _ _
 refine ⟨by simp,some ⟨k,off,none⟩,cap,rfl,h1,h2,.inr ⟨_,rfl,Nat.zero_le _,?_⟩⟩
 have:=((Row.ay h4).drop off).take xs.length
 rw [h5] at this
 exact this.of_eq (by rw [xg];simp)
theorem dO.aT {base:Nat} {Q:Nat→Prop} {W:World} {v:Value} {xs:List Int} (h:W.ownsRow base 3 1 v xs.length (xs.map (Value.int .i64))) (hQ:∀ k,base≤k→k<W.heap.size→Q k):dO Q W v xs:=by
 rcases h.2 with ⟨h1,h2⟩|⟨g,cap,cur,rfl,hb,hg,hn,hm,hsz,htk⟩
 ·exact .inl ⟨h1,List.length_eq_zero_iff.1 h2⟩
 have hB:Blk W g cur.toList 3:=by unfold Blk;simpa using hg
 exact .inr ⟨g,0,cap,cur.toList,rfl,hn,hm,hQ g hb hB.lt,hB,by simpa using htk⟩
theorem dO.stay {Q Q':Nat→Prop} {W W':World} {v:Value} {xs:List Int} (h:dO Q W v xs) (hk:∀ k cs,Q k→Blk W k cs 3→Q' k∧Blk W' k cs 3):dO Q' W' v xs:=by
 rcases h with h|⟨b,off,cap,cs,h0,h1,h2,h3,h4,h5⟩
 ·exact .inl h
 obtain ⟨k1,k2⟩:=hk b cs h3 h4
 exact .inr ⟨b,off,cap,cs,h0,h1,h2,k1,k2,h5⟩
def BJ (Q:Nat→Prop) (W:World) (el:TypeId) (sz:Nat) (v:Value) (n:Nat) (xs:List Value):Prop:=W.ownsRow 0 el sz v n xs∧∀ k,v.ownBlock=some k→Q k
theorem BJ.nil (Q:Nat→Prop) (W:World) (el:TypeId) (sz:Nat):BJ Q W el sz (.slice none 0 0) 0 []:=⟨eG _ _ _ _,fun k h=>by cases h⟩
theorem BJ.stay {Q Q':Nat→Prop} {W W':World} {el:TypeId} {sz n:Nat} {v:Value} {xs:List Value} (h:BJ Q W el sz v n xs) (hk:∀ k cs,Q k→v.ownBlock=some k→Blk W k cs el→Q' k∧Blk W' k cs el):BJ Q' W' el sz v n xs:=by
 obtain ⟨⟨h1,h2⟩,h3⟩:=h
 rcases h2 with ⟨h4,h5⟩|⟨g,cap,cur,rfl,hb,hg,hn,hm,hsz,htk⟩
 ·subst h4
  exact ⟨⟨h1,.inl ⟨rfl,h5⟩⟩,fun k h=>by cases h⟩
 have hB:Blk W g cur.toList el:=by unfold Blk;simpa using hg
 obtain ⟨k1,k2⟩:=hk g _ (h3 g rfl) rfl hB
 exact ⟨⟨h1,.inr ⟨g,cap,cur,rfl,hb,by unfold Blk at k2;simpa using k2,hn,hm,hsz,htk⟩⟩,fun k e=>by cases e;exact k1⟩
structure PU where
 nm:Str
 pp:Int
 gs:List Int
 vs:List Int
 qs:List Int
 wt:Bool
structure PS where
 ps:List Pt
 fs:List (List Int × List (List Int))
 G:Int
 P:Int
 L:Int
 us:List PU
 last:Str
def PS0:PS:=⟨[],[],0,0,0,[],[]⟩
def bK:Str:=[117,110,105,116]
def Iw:Str:=[119,97,116,101,114]
def um (s:PS) (r:List Str):Option PU :=
 let wt:=decide (1<r.length) && decide (r.getD (r.length-1) []=Iw)
 let q:=if wt then r.take (r.length-1) else r
 if 0≤s.G∧0≤s.P∧0≤s.L∧(q.length:Int)=2+s.G+s.P+s.L then
  match dV (q.drop 1) with
  | some xs=>some ⟨q.getD 0 [],xs.getD 0 0,(xs.drop 1).take s.G.toNat,(xs.drop (1+s.G.toNat)).take s.P.toNat,xs.drop (1+s.G.toNat+s.P.toNat),wt⟩
  | none=>none
 else none
def rM (fs:List (List Int × List (List Int))) (h:List Int):List (List Int × List (List Int)):=match fs.getLast? with
 | some f=>fs.dropLast ++ [(f.1,f.2 ++ [h])]
 | none=>fs
def iw (s:PS) (l:Str):Option PS:=match fieldsB l with
 | []=>some s
 | k::r =>
  if k=bn then
   (if s.last = []∧r.length=3 then (match dV r with|some xs=>some { s with G:=xs.getD 0 0,P:=xs.getD 1 0,L:=xs.getD 2 0,last:=k } | none=>none) else none)
  else if k=aK then
   (if s.last ∈ [bn,aK]∧r.length=2 then (match dV r with|some xs=>some { s with ps:=s.ps ++ [(xs.getD 0 0,xs.getD 1 0)],last:=k } | none=>none) else none)
  else if k=aY then
   (if s.last ∈ [bn,aK,aY,aZ] then (match dV r with|some xs=>some { s with fs:=s.fs ++ [(xs,[])],last:=k } | none=>none) else none)
  else if k=aZ then
   (if s.last ∈ [aY,aZ] then (match dV r with|some xs=>some { s with fs:=rM s.fs xs,last:=k } | none=>none) else none)
  else if k=bK then
   (if s.last ∉ [[],fA] then (match um s r with|some u=>some { s with us:=s.us ++ [u],last:=k } | none=>none) else none)
  else if k=fA then
   (if s.last ∉ [[],fA]∧r.length=0 then some { s with last:=k } else none)
  else none
theorem Oh {s s':PS} {l:Str} (h:iw s l=some s') (hs:s.last ∈ [aY,aZ]→s.fs ≠ []):s'.last ∈ [aY,aZ]→s'.fs ≠ []:=by
 unfold iw at h
 split at h
 ·cases h;exact hs
 split at h
 ·split at h
  ·split at h
   ·cases h;rename_i hk _ _ _ _;intro hm;simp [hk,bn,aY,aZ] at hm
   cases h
  cases h
 split at h
 ·split at h
  ·split at h
   ·cases h;rename_i hk _ _ _ _;intro hm;simp [hk,aK,aY,aZ] at hm
   cases h
  cases h
 split at h
 ·split at h
  ·split at h
   ·cases h;intro _;simp
   cases h
  cases h
 split at h
 ·split at h
  ·split at h
   ·cases h
    rename_i hl _ _ _
    intro _
    have:=hs hl
    simp only [rM]
    cases hg:s.fs.getLast? with
    | none=>exact absurd (List.getLast?_eq_none_iff.1 hg) this
    | some f=>simp
   cases h
  cases h
 split at h
 ·split at h
  ·split at h
   ·cases h;rename_i hk _ _ _ _;intro hm;simp [hk,bK,aY,aZ] at hm
   cases h
  cases h
 split at h
 ·split at h
  ·cases h;rename_i hk _;intro hm;simp [hk,fA,aY,aZ] at hm
  cases h
 cases h
open Go Go.E RowKit
def pu0:PU:=⟨[],0,[],[],[],false⟩
structure FaO (Q:Nat→Prop) (W:World) (v:FaV) (f:List Int × List (List Int)):Prop where
 ox:v.o.xs=f.1
 oi:dO Q W v.o.v f.1
 hx:v.hs.map (·.xs)=f.2
 hv:BJ Q W 30 1 v.hv v.hs.length (aJ v.hs)
 ri:∀ h∈v.hs,dO Q W h.v h.xs
structure UnO (Q:Nat→Prop) (W:World) (v:UnV) (u:PU):Prop where
 nm:v.nm=u.nm
 pp:v.pp=u.pp
 gs:v.gs=u.gs
 vs:v.vs=u.vs
 qs:v.ps=u.qs
 wt:v.wt=u.wt
 gi:dO Q W v.gv u.gs
 vi:dO Q W v.vv u.vs
 qi:dO Q W v.pv u.qs
theorem FaO.stay {Q Q':Nat→Prop} {W W':World} {v:FaV} {f:List Int × List (List Int)} (h:FaO Q W v f) (hk:∀ k cs t,Q k→Blk W k cs t→Q' k∧Blk W' k cs t):FaO Q' W' v f :=
 ⟨h.ox,h.oi.stay fun k cs q b=>hk k cs _ q b,h.hx,h.hv.stay fun k cs q _ b=>hk k cs _ q b,fun x hx=>(h.ri x hx).stay fun k cs q b=>hk k cs _ q b⟩
theorem UnO.stay {Q Q':Nat→Prop} {W W':World} {v:UnV} {u:PU} (h:UnO Q W v u) (hk:∀ k cs,Q k→Blk W k cs 3→Q' k∧Blk W' k cs 3):UnO Q' W' v u :=
 ⟨h.nm,h.pp,h.gs,h.vs,h.qs,h.wt,h.gi.stay hk,h.vi.stay hk,h.qi.stay hk⟩
structure RdD where
 pv:Value
 fv:Value
 uv:Value
 vs:List FaV
 us:List UnV
def aH (d:RdD) (s:PS):List Value:=[d.pv,d.fv,.int .i64 s.G,.int .i64 s.P,.int .i64 s.L,d.uv,str s.last]
def RdQ (w0:World) (b:Nat) (S:Nat→Prop) (k:Nat):Prop:=w0.heap.size≤k∧k≠b∧¬ S k
structure RdK (w0:World) (b:Nat) (d:RdD) (s:PS) (S:Nat→Prop) (W:World):Prop where
 e:Ext w0 W
 lo:w0.heap.size≤b
 row:Blk W b (aH d s) 129
 pts:BJ (RdQ w0 b S) W 124 2 d.pv s.ps.length (pcs s.ps)
 fsr:BJ (RdQ w0 b S) W 127 2 d.fv d.vs.length (bP d.vs)
 fsl:d.vs.length=s.fs.length
 fa:∀ i,i<d.vs.length→FaO (RdQ w0 b S) W (d.vs.getD i f0) (s.fs.getD i ([],[]))
 sep:∀ i,i+1<d.vs.length→∀ k,(d.vs.getD (d.vs.length-1) f0).hv.ownBlock=some k→(d.vs.getD i f0).hv.ownBlock≠some k
 usr:BJ (RdQ w0 b S) W 51 6 d.uv d.us.length (fF d.us)
 usl:d.us.length=s.us.length
 un:∀ i,i<d.us.length→UnO (RdQ w0 b S) W (d.us.getD i u0) (s.us.getD i pu0)
 big:(-1000000000≤s.G∧s.G≤1000000000)∧(-1000000000≤s.P∧s.P≤1000000000) ∧ -1000000000≤s.L∧s.L≤1000000000
 S:∀ k,S k→w0.heap.size≤k∧k<W.heap.size∧k≠b
theorem RdK.stay {w0:World} {b:Nat} {d:RdD} {s:PS} {S S':Nat→Prop} {W W':World} (h:RdK w0 b d s S W) (he:Ext w0 W') (hb:Blk W' b (aH d s) 129) (hS:∀ k,S' k→w0.heap.size≤k∧k<W'.heap.size∧k≠b)
  (hk:∀ k cs t,RdQ w0 b S k→Blk W k cs t→RdQ w0 b S' k∧Blk W' k cs t):RdK w0 b d s S' W' :=
 ⟨he,h.lo,hb,h.pts.stay fun k cs q _ B=>hk k cs _ q B,h.fsr.stay fun k cs q _ B=>hk k cs _ q B,h.fsl,fun i hi=>(h.fa i hi).stay hk,h.sep,h.usr.stay fun k cs q _ B=>hk k cs _ q B,h.usl,fun i hi=>(h.un i hi).stay fun k cs q B=>hk k cs _ q B,h.big,hS⟩
theorem RdK.ext {w0:World} {b:Nat} {d:RdD} {s:PS} {S:Nat→Prop} {W W':World} (h:RdK w0 b d s S W) (k:Ext W W'):RdK w0 b d s S W' :=
 h.stay (h.e.trans k) (Blk.ext (cs:=aH d s) h.row k) (fun j hj=>by obtain ⟨a1,a2,a3⟩:=h.S j hj;exact ⟨a1,Nat.lt_of_lt_of_le a2 k.size,a3⟩) fun j cs t q B=>⟨q,Blk.ext B k⟩
def RdI (w0:World) (b:Nat) (s:PS) (S:Nat→Prop) (W:World):Prop:=∃ d,RdK w0 b d s S W
theorem RdI.FH (w0:World) (b:Nat):zU (RdI w0 b):=by
 refine ⟨?_,?_⟩
 ·rintro s S S' W W' ⟨d,h⟩ k hS
  have hlt:=Blk.lt (cs:=aH d s) h.row
  refine ⟨d,h.stay (h.e.trans k) (Blk.ext (cs:=aH d s) h.row k) (fun j hj=>?_) fun j cs t q B=>⟨⟨q.1,q.2.1,fun hj=>?_⟩,Blk.ext B k⟩⟩
  ·rcases hS j hj with h1|⟨h1,h2⟩
   ·obtain ⟨a1,a2,a3⟩:=h.S j h1
    exact ⟨a1,Nat.lt_of_lt_of_le a2 k.size,a3⟩
   have:=h.e.size
   exact ⟨by omega,h2,by omega⟩
  rcases hS j hj with h1|⟨h1,_⟩
  ·exact q.2.2 h1
  have:=B.lt;omega
 rintro s S W W' j ⟨d,h⟩ hj k
 obtain ⟨a1,a2,a3⟩:=h.S j hj
 refine ⟨d,h.stay (h.e.upd k (.inr a1)) (Blk.upd (cs:=aH d s) h.row k (Ne.symm a3)) (fun i hi=>by rw [k.size];exact h.S i hi) fun i cs t q B=>⟨q,Blk.upd B k (fun e=>q.2.2 (by rw [e];exact hj))⟩⟩
theorem RdI.Oi {w0:World} {b:Nat} {s:PS} {S:Nat→Prop} {W:World} (h:RdI w0 b s S W):Ext w0 W:=by obtain ⟨d,h⟩:=h;exact h.e
def UG (s:PS) (j:Nat):Prop:=s.ps.length≤j∧s.fs.length≤j∧s.us.length≤j∧∀ f∈s.fs,f.2.length≤j
theorem UG.more {s:PS} {j:Nat} (h:UG s j):UG s (j+1):=⟨by have:=h.1;omega,by have:=h.2.1;omega,by have:=h.2.2.1;omega,fun f hf=>by have:=h.2.2.2 f hf;omega⟩
theorem UG.step {s s':PS} {l:Str} {j:Nat} (h:UG s j) (hs:iw s l=some s'):UG s' (j+1):=by
 obtain ⟨h1,h2,h3,h4⟩:=h
 unfold iw at hs
 split at hs
 ·cases hs;exact UG.more ⟨h1,h2,h3,h4⟩
 split at hs
 ·split at hs
  ·split at hs
   ·cases hs;exact UG.more ⟨h1,h2,h3,h4⟩
   cases hs
  cases hs
 split at hs
 ·split at hs
  ·split at hs
   ·cases hs;exact ⟨by simp;omega,by simp only;omega,by simp only;omega,fun f hf=>by have:=h4 f hf;omega⟩
   cases hs
  cases hs
 split at hs
 ·split at hs
  ·split at hs
   ·cases hs
    refine ⟨by simp only;omega,by simp;omega,by simp only;omega,fun f hf=>?_⟩
    rcases List.mem_append.1 hf with hf|hf
    ·have:=h4 f hf;omega
    rw [List.mem_singleton.1 hf];simp
   cases hs
  cases hs
 split at hs
 ·split at hs
  ·split at hs
   ·cases hs
    rename_i xs _
    refine ⟨by simp only;omega,?_,by simp only;omega,fun f hf=>?_⟩
    ·simp only [rM]
     cases hg:s.fs.getLast? with
     | none=>simp only;omega
     | some f=>simp;omega
    simp only [rM] at hf
    cases hg:s.fs.getLast? with
    | none=>rw [hg] at hf;have:=h4 f hf;omega
    | some g =>
     rw [hg] at hf
     simp only [List.mem_append,List.mem_singleton] at hf
     rcases hf with hf|hf
     ·have:=h4 f ((List.dropLast_sublist _).subset hf);omega
     have:=h4 g (List.mem_of_getLast? hg)
     rw [hf];simp;omega
   cases hs
  cases hs
 split at hs
 ·split at hs
  ·split at hs
   ·cases hs;exact ⟨by simp only;omega,by simp only;omega,by simp;omega,fun f hf=>by have:=h4 f hf;omega⟩
   cases hs
  cases hs
 split at hs
 ·split at hs
  ·cases hs;exact UG.more ⟨h1,h2,h3,h4⟩
  cases hs
 cases hs
open Go Go.E RowKit
def pR (sz:Nat):Value→Nat→Nat→Value
 | .slice oa _ cap,l,h=>.slice (if cap=l then oa else oa.map (·.add (l*sz))) (h-l) (cap-l)
 | v,_,_=>v
theorem MB {lo:Nat} {w:World} {v:Value} {n l h sz:Nat} {cs:List Value} (hv:Sl lo w v n sz cs) (h1:l≤h) (h2:h≤n):Sl lo w (pR sz v l h) (h-l) sz ((cs.drop (l*sz)).take ((h-l)*sz)):=by
 obtain ⟨hl,oa,cap,rfl,hc,hm,hr⟩:=hv
 refine ⟨?_,_,cap-l,rfl,by omega,by omega,?_⟩
 ·rw [List.length_take,List.length_drop,hl]
  refine Nat.min_eq_left ?_
  rw [← Nat.sub_mul];exact Nat.mul_le_mul_right _ (by omega)
 rcases hr with hr|⟨ad,e1,e2,e3⟩
 ·left;omega
 by_cases hc2:cap=l
 ·left;omega
 refine .inr ⟨ad.add (l*sz),by rw [if_neg hc2,e1];rfl,by rw [add_block];exact e2,(e3.drop _).take _⟩
theorem O.XZ {C:Cx} {e:Env} {w w₁:World} {K:Value→World→Prop} {d:Option Tmp} {ty:TypeId} {pos:String} {aft:Array Edge} {g:Option (Nat × Bool)} {x y z:Operand} {t:TypeId} {v:Value} {n sz lo l h:Nat} {cs:List Value} {el:TypeId} (hu:∀ w,(underlying t).run C.P w = .ok (.slice el) w) (hs:∀ w,(sizeOf el).run C.P w = .ok sz w) (hx:ev e x=some v) (hy:ev e y=some (.int .i64 l)) (hz:ev e z=some (.int .i64 h))
  (hv:Sl lo w₁ v n sz cs) (h1:l≤h) (h2:h≤n) (hk:K (pR sz v l h) w):O C e ⟨d,.slice t x (some y) (some z) none,ty,pos,aft,g⟩ w K:=by
 obtain ⟨hl,oa,cap,rfl,hc,hm,hr⟩:=hv
 exact O.of_run (by simp) (fun a ha=>by
  simp [execOp,Instr.sliceAt,Instr.slice,Instr.sliceBounds,Instr.sliceBound,asIntOf,ha.eval hx,ha.eval hy,ha.eval hz,hu w,hs w,h1,show h≤cap by omega]
  rfl) hk
theorem O.ji {C:Cx} {e:Env} {w w₁:World} {K:Value→World→Prop} {d:Option Tmp} {ty:TypeId} {pos:String} {aft:Array Edge} {g:Option (Nat × Bool)} {x y:Operand} {t:TypeId} {v:Value} {n sz lo l:Nat} {cs:List Value} {el:TypeId} (hu:∀ w,(underlying t).run C.P w = .ok (.slice el) w) (hs:∀ w,(sizeOf el).run C.P w = .ok sz w) (hx:ev e x=some v) (hy:ev e y=some (.int .i64 l))
  (hv:Sl lo w₁ v n sz cs) (h1:l≤n) (hk:K (pR sz v l n) w):O C e ⟨d,.slice t x (some y) none none,ty,pos,aft,g⟩ w K:=by
 obtain ⟨hl,oa,cap,rfl,hc,hm,hr⟩:=hv
 exact O.of_run (by simp) (fun a ha=>by
  simp [execOp,Instr.sliceAt,Instr.slice,Instr.sliceBounds,Instr.sliceBound,asIntOf,ha.eval hx,ha.eval hy,hu w,hs w,h1]
  rfl) hk
theorem SN {s:Str} : ∀ w∈fieldsB s,w.length≤100000∨s.length > 100000:=fun w hw=>by
 rcases Nat.lt_or_ge 100000 s.length with h|h
 ·exact .inr h
 refine .inl ?_
 simp only [fieldsB,List.mem_map,Lib.goFieldsP] at hw
 obtain ⟨x,⟨y,_,rfl⟩,rfl⟩:=hw
 have:(ByteArray.extract ⟨s.toArray⟩ y.1 y.2).data.toList.length≤s.length:=by
  simp [ByteArray.data_extract];omega
 omega
theorem SQ (w0:World) (b:Nat) (s:PS) (S:Nat→Prop) (l:Str) (w:World) (hI:RdI w0 b s S w) (hl:l.length≤100000) (hf:fieldsB l = []) :
  Calls Tryz.prog 67 #[.pointer (some ⟨b,0,none⟩),str l] w (Ret fun v w'=>RdI w0 b s S w'∧∀ k,S k→w'.heap[k]?=w.heap[k]?):=by
 refine T.enter (vs:=[.pointer (some ⟨b,0,none⟩),str l]) func67 rfl ntmps67 rfl ?_
 refine T.q (L.m rfl (L.o (O.call (xs:=[.tmp 10,.func 121]) call120 rfl rfl (aP l w hl) (fun v1 w1 hq=>?_))))
 obtain ⟨A,rfl,hS1,he1⟩:=hq
 rw [hf]
 rw [hf] at hS1
 refine L.a rfl (L.nil (T.seq (T.q (L.m rfl (L.o (O.len runUnderlying61 rfl (Sl.val hS1) (L.o (O.iF rfl rfl (by simp) (L.nil (T.ct (T.ac4 results67 ⟨?_,fun k hk=>?_⟩)))))))))))
 ·obtain ⟨d,h⟩:=hI;exact ⟨d,h.ext he1⟩
 obtain ⟨d,h⟩:=hI;exact he1.block k (Nat.zero_le _) (h.S k hk).2.1
theorem bC {lo A:Nat} {w:World} {k:Str} {r:List Str} {n:Nat} (h:Strs lo w (.slice (some ⟨A,0,none⟩) n n) (k::r)) (hn:n=r.length+1):Strs lo w (pR 1 (.slice (some ⟨A,0,none⟩) n n) 1 n) r:=by
 subst hn
 have:=MB (l:=1) (h:=r.length+1) (h:Sl lo w _ _ _ _) (by omega) (Nat.le_refl _)
 have e:(((k::r).map str).drop (1*1)).take ((r.length+1-1)*1)=r.map str:=by simp;exact List.take_of_length_le (by simp)
 rw [e,show r.length+1-1=r.length by omega] at this
 exact this
theorem RdK.setLast {w0:World} {b:Nat} {d:RdD} {s:PS} {S:Nat→Prop} {W W':World} (h:RdK w0 b d s S W) {k:Str} (hu:Upd b W W') (hB:Blk W' b ((aH d s).set 6 (str k)) 129):RdK w0 b d { s with last:=k } S W':=by
 have h1:=h.stay (S':=S) (W':=W) h.e h.row h.S (fun j cs t q B=>⟨q,B⟩)
 have hk:∀ j cs t,RdQ w0 b S j→Blk W j cs t→RdQ w0 b S j∧Blk W' j cs t:=fun j cs t q B=>⟨q,Blk.upd B hu q.2.1⟩
 exact ⟨h.e.upd hu (.inr h.lo),h.lo,hB,h.pts.stay fun k cs q _ B=>hk k cs _ q B,h.fsr.stay fun k cs q _ B=>hk k cs _ q B,h.fsl,fun i hi=>(h.fa i hi).stay hk,h.sep,h.usr.stay fun k cs q _ B=>hk k cs _ q B,h.usl,fun i hi=>(h.un i hi).stay fun k cs q B=>hk k cs _ q B,h.big,fun j hj=>by rw [hu.size];exact h.S j hj⟩
theorem WB (w0:World) (b:Nat) (s:PS) (S:Nat→Prop) (l:Str) (w:World) (hI:RdI w0 b s S w) (hl:l.length≤100000) (hf:fieldsB l = [fA]) (hlast:s.last ∉ [[],fA]) :
  Calls Tryz.prog 67 #[.pointer (some ⟨b,0,none⟩),str l] w (Ret fun v w'=>RdI w0 b { s with last:=fA } S w'∧∀ k,S k→w'.heap[k]?=w.heap[k]?):=by
 refine T.enter (vs:=[.pointer (some ⟨b,0,none⟩),str l]) func67 rfl ntmps67 rfl ?_
 refine T.q (L.m rfl (L.o (O.call (xs:=[.tmp 10,.func 121]) call120 rfl rfl (aP l w hl) (fun v1 w1 hq=>?_))))
 obtain ⟨A,rfl,hS1,he1⟩:=hq
 obtain ⟨d,hK⟩:=hI
 have hK1:=hK.ext he1
 rw [hf]
 rw [hf] at hS1
 refine L.a rfl (L.nil (T.seq (T.q (L.m rfl (L.o (O.len runUnderlying61 rfl (Sl.val hS1) (L.o (O.gX rfl rfl (by simp) (L.nil (T.cf (T.skip (T.seq (?_)))))))))))))
 refine T.fJ mixed 6 [4] rfl [.is _,.is _,.is _,.is _,.is _,.is _] [[],[0],[1],[],[3],[2]] [[],[0],[0,1],[],[3],[0,1,2],[0,1,2,3,4,5]] (by kernel_rfl) (by kernel_rfl) rfl (by kernel_rfl) trivial ⟨fun wx hx=>Ob.o (O.move rfl kR),
   fun wx hx=>Ob.o (O.indexAddr runUnderlying61 sizeOf9 rfl rfl (hS1.ext hx) (by decide) (by simp) kR),
   fun wx hx=>Ob.o (O.load isAgg9 rfl ((hS1.ext hx).at (show 0<([fA]:List Str).length by decide)) kR),
   fun wx hx=>Ob.o (O.move rfl kR),
   fun wx hx=>Ob.o (O.ji (l:=1) runUnderlying61 sizeOf9 rfl rfl hS1 (by simp) kR),
   fun wx hx=>Ob.o (O.assign rfl kR),
   trivial⟩ (fun w2 he2=>?_)
 have hR2:=bC (hS1.ext he2) rfl
 refine L.a rfl (L.nil (T.seq (T.q (L.m rfl (L.nil (T.block (T.q (L.o (O.aA runUnderlying9 rfl rfl (by decide) (L.a rfl (L.nil (T.cf (T.q (L.o (O.aA runUnderlying9 rfl rfl (by decide) (L.a rfl (L.nil (T.cf (T.q (L.o (O.aA runUnderlying9 rfl rfl (by decide) (L.a rfl (?_)))))))))))))))))))))))
 refine L.nil (T.cf (T.q (L.o (O.aA runUnderlying9 rfl rfl (by decide) (L.a rfl (L.nil (T.cf (T.q (L.o (O.aA runUnderlying9 rfl rfl (by decide) (L.a rfl (L.nil (T.cf (T.q (L.o (O.aX runUnderlying9 rfl rfl rfl (L.a rfl (L.nil (T.ct (T.region (L.m rfl (L.o (O.buildSlice (el:=9) (parts:=[(0,_),(1,_)]) (vs:=[(0,_),(1,_)]) (cs:=([[],fA].map str)) rfl (fun w=>by kernel_rfl) (fun ahU acn aco acp Ah SS=>?_))))))))))))))))))))))))
 have Zl:=(hK1.ext he2).ext Ah
 refine L.o (O.call (xs:=[.tmp 158,.tmp 159]) call68 rfl rfl (aW 0 _ [[],fA] b (aH d s) s.last acn (Strs.ay SS rfl (by decide) (Nat.zero_le _)) Zl.row rfl) (fun v160 akN hq=>?_))
 obtain ⟨rfl,rfl⟩:=hq
 rw [decide_eq_false hlast]
 refine L.o (O.not rfl (L.m rfl (L.m rfl (L.o (O.len runUnderlying61 rfl (Sl.val (hR2.ext Ah)) (L.o (O.iF rfl rfl (by simp) (L.o (O.ah rfl rfl (L.o (O.call (xs:=[.tmp 166]) call108 rfl rfl (dK akN) (fun v167 am6 hq=>?_))))))))))))
 obtain rfl:=hq
 refine L.nil (T.blk (T.region (L.m rfl (L.m rfl (L.o (O.nilCheck rfl (L.o (O.fieldAddr runUnderlying129 rfl sizeOf9 rfl (L.o (O.bD sizeOf9 rfl rfl rfl Zl.row (by simp [aH]) (fun Iy iO yZ=>?_)))))))))))
 refine L.nil (T.Po results67 ⟨⟨d,Zl.setLast iO yZ⟩,fun k hk=>?_⟩)
 have h3:=hK.S k hk
 have z1:=he1.size
 have z2:=he2.size
 exact (iO.block k h3.2.2).trans ((Ah.block k (Nat.zero_le _) (by omega)).trans ((he2.block k (Nat.zero_le _) (by omega)).trans (he1.block k (Nat.zero_le _) h3.2.1)))
open Go Go.E RowKit
def JV (w:World) (b:Nat) (t:TypeId) (rows:List (List Value)) (c:Nat) (W:World):Prop:=dI (some b) w W∧Blk W b (rows.getD c []) t
theorem JV.start {w W:World} {b:Nat} {t:TypeId} {row:List Value} {rows:List (List Value)} (h:Blk w b row t) (k:Ext w W):JV w b t (row::rows) 0 W:=⟨.aV k,Blk.ext h k⟩
theorem JV.next {w W W':World} {b c:Nat} {t:TypeId} {rows:List (List Value)} (h:JV w b t rows c W) (hu:Upd b W W') {row:List Value} (hB:Blk W' b row t) (hr:rows.getD (c+1) []=row):JV w b t rows (c+1) W' :=
 ⟨h.1.trans ⟨hu.os,hu.tape,hu.output,Nat.le_of_eq hu.size.symm,fun k _ hk=>hu.block k (fun e=>hk (by rw [e]))⟩,by rw [hr];exact hB⟩
theorem JV.ints {w W:World} {b c:Nat} {t:TypeId} {rows:List (List Value)} (h:JV w b t rows c W) {v:Value} {xs:List Int} {Q:Nat→Prop} (hI:dO Q w v xs) (hQ:∀ k,Q k→k≠b):Ints .i64 0 W v xs :=
 (hI.stay (Q':=Q) fun k cs q B=>⟨q,h.1.blk B (fun e=>hQ k q (by cases e;rfl))⟩).ints
def SV (s:PS) (xs:List Int):PS:={ s with G:=xs.getD 0 0,P:=xs.getD 1 0,L:=xs.getD 2 0,last:=bn }
theorem RdK.Zm {w0:World} {b:Nat} {d:RdD} {s:PS} {S:Nat→Prop} {W W':World} (h:RdK w0 b d s S W) {xs:List Int} (hb:(-1000000000≤xs.getD 0 0∧xs.getD 0 0≤1000000000)∧(-1000000000≤xs.getD 1 0∧xs.getD 1 0≤1000000000) ∧ -1000000000≤xs.getD 2 0∧xs.getD 2 0≤1000000000)
  (hu:dI (some b) W W') (hB:Blk W' b (aH d (SV s xs)) 129):RdK w0 b d (SV s xs) S W':=by
 have hk:∀ j cs t,RdQ w0 b S j→Blk W j cs t→RdQ w0 b S j∧Blk W' j cs t:=fun j cs t q B=>⟨q,hu.blk B (fun e=>q.2.1 (by cases e;rfl))⟩
 exact ⟨hu.ext h.e (fun k e=>by cases e;exact h.lo),h.lo,hB,h.pts.stay fun k cs q _ B=>hk k cs _ q B,h.fsr.stay fun k cs q _ B=>hk k cs _ q B,h.fsl,fun i hi=>(h.fa i hi).stay hk,h.sep,h.usr.stay fun k cs q _ B=>hk k cs _ q B,h.usl,fun i hi=>(h.un i hi).stay fun k cs q B=>hk k cs _ q B,hb,fun j hj=>by obtain ⟨a1,a2,a3⟩:=h.S j hj;exact ⟨a1,Nat.lt_of_lt_of_le a2 hu.size,a3⟩⟩
theorem Ed:∀ (ws:List Str) (xs:List Int),dV ws=some xs→∀ i,i<xs.length → -1000000000≤xs.getD i 0∧xs.getD i 0≤1000000000:=fun ws xs h i hi=>by
 obtain ⟨h1,h2⟩:=jr ws xs h
 exact (uh (h2 i (by omega))).2.2
theorem dh {l:Str} {k:Str} {r:List Str} (hl:l.length≤100000) (hf:fieldsB l=k::r):∀ x∈r,x.length≤100000:=fun x hx=>by
 rcases SN (s:=l) x (by rw [hf];exact List.mem_cons_of_mem _ hx) with h|h
 ·exact h
 omega
set_option maxHeartbeats 1000000 in
theorem SX (w0:World) (b:Nat) (s:PS) (S:Nat→Prop) (l:Str) (r:List Str) (xs:List Int) (w:World) (hI:RdI w0 b s S w) (hL:jc w) (hl:l.length≤100000) (hf:fieldsB l=bn::r) (hlast:s.last = []) (h3:r.length=3) (hn:dV r=some xs) :
  Calls Tryz.prog 67 #[.pointer (some ⟨b,0,none⟩),str l] w (Ret fun v w'=>RdI w0 b (SV s xs) S w'∧∀ k,S k→w'.heap[k]?=w.heap[k]?):=by
 refine T.enter (vs:=[.pointer (some ⟨b,0,none⟩),str l]) func67 rfl ntmps67 rfl ?_
 refine T.q (L.m rfl (L.o (O.call (xs:=[.tmp 10,.func 121]) call120 rfl rfl (aP l w hl) (fun v1 w1 hq=>?_))))
 obtain ⟨A,rfl,hS1,he1⟩:=hq
 obtain ⟨d,hK⟩:=hI
 have hK1:=hK.ext he1
 rw [hf]
 rw [hf] at hS1
 have hx3:xs.length=3:=by rw [← (jr r xs hn).1];exact h3
 refine L.a rfl (L.nil (T.seq (T.q (L.m rfl (L.o (O.len runUnderlying61 rfl (Sl.val hS1) (L.o (O.gX rfl rfl (by simp;omega) (L.nil (T.cf (T.skip (T.seq (?_)))))))))))))
 refine T.fJ mixed 6 [4] rfl [.is _,.is _,.is _,.is _,.is _,.is _] [[],[0],[1],[],[3],[2]] [[],[0],[0,1],[],[3],[0,1,2],[0,1,2,3,4,5]] (by kernel_rfl) (by kernel_rfl) rfl (by kernel_rfl) trivial ⟨fun wx hx=>Ob.o (O.move rfl kR),
   fun wx hx=>Ob.o (O.indexAddr runUnderlying61 sizeOf9 rfl rfl (hS1.ext hx) (by decide) (by simp) kR),
   fun wx hx=>Ob.o (O.load isAgg9 rfl ((hS1.ext hx).at (show 0<(bn::r).length by simp)) kR),
   fun wx hx=>Ob.o (O.move rfl kR),
   fun wx hx=>Ob.o (O.ji (l:=1) runUnderlying61 sizeOf9 rfl rfl hS1 (by simp) kR),
   fun wx hx=>Ob.o (O.assign rfl kR),
   trivial⟩ (fun w2 he2=>?_)
 have hR2:=bC (hS1.ext he2) rfl
 refine L.a rfl (L.nil (T.seq (T.q (L.m rfl (L.nil (T.block (T.q (L.o (O.aX runUnderlying9 rfl rfl rfl (L.a rfl (L.nil (T.ct (T.q (L.m rfl (L.o (O.buildSlice (el:=9) (parts:=[(0,_)]) (vs:=[(0,_)]) (cs:=([[]].map str)) rfl (fun w=>by kernel_rfl) (fun b25 w25 afI afJ y5 Dj=>?_)))))))))))))))))
 have pU:=(hK1.ext he2).ext y5
 refine L.o (O.call (xs:=[.tmp 24,.tmp 25]) call68 rfl rfl (aW 0 _ [[]] b (aH d s) s.last w25 (Strs.ay Dj rfl (by decide) (Nat.zero_le _)) pU.row rfl) (fun v26 w26 hq=>?_))
 obtain ⟨rfl,rfl⟩:=hq
 rw [decide_eq_true (show s.last ∈ [[]] by rw [hlast];simp)]
 refine L.m rfl (L.m rfl (L.o (O.len runUnderlying61 rfl (Sl.val (hR2.ext y5)) (L.o (O.iF rfl rfl (by omega) (L.o (O.ah rfl rfl (L.o (O.call (xs:=[.tmp 31]) call108 rfl rfl (dK w26) (fun v32 w32 hq=>?_))))))))))
 obtain rfl:=hq
 have Zn:=(he1.trans he2).trans y5
 refine L.nil (T.q (L.m rfl (L.o (O.call (xs:=[.tmp 33]) call122 rfl rfl (jF _ _ r xs w32 (hR2.ext y5) (hL.ext Zn) (dh hl hf) hn (by omega)) (fun v34 w34 hq=>?_)))))
 obtain ⟨Qo,Jm⟩:=hq
 have ahV:=pU.ext Jm
 have hz:=pU.e.size
 have aat:dO (fun k ↦ w32.heap.size≤k) w34 v34 xs:=dO.aT Qo (fun k h _ ↦ h)
 have am7:=Blk.lt (cs:=aH d s) pU.row
 refine L.a rfl (L.nil (?_))
 refine T.any mixed 22 2 [0,7] rfl [.is _,.is _,.is _,.is _,.is _,.is _,.is _,.is _,.is _,.is _,.is _,.is _,.is _,.is _,.is _,.is _,.is undef,.is _,.is _,.is _,.is _,.is undef] [[],[],[],[],[3],[4],[],[6],[7],[],[9],[10],[0],[12],[13],[14],[15,5],[1],[17],[18],[19],[20,8]] [none,none,none,none,none,none,none,none,none,none,none,none,none,none,none,none,some 0,none,none,none,none,some 1] [[],[],[],[],[3],[3,4],[],[6],[6,7],[],[9],[9,10],[0,3,4,5,6,7,8,9,10,11],[0,3,4,5,6,7,8,9,10,11,12],[0,3,4,5,6,7,8,9,10,11,12,13],[0,3,4,5,6,7,8,9,10,11,12,13,14],[0,3,4,5,6,7,8,9,10,11,12,13,14,15],[0,1,3,4,5,6,7,8,9,10,11,12,13,14,15,16],[0,1,3,4,5,6,7,8,9,10,11,12,13,14,15,16,17],[0,1,3,4,5,6,7,8,9,10,11,12,13,14,15,16,17,18],[0,1,3,4,5,6,7,8,9,10,11,12,13,14,15,16,17,18,19],[0,1,3,4,5,6,7,8,9,10,11,12,13,14,15,16,17,18,19,20],[0,1,2,3,4,5,6,7,8,9,10,11,12,13,14,15,16,17,18,19,20,21],[0,1,2,3,4,5,6,7,8,9,10,11,12,13,14,15,16,17,18,19,20,21,22],[0,1,2,3,4,5,6,7,8,9,10,11,12,13,14,15,16,17,18,19,20,21,22,23],[0,1,2,3,4,5,6,7,8,9,10,11,12,13,14,15,16,17,18,19,20,21,22,23,24],[0,1,2,3,4,5,6,7,8,9,10,11,12,13,14,15,16,17,18,19,20,21,22,23,24,25]] (JV w34 b 129 [aH d s,(aH d s).set 2 (.int .i64 (xs.getD 0 0)),((aH d s).set 2 (.int .i64 (xs.getD 0 0))).set 3 (.int .i64 (xs.getD 1 0))]) (fun _ _=>True) (by kernel_rfl) (by kernel_rfl) (by kernel_rfl) rfl trivial (JV.start ahV.row (Keep.drew _ _)) ⟨fun c wx hx=>ObK.op rfl (O.move rfl ⟨⟨trivial,hx⟩,rfl⟩),
   fun c wx hx=>ObK.op rfl (O.move rfl ⟨⟨trivial,hx⟩,rfl⟩),
   fun c wx hx=>ObK.op rfl (O.move rfl ⟨⟨trivial,hx⟩,rfl⟩),
   fun c wx hx=>ObK.op rfl (O.move rfl ⟨⟨trivial,hx⟩,rfl⟩),
   fun c wx hx=>ObK.op rfl (O.indexAddr runUnderlying30 sizeOf3 rfl rfl (hx.ints aat (fun k h ↦ by omega)) (by decide) (by show (0:Int)<xs.length;omega) ⟨⟨trivial,hx⟩,rfl⟩),
   fun c wx hx=>ObK.op rfl (O.load isAgg3 rfl (Ints.at (hx.ints aat (fun k h ↦ by omega)) (show 0<xs.length by omega)) ⟨⟨trivial,hx⟩,rfl⟩),
   fun c wx hx=>ObK.op rfl (O.move rfl ⟨⟨trivial,hx⟩,rfl⟩),
   fun c wx hx=>ObK.op rfl (O.indexAddr runUnderlying30 sizeOf3 rfl rfl (hx.ints aat (fun k h ↦ by omega)) (by decide) (by show (1:Int)<xs.length;omega) ⟨⟨trivial,hx⟩,rfl⟩),
   fun c wx hx=>ObK.op rfl (O.load isAgg3 rfl (Ints.at (hx.ints aat (fun k h ↦ by omega)) (show 1<xs.length by omega)) ⟨⟨trivial,hx⟩,rfl⟩),
   fun c wx hx=>ObK.op rfl (O.move rfl ⟨⟨trivial,hx⟩,rfl⟩),
   fun c wx hx=>ObK.op rfl (O.indexAddr runUnderlying30 sizeOf3 rfl rfl (hx.ints aat (fun k h ↦ by omega)) (by decide) (by show (2:Int)<xs.length;omega) ⟨⟨trivial,hx⟩,rfl⟩),
   fun c wx hx=>ObK.op rfl (O.load isAgg3 rfl (Ints.at (hx.ints aat (fun k h ↦ by omega)) (show 2<xs.length by omega)) ⟨⟨trivial,hx⟩,rfl⟩),
   fun c wx hx=>ObK.op rfl (O.nilCheck rfl ⟨⟨trivial,hx⟩,rfl⟩),
   fun c wx hx=>ObK.op rfl (O.fieldAddr runUnderlying129 rfl sizeOf48 rfl ⟨⟨trivial,hx⟩,rfl⟩),
   fun c wx hx=>ObK.op rfl (O.fieldAddr runUnderlying48 rfl sizeOf25 rfl ⟨⟨trivial,hx⟩,rfl⟩),
   fun c wx hx=>ObK.op rfl (O.fieldAddr runUnderlying25 rfl sizeOf3 rfl ⟨⟨trivial,hx⟩,rfl⟩),
   fun wx hx=>ObK.op rfl (O.bD sizeOf3 rfl rfl rfl hx.2 (show (2:Nat)<7 by decide) (fun w50 akO afs=>⟨⟨trivial,hx.next akO afs rfl⟩,rfl⟩)),
   fun c wx hx=>ObK.op rfl (O.nilCheck rfl ⟨⟨trivial,hx⟩,rfl⟩),
   fun c wx hx=>ObK.op rfl (O.fieldAddr runUnderlying129 rfl sizeOf48 rfl ⟨⟨trivial,hx⟩,rfl⟩),
   fun c wx hx=>ObK.op rfl (O.fieldAddr runUnderlying48 rfl sizeOf25 rfl ⟨⟨trivial,hx⟩,rfl⟩),
   fun c wx hx=>ObK.op rfl (O.fieldAddr runUnderlying25 rfl sizeOf3 rfl ⟨⟨trivial,hx⟩,rfl⟩),
   fun wx hx=>ObK.op rfl (O.bD sizeOf3 rfl rfl rfl hx.2 (show (3:Nat)<7 by decide) (fun w54 akP akQ=>⟨⟨trivial,hx.next akP akQ rfl⟩,rfl⟩)),
   trivial⟩ (fun w8 hI8=>?_)
 obtain ⟨hB8,hR8⟩:=hI8
 refine L.o (O.nilCheck rfl (L.o (O.fieldAddr runUnderlying129 rfl sizeOf48 rfl (L.o (O.fieldAddr runUnderlying48 rfl sizeOf25 rfl (L.o (O.fieldAddr runUnderlying25 rfl sizeOf3 rfl (L.o (O.bD sizeOf3 rfl rfl rfl hR8 (show (4:Nat)<7 by decide) (fun w58 acr Vm=>?_))))))))))
 refine L.nil (T.blk (T.region (L.m rfl (L.m rfl (L.o (O.nilCheck rfl (L.o (O.fieldAddr runUnderlying129 rfl sizeOf9 rfl (L.o (O.bD sizeOf9 rfl rfl rfl Vm (show (6:Nat)<7 by decide) (fun Iy iO yZ=>?_)))))))))))
 have hz32:=Zn.size
 have hBO:dI (some b) w34 Iy:=hB8.trans ⟨iO.os.trans acr.os,iO.tape.trans acr.tape,iO.output.trans acr.output,Nat.le_of_eq ((iO.size.trans acr.size).symm),fun k _ hk ↦ (iO.block k (fun e ↦ hk (congrArg some e.symm))).trans (acr.block k (fun e ↦ hk (congrArg some e.symm)))⟩
 refine L.nil (T.Po results67 ⟨⟨d,ahV.Zm ⟨Ed r xs hn 0 (by omega),Ed r xs hn 1 (by omega),Ed r xs hn 2 (by omega)⟩ hBO yZ⟩,fun k hk=>?_⟩)
 have hs:=hK.S k hk
 have z1:=Jm.size
 exact (hBO.block k (by omega) (fun e=>hs.2.2 (by cases e;rfl))).trans ((Jm.block k (Nat.zero_le _) (by omega)).trans (Zn.block k (Nat.zero_le _) hs.2.1))
open Go Go.E RowKit
def acs (ob:Option Nat) (el:TypeId) (cs:List Value) (v:Value) (W:World):Prop:=∃ k,v = .slice (some ⟨k,0,none⟩) 1 1∧ob≠some k∧Blk W k cs el
theorem acs.st {ob:Option Nat} {el:TypeId} {cs:List Value} : ∀ v w w',dI ob w w'→acs ob el cs v w→acs ob el cs v w':=fun _ _ _ h ⟨k,h1,h2,h3⟩=>⟨k,h1,h2,h.blk h3 h2⟩
def JW (ob:Option Nat) (m:Nat) (el:TypeId) (sz n:Nat) (xs:List Value) (v:Value) (W:World):Prop:=W.ownsRow 0 el sz v n xs∧∀ k,v.ownBlock=some k→ob=some k∨m≤k
theorem JW.ext {ob:Option Nat} {m:Nat} {el:TypeId} {sz n:Nat} {xs:List Value} {v:Value} {W W':World} (h:JW ob m el sz n xs v W) (k:Ext W W'):JW ob m el sz n xs v W':=⟨aG h.1 k (Nat.zero_le _),h.2⟩
theorem JW.updB {ob:Option Nat} {m b:Nat} {el t:TypeId} {sz n:Nat} {xs cs:List Value} {v:Value} {W W':World} (h:JW ob m el sz n xs v W) (k:Upd b W W') (hB:Blk W b cs t) (ht:el≠t):JW ob m el sz n xs v W' :=
 ⟨(BJ.stay (Q:=fun _=>True) (Q':=fun _=>True) ⟨h.1,fun _ _=>trivial⟩ fun j _ _ e B=>⟨trivial,Blk.upd B k (fun e2=>nG h.1 hB ht (by rw [e,e2]))⟩).1,h.2⟩
def Iz (w:World) (ob:Option Nat) (i:Nat) (G:Value→World→Prop) (_:Nat) (σ:KH) (W:World):Prop:=(σ i=none∧Ext w W)∨∃ v,σ i=some v∧dI ob w W∧G v W
section
variable {w W W':World} {ob:Option Nat} {i c:Nat} {G:Value→World→Prop} {σ:KH}
theorem Iz.but (h:Iz w ob i G c σ W):dI ob w W:=by
 rcases h with ⟨_,h⟩|⟨v,_,h,_⟩
 ·exact .aV h
 exact h
theorem Iz.Oi (h:Iz w ob i G c σ W) (hn:σ i=none):Ext w W:=by
 rcases h with ⟨_,h⟩|⟨v,h,_⟩
 ·exact h
 rw [hn] at h;cases h
theorem Iz.nop (h:Iz w ob i G c σ W) {k:Nat} {u:Value} (he:Ext W W') (hG:∀ v,G v W→G v W') (hi:k≠i):Iz w ob i G c (upV σ k u) W':=by
 rcases h with ⟨h1,h2⟩|⟨v,h1,h2,h3⟩
 ·exact .inl ⟨by rw [KJ _ _ hi];exact h1,h2.trans he⟩
 exact .inr ⟨v,by rw [KJ _ _ hi];exact h1,h2.trans (.aV he),hG v h3⟩
theorem Iz.app {c':Nat} (h:Iz w ob i G c σ W) {u:Value} (hn:σ i=none) (hg:W.grownBy W' ob) (hG:G u W'):Iz w ob i G c' (upV σ i u) W':=.inr ⟨u,KI _ _ _,(dI.aV (h.Oi hn)).trans (.jh hg),hG⟩
theorem Iz.done {u:Value} (h:Iz w ob i G c σ W) (hs:σ i=some u):dI ob w W∧G u W:=by
 rcases h with ⟨h1,_⟩|⟨v,h1,h2,h3⟩
 ·rw [hs] at h1;cases h1
 rw [hs] at h1;cases h1;exact ⟨h2,h3⟩
end
theorem y7 {base n sz k:Nat} {el:TypeId} {W:World} {v:Value} {xs:List Value} (h:W.ownsRow base el sz v n xs) (e:v.ownBlock=some k):k<W.heap.size:=by
 rcases h.2 with ⟨h4,_⟩|⟨g,cap,cur,rfl,_,hg,_⟩
 ·subst h4;cases e
 cases e;exact (Array.getElem?_eq_some_iff.1 hg).1
def rO (s:PS) (xs:List Int):PS:={ s with ps:=s.ps ++ [(xs.getD 0 0,xs.getD 1 0)],last:=aK }
theorem RdK.WC {w0:World} {b:Nat} {d:RdD} {s:PS} {S:Nat→Prop} {W W':World} (h:RdK w0 b d s S W) {xs:List Int} {pv':Value} (hu:∀ k,k<W.heap.size→k≠b→d.pv.ownBlock≠some k→W'.heap[k]?=W.heap[k]?) (he:Ext w0 W') (hz:W.heap.size≤W'.heap.size)
  (hB:Blk W' b (aH { d with pv:=pv' } (rO s xs)) 129) (hP:JW d.pv.ownBlock W.heap.size 124 2 (s.ps.length+1) (pcs s.ps++pC (xs.getD 0 0,xs.getD 1 0)) pv' W'):RdK w0 b { d with pv:=pv' } (rO s xs) S W':=by
 have hk:∀ j cs t,t≠124→RdQ w0 b S j→Blk W j cs t→RdQ w0 b S j∧Blk W' j cs t:=fun j cs t ht q B=>⟨q,(hu j B.lt q.2.1 (nG h.pts.1 B (Ne.symm ht))).trans B⟩
 have hkI:∀ k cs,RdQ w0 b S k→Blk W k cs 3→RdQ w0 b S k∧Blk W' k cs 3:=fun k cs q B=>hk k cs _ (by decide) q B
 refine ⟨he,h.lo,hB,⟨?_,fun k e=>?_⟩,h.fsr.stay fun k cs q _ B=>hk k cs _ (by decide) q B,h.fsl,fun i hi=>?_,h.sep,h.usr.stay fun k cs q _ B=>hk k cs _ (by decide) q B,h.usl,fun i hi=>(h.un i hi).stay hkI,h.big,fun j hj=>by obtain ⟨a1,a2,a3⟩:=h.S j hj;exact ⟨a1,Nat.lt_of_lt_of_le a2 hz,a3⟩⟩
 ·have e1:(rO s xs).ps.length=s.ps.length+1:=by simp [rO]
  have e2:pcs (rO s xs).ps=pcs s.ps++pC (xs.getD 0 0,xs.getD 1 0):=by simp [rO,pcs]
  rw [e1,e2];exact hP.1
 ·have hlt:=Blk.lt (cs:=aH d s) h.row
  have hz0:=h.e.size
  rcases hP.2 k e with h1|h1
  ·exact h.pts.2 k h1
  exact ⟨by omega,by omega,fun hk=>by have:=(h.S k hk).2.1;omega⟩
 have f:=h.fa i hi
 exact ⟨f.ox,f.oi.stay hkI,f.hx,f.hv.stay fun k cs q _ B=>hk k cs _ (by decide) q B,fun x hx=>(f.ri x hx).stay hkI⟩
set_option maxHeartbeats 1000000 in
theorem Oj (w0:World) (b:Nat) (s:PS) (S:Nat→Prop) (l:Str) (r:List Str) (xs:List Int) (w:World) (hI:RdI w0 b s S w) (hL:jc w) (hl:l.length≤100000) (hf:fieldsB l=aK::r) (hlast:s.last ∈ [bn,aK]) (h3:r.length=2) (hn:dV r=some xs) (hc:s.ps.length≤100000) :
  Calls Tryz.prog 67 #[.pointer (some ⟨b,0,none⟩),str l] w (Ret fun v w'=>RdI w0 b (rO s xs) S w'∧∀ k,S k→w'.heap[k]?=w.heap[k]?):=by
 refine T.enter (vs:=[.pointer (some ⟨b,0,none⟩),str l]) func67 rfl ntmps67 rfl ?_
 refine T.q (L.m rfl (L.o (O.call (xs:=[.tmp 10,.func 121]) call120 rfl rfl (aP l w hl) (fun v1 w1 hq=>?_))))
 obtain ⟨A,rfl,hS1,he1⟩:=hq
 obtain ⟨d,hK⟩:=hI
 have hK1:=hK.ext he1
 rw [hf]
 rw [hf] at hS1
 have hx3:xs.length=2:=by rw [← (jr r xs hn).1];exact h3
 refine L.a rfl (L.nil (T.seq (T.q (L.m rfl (L.o (O.len runUnderlying61 rfl (Sl.val hS1) (L.o (O.gX rfl rfl (by simp;omega) (L.nil (T.cf (T.skip (T.seq (?_)))))))))))))
 refine T.fJ mixed 6 [4] rfl [.is _,.is _,.is _,.is _,.is _,.is _] [[],[0],[1],[],[3],[2]] [[],[0],[0,1],[],[3],[0,1,2],[0,1,2,3,4,5]] (by kernel_rfl) (by kernel_rfl) rfl (by kernel_rfl) trivial ⟨fun wx hx=>Ob.o (O.move rfl kR),
   fun wx hx=>Ob.o (O.indexAddr runUnderlying61 sizeOf9 rfl rfl (hS1.ext hx) (by decide) (by simp) kR),
   fun wx hx=>Ob.o (O.load isAgg9 rfl ((hS1.ext hx).at (show 0<(aK::r).length by simp)) kR),
   fun wx hx=>Ob.o (O.move rfl kR),
   fun wx hx=>Ob.o (O.ji (l:=1) runUnderlying61 sizeOf9 rfl rfl hS1 (by simp) kR),
   fun wx hx=>Ob.o (O.assign rfl kR),
   trivial⟩ (fun w2 he2=>?_)
 have hR2:=bC (hS1.ext he2) rfl
 refine L.a rfl (L.nil (T.seq (T.q (L.m rfl (L.nil (T.block (T.q (L.o (O.aA runUnderlying9 rfl rfl (show ¬ aK=bn by decide) (L.a rfl (L.nil (T.cf (T.q (L.o (O.aX runUnderlying9 rfl rfl rfl (L.a rfl (L.nil (T.ct (T.q (L.m rfl (L.o (O.buildSlice (el:=9) (parts:=[(0,_),(1,_)]) (vs:=[(0,_),(1,_)]) (cs:=([bn,aK].map str)) rfl (fun w=>by kernel_rfl) (fun b62 w62 afK afL Ee U4=>?_)))))))))))))))))))))))
 have pU:=(hK1.ext he2).ext Ee
 refine L.o (O.call (xs:=[.tmp 61,.tmp 62]) call68 rfl rfl (aW 0 _ [bn,aK] b (aH d s) s.last w62 (Strs.ay U4 rfl (by decide) (Nat.zero_le _)) pU.row rfl) (fun v63 w63 hq=>?_))
 obtain ⟨rfl,rfl⟩:=hq
 rw [decide_eq_true hlast]
 refine L.m rfl (L.m rfl (L.o (O.len runUnderlying61 rfl (Sl.val (hR2.ext Ee)) (L.o (O.iF rfl rfl (by omega) (L.o (O.ah rfl rfl (L.o (O.call (xs:=[.tmp 68]) call108 rfl rfl (dK w63) (fun v69 w69 hq=>?_))))))))))
 obtain rfl:=hq
 have Zo:=(he1.trans he2).trans Ee
 refine L.nil (T.q (L.m rfl (L.o (O.call (xs:=[.tmp 70]) call122 rfl rfl (jF _ _ r xs w69 (hR2.ext Ee) (hL.ext Zo) (dh hl hf) hn (by omega)) (fun v71 w71 hq=>?_)))))
 obtain ⟨akR,afM⟩:=hq
 have Ol:=pU.ext afM
 have akS:dO (fun k ↦ w69.heap.size≤k) w71 v71 xs:=dO.aT akR (fun k h _ ↦ h)
 have hint:∀ W,dI d.pv.ownBlock w71 W→Ints .i64 0 W v71 xs:=fun W h ↦ (akS.stay (Q':=fun _ ↦ True) fun k cs q B ↦ ⟨trivial,h.blk B (nG Ol.pts.1 B (by decide))⟩).ints
 have hpb:d.pv.ownBlock≠some b:=fun e ↦ (Ol.pts.2 b e).2.1 rfl
 refine L.a rfl (L.nil (?_))
 refine T.ac6 mixed 16 0 [0,8] rfl [.is _,.is _,.is _,.is _,.is _,.is _,.is _,.is _,.is _,.is _,.is _,.is _,.is _,.is _,.such (acs d.pv.ownBlock 124 (pC (xs.getD 0 0,xs.getD 1 0))),.such (fun _ _=>True)] [[],[],[1],[2],[3],[4],[5],[],[7],[8],[],[10],[11],[9,12],[13],[6,14]] [none,none,none,none,none,none,none,none,none,none,none,none,none,none,none,none] [[],[],[1],[1,2],[1,2,3],[1,2,3,4],[1,2,3,4,5],[],[7],[7,8],[],[10],[10,11],[7,8,9,10,11,12],[7,8,9,10,11,12,13],[1,2,3,4,5,6,7,8,9,10,11,12,13,14],[0,1,2,3,4,5,6,7,8,9,10,11,12,13,14,15],[0,1,2,3,4,5,6,7,8,9,10,11,12,13,14,15,16],[0,1,2,3,4,5,6,7,8,9,10,11,12,13,14,15,16,17],[0,1,2,3,4,5,6,7,8,9,10,11,12,13,14,15,16,17,18],[0,1,2,3,4,5,6,7,8,9,10,11,12,13,14,15,16,17,18,19]] (Iz w71 d.pv.ownBlock 15 (JW d.pv.ownBlock w71.heap.size 124 2 (s.ps.length+1) (pcs s.ps++pC (xs.getD 0 0,xs.getD 1 0)))) (dI d.pv.ownBlock) (by kernel_rfl) (by kernel_rfl) (by kernel_rfl) rfl ⟨acs.st,fun _ _ _ _ _=>trivial,trivial⟩ (.inl ⟨rfl,Keep.drew _ _⟩) ⟨fun c σ wx hx hn hl=>ObG.op rfl (O.move rfl ⟨⟨dI.refl _ _,hx.nop (Keep.refl _ _) (fun _ g ↦ g) (by decide)⟩,rfl⟩),
   fun c σ wx hx hn hl=>ObG.op rfl (O.move rfl ⟨⟨dI.refl _ _,hx.nop (Keep.refl _ _) (fun _ g ↦ g) (by decide)⟩,rfl⟩),
   fun c σ wx hx hn hl=>ObG.op rfl (O.nilCheck rfl ⟨⟨dI.refl _ _,hx.nop (Keep.refl _ _) (fun _ g ↦ g) (by decide)⟩,rfl⟩),
   fun c σ wx hx hn hl=>ObG.op rfl (O.fieldAddr runUnderlying129 rfl sizeOf48 rfl ⟨⟨dI.refl _ _,hx.nop (Keep.refl _ _) (fun _ g ↦ g) (by decide)⟩,rfl⟩),
   fun c σ wx hx hn hl=>ObG.op rfl (O.fieldAddr runUnderlying48 rfl sizeOf46 rfl ⟨⟨dI.refl _ _,hx.nop (Keep.refl _ _) (fun _ g ↦ g) (by decide)⟩,rfl⟩),
   fun c σ wx hx hn hl=>ObG.op rfl (O.fieldAddr runUnderlying46 rfl sizeOf43 rfl ⟨⟨dI.refl _ _,hx.nop (Keep.refl _ _) (fun _ g ↦ g) (by decide)⟩,rfl⟩),
   fun c σ wx hx hn hl=>ObG.op rfl (O.load isAgg43 rfl ((hx.but.blk (cs:=aH d s) Ol.row hpb).cell rfl) ⟨⟨dI.refl _ _,hx.nop (Keep.refl _ _) (fun _ g ↦ g) (by decide)⟩,rfl⟩),
   fun c σ wx hx hn hl=>ObG.op rfl (O.move rfl ⟨⟨dI.refl _ _,hx.nop (Keep.refl _ _) (fun _ g ↦ g) (by decide)⟩,rfl⟩),
   fun c σ wx hx hn hl=>ObG.op rfl (O.indexAddr runUnderlying30 sizeOf3 rfl rfl (hint _ hx.but) (by decide) (by show (0:Int)<xs.length;omega) ⟨⟨dI.refl _ _,hx.nop (Keep.refl _ _) (fun _ g ↦ g) (by decide)⟩,rfl⟩),
   fun c σ wx hx hn hl=>ObG.op rfl (O.load isAgg3 rfl (Ints.at (hint _ hx.but) (show 0<xs.length by omega)) ⟨⟨dI.refl _ _,hx.nop (Keep.refl _ _) (fun _ g ↦ g) (by decide)⟩,rfl⟩),
   fun c σ wx hx hn hl=>ObG.op rfl (O.move rfl ⟨⟨dI.refl _ _,hx.nop (Keep.refl _ _) (fun _ g ↦ g) (by decide)⟩,rfl⟩),
   fun c σ wx hx hn hl=>ObG.op rfl (O.indexAddr runUnderlying30 sizeOf3 rfl rfl (hint _ hx.but) (by decide) (by show (1:Int)<xs.length;omega) ⟨⟨dI.refl _ _,hx.nop (Keep.refl _ _) (fun _ g ↦ g) (by decide)⟩,rfl⟩),
   fun c σ wx hx hn hl=>ObG.op rfl (O.load isAgg3 rfl (Ints.at (hint _ hx.but) (show 1<xs.length by omega)) ⟨⟨dI.refl _ _,hx.nop (Keep.refl _ _) (fun _ g ↦ g) (by decide)⟩,rfl⟩),
   fun c σ wx hx hn hl=>ObG.op rfl (O.build (v:=.agg #[.int .i64 (xs.getD 0 0),.int .i64 (xs.getD 1 0)]) (parts:=[(0,.tmp 81),(1,.tmp 84)]) (vs:=[(0,_),(1,_)]) rfl (fun w=>by kernel_rfl) ⟨⟨dI.refl _ _,hx.nop (Keep.refl _ _) (fun _ g ↦ g) (by decide)⟩,rfl⟩),
   fun c σ wx hx hn hl=>ObG.op rfl (O.buildSlice (el:=124) (parts:=[(0,.tmp 85)]) (vs:=[(0,_)]) (cs:=(pC (xs.getD 0 0,xs.getD 1 0))) rfl (fun w=>by kernel_rfl) (fun b86 w86 am8 am9 afN akT=>⟨⟨dI.aV afN,hx.nop afN (fun _ g ↦ g.ext afN) (by decide)⟩,b86,rfl,fun e=>by have:=y7 Ol.pts.1 e;have:=hx.but.size;omega,akT⟩)),
   fun c σ wx hx hn v86 ahW hl=>by { obtain ⟨bl,rfl,hbn,hBl⟩:=ahW;exact ObG.op rfl (O.xw (size:=2) (bytes:=16) runUnderlying43 Tryz.xq rfl rfl rfl rfl (by decide) rfl rfl (aG Ol.pts.1 (hx.Oi hn) (Nat.zero_le _)) rfl (Row.ay hBl) (gY _) (by omega) (by simp only [maxLen];omega) (Nat.zero_le _) (fun v87 w87 akU ahX akV=>⟨⟨dI.jh ahX,hx.app hn ahX ⟨akU,fun k e=>(akV k e).imp id (fun h=>Nat.le_trans (hx.Oi hn).size h)⟩⟩,trivial⟩)) },
   trivial⟩ (fun ana w12 akW v86 ahW v87 anb hl12=>?_)
 obtain ⟨Ji,ahY⟩:=akW.done (hl12 15 (by decide) _ _ rfl rfl).symm
 refine L.o (O.nilCheck rfl (L.o (O.fieldAddr runUnderlying129 rfl sizeOf48 rfl (L.o (O.fieldAddr runUnderlying48 rfl sizeOf46 rfl (L.o (O.fieldAddr runUnderlying46 rfl sizeOf43 rfl (L.o (O.bD sizeOf43 (Sl.one (Sl.aT ahY.1)) rfl rfl (Ji.blk (cs:=aH d s) Ol.row hpb) (show (0:Nat)<7 by decide) (fun w91 adT ahZ=>?_))))))))))
 refine L.nil (T.blk (T.region (L.m rfl (L.m rfl (L.o (O.nilCheck rfl (L.o (O.fieldAddr runUnderlying129 rfl sizeOf9 rfl (L.o (O.bD sizeOf9 rfl rfl rfl ahZ (show (6:Nat)<7 by decide) (fun Iy iO yZ=>?_)))))))))))
 have afO:JW d.pv.ownBlock w71.heap.size 124 2 (s.ps.length+1) (pcs s.ps++pC (xs.getD 0 0,xs.getD 1 0)) v87 Iy:=(ahY.updB adT (Ji.blk (cs:=aH d s) Ol.row hpb) (by decide)).updB iO ahZ (by decide)
 have SY:Ext w0 Iy:=((Ji.ext Ol.e (fun k e ↦ (Ol.pts.2 k e).1)).upd adT (.inr Ol.lo)).upd iO (.inr Ol.lo)
 have S9:w71.heap.size≤Iy.heap.size:=by have:=Ji.size;have:=adT.size;have:=iO.size;omega
 have hkeep:∀ k,k<w71.heap.size→k≠b→d.pv.ownBlock≠some k→Iy.heap[k]?=w71.heap[k]?:=fun k h1 h2 h3 ↦ (iO.block k h2).trans ((adT.block k h2).trans (Ji.block k h1 h3))
 refine L.nil (T.Po results67 ⟨⟨{ d with pv:=v87 },Ol.WC hkeep SY S9 yZ afO⟩,fun k hk=>?_⟩)
 have hs:=hK.S k hk
 have z1:=afM.size
 have z2:=Zo.size
 exact (hkeep k (by omega) hs.2.2 (fun e=>(Ol.pts.2 k e).2.2 hk)).trans ((afM.block k (Nat.zero_le _) (by omega)).trans (Zo.block k (Nat.zero_le _) hs.2.1))
open Go Go.E RowKit
theorem dI.keep {ob:Option Nat} {lo:Nat} {w w':World} (h:dI ob w w') (hm:∀ k,ob=some k→k<lo):Keep lo w w':=⟨h.os,h.tape,h.output,h.size,fun k hl hk=>h.block k hk (fun e=>by have:=hm k e;omega)⟩
def BK (m:Nat) (k:Nat):Prop:=m≤k
def Zp (m:Nat) (xs:List Int) (v:Value) (W:World):Prop:=∃ oa cp,v = .slice oa xs.length cp∧dO (BK m) W v xs
theorem dO.form {Q:Nat→Prop} {W:World} {v:Value} {xs:List Int} (h:dO Q W v xs):∃ oa cp,v = .slice oa xs.length cp:=by
 rcases h with ⟨rfl,rfl⟩|⟨k,off,cap,cs,rfl,_⟩
 ·exact ⟨none,0,rfl⟩
 exact ⟨_,_,rfl⟩
theorem dO.X0 {ob:Option Nat} {m:Nat} {W W':World} {v:Value} {xs:List Int} (hm:∀ k,ob=some k→k<m) (h:dO (BK m) W v xs) (k:dI ob W W'):dO (BK m) W' v xs:=h.stay fun j cs q B=>⟨q,k.blk B (fun e=>by have:=hm j e;unfold BK at q;omega)⟩
theorem Zp.st {ob:Option Nat} {m:Nat} {xs:List Int} (hm:∀ k,ob=some k→k<m):∀ v w w',dI ob w w'→Zp m xs v w→Zp m xs v w':=fun _ _ _ h ⟨oa,cp,h1,h2⟩=>⟨oa,cp,h1,h2.X0 hm h⟩
def acu (m:Nat) (xs:List Int) (v:Value) (W:World):Prop:=∃ oa cp,v = .agg #[.slice oa xs.length cp,.slice none 0 0]∧dO (BK m) W (.slice oa xs.length cp) xs
theorem acu.st {ob:Option Nat} {m:Nat} {xs:List Int} (hm:∀ k,ob=some k→k<m):∀ v w w',dI ob w w'→acu m xs v w→acu m xs v w':=fun _ _ _ h ⟨oa,cp,h1,h2⟩=>⟨oa,cp,h1,h2.X0 hm h⟩
def acv (ob:Option Nat) (m:Nat) (xs:List Int) (v:Value) (W:World):Prop:=∃ k oa cp,v = .slice (some ⟨k,0,none⟩) 1 1∧ob≠some k∧Blk W k [.slice oa xs.length cp,.slice none 0 0] 127∧dO (BK m) W (.slice oa xs.length cp) xs
theorem acv.st {ob:Option Nat} {m:Nat} {xs:List Int} (hm:∀ k,ob=some k→k<m):∀ v w w',dI ob w w'→acv ob m xs v w→acv ob m xs v w':=fun _ _ _ h ⟨k,oa,cp,h1,h2,h3,h4⟩=>⟨k,oa,cp,h1,h2,h.blk (cs:=[.slice oa xs.length cp,.slice none 0 0]) h3 h2,h4.X0 hm h⟩
def Zq (ob:Option Nat) (m:Nat) (vs:List FaV) (xs:List Int) (v:Value) (W:World):Prop:=∃ u,JW ob m 127 2 (vs.length+1) (bP vs ++ [u,.slice none 0 0]) v W∧dO (BK m) W u xs
theorem Zq.ext {ob:Option Nat} {m:Nat} {vs:List FaV} {xs:List Int} {v:Value} {W W':World} (h:Zq ob m vs xs v W) (k:Ext W W'):Zq ob m vs xs v W':=by
 obtain ⟨u,h1,h2⟩:=h
 exact ⟨u,h1.ext k,h2.stay fun j cs q B=>⟨q,Blk.ext B k⟩⟩
def G9 (s:PS) (xs:List Int):PS:={ s with fs:=s.fs ++ [(xs,[])],last:=aY }
def y8 (d:RdD) (v u:Value) (xs:List Int):RdD:={ d with fv:=v,vs:=d.vs ++ [⟨⟨u,xs⟩,.slice none 0 0,[]⟩] }
theorem Zq.updB {ob:Option Nat} {m b:Nat} {t:TypeId} {vs:List FaV} {xs:List Int} {cs:List Value} {v:Value} {W W':World} (h:Zq ob m vs xs v W) (k:Upd b W W') (hB:Blk W b cs t) (ht:127≠t) (hm:b<m):Zq ob m vs xs v W':=by
 obtain ⟨u,h1,h2⟩:=h
 exact ⟨u,h1.updB k hB ht,h2.stay fun j cs q B=>⟨q,Blk.upd B k (fun e=>by unfold BK at q;omega)⟩⟩
theorem oL {α:Type} {l r:List α} {i:Nat} {x:α} (h:i<l.length):(l++r).getD i x=l.getD i x:=by
 rw [List.getD_eq_getElem?_getD,List.getElem?_append_left h,← List.getD_eq_getElem?_getD]
theorem kT {α:Type} {l:List α} {i:Nat} {x y:α} (h:i=l.length):(l ++ [y]).getD i x=y:=by
 subst h;simp [List.getD]
theorem RdK.Zr {w0:World} {b:Nat} {d:RdD} {s:PS} {S:Nat→Prop} {W W':World} (h:RdK w0 b d s S W) {xs:List Int} {v u:Value} (hu:∀ k,k<W.heap.size→k≠b→d.fv.ownBlock≠some k→W'.heap[k]?=W.heap[k]?) (he:Ext w0 W') (hz:W.heap.size≤W'.heap.size)
  (hB:Blk W' b (aH (y8 d v u xs) (G9 s xs)) 129) (hG:JW d.fv.ownBlock W.heap.size 127 2 (d.vs.length+1) (bP d.vs ++ [u,.slice none 0 0]) v W') (hI:dO (BK W.heap.size) W' u xs):RdK w0 b (y8 d v u xs) (G9 s xs) S W':=by
 have hk:∀ j cs t,t≠127→RdQ w0 b S j→Blk W j cs t→RdQ w0 b S j∧Blk W' j cs t:=fun j cs t ht q B=>⟨q,(hu j B.lt q.2.1 (nG h.fsr.1 B (Ne.symm ht))).trans B⟩
 have hkI:∀ k cs,RdQ w0 b S k→Blk W k cs 3→RdQ w0 b S k∧Blk W' k cs 3:=fun k cs q B=>hk k cs _ (by decide) q B
 have hlt:=Blk.lt (cs:=aH d s) h.row
 have hz0:=h.e.size
 have hnew:∀ k,W.heap.size≤k→RdQ w0 b S k:=fun k h1=>⟨by omega,by omega,fun hk=>by have:=(h.S k hk).2.1;omega⟩
 have hvl:(y8 d v u xs).vs.length=d.vs.length+1:=by simp [y8]
 have hfl:=h.fsl
 refine ⟨he,h.lo,hB,h.pts.stay fun k cs q _ B=>hk k cs _ (by decide) q B,⟨?_,fun k e=>?_⟩,by simp [y8,G9,hfl],fun i hi=>?_,fun i hi k e=>?_,h.usr.stay fun k cs q _ B=>hk k cs _ (by decide) q B,h.usl,fun i hi=>(h.un i hi).stay hkI,h.big,fun j hj=>by obtain ⟨a1,a2,a3⟩:=h.S j hj;exact ⟨a1,Nat.lt_of_lt_of_le a2 hz,a3⟩⟩
 ·have e2:bP (y8 d v u xs).vs=bP d.vs ++ [u,.slice none 0 0]:=by simp [y8,bP,FaV.cells]
  rw [hvl,e2];exact hG.1
 ·rcases hG.2 k e with h1|h1
  ·exact h.fsr.2 k h1
  exact hnew k h1
 ·rw [hvl] at hi
  rcases Nat.lt_or_ge i d.vs.length with h1|h1
  ·have f:=h.fa i h1
   have e1:(y8 d v u xs).vs.getD i f0=d.vs.getD i f0:=oL h1
   have e2:(G9 s xs).fs.getD i ([],[])=s.fs.getD i ([],[]):=oL (by omega)
   rw [e1,e2]
   exact ⟨f.ox,f.oi.stay hkI,f.hx,f.hv.stay fun k cs q _ B=>hk k cs _ (by decide) q B,fun x hx=>(f.ri x hx).stay hkI⟩
  have e1:(y8 d v u xs).vs.getD i f0=⟨⟨u,xs⟩,.slice none 0 0,[]⟩:=kT (by omega)
  have e2:(G9 s xs).fs.getD i ([],[])=(xs,[]):=kT (by omega)
  rw [e1,e2]
  exact ⟨rfl,hI.stay fun k cs q B=>⟨hnew k q,B⟩,rfl,BJ.nil _ _ _ _,fun x hx=>by cases hx⟩
 rw [hvl] at e
 have e1:(y8 d v u xs).vs.getD (d.vs.length+1-1) f0=⟨⟨u,xs⟩,.slice none 0 0,[]⟩:=kT (by omega)
 rw [e1] at e
 cases e
set_option maxHeartbeats 1000000 in
theorem Tc (w0:World) (b:Nat) (s:PS) (S:Nat→Prop) (l:Str) (r:List Str) (xs:List Int) (w:World) (hI:RdI w0 b s S w) (hL0:jc w0) (hll:l.length≤100000) (hf:fieldsB l=aY::r) (hlast:s.last ∈ [bn,aK,aY,aZ]) (hr:r.length≤100000) (hnum:dV r=some xs) (hc:s.fs.length≤100000) :
  Calls Tryz.prog 67 #[.pointer (some ⟨b,0,none⟩),str l] w (Ret fun v w'=>RdI w0 b (G9 s xs) S w'∧∀ k,S k→w'.heap[k]?=w.heap[k]?):=by
 refine T.enter (vs:=[.pointer (some ⟨b,0,none⟩),str l]) func67 rfl ntmps67 rfl ?_
 refine T.q (L.m rfl (L.o (O.call (xs:=[.tmp 10,.func 121]) call120 rfl rfl (aP l w hll) (fun v1 w1 hq=>?_))))
 obtain ⟨A,rfl,hS1,he1⟩:=hq
 obtain ⟨d,hK⟩:=hI
 have hK1:=hK.ext he1
 rw [hf]
 rw [hf] at hS1
 refine L.a rfl (L.nil (T.seq (T.q (L.m rfl (L.o (O.len runUnderlying61 rfl (Sl.val hS1) (L.o (O.gX rfl rfl (by simp;omega) (L.nil (T.cf (T.skip (T.seq (?_)))))))))))))
 refine T.fJ mixed 6 [4] rfl [.is _,.is _,.is _,.is _,.is _,.is _] [[],[0],[1],[],[3],[2]] [[],[0],[0,1],[],[3],[0,1,2],[0,1,2,3,4,5]] (by kernel_rfl) (by kernel_rfl) rfl (by kernel_rfl) trivial ⟨fun wx hx=>Ob.o (O.move rfl kR),
   fun wx hx=>Ob.o (O.indexAddr runUnderlying61 sizeOf9 rfl rfl (hS1.ext hx) (by decide) (by simp) kR),
   fun wx hx=>Ob.o (O.load isAgg9 rfl ((hS1.ext hx).at (show 0<(aY::r).length by simp)) kR),
   fun wx hx=>Ob.o (O.move rfl kR),
   fun wx hx=>Ob.o (O.ji (l:=1) runUnderlying61 sizeOf9 rfl rfl hS1 (by simp) kR),
   fun wx hx=>Ob.o (O.assign rfl kR),
   trivial⟩ (fun w2 he2=>?_)
 have hR2:=bC (hS1.ext he2) rfl
 refine L.a rfl (L.nil (T.seq (T.q (L.m rfl (L.nil (T.block (T.q (L.o (O.aA runUnderlying9 rfl rfl (show ¬ aY=bn by decide) (L.a rfl (L.nil (T.cf (T.q (L.o (O.aA runUnderlying9 rfl rfl (show ¬ aY=aK by decide) (L.a rfl (L.nil (T.cf (T.q (L.o (O.aX runUnderlying9 rfl rfl rfl (L.a rfl (?_)))))))))))))))))))))))
 refine L.nil (T.ct (T.q (L.m rfl (L.o (O.buildSlice (el:=9) (parts:=[(0,_),(1,_),(2,_),(3,_)]) (vs:=[(0,_),(1,_),(2,_),(3,_)]) (cs:=([bn,aK,aY,aZ].map str)) rfl (fun w=>by kernel_rfl) (fun b95 w95 ah0 ah1 UH acw=>?_))))))
 have pU:=(hK1.ext he2).ext UH
 refine L.o (O.call (xs:=[.tmp 94,.tmp 95]) call68 rfl rfl (aW 0 _ [bn,aK,aY,aZ] b (aH d s) s.last w95 (Strs.ay acw rfl (by decide) (Nat.zero_le _)) pU.row rfl) (fun v96 w96 hq=>?_))
 obtain ⟨rfl,rfl⟩:=hq
 rw [decide_eq_true hlast]
 refine L.o (O.call (xs:=[.tmp 96]) call108 rfl rfl (dK w96) (fun v97 w97 hq=>?_))
 obtain rfl:=hq
 have acy:=(he1.trans he2).trans UH
 have hpb:d.fv.ownBlock≠some b:=fun e ↦ (pU.fsr.2 b e).2.1 rfl
 have hm:∀ k,d.fv.ownBlock=some k→k<w97.heap.size:=fun k e ↦ y7 pU.fsr.1 e
 have hvl:=pU.fsl
 refine L.nil (?_)
 refine T.ac6 mixed 12 0 [0,6] rfl [.is _,.is _,.is _,.is _,.is _,.is _,.is _,.is _,.such (Zp w97.heap.size xs),.such (acu w97.heap.size xs),.such (acv d.fv.ownBlock w97.heap.size xs),.such (fun _ _=>True)] [[],[],[1],[2],[3],[4],[5],[],[7],[8],[9],[6,10]] [none,none,none,none,none,none,none,none,none,none,none,none] [[],[],[1],[1,2],[1,2,3],[1,2,3,4],[1,2,3,4,5],[],[7],[7,8],[7,8,9],[1,2,3,4,5,6,7,8,9,10],[0,1,2,3,4,5,6,7,8,9,10,11],[0,1,2,3,4,5,6,7,8,9,10,11,12],[0,1,2,3,4,5,6,7,8,9,10,11,12,13],[0,1,2,3,4,5,6,7,8,9,10,11,12,13,14],[0,1,2,3,4,5,6,7,8,9,10,11,12,13,14,15]] (Iz w97 d.fv.ownBlock 11 (Zq d.fv.ownBlock w97.heap.size d.vs xs)) (dI d.fv.ownBlock) (by kernel_rfl) (by kernel_rfl) (by kernel_rfl) rfl ⟨Zp.st hm,acu.st hm,acv.st hm,fun _ _ _ _ _=>trivial,trivial⟩ (.inl ⟨rfl,Keep.drew _ _⟩) ⟨fun c σ wx hx hn hl=>ObG.op rfl (O.move rfl ⟨⟨dI.refl _ _,hx.nop (Keep.refl _ _) (fun _ g ↦ g) (by decide)⟩,rfl⟩),
   fun c σ wx hx hn hl=>ObG.op rfl (O.move rfl ⟨⟨dI.refl _ _,hx.nop (Keep.refl _ _) (fun _ g ↦ g) (by decide)⟩,rfl⟩),
   fun c σ wx hx hn hl=>ObG.op rfl (O.nilCheck rfl ⟨⟨dI.refl _ _,hx.nop (Keep.refl _ _) (fun _ g ↦ g) (by decide)⟩,rfl⟩),
   fun c σ wx hx hn hl=>ObG.op rfl (O.fieldAddr runUnderlying129 rfl sizeOf48 rfl ⟨⟨dI.refl _ _,hx.nop (Keep.refl _ _) (fun _ g ↦ g) (by decide)⟩,rfl⟩),
   fun c σ wx hx hn hl=>ObG.op rfl (O.fieldAddr runUnderlying48 rfl sizeOf46 rfl ⟨⟨dI.refl _ _,hx.nop (Keep.refl _ _) (fun _ g ↦ g) (by decide)⟩,rfl⟩),
   fun c σ wx hx hn hl=>ObG.op rfl (O.fieldAddr runUnderlying46 rfl sizeOf44 rfl ⟨⟨dI.refl _ _,hx.nop (Keep.refl _ _) (fun _ g ↦ g) (by decide)⟩,rfl⟩),
   fun c σ wx hx hn hl=>ObG.op rfl (O.load isAgg44 rfl ((hx.but.blk (cs:=aH d s) pU.row hpb).cell rfl) ⟨⟨dI.refl _ _,hx.nop (Keep.refl _ _) (fun _ g ↦ g) (by decide)⟩,rfl⟩),
   fun c σ wx hx hn hl=>ObG.op rfl (O.move rfl ⟨⟨dI.refl _ _,hx.nop (Keep.refl _ _) (fun _ g ↦ g) (by decide)⟩,rfl⟩),
   fun c σ wx hx hn hl=>ObG.op rfl (O.call (xs:=[.tmp 105]) call122 rfl rfl (jF 0 _ r xs wx (Sl.mono (Sl.keep (Strs.ext hR2 UH) (hx.but.keep (lo:=w.heap.size) (fun k e ↦ y7 hK.fsr.1 e))) (Nat.zero_le _)) (hL0.ext (hx.but.ext pU.e (fun k e ↦ (pU.fsr.2 k e).1))) (dh hll hf) hnum (by omega)) (fun v wy h=>⟨⟨dI.aV h.2,hx.nop h.2 (fun _ g ↦ g.ext h.2) (by decide)⟩,by obtain ⟨h1,h2⟩:=h;have hB:=dO.aT (Q:=BK w97.heap.size) h1 (fun k hk _ ↦ Nat.le_trans hx.but.size hk);obtain ⟨oa,cp,e⟩:=hB.form;exact ⟨oa,cp,e,hB⟩⟩)),
   fun c σ wx hx hn afP Om hl=>by { obtain ⟨oa,cp,rfl,hI⟩:=Om;exact ObG.op rfl (O.build (v:=.agg #[.slice oa xs.length cp,.slice none 0 0]) (parts:=[(0,.tmp 106)]) (vs:=[(0,_)]) rfl (fun w=>by kernel_rfl) ⟨⟨dI.refl _ _,hx.nop (Keep.refl _ _) (fun _ g ↦ g) (by decide)⟩,oa,cp,rfl,hI⟩) },
   fun c σ wx hx hn v107 Td hl=>by { obtain ⟨oa,cp,rfl,hI⟩:=Td;exact ObG.op rfl (O.buildSlice (el:=127) (parts:=[(0,.tmp 107)]) (vs:=[(0,_)]) (cs:=[.slice oa xs.length cp,.slice none 0 0]) rfl (fun w=>by kernel_rfl) (fun akX anc akY akZ WE afQ=>⟨⟨dI.aV WE,hx.nop WE (fun _ g ↦ g.ext WE) (by decide)⟩,akX,oa,cp,rfl,fun e=>by have:=hm _ e;have:=hx.but.size;omega,afQ,hI.X0 hm (dI.aV WE)⟩)) },
   fun c σ wx hx hn afR Tf hl=>by { obtain ⟨bl,oa,cp,rfl,hbn,hBl,hIl⟩:=Tf;exact ObG.op rfl (O.xw (size:=2) (bytes:=48) runUnderlying44 Tryz.ku rfl rfl rfl rfl (by decide) rfl rfl (aG pU.fsr.1 (hx.Oi hn) (Nat.zero_le _)) rfl (Row.ay hBl) (by intro u hu;simp at hu;obtain (rfl|rfl):=hu <;> rfl) (by omega) (by simp only [maxLen];omega) (Nat.zero_le _) (fun v109 acz afS Zt afT=>⟨⟨dI.jh Zt,hx.app hn Zt ⟨.slice oa xs.length cp,⟨afS,fun k e=>(afT k e).imp id (fun h=>Nat.le_trans (hx.Oi hn).size h)⟩,hIl.X0 hm (dI.jh Zt)⟩⟩,trivial⟩)) },
   trivial⟩ (fun ane w15 ado afP Om v107 Td afR Tf v109 afU adx=>?_)
 obtain ⟨Dl,adN⟩:=ado.done (adx 11 (by decide) _ _ rfl rfl).symm
 refine L.o (O.nilCheck rfl (L.o (O.fieldAddr runUnderlying129 rfl sizeOf48 rfl (L.o (O.fieldAddr runUnderlying48 rfl sizeOf46 rfl (L.o (O.fieldAddr runUnderlying46 rfl sizeOf44 rfl (L.o (O.bD sizeOf44 (by obtain ⟨u,h1,_⟩:=adN;exact Sl.one (Sl.aT h1.1)) rfl rfl (Dl.blk (cs:=aH d s) pU.row hpb) (show (1:Nat)<7 by decide) (fun ak0 Oo WG=>?_))))))))))
 refine L.nil (T.blk (T.region (L.m rfl (L.m rfl (L.o (O.nilCheck rfl (L.o (O.fieldAddr runUnderlying129 rfl sizeOf9 rfl (L.o (O.bD sizeOf9 rfl rfl rfl WG (show (6:Nat)<7 by decide) (fun Iy iO yZ=>?_)))))))))))
 have ah2:=Blk.lt (cs:=aH d s) pU.row
 obtain ⟨u,hGu,hIu⟩:=(adN.updB Oo (Dl.blk (cs:=aH d s) pU.row hpb) (by decide) ah2).updB iO WG (by decide) ah2
 have SY:Ext w0 Iy:=((Dl.ext pU.e (fun k e ↦ (pU.fsr.2 k e).1)).upd Oo (.inr pU.lo)).upd iO (.inr pU.lo)
 have S9:w97.heap.size≤Iy.heap.size:=by have:=Dl.size;have:=Oo.size;have:=iO.size;omega
 have hkeep:∀ k,k<w97.heap.size→k≠b→d.fv.ownBlock≠some k→Iy.heap[k]?=w97.heap[k]?:=fun k h1 h2 h3 ↦ (iO.block k h2).trans ((Oo.block k h2).trans (Dl.block k h1 h3))
 refine L.nil (T.Po results67 ⟨⟨y8 d v109 u xs,pU.Zr hkeep SY S9 yZ hGu hIu⟩,fun k hk=>?_⟩)
 have hs:=hK.S k hk
 have z2:=acy.size
 exact (hkeep k (by omega) hs.2.2 (fun e=>(pU.fsr.2 k e).2.2 hk)).trans (acy.block k (Nat.zero_le _) hs.2.1)
open Go Go.E RowKit
theorem WH (w0:World) (b:Nat) (s:PS) (S:Nat→Prop) (l:Str) (r:List Str) (w:World) (hI:RdI w0 b s S w) (hll:l.length≤100000) (k:Str) (hf:fieldsB l=k::r) (hk:k≠bn∧k≠aK∧k≠aY∧k≠aZ∧k≠bK∧k≠fA) :
  Calls Tryz.prog 67 #[.pointer (some ⟨b,0,none⟩),str l] w (Pan (bQ) fun w'=>Ext w w'):=by
 refine T.fP (vs:=[.pointer (some ⟨b,0,none⟩),str l]) func67 rfl ntmps67 rfl ?_
 refine T.q (L.m rfl (L.o (O.call (xs:=[.tmp 10,.func 121]) call120 rfl rfl (aP l w hll) (fun v1 w1 hq=>?_))))
 obtain ⟨A,rfl,hS1,he1⟩:=hq
 obtain ⟨d,hK⟩:=hI
 have hK1:=hK.ext he1
 rw [hf]
 rw [hf] at hS1
 refine L.a rfl (L.nil (T.seq (T.q (L.m rfl (L.o (O.len runUnderlying61 rfl (Sl.val hS1) (L.o (O.gX rfl rfl (by simp;omega) (L.nil (T.cf (T.skip (T.seq (?_)))))))))))))
 refine T.fJ mixed 6 [4] rfl [.is _,.is _,.is _,.is _,.is _,.is _] [[],[0],[1],[],[3],[2]] [[],[0],[0,1],[],[3],[0,1,2],[0,1,2,3,4,5]] (by kernel_rfl) (by kernel_rfl) rfl (by kernel_rfl) trivial ⟨fun wx hx=>Ob.o (O.move rfl kR),
   fun wx hx=>Ob.o (O.indexAddr runUnderlying61 sizeOf9 rfl rfl (hS1.ext hx) (by decide) (by simp) kR),
   fun wx hx=>Ob.o (O.load isAgg9 rfl ((hS1.ext hx).at (show 0<(k::r).length by simp)) kR),
   fun wx hx=>Ob.o (O.move rfl kR),
   fun wx hx=>Ob.o (O.ji (l:=1) runUnderlying61 sizeOf9 rfl rfl hS1 (by simp) kR),
   fun wx hx=>Ob.o (O.assign rfl kR),
   trivial⟩ (fun w2 he2=>?_)
 have hR2:=bC (hS1.ext he2) rfl
 refine L.a rfl (L.nil (T.seq (T.q (L.m rfl (L.nil (T.block (T.q (L.o (O.aA runUnderlying9 rfl rfl hk.1 (L.a rfl (L.nil (T.cf (T.q (L.o (O.aA runUnderlying9 rfl rfl hk.2.1 (L.a rfl (L.nil (T.cf (T.q (L.o (O.aA runUnderlying9 rfl rfl hk.2.2.1 (L.a rfl (?_)))))))))))))))))))))))
 refine L.nil (T.cf (T.q (L.o (O.aA runUnderlying9 rfl rfl hk.2.2.2.1 (L.a rfl (L.nil (T.cf (T.q (L.o (O.aA runUnderlying9 rfl rfl hk.2.2.2.2.1 (L.a rfl (L.nil (T.cf (T.q (L.o (O.aA runUnderlying9 rfl rfl hk.2.2.2.2.2 (L.a rfl (L.nil (T.cf (T.region (L.bJ (xs:=[.const (.bool false)]) rfl call108 rfl rfl (dG w2) (fun w' a hR ha=>⟨ha.defers,rfl,by rw [hR];exact he1.trans he2⟩))))))))))))))))))))))
theorem y9 (w0:World) (b:Nat) (s:PS) (S:Nat→Prop) (l:Str) (r:List Str) (w:World) (hI:RdI w0 b s S w) (hll:l.length≤100000) (hf:fieldsB l=bn::r) (hlast:s.last ∉ [[]]) :
  Calls Tryz.prog 67 #[.pointer (some ⟨b,0,none⟩),str l] w (Pan (bQ) fun w'=>Ext w w'):=by
 refine T.fP (vs:=[.pointer (some ⟨b,0,none⟩),str l]) func67 rfl ntmps67 rfl ?_
 refine T.q (L.m rfl (L.o (O.call (xs:=[.tmp 10,.func 121]) call120 rfl rfl (aP l w hll) (fun v1 w1 hq=>?_))))
 obtain ⟨A,rfl,hS1,he1⟩:=hq
 obtain ⟨d,hK⟩:=hI
 have hK1:=hK.ext he1
 rw [hf]
 rw [hf] at hS1
 refine L.a rfl (L.nil (T.seq (T.q (L.m rfl (L.o (O.len runUnderlying61 rfl (Sl.val hS1) (L.o (O.gX rfl rfl (by simp;omega) (L.nil (T.cf (T.skip (T.seq (?_)))))))))))))
 refine T.fJ mixed 6 [4] rfl [.is _,.is _,.is _,.is _,.is _,.is _] [[],[0],[1],[],[3],[2]] [[],[0],[0,1],[],[3],[0,1,2],[0,1,2,3,4,5]] (by kernel_rfl) (by kernel_rfl) rfl (by kernel_rfl) trivial ⟨fun wx hx=>Ob.o (O.move rfl kR),
   fun wx hx=>Ob.o (O.indexAddr runUnderlying61 sizeOf9 rfl rfl (hS1.ext hx) (by decide) (by simp) kR),
   fun wx hx=>Ob.o (O.load isAgg9 rfl ((hS1.ext hx).at (show 0<(bn::r).length by simp)) kR),
   fun wx hx=>Ob.o (O.move rfl kR),
   fun wx hx=>Ob.o (O.ji (l:=1) runUnderlying61 sizeOf9 rfl rfl hS1 (by simp) kR),
   fun wx hx=>Ob.o (O.assign rfl kR),
   trivial⟩ (fun w2 he2=>?_)
 have hR2:=bC (hS1.ext he2) rfl
 refine L.a rfl (L.nil (T.seq (T.q (L.m rfl (L.nil (T.block (T.q (L.o (O.aX runUnderlying9 rfl rfl rfl (L.a rfl (L.nil (T.ct (T.q (L.m rfl (L.o (O.buildSlice (el:=9) (parts:=[(0,_)]) (vs:=[(0,_)]) (cs:=([[]].map str)) rfl (fun w=>by kernel_rfl) (fun b25 w25 afI afJ y5 Dj=>?_)))))))))))))))))
 have hK3:=(hK1.ext he2).ext y5
 refine L.o (O.call (xs:=[.tmp 24,.tmp 25]) call68 rfl rfl (aW 0 _ [[]] b (aH d s) s.last w25 (Strs.ay Dj rfl (by decide) (Nat.zero_le _)) hK3.row rfl) (fun v3 w3 hq=>?_))
 obtain ⟨rfl,rfl⟩:=hq
 rw [decide_eq_false hlast]
 refine L.m rfl (L.p (L.p (L.p (L.o (O.aj rfl rfl (L.bJ (xs:=[.tmp 31]) rfl call108 rfl rfl (dG w3) (fun w' a hR ha=>⟨ha.defers,rfl,by rw [hR];exact (he1.trans he2).trans y5⟩)))))))
theorem wC (w0:World) (b:Nat) (s:PS) (S:Nat→Prop) (l:Str) (r:List Str) (w:World) (hI:RdI w0 b s S w) (hll:l.length≤100000) (hf:fieldsB l=aK::r) (hlast:s.last ∉ [bn,aK]) :
  Calls Tryz.prog 67 #[.pointer (some ⟨b,0,none⟩),str l] w (Pan (bQ) fun w'=>Ext w w'):=by
 refine T.fP (vs:=[.pointer (some ⟨b,0,none⟩),str l]) func67 rfl ntmps67 rfl ?_
 refine T.q (L.m rfl (L.o (O.call (xs:=[.tmp 10,.func 121]) call120 rfl rfl (aP l w hll) (fun v1 w1 hq=>?_))))
 obtain ⟨A,rfl,hS1,he1⟩:=hq
 obtain ⟨d,hK⟩:=hI
 have hK1:=hK.ext he1
 rw [hf]
 rw [hf] at hS1
 refine L.a rfl (L.nil (T.seq (T.q (L.m rfl (L.o (O.len runUnderlying61 rfl (Sl.val hS1) (L.o (O.gX rfl rfl (by simp;omega) (L.nil (T.cf (T.skip (T.seq (?_)))))))))))))
 refine T.fJ mixed 6 [4] rfl [.is _,.is _,.is _,.is _,.is _,.is _] [[],[0],[1],[],[3],[2]] [[],[0],[0,1],[],[3],[0,1,2],[0,1,2,3,4,5]] (by kernel_rfl) (by kernel_rfl) rfl (by kernel_rfl) trivial ⟨fun wx hx=>Ob.o (O.move rfl kR),
   fun wx hx=>Ob.o (O.indexAddr runUnderlying61 sizeOf9 rfl rfl (hS1.ext hx) (by decide) (by simp) kR),
   fun wx hx=>Ob.o (O.load isAgg9 rfl ((hS1.ext hx).at (show 0<(aK::r).length by simp)) kR),
   fun wx hx=>Ob.o (O.move rfl kR),
   fun wx hx=>Ob.o (O.ji (l:=1) runUnderlying61 sizeOf9 rfl rfl hS1 (by simp) kR),
   fun wx hx=>Ob.o (O.assign rfl kR),
   trivial⟩ (fun w2 he2=>?_)
 have hR2:=bC (hS1.ext he2) rfl
 refine L.a rfl (L.nil (T.seq (T.q (L.m rfl (L.nil (T.block (T.q (L.o (O.aA runUnderlying9 rfl rfl (show ¬ aK=bn by decide) (L.a rfl (L.nil (T.cf (T.q (L.o (O.aX runUnderlying9 rfl rfl rfl (L.a rfl (L.nil (T.ct (T.q (L.m rfl (L.o (O.buildSlice (el:=9) (parts:=[(0,_),(1,_)]) (vs:=[(0,_),(1,_)]) (cs:=([bn,aK].map str)) rfl (fun w=>by kernel_rfl) (fun b62 w62 afK afL Ee U4=>?_)))))))))))))))))))))))
 have hK3:=(hK1.ext he2).ext Ee
 refine L.o (O.call (xs:=[.tmp 61,.tmp 62]) call68 rfl rfl (aW 0 _ [bn,aK] b (aH d s) s.last w62 (Strs.ay U4 rfl (by decide) (Nat.zero_le _)) hK3.row rfl) (fun v3 w3 hq=>?_))
 obtain ⟨rfl,rfl⟩:=hq
 rw [decide_eq_false hlast]
 refine L.m rfl (L.p (L.p (L.p (L.o (O.aj rfl rfl (L.bJ (xs:=[.tmp 68]) rfl call108 rfl rfl (dG w3) (fun w' a hR ha=>⟨ha.defers,rfl,by rw [hR];exact (he1.trans he2).trans Ee⟩)))))))
theorem zf (w0:World) (b:Nat) (s:PS) (S:Nat→Prop) (l:Str) (r:List Str) (w:World) (hI:RdI w0 b s S w) (hll:l.length≤100000) (hf:fieldsB l=aY::r) (hlast:s.last ∉ [bn,aK,aY,aZ]) :
  Calls Tryz.prog 67 #[.pointer (some ⟨b,0,none⟩),str l] w (Pan (bQ) fun w'=>Ext w w'):=by
 refine T.fP (vs:=[.pointer (some ⟨b,0,none⟩),str l]) func67 rfl ntmps67 rfl ?_
 refine T.q (L.m rfl (L.o (O.call (xs:=[.tmp 10,.func 121]) call120 rfl rfl (aP l w hll) (fun v1 w1 hq=>?_))))
 obtain ⟨A,rfl,hS1,he1⟩:=hq
 obtain ⟨d,hK⟩:=hI
 have hK1:=hK.ext he1
 rw [hf]
 rw [hf] at hS1
 refine L.a rfl (L.nil (T.seq (T.q (L.m rfl (L.o (O.len runUnderlying61 rfl (Sl.val hS1) (L.o (O.gX rfl rfl (by simp;omega) (L.nil (T.cf (T.skip (T.seq (?_)))))))))))))
 refine T.fJ mixed 6 [4] rfl [.is _,.is _,.is _,.is _,.is _,.is _] [[],[0],[1],[],[3],[2]] [[],[0],[0,1],[],[3],[0,1,2],[0,1,2,3,4,5]] (by kernel_rfl) (by kernel_rfl) rfl (by kernel_rfl) trivial ⟨fun wx hx=>Ob.o (O.move rfl kR),
   fun wx hx=>Ob.o (O.indexAddr runUnderlying61 sizeOf9 rfl rfl (hS1.ext hx) (by decide) (by simp) kR),
   fun wx hx=>Ob.o (O.load isAgg9 rfl ((hS1.ext hx).at (show 0<(aY::r).length by simp)) kR),
   fun wx hx=>Ob.o (O.move rfl kR),
   fun wx hx=>Ob.o (O.ji (l:=1) runUnderlying61 sizeOf9 rfl rfl hS1 (by simp) kR),
   fun wx hx=>Ob.o (O.assign rfl kR),
   trivial⟩ (fun w2 he2=>?_)
 have hR2:=bC (hS1.ext he2) rfl
 refine L.a rfl (L.nil (T.seq (T.q (L.m rfl (L.nil (T.block (T.q (L.o (O.aA runUnderlying9 rfl rfl (show ¬ aY=bn by decide) (L.a rfl (L.nil (T.cf (T.q (L.o (O.aA runUnderlying9 rfl rfl (show ¬ aY=aK by decide) (L.a rfl (L.nil (T.cf (T.q (L.o (O.aX runUnderlying9 rfl rfl rfl (L.a rfl (?_)))))))))))))))))))))))
 refine L.nil (T.ct (T.q (L.m rfl (L.o (O.buildSlice (el:=9) (parts:=[(0,_),(1,_),(2,_),(3,_)]) (vs:=[(0,_),(1,_),(2,_),(3,_)]) (cs:=([bn,aK,aY,aZ].map str)) rfl (fun w=>by kernel_rfl) (fun b95 w95 ah0 ah1 UH acw=>?_))))))
 have hK3:=(hK1.ext he2).ext UH
 refine L.o (O.call (xs:=[.tmp 94,.tmp 95]) call68 rfl rfl (aW 0 _ [bn,aK,aY,aZ] b (aH d s) s.last w95 (Strs.ay acw rfl (by decide) (Nat.zero_le _)) hK3.row rfl) (fun v3 w3 hq=>?_))
 obtain ⟨rfl,rfl⟩:=hq
 rw [decide_eq_false hlast]
 refine L.bJ (xs:=[.tmp 96]) rfl call108 rfl rfl (dG w3) (fun w' a hR ha=>⟨ha.defers,rfl,by rw [hR];exact (he1.trans he2).trans UH⟩)
theorem zh (w0:World) (b:Nat) (s:PS) (S:Nat→Prop) (l:Str) (r:List Str) (w:World) (hI:RdI w0 b s S w) (hll:l.length≤100000) (hf:fieldsB l=aZ::r) (hlast:s.last ∉ [aY,aZ]) :
  Calls Tryz.prog 67 #[.pointer (some ⟨b,0,none⟩),str l] w (Pan (bQ) fun w'=>Ext w w'):=by
 refine T.fP (vs:=[.pointer (some ⟨b,0,none⟩),str l]) func67 rfl ntmps67 rfl ?_
 refine T.q (L.m rfl (L.o (O.call (xs:=[.tmp 10,.func 121]) call120 rfl rfl (aP l w hll) (fun v1 w1 hq=>?_))))
 obtain ⟨A,rfl,hS1,he1⟩:=hq
 obtain ⟨d,hK⟩:=hI
 have hK1:=hK.ext he1
 rw [hf]
 rw [hf] at hS1
 refine L.a rfl (L.nil (T.seq (T.q (L.m rfl (L.o (O.len runUnderlying61 rfl (Sl.val hS1) (L.o (O.gX rfl rfl (by simp;omega) (L.nil (T.cf (T.skip (T.seq (?_)))))))))))))
 refine T.fJ mixed 6 [4] rfl [.is _,.is _,.is _,.is _,.is _,.is _] [[],[0],[1],[],[3],[2]] [[],[0],[0,1],[],[3],[0,1,2],[0,1,2,3,4,5]] (by kernel_rfl) (by kernel_rfl) rfl (by kernel_rfl) trivial ⟨fun wx hx=>Ob.o (O.move rfl kR),
   fun wx hx=>Ob.o (O.indexAddr runUnderlying61 sizeOf9 rfl rfl (hS1.ext hx) (by decide) (by simp) kR),
   fun wx hx=>Ob.o (O.load isAgg9 rfl ((hS1.ext hx).at (show 0<(aZ::r).length by simp)) kR),
   fun wx hx=>Ob.o (O.move rfl kR),
   fun wx hx=>Ob.o (O.ji (l:=1) runUnderlying61 sizeOf9 rfl rfl hS1 (by simp) kR),
   fun wx hx=>Ob.o (O.assign rfl kR),
   trivial⟩ (fun w2 he2=>?_)
 have hR2:=bC (hS1.ext he2) rfl
 refine L.a rfl (L.nil (T.seq (T.q (L.m rfl (L.nil (T.block (T.q (L.o (O.aA runUnderlying9 rfl rfl (show ¬ aZ=bn by decide) (L.a rfl (L.nil (T.cf (T.q (L.o (O.aA runUnderlying9 rfl rfl (show ¬ aZ=aK by decide) (L.a rfl (L.nil (T.cf (T.q (L.o (O.aA runUnderlying9 rfl rfl (show ¬ aZ=aY by decide) (L.a rfl (?_)))))))))))))))))))))))
 refine L.nil (T.cf (T.q (L.o (O.aX runUnderlying9 rfl rfl rfl (L.a rfl (L.nil (T.ct (T.q (L.m rfl (L.o (O.buildSlice (el:=9) (parts:=[(0,_),(1,_)]) (vs:=[(0,_),(1,_)]) (cs:=([aY,aZ].map str)) rfl (fun w=>by kernel_rfl) (fun ah3 SK acA Zu wB JX=>?_))))))))))))
 have hK3:=(hK1.ext he2).ext wB
 refine L.o (O.call (xs:=[.tmp 116,.tmp 117]) call68 rfl rfl (aW 0 _ [aY,aZ] b (aH d s) s.last SK (Strs.ay JX rfl (by decide) (Nat.zero_le _)) hK3.row rfl) (fun v3 w3 hq=>?_))
 obtain ⟨rfl,rfl⟩:=hq
 rw [decide_eq_false hlast]
 refine L.bJ (xs:=[.tmp 118]) rfl call108 rfl rfl (dG w3) (fun w' a hR ha=>⟨ha.defers,rfl,by rw [hR];exact (he1.trans he2).trans wB⟩)
theorem wE (w0:World) (b:Nat) (s:PS) (S:Nat→Prop) (l:Str) (r:List Str) (w:World) (hI:RdI w0 b s S w) (hll:l.length≤100000) (hf:fieldsB l=bK::r) (hlast:s.last ∈ [[],fA]) :
  Calls Tryz.prog 67 #[.pointer (some ⟨b,0,none⟩),str l] w (Pan (bQ) fun w'=>Ext w w'):=by
 refine T.fP (vs:=[.pointer (some ⟨b,0,none⟩),str l]) func67 rfl ntmps67 rfl ?_
 refine T.q (L.m rfl (L.o (O.call (xs:=[.tmp 10,.func 121]) call120 rfl rfl (aP l w hll) (fun v1 w1 hq=>?_))))
 obtain ⟨A,rfl,hS1,he1⟩:=hq
 obtain ⟨d,hK⟩:=hI
 have hK1:=hK.ext he1
 rw [hf]
 rw [hf] at hS1
 refine L.a rfl (L.nil (T.seq (T.q (L.m rfl (L.o (O.len runUnderlying61 rfl (Sl.val hS1) (L.o (O.gX rfl rfl (by simp;omega) (L.nil (T.cf (T.skip (T.seq (?_)))))))))))))
 refine T.fJ mixed 6 [4] rfl [.is _,.is _,.is _,.is _,.is _,.is _] [[],[0],[1],[],[3],[2]] [[],[0],[0,1],[],[3],[0,1,2],[0,1,2,3,4,5]] (by kernel_rfl) (by kernel_rfl) rfl (by kernel_rfl) trivial ⟨fun wx hx=>Ob.o (O.move rfl kR),
   fun wx hx=>Ob.o (O.indexAddr runUnderlying61 sizeOf9 rfl rfl (hS1.ext hx) (by decide) (by simp) kR),
   fun wx hx=>Ob.o (O.load isAgg9 rfl ((hS1.ext hx).at (show 0<(bK::r).length by simp)) kR),
   fun wx hx=>Ob.o (O.move rfl kR),
   fun wx hx=>Ob.o (O.ji (l:=1) runUnderlying61 sizeOf9 rfl rfl hS1 (by simp) kR),
   fun wx hx=>Ob.o (O.assign rfl kR),
   trivial⟩ (fun w2 he2=>?_)
 have hR2:=bC (hS1.ext he2) rfl
 refine L.a rfl (L.nil (T.seq (T.q (L.m rfl (L.nil (T.block (T.q (L.o (O.aA runUnderlying9 rfl rfl (show ¬ bK=bn by decide) (L.a rfl (L.nil (T.cf (T.q (L.o (O.aA runUnderlying9 rfl rfl (show ¬ bK=aK by decide) (L.a rfl (L.nil (T.cf (T.q (L.o (O.aA runUnderlying9 rfl rfl (show ¬ bK=aY by decide) (L.a rfl (?_)))))))))))))))))))))))
 refine L.nil (T.cf (T.q (L.o (O.aA runUnderlying9 rfl rfl (show ¬ bK=aZ by decide) (L.a rfl (L.nil (T.cf (T.q (L.o (O.aX runUnderlying9 rfl rfl rfl (L.a rfl (L.nil (T.ct (T.q (L.m rfl (L.o (O.buildSlice (el:=9) (parts:=[(0,_),(1,_)]) (vs:=[(0,_),(1,_)]) (cs:=([[],fA].map str)) rfl (fun w=>by kernel_rfl) (fun ah4 acB acC acD Ai Ti=>?_))))))))))))))))))
 have hK3:=(hK1.ext he2).ext Ai
 refine L.o (O.call (xs:=[.tmp 148,.tmp 149]) call68 rfl rfl (aW 0 _ [[],fA] b (aH d s) s.last acB (Strs.ay Ti rfl (by decide) (Nat.zero_le _)) hK3.row rfl) (fun v3 w3 hq=>?_))
 obtain ⟨rfl,rfl⟩:=hq
 rw [decide_eq_true hlast]
 refine L.o (O.not rfl (L.bJ (xs:=[.tmp 151]) rfl call108 rfl rfl (dG w3) (fun w' a hR ha=>⟨ha.defers,rfl,by rw [hR];exact (he1.trans he2).trans Ai⟩)))
theorem Aj (w0:World) (b:Nat) (s:PS) (S:Nat→Prop) (l:Str) (r:List Str) (w:World) (hI:RdI w0 b s S w) (hll:l.length≤100000) (hf:fieldsB l=fA::r) (hlast:s.last ∈ [[],fA]) :
  Calls Tryz.prog 67 #[.pointer (some ⟨b,0,none⟩),str l] w (Pan (bQ) fun w'=>Ext w w'):=by
 refine T.fP (vs:=[.pointer (some ⟨b,0,none⟩),str l]) func67 rfl ntmps67 rfl ?_
 refine T.q (L.m rfl (L.o (O.call (xs:=[.tmp 10,.func 121]) call120 rfl rfl (aP l w hll) (fun v1 w1 hq=>?_))))
 obtain ⟨A,rfl,hS1,he1⟩:=hq
 obtain ⟨d,hK⟩:=hI
 have hK1:=hK.ext he1
 rw [hf]
 rw [hf] at hS1
 refine L.a rfl (L.nil (T.seq (T.q (L.m rfl (L.o (O.len runUnderlying61 rfl (Sl.val hS1) (L.o (O.gX rfl rfl (by simp;omega) (L.nil (T.cf (T.skip (T.seq (?_)))))))))))))
 refine T.fJ mixed 6 [4] rfl [.is _,.is _,.is _,.is _,.is _,.is _] [[],[0],[1],[],[3],[2]] [[],[0],[0,1],[],[3],[0,1,2],[0,1,2,3,4,5]] (by kernel_rfl) (by kernel_rfl) rfl (by kernel_rfl) trivial ⟨fun wx hx=>Ob.o (O.move rfl kR),
   fun wx hx=>Ob.o (O.indexAddr runUnderlying61 sizeOf9 rfl rfl (hS1.ext hx) (by decide) (by simp) kR),
   fun wx hx=>Ob.o (O.load isAgg9 rfl ((hS1.ext hx).at (show 0<(fA::r).length by simp)) kR),
   fun wx hx=>Ob.o (O.move rfl kR),
   fun wx hx=>Ob.o (O.ji (l:=1) runUnderlying61 sizeOf9 rfl rfl hS1 (by simp) kR),
   fun wx hx=>Ob.o (O.assign rfl kR),
   trivial⟩ (fun w2 he2=>?_)
 have hR2:=bC (hS1.ext he2) rfl
 refine L.a rfl (L.nil (T.seq (T.q (L.m rfl (L.nil (T.block (T.q (L.o (O.aA runUnderlying9 rfl rfl (show ¬ fA=bn by decide) (L.a rfl (L.nil (T.cf (T.q (L.o (O.aA runUnderlying9 rfl rfl (show ¬ fA=aK by decide) (L.a rfl (L.nil (T.cf (T.q (L.o (O.aA runUnderlying9 rfl rfl (show ¬ fA=aY by decide) (L.a rfl (?_)))))))))))))))))))))))
 refine L.nil (T.cf (T.q (L.o (O.aA runUnderlying9 rfl rfl (show ¬ fA=aZ by decide) (L.a rfl (L.nil (T.cf (T.q (L.o (O.aA runUnderlying9 rfl rfl (show ¬ fA=bK by decide) (L.a rfl (L.nil (T.cf (T.q (L.o (O.aX runUnderlying9 rfl rfl rfl (L.a rfl (L.nil (T.ct (T.region (L.m rfl (L.o (O.buildSlice (el:=9) (parts:=[(0,_),(1,_)]) (vs:=[(0,_),(1,_)]) (cs:=([[],fA].map str)) rfl (fun w=>by kernel_rfl) (fun ahU acn aco acp Ah SS=>?_))))))))))))))))))))))))
 have hK3:=(hK1.ext he2).ext Ah
 refine L.o (O.call (xs:=[.tmp 158,.tmp 159]) call68 rfl rfl (aW 0 _ [[],fA] b (aH d s) s.last acn (Strs.ay SS rfl (by decide) (Nat.zero_le _)) hK3.row rfl) (fun v3 w3 hq=>?_))
 obtain ⟨rfl,rfl⟩:=hq
 rw [decide_eq_true hlast]
 refine L.o (O.not rfl (L.m rfl (L.p (L.p (L.p (L.o (O.aj rfl rfl (L.bJ (xs:=[.tmp 166]) rfl call108 rfl rfl (dG w3) (fun w' a hR ha=>⟨ha.defers,rfl,by rw [hR];exact (he1.trans he2).trans Ah⟩)))))))))
open Go Go.E RowKit
theorem zi (w0:World) (b:Nat) (s:PS) (S:Nat→Prop) (l:Str) (r:List Str) (w:World) (hI:RdI w0 b s S w) (hll:l.length≤100000) (hf:fieldsB l=bn::r) (hlast:s.last ∈ [[]]) (hr:¬ r.length=3) :
  Calls Tryz.prog 67 #[.pointer (some ⟨b,0,none⟩),str l] w (Pan (bQ) fun w'=>Ext w w'):=by
 refine T.fP (vs:=[.pointer (some ⟨b,0,none⟩),str l]) func67 rfl ntmps67 rfl ?_
 refine T.q (L.m rfl (L.o (O.call (xs:=[.tmp 10,.func 121]) call120 rfl rfl (aP l w hll) (fun v1 w1 hq=>?_))))
 obtain ⟨A,rfl,hS1,he1⟩:=hq
 obtain ⟨d,hK⟩:=hI
 have hK1:=hK.ext he1
 rw [hf]
 rw [hf] at hS1
 refine L.a rfl (L.nil (T.seq (T.q (L.m rfl (L.o (O.len runUnderlying61 rfl (Sl.val hS1) (L.o (O.gX rfl rfl (by simp;omega) (L.nil (T.cf (T.skip (T.seq (?_)))))))))))))
 refine T.fJ mixed 6 [4] rfl [.is _,.is _,.is _,.is _,.is _,.is _] [[],[0],[1],[],[3],[2]] [[],[0],[0,1],[],[3],[0,1,2],[0,1,2,3,4,5]] (by kernel_rfl) (by kernel_rfl) rfl (by kernel_rfl) trivial ⟨fun wx hx=>Ob.o (O.move rfl kR),
   fun wx hx=>Ob.o (O.indexAddr runUnderlying61 sizeOf9 rfl rfl (hS1.ext hx) (by decide) (by simp) kR),
   fun wx hx=>Ob.o (O.load isAgg9 rfl ((hS1.ext hx).at (show 0<(bn::r).length by simp)) kR),
   fun wx hx=>Ob.o (O.move rfl kR),
   fun wx hx=>Ob.o (O.ji (l:=1) runUnderlying61 sizeOf9 rfl rfl hS1 (by simp) kR),
   fun wx hx=>Ob.o (O.assign rfl kR),
   trivial⟩ (fun w2 he2=>?_)
 have hR2:=bC (hS1.ext he2) rfl
 refine L.a rfl (L.nil (T.seq (T.q (L.m rfl (L.nil (T.block (T.q (L.o (O.aX runUnderlying9 rfl rfl rfl (L.a rfl (L.nil (T.ct (T.q (L.m rfl (L.o (O.buildSlice (el:=9) (parts:=[(0,_)]) (vs:=[(0,_)]) (cs:=([[]].map str)) rfl (fun w=>by kernel_rfl) (fun b25 w25 afI afJ y5 Dj=>?_)))))))))))))))))
 have hK3:=(hK1.ext he2).ext y5
 refine L.o (O.call (xs:=[.tmp 24,.tmp 25]) call68 rfl rfl (aW 0 _ [[]] b (aH d s) s.last w25 (Strs.ay Dj rfl (by decide) (Nat.zero_le _)) hK3.row rfl) (fun v3 w3 hq=>?_))
 obtain ⟨rfl,rfl⟩:=hq
 rw [decide_eq_true hlast]
 refine L.m rfl (L.m rfl (L.o (O.len runUnderlying61 rfl (Sl.val (hR2.ext y5)) (L.o (O.gX rfl rfl (by omega) (L.o (O.ah rfl rfl (L.bJ (xs:=[.tmp 31]) rfl call108 rfl rfl (dG w3) (fun w' a hR ha=>⟨ha.defers,rfl,by rw [hR];exact (he1.trans he2).trans y5⟩)))))))))
theorem Ak (w0:World) (b:Nat) (s:PS) (S:Nat→Prop) (l:Str) (r:List Str) (w:World) (hI:RdI w0 b s S w) (hll:l.length≤100000) (hf:fieldsB l=bn::r) (hlast:s.last ∈ [[]]) (hr:r.length=3) (hL:jc w) (hn:dV r=none) :
  Calls Tryz.prog 67 #[.pointer (some ⟨b,0,none⟩),str l] w (Pan (bQ) fun w'=>Ext w w'):=by
 refine T.fP (vs:=[.pointer (some ⟨b,0,none⟩),str l]) func67 rfl ntmps67 rfl ?_
 refine T.q (L.m rfl (L.o (O.call (xs:=[.tmp 10,.func 121]) call120 rfl rfl (aP l w hll) (fun v1 w1 hq=>?_))))
 obtain ⟨A,rfl,hS1,he1⟩:=hq
 obtain ⟨d,hK⟩:=hI
 have hK1:=hK.ext he1
 rw [hf]
 rw [hf] at hS1
 refine L.a rfl (L.nil (T.seq (T.q (L.m rfl (L.o (O.len runUnderlying61 rfl (Sl.val hS1) (L.o (O.gX rfl rfl (by simp;omega) (L.nil (T.cf (T.skip (T.seq (?_)))))))))))))
 refine T.fJ mixed 6 [4] rfl [.is _,.is _,.is _,.is _,.is _,.is _] [[],[0],[1],[],[3],[2]] [[],[0],[0,1],[],[3],[0,1,2],[0,1,2,3,4,5]] (by kernel_rfl) (by kernel_rfl) rfl (by kernel_rfl) trivial ⟨fun wx hx=>Ob.o (O.move rfl kR),
   fun wx hx=>Ob.o (O.indexAddr runUnderlying61 sizeOf9 rfl rfl (hS1.ext hx) (by decide) (by simp) kR),
   fun wx hx=>Ob.o (O.load isAgg9 rfl ((hS1.ext hx).at (show 0<(bn::r).length by simp)) kR),
   fun wx hx=>Ob.o (O.move rfl kR),
   fun wx hx=>Ob.o (O.ji (l:=1) runUnderlying61 sizeOf9 rfl rfl hS1 (by simp) kR),
   fun wx hx=>Ob.o (O.assign rfl kR),
   trivial⟩ (fun w2 he2=>?_)
 have hR2:=bC (hS1.ext he2) rfl
 refine L.a rfl (L.nil (T.seq (T.q (L.m rfl (L.nil (T.block (T.q (L.o (O.aX runUnderlying9 rfl rfl rfl (L.a rfl (L.nil (T.ct (T.q (L.m rfl (L.o (O.buildSlice (el:=9) (parts:=[(0,_)]) (vs:=[(0,_)]) (cs:=([[]].map str)) rfl (fun w=>by kernel_rfl) (fun b25 w25 afI afJ y5 Dj=>?_)))))))))))))))))
 have hK3:=(hK1.ext he2).ext y5
 refine L.o (O.call (xs:=[.tmp 24,.tmp 25]) call68 rfl rfl (aW 0 _ [[]] b (aH d s) s.last w25 (Strs.ay Dj rfl (by decide) (Nat.zero_le _)) hK3.row rfl) (fun v3 w3 hq=>?_))
 obtain ⟨rfl,rfl⟩:=hq
 rw [decide_eq_true hlast]
 refine L.m rfl (L.m rfl (L.o (O.len runUnderlying61 rfl (Sl.val (hR2.ext y5)) (L.o (O.iF rfl rfl (by omega) (L.o (O.ah rfl rfl (L.o (O.call (xs:=[.tmp 31]) call108 rfl rfl (dK w3) (fun v4 w4 hq=>?_))))))))))
 obtain rfl:=hq
 refine L.nil (T.q (L.m rfl (L.bJ (xs:=[.tmp 33]) rfl call122 rfl rfl (kQ _ _ r w4 (hR2.ext y5) (hL.ext ((he1.trans he2).trans y5)) (dh hll hf) hn (by omega)) (fun w' a hR ha=>⟨ha.defers,rfl,((he1.trans he2).trans y5).trans hR⟩))))
theorem wF (w0:World) (b:Nat) (s:PS) (S:Nat→Prop) (l:Str) (r:List Str) (w:World) (hI:RdI w0 b s S w) (hll:l.length≤100000) (hf:fieldsB l=aK::r) (hlast:s.last ∈ [bn,aK]) (hr:¬ r.length=2) :
  Calls Tryz.prog 67 #[.pointer (some ⟨b,0,none⟩),str l] w (Pan (bQ) fun w'=>Ext w w'):=by
 refine T.fP (vs:=[.pointer (some ⟨b,0,none⟩),str l]) func67 rfl ntmps67 rfl ?_
 refine T.q (L.m rfl (L.o (O.call (xs:=[.tmp 10,.func 121]) call120 rfl rfl (aP l w hll) (fun v1 w1 hq=>?_))))
 obtain ⟨A,rfl,hS1,he1⟩:=hq
 obtain ⟨d,hK⟩:=hI
 have hK1:=hK.ext he1
 rw [hf]
 rw [hf] at hS1
 refine L.a rfl (L.nil (T.seq (T.q (L.m rfl (L.o (O.len runUnderlying61 rfl (Sl.val hS1) (L.o (O.gX rfl rfl (by simp;omega) (L.nil (T.cf (T.skip (T.seq (?_)))))))))))))
 refine T.fJ mixed 6 [4] rfl [.is _,.is _,.is _,.is _,.is _,.is _] [[],[0],[1],[],[3],[2]] [[],[0],[0,1],[],[3],[0,1,2],[0,1,2,3,4,5]] (by kernel_rfl) (by kernel_rfl) rfl (by kernel_rfl) trivial ⟨fun wx hx=>Ob.o (O.move rfl kR),
   fun wx hx=>Ob.o (O.indexAddr runUnderlying61 sizeOf9 rfl rfl (hS1.ext hx) (by decide) (by simp) kR),
   fun wx hx=>Ob.o (O.load isAgg9 rfl ((hS1.ext hx).at (show 0<(aK::r).length by simp)) kR),
   fun wx hx=>Ob.o (O.move rfl kR),
   fun wx hx=>Ob.o (O.ji (l:=1) runUnderlying61 sizeOf9 rfl rfl hS1 (by simp) kR),
   fun wx hx=>Ob.o (O.assign rfl kR),
   trivial⟩ (fun w2 he2=>?_)
 have hR2:=bC (hS1.ext he2) rfl
 refine L.a rfl (L.nil (T.seq (T.q (L.m rfl (L.nil (T.block (T.q (L.o (O.aA runUnderlying9 rfl rfl (show ¬ aK=bn by decide) (L.a rfl (L.nil (T.cf (T.q (L.o (O.aX runUnderlying9 rfl rfl rfl (L.a rfl (L.nil (T.ct (T.q (L.m rfl (L.o (O.buildSlice (el:=9) (parts:=[(0,_),(1,_)]) (vs:=[(0,_),(1,_)]) (cs:=([bn,aK].map str)) rfl (fun w=>by kernel_rfl) (fun b62 w62 afK afL Ee U4=>?_)))))))))))))))))))))))
 have hK3:=(hK1.ext he2).ext Ee
 refine L.o (O.call (xs:=[.tmp 61,.tmp 62]) call68 rfl rfl (aW 0 _ [bn,aK] b (aH d s) s.last w62 (Strs.ay U4 rfl (by decide) (Nat.zero_le _)) hK3.row rfl) (fun v3 w3 hq=>?_))
 obtain ⟨rfl,rfl⟩:=hq
 rw [decide_eq_true hlast]
 refine L.m rfl (L.m rfl (L.o (O.len runUnderlying61 rfl (Sl.val (hR2.ext Ee)) (L.o (O.gX rfl rfl (by omega) (L.o (O.ah rfl rfl (L.bJ (xs:=[.tmp 68]) rfl call108 rfl rfl (dG w3) (fun w' a hR ha=>⟨ha.defers,rfl,by rw [hR];exact (he1.trans he2).trans Ee⟩)))))))))
theorem zk (w0:World) (b:Nat) (s:PS) (S:Nat→Prop) (l:Str) (r:List Str) (w:World) (hI:RdI w0 b s S w) (hll:l.length≤100000) (hf:fieldsB l=aK::r) (hlast:s.last ∈ [bn,aK]) (hr:r.length=2) (hL:jc w) (hn:dV r=none) :
  Calls Tryz.prog 67 #[.pointer (some ⟨b,0,none⟩),str l] w (Pan (bQ) fun w'=>Ext w w'):=by
 refine T.fP (vs:=[.pointer (some ⟨b,0,none⟩),str l]) func67 rfl ntmps67 rfl ?_
 refine T.q (L.m rfl (L.o (O.call (xs:=[.tmp 10,.func 121]) call120 rfl rfl (aP l w hll) (fun v1 w1 hq=>?_))))
 obtain ⟨A,rfl,hS1,he1⟩:=hq
 obtain ⟨d,hK⟩:=hI
 have hK1:=hK.ext he1
 rw [hf]
 rw [hf] at hS1
 refine L.a rfl (L.nil (T.seq (T.q (L.m rfl (L.o (O.len runUnderlying61 rfl (Sl.val hS1) (L.o (O.gX rfl rfl (by simp;omega) (L.nil (T.cf (T.skip (T.seq (?_)))))))))))))
 refine T.fJ mixed 6 [4] rfl [.is _,.is _,.is _,.is _,.is _,.is _] [[],[0],[1],[],[3],[2]] [[],[0],[0,1],[],[3],[0,1,2],[0,1,2,3,4,5]] (by kernel_rfl) (by kernel_rfl) rfl (by kernel_rfl) trivial ⟨fun wx hx=>Ob.o (O.move rfl kR),
   fun wx hx=>Ob.o (O.indexAddr runUnderlying61 sizeOf9 rfl rfl (hS1.ext hx) (by decide) (by simp) kR),
   fun wx hx=>Ob.o (O.load isAgg9 rfl ((hS1.ext hx).at (show 0<(aK::r).length by simp)) kR),
   fun wx hx=>Ob.o (O.move rfl kR),
   fun wx hx=>Ob.o (O.ji (l:=1) runUnderlying61 sizeOf9 rfl rfl hS1 (by simp) kR),
   fun wx hx=>Ob.o (O.assign rfl kR),
   trivial⟩ (fun w2 he2=>?_)
 have hR2:=bC (hS1.ext he2) rfl
 refine L.a rfl (L.nil (T.seq (T.q (L.m rfl (L.nil (T.block (T.q (L.o (O.aA runUnderlying9 rfl rfl (show ¬ aK=bn by decide) (L.a rfl (L.nil (T.cf (T.q (L.o (O.aX runUnderlying9 rfl rfl rfl (L.a rfl (L.nil (T.ct (T.q (L.m rfl (L.o (O.buildSlice (el:=9) (parts:=[(0,_),(1,_)]) (vs:=[(0,_),(1,_)]) (cs:=([bn,aK].map str)) rfl (fun w=>by kernel_rfl) (fun b62 w62 afK afL Ee U4=>?_)))))))))))))))))))))))
 have hK3:=(hK1.ext he2).ext Ee
 refine L.o (O.call (xs:=[.tmp 61,.tmp 62]) call68 rfl rfl (aW 0 _ [bn,aK] b (aH d s) s.last w62 (Strs.ay U4 rfl (by decide) (Nat.zero_le _)) hK3.row rfl) (fun v3 w3 hq=>?_))
 obtain ⟨rfl,rfl⟩:=hq
 rw [decide_eq_true hlast]
 refine L.m rfl (L.m rfl (L.o (O.len runUnderlying61 rfl (Sl.val (hR2.ext Ee)) (L.o (O.iF rfl rfl (by omega) (L.o (O.ah rfl rfl (L.o (O.call (xs:=[.tmp 68]) call108 rfl rfl (dK w3) (fun v4 w4 hq=>?_))))))))))
 obtain rfl:=hq
 refine L.nil (T.q (L.m rfl (L.bJ (xs:=[.tmp 70]) rfl call122 rfl rfl (kQ _ _ r w4 (hR2.ext Ee) (hL.ext ((he1.trans he2).trans Ee)) (dh hll hf) hn (by omega)) (fun w' a hR ha=>⟨ha.defers,rfl,((he1.trans he2).trans Ee).trans hR⟩))))
theorem Am (w0:World) (b:Nat) (s:PS) (S:Nat→Prop) (l:Str) (r:List Str) (w:World) (hI:RdI w0 b s S w) (hll:l.length≤100000) (hf:fieldsB l=fA::r) (hlast:s.last ∉ [[],fA]) (hr:¬ r.length=0) :
  Calls Tryz.prog 67 #[.pointer (some ⟨b,0,none⟩),str l] w (Pan (bQ) fun w'=>Ext w w'):=by
 refine T.fP (vs:=[.pointer (some ⟨b,0,none⟩),str l]) func67 rfl ntmps67 rfl ?_
 refine T.q (L.m rfl (L.o (O.call (xs:=[.tmp 10,.func 121]) call120 rfl rfl (aP l w hll) (fun v1 w1 hq=>?_))))
 obtain ⟨A,rfl,hS1,he1⟩:=hq
 obtain ⟨d,hK⟩:=hI
 have hK1:=hK.ext he1
 rw [hf]
 rw [hf] at hS1
 refine L.a rfl (L.nil (T.seq (T.q (L.m rfl (L.o (O.len runUnderlying61 rfl (Sl.val hS1) (L.o (O.gX rfl rfl (by simp;omega) (L.nil (T.cf (T.skip (T.seq (?_)))))))))))))
 refine T.fJ mixed 6 [4] rfl [.is _,.is _,.is _,.is _,.is _,.is _] [[],[0],[1],[],[3],[2]] [[],[0],[0,1],[],[3],[0,1,2],[0,1,2,3,4,5]] (by kernel_rfl) (by kernel_rfl) rfl (by kernel_rfl) trivial ⟨fun wx hx=>Ob.o (O.move rfl kR),
   fun wx hx=>Ob.o (O.indexAddr runUnderlying61 sizeOf9 rfl rfl (hS1.ext hx) (by decide) (by simp) kR),
   fun wx hx=>Ob.o (O.load isAgg9 rfl ((hS1.ext hx).at (show 0<(fA::r).length by simp)) kR),
   fun wx hx=>Ob.o (O.move rfl kR),
   fun wx hx=>Ob.o (O.ji (l:=1) runUnderlying61 sizeOf9 rfl rfl hS1 (by simp) kR),
   fun wx hx=>Ob.o (O.assign rfl kR),
   trivial⟩ (fun w2 he2=>?_)
 have hR2:=bC (hS1.ext he2) rfl
 refine L.a rfl (L.nil (T.seq (T.q (L.m rfl (L.nil (T.block (T.q (L.o (O.aA runUnderlying9 rfl rfl (show ¬ fA=bn by decide) (L.a rfl (L.nil (T.cf (T.q (L.o (O.aA runUnderlying9 rfl rfl (show ¬ fA=aK by decide) (L.a rfl (L.nil (T.cf (T.q (L.o (O.aA runUnderlying9 rfl rfl (show ¬ fA=aY by decide) (L.a rfl (?_)))))))))))))))))))))))
 refine L.nil (T.cf (T.q (L.o (O.aA runUnderlying9 rfl rfl (show ¬ fA=aZ by decide) (L.a rfl (L.nil (T.cf (T.q (L.o (O.aA runUnderlying9 rfl rfl (show ¬ fA=bK by decide) (L.a rfl (L.nil (T.cf (T.q (L.o (O.aX runUnderlying9 rfl rfl rfl (L.a rfl (L.nil (T.ct (T.region (L.m rfl (L.o (O.buildSlice (el:=9) (parts:=[(0,_),(1,_)]) (vs:=[(0,_),(1,_)]) (cs:=([[],fA].map str)) rfl (fun w=>by kernel_rfl) (fun ahU acn aco acp Ah SS=>?_))))))))))))))))))))))))
 have hK3:=(hK1.ext he2).ext Ah
 refine L.o (O.call (xs:=[.tmp 158,.tmp 159]) call68 rfl rfl (aW 0 _ [[],fA] b (aH d s) s.last acn (Strs.ay SS rfl (by decide) (Nat.zero_le _)) hK3.row rfl) (fun v3 w3 hq=>?_))
 obtain ⟨rfl,rfl⟩:=hq
 rw [decide_eq_false hlast]
 refine L.o (O.not rfl (L.m rfl (L.m rfl (L.o (O.len runUnderlying61 rfl (Sl.val (hR2.ext Ah)) (L.o (O.gX rfl rfl (by omega) (L.o (O.ah rfl rfl (L.bJ (xs:=[.tmp 166]) rfl call108 rfl rfl (dG w3) (fun w' a hR ha=>⟨ha.defers,rfl,by rw [hR];exact (he1.trans he2).trans Ah⟩)))))))))))
open Go Go.E RowKit
theorem Ap (w0:World) (b:Nat) (s:PS) (S:Nat→Prop) (l:Str) (r:List Str) (w:World) (hI:RdI w0 b s S w) (hll:l.length≤100000) (hf:fieldsB l=aY::r) (hlast:s.last ∈ [bn,aK,aY,aZ]) (hL:jc w) (hn:dV r=none) (hr:r.length≤100000) :
  Calls Tryz.prog 67 #[.pointer (some ⟨b,0,none⟩),str l] w (Pan (bQ) fun w'=>Ext w w'):=by
 refine T.fP (vs:=[.pointer (some ⟨b,0,none⟩),str l]) func67 rfl ntmps67 rfl ?_
 refine T.q (L.m rfl (L.o (O.call (xs:=[.tmp 10,.func 121]) call120 rfl rfl (aP l w hll) (fun v1 w1 hq=>?_))))
 obtain ⟨A,rfl,hS1,he1⟩:=hq
 obtain ⟨d,hK⟩:=hI
 have hK1:=hK.ext he1
 rw [hf]
 rw [hf] at hS1
 refine L.a rfl (L.nil (T.seq (T.q (L.m rfl (L.o (O.len runUnderlying61 rfl (Sl.val hS1) (L.o (O.gX rfl rfl (by simp;omega) (L.nil (T.cf (T.skip (T.seq (?_)))))))))))))
 refine T.fJ mixed 6 [4] rfl [.is _,.is _,.is _,.is _,.is _,.is _] [[],[0],[1],[],[3],[2]] [[],[0],[0,1],[],[3],[0,1,2],[0,1,2,3,4,5]] (by kernel_rfl) (by kernel_rfl) rfl (by kernel_rfl) trivial ⟨fun wx hx=>Ob.o (O.move rfl kR),
   fun wx hx=>Ob.o (O.indexAddr runUnderlying61 sizeOf9 rfl rfl (hS1.ext hx) (by decide) (by simp) kR),
   fun wx hx=>Ob.o (O.load isAgg9 rfl ((hS1.ext hx).at (show 0<(aY::r).length by simp)) kR),
   fun wx hx=>Ob.o (O.move rfl kR),
   fun wx hx=>Ob.o (O.ji (l:=1) runUnderlying61 sizeOf9 rfl rfl hS1 (by simp) kR),
   fun wx hx=>Ob.o (O.assign rfl kR),
   trivial⟩ (fun w2 he2=>?_)
 have hR2:=bC (hS1.ext he2) rfl
 refine L.a rfl (L.nil (T.seq (T.q (L.m rfl (L.nil (T.block (T.q (L.o (O.aA runUnderlying9 rfl rfl (show ¬ aY=bn by decide) (L.a rfl (L.nil (T.cf (T.q (L.o (O.aA runUnderlying9 rfl rfl (show ¬ aY=aK by decide) (L.a rfl (L.nil (T.cf (T.q (L.o (O.aX runUnderlying9 rfl rfl rfl (L.a rfl (?_)))))))))))))))))))))))
 refine L.nil (T.ct (T.q (L.m rfl (L.o (O.buildSlice (el:=9) (parts:=[(0,_),(1,_),(2,_),(3,_)]) (vs:=[(0,_),(1,_),(2,_),(3,_)]) (cs:=([bn,aK,aY,aZ].map str)) rfl (fun w=>by kernel_rfl) (fun b95 w95 ah0 ah1 UH acw=>?_))))))
 have hK3:=(hK1.ext he2).ext UH
 refine L.o (O.call (xs:=[.tmp 94,.tmp 95]) call68 rfl rfl (aW 0 _ [bn,aK,aY,aZ] b (aH d s) s.last w95 (Strs.ay acw rfl (by decide) (Nat.zero_le _)) hK3.row rfl) (fun v3 w3 hq=>?_))
 obtain ⟨rfl,rfl⟩:=hq
 rw [decide_eq_true hlast]
 refine L.o (O.call (xs:=[.tmp 96]) call108 rfl rfl (dK w3) (fun v4 w4 hq=>?_))
 obtain rfl:=hq
 have uP:=(he1.trans he2).trans UH
 refine L.nil (?_)
 refine T.agT mixed 12 0 [0,6] rfl [.is _,.is _,.is _,.is _,.is _,.is _,.is _,.is _,.such (fun _ _=>False),.such (fun _ _=>False),.such (fun _ _=>False),.such (fun _ _=>False)] [[],[],[1],[2],[3],[4],[5],[],[7],[8],[9],[6,10]] [none,none,none,none,none,none,none,none,none,none,none,none] [[],[],[1],[1,2],[1,2,3],[1,2,3,4],[1,2,3,4,5],[],[7],[7,8],[7,8,9],[1,2,3,4,5,6,7,8,9,10],[0,1,2,3,4,5,6,7,8,9,10,11],[0,1,2,3,4,5,6,7,8,9,10,11,12],[0,1,2,3,4,5,6,7,8,9,10,11,12,13],[0,1,2,3,4,5,6,7,8,9,10,11,12,13,14],[0,1,2,3,4,5,6,7,8,9,10,11,12,13,14,15]] (fun _ W=>Ext w4 W) (Ext) (by kernel_rfl) (by kernel_rfl) (by kernel_rfl) rfl ⟨fun _ _ _ _ h=>h,fun _ _ _ _ h=>h,fun _ _ _ _ h=>h,fun _ _ _ _ h=>h,trivial⟩ (Keep.drew _ _) ⟨fun c wx hx=>wP.op rfl (O.move rfl ⟨⟨Keep.refl _ _,hx⟩,rfl⟩),
   fun c wx hx=>wP.op rfl (O.move rfl ⟨⟨Keep.refl _ _,hx⟩,rfl⟩),
   fun c wx hx=>wP.op rfl (O.nilCheck rfl ⟨⟨Keep.refl _ _,hx⟩,rfl⟩),
   fun c wx hx=>wP.op rfl (O.fieldAddr runUnderlying129 rfl sizeOf48 rfl ⟨⟨Keep.refl _ _,hx⟩,rfl⟩),
   fun c wx hx=>wP.op rfl (O.fieldAddr runUnderlying48 rfl sizeOf46 rfl ⟨⟨Keep.refl _ _,hx⟩,rfl⟩),
   fun c wx hx=>wP.op rfl (O.fieldAddr runUnderlying46 rfl sizeOf44 rfl ⟨⟨Keep.refl _ _,hx⟩,rfl⟩),
   fun c wx hx=>wP.op rfl (O.load isAgg44 rfl ((Blk.ext (cs:=aH d s) hK3.row hx).cell rfl) ⟨⟨Keep.refl _ _,hx⟩,rfl⟩),
   fun c wx hx=>wP.op rfl (O.move rfl ⟨⟨Keep.refl _ _,hx⟩,rfl⟩),
   fun c wx hx=>wP.pan rfl (Z5.call (xs:=[.tmp 105]) call122 rfl rfl (kQ _ _ r wx ((hR2.ext UH).ext hx) (hL.ext (uP.trans hx)) (dh hll hf) hn (by omega)) (fun w' a hR ha=>⟨ha.defers,rfl,(uP.trans hx).trans hR⟩)),
   fun c wx hx afP Om=>Om.elim,
   fun c wx hx v107 Td=>Td.elim,
   fun c wx hx afR Tf=>Tf.elim,
   trivial⟩ (fun w15 ado afP Om v107 Td afR Tf v109 afU=>?_)
 exact Om.elim
end Go.Proofs.YtnlonpcbgjbbaaaGreatDoor
