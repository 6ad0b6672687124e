/-
  BlocksOver, part 16 of its proof: that it returns true for every input, and each argument reads behind the call as it read before. Conditions: the listed variables read as the program's text lays them (tied by the card).
-/
import Derived.Test.YtnlonpcbgjbbaaaGreatDoorWBlocksOver15
set_option linter.unusedVariables false
set_option linter.unusedSimpArgs false
set_option maxRecDepth 20000
set_option linter.unusedVariables false
set_option linter.unusedSimpArgs false
set_option maxRecDepth 20000
namespace Go.Proofs.YtnlonpcbgjbbaaaGreatDoor
open Go.Proofs.Tryz (call108 call120 call122 call68 func67 isAgg3 isAgg43 isAgg44 isAgg9 ntmps67 results67 runUnderlying129 runUnderlying25 runUnderlying30 runUnderlying43 runUnderlying44 runUnderlying46 runUnderlying48 runUnderlying61 runUnderlying9 sizeOf25 sizeOf3 sizeOf43 sizeOf44 sizeOf46 sizeOf48 sizeOf9)
open Go Go.E RowKit
attribute [local irreducible] Go.E.T Go.E.L Go.E.O Go.E.Ob

attribute [local irreducible] Go.E.ObX Go.E.ObG Go.E.ObK
/-- All is kept but one block (or none). -/
structure ButO (ob:Option Nat) (w w':World):Prop where
 os:w'.os=w.os
 tape:w'.tape=w.tape
 output:w'.output=w.output
 size:w.heap.size≤w'.heap.size
 block:∀ k,k<w.heap.size→ob≠some k→w'.heap[k]?=w.heap[k]?
theorem ButO.of_ext {ob:Option Nat} {w w':World} (h:Ext w w'):ButO ob w w':=⟨h.os,h.tape,h.output,h.size,fun k hk _=>h.block k (Nat.zero_le _) hk⟩
theorem ButO.refl (ob:Option Nat) (w:World):ButO ob w w:=.of_ext (Keep.refl _ _)
theorem ButO.trans {ob:Option Nat} {w w1 w2:World} (h:ButO ob w w1) (k:ButO ob w1 w2):ButO ob w w2 :=
 ⟨k.os.trans h.os,k.tape.trans h.tape,k.output.trans h.output,Nat.le_trans h.size k.size,fun i hi ho=>(k.block i (Nat.lt_of_lt_of_le hi h.size) ho).trans (h.block i hi ho)⟩
theorem ButO.of_grown {ob:Option Nat} {w w':World} (h:w.grownBy w' ob):ButO ob w w' :=
 have h0:Keep w.heap.size w w':=by
  refine Keep.grown (Keep.refl _ _) h fun j _=>?_
  exact Nat.lt_or_ge _ _
 ⟨h0.os,h0.tape,h0.output,h0.size,fun k hk ho=>h.block k hk (fun e=>ho e.symm)⟩
theorem ButO.ext {ob:Option Nat} {w w':World} (h:ButO ob w w') {w0:World} (hw:Ext w0 w) (hn:∀ k,ob=some k→w0.heap.size≤k):Ext w0 w' :=
 ⟨h.os.trans hw.os,h.tape.trans hw.tape,h.output.trans hw.output,Nat.le_trans hw.size h.size,fun k _ hk=>(h.block k (Nat.lt_of_lt_of_le hk hw.size) (fun e=>by have:=hn k e;omega)).trans (hw.block k (Nat.zero_le _) hk)⟩
theorem ButO.blk {ob:Option Nat} {w w':World} {b:Nat} {cs:List Value} {t:TypeId} (h:ButO ob w w') (hB:Blk w b cs t) (hn:ob≠some b):Blk w' b cs t:=(h.block b hB.lt hn).trans hB
/-- Such a row is of one type; what is of another lies elsewhere. -/
theorem own_neB {w:World} {base n sz b:Nat} {el t:TypeId} {v:Value} {xs cs:List Value} (h:w.ownsRow base el sz v n xs) (hb:Blk w b cs t) (he:el≠t):v.ownBlock≠some b:=fun e=>own_blk h hb he b e rfl
/-- Numbers in a block of numbers, or none; Q says which blocks are meant. -/
def IntsB (Q:Nat→Prop) (W:World) (v:Value) (xs:List Int):Prop :=
 (v = .slice none 0 0∧xs = [])∨∃ k off cap cs,v = .slice (some ⟨k,off,none⟩) xs.length cap∧xs.length≤cap∧cap≤maxLen∧Q k∧Blk W k cs 3∧(cs.drop off).take xs.length=xs.map (Value.int .i64)
theorem IntsB.ints {Q:Nat→Prop} {W:World} {v:Value} {xs:List Int} (h:IntsB Q W v xs):Ints .i64 0 W v xs:=by
 rcases h with ⟨rfl,rfl⟩|⟨k,off,cap,cs,rfl,h1,h2,h3,h4,h5⟩
 ·exact Sl.nil _ _ _
 ·refine ⟨by simp,some ⟨k,off,none⟩,cap,rfl,h1,h2,.inr ⟨_,rfl,Nat.zero_le _,?_⟩⟩
  have:=((Row.of_blk h4).drop off).take xs.length
  rw [h5] at this
  exact this.of_eq (by rw [add_at];simp)
theorem IntsB.of_owns {base:Nat} {Q:Nat→Prop} {W:World} {v:Value} {xs:List Int} (h:W.ownsRow base 3 1 v xs.length (xs.map (Value.int .i64))) (hQ:∀ k,base≤k→k<W.heap.size→Q k):IntsB Q W v xs:=by
 rcases h.2 with ⟨h1,h2⟩|⟨g,cap,cur,rfl,hb,hg,hn,hm,hsz,htk⟩
 ·exact .inl ⟨h1,List.length_eq_zero_iff.1 h2⟩
 ·have hB:Blk W g cur.toList 3:=by unfold Blk;simpa using hg
  exact .inr ⟨g,0,cap,cur.toList,rfl,hn,hm,hQ g hb hB.lt,hB,by simpa using htk⟩
/-- As long as such blocks stay. -/
theorem IntsB.stay {Q Q':Nat→Prop} {W W':World} {v:Value} {xs:List Int} (h:IntsB Q W v xs) (hk:∀ k cs,Q k→Blk W k cs 3→Q' k∧Blk W' k cs 3):IntsB Q' W' v xs:=by
 rcases h with h|⟨b,off,cap,cs,h0,h1,h2,h3,h4,h5⟩
 ·exact .inl h
 ·obtain ⟨k1,k2⟩:=hk b cs h3 h4
  exact .inr ⟨b,off,cap,cs,h0,h1,h2,k1,k2,h5⟩
/-- A row of one's own in such a block. -/
def OwnQ (Q:Nat→Prop) (W:World) (el:TypeId) (sz:Nat) (v:Value) (n:Nat) (xs:List Value):Prop:=W.ownsRow 0 el sz v n xs∧∀ k,v.ownBlock=some k→Q k
theorem OwnQ.nil (Q:Nat→Prop) (W:World) (el:TypeId) (sz:Nat):OwnQ Q W el sz (.slice none 0 0) 0 []:=⟨owns_nil _ _ _ _,fun k h=>by cases h⟩
theorem OwnQ.stay {Q Q':Nat→Prop} {W W':World} {el:TypeId} {sz n:Nat} {v:Value} {xs:List Value} (h:OwnQ Q W el sz v n xs) (hk:∀ k cs,Q k→v.ownBlock=some k→Blk W k cs el→Q' k∧Blk W' k cs el):OwnQ Q' W' el sz v n xs:=by
 obtain ⟨⟨h1,h2⟩,h3⟩:=h
 rcases h2 with ⟨h4,h5⟩|⟨g,cap,cur,rfl,hb,hg,hn,hm,hsz,htk⟩
 ·subst h4
  exact ⟨⟨h1,.inl ⟨rfl,h5⟩⟩,fun k h=>by cases h⟩
 ·have hB:Blk W g cur.toList el:=by unfold Blk;simpa using hg
  obtain ⟨k1,k2⟩:=hk g _ (h3 g rfl) rfl hB
  exact ⟨⟨h1,.inr ⟨g,cap,cur,rfl,hb,by unfold Blk at k2;simpa using k2,hn,hm,hsz,htk⟩⟩,fun k e=>by cases e;exact k1⟩
/-- What has been read. -/
structure PU where
 nm:Str
 pp:Int
 gs:List Int
 vs:List Int
 qs:List Int
 wt:Bool
structure PS where
 ps:List Pt
 fs:List (List Int × List (List Int))
 G:Int
 P:Int
 L:Int
 us:List PU
 last:Str
def PS0:PS:=⟨[],[],0,0,0,[],[]⟩
def kUnit0:Str:=[117,110,105,116]
def kWat:Str:=[119,97,116,101,114]
/-- A unit's words. -/
def unitP (s:PS) (r:List Str):Option PU :=
 let wt:=decide (1<r.length) && decide (r.getD (r.length-1) []=kWat)
 let q:=if wt then r.take (r.length-1) else r
 if 0≤s.G∧0≤s.P∧0≤s.L∧(q.length:Int)=2+s.G+s.P+s.L then
  match numsP (q.drop 1) with
  | some xs=>some ⟨q.getD 0 [],xs.getD 0 0,(xs.drop 1).take s.G.toNat,(xs.drop (1+s.G.toNat)).take s.P.toNat,xs.drop (1+s.G.toNat+s.P.toNat),wt⟩
  | none=>none
 else none
/-- A hole for the last face. -/
def holeP (fs:List (List Int × List (List Int))) (h:List Int):List (List Int × List (List Int)):=match fs.getLast? with
 | some f=>fs.dropLast ++ [(f.1,f.2 ++ [h])]
 | none=>fs
/-- What is done to a line. -/
def stepP (s:PS) (l:Str):Option PS:=match fieldsB l with
 | []=>some s
 | k::r =>
  if k=kLand then
   (if s.last = []∧r.length=3 then (match numsP r with|some xs=>some { s with G:=xs.getD 0 0,P:=xs.getD 1 0,L:=xs.getD 2 0,last:=k } | none=>none) else none)
  else if k=kPoint then
   (if s.last ∈ [kLand,kPoint]∧r.length=2 then (match numsP r with|some xs=>some { s with ps:=s.ps ++ [(xs.getD 0 0,xs.getD 1 0)],last:=k } | none=>none) else none)
  else if k=kFace then
   (if s.last ∈ [kLand,kPoint,kFace,kHole] then (match numsP r with|some xs=>some { s with fs:=s.fs ++ [(xs,[])],last:=k } | none=>none) else none)
  else if k=kHole then
   (if s.last ∈ [kFace,kHole] then (match numsP r with|some xs=>some { s with fs:=holeP s.fs xs,last:=k } | none=>none) else none)
  else if k=kUnit0 then
   (if s.last ∉ [[],kEnd] then (match unitP s r with|some u=>some { s with us:=s.us ++ [u],last:=k } | none=>none) else none)
  else if k=kEnd then
   (if s.last ∉ [[],kEnd]∧r.length=0 then some { s with last:=k } else none)
  else none
/-- A hole comes behind a face. -/
theorem stepP_face {s s':PS} {l:Str} (h:stepP s l=some s') (hs:s.last ∈ [kFace,kHole]→s.fs ≠ []):s'.last ∈ [kFace,kHole]→s'.fs ≠ []:=by
 unfold stepP at h
 split at h
 ·cases h;exact hs
 ·split at h
  ·split at h
   ·split at h
    ·cases h;rename_i hk _ _ _ _;intro hm;simp [hk,kLand,kFace,kHole] at hm
    ·cases h
   ·cases h
  ·split at h
   ·split at h
    ·split at h
     ·cases h;rename_i hk _ _ _ _;intro hm;simp [hk,kPoint,kFace,kHole] at hm
     ·cases h
    ·cases h
   ·split at h
    ·split at h
     ·split at h
      ·cases h;intro _;simp
      ·cases h
     ·cases h
    ·split at h
     ·split at h
      ·split at h
       ·cases h
        rename_i hl _ _ _
        intro _
        have:=hs hl
        simp only [holeP]
        cases hg:s.fs.getLast? with
        | none=>exact absurd (List.getLast?_eq_none_iff.1 hg) this
        | some f=>simp
       ·cases h
      ·cases h
     ·split at h
      ·split at h
       ·split at h
        ·cases h;rename_i hk _ _ _ _;intro hm;simp [hk,kUnit0,kFace,kHole] at hm
        ·cases h
       ·cases h
      ·split at h
       ·split at h
        ·cases h;rename_i hk _;intro hm;simp [hk,kEnd,kFace,kHole] at hm
        ·cases h
       ·cases h
open Go Go.E RowKit

def pu0:PU:=⟨[],0,[],[],[],false⟩
/-- A face as it was read. -/
structure FaO (Q:Nat→Prop) (W:World) (v:FaV) (f:List Int × List (List Int)):Prop where
 ox:v.o.xs=f.1
 oi:IntsB Q W v.o.v f.1
 hx:v.hs.map (·.xs)=f.2
 hv:OwnQ Q W 30 1 v.hv v.hs.length (riCells v.hs)
 ri:∀ h∈v.hs,IntsB Q W h.v h.xs
/-- A unit as it was read. -/
structure UnO (Q:Nat→Prop) (W:World) (v:UnV) (u:PU):Prop where
 nm:v.nm=u.nm
 pp:v.pp=u.pp
 gs:v.gs=u.gs
 vs:v.vs=u.vs
 qs:v.ps=u.qs
 wt:v.wt=u.wt
 gi:IntsB Q W v.gv u.gs
 vi:IntsB Q W v.vv u.vs
 qi:IntsB Q W v.pv u.qs
theorem FaO.stay {Q Q':Nat→Prop} {W W':World} {v:FaV} {f:List Int × List (List Int)} (h:FaO Q W v f) (hk:∀ k cs t,Q k→Blk W k cs t→Q' k∧Blk W' k cs t):FaO Q' W' v f :=
 ⟨h.ox,h.oi.stay fun k cs q b=>hk k cs _ q b,h.hx,h.hv.stay fun k cs q _ b=>hk k cs _ q b,fun x hx=>(h.ri x hx).stay fun k cs q b=>hk k cs _ q b⟩
theorem UnO.stay {Q Q':Nat→Prop} {W W':World} {v:UnV} {u:PU} (h:UnO Q W v u) (hk:∀ k cs,Q k→Blk W k cs 3→Q' k∧Blk W' k cs 3):UnO Q' W' v u :=
 ⟨h.nm,h.pp,h.gs,h.vs,h.qs,h.wt,h.gi.stay hk,h.vi.stay hk,h.qi.stay hk⟩
/-- The slices, and what they hold. -/
structure RdD where
 pv:Value
 fv:Value
 uv:Value
 vs:List FaV
 us:List UnV
def rdCells (d:RdD) (s:PS):List Value:=[d.pv,d.fv,.int .i64 s.G,.int .i64 s.P,.int .i64 s.L,d.uv,str s.last]
/-- Blocks that are the reader's. -/
def RdQ (w0:World) (b:Nat) (S:Nat→Prop) (k:Nat):Prop:=w0.heap.size≤k∧k≠b∧¬ S k
structure RdK (w0:World) (b:Nat) (d:RdD) (s:PS) (S:Nat→Prop) (W:World):Prop where
 e:Ext w0 W
 lo:w0.heap.size≤b
 row:Blk W b (rdCells d s) 129
 pts:OwnQ (RdQ w0 b S) W 124 2 d.pv s.ps.length (pcs s.ps)
 fsr:OwnQ (RdQ w0 b S) W 127 2 d.fv d.vs.length (fcells d.vs)
 fsl:d.vs.length=s.fs.length
 fa:∀ i,i<d.vs.length→FaO (RdQ w0 b S) W (d.vs.getD i f0) (s.fs.getD i ([],[]))
 sep:∀ i,i+1<d.vs.length→∀ k,(d.vs.getD (d.vs.length-1) f0).hv.ownBlock=some k→(d.vs.getD i f0).hv.ownBlock≠some k
 usr:OwnQ (RdQ w0 b S) W 51 6 d.uv d.us.length (ucells d.us)
 usl:d.us.length=s.us.length
 un:∀ i,i<d.us.length→UnO (RdQ w0 b S) W (d.us.getD i u0) (s.us.getD i pu0)
 big:(-1000000000≤s.G∧s.G≤1000000000)∧(-1000000000≤s.P∧s.P≤1000000000) ∧ -1000000000≤s.L∧s.L≤1000000000
 S:∀ k,S k→w0.heap.size≤k∧k<W.heap.size∧k≠b
theorem RdK.stay {w0:World} {b:Nat} {d:RdD} {s:PS} {S S':Nat→Prop} {W W':World} (h:RdK w0 b d s S W) (he:Ext w0 W') (hb:Blk W' b (rdCells d s) 129) (hS:∀ k,S' k→w0.heap.size≤k∧k<W'.heap.size∧k≠b)
  (hk:∀ k cs t,RdQ w0 b S k→Blk W k cs t→RdQ w0 b S' k∧Blk W' k cs t):RdK w0 b d s S' W' :=
 ⟨he,h.lo,hb,h.pts.stay fun k cs q _ B=>hk k cs _ q B,h.fsr.stay fun k cs q _ B=>hk k cs _ q B,h.fsl,fun i hi=>(h.fa i hi).stay hk,h.sep,h.usr.stay fun k cs q _ B=>hk k cs _ q B,h.usl,fun i hi=>(h.un i hi).stay fun k cs q B=>hk k cs _ q B,h.big,hS⟩
theorem RdK.ext {w0:World} {b:Nat} {d:RdD} {s:PS} {S:Nat→Prop} {W W':World} (h:RdK w0 b d s S W) (k:Ext W W'):RdK w0 b d s S W' :=
 h.stay (h.e.trans k) (Blk.ext (cs:=rdCells d s) h.row k) (fun j hj=>by obtain ⟨a1,a2,a3⟩:=h.S j hj;exact ⟨a1,Nat.lt_of_lt_of_le a2 k.size,a3⟩) fun j cs t q B=>⟨q,Blk.ext B k⟩
/-- A reader, whatever its slices. -/
def RdI (w0:World) (b:Nat) (s:PS) (S:Nat→Prop) (W:World):Prop:=∃ d,RdK w0 b d s S W
theorem RdI.stab (w0:World) (b:Nat):Stab (RdI w0 b):=by
 refine ⟨?_,?_⟩
 ·rintro s S S' W W' ⟨d,h⟩ k hS
  have hlt:=Blk.lt (cs:=rdCells d s) h.row
  refine ⟨d,h.stay (h.e.trans k) (Blk.ext (cs:=rdCells d s) h.row k) (fun j hj=>?_) fun j cs t q B=>⟨⟨q.1,q.2.1,fun hj=>?_⟩,Blk.ext B k⟩⟩
  ·rcases hS j hj with h1|⟨h1,h2⟩
   ·obtain ⟨a1,a2,a3⟩:=h.S j h1
    exact ⟨a1,Nat.lt_of_lt_of_le a2 k.size,a3⟩
   ·have:=h.e.size
    exact ⟨by omega,h2,by omega⟩
  ·rcases hS j hj with h1|⟨h1,_⟩
   ·exact q.2.2 h1
   ·have:=B.lt;omega
 ·rintro s S W W' j ⟨d,h⟩ hj k
  obtain ⟨a1,a2,a3⟩:=h.S j hj
  refine ⟨d,h.stay (h.e.upd k (.inr a1)) (Blk.upd (cs:=rdCells d s) h.row k (Ne.symm a3)) (fun i hi=>by rw [k.size];exact h.S i hi) fun i cs t q B=>⟨q,Blk.upd B k (fun e=>q.2.2 (by rw [e];exact hj))⟩⟩
/-- What is of the library and of the world ahead stays. -/
theorem RdI.ext0 {w0:World} {b:Nat} {s:PS} {S:Nat→Prop} {W:World} (h:RdI w0 b s S W):Ext w0 W:=by obtain ⟨d,h⟩:=h;exact h.e
/-- The counts grow by one at most. -/
def CntP (s:PS) (j:Nat):Prop:=s.ps.length≤j∧s.fs.length≤j∧s.us.length≤j∧∀ f∈s.fs,f.2.length≤j
theorem CntP.more {s:PS} {j:Nat} (h:CntP s j):CntP s (j+1):=⟨by have:=h.1;omega,by have:=h.2.1;omega,by have:=h.2.2.1;omega,fun f hf=>by have:=h.2.2.2 f hf;omega⟩
theorem CntP.step {s s':PS} {l:Str} {j:Nat} (h:CntP s j) (hs:stepP s l=some s'):CntP s' (j+1):=by
 obtain ⟨h1,h2,h3,h4⟩:=h
 unfold stepP at hs
 split at hs
 ·cases hs;exact CntP.more ⟨h1,h2,h3,h4⟩
 ·split at hs
  ·split at hs
   ·split at hs
    ·cases hs;exact CntP.more ⟨h1,h2,h3,h4⟩
    ·cases hs
   ·cases hs
  ·split at hs
   ·split at hs
    ·split at hs
     ·cases hs;exact ⟨by simp;omega,by simp only;omega,by simp only;omega,fun f hf=>by have:=h4 f hf;omega⟩
     ·cases hs
    ·cases hs
   ·split at hs
    ·split at hs
     ·split at hs
      ·cases hs
       refine ⟨by simp only;omega,by simp;omega,by simp only;omega,fun f hf=>?_⟩
       rcases List.mem_append.1 hf with hf|hf
       ·have:=h4 f hf;omega
       ·rw [List.mem_singleton.1 hf];simp
      ·cases hs
     ·cases hs
    ·split at hs
     ·split at hs
      ·split at hs
       ·cases hs
        rename_i xs _
        refine ⟨by simp only;omega,?_,by simp only;omega,fun f hf=>?_⟩
        ·simp only [holeP]
         cases hg:s.fs.getLast? with
         | none=>simp only;omega
         | some f=>simp;omega
        ·simp only [holeP] at hf
         cases hg:s.fs.getLast? with
         | none=>rw [hg] at hf;have:=h4 f hf;omega
         | some g =>
          rw [hg] at hf
          simp only [List.mem_append,List.mem_singleton] at hf
          rcases hf with hf|hf
          ·have:=h4 f ((List.dropLast_sublist _).subset hf);omega
          ·have:=h4 g (List.mem_of_getLast? hg)
           rw [hf];simp;omega
       ·cases hs
      ·cases hs
     ·split at hs
      ·split at hs
       ·split at hs
        ·cases hs;exact ⟨by simp only;omega,by simp only;omega,by simp;omega,fun f hf=>by have:=h4 f hf;omega⟩
        ·cases hs
       ·cases hs
      ·split at hs
       ·split at hs
        ·cases hs;exact CntP.more ⟨h1,h2,h3,h4⟩
        ·cases hs
       ·cases hs
open Go Go.E RowKit

/-- 's[l:h]', its value. -/
def cutLH (sz:Nat):Value→Nat→Nat→Value
 | .slice oa _ cap,l,h=>.slice (if cap=l then oa else oa.map (·.add (l*sz))) (h-l) (cap-l)
 | v,_,_=>v
theorem Sl_cutLH {lo:Nat} {w:World} {v:Value} {n l h sz:Nat} {cs:List Value} (hv:Sl lo w v n sz cs) (h1:l≤h) (h2:h≤n):Sl lo w (cutLH sz v l h) (h-l) sz ((cs.drop (l*sz)).take ((h-l)*sz)):=by
 obtain ⟨hl,oa,cap,rfl,hc,hm,hr⟩:=hv
 refine ⟨?_,_,cap-l,rfl,by omega,by omega,?_⟩
 ·rw [List.length_take,List.length_drop,hl]
  refine Nat.min_eq_left ?_
  rw [← Nat.sub_mul];exact Nat.mul_le_mul_right _ (by omega)
 ·rcases hr with hr|⟨ad,e1,e2,e3⟩
  ·left;omega
  ·by_cases hc2:cap=l
   ·left;omega
   ·refine .inr ⟨ad.add (l*sz),by rw [if_neg hc2,e1];rfl,by rw [add_block];exact e2,(e3.drop _).take _⟩
theorem O.cutLHx {C:Cx} {e:Env} {w w₁:World} {K:Value→World→Prop} {d:Option Tmp} {ty:TypeId} {pos:String} {aft:Array Edge} {g:Option (Nat × Bool)} {x y z:Operand} {t:TypeId} {v:Value} {n sz lo l h:Nat} {cs:List Value} {el:TypeId} (hu:∀ w,(underlying t).run C.P w = .ok (.slice el) w) (hs:∀ w,(sizeOf el).run C.P w = .ok sz w) (hx:ev e x=some v) (hy:ev e y=some (.int .i64 l)) (hz:ev e z=some (.int .i64 h))
  (hv:Sl lo w₁ v n sz cs) (h1:l≤h) (h2:h≤n) (hk:K (cutLH sz v l h) w):O C e ⟨d,.slice t x (some y) (some z) none,ty,pos,aft,g⟩ w K:=by
 obtain ⟨hl,oa,cap,rfl,hc,hm,hr⟩:=hv
 exact O.of_run (by simp) (fun a ha=>by
  simp [execOp,Instr.sliceAt,Instr.slice,Instr.sliceBounds,Instr.sliceBound,asIntOf,ha.eval hx,ha.eval hy,ha.eval hz,hu w,hs w,h1,show h≤cap by omega]
  rfl) hk
theorem O.cutLx {C:Cx} {e:Env} {w w₁:World} {K:Value→World→Prop} {d:Option Tmp} {ty:TypeId} {pos:String} {aft:Array Edge} {g:Option (Nat × Bool)} {x y:Operand} {t:TypeId} {v:Value} {n sz lo l:Nat} {cs:List Value} {el:TypeId} (hu:∀ w,(underlying t).run C.P w = .ok (.slice el) w) (hs:∀ w,(sizeOf el).run C.P w = .ok sz w) (hx:ev e x=some v) (hy:ev e y=some (.int .i64 l))
  (hv:Sl lo w₁ v n sz cs) (h1:l≤n) (hk:K (cutLH sz v l n) w):O C e ⟨d,.slice t x (some y) none none,ty,pos,aft,g⟩ w K:=by
 obtain ⟨hl,oa,cap,rfl,hc,hm,hr⟩:=hv
 exact O.of_run (by simp) (fun a ha=>by
  simp [execOp,Instr.sliceAt,Instr.slice,Instr.sliceBounds,Instr.sliceBound,asIntOf,ha.eval hx,ha.eval hy,hu w,hs w,h1]
  rfl) hk
theorem fields_le {s:Str} : ∀ w∈fieldsB s,w.length≤100000∨s.length > 100000:=fun w hw=>by
 rcases Nat.lt_or_ge 100000 s.length with h|h
 ·exact .inr h
 ·refine .inl ?_
  simp only [fieldsB,List.mem_map,Lib.goFieldsP] at hw
  obtain ⟨x,⟨y,_,rfl⟩,rfl⟩:=hw
  have:(ByteArray.extract ⟨s.toArray⟩ y.1 y.2).data.toList.length≤s.length:=by
   simp [ByteArray.data_extract];omega
  omega
theorem take_none (w0:World) (b:Nat) (s:PS) (S:Nat→Prop) (l:Str) (w:World) (hI:RdI w0 b s S w) (hl:l.length≤100000) (hf:fieldsB l = []) :
  Calls Tryz.prog 67 #[.pointer (some ⟨b,0,none⟩),str l] w (Ret fun v w'=>RdI w0 b s S w'∧∀ k,S k→w'.heap[k]?=w.heap[k]?):=by
 refine T.enter (vs:=[.pointer (some ⟨b,0,none⟩),str l]) func67 rfl ntmps67 rfl ?_
 refine T.q (L.m rfl (L.o (O.call (xs:=[.tmp 10,.func 121]) call120 rfl rfl (fields_calls l w hl) (fun v1 w1 hq=>?_))))
 obtain ⟨A,rfl,hS1,he1⟩:=hq
 rw [hf]
 rw [hf] at hS1
 refine L.a rfl (L.nil (T.seq (T.q (L.m rfl (L.o (O.len runUnderlying61 rfl (Sl.val hS1) (L.o (O.eql_t rfl rfl (by simp) (L.nil (T.ct (T.ret0 results67 ⟨?_,fun k hk=>?_⟩)))))))))))
 ·obtain ⟨d,h⟩:=hI;exact ⟨d,h.ext he1⟩
 ·obtain ⟨d,h⟩:=hI;exact he1.block k (Nat.zero_le _) (h.S k hk).2.1

/-- The words behind the first. -/
theorem rest_words {lo A:Nat} {w:World} {k:Str} {r:List Str} {n:Nat} (h:Strs lo w (.slice (some ⟨A,0,none⟩) n n) (k::r)) (hn:n=r.length+1):Strs lo w (cutLH 1 (.slice (some ⟨A,0,none⟩) n n) 1 n) r:=by
 subst hn
 have:=Sl_cutLH (l:=1) (h:=r.length+1) (h:Sl lo w _ _ _ _) (by omega) (Nat.le_refl _)
 have e:(((k::r).map str).drop (1*1)).take ((r.length+1-1)*1)=r.map str:=by simp;exact List.take_of_length_le (by simp)
 rw [e,show r.length+1-1=r.length by omega] at this
 exact this
/-- Another word ahead, and nothing else. -/
theorem RdK.setLast {w0:World} {b:Nat} {d:RdD} {s:PS} {S:Nat→Prop} {W W':World} (h:RdK w0 b d s S W) {k:Str} (hu:Upd b W W') (hB:Blk W' b ((rdCells d s).set 6 (str k)) 129):RdK w0 b d { s with last:=k } S W':=by
 have h1:=h.stay (S':=S) (W':=W) h.e h.row h.S (fun j cs t q B=>⟨q,B⟩)
 have hk:∀ j cs t,RdQ w0 b S j→Blk W j cs t→RdQ w0 b S j∧Blk W' j cs t:=fun j cs t q B=>⟨q,Blk.upd B hu q.2.1⟩
 exact ⟨h.e.upd hu (.inr h.lo),h.lo,hB,h.pts.stay fun k cs q _ B=>hk k cs _ q B,h.fsr.stay fun k cs q _ B=>hk k cs _ q B,h.fsl,fun i hi=>(h.fa i hi).stay hk,h.sep,h.usr.stay fun k cs q _ B=>hk k cs _ q B,h.usl,fun i hi=>(h.un i hi).stay fun k cs q B=>hk k cs _ q B,h.big,fun j hj=>by rw [hu.size];exact h.S j hj⟩
theorem take_end (w0:World) (b:Nat) (s:PS) (S:Nat→Prop) (l:Str) (w:World) (hI:RdI w0 b s S w) (hl:l.length≤100000) (hf:fieldsB l = [kEnd]) (hlast:s.last ∉ [[],kEnd]) :
  Calls Tryz.prog 67 #[.pointer (some ⟨b,0,none⟩),str l] w (Ret fun v w'=>RdI w0 b { s with last:=kEnd } S w'∧∀ k,S k→w'.heap[k]?=w.heap[k]?):=by
 refine T.enter (vs:=[.pointer (some ⟨b,0,none⟩),str l]) func67 rfl ntmps67 rfl ?_
 refine T.q (L.m rfl (L.o (O.call (xs:=[.tmp 10,.func 121]) call120 rfl rfl (fields_calls l w hl) (fun v1 w1 hq=>?_))))
 obtain ⟨A,rfl,hS1,he1⟩:=hq
 obtain ⟨d,hK⟩:=hI
 have hK1:=hK.ext he1
 rw [hf]
 rw [hf] at hS1
 refine L.a rfl (L.nil (T.seq (T.q (L.m rfl (L.o (O.len runUnderlying61 rfl (Sl.val hS1) (L.o (O.eql_f rfl rfl (by simp) (L.nil (T.cf (T.skip (T.seq (?_)))))))))))))
 refine T.anyE mixed 6 [4] rfl [.is _,.is _,.is _,.is _,.is _,.is _] [[],[0],[1],[],[3],[2]] [[],[0],[0,1],[],[3],[0,1,2],[0,1,2,3,4,5]] (by kernel_rfl) (by kernel_rfl) rfl (by kernel_rfl) trivial ⟨fun wx hx=>Ob.o (O.move rfl kR),
   fun wx hx=>Ob.o (O.indexAddr runUnderlying61 sizeOf9 rfl rfl (hS1.ext hx) (by decide) (by simp) kR),
   fun wx hx=>Ob.o (O.load isAgg9 rfl ((hS1.ext hx).at (show 0<([kEnd]:List Str).length by decide)) kR),
   fun wx hx=>Ob.o (O.move rfl kR),
   fun wx hx=>Ob.o (O.cutLx (l:=1) runUnderlying61 sizeOf9 rfl rfl hS1 (by simp) kR),
   fun wx hx=>Ob.o (O.assign rfl kR),
   trivial⟩ (fun w2 he2=>?_)
 have hR2:=rest_words (hS1.ext he2) rfl
 refine L.a rfl (L.nil (T.seq (T.q (L.m rfl (L.nil (T.block (T.q (L.o (O.eql_str_f runUnderlying9 rfl rfl (by decide) (L.a rfl (L.nil (T.cf (T.q (L.o (O.eql_str_f runUnderlying9 rfl rfl (by decide) (L.a rfl (L.nil (T.cf (T.q (L.o (O.eql_str_f runUnderlying9 rfl rfl (by decide) (L.a rfl (?_)))))))))))))))))))))))
 refine L.nil (T.cf (T.q (L.o (O.eql_str_f runUnderlying9 rfl rfl (by decide) (L.a rfl (L.nil (T.cf (T.q (L.o (O.eql_str_f runUnderlying9 rfl rfl (by decide) (L.a rfl (L.nil (T.cf (T.q (L.o (O.eql_str_t runUnderlying9 rfl rfl rfl (L.a rfl (L.nil (T.ct (T.region (L.m rfl (L.o (O.buildSlice (el:=9) (parts:=[(0,_),(1,_)]) (vs:=[(0,_),(1,_)]) (cs:=([[],kEnd].map str)) rfl (fun w=>by kernel_rfl) (fun b159 w159 hb159 hz159 he159 hB159=>?_))))))))))))))))))))))))
 have hK159:=(hK1.ext he2).ext he159
 refine L.o (O.call (xs:=[.tmp 158,.tmp 159]) call68 rfl rfl (after_calls 0 _ [[],kEnd] b (rdCells d s) s.last w159 (Strs.of_blk hB159 rfl (by decide) (Nat.zero_le _)) hK159.row rfl) (fun v160 w160 hq=>?_))
 obtain ⟨rfl,rfl⟩:=hq
 rw [decide_eq_false hlast]
 refine L.o (O.not rfl (L.m rfl (L.m rfl (L.o (O.len runUnderlying61 rfl (Sl.val (hR2.ext he159)) (L.o (O.eql_t rfl rfl (by simp) (L.o (O.pick_true rfl rfl (L.o (O.call (xs:=[.tmp 166]) call108 rfl rfl (need_yes w160) (fun v167 w167 hq=>?_))))))))))))
 obtain rfl:=hq
 refine L.nil (T.blk (T.region (L.m rfl (L.m rfl (L.o (O.nilCheck rfl (L.o (O.fieldAddr runUnderlying129 rfl sizeOf9 rfl (L.o (O.store1_at sizeOf9 rfl rfl rfl hK159.row (by simp [rdCells]) (fun w180 hu180 hB180=>?_)))))))))))
 refine L.nil (T.end0 results67 ⟨⟨d,hK159.setLast hu180 hB180⟩,fun k hk=>?_⟩)
 have h3:=hK.S k hk
 have z1:=he1.size
 have z2:=he2.size
 exact (hu180.block k h3.2.2).trans ((he159.block k (Nat.zero_le _) (by omega)).trans ((he2.block k (Nat.zero_le _) (by omega)).trans (he1.block k (Nat.zero_le _) h3.2.1)))

open Go Go.E RowKit

/-- Writes into one block, one by one. -/
def PutB (w:World) (b:Nat) (t:TypeId) (rows:List (List Value)) (c:Nat) (W:World):Prop:=ButO (some b) w W∧Blk W b (rows.getD c []) t
theorem PutB.start {w W:World} {b:Nat} {t:TypeId} {row:List Value} {rows:List (List Value)} (h:Blk w b row t) (k:Ext w W):PutB w b t (row::rows) 0 W:=⟨.of_ext k,Blk.ext h k⟩
theorem PutB.next {w W W':World} {b c:Nat} {t:TypeId} {rows:List (List Value)} (h:PutB w b t rows c W) (hu:Upd b W W') {row:List Value} (hB:Blk W' b row t) (hr:rows.getD (c+1) []=row):PutB w b t rows (c+1) W' :=
 ⟨h.1.trans ⟨hu.os,hu.tape,hu.output,Nat.le_of_eq hu.size.symm,fun k _ hk=>hu.block k (fun e=>hk (by rw [e]))⟩,by rw [hr];exact hB⟩
theorem PutB.ints {w W:World} {b c:Nat} {t:TypeId} {rows:List (List Value)} (h:PutB w b t rows c W) {v:Value} {xs:List Int} {Q:Nat→Prop} (hI:IntsB Q w v xs) (hQ:∀ k,Q k→k≠b):Ints .i64 0 W v xs :=
 (hI.stay (Q':=Q) fun k cs q B=>⟨q,h.1.blk B (fun e=>hQ k q (by cases e;rfl))⟩).ints
def landS (s:PS) (xs:List Int):PS:={ s with G:=xs.getD 0 0,P:=xs.getD 1 0,L:=xs.getD 2 0,last:=kLand }
theorem RdK.setLand {w0:World} {b:Nat} {d:RdD} {s:PS} {S:Nat→Prop} {W W':World} (h:RdK w0 b d s S W) {xs:List Int} (hb:(-1000000000≤xs.getD 0 0∧xs.getD 0 0≤1000000000)∧(-1000000000≤xs.getD 1 0∧xs.getD 1 0≤1000000000) ∧ -1000000000≤xs.getD 2 0∧xs.getD 2 0≤1000000000)
  (hu:ButO (some b) W W') (hB:Blk W' b (rdCells d (landS s xs)) 129):RdK w0 b d (landS s xs) S W':=by
 have hk:∀ j cs t,RdQ w0 b S j→Blk W j cs t→RdQ w0 b S j∧Blk W' j cs t:=fun j cs t q B=>⟨q,hu.blk B (fun e=>q.2.1 (by cases e;rfl))⟩
 exact ⟨hu.ext h.e (fun k e=>by cases e;exact h.lo),h.lo,hB,h.pts.stay fun k cs q _ B=>hk k cs _ q B,h.fsr.stay fun k cs q _ B=>hk k cs _ q B,h.fsl,fun i hi=>(h.fa i hi).stay hk,h.sep,h.usr.stay fun k cs q _ B=>hk k cs _ q B,h.usl,fun i hi=>(h.un i hi).stay fun k cs q B=>hk k cs _ q B,hb,fun j hj=>by obtain ⟨a1,a2,a3⟩:=h.S j hj;exact ⟨a1,Nat.lt_of_lt_of_le a2 hu.size,a3⟩⟩
theorem nums_bnd:∀ (ws:List Str) (xs:List Int),numsP ws=some xs→∀ i,i<xs.length → -1000000000≤xs.getD i 0∧xs.getD i 0≤1000000000:=fun ws xs h i hi=>by
 obtain ⟨h1,h2⟩:=numsP_some ws xs h
 exact (numOk_some (h2 i (by omega))).2.2
theorem words_short {l:Str} {k:Str} {r:List Str} (hl:l.length≤100000) (hf:fieldsB l=k::r):∀ x∈r,x.length≤100000:=fun x hx=>by
 rcases fields_le (s:=l) x (by rw [hf];exact List.mem_cons_of_mem _ hx) with h|h
 ·exact h
 ·omega
set_option maxHeartbeats 1000000 in
theorem take_land (w0:World) (b:Nat) (s:PS) (S:Nat→Prop) (l:Str) (r:List Str) (xs:List Int) (w:World) (hI:RdI w0 b s S w) (hL:LibM w) (hl:l.length≤100000) (hf:fieldsB l=kLand::r) (hlast:s.last = []) (h3:r.length=3) (hn:numsP r=some xs) :
  Calls Tryz.prog 67 #[.pointer (some ⟨b,0,none⟩),str l] w (Ret fun v w'=>RdI w0 b (landS s xs) S w'∧∀ k,S k→w'.heap[k]?=w.heap[k]?):=by
 refine T.enter (vs:=[.pointer (some ⟨b,0,none⟩),str l]) func67 rfl ntmps67 rfl ?_
 refine T.q (L.m rfl (L.o (O.call (xs:=[.tmp 10,.func 121]) call120 rfl rfl (fields_calls l w hl) (fun v1 w1 hq=>?_))))
 obtain ⟨A,rfl,hS1,he1⟩:=hq
 obtain ⟨d,hK⟩:=hI
 have hK1:=hK.ext he1
 rw [hf]
 rw [hf] at hS1
 have hx3:xs.length=3:=by rw [← (numsP_some r xs hn).1];exact h3
 refine L.a rfl (L.nil (T.seq (T.q (L.m rfl (L.o (O.len runUnderlying61 rfl (Sl.val hS1) (L.o (O.eql_f rfl rfl (by simp;omega) (L.nil (T.cf (T.skip (T.seq (?_)))))))))))))
 refine T.anyE mixed 6 [4] rfl [.is _,.is _,.is _,.is _,.is _,.is _] [[],[0],[1],[],[3],[2]] [[],[0],[0,1],[],[3],[0,1,2],[0,1,2,3,4,5]] (by kernel_rfl) (by kernel_rfl) rfl (by kernel_rfl) trivial ⟨fun wx hx=>Ob.o (O.move rfl kR),
   fun wx hx=>Ob.o (O.indexAddr runUnderlying61 sizeOf9 rfl rfl (hS1.ext hx) (by decide) (by simp) kR),
   fun wx hx=>Ob.o (O.load isAgg9 rfl ((hS1.ext hx).at (show 0<(kLand::r).length by simp)) kR),
   fun wx hx=>Ob.o (O.move rfl kR),
   fun wx hx=>Ob.o (O.cutLx (l:=1) runUnderlying61 sizeOf9 rfl rfl hS1 (by simp) kR),
   fun wx hx=>Ob.o (O.assign rfl kR),
   trivial⟩ (fun w2 he2=>?_)
 have hR2:=rest_words (hS1.ext he2) rfl
 refine L.a rfl (L.nil (T.seq (T.q (L.m rfl (L.nil (T.block (T.q (L.o (O.eql_str_t runUnderlying9 rfl rfl rfl (L.a rfl (L.nil (T.ct (T.q (L.m rfl (L.o (O.buildSlice (el:=9) (parts:=[(0,_)]) (vs:=[(0,_)]) (cs:=([[]].map str)) rfl (fun w=>by kernel_rfl) (fun b25 w25 hb25 hz25 he25 hB25=>?_)))))))))))))))))
 have hK25:=(hK1.ext he2).ext he25
 refine L.o (O.call (xs:=[.tmp 24,.tmp 25]) call68 rfl rfl (after_calls 0 _ [[]] b (rdCells d s) s.last w25 (Strs.of_blk hB25 rfl (by decide) (Nat.zero_le _)) hK25.row rfl) (fun v26 w26 hq=>?_))
 obtain ⟨rfl,rfl⟩:=hq
 rw [decide_eq_true (show s.last ∈ [[]] by rw [hlast];simp)]
 refine L.m rfl (L.m rfl (L.o (O.len runUnderlying61 rfl (Sl.val (hR2.ext he25)) (L.o (O.eql_t rfl rfl (by omega) (L.o (O.pick_true rfl rfl (L.o (O.call (xs:=[.tmp 31]) call108 rfl rfl (need_yes w26) (fun v32 w32 hq=>?_))))))))))
 obtain rfl:=hq
 have he032:=(he1.trans he2).trans he25
 refine L.nil (T.q (L.m rfl (L.o (O.call (xs:=[.tmp 33]) call122 rfl rfl (numbers_yes _ _ r xs w32 (hR2.ext he25) (hL.ext he032) (words_short hl hf) hn (by omega)) (fun v34 w34 hq=>?_)))))
 obtain ⟨hO34,he34⟩:=hq
 have hK34:=hK25.ext he34
 have hz:=hK25.e.size
 have hI34:IntsB (fun k ↦ w32.heap.size≤k) w34 v34 xs:=IntsB.of_owns hO34 (fun k h _ ↦ h)
 have hb32:=Blk.lt (cs:=rdCells d s) hK25.row
 refine L.a rfl (L.nil (?_))
 refine T.any mixed 22 2 [0,7] rfl [.is _,.is _,.is _,.is _,.is _,.is _,.is _,.is _,.is _,.is _,.is _,.is _,.is _,.is _,.is _,.is _,.is undef,.is _,.is _,.is _,.is _,.is undef] [[],[],[],[],[3],[4],[],[6],[7],[],[9],[10],[0],[12],[13],[14],[15,5],[1],[17],[18],[19],[20,8]] [none,none,none,none,none,none,none,none,none,none,none,none,none,none,none,none,some 0,none,none,none,none,some 1] [[],[],[],[],[3],[3,4],[],[6],[6,7],[],[9],[9,10],[0,3,4,5,6,7,8,9,10,11],[0,3,4,5,6,7,8,9,10,11,12],[0,3,4,5,6,7,8,9,10,11,12,13],[0,3,4,5,6,7,8,9,10,11,12,13,14],[0,3,4,5,6,7,8,9,10,11,12,13,14,15],[0,1,3,4,5,6,7,8,9,10,11,12,13,14,15,16],[0,1,3,4,5,6,7,8,9,10,11,12,13,14,15,16,17],[0,1,3,4,5,6,7,8,9,10,11,12,13,14,15,16,17,18],[0,1,3,4,5,6,7,8,9,10,11,12,13,14,15,16,17,18,19],[0,1,3,4,5,6,7,8,9,10,11,12,13,14,15,16,17,18,19,20],[0,1,2,3,4,5,6,7,8,9,10,11,12,13,14,15,16,17,18,19,20,21],[0,1,2,3,4,5,6,7,8,9,10,11,12,13,14,15,16,17,18,19,20,21,22],[0,1,2,3,4,5,6,7,8,9,10,11,12,13,14,15,16,17,18,19,20,21,22,23],[0,1,2,3,4,5,6,7,8,9,10,11,12,13,14,15,16,17,18,19,20,21,22,23,24],[0,1,2,3,4,5,6,7,8,9,10,11,12,13,14,15,16,17,18,19,20,21,22,23,24,25]] (PutB w34 b 129 [rdCells d s,(rdCells d s).set 2 (.int .i64 (xs.getD 0 0)),((rdCells d s).set 2 (.int .i64 (xs.getD 0 0))).set 3 (.int .i64 (xs.getD 1 0))]) (fun _ _=>True) (by kernel_rfl) (by kernel_rfl) (by kernel_rfl) rfl trivial (PutB.start hK34.row (Keep.drew _ _)) ⟨fun c wx hx=>ObK.op rfl (O.move rfl ⟨⟨trivial,hx⟩,rfl⟩),
   fun c wx hx=>ObK.op rfl (O.move rfl ⟨⟨trivial,hx⟩,rfl⟩),
   fun c wx hx=>ObK.op rfl (O.move rfl ⟨⟨trivial,hx⟩,rfl⟩),
   fun c wx hx=>ObK.op rfl (O.move rfl ⟨⟨trivial,hx⟩,rfl⟩),
   fun c wx hx=>ObK.op rfl (O.indexAddr runUnderlying30 sizeOf3 rfl rfl (hx.ints hI34 (fun k h ↦ by omega)) (by decide) (by show (0:Int)<xs.length;omega) ⟨⟨trivial,hx⟩,rfl⟩),
   fun c wx hx=>ObK.op rfl (O.load isAgg3 rfl (Ints.at (hx.ints hI34 (fun k h ↦ by omega)) (show 0<xs.length by omega)) ⟨⟨trivial,hx⟩,rfl⟩),
   fun c wx hx=>ObK.op rfl (O.move rfl ⟨⟨trivial,hx⟩,rfl⟩),
   fun c wx hx=>ObK.op rfl (O.indexAddr runUnderlying30 sizeOf3 rfl rfl (hx.ints hI34 (fun k h ↦ by omega)) (by decide) (by show (1:Int)<xs.length;omega) ⟨⟨trivial,hx⟩,rfl⟩),
   fun c wx hx=>ObK.op rfl (O.load isAgg3 rfl (Ints.at (hx.ints hI34 (fun k h ↦ by omega)) (show 1<xs.length by omega)) ⟨⟨trivial,hx⟩,rfl⟩),
   fun c wx hx=>ObK.op rfl (O.move rfl ⟨⟨trivial,hx⟩,rfl⟩),
   fun c wx hx=>ObK.op rfl (O.indexAddr runUnderlying30 sizeOf3 rfl rfl (hx.ints hI34 (fun k h ↦ by omega)) (by decide) (by show (2:Int)<xs.length;omega) ⟨⟨trivial,hx⟩,rfl⟩),
   fun c wx hx=>ObK.op rfl (O.load isAgg3 rfl (Ints.at (hx.ints hI34 (fun k h ↦ by omega)) (show 2<xs.length by omega)) ⟨⟨trivial,hx⟩,rfl⟩),
   fun c wx hx=>ObK.op rfl (O.nilCheck rfl ⟨⟨trivial,hx⟩,rfl⟩),
   fun c wx hx=>ObK.op rfl (O.fieldAddr runUnderlying129 rfl sizeOf48 rfl ⟨⟨trivial,hx⟩,rfl⟩),
   fun c wx hx=>ObK.op rfl (O.fieldAddr runUnderlying48 rfl sizeOf25 rfl ⟨⟨trivial,hx⟩,rfl⟩),
   fun c wx hx=>ObK.op rfl (O.fieldAddr runUnderlying25 rfl sizeOf3 rfl ⟨⟨trivial,hx⟩,rfl⟩),
   fun wx hx=>ObK.op rfl (O.store1_at sizeOf3 rfl rfl rfl hx.2 (show (2:Nat)<7 by decide) (fun w50 hu50 hB50=>⟨⟨trivial,hx.next hu50 hB50 rfl⟩,rfl⟩)),
   fun c wx hx=>ObK.op rfl (O.nilCheck rfl ⟨⟨trivial,hx⟩,rfl⟩),
   fun c wx hx=>ObK.op rfl (O.fieldAddr runUnderlying129 rfl sizeOf48 rfl ⟨⟨trivial,hx⟩,rfl⟩),
   fun c wx hx=>ObK.op rfl (O.fieldAddr runUnderlying48 rfl sizeOf25 rfl ⟨⟨trivial,hx⟩,rfl⟩),
   fun c wx hx=>ObK.op rfl (O.fieldAddr runUnderlying25 rfl sizeOf3 rfl ⟨⟨trivial,hx⟩,rfl⟩),
   fun wx hx=>ObK.op rfl (O.store1_at sizeOf3 rfl rfl rfl hx.2 (show (3:Nat)<7 by decide) (fun w54 hu54 hB54=>⟨⟨trivial,hx.next hu54 hB54 rfl⟩,rfl⟩)),
   trivial⟩ (fun w8 hI8=>?_)
 obtain ⟨hB8,hR8⟩:=hI8
 refine L.o (O.nilCheck rfl (L.o (O.fieldAddr runUnderlying129 rfl sizeOf48 rfl (L.o (O.fieldAddr runUnderlying48 rfl sizeOf25 rfl (L.o (O.fieldAddr runUnderlying25 rfl sizeOf3 rfl (L.o (O.store1_at sizeOf3 rfl rfl rfl hR8 (show (4:Nat)<7 by decide) (fun w58 hu58 hB58=>?_))))))))))
 refine L.nil (T.blk (T.region (L.m rfl (L.m rfl (L.o (O.nilCheck rfl (L.o (O.fieldAddr runUnderlying129 rfl sizeOf9 rfl (L.o (O.store1_at sizeOf9 rfl rfl rfl hB58 (show (6:Nat)<7 by decide) (fun w180 hu180 hB180=>?_)))))))))))
 have hz32:=he032.size
 have hBO:ButO (some b) w34 w180:=hB8.trans ⟨hu180.os.trans hu58.os,hu180.tape.trans hu58.tape,hu180.output.trans hu58.output,Nat.le_of_eq ((hu180.size.trans hu58.size).symm),fun k _ hk ↦ (hu180.block k (fun e ↦ hk (congrArg some e.symm))).trans (hu58.block k (fun e ↦ hk (congrArg some e.symm)))⟩
 refine L.nil (T.end0 results67 ⟨⟨d,hK34.setLand ⟨nums_bnd r xs hn 0 (by omega),nums_bnd r xs hn 1 (by omega),nums_bnd r xs hn 2 (by omega)⟩ hBO hB180⟩,fun k hk=>?_⟩)
 have hs:=hK.S k hk
 have z1:=he34.size
 exact (hBO.block k (by omega) (fun e=>hs.2.2 (by cases e;rfl))).trans ((he34.block k (Nat.zero_le _) (by omega)).trans (he032.block k (Nat.zero_le _) hs.2.1))

open Go Go.E RowKit

/-- A literal beside a row. -/
def LitO (ob:Option Nat) (el:TypeId) (cs:List Value) (v:Value) (W:World):Prop:=∃ k,v = .slice (some ⟨k,0,none⟩) 1 1∧ob≠some k∧Blk W k cs el
theorem LitO.st {ob:Option Nat} {el:TypeId} {cs:List Value} : ∀ v w w',ButO ob w w'→LitO ob el cs v w→LitO ob el cs v w':=fun _ _ _ h ⟨k,h1,h2,h3⟩=>⟨k,h1,h2,h.blk h3 h2⟩
/-- A row that has grown; its block is the old one, or new. -/
def GrwO (ob:Option Nat) (m:Nat) (el:TypeId) (sz n:Nat) (xs:List Value) (v:Value) (W:World):Prop:=W.ownsRow 0 el sz v n xs∧∀ k,v.ownBlock=some k→ob=some k∨m≤k
theorem GrwO.ext {ob:Option Nat} {m:Nat} {el:TypeId} {sz n:Nat} {xs:List Value} {v:Value} {W W':World} (h:GrwO ob m el sz n xs v W) (k:Ext W W'):GrwO ob m el sz n xs v W':=⟨owns_keep h.1 k (Nat.zero_le _),h.2⟩
theorem GrwO.updB {ob:Option Nat} {m b:Nat} {el t:TypeId} {sz n:Nat} {xs cs:List Value} {v:Value} {W W':World} (h:GrwO ob m el sz n xs v W) (k:Upd b W W') (hB:Blk W b cs t) (ht:el≠t):GrwO ob m el sz n xs v W' :=
 ⟨(OwnQ.stay (Q:=fun _=>True) (Q':=fun _=>True) ⟨h.1,fun _ _=>trivial⟩ fun j _ _ e B=>⟨trivial,Blk.upd B k (fun e2=>own_neB h.1 hB ht (by rw [e,e2]))⟩).1,h.2⟩
/-- A row that grows in a region: the value that the region has made says whether it is done. -/
def AppG (w:World) (ob:Option Nat) (i:Nat) (G:Value→World→Prop) (_:Nat) (σ:Vals) (W:World):Prop:=(σ i=none∧Ext w W)∨∃ v,σ i=some v∧ButO ob w W∧G v W
section
variable {w W W':World} {ob:Option Nat} {i c:Nat} {G:Value→World→Prop} {σ:Vals}
theorem AppG.but (h:AppG w ob i G c σ W):ButO ob w W:=by
 rcases h with ⟨_,h⟩|⟨v,_,h,_⟩
 ·exact .of_ext h
 ·exact h
theorem AppG.ext0 (h:AppG w ob i G c σ W) (hn:σ i=none):Ext w W:=by
 rcases h with ⟨_,h⟩|⟨v,h,_⟩
 ·exact h
 ·rw [hn] at h;cases h
theorem AppG.nop (h:AppG w ob i G c σ W) {k:Nat} {u:Value} (he:Ext W W') (hG:∀ v,G v W→G v W') (hi:k≠i):AppG w ob i G c (upV σ k u) W':=by
 rcases h with ⟨h1,h2⟩|⟨v,h1,h2,h3⟩
 ·exact .inl ⟨by rw [upV_ne _ _ hi];exact h1,h2.trans he⟩
 ·exact .inr ⟨v,by rw [upV_ne _ _ hi];exact h1,h2.trans (.of_ext he),hG v h3⟩
theorem AppG.app {c':Nat} (h:AppG w ob i G c σ W) {u:Value} (hn:σ i=none) (hg:W.grownBy W' ob) (hG:G u W'):AppG w ob i G c' (upV σ i u) W':=.inr ⟨u,upV_self _ _ _,(ButO.of_ext (h.ext0 hn)).trans (.of_grown hg),hG⟩
theorem AppG.done {u:Value} (h:AppG w ob i G c σ W) (hs:σ i=some u):ButO ob w W∧G u W:=by
 rcases h with ⟨h1,_⟩|⟨v,h1,h2,h3⟩
 ·rw [hs] at h1;cases h1
 ·rw [hs] at h1;cases h1;exact ⟨h2,h3⟩
end
theorem own_lt {base n sz k:Nat} {el:TypeId} {W:World} {v:Value} {xs:List Value} (h:W.ownsRow base el sz v n xs) (e:v.ownBlock=some k):k<W.heap.size:=by
 rcases h.2 with ⟨h4,_⟩|⟨g,cap,cur,rfl,_,hg,_⟩
 ·subst h4;cases e
 ·cases e;exact (Array.getElem?_eq_some_iff.1 hg).1
def pointS (s:PS) (xs:List Int):PS:={ s with ps:=s.ps ++ [(xs.getD 0 0,xs.getD 1 0)],last:=kPoint }
theorem RdK.setPoint {w0:World} {b:Nat} {d:RdD} {s:PS} {S:Nat→Prop} {W W':World} (h:RdK w0 b d s S W) {xs:List Int} {pv':Value} (hu:∀ k,k<W.heap.size→k≠b→d.pv.ownBlock≠some k→W'.heap[k]?=W.heap[k]?) (he:Ext w0 W') (hz:W.heap.size≤W'.heap.size)
  (hB:Blk W' b (rdCells { d with pv:=pv' } (pointS s xs)) 129) (hP:GrwO d.pv.ownBlock W.heap.size 124 2 (s.ps.length+1) (pcs s.ps++pC (xs.getD 0 0,xs.getD 1 0)) pv' W'):RdK w0 b { d with pv:=pv' } (pointS s xs) S W':=by
 have hk:∀ j cs t,t≠124→RdQ w0 b S j→Blk W j cs t→RdQ w0 b S j∧Blk W' j cs t:=fun j cs t ht q B=>⟨q,(hu j B.lt q.2.1 (own_neB h.pts.1 B (Ne.symm ht))).trans B⟩
 have hkI:∀ k cs,RdQ w0 b S k→Blk W k cs 3→RdQ w0 b S k∧Blk W' k cs 3:=fun k cs q B=>hk k cs _ (by decide) q B
 refine ⟨he,h.lo,hB,⟨?_,fun k e=>?_⟩,h.fsr.stay fun k cs q _ B=>hk k cs _ (by decide) q B,h.fsl,fun i hi=>?_,h.sep,h.usr.stay fun k cs q _ B=>hk k cs _ (by decide) q B,h.usl,fun i hi=>(h.un i hi).stay hkI,h.big,fun j hj=>by obtain ⟨a1,a2,a3⟩:=h.S j hj;exact ⟨a1,Nat.lt_of_lt_of_le a2 hz,a3⟩⟩
 ·have e1:(pointS s xs).ps.length=s.ps.length+1:=by simp [pointS]
  have e2:pcs (pointS s xs).ps=pcs s.ps++pC (xs.getD 0 0,xs.getD 1 0):=by simp [pointS,pcs]
  rw [e1,e2];exact hP.1
 ·have hlt:=Blk.lt (cs:=rdCells d s) h.row
  have hz0:=h.e.size
  rcases hP.2 k e with h1|h1
  ·exact h.pts.2 k h1
  ·exact ⟨by omega,by omega,fun hk=>by have:=(h.S k hk).2.1;omega⟩
 ·have f:=h.fa i hi
  exact ⟨f.ox,f.oi.stay hkI,f.hx,f.hv.stay fun k cs q _ B=>hk k cs _ (by decide) q B,fun x hx=>(f.ri x hx).stay hkI⟩
set_option maxHeartbeats 1000000 in
theorem take_point (w0:World) (b:Nat) (s:PS) (S:Nat→Prop) (l:Str) (r:List Str) (xs:List Int) (w:World) (hI:RdI w0 b s S w) (hL:LibM w) (hl:l.length≤100000) (hf:fieldsB l=kPoint::r) (hlast:s.last ∈ [kLand,kPoint]) (h3:r.length=2) (hn:numsP r=some xs) (hc:s.ps.length≤100000) :
  Calls Tryz.prog 67 #[.pointer (some ⟨b,0,none⟩),str l] w (Ret fun v w'=>RdI w0 b (pointS s xs) S w'∧∀ k,S k→w'.heap[k]?=w.heap[k]?):=by
 refine T.enter (vs:=[.pointer (some ⟨b,0,none⟩),str l]) func67 rfl ntmps67 rfl ?_
 refine T.q (L.m rfl (L.o (O.call (xs:=[.tmp 10,.func 121]) call120 rfl rfl (fields_calls l w hl) (fun v1 w1 hq=>?_))))
 obtain ⟨A,rfl,hS1,he1⟩:=hq
 obtain ⟨d,hK⟩:=hI
 have hK1:=hK.ext he1
 rw [hf]
 rw [hf] at hS1
 have hx3:xs.length=2:=by rw [← (numsP_some r xs hn).1];exact h3
 refine L.a rfl (L.nil (T.seq (T.q (L.m rfl (L.o (O.len runUnderlying61 rfl (Sl.val hS1) (L.o (O.eql_f rfl rfl (by simp;omega) (L.nil (T.cf (T.skip (T.seq (?_)))))))))))))
 refine T.anyE mixed 6 [4] rfl [.is _,.is _,.is _,.is _,.is _,.is _] [[],[0],[1],[],[3],[2]] [[],[0],[0,1],[],[3],[0,1,2],[0,1,2,3,4,5]] (by kernel_rfl) (by kernel_rfl) rfl (by kernel_rfl) trivial ⟨fun wx hx=>Ob.o (O.move rfl kR),
   fun wx hx=>Ob.o (O.indexAddr runUnderlying61 sizeOf9 rfl rfl (hS1.ext hx) (by decide) (by simp) kR),
   fun wx hx=>Ob.o (O.load isAgg9 rfl ((hS1.ext hx).at (show 0<(kPoint::r).length by simp)) kR),
   fun wx hx=>Ob.o (O.move rfl kR),
   fun wx hx=>Ob.o (O.cutLx (l:=1) runUnderlying61 sizeOf9 rfl rfl hS1 (by simp) kR),
   fun wx hx=>Ob.o (O.assign rfl kR),
   trivial⟩ (fun w2 he2=>?_)
 have hR2:=rest_words (hS1.ext he2) rfl
 refine L.a rfl (L.nil (T.seq (T.q (L.m rfl (L.nil (T.block (T.q (L.o (O.eql_str_f runUnderlying9 rfl rfl (show ¬ kPoint=kLand by decide) (L.a rfl (L.nil (T.cf (T.q (L.o (O.eql_str_t runUnderlying9 rfl rfl rfl (L.a rfl (L.nil (T.ct (T.q (L.m rfl (L.o (O.buildSlice (el:=9) (parts:=[(0,_),(1,_)]) (vs:=[(0,_),(1,_)]) (cs:=([kLand,kPoint].map str)) rfl (fun w=>by kernel_rfl) (fun b62 w62 hb62 hz62 he62 hB62=>?_)))))))))))))))))))))))
 have hK25:=(hK1.ext he2).ext he62
 refine L.o (O.call (xs:=[.tmp 61,.tmp 62]) call68 rfl rfl (after_calls 0 _ [kLand,kPoint] b (rdCells d s) s.last w62 (Strs.of_blk hB62 rfl (by decide) (Nat.zero_le _)) hK25.row rfl) (fun v63 w63 hq=>?_))
 obtain ⟨rfl,rfl⟩:=hq
 rw [decide_eq_true hlast]
 refine L.m rfl (L.m rfl (L.o (O.len runUnderlying61 rfl (Sl.val (hR2.ext he62)) (L.o (O.eql_t rfl rfl (by omega) (L.o (O.pick_true rfl rfl (L.o (O.call (xs:=[.tmp 68]) call108 rfl rfl (need_yes w63) (fun v69 w69 hq=>?_))))))))))
 obtain rfl:=hq
 have he069:=(he1.trans he2).trans he62
 refine L.nil (T.q (L.m rfl (L.o (O.call (xs:=[.tmp 70]) call122 rfl rfl (numbers_yes _ _ r xs w69 (hR2.ext he62) (hL.ext he069) (words_short hl hf) hn (by omega)) (fun v71 w71 hq=>?_)))))
 obtain ⟨hO71,he71⟩:=hq
 have hK71:=hK25.ext he71
 have hI71:IntsB (fun k ↦ w69.heap.size≤k) w71 v71 xs:=IntsB.of_owns hO71 (fun k h _ ↦ h)
 have hint:∀ W,ButO d.pv.ownBlock w71 W→Ints .i64 0 W v71 xs:=fun W h ↦ (hI71.stay (Q':=fun _ ↦ True) fun k cs q B ↦ ⟨trivial,h.blk B (own_neB hK71.pts.1 B (by decide))⟩).ints
 have hpb:d.pv.ownBlock≠some b:=fun e ↦ (hK71.pts.2 b e).2.1 rfl
 refine L.a rfl (L.nil (?_))
 refine T.anyG mixed 16 0 [0,8] rfl [.is _,.is _,.is _,.is _,.is _,.is _,.is _,.is _,.is _,.is _,.is _,.is _,.is _,.is _,.such (LitO d.pv.ownBlock 124 (pC (xs.getD 0 0,xs.getD 1 0))),.such (fun _ _=>True)] [[],[],[1],[2],[3],[4],[5],[],[7],[8],[],[10],[11],[9,12],[13],[6,14]] [none,none,none,none,none,none,none,none,none,none,none,none,none,none,none,none] [[],[],[1],[1,2],[1,2,3],[1,2,3,4],[1,2,3,4,5],[],[7],[7,8],[],[10],[10,11],[7,8,9,10,11,12],[7,8,9,10,11,12,13],[1,2,3,4,5,6,7,8,9,10,11,12,13,14],[0,1,2,3,4,5,6,7,8,9,10,11,12,13,14,15],[0,1,2,3,4,5,6,7,8,9,10,11,12,13,14,15,16],[0,1,2,3,4,5,6,7,8,9,10,11,12,13,14,15,16,17],[0,1,2,3,4,5,6,7,8,9,10,11,12,13,14,15,16,17,18],[0,1,2,3,4,5,6,7,8,9,10,11,12,13,14,15,16,17,18,19]] (AppG w71 d.pv.ownBlock 15 (GrwO d.pv.ownBlock w71.heap.size 124 2 (s.ps.length+1) (pcs s.ps++pC (xs.getD 0 0,xs.getD 1 0)))) (ButO d.pv.ownBlock) (by kernel_rfl) (by kernel_rfl) (by kernel_rfl) rfl ⟨LitO.st,fun _ _ _ _ _=>trivial,trivial⟩ (.inl ⟨rfl,Keep.drew _ _⟩) ⟨fun c σ wx hx hn hl=>ObG.op rfl (O.move rfl ⟨⟨ButO.refl _ _,hx.nop (Keep.refl _ _) (fun _ g ↦ g) (by decide)⟩,rfl⟩),
   fun c σ wx hx hn hl=>ObG.op rfl (O.move rfl ⟨⟨ButO.refl _ _,hx.nop (Keep.refl _ _) (fun _ g ↦ g) (by decide)⟩,rfl⟩),
   fun c σ wx hx hn hl=>ObG.op rfl (O.nilCheck rfl ⟨⟨ButO.refl _ _,hx.nop (Keep.refl _ _) (fun _ g ↦ g) (by decide)⟩,rfl⟩),
   fun c σ wx hx hn hl=>ObG.op rfl (O.fieldAddr runUnderlying129 rfl sizeOf48 rfl ⟨⟨ButO.refl _ _,hx.nop (Keep.refl _ _) (fun _ g ↦ g) (by decide)⟩,rfl⟩),
   fun c σ wx hx hn hl=>ObG.op rfl (O.fieldAddr runUnderlying48 rfl sizeOf46 rfl ⟨⟨ButO.refl _ _,hx.nop (Keep.refl _ _) (fun _ g ↦ g) (by decide)⟩,rfl⟩),
   fun c σ wx hx hn hl=>ObG.op rfl (O.fieldAddr runUnderlying46 rfl sizeOf43 rfl ⟨⟨ButO.refl _ _,hx.nop (Keep.refl _ _) (fun _ g ↦ g) (by decide)⟩,rfl⟩),
   fun c σ wx hx hn hl=>ObG.op rfl (O.load isAgg43 rfl ((hx.but.blk (cs:=rdCells d s) hK71.row hpb).cell rfl) ⟨⟨ButO.refl _ _,hx.nop (Keep.refl _ _) (fun _ g ↦ g) (by decide)⟩,rfl⟩),
   fun c σ wx hx hn hl=>ObG.op rfl (O.move rfl ⟨⟨ButO.refl _ _,hx.nop (Keep.refl _ _) (fun _ g ↦ g) (by decide)⟩,rfl⟩),
   fun c σ wx hx hn hl=>ObG.op rfl (O.indexAddr runUnderlying30 sizeOf3 rfl rfl (hint _ hx.but) (by decide) (by show (0:Int)<xs.length;omega) ⟨⟨ButO.refl _ _,hx.nop (Keep.refl _ _) (fun _ g ↦ g) (by decide)⟩,rfl⟩),
   fun c σ wx hx hn hl=>ObG.op rfl (O.load isAgg3 rfl (Ints.at (hint _ hx.but) (show 0<xs.length by omega)) ⟨⟨ButO.refl _ _,hx.nop (Keep.refl _ _) (fun _ g ↦ g) (by decide)⟩,rfl⟩),
   fun c σ wx hx hn hl=>ObG.op rfl (O.move rfl ⟨⟨ButO.refl _ _,hx.nop (Keep.refl _ _) (fun _ g ↦ g) (by decide)⟩,rfl⟩),
   fun c σ wx hx hn hl=>ObG.op rfl (O.indexAddr runUnderlying30 sizeOf3 rfl rfl (hint _ hx.but) (by decide) (by show (1:Int)<xs.length;omega) ⟨⟨ButO.refl _ _,hx.nop (Keep.refl _ _) (fun _ g ↦ g) (by decide)⟩,rfl⟩),
   fun c σ wx hx hn hl=>ObG.op rfl (O.load isAgg3 rfl (Ints.at (hint _ hx.but) (show 1<xs.length by omega)) ⟨⟨ButO.refl _ _,hx.nop (Keep.refl _ _) (fun _ g ↦ g) (by decide)⟩,rfl⟩),
   fun c σ wx hx hn hl=>ObG.op rfl (O.build (v:=.agg #[.int .i64 (xs.getD 0 0),.int .i64 (xs.getD 1 0)]) (parts:=[(0,.tmp 81),(1,.tmp 84)]) (vs:=[(0,_),(1,_)]) rfl (fun w=>by kernel_rfl) ⟨⟨ButO.refl _ _,hx.nop (Keep.refl _ _) (fun _ g ↦ g) (by decide)⟩,rfl⟩),
   fun c σ wx hx hn hl=>ObG.op rfl (O.buildSlice (el:=124) (parts:=[(0,.tmp 85)]) (vs:=[(0,_)]) (cs:=(pC (xs.getD 0 0,xs.getD 1 0))) rfl (fun w=>by kernel_rfl) (fun b86 w86 hb86 hz86 he86 hB86=>⟨⟨ButO.of_ext he86,hx.nop he86 (fun _ g ↦ g.ext he86) (by decide)⟩,b86,rfl,fun e=>by have:=own_lt hK71.pts.1 e;have:=hx.but.size;omega,hB86⟩)),
   fun c σ wx hx hn v86 hv86 hl=>by { obtain ⟨bl,rfl,hbn,hBl⟩:=hv86;exact ObG.op rfl (O.appendF (size:=2) (bytes:=16) runUnderlying43 Tryz.infoOf124 rfl rfl rfl rfl (by decide) rfl rfl (owns_keep hK71.pts.1 (hx.ext0 hn) (Nat.zero_le _)) rfl (Row.of_blk hBl) (pC_one _) (by omega) (by simp only [maxLen];omega) (Nat.zero_le _) (fun v87 w87 hO87 hG87 hF87=>⟨⟨ButO.of_grown hG87,hx.app hn hG87 ⟨hO87,fun k e=>(hF87 k e).imp id (fun h=>Nat.le_trans (hx.ext0 hn).size h)⟩⟩,trivial⟩)) },
   trivial⟩ (fun σ12 w12 hI12 v86 hv86 v87 hv87 hl12=>?_)
 obtain ⟨hB12,hP12⟩:=hI12.done (hl12 15 (by decide) _ _ rfl rfl).symm
 refine L.o (O.nilCheck rfl (L.o (O.fieldAddr runUnderlying129 rfl sizeOf48 rfl (L.o (O.fieldAddr runUnderlying48 rfl sizeOf46 rfl (L.o (O.fieldAddr runUnderlying46 rfl sizeOf43 rfl (L.o (O.store1_at sizeOf43 (Sl.one (Sl.of_owns hP12.1)) rfl rfl (hB12.blk (cs:=rdCells d s) hK71.row hpb) (show (0:Nat)<7 by decide) (fun w91 hu91 hB91=>?_))))))))))
 refine L.nil (T.blk (T.region (L.m rfl (L.m rfl (L.o (O.nilCheck rfl (L.o (O.fieldAddr runUnderlying129 rfl sizeOf9 rfl (L.o (O.store1_at sizeOf9 rfl rfl rfl hB91 (show (6:Nat)<7 by decide) (fun w180 hu180 hB180=>?_)))))))))))
 have hO180:GrwO d.pv.ownBlock w71.heap.size 124 2 (s.ps.length+1) (pcs s.ps++pC (xs.getD 0 0,xs.getD 1 0)) v87 w180:=(hP12.updB hu91 (hB12.blk (cs:=rdCells d s) hK71.row hpb) (by decide)).updB hu180 hB91 (by decide)
 have hE180:Ext w0 w180:=((hB12.ext hK71.e (fun k e ↦ (hK71.pts.2 k e).1)).upd hu91 (.inr hK71.lo)).upd hu180 (.inr hK71.lo)
 have hz180:w71.heap.size≤w180.heap.size:=by have:=hB12.size;have:=hu91.size;have:=hu180.size;omega
 have hkeep:∀ k,k<w71.heap.size→k≠b→d.pv.ownBlock≠some k→w180.heap[k]?=w71.heap[k]?:=fun k h1 h2 h3 ↦ (hu180.block k h2).trans ((hu91.block k h2).trans (hB12.block k h1 h3))
 refine L.nil (T.end0 results67 ⟨⟨{ d with pv:=v87 },hK71.setPoint hkeep hE180 hz180 hB180 hO180⟩,fun k hk=>?_⟩)
 have hs:=hK.S k hk
 have z1:=he71.size
 have z2:=he069.size
 exact (hkeep k (by omega) hs.2.2 (fun e=>(hK71.pts.2 k e).2.2 hk)).trans ((he71.block k (Nat.zero_le _) (by omega)).trans (he069.block k (Nat.zero_le _) hs.2.1))

open Go Go.E RowKit

theorem ButO.keep {ob:Option Nat} {lo:Nat} {w w':World} (h:ButO ob w w') (hm:∀ k,ob=some k→k<lo):Keep lo w w':=⟨h.os,h.tape,h.output,h.size,fun k hl hk=>h.block k hk (fun e=>by have:=hm k e;omega)⟩
def newQ (m:Nat) (k:Nat):Prop:=m≤k
/-- New numbers. -/
def NumO (m:Nat) (xs:List Int) (v:Value) (W:World):Prop:=∃ oa cp,v = .slice oa xs.length cp∧IntsB (newQ m) W v xs
theorem IntsB.form {Q:Nat→Prop} {W:World} {v:Value} {xs:List Int} (h:IntsB Q W v xs):∃ oa cp,v = .slice oa xs.length cp:=by
 rcases h with ⟨rfl,rfl⟩|⟨k,off,cap,cs,rfl,_⟩
 ·exact ⟨none,0,rfl⟩
 ·exact ⟨_,_,rfl⟩
theorem IntsB.butN {ob:Option Nat} {m:Nat} {W W':World} {v:Value} {xs:List Int} (hm:∀ k,ob=some k→k<m) (h:IntsB (newQ m) W v xs) (k:ButO ob W W'):IntsB (newQ m) W' v xs:=h.stay fun j cs q B=>⟨q,k.blk B (fun e=>by have:=hm j e;unfold newQ at q;omega)⟩
theorem NumO.st {ob:Option Nat} {m:Nat} {xs:List Int} (hm:∀ k,ob=some k→k<m):∀ v w w',ButO ob w w'→NumO m xs v w→NumO m xs v w':=fun _ _ _ h ⟨oa,cp,h1,h2⟩=>⟨oa,cp,h1,h2.butN hm h⟩
/-- A new face. -/
def FacO (m:Nat) (xs:List Int) (v:Value) (W:World):Prop:=∃ oa cp,v = .agg #[.slice oa xs.length cp,.slice none 0 0]∧IntsB (newQ m) W (.slice oa xs.length cp) xs
theorem FacO.st {ob:Option Nat} {m:Nat} {xs:List Int} (hm:∀ k,ob=some k→k<m):∀ v w w',ButO ob w w'→FacO m xs v w→FacO m xs v w':=fun _ _ _ h ⟨oa,cp,h1,h2⟩=>⟨oa,cp,h1,h2.butN hm h⟩
def LitF (ob:Option Nat) (m:Nat) (xs:List Int) (v:Value) (W:World):Prop:=∃ k oa cp,v = .slice (some ⟨k,0,none⟩) 1 1∧ob≠some k∧Blk W k [.slice oa xs.length cp,.slice none 0 0] 127∧IntsB (newQ m) W (.slice oa xs.length cp) xs
theorem LitF.st {ob:Option Nat} {m:Nat} {xs:List Int} (hm:∀ k,ob=some k→k<m):∀ v w w',ButO ob w w'→LitF ob m xs v w→LitF ob m xs v w':=fun _ _ _ h ⟨k,oa,cp,h1,h2,h3,h4⟩=>⟨k,oa,cp,h1,h2,h.blk (cs:=[.slice oa xs.length cp,.slice none 0 0]) h3 h2,h4.butN hm h⟩
/-- The faces, one more. -/
def GrwF (ob:Option Nat) (m:Nat) (vs:List FaV) (xs:List Int) (v:Value) (W:World):Prop:=∃ u,GrwO ob m 127 2 (vs.length+1) (fcells vs ++ [u,.slice none 0 0]) v W∧IntsB (newQ m) W u xs
theorem GrwF.ext {ob:Option Nat} {m:Nat} {vs:List FaV} {xs:List Int} {v:Value} {W W':World} (h:GrwF ob m vs xs v W) (k:Ext W W'):GrwF ob m vs xs v W':=by
 obtain ⟨u,h1,h2⟩:=h
 exact ⟨u,h1.ext k,h2.stay fun j cs q B=>⟨q,Blk.ext B k⟩⟩
def faceS (s:PS) (xs:List Int):PS:={ s with fs:=s.fs ++ [(xs,[])],last:=kFace }
def faceD (d:RdD) (v u:Value) (xs:List Int):RdD:={ d with fv:=v,vs:=d.vs ++ [⟨⟨u,xs⟩,.slice none 0 0,[]⟩] }
theorem GrwF.updB {ob:Option Nat} {m b:Nat} {t:TypeId} {vs:List FaV} {xs:List Int} {cs:List Value} {v:Value} {W W':World} (h:GrwF ob m vs xs v W) (k:Upd b W W') (hB:Blk W b cs t) (ht:127≠t) (hm:b<m):GrwF ob m vs xs v W':=by
 obtain ⟨u,h1,h2⟩:=h
 exact ⟨u,h1.updB k hB ht,h2.stay fun j cs q B=>⟨q,Blk.upd B k (fun e=>by unfold newQ at q;omega)⟩⟩
theorem getD_app_l {α:Type} {l r:List α} {i:Nat} {x:α} (h:i<l.length):(l++r).getD i x=l.getD i x:=by
 rw [List.getD_eq_getElem?_getD,List.getElem?_append_left h,← List.getD_eq_getElem?_getD]
theorem getD_app_e {α:Type} {l:List α} {i:Nat} {x y:α} (h:i=l.length):(l ++ [y]).getD i x=y:=by
 subst h;simp [List.getD]
theorem RdK.setFace {w0:World} {b:Nat} {d:RdD} {s:PS} {S:Nat→Prop} {W W':World} (h:RdK w0 b d s S W) {xs:List Int} {v u:Value} (hu:∀ k,k<W.heap.size→k≠b→d.fv.ownBlock≠some k→W'.heap[k]?=W.heap[k]?) (he:Ext w0 W') (hz:W.heap.size≤W'.heap.size)
  (hB:Blk W' b (rdCells (faceD d v u xs) (faceS s xs)) 129) (hG:GrwO d.fv.ownBlock W.heap.size 127 2 (d.vs.length+1) (fcells d.vs ++ [u,.slice none 0 0]) v W') (hI:IntsB (newQ W.heap.size) W' u xs):RdK w0 b (faceD d v u xs) (faceS s xs) S W':=by
 have hk:∀ j cs t,t≠127→RdQ w0 b S j→Blk W j cs t→RdQ w0 b S j∧Blk W' j cs t:=fun j cs t ht q B=>⟨q,(hu j B.lt q.2.1 (own_neB h.fsr.1 B (Ne.symm ht))).trans B⟩
 have hkI:∀ k cs,RdQ w0 b S k→Blk W k cs 3→RdQ w0 b S k∧Blk W' k cs 3:=fun k cs q B=>hk k cs _ (by decide) q B
 have hlt:=Blk.lt (cs:=rdCells d s) h.row
 have hz0:=h.e.size
 have hnew:∀ k,W.heap.size≤k→RdQ w0 b S k:=fun k h1=>⟨by omega,by omega,fun hk=>by have:=(h.S k hk).2.1;omega⟩
 have hvl:(faceD d v u xs).vs.length=d.vs.length+1:=by simp [faceD]
 have hfl:=h.fsl
 refine ⟨he,h.lo,hB,h.pts.stay fun k cs q _ B=>hk k cs _ (by decide) q B,⟨?_,fun k e=>?_⟩,by simp [faceD,faceS,hfl],fun i hi=>?_,fun i hi k e=>?_,h.usr.stay fun k cs q _ B=>hk k cs _ (by decide) q B,h.usl,fun i hi=>(h.un i hi).stay hkI,h.big,fun j hj=>by obtain ⟨a1,a2,a3⟩:=h.S j hj;exact ⟨a1,Nat.lt_of_lt_of_le a2 hz,a3⟩⟩
 ·have e2:fcells (faceD d v u xs).vs=fcells d.vs ++ [u,.slice none 0 0]:=by simp [faceD,fcells,FaV.cells]
  rw [hvl,e2];exact hG.1
 ·rcases hG.2 k e with h1|h1
  ·exact h.fsr.2 k h1
  ·exact hnew k h1
 ·rw [hvl] at hi
  rcases Nat.lt_or_ge i d.vs.length with h1|h1
  ·have f:=h.fa i h1
   have e1:(faceD d v u xs).vs.getD i f0=d.vs.getD i f0:=getD_app_l h1
   have e2:(faceS s xs).fs.getD i ([],[])=s.fs.getD i ([],[]):=getD_app_l (by omega)
   rw [e1,e2]
   exact ⟨f.ox,f.oi.stay hkI,f.hx,f.hv.stay fun k cs q _ B=>hk k cs _ (by decide) q B,fun x hx=>(f.ri x hx).stay hkI⟩
  ·have e1:(faceD d v u xs).vs.getD i f0=⟨⟨u,xs⟩,.slice none 0 0,[]⟩:=getD_app_e (by omega)
   have e2:(faceS s xs).fs.getD i ([],[])=(xs,[]):=getD_app_e (by omega)
   rw [e1,e2]
   exact ⟨rfl,hI.stay fun k cs q B=>⟨hnew k q,B⟩,rfl,OwnQ.nil _ _ _ _,fun x hx=>by cases hx⟩
 ·rw [hvl] at e
  have e1:(faceD d v u xs).vs.getD (d.vs.length+1-1) f0=⟨⟨u,xs⟩,.slice none 0 0,[]⟩:=getD_app_e (by omega)
  rw [e1] at e
  cases e
set_option maxHeartbeats 1000000 in
theorem take_face (w0:World) (b:Nat) (s:PS) (S:Nat→Prop) (l:Str) (r:List Str) (xs:List Int) (w:World) (hI:RdI w0 b s S w) (hL0:LibM w0) (hll:l.length≤100000) (hf:fieldsB l=kFace::r) (hlast:s.last ∈ [kLand,kPoint,kFace,kHole]) (hr:r.length≤100000) (hnum:numsP r=some xs) (hc:s.fs.length≤100000) :
  Calls Tryz.prog 67 #[.pointer (some ⟨b,0,none⟩),str l] w (Ret fun v w'=>RdI w0 b (faceS s xs) S w'∧∀ k,S k→w'.heap[k]?=w.heap[k]?):=by
 refine T.enter (vs:=[.pointer (some ⟨b,0,none⟩),str l]) func67 rfl ntmps67 rfl ?_
 refine T.q (L.m rfl (L.o (O.call (xs:=[.tmp 10,.func 121]) call120 rfl rfl (fields_calls l w hll) (fun v1 w1 hq=>?_))))
 obtain ⟨A,rfl,hS1,he1⟩:=hq
 obtain ⟨d,hK⟩:=hI
 have hK1:=hK.ext he1
 rw [hf]
 rw [hf] at hS1
 refine L.a rfl (L.nil (T.seq (T.q (L.m rfl (L.o (O.len runUnderlying61 rfl (Sl.val hS1) (L.o (O.eql_f rfl rfl (by simp;omega) (L.nil (T.cf (T.skip (T.seq (?_)))))))))))))
 refine T.anyE mixed 6 [4] rfl [.is _,.is _,.is _,.is _,.is _,.is _] [[],[0],[1],[],[3],[2]] [[],[0],[0,1],[],[3],[0,1,2],[0,1,2,3,4,5]] (by kernel_rfl) (by kernel_rfl) rfl (by kernel_rfl) trivial ⟨fun wx hx=>Ob.o (O.move rfl kR),
   fun wx hx=>Ob.o (O.indexAddr runUnderlying61 sizeOf9 rfl rfl (hS1.ext hx) (by decide) (by simp) kR),
   fun wx hx=>Ob.o (O.load isAgg9 rfl ((hS1.ext hx).at (show 0<(kFace::r).length by simp)) kR),
   fun wx hx=>Ob.o (O.move rfl kR),
   fun wx hx=>Ob.o (O.cutLx (l:=1) runUnderlying61 sizeOf9 rfl rfl hS1 (by simp) kR),
   fun wx hx=>Ob.o (O.assign rfl kR),
   trivial⟩ (fun w2 he2=>?_)
 have hR2:=rest_words (hS1.ext he2) rfl
 refine L.a rfl (L.nil (T.seq (T.q (L.m rfl (L.nil (T.block (T.q (L.o (O.eql_str_f runUnderlying9 rfl rfl (show ¬ kFace=kLand by decide) (L.a rfl (L.nil (T.cf (T.q (L.o (O.eql_str_f runUnderlying9 rfl rfl (show ¬ kFace=kPoint by decide) (L.a rfl (L.nil (T.cf (T.q (L.o (O.eql_str_t runUnderlying9 rfl rfl rfl (L.a rfl (?_)))))))))))))))))))))))
 refine L.nil (T.ct (T.q (L.m rfl (L.o (O.buildSlice (el:=9) (parts:=[(0,_),(1,_),(2,_),(3,_)]) (vs:=[(0,_),(1,_),(2,_),(3,_)]) (cs:=([kLand,kPoint,kFace,kHole].map str)) rfl (fun w=>by kernel_rfl) (fun b95 w95 hb95 hz95 he95 hB95=>?_))))))
 have hK25:=(hK1.ext he2).ext he95
 refine L.o (O.call (xs:=[.tmp 94,.tmp 95]) call68 rfl rfl (after_calls 0 _ [kLand,kPoint,kFace,kHole] b (rdCells d s) s.last w95 (Strs.of_blk hB95 rfl (by decide) (Nat.zero_le _)) hK25.row rfl) (fun v96 w96 hq=>?_))
 obtain ⟨rfl,rfl⟩:=hq
 rw [decide_eq_true hlast]
 refine L.o (O.call (xs:=[.tmp 96]) call108 rfl rfl (need_yes w96) (fun v97 w97 hq=>?_))
 obtain rfl:=hq
 have he097:=(he1.trans he2).trans he95
 have hpb:d.fv.ownBlock≠some b:=fun e ↦ (hK25.fsr.2 b e).2.1 rfl
 have hm:∀ k,d.fv.ownBlock=some k→k<w97.heap.size:=fun k e ↦ own_lt hK25.fsr.1 e
 have hvl:=hK25.fsl
 refine L.nil (?_)
 refine T.anyG mixed 12 0 [0,6] rfl [.is _,.is _,.is _,.is _,.is _,.is _,.is _,.is _,.such (NumO w97.heap.size xs),.such (FacO w97.heap.size xs),.such (LitF d.fv.ownBlock w97.heap.size xs),.such (fun _ _=>True)] [[],[],[1],[2],[3],[4],[5],[],[7],[8],[9],[6,10]] [none,none,none,none,none,none,none,none,none,none,none,none] [[],[],[1],[1,2],[1,2,3],[1,2,3,4],[1,2,3,4,5],[],[7],[7,8],[7,8,9],[1,2,3,4,5,6,7,8,9,10],[0,1,2,3,4,5,6,7,8,9,10,11],[0,1,2,3,4,5,6,7,8,9,10,11,12],[0,1,2,3,4,5,6,7,8,9,10,11,12,13],[0,1,2,3,4,5,6,7,8,9,10,11,12,13,14],[0,1,2,3,4,5,6,7,8,9,10,11,12,13,14,15]] (AppG w97 d.fv.ownBlock 11 (GrwF d.fv.ownBlock w97.heap.size d.vs xs)) (ButO d.fv.ownBlock) (by kernel_rfl) (by kernel_rfl) (by kernel_rfl) rfl ⟨NumO.st hm,FacO.st hm,LitF.st hm,fun _ _ _ _ _=>trivial,trivial⟩ (.inl ⟨rfl,Keep.drew _ _⟩) ⟨fun c σ wx hx hn hl=>ObG.op rfl (O.move rfl ⟨⟨ButO.refl _ _,hx.nop (Keep.refl _ _) (fun _ g ↦ g) (by decide)⟩,rfl⟩),
   fun c σ wx hx hn hl=>ObG.op rfl (O.move rfl ⟨⟨ButO.refl _ _,hx.nop (Keep.refl _ _) (fun _ g ↦ g) (by decide)⟩,rfl⟩),
   fun c σ wx hx hn hl=>ObG.op rfl (O.nilCheck rfl ⟨⟨ButO.refl _ _,hx.nop (Keep.refl _ _) (fun _ g ↦ g) (by decide)⟩,rfl⟩),
   fun c σ wx hx hn hl=>ObG.op rfl (O.fieldAddr runUnderlying129 rfl sizeOf48 rfl ⟨⟨ButO.refl _ _,hx.nop (Keep.refl _ _) (fun _ g ↦ g) (by decide)⟩,rfl⟩),
   fun c σ wx hx hn hl=>ObG.op rfl (O.fieldAddr runUnderlying48 rfl sizeOf46 rfl ⟨⟨ButO.refl _ _,hx.nop (Keep.refl _ _) (fun _ g ↦ g) (by decide)⟩,rfl⟩),
   fun c σ wx hx hn hl=>ObG.op rfl (O.fieldAddr runUnderlying46 rfl sizeOf44 rfl ⟨⟨ButO.refl _ _,hx.nop (Keep.refl _ _) (fun _ g ↦ g) (by decide)⟩,rfl⟩),
   fun c σ wx hx hn hl=>ObG.op rfl (O.load isAgg44 rfl ((hx.but.blk (cs:=rdCells d s) hK25.row hpb).cell rfl) ⟨⟨ButO.refl _ _,hx.nop (Keep.refl _ _) (fun _ g ↦ g) (by decide)⟩,rfl⟩),
   fun c σ wx hx hn hl=>ObG.op rfl (O.move rfl ⟨⟨ButO.refl _ _,hx.nop (Keep.refl _ _) (fun _ g ↦ g) (by decide)⟩,rfl⟩),
   fun c σ wx hx hn hl=>ObG.op rfl (O.call (xs:=[.tmp 105]) call122 rfl rfl (numbers_yes 0 _ r xs wx (Sl.mono (Sl.keep (Strs.ext hR2 he95) (hx.but.keep (lo:=w.heap.size) (fun k e ↦ own_lt hK.fsr.1 e))) (Nat.zero_le _)) (hL0.ext (hx.but.ext hK25.e (fun k e ↦ (hK25.fsr.2 k e).1))) (words_short hll hf) hnum (by omega)) (fun v wy h=>⟨⟨ButO.of_ext h.2,hx.nop h.2 (fun _ g ↦ g.ext h.2) (by decide)⟩,by obtain ⟨h1,h2⟩:=h;have hB:=IntsB.of_owns (Q:=newQ w97.heap.size) h1 (fun k hk _ ↦ Nat.le_trans hx.but.size hk);obtain ⟨oa,cp,e⟩:=hB.form;exact ⟨oa,cp,e,hB⟩⟩)),
   fun c σ wx hx hn v106 hv106 hl=>by { obtain ⟨oa,cp,rfl,hI⟩:=hv106;exact ObG.op rfl (O.build (v:=.agg #[.slice oa xs.length cp,.slice none 0 0]) (parts:=[(0,.tmp 106)]) (vs:=[(0,_)]) rfl (fun w=>by kernel_rfl) ⟨⟨ButO.refl _ _,hx.nop (Keep.refl _ _) (fun _ g ↦ g) (by decide)⟩,oa,cp,rfl,hI⟩) },
   fun c σ wx hx hn v107 hv107 hl=>by { obtain ⟨oa,cp,rfl,hI⟩:=hv107;exact ObG.op rfl (O.buildSlice (el:=127) (parts:=[(0,.tmp 107)]) (vs:=[(0,_)]) (cs:=[.slice oa xs.length cp,.slice none 0 0]) rfl (fun w=>by kernel_rfl) (fun b108 w108 hb108 hz108 he108 hB108=>⟨⟨ButO.of_ext he108,hx.nop he108 (fun _ g ↦ g.ext he108) (by decide)⟩,b108,oa,cp,rfl,fun e=>by have:=hm _ e;have:=hx.but.size;omega,hB108,hI.butN hm (ButO.of_ext he108)⟩)) },
   fun c σ wx hx hn v108 hv108 hl=>by { obtain ⟨bl,oa,cp,rfl,hbn,hBl,hIl⟩:=hv108;exact ObG.op rfl (O.appendF (size:=2) (bytes:=48) runUnderlying44 Tryz.infoOf127 rfl rfl rfl rfl (by decide) rfl rfl (owns_keep hK25.fsr.1 (hx.ext0 hn) (Nat.zero_le _)) rfl (Row.of_blk hBl) (by intro u hu;simp at hu;obtain (rfl|rfl):=hu <;> rfl) (by omega) (by simp only [maxLen];omega) (Nat.zero_le _) (fun v109 w109 hO109 hG109 hF109=>⟨⟨ButO.of_grown hG109,hx.app hn hG109 ⟨.slice oa xs.length cp,⟨hO109,fun k e=>(hF109 k e).imp id (fun h=>Nat.le_trans (hx.ext0 hn).size h)⟩,hIl.butN hm (ButO.of_grown hG109)⟩⟩,trivial⟩)) },
   trivial⟩ (fun σ15 w15 hI15 v106 hv106 v107 hv107 v108 hv108 v109 hv109 hl15=>?_)
 obtain ⟨hB15,hP15⟩:=hI15.done (hl15 11 (by decide) _ _ rfl rfl).symm
 refine L.o (O.nilCheck rfl (L.o (O.fieldAddr runUnderlying129 rfl sizeOf48 rfl (L.o (O.fieldAddr runUnderlying48 rfl sizeOf46 rfl (L.o (O.fieldAddr runUnderlying46 rfl sizeOf44 rfl (L.o (O.store1_at sizeOf44 (by obtain ⟨u,h1,_⟩:=hP15;exact Sl.one (Sl.of_owns h1.1)) rfl rfl (hB15.blk (cs:=rdCells d s) hK25.row hpb) (show (1:Nat)<7 by decide) (fun w113 hu113 hB113=>?_))))))))))
 refine L.nil (T.blk (T.region (L.m rfl (L.m rfl (L.o (O.nilCheck rfl (L.o (O.fieldAddr runUnderlying129 rfl sizeOf9 rfl (L.o (O.store1_at sizeOf9 rfl rfl rfl hB113 (show (6:Nat)<7 by decide) (fun w180 hu180 hB180=>?_)))))))))))
 have hb97:=Blk.lt (cs:=rdCells d s) hK25.row
 obtain ⟨u,hGu,hIu⟩:=(hP15.updB hu113 (hB15.blk (cs:=rdCells d s) hK25.row hpb) (by decide) hb97).updB hu180 hB113 (by decide) hb97
 have hE180:Ext w0 w180:=((hB15.ext hK25.e (fun k e ↦ (hK25.fsr.2 k e).1)).upd hu113 (.inr hK25.lo)).upd hu180 (.inr hK25.lo)
 have hz180:w97.heap.size≤w180.heap.size:=by have:=hB15.size;have:=hu113.size;have:=hu180.size;omega
 have hkeep:∀ k,k<w97.heap.size→k≠b→d.fv.ownBlock≠some k→w180.heap[k]?=w97.heap[k]?:=fun k h1 h2 h3 ↦ (hu180.block k h2).trans ((hu113.block k h2).trans (hB15.block k h1 h3))
 refine L.nil (T.end0 results67 ⟨⟨faceD d v109 u xs,hK25.setFace hkeep hE180 hz180 hB180 hGu hIu⟩,fun k hk=>?_⟩)
 have hs:=hK.S k hk
 have z2:=he097.size
 exact (hkeep k (by omega) hs.2.2 (fun e=>(hK25.fsr.2 k e).2.2 hk)).trans (he097.block k (Nat.zero_le _) hs.2.1)

open Go Go.E RowKit

theorem take_bad (w0:World) (b:Nat) (s:PS) (S:Nat→Prop) (l:Str) (r:List Str) (w:World) (hI:RdI w0 b s S w) (hll:l.length≤100000) (k:Str) (hf:fieldsB l=k::r) (hk:k≠kLand∧k≠kPoint∧k≠kFace∧k≠kHole∧k≠kUnit0∧k≠kEnd) :
  Calls Tryz.prog 67 #[.pointer (some ⟨b,0,none⟩),str l] w (Pan (wrongV) fun w'=>Ext w w'):=by
 refine T.enterP (vs:=[.pointer (some ⟨b,0,none⟩),str l]) func67 rfl ntmps67 rfl ?_
 refine T.q (L.m rfl (L.o (O.call (xs:=[.tmp 10,.func 121]) call120 rfl rfl (fields_calls l w hll) (fun v1 w1 hq=>?_))))
 obtain ⟨A,rfl,hS1,he1⟩:=hq
 obtain ⟨d,hK⟩:=hI
 have hK1:=hK.ext he1
 rw [hf]
 rw [hf] at hS1
 refine L.a rfl (L.nil (T.seq (T.q (L.m rfl (L.o (O.len runUnderlying61 rfl (Sl.val hS1) (L.o (O.eql_f rfl rfl (by simp;omega) (L.nil (T.cf (T.skip (T.seq (?_)))))))))))))
 refine T.anyE mixed 6 [4] rfl [.is _,.is _,.is _,.is _,.is _,.is _] [[],[0],[1],[],[3],[2]] [[],[0],[0,1],[],[3],[0,1,2],[0,1,2,3,4,5]] (by kernel_rfl) (by kernel_rfl) rfl (by kernel_rfl) trivial ⟨fun wx hx=>Ob.o (O.move rfl kR),
   fun wx hx=>Ob.o (O.indexAddr runUnderlying61 sizeOf9 rfl rfl (hS1.ext hx) (by decide) (by simp) kR),
   fun wx hx=>Ob.o (O.load isAgg9 rfl ((hS1.ext hx).at (show 0<(k::r).length by simp)) kR),
   fun wx hx=>Ob.o (O.move rfl kR),
   fun wx hx=>Ob.o (O.cutLx (l:=1) runUnderlying61 sizeOf9 rfl rfl hS1 (by simp) kR),
   fun wx hx=>Ob.o (O.assign rfl kR),
   trivial⟩ (fun w2 he2=>?_)
 have hR2:=rest_words (hS1.ext he2) rfl
 refine L.a rfl (L.nil (T.seq (T.q (L.m rfl (L.nil (T.block (T.q (L.o (O.eql_str_f runUnderlying9 rfl rfl hk.1 (L.a rfl (L.nil (T.cf (T.q (L.o (O.eql_str_f runUnderlying9 rfl rfl hk.2.1 (L.a rfl (L.nil (T.cf (T.q (L.o (O.eql_str_f runUnderlying9 rfl rfl hk.2.2.1 (L.a rfl (?_)))))))))))))))))))))))
 refine L.nil (T.cf (T.q (L.o (O.eql_str_f runUnderlying9 rfl rfl hk.2.2.2.1 (L.a rfl (L.nil (T.cf (T.q (L.o (O.eql_str_f runUnderlying9 rfl rfl hk.2.2.2.2.1 (L.a rfl (L.nil (T.cf (T.q (L.o (O.eql_str_f runUnderlying9 rfl rfl hk.2.2.2.2.2 (L.a rfl (L.nil (T.cf (T.region (L.callPan (xs:=[.const (.bool false)]) rfl call108 rfl rfl (need_no w2) (fun w' a hR ha=>⟨ha.defers,rfl,by rw [hR];exact he1.trans he2⟩))))))))))))))))))))))

theorem take_land_ahead (w0:World) (b:Nat) (s:PS) (S:Nat→Prop) (l:Str) (r:List Str) (w:World) (hI:RdI w0 b s S w) (hll:l.length≤100000) (hf:fieldsB l=kLand::r) (hlast:s.last ∉ [[]]) :
  Calls Tryz.prog 67 #[.pointer (some ⟨b,0,none⟩),str l] w (Pan (wrongV) fun w'=>Ext w w'):=by
 refine T.enterP (vs:=[.pointer (some ⟨b,0,none⟩),str l]) func67 rfl ntmps67 rfl ?_
 refine T.q (L.m rfl (L.o (O.call (xs:=[.tmp 10,.func 121]) call120 rfl rfl (fields_calls l w hll) (fun v1 w1 hq=>?_))))
 obtain ⟨A,rfl,hS1,he1⟩:=hq
 obtain ⟨d,hK⟩:=hI
 have hK1:=hK.ext he1
 rw [hf]
 rw [hf] at hS1
 refine L.a rfl (L.nil (T.seq (T.q (L.m rfl (L.o (O.len runUnderlying61 rfl (Sl.val hS1) (L.o (O.eql_f rfl rfl (by simp;omega) (L.nil (T.cf (T.skip (T.seq (?_)))))))))))))
 refine T.anyE mixed 6 [4] rfl [.is _,.is _,.is _,.is _,.is _,.is _] [[],[0],[1],[],[3],[2]] [[],[0],[0,1],[],[3],[0,1,2],[0,1,2,3,4,5]] (by kernel_rfl) (by kernel_rfl) rfl (by kernel_rfl) trivial ⟨fun wx hx=>Ob.o (O.move rfl kR),
   fun wx hx=>Ob.o (O.indexAddr runUnderlying61 sizeOf9 rfl rfl (hS1.ext hx) (by decide) (by simp) kR),
   fun wx hx=>Ob.o (O.load isAgg9 rfl ((hS1.ext hx).at (show 0<(kLand::r).length by simp)) kR),
   fun wx hx=>Ob.o (O.move rfl kR),
   fun wx hx=>Ob.o (O.cutLx (l:=1) runUnderlying61 sizeOf9 rfl rfl hS1 (by simp) kR),
   fun wx hx=>Ob.o (O.assign rfl kR),
   trivial⟩ (fun w2 he2=>?_)
 have hR2:=rest_words (hS1.ext he2) rfl
 refine L.a rfl (L.nil (T.seq (T.q (L.m rfl (L.nil (T.block (T.q (L.o (O.eql_str_t runUnderlying9 rfl rfl rfl (L.a rfl (L.nil (T.ct (T.q (L.m rfl (L.o (O.buildSlice (el:=9) (parts:=[(0,_)]) (vs:=[(0,_)]) (cs:=([[]].map str)) rfl (fun w=>by kernel_rfl) (fun b25 w25 hb25 hz25 he25 hB25=>?_)))))))))))))))))
 have hK3:=(hK1.ext he2).ext he25
 refine L.o (O.call (xs:=[.tmp 24,.tmp 25]) call68 rfl rfl (after_calls 0 _ [[]] b (rdCells d s) s.last w25 (Strs.of_blk hB25 rfl (by decide) (Nat.zero_le _)) hK3.row rfl) (fun v3 w3 hq=>?_))
 obtain ⟨rfl,rfl⟩:=hq
 rw [decide_eq_false hlast]
 refine L.m rfl (L.p (L.p (L.p (L.o (O.pick_false rfl rfl (L.callPan (xs:=[.tmp 31]) rfl call108 rfl rfl (need_no w3) (fun w' a hR ha=>⟨ha.defers,rfl,by rw [hR];exact (he1.trans he2).trans he25⟩)))))))

theorem take_point_ahead (w0:World) (b:Nat) (s:PS) (S:Nat→Prop) (l:Str) (r:List Str) (w:World) (hI:RdI w0 b s S w) (hll:l.length≤100000) (hf:fieldsB l=kPoint::r) (hlast:s.last ∉ [kLand,kPoint]) :
  Calls Tryz.prog 67 #[.pointer (some ⟨b,0,none⟩),str l] w (Pan (wrongV) fun w'=>Ext w w'):=by
 refine T.enterP (vs:=[.pointer (some ⟨b,0,none⟩),str l]) func67 rfl ntmps67 rfl ?_
 refine T.q (L.m rfl (L.o (O.call (xs:=[.tmp 10,.func 121]) call120 rfl rfl (fields_calls l w hll) (fun v1 w1 hq=>?_))))
 obtain ⟨A,rfl,hS1,he1⟩:=hq
 obtain ⟨d,hK⟩:=hI
 have hK1:=hK.ext he1
 rw [hf]
 rw [hf] at hS1
 refine L.a rfl (L.nil (T.seq (T.q (L.m rfl (L.o (O.len runUnderlying61 rfl (Sl.val hS1) (L.o (O.eql_f rfl rfl (by simp;omega) (L.nil (T.cf (T.skip (T.seq (?_)))))))))))))
 refine T.anyE mixed 6 [4] rfl [.is _,.is _,.is _,.is _,.is _,.is _] [[],[0],[1],[],[3],[2]] [[],[0],[0,1],[],[3],[0,1,2],[0,1,2,3,4,5]] (by kernel_rfl) (by kernel_rfl) rfl (by kernel_rfl) trivial ⟨fun wx hx=>Ob.o (O.move rfl kR),
   fun wx hx=>Ob.o (O.indexAddr runUnderlying61 sizeOf9 rfl rfl (hS1.ext hx) (by decide) (by simp) kR),
   fun wx hx=>Ob.o (O.load isAgg9 rfl ((hS1.ext hx).at (show 0<(kPoint::r).length by simp)) kR),
   fun wx hx=>Ob.o (O.move rfl kR),
   fun wx hx=>Ob.o (O.cutLx (l:=1) runUnderlying61 sizeOf9 rfl rfl hS1 (by simp) kR),
   fun wx hx=>Ob.o (O.assign rfl kR),
   trivial⟩ (fun w2 he2=>?_)
 have hR2:=rest_words (hS1.ext he2) rfl
 refine L.a rfl (L.nil (T.seq (T.q (L.m rfl (L.nil (T.block (T.q (L.o (O.eql_str_f runUnderlying9 rfl rfl (show ¬ kPoint=kLand by decide) (L.a rfl (L.nil (T.cf (T.q (L.o (O.eql_str_t runUnderlying9 rfl rfl rfl (L.a rfl (L.nil (T.ct (T.q (L.m rfl (L.o (O.buildSlice (el:=9) (parts:=[(0,_),(1,_)]) (vs:=[(0,_),(1,_)]) (cs:=([kLand,kPoint].map str)) rfl (fun w=>by kernel_rfl) (fun b62 w62 hb62 hz62 he62 hB62=>?_)))))))))))))))))))))))
 have hK3:=(hK1.ext he2).ext he62
 refine L.o (O.call (xs:=[.tmp 61,.tmp 62]) call68 rfl rfl (after_calls 0 _ [kLand,kPoint] b (rdCells d s) s.last w62 (Strs.of_blk hB62 rfl (by decide) (Nat.zero_le _)) hK3.row rfl) (fun v3 w3 hq=>?_))
 obtain ⟨rfl,rfl⟩:=hq
 rw [decide_eq_false hlast]
 refine L.m rfl (L.p (L.p (L.p (L.o (O.pick_false rfl rfl (L.callPan (xs:=[.tmp 68]) rfl call108 rfl rfl (need_no w3) (fun w' a hR ha=>⟨ha.defers,rfl,by rw [hR];exact (he1.trans he2).trans he62⟩)))))))

theorem take_face_ahead (w0:World) (b:Nat) (s:PS) (S:Nat→Prop) (l:Str) (r:List Str) (w:World) (hI:RdI w0 b s S w) (hll:l.length≤100000) (hf:fieldsB l=kFace::r) (hlast:s.last ∉ [kLand,kPoint,kFace,kHole]) :
  Calls Tryz.prog 67 #[.pointer (some ⟨b,0,none⟩),str l] w (Pan (wrongV) fun w'=>Ext w w'):=by
 refine T.enterP (vs:=[.pointer (some ⟨b,0,none⟩),str l]) func67 rfl ntmps67 rfl ?_
 refine T.q (L.m rfl (L.o (O.call (xs:=[.tmp 10,.func 121]) call120 rfl rfl (fields_calls l w hll) (fun v1 w1 hq=>?_))))
 obtain ⟨A,rfl,hS1,he1⟩:=hq
 obtain ⟨d,hK⟩:=hI
 have hK1:=hK.ext he1
 rw [hf]
 rw [hf] at hS1
 refine L.a rfl (L.nil (T.seq (T.q (L.m rfl (L.o (O.len runUnderlying61 rfl (Sl.val hS1) (L.o (O.eql_f rfl rfl (by simp;omega) (L.nil (T.cf (T.skip (T.seq (?_)))))))))))))
 refine T.anyE mixed 6 [4] rfl [.is _,.is _,.is _,.is _,.is _,.is _] [[],[0],[1],[],[3],[2]] [[],[0],[0,1],[],[3],[0,1,2],[0,1,2,3,4,5]] (by kernel_rfl) (by kernel_rfl) rfl (by kernel_rfl) trivial ⟨fun wx hx=>Ob.o (O.move rfl kR),
   fun wx hx=>Ob.o (O.indexAddr runUnderlying61 sizeOf9 rfl rfl (hS1.ext hx) (by decide) (by simp) kR),
   fun wx hx=>Ob.o (O.load isAgg9 rfl ((hS1.ext hx).at (show 0<(kFace::r).length by simp)) kR),
   fun wx hx=>Ob.o (O.move rfl kR),
   fun wx hx=>Ob.o (O.cutLx (l:=1) runUnderlying61 sizeOf9 rfl rfl hS1 (by simp) kR),
   fun wx hx=>Ob.o (O.assign rfl kR),
   trivial⟩ (fun w2 he2=>?_)
 have hR2:=rest_words (hS1.ext he2) rfl
 refine L.a rfl (L.nil (T.seq (T.q (L.m rfl (L.nil (T.block (T.q (L.o (O.eql_str_f runUnderlying9 rfl rfl (show ¬ kFace=kLand by decide) (L.a rfl (L.nil (T.cf (T.q (L.o (O.eql_str_f runUnderlying9 rfl rfl (show ¬ kFace=kPoint by decide) (L.a rfl (L.nil (T.cf (T.q (L.o (O.eql_str_t runUnderlying9 rfl rfl rfl (L.a rfl (?_)))))))))))))))))))))))
 refine L.nil (T.ct (T.q (L.m rfl (L.o (O.buildSlice (el:=9) (parts:=[(0,_),(1,_),(2,_),(3,_)]) (vs:=[(0,_),(1,_),(2,_),(3,_)]) (cs:=([kLand,kPoint,kFace,kHole].map str)) rfl (fun w=>by kernel_rfl) (fun b95 w95 hb95 hz95 he95 hB95=>?_))))))
 have hK3:=(hK1.ext he2).ext he95
 refine L.o (O.call (xs:=[.tmp 94,.tmp 95]) call68 rfl rfl (after_calls 0 _ [kLand,kPoint,kFace,kHole] b (rdCells d s) s.last w95 (Strs.of_blk hB95 rfl (by decide) (Nat.zero_le _)) hK3.row rfl) (fun v3 w3 hq=>?_))
 obtain ⟨rfl,rfl⟩:=hq
 rw [decide_eq_false hlast]
 refine L.callPan (xs:=[.tmp 96]) rfl call108 rfl rfl (need_no w3) (fun w' a hR ha=>⟨ha.defers,rfl,by rw [hR];exact (he1.trans he2).trans he95⟩)

theorem take_hole_ahead (w0:World) (b:Nat) (s:PS) (S:Nat→Prop) (l:Str) (r:List Str) (w:World) (hI:RdI w0 b s S w) (hll:l.length≤100000) (hf:fieldsB l=kHole::r) (hlast:s.last ∉ [kFace,kHole]) :
  Calls Tryz.prog 67 #[.pointer (some ⟨b,0,none⟩),str l] w (Pan (wrongV) fun w'=>Ext w w'):=by
 refine T.enterP (vs:=[.pointer (some ⟨b,0,none⟩),str l]) func67 rfl ntmps67 rfl ?_
 refine T.q (L.m rfl (L.o (O.call (xs:=[.tmp 10,.func 121]) call120 rfl rfl (fields_calls l w hll) (fun v1 w1 hq=>?_))))
 obtain ⟨A,rfl,hS1,he1⟩:=hq
 obtain ⟨d,hK⟩:=hI
 have hK1:=hK.ext he1
 rw [hf]
 rw [hf] at hS1
 refine L.a rfl (L.nil (T.seq (T.q (L.m rfl (L.o (O.len runUnderlying61 rfl (Sl.val hS1) (L.o (O.eql_f rfl rfl (by simp;omega) (L.nil (T.cf (T.skip (T.seq (?_)))))))))))))
 refine T.anyE mixed 6 [4] rfl [.is _,.is _,.is _,.is _,.is _,.is _] [[],[0],[1],[],[3],[2]] [[],[0],[0,1],[],[3],[0,1,2],[0,1,2,3,4,5]] (by kernel_rfl) (by kernel_rfl) rfl (by kernel_rfl) trivial ⟨fun wx hx=>Ob.o (O.move rfl kR),
   fun wx hx=>Ob.o (O.indexAddr runUnderlying61 sizeOf9 rfl rfl (hS1.ext hx) (by decide) (by simp) kR),
   fun wx hx=>Ob.o (O.load isAgg9 rfl ((hS1.ext hx).at (show 0<(kHole::r).length by simp)) kR),
   fun wx hx=>Ob.o (O.move rfl kR),
   fun wx hx=>Ob.o (O.cutLx (l:=1) runUnderlying61 sizeOf9 rfl rfl hS1 (by simp) kR),
   fun wx hx=>Ob.o (O.assign rfl kR),
   trivial⟩ (fun w2 he2=>?_)
 have hR2:=rest_words (hS1.ext he2) rfl
 refine L.a rfl (L.nil (T.seq (T.q (L.m rfl (L.nil (T.block (T.q (L.o (O.eql_str_f runUnderlying9 rfl rfl (show ¬ kHole=kLand by decide) (L.a rfl (L.nil (T.cf (T.q (L.o (O.eql_str_f runUnderlying9 rfl rfl (show ¬ kHole=kPoint by decide) (L.a rfl (L.nil (T.cf (T.q (L.o (O.eql_str_f runUnderlying9 rfl rfl (show ¬ kHole=kFace by decide) (L.a rfl (?_)))))))))))))))))))))))
 refine L.nil (T.cf (T.q (L.o (O.eql_str_t runUnderlying9 rfl rfl rfl (L.a rfl (L.nil (T.ct (T.q (L.m rfl (L.o (O.buildSlice (el:=9) (parts:=[(0,_),(1,_)]) (vs:=[(0,_),(1,_)]) (cs:=([kFace,kHole].map str)) rfl (fun w=>by kernel_rfl) (fun b117 w117 hb117 hz117 he117 hB117=>?_))))))))))))
 have hK3:=(hK1.ext he2).ext he117
 refine L.o (O.call (xs:=[.tmp 116,.tmp 117]) call68 rfl rfl (after_calls 0 _ [kFace,kHole] b (rdCells d s) s.last w117 (Strs.of_blk hB117 rfl (by decide) (Nat.zero_le _)) hK3.row rfl) (fun v3 w3 hq=>?_))
 obtain ⟨rfl,rfl⟩:=hq
 rw [decide_eq_false hlast]
 refine L.callPan (xs:=[.tmp 118]) rfl call108 rfl rfl (need_no w3) (fun w' a hR ha=>⟨ha.defers,rfl,by rw [hR];exact (he1.trans he2).trans he117⟩)

theorem take_unit0_ahead (w0:World) (b:Nat) (s:PS) (S:Nat→Prop) (l:Str) (r:List Str) (w:World) (hI:RdI w0 b s S w) (hll:l.length≤100000) (hf:fieldsB l=kUnit0::r) (hlast:s.last ∈ [[],kEnd]) :
  Calls Tryz.prog 67 #[.pointer (some ⟨b,0,none⟩),str l] w (Pan (wrongV) fun w'=>Ext w w'):=by
 refine T.enterP (vs:=[.pointer (some ⟨b,0,none⟩),str l]) func67 rfl ntmps67 rfl ?_
 refine T.q (L.m rfl (L.o (O.call (xs:=[.tmp 10,.func 121]) call120 rfl rfl (fields_calls l w hll) (fun v1 w1 hq=>?_))))
 obtain ⟨A,rfl,hS1,he1⟩:=hq
 obtain ⟨d,hK⟩:=hI
 have hK1:=hK.ext he1
 rw [hf]
 rw [hf] at hS1
 refine L.a rfl (L.nil (T.seq (T.q (L.m rfl (L.o (O.len runUnderlying61 rfl (Sl.val hS1) (L.o (O.eql_f rfl rfl (by simp;omega) (L.nil (T.cf (T.skip (T.seq (?_)))))))))))))
 refine T.anyE mixed 6 [4] rfl [.is _,.is _,.is _,.is _,.is _,.is _] [[],[0],[1],[],[3],[2]] [[],[0],[0,1],[],[3],[0,1,2],[0,1,2,3,4,5]] (by kernel_rfl) (by kernel_rfl) rfl (by kernel_rfl) trivial ⟨fun wx hx=>Ob.o (O.move rfl kR),
   fun wx hx=>Ob.o (O.indexAddr runUnderlying61 sizeOf9 rfl rfl (hS1.ext hx) (by decide) (by simp) kR),
   fun wx hx=>Ob.o (O.load isAgg9 rfl ((hS1.ext hx).at (show 0<(kUnit0::r).length by simp)) kR),
   fun wx hx=>Ob.o (O.move rfl kR),
   fun wx hx=>Ob.o (O.cutLx (l:=1) runUnderlying61 sizeOf9 rfl rfl hS1 (by simp) kR),
   fun wx hx=>Ob.o (O.assign rfl kR),
   trivial⟩ (fun w2 he2=>?_)
 have hR2:=rest_words (hS1.ext he2) rfl
 refine L.a rfl (L.nil (T.seq (T.q (L.m rfl (L.nil (T.block (T.q (L.o (O.eql_str_f runUnderlying9 rfl rfl (show ¬ kUnit0=kLand by decide) (L.a rfl (L.nil (T.cf (T.q (L.o (O.eql_str_f runUnderlying9 rfl rfl (show ¬ kUnit0=kPoint by decide) (L.a rfl (L.nil (T.cf (T.q (L.o (O.eql_str_f runUnderlying9 rfl rfl (show ¬ kUnit0=kFace by decide) (L.a rfl (?_)))))))))))))))))))))))
 refine L.nil (T.cf (T.q (L.o (O.eql_str_f runUnderlying9 rfl rfl (show ¬ kUnit0=kHole by decide) (L.a rfl (L.nil (T.cf (T.q (L.o (O.eql_str_t runUnderlying9 rfl rfl rfl (L.a rfl (L.nil (T.ct (T.q (L.m rfl (L.o (O.buildSlice (el:=9) (parts:=[(0,_),(1,_)]) (vs:=[(0,_),(1,_)]) (cs:=([[],kEnd].map str)) rfl (fun w=>by kernel_rfl) (fun b149 w149 hb149 hz149 he149 hB149=>?_))))))))))))))))))
 have hK3:=(hK1.ext he2).ext he149
 refine L.o (O.call (xs:=[.tmp 148,.tmp 149]) call68 rfl rfl (after_calls 0 _ [[],kEnd] b (rdCells d s) s.last w149 (Strs.of_blk hB149 rfl (by decide) (Nat.zero_le _)) hK3.row rfl) (fun v3 w3 hq=>?_))
 obtain ⟨rfl,rfl⟩:=hq
 rw [decide_eq_true hlast]
 refine L.o (O.not rfl (L.callPan (xs:=[.tmp 151]) rfl call108 rfl rfl (need_no w3) (fun w' a hR ha=>⟨ha.defers,rfl,by rw [hR];exact (he1.trans he2).trans he149⟩)))

theorem take_end_ahead (w0:World) (b:Nat) (s:PS) (S:Nat→Prop) (l:Str) (r:List Str) (w:World) (hI:RdI w0 b s S w) (hll:l.length≤100000) (hf:fieldsB l=kEnd::r) (hlast:s.last ∈ [[],kEnd]) :
  Calls Tryz.prog 67 #[.pointer (some ⟨b,0,none⟩),str l] w (Pan (wrongV) fun w'=>Ext w w'):=by
 refine T.enterP (vs:=[.pointer (some ⟨b,0,none⟩),str l]) func67 rfl ntmps67 rfl ?_
 refine T.q (L.m rfl (L.o (O.call (xs:=[.tmp 10,.func 121]) call120 rfl rfl (fields_calls l w hll) (fun v1 w1 hq=>?_))))
 obtain ⟨A,rfl,hS1,he1⟩:=hq
 obtain ⟨d,hK⟩:=hI
 have hK1:=hK.ext he1
 rw [hf]
 rw [hf] at hS1
 refine L.a rfl (L.nil (T.seq (T.q (L.m rfl (L.o (O.len runUnderlying61 rfl (Sl.val hS1) (L.o (O.eql_f rfl rfl (by simp;omega) (L.nil (T.cf (T.skip (T.seq (?_)))))))))))))
 refine T.anyE mixed 6 [4] rfl [.is _,.is _,.is _,.is _,.is _,.is _] [[],[0],[1],[],[3],[2]] [[],[0],[0,1],[],[3],[0,1,2],[0,1,2,3,4,5]] (by kernel_rfl) (by kernel_rfl) rfl (by kernel_rfl) trivial ⟨fun wx hx=>Ob.o (O.move rfl kR),
   fun wx hx=>Ob.o (O.indexAddr runUnderlying61 sizeOf9 rfl rfl (hS1.ext hx) (by decide) (by simp) kR),
   fun wx hx=>Ob.o (O.load isAgg9 rfl ((hS1.ext hx).at (show 0<(kEnd::r).length by simp)) kR),
   fun wx hx=>Ob.o (O.move rfl kR),
   fun wx hx=>Ob.o (O.cutLx (l:=1) runUnderlying61 sizeOf9 rfl rfl hS1 (by simp) kR),
   fun wx hx=>Ob.o (O.assign rfl kR),
   trivial⟩ (fun w2 he2=>?_)
 have hR2:=rest_words (hS1.ext he2) rfl
 refine L.a rfl (L.nil (T.seq (T.q (L.m rfl (L.nil (T.block (T.q (L.o (O.eql_str_f runUnderlying9 rfl rfl (show ¬ kEnd=kLand by decide) (L.a rfl (L.nil (T.cf (T.q (L.o (O.eql_str_f runUnderlying9 rfl rfl (show ¬ kEnd=kPoint by decide) (L.a rfl (L.nil (T.cf (T.q (L.o (O.eql_str_f runUnderlying9 rfl rfl (show ¬ kEnd=kFace by decide) (L.a rfl (?_)))))))))))))))))))))))
 refine L.nil (T.cf (T.q (L.o (O.eql_str_f runUnderlying9 rfl rfl (show ¬ kEnd=kHole by decide) (L.a rfl (L.nil (T.cf (T.q (L.o (O.eql_str_f runUnderlying9 rfl rfl (show ¬ kEnd=kUnit0 by decide) (L.a rfl (L.nil (T.cf (T.q (L.o (O.eql_str_t runUnderlying9 rfl rfl rfl (L.a rfl (L.nil (T.ct (T.region (L.m rfl (L.o (O.buildSlice (el:=9) (parts:=[(0,_),(1,_)]) (vs:=[(0,_),(1,_)]) (cs:=([[],kEnd].map str)) rfl (fun w=>by kernel_rfl) (fun b159 w159 hb159 hz159 he159 hB159=>?_))))))))))))))))))))))))
 have hK3:=(hK1.ext he2).ext he159
 refine L.o (O.call (xs:=[.tmp 158,.tmp 159]) call68 rfl rfl (after_calls 0 _ [[],kEnd] b (rdCells d s) s.last w159 (Strs.of_blk hB159 rfl (by decide) (Nat.zero_le _)) hK3.row rfl) (fun v3 w3 hq=>?_))
 obtain ⟨rfl,rfl⟩:=hq
 rw [decide_eq_true hlast]
 refine L.o (O.not rfl (L.m rfl (L.p (L.p (L.p (L.o (O.pick_false rfl rfl (L.callPan (xs:=[.tmp 166]) rfl call108 rfl rfl (need_no w3) (fun w' a hR ha=>⟨ha.defers,rfl,by rw [hR];exact (he1.trans he2).trans he159⟩)))))))))

open Go Go.E RowKit

theorem take_land_count (w0:World) (b:Nat) (s:PS) (S:Nat→Prop) (l:Str) (r:List Str) (w:World) (hI:RdI w0 b s S w) (hll:l.length≤100000) (hf:fieldsB l=kLand::r) (hlast:s.last ∈ [[]]) (hr:¬ r.length=3) :
  Calls Tryz.prog 67 #[.pointer (some ⟨b,0,none⟩),str l] w (Pan (wrongV) fun w'=>Ext w w'):=by
 refine T.enterP (vs:=[.pointer (some ⟨b,0,none⟩),str l]) func67 rfl ntmps67 rfl ?_
 refine T.q (L.m rfl (L.o (O.call (xs:=[.tmp 10,.func 121]) call120 rfl rfl (fields_calls l w hll) (fun v1 w1 hq=>?_))))
 obtain ⟨A,rfl,hS1,he1⟩:=hq
 obtain ⟨d,hK⟩:=hI
 have hK1:=hK.ext he1
 rw [hf]
 rw [hf] at hS1
 refine L.a rfl (L.nil (T.seq (T.q (L.m rfl (L.o (O.len runUnderlying61 rfl (Sl.val hS1) (L.o (O.eql_f rfl rfl (by simp;omega) (L.nil (T.cf (T.skip (T.seq (?_)))))))))))))
 refine T.anyE mixed 6 [4] rfl [.is _,.is _,.is _,.is _,.is _,.is _] [[],[0],[1],[],[3],[2]] [[],[0],[0,1],[],[3],[0,1,2],[0,1,2,3,4,5]] (by kernel_rfl) (by kernel_rfl) rfl (by kernel_rfl) trivial ⟨fun wx hx=>Ob.o (O.move rfl kR),
   fun wx hx=>Ob.o (O.indexAddr runUnderlying61 sizeOf9 rfl rfl (hS1.ext hx) (by decide) (by simp) kR),
   fun wx hx=>Ob.o (O.load isAgg9 rfl ((hS1.ext hx).at (show 0<(kLand::r).length by simp)) kR),
   fun wx hx=>Ob.o (O.move rfl kR),
   fun wx hx=>Ob.o (O.cutLx (l:=1) runUnderlying61 sizeOf9 rfl rfl hS1 (by simp) kR),
   fun wx hx=>Ob.o (O.assign rfl kR),
   trivial⟩ (fun w2 he2=>?_)
 have hR2:=rest_words (hS1.ext he2) rfl
 refine L.a rfl (L.nil (T.seq (T.q (L.m rfl (L.nil (T.block (T.q (L.o (O.eql_str_t runUnderlying9 rfl rfl rfl (L.a rfl (L.nil (T.ct (T.q (L.m rfl (L.o (O.buildSlice (el:=9) (parts:=[(0,_)]) (vs:=[(0,_)]) (cs:=([[]].map str)) rfl (fun w=>by kernel_rfl) (fun b25 w25 hb25 hz25 he25 hB25=>?_)))))))))))))))))
 have hK3:=(hK1.ext he2).ext he25
 refine L.o (O.call (xs:=[.tmp 24,.tmp 25]) call68 rfl rfl (after_calls 0 _ [[]] b (rdCells d s) s.last w25 (Strs.of_blk hB25 rfl (by decide) (Nat.zero_le _)) hK3.row rfl) (fun v3 w3 hq=>?_))
 obtain ⟨rfl,rfl⟩:=hq
 rw [decide_eq_true hlast]
 refine L.m rfl (L.m rfl (L.o (O.len runUnderlying61 rfl (Sl.val (hR2.ext he25)) (L.o (O.eql_f rfl rfl (by omega) (L.o (O.pick_true rfl rfl (L.callPan (xs:=[.tmp 31]) rfl call108 rfl rfl (need_no w3) (fun w' a hR ha=>⟨ha.defers,rfl,by rw [hR];exact (he1.trans he2).trans he25⟩)))))))))

theorem take_land_nums (w0:World) (b:Nat) (s:PS) (S:Nat→Prop) (l:Str) (r:List Str) (w:World) (hI:RdI w0 b s S w) (hll:l.length≤100000) (hf:fieldsB l=kLand::r) (hlast:s.last ∈ [[]]) (hr:r.length=3) (hL:LibM w) (hn:numsP r=none) :
  Calls Tryz.prog 67 #[.pointer (some ⟨b,0,none⟩),str l] w (Pan (wrongV) fun w'=>Ext w w'):=by
 refine T.enterP (vs:=[.pointer (some ⟨b,0,none⟩),str l]) func67 rfl ntmps67 rfl ?_
 refine T.q (L.m rfl (L.o (O.call (xs:=[.tmp 10,.func 121]) call120 rfl rfl (fields_calls l w hll) (fun v1 w1 hq=>?_))))
 obtain ⟨A,rfl,hS1,he1⟩:=hq
 obtain ⟨d,hK⟩:=hI
 have hK1:=hK.ext he1
 rw [hf]
 rw [hf] at hS1
 refine L.a rfl (L.nil (T.seq (T.q (L.m rfl (L.o (O.len runUnderlying61 rfl (Sl.val hS1) (L.o (O.eql_f rfl rfl (by simp;omega) (L.nil (T.cf (T.skip (T.seq (?_)))))))))))))
 refine T.anyE mixed 6 [4] rfl [.is _,.is _,.is _,.is _,.is _,.is _] [[],[0],[1],[],[3],[2]] [[],[0],[0,1],[],[3],[0,1,2],[0,1,2,3,4,5]] (by kernel_rfl) (by kernel_rfl) rfl (by kernel_rfl) trivial ⟨fun wx hx=>Ob.o (O.move rfl kR),
   fun wx hx=>Ob.o (O.indexAddr runUnderlying61 sizeOf9 rfl rfl (hS1.ext hx) (by decide) (by simp) kR),
   fun wx hx=>Ob.o (O.load isAgg9 rfl ((hS1.ext hx).at (show 0<(kLand::r).length by simp)) kR),
   fun wx hx=>Ob.o (O.move rfl kR),
   fun wx hx=>Ob.o (O.cutLx (l:=1) runUnderlying61 sizeOf9 rfl rfl hS1 (by simp) kR),
   fun wx hx=>Ob.o (O.assign rfl kR),
   trivial⟩ (fun w2 he2=>?_)
 have hR2:=rest_words (hS1.ext he2) rfl
 refine L.a rfl (L.nil (T.seq (T.q (L.m rfl (L.nil (T.block (T.q (L.o (O.eql_str_t runUnderlying9 rfl rfl rfl (L.a rfl (L.nil (T.ct (T.q (L.m rfl (L.o (O.buildSlice (el:=9) (parts:=[(0,_)]) (vs:=[(0,_)]) (cs:=([[]].map str)) rfl (fun w=>by kernel_rfl) (fun b25 w25 hb25 hz25 he25 hB25=>?_)))))))))))))))))
 have hK3:=(hK1.ext he2).ext he25
 refine L.o (O.call (xs:=[.tmp 24,.tmp 25]) call68 rfl rfl (after_calls 0 _ [[]] b (rdCells d s) s.last w25 (Strs.of_blk hB25 rfl (by decide) (Nat.zero_le _)) hK3.row rfl) (fun v3 w3 hq=>?_))
 obtain ⟨rfl,rfl⟩:=hq
 rw [decide_eq_true hlast]
 refine L.m rfl (L.m rfl (L.o (O.len runUnderlying61 rfl (Sl.val (hR2.ext he25)) (L.o (O.eql_t rfl rfl (by omega) (L.o (O.pick_true rfl rfl (L.o (O.call (xs:=[.tmp 31]) call108 rfl rfl (need_yes w3) (fun v4 w4 hq=>?_))))))))))
 obtain rfl:=hq
 refine L.nil (T.q (L.m rfl (L.callPan (xs:=[.tmp 33]) rfl call122 rfl rfl (numbers_no _ _ r w4 (hR2.ext he25) (hL.ext ((he1.trans he2).trans he25)) (words_short hll hf) hn (by omega)) (fun w' a hR ha=>⟨ha.defers,rfl,((he1.trans he2).trans he25).trans hR⟩))))

theorem take_point_count (w0:World) (b:Nat) (s:PS) (S:Nat→Prop) (l:Str) (r:List Str) (w:World) (hI:RdI w0 b s S w) (hll:l.length≤100000) (hf:fieldsB l=kPoint::r) (hlast:s.last ∈ [kLand,kPoint]) (hr:¬ r.length=2) :
  Calls Tryz.prog 67 #[.pointer (some ⟨b,0,none⟩),str l] w (Pan (wrongV) fun w'=>Ext w w'):=by
 refine T.enterP (vs:=[.pointer (some ⟨b,0,none⟩),str l]) func67 rfl ntmps67 rfl ?_
 refine T.q (L.m rfl (L.o (O.call (xs:=[.tmp 10,.func 121]) call120 rfl rfl (fields_calls l w hll) (fun v1 w1 hq=>?_))))
 obtain ⟨A,rfl,hS1,he1⟩:=hq
 obtain ⟨d,hK⟩:=hI
 have hK1:=hK.ext he1
 rw [hf]
 rw [hf] at hS1
 refine L.a rfl (L.nil (T.seq (T.q (L.m rfl (L.o (O.len runUnderlying61 rfl (Sl.val hS1) (L.o (O.eql_f rfl rfl (by simp;omega) (L.nil (T.cf (T.skip (T.seq (?_)))))))))))))
 refine T.anyE mixed 6 [4] rfl [.is _,.is _,.is _,.is _,.is _,.is _] [[],[0],[1],[],[3],[2]] [[],[0],[0,1],[],[3],[0,1,2],[0,1,2,3,4,5]] (by kernel_rfl) (by kernel_rfl) rfl (by kernel_rfl) trivial ⟨fun wx hx=>Ob.o (O.move rfl kR),
   fun wx hx=>Ob.o (O.indexAddr runUnderlying61 sizeOf9 rfl rfl (hS1.ext hx) (by decide) (by simp) kR),
   fun wx hx=>Ob.o (O.load isAgg9 rfl ((hS1.ext hx).at (show 0<(kPoint::r).length by simp)) kR),
   fun wx hx=>Ob.o (O.move rfl kR),
   fun wx hx=>Ob.o (O.cutLx (l:=1) runUnderlying61 sizeOf9 rfl rfl hS1 (by simp) kR),
   fun wx hx=>Ob.o (O.assign rfl kR),
   trivial⟩ (fun w2 he2=>?_)
 have hR2:=rest_words (hS1.ext he2) rfl
 refine L.a rfl (L.nil (T.seq (T.q (L.m rfl (L.nil (T.block (T.q (L.o (O.eql_str_f runUnderlying9 rfl rfl (show ¬ kPoint=kLand by decide) (L.a rfl (L.nil (T.cf (T.q (L.o (O.eql_str_t runUnderlying9 rfl rfl rfl (L.a rfl (L.nil (T.ct (T.q (L.m rfl (L.o (O.buildSlice (el:=9) (parts:=[(0,_),(1,_)]) (vs:=[(0,_),(1,_)]) (cs:=([kLand,kPoint].map str)) rfl (fun w=>by kernel_rfl) (fun b62 w62 hb62 hz62 he62 hB62=>?_)))))))))))))))))))))))
 have hK3:=(hK1.ext he2).ext he62
 refine L.o (O.call (xs:=[.tmp 61,.tmp 62]) call68 rfl rfl (after_calls 0 _ [kLand,kPoint] b (rdCells d s) s.last w62 (Strs.of_blk hB62 rfl (by decide) (Nat.zero_le _)) hK3.row rfl) (fun v3 w3 hq=>?_))
 obtain ⟨rfl,rfl⟩:=hq
 rw [decide_eq_true hlast]
 refine L.m rfl (L.m rfl (L.o (O.len runUnderlying61 rfl (Sl.val (hR2.ext he62)) (L.o (O.eql_f rfl rfl (by omega) (L.o (O.pick_true rfl rfl (L.callPan (xs:=[.tmp 68]) rfl call108 rfl rfl (need_no w3) (fun w' a hR ha=>⟨ha.defers,rfl,by rw [hR];exact (he1.trans he2).trans he62⟩)))))))))

theorem take_point_nums (w0:World) (b:Nat) (s:PS) (S:Nat→Prop) (l:Str) (r:List Str) (w:World) (hI:RdI w0 b s S w) (hll:l.length≤100000) (hf:fieldsB l=kPoint::r) (hlast:s.last ∈ [kLand,kPoint]) (hr:r.length=2) (hL:LibM w) (hn:numsP r=none) :
  Calls Tryz.prog 67 #[.pointer (some ⟨b,0,none⟩),str l] w (Pan (wrongV) fun w'=>Ext w w'):=by
 refine T.enterP (vs:=[.pointer (some ⟨b,0,none⟩),str l]) func67 rfl ntmps67 rfl ?_
 refine T.q (L.m rfl (L.o (O.call (xs:=[.tmp 10,.func 121]) call120 rfl rfl (fields_calls l w hll) (fun v1 w1 hq=>?_))))
 obtain ⟨A,rfl,hS1,he1⟩:=hq
 obtain ⟨d,hK⟩:=hI
 have hK1:=hK.ext he1
 rw [hf]
 rw [hf] at hS1
 refine L.a rfl (L.nil (T.seq (T.q (L.m rfl (L.o (O.len runUnderlying61 rfl (Sl.val hS1) (L.o (O.eql_f rfl rfl (by simp;omega) (L.nil (T.cf (T.skip (T.seq (?_)))))))))))))
 refine T.anyE mixed 6 [4] rfl [.is _,.is _,.is _,.is _,.is _,.is _] [[],[0],[1],[],[3],[2]] [[],[0],[0,1],[],[3],[0,1,2],[0,1,2,3,4,5]] (by kernel_rfl) (by kernel_rfl) rfl (by kernel_rfl) trivial ⟨fun wx hx=>Ob.o (O.move rfl kR),
   fun wx hx=>Ob.o (O.indexAddr runUnderlying61 sizeOf9 rfl rfl (hS1.ext hx) (by decide) (by simp) kR),
   fun wx hx=>Ob.o (O.load isAgg9 rfl ((hS1.ext hx).at (show 0<(kPoint::r).length by simp)) kR),
   fun wx hx=>Ob.o (O.move rfl kR),
   fun wx hx=>Ob.o (O.cutLx (l:=1) runUnderlying61 sizeOf9 rfl rfl hS1 (by simp) kR),
   fun wx hx=>Ob.o (O.assign rfl kR),
   trivial⟩ (fun w2 he2=>?_)
 have hR2:=rest_words (hS1.ext he2) rfl
 refine L.a rfl (L.nil (T.seq (T.q (L.m rfl (L.nil (T.block (T.q (L.o (O.eql_str_f runUnderlying9 rfl rfl (show ¬ kPoint=kLand by decide) (L.a rfl (L.nil (T.cf (T.q (L.o (O.eql_str_t runUnderlying9 rfl rfl rfl (L.a rfl (L.nil (T.ct (T.q (L.m rfl (L.o (O.buildSlice (el:=9) (parts:=[(0,_),(1,_)]) (vs:=[(0,_),(1,_)]) (cs:=([kLand,kPoint].map str)) rfl (fun w=>by kernel_rfl) (fun b62 w62 hb62 hz62 he62 hB62=>?_)))))))))))))))))))))))
 have hK3:=(hK1.ext he2).ext he62
 refine L.o (O.call (xs:=[.tmp 61,.tmp 62]) call68 rfl rfl (after_calls 0 _ [kLand,kPoint] b (rdCells d s) s.last w62 (Strs.of_blk hB62 rfl (by decide) (Nat.zero_le _)) hK3.row rfl) (fun v3 w3 hq=>?_))
 obtain ⟨rfl,rfl⟩:=hq
 rw [decide_eq_true hlast]
 refine L.m rfl (L.m rfl (L.o (O.len runUnderlying61 rfl (Sl.val (hR2.ext he62)) (L.o (O.eql_t rfl rfl (by omega) (L.o (O.pick_true rfl rfl (L.o (O.call (xs:=[.tmp 68]) call108 rfl rfl (need_yes w3) (fun v4 w4 hq=>?_))))))))))
 obtain rfl:=hq
 refine L.nil (T.q (L.m rfl (L.callPan (xs:=[.tmp 70]) rfl call122 rfl rfl (numbers_no _ _ r w4 (hR2.ext he62) (hL.ext ((he1.trans he2).trans he62)) (words_short hll hf) hn (by omega)) (fun w' a hR ha=>⟨ha.defers,rfl,((he1.trans he2).trans he62).trans hR⟩))))

theorem take_end_count (w0:World) (b:Nat) (s:PS) (S:Nat→Prop) (l:Str) (r:List Str) (w:World) (hI:RdI w0 b s S w) (hll:l.length≤100000) (hf:fieldsB l=kEnd::r) (hlast:s.last ∉ [[],kEnd]) (hr:¬ r.length=0) :
  Calls Tryz.prog 67 #[.pointer (some ⟨b,0,none⟩),str l] w (Pan (wrongV) fun w'=>Ext w w'):=by
 refine T.enterP (vs:=[.pointer (some ⟨b,0,none⟩),str l]) func67 rfl ntmps67 rfl ?_
 refine T.q (L.m rfl (L.o (O.call (xs:=[.tmp 10,.func 121]) call120 rfl rfl (fields_calls l w hll) (fun v1 w1 hq=>?_))))
 obtain ⟨A,rfl,hS1,he1⟩:=hq
 obtain ⟨d,hK⟩:=hI
 have hK1:=hK.ext he1
 rw [hf]
 rw [hf] at hS1
 refine L.a rfl (L.nil (T.seq (T.q (L.m rfl (L.o (O.len runUnderlying61 rfl (Sl.val hS1) (L.o (O.eql_f rfl rfl (by simp;omega) (L.nil (T.cf (T.skip (T.seq (?_)))))))))))))
 refine T.anyE mixed 6 [4] rfl [.is _,.is _,.is _,.is _,.is _,.is _] [[],[0],[1],[],[3],[2]] [[],[0],[0,1],[],[3],[0,1,2],[0,1,2,3,4,5]] (by kernel_rfl) (by kernel_rfl) rfl (by kernel_rfl) trivial ⟨fun wx hx=>Ob.o (O.move rfl kR),
   fun wx hx=>Ob.o (O.indexAddr runUnderlying61 sizeOf9 rfl rfl (hS1.ext hx) (by decide) (by simp) kR),
   fun wx hx=>Ob.o (O.load isAgg9 rfl ((hS1.ext hx).at (show 0<(kEnd::r).length by simp)) kR),
   fun wx hx=>Ob.o (O.move rfl kR),
   fun wx hx=>Ob.o (O.cutLx (l:=1) runUnderlying61 sizeOf9 rfl rfl hS1 (by simp) kR),
   fun wx hx=>Ob.o (O.assign rfl kR),
   trivial⟩ (fun w2 he2=>?_)
 have hR2:=rest_words (hS1.ext he2) rfl
 refine L.a rfl (L.nil (T.seq (T.q (L.m rfl (L.nil (T.block (T.q (L.o (O.eql_str_f runUnderlying9 rfl rfl (show ¬ kEnd=kLand by decide) (L.a rfl (L.nil (T.cf (T.q (L.o (O.eql_str_f runUnderlying9 rfl rfl (show ¬ kEnd=kPoint by decide) (L.a rfl (L.nil (T.cf (T.q (L.o (O.eql_str_f runUnderlying9 rfl rfl (show ¬ kEnd=kFace by decide) (L.a rfl (?_)))))))))))))))))))))))
 refine L.nil (T.cf (T.q (L.o (O.eql_str_f runUnderlying9 rfl rfl (show ¬ kEnd=kHole by decide) (L.a rfl (L.nil (T.cf (T.q (L.o (O.eql_str_f runUnderlying9 rfl rfl (show ¬ kEnd=kUnit0 by decide) (L.a rfl (L.nil (T.cf (T.q (L.o (O.eql_str_t runUnderlying9 rfl rfl rfl (L.a rfl (L.nil (T.ct (T.region (L.m rfl (L.o (O.buildSlice (el:=9) (parts:=[(0,_),(1,_)]) (vs:=[(0,_),(1,_)]) (cs:=([[],kEnd].map str)) rfl (fun w=>by kernel_rfl) (fun b159 w159 hb159 hz159 he159 hB159=>?_))))))))))))))))))))))))
 have hK3:=(hK1.ext he2).ext he159
 refine L.o (O.call (xs:=[.tmp 158,.tmp 159]) call68 rfl rfl (after_calls 0 _ [[],kEnd] b (rdCells d s) s.last w159 (Strs.of_blk hB159 rfl (by decide) (Nat.zero_le _)) hK3.row rfl) (fun v3 w3 hq=>?_))
 obtain ⟨rfl,rfl⟩:=hq
 rw [decide_eq_false hlast]
 refine L.o (O.not rfl (L.m rfl (L.m rfl (L.o (O.len runUnderlying61 rfl (Sl.val (hR2.ext he159)) (L.o (O.eql_f rfl rfl (by omega) (L.o (O.pick_true rfl rfl (L.callPan (xs:=[.tmp 166]) rfl call108 rfl rfl (need_no w3) (fun w' a hR ha=>⟨ha.defers,rfl,by rw [hR];exact (he1.trans he2).trans he159⟩)))))))))))

open Go Go.E RowKit

theorem take_face_nums (w0:World) (b:Nat) (s:PS) (S:Nat→Prop) (l:Str) (r:List Str) (w:World) (hI:RdI w0 b s S w) (hll:l.length≤100000) (hf:fieldsB l=kFace::r) (hlast:s.last ∈ [kLand,kPoint,kFace,kHole]) (hL:LibM w) (hn:numsP r=none) (hr:r.length≤100000) :
  Calls Tryz.prog 67 #[.pointer (some ⟨b,0,none⟩),str l] w (Pan (wrongV) fun w'=>Ext w w'):=by
 refine T.enterP (vs:=[.pointer (some ⟨b,0,none⟩),str l]) func67 rfl ntmps67 rfl ?_
 refine T.q (L.m rfl (L.o (O.call (xs:=[.tmp 10,.func 121]) call120 rfl rfl (fields_calls l w hll) (fun v1 w1 hq=>?_))))
 obtain ⟨A,rfl,hS1,he1⟩:=hq
 obtain ⟨d,hK⟩:=hI
 have hK1:=hK.ext he1
 rw [hf]
 rw [hf] at hS1
 refine L.a rfl (L.nil (T.seq (T.q (L.m rfl (L.o (O.len runUnderlying61 rfl (Sl.val hS1) (L.o (O.eql_f rfl rfl (by simp;omega) (L.nil (T.cf (T.skip (T.seq (?_)))))))))))))
 refine T.anyE mixed 6 [4] rfl [.is _,.is _,.is _,.is _,.is _,.is _] [[],[0],[1],[],[3],[2]] [[],[0],[0,1],[],[3],[0,1,2],[0,1,2,3,4,5]] (by kernel_rfl) (by kernel_rfl) rfl (by kernel_rfl) trivial ⟨fun wx hx=>Ob.o (O.move rfl kR),
   fun wx hx=>Ob.o (O.indexAddr runUnderlying61 sizeOf9 rfl rfl (hS1.ext hx) (by decide) (by simp) kR),
   fun wx hx=>Ob.o (O.load isAgg9 rfl ((hS1.ext hx).at (show 0<(kFace::r).length by simp)) kR),
   fun wx hx=>Ob.o (O.move rfl kR),
   fun wx hx=>Ob.o (O.cutLx (l:=1) runUnderlying61 sizeOf9 rfl rfl hS1 (by simp) kR),
   fun wx hx=>Ob.o (O.assign rfl kR),
   trivial⟩ (fun w2 he2=>?_)
 have hR2:=rest_words (hS1.ext he2) rfl
 refine L.a rfl (L.nil (T.seq (T.q (L.m rfl (L.nil (T.block (T.q (L.o (O.eql_str_f runUnderlying9 rfl rfl (show ¬ kFace=kLand by decide) (L.a rfl (L.nil (T.cf (T.q (L.o (O.eql_str_f runUnderlying9 rfl rfl (show ¬ kFace=kPoint by decide) (L.a rfl (L.nil (T.cf (T.q (L.o (O.eql_str_t runUnderlying9 rfl rfl rfl (L.a rfl (?_)))))))))))))))))))))))
 refine L.nil (T.ct (T.q (L.m rfl (L.o (O.buildSlice (el:=9) (parts:=[(0,_),(1,_),(2,_),(3,_)]) (vs:=[(0,_),(1,_),(2,_),(3,_)]) (cs:=([kLand,kPoint,kFace,kHole].map str)) rfl (fun w=>by kernel_rfl) (fun b95 w95 hb95 hz95 he95 hB95=>?_))))))
 have hK3:=(hK1.ext he2).ext he95
 refine L.o (O.call (xs:=[.tmp 94,.tmp 95]) call68 rfl rfl (after_calls 0 _ [kLand,kPoint,kFace,kHole] b (rdCells d s) s.last w95 (Strs.of_blk hB95 rfl (by decide) (Nat.zero_le _)) hK3.row rfl) (fun v3 w3 hq=>?_))
 obtain ⟨rfl,rfl⟩:=hq
 rw [decide_eq_true hlast]
 refine L.o (O.call (xs:=[.tmp 96]) call108 rfl rfl (need_yes w3) (fun v4 w4 hq=>?_))
 obtain rfl:=hq
 have he04:=(he1.trans he2).trans he95
 refine L.nil (?_)
 refine T.anyP mixed 12 0 [0,6] rfl [.is _,.is _,.is _,.is _,.is _,.is _,.is _,.is _,.such (fun _ _=>False),.such (fun _ _=>False),.such (fun _ _=>False),.such (fun _ _=>False)] [[],[],[1],[2],[3],[4],[5],[],[7],[8],[9],[6,10]] [none,none,none,none,none,none,none,none,none,none,none,none] [[],[],[1],[1,2],[1,2,3],[1,2,3,4],[1,2,3,4,5],[],[7],[7,8],[7,8,9],[1,2,3,4,5,6,7,8,9,10],[0,1,2,3,4,5,6,7,8,9,10,11],[0,1,2,3,4,5,6,7,8,9,10,11,12],[0,1,2,3,4,5,6,7,8,9,10,11,12,13],[0,1,2,3,4,5,6,7,8,9,10,11,12,13,14],[0,1,2,3,4,5,6,7,8,9,10,11,12,13,14,15]] (fun _ W=>Ext w4 W) (Ext) (by kernel_rfl) (by kernel_rfl) (by kernel_rfl) rfl ⟨fun _ _ _ _ h=>h,fun _ _ _ _ h=>h,fun _ _ _ _ h=>h,fun _ _ _ _ h=>h,trivial⟩ (Keep.drew _ _) ⟨fun c wx hx=>ObKP.op rfl (O.move rfl ⟨⟨Keep.refl _ _,hx⟩,rfl⟩),
   fun c wx hx=>ObKP.op rfl (O.move rfl ⟨⟨Keep.refl _ _,hx⟩,rfl⟩),
   fun c wx hx=>ObKP.op rfl (O.nilCheck rfl ⟨⟨Keep.refl _ _,hx⟩,rfl⟩),
   fun c wx hx=>ObKP.op rfl (O.fieldAddr runUnderlying129 rfl sizeOf48 rfl ⟨⟨Keep.refl _ _,hx⟩,rfl⟩),
   fun c wx hx=>ObKP.op rfl (O.fieldAddr runUnderlying48 rfl sizeOf46 rfl ⟨⟨Keep.refl _ _,hx⟩,rfl⟩),
   fun c wx hx=>ObKP.op rfl (O.fieldAddr runUnderlying46 rfl sizeOf44 rfl ⟨⟨Keep.refl _ _,hx⟩,rfl⟩),
   fun c wx hx=>ObKP.op rfl (O.load isAgg44 rfl ((Blk.ext (cs:=rdCells d s) hK3.row hx).cell rfl) ⟨⟨Keep.refl _ _,hx⟩,rfl⟩),
   fun c wx hx=>ObKP.op rfl (O.move rfl ⟨⟨Keep.refl _ _,hx⟩,rfl⟩),
   fun c wx hx=>ObKP.pan rfl (PanO.call (xs:=[.tmp 105]) call122 rfl rfl (numbers_no _ _ r wx ((hR2.ext he95).ext hx) (hL.ext (he04.trans hx)) (words_short hll hf) hn (by omega)) (fun w' a hR ha=>⟨ha.defers,rfl,(he04.trans hx).trans hR⟩)),
   fun c wx hx v106 hv106=>hv106.elim,
   fun c wx hx v107 hv107=>hv107.elim,
   fun c wx hx v108 hv108=>hv108.elim,
   trivial⟩ (fun w15 hI15 v106 hv106 v107 hv107 v108 hv108 v109 hv109=>?_)
 exact hv106.elim

end Go.Proofs.YtnlonpcbgjbbaaaGreatDoor
