/-
  BlocksParses, part 20 of its proof: that it returns true for every input, and each argument reads behind the call as it read before. Conditions: the listed variables read as the program's text lays them (tied by the card).
-/
import Derived.Test.YtnlonpcbgjbbaaaGreatDoorWBlocksParses19
set_option linter.unusedVariables false
set_option linter.unusedSimpArgs false
set_option maxRecDepth 20000
namespace Go.Proofs.YtnlonpcbgjbbaaaGreatDoor
open Go Go.E RowKit
attribute [local irreducible] Go.E.T Go.E.L Go.E.O Go.E.Ob
attribute [local irreducible] Go.E.ObX Go.E.ObG Go.E.ObK
variable {xs:List Int} {cs:List Value} {b lo m n sz:Nat} {ob:Option Nat} {el t:TypeId} {u v:Value} {W W' w w' w0:World}
structure gB (ob:Option Nat) (w w':World):Prop where
 os:w'.os=w.os
 tape:w'.tape=w.tape
 output:w'.output=w.output
 size:w.heap.size≤w'.heap.size
 block:∀ k,k<w.heap.size→ob≠some k→w'.heap[k]?=w.heap[k]?
theorem gB.dF (h:Ext w w'):gB ob w w':=⟨h.os,h.tape,h.output,h.size,fun k a _=>h.block k lzX a⟩
theorem gB.refl (ob:Option Nat) (w:World):gB ob w w:=.dF (Keep.refl _ _)
theorem gB.trans {ob:Option Nat} {w w1 a:World} (h:gB ob w w1) (k:gB ob w1 a):gB ob w a :=
 ⟨k.os.trans h.os,k.tape.trans h.tape,k.output.trans h.output,Nat.le_trans h.size k.size,fun i hi ho=>(k.block i (Nat.lt_of_lt_of_le hi h.size) ho).trans (h.block i hi ho)⟩
theorem gB.jV (h:w.grownBy w' ob):gB ob w w' :=
 have h0:Keep w.heap.size w w':=by
  refine Keep.grown (Keep.refl _ _) h fun j _=>?_
  exact Nat.lt_or_ge _ _
 ⟨h0.os,h0.tape,h0.output,h0.size,fun k a ho=>h.block k a (fun e=>ho e.symm)⟩
theorem gB.ext (h:gB ob w w') (a:Ext w0 w) (hn:∀ k,ob=some k→w0.heap.size≤k):Ext w0 w' :=
 ⟨h.os.trans a.os,h.tape.trans a.tape,h.output.trans a.output,Nat.le_trans a.size h.size,fun k _ b=>(h.block k (Nat.lt_of_lt_of_le b a.size) (fun e=>by have:=hn k e;omega)).trans (a.block k lzX b)⟩
theorem gB.blk (h:gB ob w w') (hB:Blk w b cs t) (hn:ob≠some b):Blk w' b cs t:=(h.block b hB.lt hn).trans hB
theorem jY {base:Nat} {xs:List Value} (h:w.ownsRow base el sz v n xs) (hb:Blk w b cs t) (a:el≠t):v.ownBlock≠some b:=fun e=>Jp h hb a b e rfl
def gJ (Q:Nat→Prop) (W:World) (v:Value) (xs:List Int):Prop :=
 (v = .slice none 0 0∧xs = [])∨∃ k off cap cs,v = .slice (some ⟨k,off,none⟩) xs.length cap∧xs.length≤cap∧cap≤maxLen∧Q k∧Blk W k cs 3∧(cs.drop off).take xs.length=xs.map (Value.int .i64)
theorem gJ.ints {Q:Nat→Prop} (h:gJ Q W v xs):Ints .i64 0 W v xs:=by
 rcases h with ⟨rfl,rfl⟩|⟨k,off,cap,cs,rfl,a,b,e,c,d⟩
 ·exact Sl.nil _ _ _
 refine ⟨spX,some ⟨k,off,none⟩,cap,rfl,a,b,.inr ⟨_,rfl,Nat.zero_le _,?_⟩⟩
 have:=((Row.bI c).drop off).take xs.length
 rw [d] at this
 exact this.of_eq (by rw [BU];simp)
theorem gJ.dD {base:Nat} {Q:Nat→Prop} (h:W.ownsRow base 3 1 v xs.length (xs.map (Value.int .i64))) (hQ:∀ k,base≤k→k<W.heap.size→Q k):gJ Q W v xs:=by
 rcases h.2 with ⟨b,c⟩|⟨g,cap,cur,rfl,hb,d,hn,e,f,a⟩
 ·exact .inl ⟨b,List.length_eq_zero_iff.1 c⟩
 have hB:Blk W g cur.toList 3:=by unfold Blk;simpa using d
 exact .inr ⟨g,0,cap,cur.toList,rfl,hn,e,hQ g hb hB.lt,hB,by simpa using a⟩
theorem gJ.stay {Q Q':Nat→Prop} (h:gJ Q W v xs) (a:∀ k cs,Q k→Blk W k cs 3→Q' k∧Blk W' k cs 3):gJ Q' W' v xs:=by
 rcases h with h|⟨b,off,cap,cs,h0,c,d,e,f,g⟩
 ·exact .inl h
 obtain ⟨i,j⟩:=a b cs e f
 exact .inr ⟨b,off,cap,cs,h0,c,d,i,j,g⟩
def xC (Q:Nat→Prop) (W:World) (el:TypeId) (sz:Nat) (v:Value) (n:Nat) (xs:List Value):Prop:=W.ownsRow 0 el sz v n xs∧∀ k,v.ownBlock=some k→Q k
theorem xC.nil (Q:Nat→Prop) (W:World) (el:TypeId) (sz:Nat):xC Q W el sz (.slice none 0 0) 0 []:=⟨iF _ _ _ _,fun k h=>by cases h⟩
theorem xC.stay {Q Q':Nat→Prop} {xs:List Value} (h:xC Q W el sz v n xs) (f:∀ k cs,Q k→v.ownBlock=some k→Blk W k cs el→Q' k∧Blk W' k cs el):xC Q' W' el sz v n xs:=by
 obtain ⟨⟨c,i⟩,j⟩:=h
 rcases i with ⟨l,m⟩|⟨g,cap,cur,rfl,hb,o,hn,p,a,b⟩
 ·subst l
  exact ⟨⟨c,.inl ⟨rfl,m⟩⟩,fun k h=>by cases h⟩
 have hB:Blk W g cur.toList el:=by unfold Blk;simpa using o
 obtain ⟨q,d⟩:=f g _ (j g rfl) rfl hB
 exact ⟨⟨c,.inr ⟨g,cap,cur,rfl,hb,by unfold Blk at d;simpa using d,hn,p,a,b⟩⟩,fun k e=>by cases e;exact q⟩
structure PU where
 nm:Str
 pp:Int
 gs:List Int
 vs:List Int
 qs:List Int
 wt:Bool
structure PS where
 ps:List Pt
 fs:List (List Int × List (List Int))
 G:Int
 P:Int
 L:Int
 us:List PU
 last:Str
def PS0:PS:=⟨[],[],0,0,0,[],[]⟩
def lY:Str:=[117,110,105,116]
def ajz:Str:=[119,97,116,101,114]
def zU (s:PS) (r:List Str):Option PU :=
 let wt:=decide (1<r.length) && decide (r.getD (r.length-1) []=ajz)
 let q:=if wt then r.take (r.length-1) else r
 if 0≤s.G∧0≤s.P∧0≤s.L∧(q.length:Int)=2+s.G+s.P+s.L then
  match fQ (q.drop 1) with
  | some xs=>some ⟨q.getD 0 [],xs.getD 0 0,(xs.drop 1).take s.G.toNat,(xs.drop (1+s.G.toNat)).take s.P.toNat,xs.drop (1+s.G.toNat+s.P.toNat),wt⟩
  | none=>none
 else none
def Bl (fs:List (List Int × List (List Int))) (h:List Int):List (List Int × List (List Int)):=match fs.getLast? with
 | some f=>fs.dropLast ++ [(f.1,f.2 ++ [h])]
 | none=>fs
def iE (s:PS) (l:Str):Option PS:=match fieldsB l with
 | []=>some s
 | k::r =>
  if k=iI then
   (if s.last = []∧r.length=3 then (match fQ r with|some xs=>some { s with G:=xs.getD 0 0,P:=xs.getD 1 0,L:=xs.getD 2 0,last:=k } | none=>none) else none)
  else if k=fC then
   (if s.last ∈ [iI,fC]∧r.length=2 then (match fQ r with|some xs=>some { s with ps:=s.ps ++ [(xs.getD 0 0,xs.getD 1 0)],last:=k } | none=>none) else none)
  else if k=gq then
   (if s.last ∈ [iI,fC,gq,gy] then (match fQ r with|some xs=>some { s with fs:=s.fs ++ [(xs,[])],last:=k } | none=>none) else none)
  else if k=gy then
   (if s.last ∈ [gq,gy] then (match fQ r with|some xs=>some { s with fs:=Bl s.fs xs,last:=k } | none=>none) else none)
  else if k=lY then
   (if s.last ∉ [[],lU] then (match zU s r with|some u=>some { s with us:=s.us ++ [u],last:=k } | none=>none) else none)
  else if k=lU then
   (if s.last ∉ [[],lU]∧r.length=0 then some { s with last:=k } else none)
  else none
theorem Uo {s s':PS} {l:Str} (h:iE s l=some s') (hs:s.last ∈ [gq,gy]→s.fs ≠ []):s'.last ∈ [gq,gy]→s'.fs ≠ []:=by
 unfold iE at h
 split at h
 ·cases h;exact hs
 split at h
 ·split at h
  ·split at h
   ·cases h;rename_i a _ _ _ _;intro b;simp [a,iI,gq,gy] at b
   cases h
  cases h
 split at h
 ·split at h
  ·split at h
   ·cases h;rename_i a _ _ _ _;intro b;simp [a,fC,gq,gy] at b
   cases h
  cases h
 split at h
 ·split at h
  ·split at h
   ·cases h;intro _;simp
   cases h
  cases h
 split at h
 ·split at h
  ·split at h
   ·cases h
    rename_i c _ _ _
    intro _
    have:=hs c
    simp only [Bl]
    cases d:s.fs.getLast? with
    | none=>exact absurd (List.getLast?_eq_none_iff.1 d) this
    | some f=>simp
   cases h
  cases h
 split at h
 ·split at h
  ·split at h
   ·cases h;rename_i a _ _ _ _;intro b;simp [a,lY,gq,gy] at b
   cases h
  cases h
 split at h
 ·split at h
  ·cases h;rename_i a _;intro b;simp [a,lU,gq,gy] at b
  cases h
 cases h
def pu0:PU:=⟨[],0,[],[],[],false⟩
structure FaO (Q:Nat→Prop) (W:World) (v:FaV) (f:List Int × List (List Int)):Prop where
 ox:v.o.xs=f.1
 oi:gJ Q W v.o.v f.1
 hx:v.hs.map (·.xs)=f.2
 hv:xC Q W 30 1 v.hv v.hs.length (dw v.hs)
 ri:∀ h∈v.hs,gJ Q W h.v h.xs
structure UnO (Q:Nat→Prop) (W:World) (v:UnV) (u:PU):Prop where
 nm:v.nm=u.nm
 pp:v.pp=u.pp
 gs:v.gs=u.gs
 vs:v.vs=u.vs
 qs:v.ps=u.qs
 wt:v.wt=u.wt
 gi:gJ Q W v.gv u.gs
 vi:gJ Q W v.vv u.vs
 qi:gJ Q W v.pv u.qs
theorem FaO.stay {Q Q':Nat→Prop} {W W':World} {v:FaV} {f:List Int × List (List Int)} (h:FaO Q W v f) (a:∀ k cs t,Q k→Blk W k cs t→Q' k∧Blk W' k cs t):FaO Q' W' v f :=
 ⟨h.ox,h.oi.stay fun k cs q b=>a k cs _ q b,h.hx,h.hv.stay fun k cs q _ b=>a k cs _ q b,fun x hx=>(h.ri x hx).stay fun k cs q b=>a k cs _ q b⟩
theorem UnO.stay {Q Q':Nat→Prop} {W W':World} {v:UnV} {u:PU} (h:UnO Q W v u) (a:∀ k cs,Q k→Blk W k cs 3→Q' k∧Blk W' k cs 3):UnO Q' W' v u :=
 ⟨h.nm,h.pp,h.gs,h.vs,h.qs,h.wt,h.gi.stay a,h.vi.stay a,h.qi.stay a⟩
structure RdD where
 pv:Value
 fv:Value
 uv:Value
 vs:List FaV
 us:List UnV
def dU (d:RdD) (s:PS):List Value:=[d.pv,d.fv,.int .i64 s.G,.int .i64 s.P,.int .i64 s.L,d.uv,str s.last]
def RdQ (w0:World) (b:Nat) (S:Nat→Prop) (k:Nat):Prop:=w0.heap.size≤k∧k≠b∧¬ S k
structure RdK (w0:World) (b:Nat) (d:RdD) (s:PS) (S:Nat→Prop) (W:World):Prop where
 e:Ext w0 W
 lo:w0.heap.size≤b
 row:Blk W b (dU d s) 129
 pts:xC (RdQ w0 b S) W 124 2 d.pv s.ps.length (pcs s.ps)
 fsr:xC (RdQ w0 b S) W 127 2 d.fv d.vs.length (fO d.vs)
 fsl:d.vs.length=s.fs.length
 fa:∀ i,i<d.vs.length→FaO (RdQ w0 b S) W (d.vs.getD i f0) (s.fs.getD i ([],[]))
 sep:∀ i,i+1<d.vs.length→∀ k,(d.vs.getD (d.vs.length-1) f0).hv.ownBlock=some k→(d.vs.getD i f0).hv.ownBlock≠some k
 usr:xC (RdQ w0 b S) W 51 6 d.uv d.us.length (iR d.us)
 usl:d.us.length=s.us.length
 un:∀ i,i<d.us.length→UnO (RdQ w0 b S) W (d.us.getD i u0) (s.us.getD i pu0)
 big:(-1000000000≤s.G∧s.G≤1000000000)∧(-1000000000≤s.P∧s.P≤1000000000) ∧ -1000000000≤s.L∧s.L≤1000000000
 S:∀ k,S k→w0.heap.size≤k∧k<W.heap.size∧k≠b
theorem RdK.stay {w0:World} {b:Nat} {d:RdD} {s:PS} {S S':Nat→Prop} {W W':World} (h:RdK w0 b d s S W) (c:Ext w0 W') (hb:Blk W' b (dU d s) 129) (hS:∀ k,S' k→w0.heap.size≤k∧k<W'.heap.size∧k≠b)
  (a:∀ k cs t,RdQ w0 b S k→Blk W k cs t→RdQ w0 b S' k∧Blk W' k cs t):RdK w0 b d s S' W' :=
 ⟨c,h.lo,hb,h.pts.stay fun k cs q _ B=>a k cs _ q B,h.fsr.stay fun k cs q _ B=>a k cs _ q B,h.fsl,fun i hi=>(h.fa i hi).stay a,h.sep,h.usr.stay fun k cs q _ B=>a k cs _ q B,h.usl,fun i hi=>(h.un i hi).stay fun k cs q B=>a k cs _ q B,h.big,hS⟩
theorem RdK.ext {w0:World} {b:Nat} {d:RdD} {s:PS} {S:Nat→Prop} {W W':World} (h:RdK w0 b d s S W) (k:Ext W W'):RdK w0 b d s S W' :=
 h.stay (h.e.trans k) (Blk.ext (cs:=dU d s) h.row k) (fun j a=>by obtain ⟨c,a2,a3⟩:=h.S j a;exact ⟨c,Nat.lt_of_lt_of_le a2 k.size,a3⟩) fun j cs t q B=>⟨q,Blk.ext B k⟩
def RdI (w0:World) (b:Nat) (s:PS) (S:Nat→Prop) (W:World):Prop:=∃ d,RdK w0 b d s S W
theorem RdI.Lh (w0:World) (b:Nat):Kz (RdI w0 b):=by
 refine ⟨?_,?_⟩
 ·rintro s S S' W W' ⟨d,h⟩ k hS
  have g:=Blk.lt (cs:=dU d s) h.row
  refine ⟨d,h.stay (h.e.trans k) (Blk.ext (cs:=dU d s) h.row k) (fun j a=>?_) fun j cs t q B=>⟨⟨q.1,q.2.1,fun a=>?_⟩,Blk.ext B k⟩⟩
  ·rcases hS j a with c|⟨c,l⟩
   ·obtain ⟨f,a2,a3⟩:=h.S j c
    exact ⟨f,Nat.lt_of_lt_of_le a2 k.size,a3⟩
   have:=h.e.size
   exact ⟨omX,l,omX⟩
  rcases hS j a with c|⟨c,_⟩
  ·exact q.2.2 c
  have:=B.lt;omega
 rintro s S W W' j ⟨d,h⟩ a k
 obtain ⟨f,a2,a3⟩:=h.S j a
 refine ⟨d,h.stay (h.e.upd k (.inr f)) (Blk.upd (cs:=dU d s) h.row k (Ne.symm a3)) (fun i hi=>by rw [k.size];exact h.S i hi) fun i cs t q B=>⟨q,Blk.upd B k (fun e=>q.2.2 (by rw [e];exact a))⟩⟩
theorem RdI.PX {s:PS} {S:Nat→Prop} (h:RdI w0 b s S W):Ext w0 W:=by obtain ⟨d,h⟩:=h;exact h.e
def PY (s:PS) (j:Nat):Prop:=s.ps.length≤j∧s.fs.length≤j∧s.us.length≤j∧∀ f∈s.fs,f.2.length≤j
theorem PY.more {s:PS} {j:Nat} (h:PY s j):PY s (j+1):=⟨by have:=h.1;omega,by have:=h.2.1;omega,by have:=h.2.2.1;omega,fun f hf=>by have:=h.2.2.2 f hf;omega⟩
theorem PY.step {s s':PS} {l:Str} {j:Nat} (h:PY s j) (hs:iE s l=some s'):PY s' (j+1):=by
 obtain ⟨c,d,e,a⟩:=h
 unfold iE at hs
 split at hs
 ·cases hs;exact PY.more ⟨c,d,e,a⟩
 split at hs
 ·split at hs
  ·split at hs
   ·cases hs;exact PY.more ⟨c,d,e,a⟩
   cases hs
  cases hs
 split at hs
 ·split at hs
  ·split at hs
   ·cases hs;exact ⟨by simp;omega,by simp only;omega,by simp only;omega,fun f hf=>by have:=a f hf;omega⟩
   cases hs
  cases hs
 split at hs
 ·split at hs
  ·split at hs
   ·cases hs
    refine ⟨by simp only;omega,by simp;omega,by simp only;omega,fun f hf=>?_⟩
    rcases List.mem_append.1 hf with hf|hf
    ·have:=a f hf;omega
    rw [List.mem_singleton.1 hf];simp
   cases hs
  cases hs
 split at hs
 ·split at hs
  ·split at hs
   ·cases hs
    rename_i xs _
    refine ⟨by simp only;omega,?_,by simp only;omega,fun f hf=>?_⟩
    ·simp only [Bl]
     cases b:s.fs.getLast? with
     | none=>simp only;omega
     | some f=>simp;omega
    simp only [Bl] at hf
    cases b:s.fs.getLast? with
    | none=>rw [b] at hf;have:=a f hf;omega
    | some g =>
     rw [b] at hf
     simp only [List.mem_append,List.mem_singleton] at hf
     rcases hf with hf|hf
     ·have:=a f ((List.dropLast_sublist _).subset hf);omega
     have:=a g (List.mem_of_getLast? b)
     rw [hf];simp;omega
   cases hs
  cases hs
 split at hs
 ·split at hs
  ·split at hs
   ·cases hs;exact ⟨by simp only;omega,by simp only;omega,by simp;omega,fun f hf=>by have:=a f hf;omega⟩
   cases hs
  cases hs
 split at hs
 ·split at hs
  ·cases hs;exact PY.more ⟨c,d,e,a⟩
  cases hs
 cases hs
def sH (sz:Nat):Value→Nat→Nat→Value
 | .slice oa _ cap,l,h=>.slice (if cap=l then oa else oa.map (·.add (l*sz))) (h-l) (cap-l)
 | v,_,_=>v
theorem JH {l h:Nat} (hv:Sl lo w v n sz cs) (f:l≤h) (g:h≤n):Sl lo w (sH sz v l h) (h-l) sz ((cs.drop (l*sz)).take ((h-l)*sz)):=by
 obtain ⟨c,oa,cap,rfl,i,j,b⟩:=hv
 refine ⟨?_,_,cap-l,rfl,omX,omX,?_⟩
 ·rw [List.length_take,List.length_drop,c]
  refine Nat.min_eq_left ?_
  rw [← Nat.sub_mul];exact Nat.mul_le_mul_right _ omX
 rcases b with b|⟨ad,e1,d,e⟩
 ·left;omega
 by_cases a:cap=l
 ·left;omega
 refine .inr ⟨ad.add (l*sz),by rw [if_neg a,e1];rfl,by rw [add_block];exact d,(e.drop _).take _⟩
theorem sJ {C:Cx} {e:Env} {w₁:World} {K:Value→World→Prop} {d:Option Tmp} {ty:TypeId} {pos:String} {aft:Array Edge} {g:Option (Nat × Bool)} {x y z:Operand} {l h:Nat} (b:∀ w,(underlying t).run C.P w = .ok (.slice el) w) (hs:∀ w,(sizeOf el).run C.P w = .ok sz w) (hx:ev e x=some v) (hy:ev e y=some (.int .i64 l)) (c:ev e z=some (.int .i64 h))
  (hv:Sl lo w₁ v n sz cs) (f:l≤h) (j:h≤n) (i:K (sH sz v l h) w):O C e ⟨d,.slice t x (some y) (some z) none,ty,pos,aft,g⟩ w K:=by
 obtain ⟨k,oa,cap,rfl,m,o,p⟩:=hv
 exact bD spX (fun a ha=>by
  simp [execOp,Instr.sliceAt,Instr.slice,Instr.sliceBounds,Instr.sliceBound,asIntOf,ha.eval hx,ha.eval hy,ha.eval c,b w,hs w,f,show h≤cap by omega]
  rfl) i
theorem oU {C:Cx} {e:Env} {w₁:World} {K:Value→World→Prop} {d:Option Tmp} {ty:TypeId} {pos:String} {aft:Array Edge} {g:Option (Nat × Bool)} {x y:Operand} {l:Nat} (b:∀ w,(underlying t).run C.P w = .ok (.slice el) w) (hs:∀ w,(sizeOf el).run C.P w = .ok sz w) (hx:ev e x=some v) (hy:ev e y=some (.int .i64 l))
  (hv:Sl lo w₁ v n sz cs) (c:l≤n) (f:K (sH sz v l n) w):O C e ⟨d,.slice t x (some y) none none,ty,pos,aft,g⟩ w K:=by
 obtain ⟨h,oa,cap,rfl,i,j,k⟩:=hv
 exact bD spX (fun a ha=>by
  simp [execOp,Instr.sliceAt,Instr.slice,Instr.sliceBounds,Instr.sliceBound,asIntOf,ha.eval hx,ha.eval hy,b w,hs w,c]
  rfl) f
theorem XB {s:Str} : ∀ w∈fieldsB s,w.length≤100000∨s.length > 100000:=fun w a=>by
 rcases Nat.lt_or_ge 100000 s.length with h|h
 ·exact .inr h
 refine .inl ?_
 simp only [fieldsB,List.mem_map,Lib.goFieldsP] at a
 obtain ⟨x,⟨y,_,rfl⟩,rfl⟩:=a
 have:(ByteArray.extract ⟨s.toArray⟩ y.1 y.2).data.toList.length≤s.length:=by
  simp [ByteArray.data_extract];omega
 omega
theorem Ur {A:Nat} {k:Str} {r:List Str} (h:Strs lo w (.slice (some ⟨A,0,none⟩) n n) (k::r)) (hn:n=r.length+1):Strs lo w (sH 1 (.slice (some ⟨A,0,none⟩) n n) 1 n) r:=by
 subst hn
 have:=JH (l:=1) (h:=r.length+1) (h:Sl lo w _ _ _ _) omX leX
 have e:(((k::r).map str).drop (1*1)).take ((r.length+1-1)*1)=r.map str:=by simp;exact List.take_of_length_le spX
 rw [e,show r.length+1-1=r.length by omega] at this
 exact this
theorem RdK.setLast {d:RdD} {s:PS} {S:Nat→Prop} (h:RdK w0 b d s S W) {k:Str} (c:Upd b W W') (hB:Blk W' b ((dU d s).set 6 (str k)) 129):RdK w0 b d { s with last:=k } S W':=by
 have g:=h.stay (S':=S) (W':=W) h.e h.row h.S (fun j cs t q B=>⟨q,B⟩)
 have a:∀ j cs t,RdQ w0 b S j→Blk W j cs t→RdQ w0 b S j∧Blk W' j cs t:=fun j cs t q B=>⟨q,Blk.upd B c q.2.1⟩
 exact ⟨h.e.upd c (.inr h.lo),h.lo,hB,h.pts.stay fun k cs q _ B=>a k cs _ q B,h.fsr.stay fun k cs q _ B=>a k cs _ q B,h.fsl,fun i hi=>(h.fa i hi).stay a,h.sep,h.usr.stay fun k cs q _ B=>a k cs _ q B,h.usl,fun i hi=>(h.un i hi).stay fun k cs q B=>a k cs _ q B,h.big,fun j f=>by rw [c.size];exact h.S j f⟩
def Us (w:World) (b:Nat) (t:TypeId) (rows:List (List Value)) (c:Nat) (W:World):Prop:=gB (some b) w W∧Blk W b (rows.getD c []) t
theorem Us.start {row:List Value} {rows:List (List Value)} (h:Blk w b row t) (k:Ext w W):Us w b t (row::rows) 0 W:=⟨.dF k,Blk.ext h k⟩
theorem Us.next {c:Nat} {rows:List (List Value)} (h:Us w b t rows c W) (a:Upd b W W') {row:List Value} (hB:Blk W' b row t) (d:rows.getD (c+1) []=row):Us w b t rows (c+1) W' :=
 ⟨h.1.trans ⟨a.os,a.tape,a.output,Nat.le_of_eq a.size.symm,fun k _ f=>a.block k (fun e=>f (by rw [e]))⟩,by rw [d];exact hB⟩
theorem Us.ints {w W:World} {b c:Nat} {t:TypeId} {rows:List (List Value)} (h:Us w b t rows c W) {v:Value} {xs:List Int} {Q:Nat→Prop} (hI:gJ Q w v xs) (hQ:∀ k,Q k→k≠b):Ints .i64 0 W v xs :=
 (hI.stay (Q':=Q) fun k cs q B=>⟨q,h.1.blk B (fun e=>hQ k q (by cases e;rfl))⟩).ints
def PZ (s:PS) (xs:List Int):PS:={ s with G:=xs.getD 0 0,P:=xs.getD 1 0,L:=xs.getD 2 0,last:=iI }
theorem RdK.ac9 {d:RdD} {s:PS} {S:Nat→Prop} (h:RdK w0 b d s S W) (hb:(-1000000000≤xs.getD 0 0∧xs.getD 0 0≤1000000000)∧(-1000000000≤xs.getD 1 0∧xs.getD 1 0≤1000000000) ∧ -1000000000≤xs.getD 2 0∧xs.getD 2 0≤1000000000)
  (c:gB (some b) W W') (hB:Blk W' b (dU d (PZ s xs)) 129):RdK w0 b d (PZ s xs) S W':=by
 have a:∀ j cs t,RdQ w0 b S j→Blk W j cs t→RdQ w0 b S j∧Blk W' j cs t:=fun j cs t q B=>⟨q,c.blk B (fun e=>q.2.1 (by cases e;rfl))⟩
 exact ⟨c.ext h.e (fun k e=>by cases e;exact h.lo),h.lo,hB,h.pts.stay fun k cs q _ B=>a k cs _ q B,h.fsr.stay fun k cs q _ B=>a k cs _ q B,h.fsl,fun i hi=>(h.fa i hi).stay a,h.sep,h.usr.stay fun k cs q _ B=>a k cs _ q B,h.usl,fun i hi=>(h.un i hi).stay fun k cs q B=>a k cs _ q B,hb,fun j f=>by obtain ⟨g,a2,a3⟩:=h.S j f;exact ⟨g,Nat.lt_of_lt_of_le a2 c.size,a3⟩⟩
theorem BQ:∀ (ws:List Str) (xs:List Int),fQ ws=some xs→∀ i,i<xs.length → -1000000000≤xs.getD i 0∧xs.getD i 0≤1000000000:=fun ws xs h i hi=>by
 obtain ⟨b,a⟩:=jW ws xs h
 exact (qW (a i omX)).2.2
theorem pK {l:Str} {k:Str} {r:List Str} (a:l.length≤100000) (hf:fieldsB l=k::r):∀ x∈r,x.length≤100000:=fun x hx=>by
 rcases XB (s:=l) x (by rw [hf];exact List.mem_cons_of_mem _ hx) with h|h
 ·exact h
 omega
def ada (ob:Option Nat) (el:TypeId) (cs:List Value) (v:Value) (W:World):Prop:=∃ k,v = .slice (some ⟨k,0,none⟩) 1 1∧ob≠some k∧Blk W k cs el
theorem ada.st : ∀ v w w',gB ob w w'→ada ob el cs v w→ada ob el cs v w':=fun _ _ _ h ⟨k,b,a,c⟩=>⟨k,b,a,h.blk c a⟩
def Bo (ob:Option Nat) (m:Nat) (el:TypeId) (sz n:Nat) (xs:List Value) (v:Value) (W:World):Prop:=W.ownsRow 0 el sz v n xs∧∀ k,v.ownBlock=some k→ob=some k∨m≤k
theorem Bo.ext {xs:List Value} (h:Bo ob m el sz n xs v W) (k:Ext W W'):Bo ob m el sz n xs v W':=⟨cO h.1 k lzX,h.2⟩
theorem Bo.updB {xs:List Value} (h:Bo ob m el sz n xs v W) (k:Upd b W W') (hB:Blk W b cs t) (a:el≠t):Bo ob m el sz n xs v W' :=
 ⟨(xC.stay (Q:=fun _=>True) (Q':=fun _=>True) ⟨h.1,fun _ _=>trivial⟩ fun j _ _ e B=>⟨trivial,Blk.upd B k (fun c=>jY h.1 hB a (by rw [e,c]))⟩).1,h.2⟩
def NC (w:World) (ob:Option Nat) (i:Nat) (G:Value→World→Prop) (_:Nat) (σ:BD) (W:World):Prop:=(σ i=none∧Ext w W)∨∃ v,σ i=some v∧gB ob w W∧G v W
section
variable {w W W':World} {ob:Option Nat} {i c:Nat} {G:Value→World→Prop} {σ:BD}
theorem NC.but (h:NC w ob i G c σ W):gB ob w W:=by
 rcases h with ⟨_,h⟩|⟨v,_,h,_⟩
 ·exact .dF h
 exact h
theorem NC.PX (h:NC w ob i G c σ W) (hn:σ i=none):Ext w W:=by
 rcases h with ⟨_,h⟩|⟨v,h,_⟩
 ·exact h
 rw [hn] at h;cases h
theorem NC.nop (h:NC w ob i G c σ W) {k:Nat} (d:Ext W W') (hG:∀ v,G v W→G v W') (hi:k≠i):NC w ob i G c (upV σ k u) W':=by
 rcases h with ⟨a,b⟩|⟨v,a,b,e⟩
 ·exact .inl ⟨by rw [qH _ _ hi];exact a,b.trans d⟩
 exact .inr ⟨v,by rw [qH _ _ hi];exact a,b.trans (.dF d),hG v e⟩
theorem NC.app {c':Nat} (h:NC w ob i G c σ W) (hn:σ i=none) (a:W.grownBy W' ob) (hG:G u W'):NC w ob i G c' (upV σ i u) W':=.inr ⟨u,oC _ _ _,(gB.dF (h.PX hn)).trans (.jV a),hG⟩
theorem NC.done (h:NC w ob i G c σ W) (hs:σ i=some u):gB ob w W∧G u W:=by
 rcases h with ⟨a,_⟩|⟨v,a,b,d⟩
 ·rw [hs] at a;cases a
 rw [hs] at a;cases a;exact ⟨b,d⟩
end
theorem sV {base k:Nat} {xs:List Value} (h:W.ownsRow base el sz v n xs) (e:v.ownBlock=some k):k<W.heap.size:=by
 rcases h.2 with ⟨a,_⟩|⟨g,cap,cur,rfl,_,b,_⟩
 ·subst a;cases e
 cases e;exact (Array.getElem?_eq_some_iff.1 b).1
def nO (s:PS) (xs:List Int):PS:={ s with ps:=s.ps ++ [(xs.getD 0 0,xs.getD 1 0)],last:=fC }
theorem RdK.JI {d:RdD} {s:PS} {S:Nat→Prop} (h:RdK w0 b d s S W) {a:Value} (m:∀ k,k<W.heap.size→k≠b→d.pv.ownBlock≠some k→W'.heap[k]?=W.heap[k]?) (n:Ext w0 W') (o:W.heap.size≤W'.heap.size)
  (hB:Blk W' b (dU { d with pv:=a } (nO s xs)) 129) (hP:Bo d.pv.ownBlock W.heap.size 124 2 (s.ps.length+1) (pcs s.ps++pC (xs.getD 0 0,xs.getD 1 0)) a W'):RdK w0 b { d with pv:=a } (nO s xs) S W':=by
 have g:∀ j cs t,t≠124→RdQ w0 b S j→Blk W j cs t→RdQ w0 b S j∧Blk W' j cs t:=fun j cs t p q B=>⟨q,(m j B.lt q.2.1 (jY h.pts.1 B (Ne.symm p))).trans B⟩
 have c:∀ k cs,RdQ w0 b S k→Blk W k cs 3→RdQ w0 b S k∧Blk W' k cs 3:=fun k cs q B=>g k cs _ dcX q B
 refine ⟨n,h.lo,hB,⟨?_,fun k e=>?_⟩,h.fsr.stay fun k cs q _ B=>g k cs _ dcX q B,h.fsl,fun i hi=>?_,h.sep,h.usr.stay fun k cs q _ B=>g k cs _ dcX q B,h.usl,fun i hi=>(h.un i hi).stay c,h.big,fun j r=>by obtain ⟨u,a2,a3⟩:=h.S j r;exact ⟨u,Nat.lt_of_lt_of_le a2 o,a3⟩⟩
 ·have e1:(nO s xs).ps.length=s.ps.length+1:=by simp [nO]
  have v:pcs (nO s xs).ps=pcs s.ps++pC (xs.getD 0 0,xs.getD 1 0):=by simp [nO,pcs]
  rw [e1,v];exact hP.1
 ·have w:=Blk.lt (cs:=dU d s) h.row
  have y:=h.e.size
  rcases hP.2 k e with l|l
  ·exact h.pts.2 k l
  exact ⟨omX,omX,fun g=>by have:=(h.S k g).2.1;omega⟩
 have f:=h.fa i hi
 exact ⟨f.ox,f.oi.stay c,f.hx,f.hv.stay fun k cs q _ B=>g k cs _ dcX q B,fun x hx=>(f.ri x hx).stay c⟩
theorem gB.keep (h:gB ob w w') (a:∀ k,ob=some k→k<lo):Keep lo w w':=⟨h.os,h.tape,h.output,h.size,fun k c b=>h.block k b (fun e=>by have:=a k e;omega)⟩
def kE (m:Nat) (k:Nat):Prop:=m≤k
def adb (m:Nat) (xs:List Int) (v:Value) (W:World):Prop:=∃ oa cp,v = .slice oa xs.length cp∧gJ (kE m) W v xs
theorem gJ.form {Q:Nat→Prop} (h:gJ Q W v xs):∃ oa cp,v = .slice oa xs.length cp:=by
 rcases h with ⟨rfl,rfl⟩|⟨k,off,cap,cs,rfl,_⟩
 ·exact ⟨none,0,rfl⟩
 exact ⟨_,_,rfl⟩
theorem gJ.abw (a:∀ k,ob=some k→k<m) (h:gJ (kE m) W v xs) (k:gB ob W W'):gJ (kE m) W' v xs:=h.stay fun j cs q B=>⟨q,k.blk B (fun e=>by have:=a j e;unfold kE at q;omega)⟩
theorem adb.st (a:∀ k,ob=some k→k<m):∀ v w w',gB ob w w'→adb m xs v w→adb m xs v w':=fun _ _ _ h ⟨oa,cp,b,c⟩=>⟨oa,cp,b,c.abw a h⟩
def afU (m:Nat) (xs:List Int) (v:Value) (W:World):Prop:=∃ oa cp,v = .agg #[.slice oa xs.length cp,.slice none 0 0]∧gJ (kE m) W (.slice oa xs.length cp) xs
theorem afU.st (a:∀ k,ob=some k→k<m):∀ v w w',gB ob w w'→afU m xs v w→afU m xs v w':=fun _ _ _ h ⟨oa,cp,b,c⟩=>⟨oa,cp,b,c.abw a h⟩
def afV (ob:Option Nat) (m:Nat) (xs:List Int) (v:Value) (W:World):Prop:=∃ k oa cp,v = .slice (some ⟨k,0,none⟩) 1 1∧ob≠some k∧Blk W k [.slice oa xs.length cp,.slice none 0 0] 127∧gJ (kE m) W (.slice oa xs.length cp) xs
theorem afV.st (b:∀ k,ob=some k→k<m):∀ v w w',gB ob w w'→afV ob m xs v w→afV ob m xs v w':=fun _ _ _ h ⟨k,oa,cp,c,a,d,e⟩=>⟨k,oa,cp,c,a,h.blk (cs:=[.slice oa xs.length cp,.slice none 0 0]) d a,e.abw b h⟩
def ade (ob:Option Nat) (m:Nat) (vs:List FaV) (xs:List Int) (v:Value) (W:World):Prop:=∃ u,Bo ob m 127 2 (vs.length+1) (fO vs ++ [u,.slice none 0 0]) v W∧gJ (kE m) W u xs
theorem ade.ext {ob:Option Nat} {m:Nat} {vs:List FaV} {xs:List Int} {v:Value} {W W':World} (h:ade ob m vs xs v W) (k:Ext W W'):ade ob m vs xs v W':=by
 obtain ⟨u,a,b⟩:=h
 exact ⟨u,a.ext k,b.stay fun j cs q B=>⟨q,Blk.ext B k⟩⟩
def wY (s:PS) (xs:List Int):PS:={ s with fs:=s.fs ++ [(xs,[])],last:=gq }
def oK (d:RdD) (v u:Value) (xs:List Int):RdD:={ d with fv:=v,vs:=d.vs ++ [⟨⟨u,xs⟩,.slice none 0 0,[]⟩] }
theorem ade.updB {ob:Option Nat} {m b:Nat} {t:TypeId} {vs:List FaV} {xs:List Int} {cs:List Value} {v:Value} {W W':World} (h:ade ob m vs xs v W) (k:Upd b W W') (hB:Blk W b cs t) (a:127≠t) (f:b<m):ade ob m vs xs v W':=by
 obtain ⟨u,c,d⟩:=h
 exact ⟨u,c.updB k hB a,d.stay fun j cs q B=>⟨q,Blk.upd B k (fun e=>by unfold kE at q;omega)⟩⟩
theorem kV {α:Type} {l r:List α} {i:Nat} {x:α} (h:i<l.length):(l++r).getD i x=l.getD i x:=by
 rw [List.getD_eq_getElem?_getD,List.getElem?_append_left h,← List.getD_eq_getElem?_getD]
theorem jB {α:Type} {l:List α} {i:Nat} {x y:α} (h:i=l.length):(l ++ [y]).getD i x=y:=by
 subst h;simp [List.getD]
theorem RdK.P5 {d:RdD} {s:PS} {S:Nat→Prop} (h:RdK w0 b d s S W) (p:∀ k,k<W.heap.size→k≠b→d.fv.ownBlock≠some k→W'.heap[k]?=W.heap[k]?) (r:Ext w0 W') (w:W.heap.size≤W'.heap.size)
  (hB:Blk W' b (dU (oK d v u xs) (wY s xs)) 129) (hG:Bo d.fv.ownBlock W.heap.size 127 2 (d.vs.length+1) (fO d.vs ++ [u,.slice none 0 0]) v W') (hI:gJ (kE W.heap.size) W' u xs):RdK w0 b (oK d v u xs) (wY s xs) S W':=by
 have m:∀ j cs t,t≠127→RdQ w0 b S j→Blk W j cs t→RdQ w0 b S j∧Blk W' j cs t:=fun j cs t y q B=>⟨q,(p j B.lt q.2.1 (jY h.fsr.1 B (Ne.symm y))).trans B⟩
 have g:∀ k cs,RdQ w0 b S k→Blk W k cs 3→RdQ w0 b S k∧Blk W' k cs 3:=fun k cs q B=>m k cs _ dcX q B
 have z:=Blk.lt (cs:=dU d s) h.row
 have A:=h.e.size
 have a:∀ k,W.heap.size≤k→RdQ w0 b S k:=fun k c=>⟨omX,omX,fun m=>by have:=(h.S k m).2.1;omega⟩
 have l:(oK d v u xs).vs.length=d.vs.length+1:=by simp [oK]
 have o:=h.fsl
 refine ⟨r,h.lo,hB,h.pts.stay fun k cs q _ B=>m k cs _ dcX q B,⟨?_,fun k e=>?_⟩,by simp [oK,wY,o],fun i hi=>?_,fun i hi k e=>?_,h.usr.stay fun k cs q _ B=>m k cs _ dcX q B,h.usl,fun i hi=>(h.un i hi).stay g,h.big,fun j C=>by obtain ⟨D,a2,a3⟩:=h.S j C;exact ⟨D,Nat.lt_of_lt_of_le a2 w,a3⟩⟩
 ·have n:fO (oK d v u xs).vs=fO d.vs ++ [u,.slice none 0 0]:=by simp [oK,fO,FaV.cells]
  rw [l,n];exact hG.1
 ·rcases hG.2 k e with c|c
  ·exact h.fsr.2 k c
  exact a k c
 ·rw [l] at hi
  rcases Nat.lt_or_ge i d.vs.length with c|c
  ·have f:=h.fa i c
   have e1:(oK d v u xs).vs.getD i f0=d.vs.getD i f0:=kV c
   have n:(wY s xs).fs.getD i ([],[])=s.fs.getD i ([],[]):=kV omX
   rw [e1,n]
   exact ⟨f.ox,f.oi.stay g,f.hx,f.hv.stay fun k cs q _ B=>m k cs _ dcX q B,fun x hx=>(f.ri x hx).stay g⟩
  have e1:(oK d v u xs).vs.getD i f0=⟨⟨u,xs⟩,.slice none 0 0,[]⟩:=jB omX
  have n:(wY s xs).fs.getD i ([],[])=(xs,[]):=jB omX
  rw [e1,n]
  exact ⟨rfl,hI.stay fun k cs q B=>⟨a k q,B⟩,rfl,xC.nil _ _ _ _,fun x hx=>by cases hx⟩
 rw [l] at e
 have e1:(oK d v u xs).vs.getD (d.vs.length+1-1) f0=⟨⟨u,xs⟩,.slice none 0 0,[]⟩:=jB omX
 rw [e1] at e
 cases e
end Go.Proofs.YtnlonpcbgjbbaaaGreatDoor
