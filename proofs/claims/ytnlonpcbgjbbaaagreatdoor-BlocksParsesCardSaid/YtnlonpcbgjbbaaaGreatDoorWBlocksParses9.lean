/-
  BlocksParses, part 9 of its proof: that it returns true for every input, and each argument reads behind the call as it read before. Conditions: the listed variables read as the program's text lays them (tied by the card).
-/
import Derived.Test.YtnlonpcbgjbbaaaGreatDoorWBlocksParses8
import Derived.Lib.AppendZeros
set_option linter.unusedVariables false
set_option linter.unusedSimpArgs false
set_option maxRecDepth 20000
namespace Go.Proofs.YtnlonpcbgjbbaaaGreatDoor
open Go.Proofs.Tryz
open Go Go.E
attribute [local irreducible] Go.E.T Go.E.L Go.E.O Go.E.Ob
attribute [local irreducible] Go.E.ObX
variable {l:List Int} {ps:List Pt} {i n:Nat}
structure St where
 a:Nat
 b:Nat
 f:Nat
 r:Nat
def St.val (s:St):Value:=.agg #[.int .i64 s.a,.int .i64 s.b,.int .i64 s.f,.int .i64 s.r]
def St.cells (s:St):List Value:=[.int .i64 s.a,.int .i64 s.b,.int .i64 s.f,.int .i64 s.r]
def gP (ps:List Pt) (i:Nat):Pt:=ps.getD i (0,0)
def St.ok (ps:List Pt) (s:St):Prop:=s.a<ps.length∧s.b<ps.length∧¬ gP ps s.a=gP ps s.b
def o8 (ps:List Pt) (s t:St):Bool :=
 if s.a=t.a∧s.b=t.b∨s.a=t.b∧s.b=t.a then false
 else if mV (gP ps s.a) (gP ps s.b) (gP ps t.a) (gP ps t.b)=0 then false
 else if mV (gP ps s.a) (gP ps s.b) (gP ps t.a) (gP ps t.b)=1 then decide (s.a≠t.a∧s.a≠t.b∧s.b≠t.a∧s.b≠t.b)
 else true
theorem og (hf:NfL ps) (h:i<ps.length):rE (gP ps i)=false:=hf i h
set_option maxHeartbeats 4000000 in
theorem O4 (lo:Nat) (c:CxV) (s t:St) (w:World) (H:Pts lo w c.pv c.ps) (hf:NfL c.ps) (hs:s.ok c.ps) (I:t.ok c.ps) :
  Calls Tryz.prog 212 #[c.val,s.val,t.val] w (Ret fun v w'=>v = .bool (o8 c.ps s t)∧Ext w w'):=by
 obtain ⟨l,n,y⟩:=hs
 obtain ⟨q,r,A⟩:=I
 refine aJ (vs:=[c.val,s.val,t.val]) func212 Z ntmps212 Z ?_
 refine au (bM Z (fun b3 S J K B hB3=>?_))
 refine bM Z (fun b4 U M N u C=>?_)
 refine bM Z (fun b5 x O P j D=>?_)
 have E:=(B.trans u).trans j
 have hC:Blk x b3 c.cells 46:=Blk.ext (cs:=c.cells) hB3 (u.trans j)
 have hS:Blk x b4 s.cells 277:=Blk.ext (cs:=s.cells) C j
 have hT:Blk x b5 t.cells 277:=D
 have e:=H.ext E
 refine ah Z (aj (aj (?_)))
 refine dS (σ:=Unit) (fun _=>[(3,.pointer (some ⟨b3,0,none⟩)),(4,.pointer (some ⟨b4,0,none⟩)),(5,.pointer (some ⟨b5,0,none⟩)),(34,.bool (decide (s.a=t.a∧s.b=t.b∨s.a=t.b∧s.b=t.a)))]) (fun _ w'=>w'=x) ?_ ?_
 ·refine aA (aC Z (hS.cell Z) (aC Z (hT.cell Z) (dK Z Z (fun e1=>?_) (fun e1=>?_))))
  ·refine L.m Z (aC Z (hS.cell Z) (aC Z (hT.cell Z) (dK Z Z (fun Q=>?_) (fun Q=>?_))))
   ·refine aG Z (L.m Z (L.pp (L.pp (L.pp (L.pp (L.pp (L.pp (aG Z (ak (bC (()) ⟨rfl,rfl,rfl,?_,trivial⟩ Z))))))))))
    ·exact congrArg (fun z=>some (Value.bool z)) (decide_eq_true (.inl ⟨omX,omX⟩)).symm
   refine aG Z (L.m Z (aC Z (hS.cell Z) (aC Z (hT.cell Z) (dK Z Z (fun F=>?_) (fun F=>?_)))))
   ·refine L.m Z (aC Z (hS.cell Z) (aC Z (hT.cell Z) (dK Z Z (fun G=>?_) (fun G=>?_))))
    ·refine aG Z (aI Z (ak (bC (()) ⟨rfl,rfl,rfl,?_,trivial⟩ Z)))
     ·exact congrArg (fun z=>some (Value.bool z)) (decide_eq_true (.inr ⟨omX,omX⟩)).symm
    refine aG Z (aI Z (ak (bC (()) ⟨rfl,rfl,rfl,?_,trivial⟩ Z)))
    ·exact congrArg (fun z=>some (Value.bool z)) (decide_eq_false omX).symm
   refine L.m Z (L.pp (L.pp (L.p (aI Z (aI Z (ak (bC (()) ⟨rfl,rfl,rfl,?_,trivial⟩ Z)))))))
   ·exact congrArg (fun z=>some (Value.bool z)) (decide_eq_false omX).symm
  refine L.m Z (L.pp (L.pp (L.p (aI Z (L.m Z (aC Z (hS.cell Z) (aC Z (hT.cell Z) (dK Z Z (fun F=>?_) (fun F=>?_)))))))))
  ·refine L.m Z (aC Z (hS.cell Z) (aC Z (hT.cell Z) (dK Z Z (fun G=>?_) (fun G=>?_))))
   ·refine aG Z (aI Z (ak (bC (()) ⟨rfl,rfl,rfl,?_,trivial⟩ Z)))
    ·exact congrArg (fun z=>some (Value.bool z)) (decide_eq_true (.inr ⟨omX,omX⟩)).symm
   refine aG Z (aI Z (ak (bC (()) ⟨rfl,rfl,rfl,?_,trivial⟩ Z)))
   ·exact congrArg (fun z=>some (Value.bool z)) (decide_eq_false omX).symm
  refine L.m Z (L.pp (L.pp (L.p (aI Z (aI Z (ak (bC (()) ⟨rfl,rfl,rfl,?_,trivial⟩ Z)))))))
  ·exact congrArg (fun z=>some (Value.bool z)) (decide_eq_false omX).symm
 rintro _ R rfl
 refine jQ Z (fun f=>?_) (fun f=>?_)
 ·refine au (ah Z (aB results212 Z ⟨by rw [o8,if_pos f],E⟩))
 refine T.skip (aj (aj (?_)))
 refine dn mixed 29 [3,4,5] Z [.is _,.is _,.is _,.is _,.is _,.is _,.is _,.is _,.is _,.is _,.is _,.is _,.is _,.is _,.is _,.is _,.is _,.is _,.is _,.is _,.is _,.is _,.is _,.is _,.is (.tuple #[.int .i64 (mV (gP c.ps s.a) (gP c.ps s.b) (gP c.ps t.a) (gP c.ps t.b)),.int .i64 0]),.is _,.is _,.is _,.is _] [[],[0],[],[2],[1,3],[4],[],[6],[],[8],[7,9],[10],[],[12],[],[14],[13,15],[16],[],[18],[],[20],[19,21],[22],[5,11,17,23],[24],[25],[25],[26]] trivial ⟨fun d hx=>Ob.fa rfl,
   fun d hx=>aS rfl ((Blk.ext (cs:=c.cells) hC hx).cell rfl),
   fun d hx=>Ob.fa rfl,
   fun d hx=>aS rfl ((Blk.ext (cs:=s.cells) hS hx).cell rfl),
   fun d hx=>bQ rfl rfl (e.ext hx),
   fun d hx=>bJ rfl rfl ((e.ext hx).row l),
   fun d hx=>Ob.fa rfl,
   fun d hx=>aS rfl ((Blk.ext (cs:=c.cells) hC hx).cell rfl),
   fun d hx=>Ob.fa rfl,
   fun d hx=>aS rfl ((Blk.ext (cs:=s.cells) hS hx).cell rfl),
   fun d hx=>bQ rfl rfl (e.ext hx),
   fun d hx=>bJ rfl rfl ((e.ext hx).row n),
   fun d hx=>Ob.fa rfl,
   fun d hx=>aS rfl ((Blk.ext (cs:=c.cells) hC hx).cell rfl),
   fun d hx=>Ob.fa rfl,
   fun d hx=>aS rfl ((Blk.ext (cs:=t.cells) hT hx).cell rfl),
   fun d hx=>bQ rfl rfl (e.ext hx),
   fun d hx=>bJ rfl rfl ((e.ext hx).row q),
   fun d hx=>Ob.fa rfl,
   fun d hx=>aS rfl ((Blk.ext (cs:=c.cells) hC hx).cell rfl),
   fun d hx=>Ob.fa rfl,
   fun d hx=>aS rfl ((Blk.ext (cs:=t.cells) hT hx).cell rfl),
   fun d hx=>bQ rfl rfl (e.ext hx),
   fun d hx=>bJ rfl rfl ((e.ext hx).row r),
   fun d hx=>Ob.o (ay (xs:=[.tmp 41,.tmp 47,.tmp 53,.tmp 59]) call246 Z Z (O1 (gP c.ps s.a) (gP c.ps s.b) (gP c.ps t.a) (gP c.ps t.b) d (og hf l) (og hf n) (og hf q) (og hf r) y A) (fun v wy h=>⟨h.2,h.1⟩)),
   fun d hx=>aF rfl,
   fun d hx=>BF rfl rfl,
   fun d hx=>BF rfl rfl,
   fun d hx=>Ob.sg rfl,
   trivial⟩ (fun R k=>?_)
 have qE:=E.trans k
 have g:=Blk.ext (cs:=s.cells) hS k
 have i:=Blk.ext (cs:=t.cells) hT k
 refine ah Z (aQ Z (ak (T.block (au (dK Z Z (fun m0=>?_) (fun m0=>?_))))))
 ·refine ah Z (aZ (au (ah Z (aB results212 Z ⟨by rw [o8,if_neg f,if_pos m0],qE⟩))))
 refine ah Z (bn (au (dK Z Z (fun m1=>?_) (fun m1=>?_))))
 ·refine ah Z (aZ (au (aC Z (g.cell Z) (aC Z (i.cell Z) (L.ne Z Z (fun q1=>?_) (fun q1=>?_))))))
  ·refine L.m Z (aC Z (g.cell Z) (aC Z (i.cell Z) (L.ne Z Z (fun q2=>?_) (fun q2=>?_))))
   ·refine aG Z (L.m Z (aC Z (g.cell Z) (aC Z (i.cell Z) (L.ne Z Z (fun q3=>?_) (fun q3=>?_)))))
    ·refine aG Z (L.m Z (aC Z (g.cell Z) (aC Z (i.cell Z) (L.o (pX Z Z (aG Z (ah Z (aB results212 Z ⟨?_,qE⟩))))))))
     rw [o8,if_neg f,if_neg m0,if_pos m1]
     refine congrArg Value.bool ?_
     exact decide_eq_decide.2 omX
    refine aG Z (L.m Z (L.pp (L.pp (L.p (aI Z (ah Z (aB results212 Z ⟨by rw [o8,if_neg f,if_neg m0,if_pos m1,decide_eq_false (fun h=>h.2.2.1 omX)],qE⟩)))))))
   refine aG Z (L.m Z (L.pp (L.pp (L.p (aI Z (L.m Z (L.pp (L.pp (L.p (aI Z (ah Z (aB results212 Z ⟨by rw [o8,if_neg f,if_neg m0,if_pos m1,decide_eq_false (fun h=>h.2.1 omX)],qE⟩))))))))))))
  refine L.m Z (L.pp (L.pp (L.p (aI Z (L.m Z (L.pp (L.pp (L.p (aI Z (L.m Z (L.pp (L.pp (L.p (aI Z (ah Z (aB results212 Z ⟨by rw [o8,if_neg f,if_neg m0,if_pos m1,decide_eq_false (fun h=>h.1 omX)],qE⟩))))))))))))))))
 refine ah Z (bn (T.skip (T.blk (au (ah Z (aB results212 Z ⟨by rw [o8,if_neg f,if_neg m0,if_neg m1],qE⟩))))))
theorem Lr (lo b1 b2:Nat) (c:CxV) (s t:St) (w:World) (hB1:Blk w b1 c.cells 46) (hB2:Blk w b2 s.cells 277) (e:Pts lo w c.pv c.ps) (hf:NfL c.ps) (hs:s.ok c.ps) (f:t.ok c.ps) :
  Calls Tryz.prog 211 #[t.val,.pointer (some ⟨b1,0,none⟩),.pointer (some ⟨b2,0,none⟩)] w (Ret fun v w'=>v = .bool (o8 c.ps s t)∧Ext w w'):=by
 refine aJ (vs:=[t.val,.pointer (some ⟨b1,0,none⟩),.pointer (some ⟨b2,0,none⟩)]) func211 Z ntmps211 Z ?_
 refine au (bM Z (fun b3 d g h a hB3=>?_))
 have abX:Blk d b3 t.cells 277:=hB3
 refine ah Z (au (aT Z Z ((Blk.ext (cs:=c.cells) hB1 a).row) (aT Z Z ((Blk.ext (cs:=s.cells) hB2 a).row) (aT Z Z abX.row (L.o (ay (xs:=[.tmp 5,.tmp 6,.tmp 7]) call212 Z Z (O4 lo c s t d (e.ext a) hf hs f) (fun v4 j i=>?_)))))))
 obtain ⟨rfl,b⟩:=i
 refine ah Z (aB results211 Z ⟨rfl,a.trans b⟩)
def IV (ps:List Pt) (t:Int) (p:Pt) (h:List Int):Bool:=decide (Bc (cor ps t h) p≠0)
def iZ (ps:List Pt) (t:Int) (f:FaV) (p:Pt):Bool:=decide (Bc (cor ps t f.o.xs) p=2) && f.hs.all fun h=>!IV ps t p h.xs
theorem Lu {t:Int} (hf:NfL ps) (b:t=1∨t=2) (c:IxL ps.length l):NrL (cor ps t l):=fun i hi=>by
 have a:i<l.length:=by rw [cor,List.length_map] at hi;exact hi
 rw [IQ a]
 have:=VK (n:=0) hf b (c i a)
 unfold Nr;omega
theorem o9 (ps:List Pt) (t:Int) (l:List Int):(cor ps t l).length=l.length:=by rw [cor,List.length_map]
def TK (ps:List Pt) (t:Int) (l:List Int) (v:Value) (w:World):Prop:=Pts 0 w v (cor ps t l)
theorem TK.st {t:Int} : ∀ v w w',Ext w w'→TK ps t l v w→TK ps t l v w':=fun _ _ _ h k=>Pts.ext k h
def Ko (n:Nat) (h:RiV):Prop:=IxL n h.xs∧h.xs.length≤1000000
def r0:RiV:=⟨undef,[]⟩
theorem lK {hs:List RiV} (hi:i<hs.length):(dw hs)[i]?=some (hs.getD i r0).v:=by
 rw [aX hi];simp [dw,hi]
theorem FD (lo lo2 b1 b2 b3:Nat) (c:CxV) (h:RiV) (p:Pt) (t:Int) (w:World) (hB1:Blk w b1 c.cells 46) (hB2:Blk w b2 [.int .i64 t] 3) (hB3:Blk w b3 (pC p) 124) (i:Pts lo w c.pv c.ps) (j:Ints .i64 lo2 w h.v h.xs) (hf:NfL c.ps) (g:t=1∨t=2) (b:Ko c.ps.length h) (k:Nr p) :
  Calls Tryz.prog 249 #[h.v,.pointer (some ⟨b1,0,none⟩),.pointer (some ⟨b2,0,none⟩),.pointer (some ⟨b3,0,none⟩)] w (Ret fun v w'=>v = .bool (IV c.ps t p h.xs)∧Ext w w'):=by
 refine aJ (vs:=[h.v,.pointer (some ⟨b1,0,none⟩),.pointer (some ⟨b2,0,none⟩),.pointer (some ⟨b3,0,none⟩)]) func249 Z ntmps249 Z ?_
 refine au (ah Z (aj (?_)))
 refine dn mixed 5 [1,0,2,3] Z [.is _,.is _,.is _,.such (TK c.ps t h.xs),.is _] [[],[],[],[0,1,2],[]] ⟨TK.st,trivial⟩ ⟨fun a hx=>bJ rfl rfl ((Blk.ext (cs:=c.cells) hB1 hx).row),
   fun a hx=>aF rfl,
   fun a hx=>aS rfl ((Blk.ext (cs:=[.int .i64 t]) hB2 hx).cell rfl),
   fun a hx=>Ob.o (ay (xs:=[.tmp 6,.tmp 7,.tmp 8]) call185 Z Z (lJ lo lo2 c h.v h.xs t a (i.ext hx) (j.ext hx) hf g b.1 b.2) (fun v wy h=>⟨h.1,h.2.mono lzX⟩)),
   fun a hx=>bJ rfl rfl ((Blk.ext (cs:=pC p) hB3 hx).row),
   trivial⟩ (fun l d v9 e=>?_)
 refine L.o (ay (xs:=[.tmp 9,.tmp 10]) call247 Z Z (zC 0 _ (cor c.ps t h.xs) p l e (Lu hf g b.1) k (by rw [o9];exact b.2)) (fun v5 n m=>?_))
 obtain ⟨rfl,f⟩:=m
 refine L.o (pX Z Z (ah Z (aB results249 Z ⟨rfl,d.trans f⟩)))
theorem LC (lo lo2 b1 b2 b3:Nat) (c:CxV) (q:Value) (hs:List RiV) (p:Pt) (t:Int) (w:World) (hB1:Blk w b1 c.cells 46) (hB2:Blk w b2 [.int .i64 t] 3) (hB3:Blk w b3 (pC p) 124) (z:Pts lo w c.pv c.ps) (j:Sl lo2 w q hs.length 1 (dw hs)) (x:∀ h∈hs,Ints .i64 lo2 w h.v h.xs) (hf:NfL c.ps) (A:t=1∨t=2) (B:∀ h∈hs,Ko c.ps.length h) (C:Nr p) :
  Calls Tryz.prog 248 #[q,.func (.func 249) #[] #[.pointer (some ⟨b1,0,none⟩),.pointer (some ⟨b2,0,none⟩),.pointer (some ⟨b3,0,none⟩)]] w (Ret fun v w'=>∃ r:Int,v = .int .i64 r∧decide (r<0)=hs.all (fun h=>!IV c.ps t p h.xs)∧Ext w w'):=by
 have D:=Sl.le j
 refine aJ (vs:=[q,.func (.func 249) #[] #[.pointer (some ⟨b1,0,none⟩),.pointer (some ⟨b2,0,none⟩),.pointer (some ⟨b3,0,none⟩)]]) func248 Z ntmps248 Z ?_
 refine au (ah Z (aj (aQ Z (L.le Z (Sl.val j) (L.m Z (ak (T.block (?_))))))))
 refine bf (σ:=Nat) (fun i=>[(0,q),(1,.func (.func 249) #[] #[.pointer (some ⟨b1,0,none⟩),.pointer (some ⟨b2,0,none⟩),.pointer (some ⟨b3,0,none⟩)]),(7,q),(8,.int .i64 hs.length),(9,.int .i64 i)]) (fun i w'=>i≤hs.length∧Ext w w'∧∀ k,k<i→IV c.ps t p (hs.getD k r0).xs=false) (fun i=>hs.length-i) (0) ⟨rfl,rfl,rfl,rfl,rfl,trivial⟩ ⟨Nat.zero_le _,Keep.refl _ _,fun k u=>absurd u (Nat.not_lt_zero _)⟩ ?_
 rintro i w1 ⟨hi,b,g⟩
 refine au (bH Z Z (fun y=>?_) (fun y=>?_))
 ·refine ak (?_)
  have d:i<hs.length:=by omega
  have l:hs.getD i r0∈hs:=by rw [aX d];exact List.getElem_mem d
  have n:Sl lo2 w1 q hs.length 1 (dw hs):=Sl.ext j b
  refine aj (aZ (T.skip (aj (T.block (aQ Z (dG Z Z n (cZ Z (by rw [Int.toNat_natCast,Nat.mul_one];exact Sl.cell n (lK d)) (L.a Z (ah Z (au (aN Z Z (L.o (ay (xs:=[.tmp 15]) call249 Z Z (FD lo lo2 b1 b2 b3 c (hs.getD i r0) p t w1 (Blk.ext (cs:=c.cells) hB1 b) (Blk.ext (cs:=[.int .i64 t]) hB2 b) (Blk.ext (cs:=pC p) hB3 b) (z.ext b) ((x _ l).ext b) hf A (B _ l) C) (fun v2 E j=>?_))))))))))))))
  obtain ⟨f,s⟩:=j
  rcases hb:IV c.ps t p (hs.getD i r0).xs with _|_
  ·refine ak (?_)
   rw [hb] at f
   subst f
   refine bn (T.skip (T.blk (aA (bF Z Z (L.m Z (ak (aP (i+1) omX ⟨rfl,rfl,rfl,rfl,rfl,trivial⟩ ⟨d,b.trans s,fun k u=>?_⟩)))))))
   ·by_cases e:k=i
    ·subst e;exact hb
    exact g k omX
  refine ak (?_)
  rw [hb] at f
  subst f
  refine aZ (aQ Z (ah Z (aB results248 Z ⟨_,rfl,?_,b.trans s⟩)))
  rw [decide_eq_false omX,eq_comm,List.all_eq_false]
  exact ⟨_,l,by rw [hb];decide⟩
 refine ak (aj (bn (aY Z (au (ah Z (aB results248 Z ⟨_,rfl,?_,b⟩))))))
 rw [decide_eq_true dcX,eq_comm,List.all_eq_true]
 intro h l
 obtain ⟨k,u,rfl⟩:=List.getElem_of_mem l
 have:=g k omX
 rw [aX u] at this
 rw [this];rfl
theorem xY (lo lo2:Nat) (c:CxV) (f:FaV) (p:Pt) (t:Int) (w:World) (E:Pts lo w c.pv c.ps) (q:f.ok lo2 w) (hf:NfL c.ps) (l:t=1∨t=2) (d:Ko c.ps.length f.o) (F:∀ h∈f.hs,Ko c.ps.length h) (s:Nr p) :
  Calls Tryz.prog 216 #[c.val,f.val,pV p,.int .i64 t] w (Ret fun v w'=>v = .bool (iZ c.ps t f p)∧Ext w w'):=by
 refine aJ (vs:=[c.val,f.val,pV p,.int .i64 t]) func216 Z ntmps216 Z ?_
 refine au (bM Z (fun b4 R G H u x=>?_))
 refine bM Z (fun b5 S I J m y=>?_)
 refine bM Z (fun C T K M i z=>?_)
 refine bM Z (fun b7 w7 N O g A=>?_)
 have Fz:=((u.trans m).trans i).trans g
 have hC:Blk w7 b4 c.cells 46:=Blk.ext (cs:=c.cells) x ((m.trans i).trans g)
 have hF:Blk w7 b5 f.cells 127:=Blk.ext (cs:=f.cells) y (i.trans g)
 have hP:Blk w7 C (pC p) 124:=Blk.ext (cs:=pC p) z g
 have hT:Blk w7 b7 [.int .i64 t] 3:=A
 have j:=E.ext Fz
 have ait:=q.ext Fz
 by_cases b:Bc (cor c.ps t f.o.xs) p=2
 ·refine ah Z (aj (?_))
  refine dn mixed 12 [4,5,7,6] Z [.is _,.is _,.is _,.is _,.such (TK c.ps t f.o.xs),.is _,.is (.int .i64 (Bc (cor c.ps t f.o.xs) p)),.is _,.is _,.is _,.is _,.is _] [[],[],[1],[],[0,2,3],[],[4,5],[6],[7],[8],[9,8],[8]] ⟨TK.st,trivial⟩ ⟨fun a hx=>bJ rfl rfl ((Blk.ext (cs:=c.cells) hC hx).row),
    fun a hx=>Ob.fa rfl,
    fun a hx=>aS rfl ((Blk.ext (cs:=f.cells) hF hx).cell rfl),
    fun a hx=>aS rfl ((Blk.ext (cs:=[.int .i64 t]) hT hx).cell rfl),
    fun a hx=>Ob.o (ay (xs:=[.tmp 9,.tmp 11,.tmp 12]) call185 Z Z (lJ lo lo2 c f.o.v f.o.xs t a (j.ext hx) (ait.o.ext hx) hf l d.1 d.2) (fun v wy h=>⟨h.1,h.2.mono lzX⟩)),
    fun a hx=>bJ rfl rfl ((Blk.ext (cs:=pC p) hP hx).row),
    fun a hx k YA=>Ob.o (ay (xs:=[.tmp 13,.tmp 14]) call247 Z Z (zC 0 _ (cor c.ps t f.o.xs) p a YA (Lu hf l d.1) s (by rw [o9];exact d.2)) (fun v wy h=>⟨h.2,h.1⟩)),
    fun a hx=>Ob.o (eU Z Z b kR),
    fun a hx=>aF rfl,
    fun a hx=>Ob.fa rfl,
    fun a hx=>aS rfl ((Blk.ext (cs:=f.cells) hF hx).cell rfl),
    fun a hx=>Ob.o (eG (fi:=[]) (ca:=[.tmp 4,.tmp 7,.tmp 6]) Z Z kR),
    trivial⟩ (fun D e k YA=>?_)
  have n:=ait.ext e
  refine L.o (ay (xs:=[.tmp 19,.tmp 20]) call248 Z Z (LC lo lo2 b4 b7 C c f.hv f.hs p t D (Blk.ext (cs:=c.cells) hC e) (Blk.ext (cs:=[.int .i64 t]) hT e) (Blk.ext (cs:=pC p) hP e) (j.ext e) n.sl n.hs hf l F s) (fun v9 U P=>?_))
  obtain ⟨r,rfl,Q,B⟩:=P
  refine L.o (uZ Z Z (aG Z (ah Z (aB results216 Z ⟨by rw [iZ,decide_eq_true b,Bool.true_and,← Q],Fz.trans (e.trans B)⟩))))
 refine ah Z (aj (?_))
 refine dn mixed 12 [4,5,7,6] Z [.is _,.is _,.is _,.is _,.such (TK c.ps t f.o.xs),.is _,.is (.int .i64 (Bc (cor c.ps t f.o.xs) p)),.is _,.is _,.is undef,.is undef,.is undef] [[],[],[1],[],[0,2,3],[],[4,5],[6],[7],[8],[9,8],[8]] ⟨TK.st,trivial⟩ ⟨fun a hx=>bJ rfl rfl ((Blk.ext (cs:=c.cells) hC hx).row),
   fun a hx=>Ob.fa rfl,
   fun a hx=>aS rfl ((Blk.ext (cs:=f.cells) hF hx).cell rfl),
   fun a hx=>aS rfl ((Blk.ext (cs:=[.int .i64 t]) hT hx).cell rfl),
   fun a hx=>Ob.o (ay (xs:=[.tmp 9,.tmp 11,.tmp 12]) call185 Z Z (lJ lo lo2 c f.o.v f.o.xs t a (j.ext hx) (ait.o.ext hx) hf l d.1 d.2) (fun v wy h=>⟨h.1,h.2.mono lzX⟩)),
   fun a hx=>bJ rfl rfl ((Blk.ext (cs:=pC p) hP hx).row),
   fun a hx k YA=>Ob.o (ay (xs:=[.tmp 13,.tmp 14]) call247 Z Z (zC 0 _ (cor c.ps t f.o.xs) p a YA (Lu hf l d.1) s (by rw [o9];exact d.2)) (fun v wy h=>⟨h.2,h.1⟩)),
   fun a hx=>Ob.o (fV Z Z b kR),
   fun a hx=>aF rfl,
   fun a hx=>aV rfl rfl,
   fun a hx=>aV rfl rfl,
   fun a hx=>aV rfl rfl,
   trivial⟩ (fun D e k YA=>?_)
 refine L.pp (aI Z (ah Z (aB results216 Z ⟨by rw [iZ,decide_eq_false b,Bool.false_and],Fz.trans e⟩)))
def qx (ps:List Pt) (s:St):Pt:=((gP ps s.a).1+(gP ps s.b).1,(gP ps s.a).2+(gP ps s.b).2)
theorem aa0 {s:St} (hf:NfL ps) (hs:s.ok ps):Nr (qx ps s):=by
 have a:=mW (og hf hs.1)
 have b:=mW (og hf hs.2.1)
 unfold Nr qx;simp only;omega
theorem Aw (lo b1:Nat) (cx:CxV) (s:St) (w:World) (hB1:Blk w b1 cx.cells 46) (V:Pts lo w cx.pv cx.ps) (hf:NfL cx.ps) (hs:s.ok cx.ps) :
  Calls Tryz.prog 213 #[s.val,.pointer (some ⟨b1,0,none⟩)] w (Ret fun v w'=>v=pV (qx cx.ps s)∧Ext w w'):=by
 have T:=mW (og hf hs.1)
 have C:=mW (og hf hs.2.1)
 obtain ⟨D,E,X⟩:=hs
 refine aJ (vs:=[s.val,.pointer (some ⟨b1,0,none⟩)]) func213 Z ntmps213 Z ?_
 refine au (bM Z (fun b2 w2 Y aa n hB2=>?_))
 refine L.o (O.alloc zeroValue124 (fun b3 m ab ac p hB3=>?_))
 have hS:Blk m b2 s.cells 277:=Blk.ext (cs:=s.cells) hB2 p
 have hR:Blk m b3 (pC (0,0)) 124:=hB3
 have kZ:=n.trans p
 have hC:=Blk.ext (cs:=cx.cells) hB1 kZ
 have h:=V.ext kZ
 refine ak (aj (?_))
 refine mM mixed 15 1 [1,2] Z [.is _,.is _,.is _,.is _,.is _,.is _,.is _,.is _,.is _,.is _,.is _,.is _,.such (PtB m.heap.size),.such (PtB m.heap.size),.is undef] [[],[0],[],[2],[1,3],[4],[],[6],[],[8],[7,9],[10],[],[],[12,5]] [none,none,none,none,none,none,none,none,none,none,none,none,none,none,some 0] [[],[0],[],[2],[0,1,2,3],[0,1,2,3,4],[],[6],[],[8],[6,7,8,9],[6,7,8,9,10],[],[],[0,1,2,3,4,5,12,13],[0,1,2,3,4,5,6,7,8,9,10,11,12,13,14]] [12,13] [(14,12,4)] (fun _ _ u _ W=>∃ b,u = .pointer (some ⟨b,0,none⟩)∧m.heap.size≤b∧Blk W b (pC (gP cx.ps s.a)) 124) (fun _ W=>Ext m W) (RelB m.heap.size (gP cx.ps s.a)) (fun i f v w hi hf hh=>by { rcases (show i=12∨i=13 by simpa using hi) with rfl|rfl <;> (simp only [List.getElem?_cons_succ,List.getElem?_cons_zero,Option.some.injEq] at hf;subst hf;exact PtB.lt hh) }) (fun i j vi vj W W' hr ⟨b,T,C,h3⟩=>(hr.own b _ C h3).elim fun c' k=>⟨b,T,C,(k.2 Z)▸k.1⟩) krX krX krX krX rfl ⟨PtB.st,PtB.st,trivial⟩ (Keep.drew _ _) ⟨fun c d hx=>ObX.op rfl (O.fa Z ⟨⟨RelB.dF (Keep.refl _ _),hx⟩,rfl,trivial,trivial⟩),
   fun c d hx=>ObX.op Z (dR Z ((Blk.ext (cs:=cx.cells) hC hx).cell Z) ⟨⟨RelB.dF (Keep.refl _ _),hx⟩,rfl,trivial,trivial⟩),
   fun c d hx=>ObX.op Z (O.fa Z ⟨⟨RelB.dF (Keep.refl _ _),hx⟩,rfl,trivial,trivial⟩),
   fun c d hx=>ObX.op Z (dR Z ((Blk.ext (cs:=s.cells) hS hx).cell Z) ⟨⟨RelB.dF (Keep.refl _ _),hx⟩,rfl,trivial,trivial⟩),
   fun c d hx=>ObX.op Z (ig Z Z (h.ext hx) omX omX ⟨⟨RelB.dF (Keep.refl _ _),hx⟩,rfl,trivial,trivial⟩),
   fun c d hx=>ObX.op Z (jC Z Z ((h.ext hx).row D) ⟨⟨RelB.dF (Keep.refl _ _),hx⟩,rfl,trivial,trivial⟩),
   fun c d hx=>ObX.op Z (O.fa Z ⟨⟨RelB.dF (Keep.refl _ _),hx⟩,rfl,trivial,trivial⟩),
   fun c d hx=>ObX.op Z (dR Z ((Blk.ext (cs:=cx.cells) hC hx).cell Z) ⟨⟨RelB.dF (Keep.refl _ _),hx⟩,rfl,trivial,trivial⟩),
   fun c d hx=>ObX.op Z (O.fa Z ⟨⟨RelB.dF (Keep.refl _ _),hx⟩,rfl,trivial,trivial⟩),
   fun c d hx=>ObX.op Z (dR Z ((Blk.ext (cs:=s.cells) hS hx).cell Z) ⟨⟨RelB.dF (Keep.refl _ _),hx⟩,rfl,trivial,trivial⟩),
   fun c d hx=>ObX.op Z (ig Z Z (h.ext hx) omX omX ⟨⟨RelB.dF (Keep.refl _ _),hx⟩,rfl,trivial,trivial⟩),
   fun c d hx=>ObX.op Z (jC Z Z ((h.ext hx).row E) ⟨⟨RelB.dF (Keep.refl _ _),hx⟩,rfl,trivial,trivial⟩),
   fun c d hx=>ObX.op Z (O.alloc zeroValue124 (fun b wy hb hz x hB=>y5 ⟨⟨RelB.dF x,hx.trans x⟩,b,(0,0),rfl,by have:=hx.size;omega,hB⟩ ⟨fun q F=>by { cases F;exact Nat.le_of_eq hb.symm },trivial⟩)),
   fun c d hx=>ObX.op Z (O.alloc zeroValue124 (fun b wy hb hz x hB=>y5 ⟨⟨RelB.dF x,hx.trans x⟩,b,(0,0),rfl,by have:=hx.size;omega,hB⟩ ⟨fun q F=>by { cases F;exact Nat.le_of_eq hb.symm },trivial⟩)),
   fun d hx v4 y=>by { obtain ⟨b5,c5,rfl,r,t⟩:=y;exact ObX.op rfl (aK sizeOf124 Z Z Z t leX (gu (gP cx.ps s.a)) (fun B g l=>y5 ⟨⟨RelB.upd g l,hx.upd g (.inr r)⟩,rfl⟩ ⟨trivial,fun u hu=>by { cases hu;exact ⟨b5,rfl,r,l⟩ }⟩)) },
   trivial⟩ (fun w7 G v4 y v5 H z=>?_)
 obtain ⟨vj,I,J,_⟩:=z 12 13 _ _ _ _ dcX dcX rfl rfl rfl rfl
 obtain rfl:=I _ _ rfl rfl
 obtain ⟨_,_,_,K⟩:=z 12 14 _ _ _ _ dcX dcX rfl rfl rfl rfl
 obtain ⟨b5,rfl,r,t⟩:=K rfl
 obtain ⟨U,c6,rfl,M,N⟩:=H
 have P:b5≠U:=fun e=>J b5 rfl (by rw [e];rfl)
 refine L.o (aK sizeOf124 Z Z Z N leX (gu (gP cx.ps s.b)) (fun B g l=>?_))
 have A:Blk B b5 (pC (gP cx.ps s.a)) 124:=Blk.upd (cs:=pC (gP cx.ps s.a)) t g P
 have aaV:Blk B U (pC (gP cx.ps s.b)) 124:=l
 have Bd:Ext m B:=G.upd g (.inr M)
 refine ak (au (aC Z (A.cell Z) (aC Z (aaV.cell Z) (bF Z Z (aC Z (A.cell Z) (aC Z (aaV.cell Z) (bF Z Z (L.o (bU (v:=pV (qx cx.ps s)) (parts:=[(0,.tmp 22),(1,.tmp 27)]) (vs:=[(0,_),(1,_)]) Z (fun w=>by show _=_;kernel_rfl) (L.o (aK sizeOf124 Z Z Z (Blk.ext (cs:=pC (0,0)) hR Bd) leX (gu (qx cx.ps s)) (fun w9 Q R=>?_))))))))))))
 have S:Blk w9 b3 (pC (qx cx.ps s)) 124:=R
 refine ak (jZ results213 isAgg124 sizeOf124 Z Z S.row ⟨rfl,((n.trans p).trans Bd).upd Q (.inr (by have:=n.size;omega))⟩)
section
variable {el:TypeId} {C:Cx} {e:Env} {w:World} {K:Value→World→Prop} {d:Option Tmp} {ty:TypeId} {pos:String} {aft:Array Edge} {g:Option (Nat × Bool)} {x y:Operand} {t tn:TypeId}
theorem xZ {oa:Option Addr} {cap:Nat} (b:∀ w,(underlying t).run C.P w = .ok (.slice el) w) (hx:ev e x=some (.slice oa n cap)) (h:K (.int .i64 cap) w):O C e ⟨d,.call { callee:=.builtin .cap,args:=#[x],argTypes:=#[t] },ty,pos,aft,g⟩ w K :=
 bD spX (fun a ha=>by
  simp [execOp,resolve,invoke,builtin,Builtin.cap_,ha.eval hx,b w,goInt]) h
theorem pq {el:TypeId} {i:TypeInfo} {zv:Value} {size bytes:Nat} {kn:IntKind} (p:∀ w,(underlying t).run C.P w = .ok (.slice el) w) (f:∀ w,(underlying tn).run C.P w = .ok (.int kn) w) (hi:C.P.info? el=some i) (q:i.zero=some zv) (hsize:i.size=size) (j:i.bytes=bytes) (k:zv.cells.size=size) (hs:0<size)
  (hx:ev e x=some (.slice none 0 0)) (hy:ev e y=some (.int .i64 n)) (h0:0<n) (hn:n≤1000000) (c:n*bytes≤140737488355328)
  (h:∀ cap w' cur,Ext w w'→n≤cap→cap≤maxLen→Blk w' w.heap.size cur el→cur.length=cap*size→K (.slice (some ⟨w.heap.size,0,none⟩) n cap) w') :
  O C e ⟨d,.call { callee:=.builtin .append,args:=#[x,y],argTypes:=#[t,tn] },ty,pos,aft,g⟩ w K:=by
 have l:C.P.underlying t=some (.slice el):=dL p
 have aow:C.P.underlying tn=some (.int kn):=dL f
 subst hsize j
 have b:=Go.Lib.run_append_nil_zeros w t tn ty el i zv .i64 kn l aow hi q n h0 hs omX omX
 have m:=grownCap_ge w n 0 el
 have o:=grownCap_le_maxLen w n 0 el (by unfold maxLen;omega)
 refine bD spX (fun a ha=>by simp [execOp,resolve,invoke,builtin,ha.eval hx,ha.eval hy,b];rfl) (h _ _ (Builtin.zeroCells zv.cells n++Builtin.zeroCells zv.cells (grownCap w n 0 el-n)).toList ((Keep.drew 0 w).trans (Keep.alloc _ _ _)) m o ?_ ?_)
 ·unfold Blk
  rw [Array.toArray_toList]
  exact heap_alloc_new w.drew _
 simp only [Array.length_toList,Array.size_append,size_zeroCells,k,← Nat.add_mul]
 congr 1;omega
end
def fl (css:List (List Value)) (i:Nat):List Value:=(css.take i).flatten
theorem zD (css:List (List Value)) (i:Nat) (hi:i<css.length):fl css (i+1)=fl css i++css.getD i []:=by
 rw [aX hi,fl,fl,List.take_succ_eq_append_getElem hi,List.flatten_append];simp
theorem Zd (css:List (List Value)) (i:Nat):(fl css i).length≤css.flatten.length:=by
 have:css.flatten=fl css i++(css.drop i).flatten:=by rw [fl,← List.flatten_append,List.take_append_drop]
 rw [this,List.length_append];omega
def LoL (lo:Nat) (w:World) (vs:List Value) (css:List (List Value)):Prop:=vs.length=css.length∧∀ i,i<css.length→Sl lo w (vs.getD i undef) (css.getD i []).length 1 (css.getD i [])
theorem LoL.ext {lo:Nat} {w w':World} {vs:List Value} {css:List (List Value)} (h:LoL lo w vs css) (k:Ext w w'):LoL lo w' vs css:=⟨h.1,fun i hi=>Sl.ext (h.2 i hi) k⟩
theorem QO (lo:Nat) (w:World) (sz:Nat):Sl lo w (.slice none 0 0) 0 sz []:=⟨spX,none,0,rfl,Nat.le_refl _,dcX,.inl rfl⟩
theorem TL (n:Nat) (w:World) (h0:0<n) (hn:n≤1000000) :
  Calls Tryz.prog 239 #[.slice none 0 0,.int .i64 n] w (Ret fun v w'=>Ext w w'∧w'.ownsRow w.heap.size 30 1 v 0 []):=by
 refine aJ (vs:=[.slice none 0 0,.int .i64 n]) func239 Z ntmps239 Z ?_
 refine au (ah Z (aj (au (aO Z (fU Z Z omX (aU (T.skip (aj (au (aN Z Z (L.o (xZ runUnderlying125 Z (L.m Z (L.le Z (Sl.val (QO 0 w 1)) (L.o (dh Z Z omX (L.o (dh Z Z omX (ah Z (?_))))))))))))))))))))
 refine au (aO Z (iM Z Z omX (aW (aA (aN Z Z (L.o (xZ runUnderlying125 Z (L.o (jr (m:=0) runUnderlying125 sizeOf30 Z Z dcX dcX (aO Z (pq (n:=n) (size:=1) (bytes:=24) runUnderlying125 runUnderlying3 Tryz.rH Z Z Z Z dcX rfl (by show some (Value.int .i64 _)=some (Value.int .i64 _);congr 2) h0 hn omX (fun cap w1 cur a d b hB1 c=>?_))))))))))))
 refine L.m Z (L.le Z (Sl.val (QO 0 w1 1)) (L.o (jr (m:=0) runUnderlying125 sizeOf30 Z Z dcX omX (ah Z (aQ Z (ah Z (aB results239 Z ⟨a,rfl,.inr ⟨_,cap,cur.toArray,rfl,Nat.le_refl _,hB1,Nat.zero_le _,b,by simpa using c,spX⟩⟩)))))))
theorem LD (lo lo2:Nat) (p:Value) (vs:List Value) (css:List (List Value)) (w:World) (g:Sl lo w p vs.length 1 vs) (hv:LoL lo2 w vs css) (h0:0<css.flatten.length) (hn:css.flatten.length≤1000000) (u:∀ c∈css.flatten,c.oneCell'=true) :
  Calls Tryz.prog 207 #[p] w (Ret fun v w'=>Ext w w'∧Sl w.heap.size w' v css.flatten.length 1 css.flatten):=by
 have x:=Sl.le g
 have f:=hv.1
 refine aJ (vs:=[p]) func207 Z ntmps207 Z ?_
 refine au (ah Z (au (ah Z (aj (aQ Z (L.le Z (Sl.val g) (L.m Z (ak (T.block (?_))))))))))
 refine bf (σ:=Nat) (fun i=>[(0,p),(3,.int .i64 (fl css i).length),(9,p),(10,.int .i64 vs.length),(11,.int .i64 i)]) (fun i w'=>i≤vs.length∧w'=w) (fun i=>vs.length-i) (0) ⟨rfl,rfl,rfl,rfl,rfl,trivial⟩ ⟨Nat.zero_le _,rfl⟩ ?_
 rintro i w1 ⟨hi,rfl⟩
 refine au (bH Z Z (fun n=>?_) (fun n=>?_))
 ·refine ak (?_)
  have a:i<css.length:=by omega
  have hs:=hv.2 i a
  have q:=Zd css (i+1)
  have b:=congrArg List.length (zD css i a)
  rw [List.length_append] at b
  refine aj (aZ (T.skip (aj (T.block (au (dG Z Z g (cZ Z (by rw [Int.toNat_natCast,Nat.mul_one];exact Sl.cell g (show vs[i]?=some (vs.getD i undef) by rw [aX omX];simp [f,a])) (ah Z (au (aN Z Z (L.le Z (Sl.val hs) (bF Z Z (ah Z (au (aO Z (fU Z Z omX (ak (?_))))))))))))))))))
  refine bn (T.skip (T.blk (aA (bF Z Z (L.m Z (ak (aP (i+1) omX ⟨rfl,?_,rfl,rfl,rfl,trivial⟩ ⟨omX,rfl⟩)))))))
  ·rw [b];rfl
 refine ak (?_)
 obtain rfl:i=vs.length:=by omega
 have h:fl css vs.length=css.flatten:=by rw [f,fl,List.take_length]
 rw [h]
 refine aj (bn (aY Z (au (aO Z (ay (xs:=[.const (.slice none 0 0),.tmp 23]) call239 Z Z (TL css.flatten.length w1 h0 hn) (fun v2 D y=>?_))))))
 obtain ⟨j,hO2⟩:=y
 refine ah Z (aj (aQ Z (L.le Z (Sl.val (Sl.ext g j)) (L.m Z (ak (T.block (?_)))))))
 refine bf (σ:=Nat × Value) (fun s=>[(6,s.2),(25,p),(26,.int .i64 vs.length),(27,.int .i64 s.1)]) (fun s w'=>s.1≤vs.length∧Ext w1 w'∧w'.ownsRow w1.heap.size 30 1 s.2 (fl css s.1).length (fl css s.1)) (fun s=>vs.length-s.1) ((0,v2)) ⟨rfl,rfl,rfl,rfl,trivial⟩ ⟨Nat.zero_le _,j,hO2⟩ ?_
 rintro ⟨k,s⟩ z ⟨A,d,hO3⟩
 simp only at A hO3
 refine au (bH Z Z (fun e=>?_) (fun e=>?_))
 ·refine ak (?_)
  have a:k<css.length:=by simp only at e;omega
  have hs:=(hv.ext d).2 k a
  have l:Sl lo z p vs.length 1 vs:=Sl.ext g d
  have q:=Zd css (k+1)
  have b:=congrArg List.length (zD css k a)
  rw [List.length_append] at b
  refine aj (aZ (T.skip (aj (T.block (au (dG Z Z l (cZ Z (by rw [Int.toNat_natCast,Nat.mul_one];exact Sl.cell l (show vs[k]?=some (vs.getD k undef) by rw [aX omX];simp [f,a])) (ah Z (aA (aN Z Z (L.o (dJ (size:=1) (bytes:=24) runUnderlying125 Tryz.rH Z Z Z Z dcX rfl rfl hO3 hs (fun c B=>u c (by rw [← List.take_append_drop k css,List.flatten_append];exact List.mem_append_right _ (List.mem_flatten.2 ⟨_,by rw [aX a];exact List.mem_drop_iff_getElem.2 ⟨0,omX,rfl⟩,B⟩))) omX (by simp only [maxLen];omega) d.size (fun v4 C hO4 r=>?_)))))))))))))
  have t:Ext w1 C:=Keep.jg d hO3 r leX
  refine ah Z (T.blk (aA (L.o (bG Z Z (by simp only;omega) (L.m Z (ak (aP ((k+1,v4)) omX ⟨rfl,rfl,rfl,rfl,trivial⟩ ⟨by simp only;omega,t,by rw [b,zD css k a];exact hO4⟩)))))))
 refine ak (?_)
 obtain rfl:k=vs.length:=by simp only at e;omega
 rw [h] at hO3
 refine aj (bn (aY Z (aQ Z (ah Z (aB results207 Z ⟨d,Sl.dD hO3⟩)))))
def FaV.ri (f:FaV):List RiV:=f.o::f.hs
theorem aeU {lo:Nat} {w:World} {f:FaV} (h:f.ok lo w):∀ c∈dw f.ri,c.oneCell'=true:=fun c a=>by
 simp only [dw,FaV.ri,List.map_cons,List.mem_cons,List.mem_map] at a
 rcases a with rfl|⟨x,hx,rfl⟩
 ·exact Sl.one h.o
 exact Sl.one (h.hs x hx)
theorem LG (lo:Nat) (oa ob:Option Addr) (cap cap2:Nat) (os:List Int) (hs:List RiV) (w:World) (hf:FaV.ok lo w (⟨⟨.slice oa os.length cap,os⟩,.slice ob hs.length cap2,hs⟩:FaV)) (hn:hs.length≤100000) :
  Calls Tryz.prog 176 #[(⟨⟨.slice oa os.length cap,os⟩,.slice ob hs.length cap2,hs⟩:FaV).val] w (Ret fun v w'=>Ext w w'∧Sl w.heap.size w' v (⟨⟨.slice oa os.length cap,os⟩,.slice ob hs.length cap2,hs⟩:FaV).ri.length 1 (dw (⟨⟨.slice oa os.length cap,os⟩,.slice ob hs.length cap2,hs⟩:FaV).ri)):=by
 refine aJ (vs:=[(⟨⟨.slice oa os.length cap,os⟩,.slice ob hs.length cap2,hs⟩:FaV).val]) func176 Z ntmps176 Z ?_
 refine au (bM Z (fun b1 w1 p q b hB1=>?_))
 have hF1:Blk w1 b1 (⟨⟨.slice oa os.length cap,os⟩,.slice ob hs.length cap2,hs⟩:FaV).cells 127:=hB1
 have l:=hf.ext b
 refine ah Z (au (aC Z (hF1.cell Z) (L.o (aH (el:=30) (parts:=[(0,.tmp 4)]) (vs:=[(0,_)]) (cs:=[(.slice oa os.length cap)]) Z (fun w=>by kernel_rfl) (fun b2 y r s d hB2=>?_)))))
 refine aC Z ((Blk.ext (cs:=(⟨⟨.slice oa os.length cap,os⟩,.slice ob hs.length cap2,hs⟩:FaV).cells) hF1 d).cell Z) (L.o (aH (el:=125) (parts:=[(0,.tmp 5),(1,.tmp 7)]) (vs:=[(0,_),(1,_)]) (cs:=[.slice (some ⟨b2,0,none⟩) 1 1,(.slice ob hs.length cap2)]) Z (fun w=>by kernel_rfl) (fun b3 f t u g hB3=>?_)))
 have iH:=d.trans g
 have j:=l.ext iH
 have abT:Blk f b2 [(.slice oa os.length cap)] 30:=Blk.ext (cs:=[(.slice oa os.length cap)]) hB2 g
 have m:Sl 0 f (.slice (some ⟨b3,0,none⟩) 2 2) 2 1 [.slice (some ⟨b2,0,none⟩) 1 1,(.slice ob hs.length cap2)]:=Sl.bI hB3 rfl leX dcX lzX
 have hL3:LoL 0 f [.slice (some ⟨b2,0,none⟩) 1 1,(.slice ob hs.length cap2)] [[(.slice oa os.length cap)],dw hs]:=⟨rfl,fun i hi=>by
  rcases (show i=0∨i=1 by simp at hi;omega) with rfl|rfl
  ·exact Sl.bI abT rfl leX dcX lzX
  have h:=j.sl.mono (Nat.zero_le lo)
  have e:(dw hs).length=hs.length:=by simp [dw]
  show Sl 0 f (.slice ob hs.length cap2) (dw hs).length 1 (dw hs)
  rw [e];exact h⟩
 have a:([[(.slice oa os.length cap)],dw hs]:List (List Value)).flatten=dw (⟨⟨.slice oa os.length cap,os⟩,.slice ob hs.length cap2,hs⟩:FaV).ri:=by simp [dw,FaV.ri]
 have c:(dw (⟨⟨.slice oa os.length cap,os⟩,.slice ob hs.length cap2,hs⟩:FaV).ri).length=(⟨⟨.slice oa os.length cap,os⟩,.slice ob hs.length cap2,hs⟩:FaV).ri.length:=by simp [dw]
 have ath:(⟨⟨.slice oa os.length cap,os⟩,.slice ob hs.length cap2,hs⟩:FaV).ri.length=hs.length+1:=rfl
 refine L.o (ay (xs:=[.tmp 8]) call207 Z Z (LD 0 0 _ [.slice (some ⟨b2,0,none⟩) 1 1,(.slice ob hs.length cap2)] [[(.slice oa os.length cap)],dw hs] f m hL3 (by rw [a,c];omega) (by rw [a,c];omega) (by rw [a];exact aeU j)) (fun v4 z x=>?_))
 obtain ⟨n,k⟩:=x
 refine ah Z (aB results176 Z ⟨b.trans (iH.trans n),?_⟩)
 rw [a,c] at k
 exact k.mono (by have:=b.size;have:=iH.size;omega)
theorem Dn (lo:Nat) (f:FaV) (w:World) (hf:f.ok lo w) (hn:f.hs.length≤100000) :
  Calls Tryz.prog 176 #[f.val] w (Ret fun v w'=>Ext w w'∧Sl w.heap.size w' v f.ri.length 1 (dw f.ri)):=by
 obtain ⟨⟨ov,os⟩,hv,hs⟩:=f
 obtain ⟨oa,cap,e1,_,_⟩:=Sl.val hf.o
 replace e1:ov = .slice oa os.length cap:=e1
 obtain ⟨ob,cap2,a,_,_⟩:=Sl.val hf.sl
 replace a:hv = .slice ob hs.length cap2:=a
 subst e1 a
 exact LG lo oa ob cap cap2 os hs w hf hn
def FH (xs:List Int):Nat→Int
 | 0=>xs.getD 0 0
 | i+1=>mn (FH xs i) (xs.getD (i+1) 0)
def IW (xs:List Int):Nat→Int
 | 0=>xs.getD 0 0
 | i+1=>mx (IW xs i) (xs.getD (i+1) 0)
theorem VN (xs : List Int) (c : Int) : ∀ n, FH xs n < c ↔ ∃ j, j ≤ n ∧ xs.getD j 0 < c
  | 0 => ⟨fun h => ⟨0, Nat.le_refl _, h⟩, fun ⟨j, b, a⟩ => by obtain rfl : j = 0 := by omega
                                                              exact a⟩
  | n + 1 => by
    rw [FH, Y5, VN xs c n]
    constructor
    · rintro (⟨j, b, a⟩ | h)
      · exact ⟨j, by omega, a⟩
      exact ⟨n + 1, Nat.le_refl _, h⟩
    rintro ⟨j, b, a⟩
    by_cases e : j = n + 1
    · subst e; exact .inr a
    exact .inl ⟨j, by omega, a⟩
theorem aiu {a b c:Int} : c≤mx a b↔c≤a∨c≤b:=by unfold mx;split <;> omega
theorem VO (xs : List Int) (c : Int) : ∀ n, c ≤ IW xs n ↔ ∃ j, j ≤ n ∧ c ≤ xs.getD j 0
  | 0 => ⟨fun h => ⟨0, Nat.le_refl _, h⟩, fun ⟨j, b, a⟩ => by obtain rfl : j = 0 := by omega
                                                              exact a⟩
  | n + 1 => by
    rw [IW, aiu, VO xs c n]
    constructor
    · rintro (⟨j, b, a⟩ | h)
      · exact ⟨j, by omega, a⟩
      exact ⟨n + 1, Nat.le_refl _, h⟩
    rintro ⟨j, b, a⟩
    by_cases e : j = n + 1
    · subst e; exact .inr a
    exact .inl ⟨j, by omega, a⟩
theorem Gu (lo:Nat) (p:Value) (xs:List Int) (w:World) (b:Ints .i64 lo w p xs) (h0:0<xs.length) :
  Calls Tryz.prog 180 #[p] w (Ret fun v w'=>v = .int .i64 (FH xs (xs.length-1))∧w'=w):=by
 have d:=Sl.le b
 refine aJ (vs:=[p]) func180 Z ntmps180 Z ?_
 refine au (ah Z (aj (aQ Z (L.le Z (Sl.val b) (L.o (fU Z Z omX (aU (T.skip (aQ Z (jI Z Z b dcX omX (cZ Z (Ints.at b h0) (ah Z (aj (fK Z (?_)))))))))))))))
 refine ak (T.block (?_))
 refine bf (σ:=Nat) (fun i=>[(0,p),(3,.int .i64 (FH xs i)),(4,.int .i64 ((i+1:Nat):Int))]) (fun i w'=>i+1≤xs.length∧w'=w) (fun i=>xs.length-i) (0) ⟨rfl,rfl,rfl,trivial⟩ ⟨h0,rfl⟩ ?_
 rintro i w1 ⟨hi,rfl⟩
 refine aj (au (aN Z Z (L.le Z (Sl.val b) (bH Z Z (fun c=>?_) (fun c=>?_)))))
 ·refine ak (?_)
  have a:i+1<xs.length:=by omega
  refine aZ (T.skip (aj (T.block (aA (aN Z Z (L.m Z (dG Z Z b (cZ Z (Ints.at b a) (L.o (iP Z Z (ah Z (T.blk (aA (L.m Z (bF Z Z (ah Z (aP (i+1) omX ⟨rfl,rfl,rfl,trivial⟩ ⟨a,rfl⟩)))))))))))))))))
 refine ak (?_)
 obtain rfl:i=xs.length-1:=by omega
 refine bn (aY Z (aQ Z (ah Z (aB results180 Z ⟨rfl,rfl⟩))))
theorem TM (lo:Nat) (p:Value) (xs:List Int) (w:World) (b:Ints .i64 lo w p xs) (h0:0<xs.length) :
  Calls Tryz.prog 181 #[p] w (Ret fun v w'=>v = .int .i64 (IW xs (xs.length-1))∧w'=w):=by
 have d:=Sl.le b
 refine aJ (vs:=[p]) func181 Z ntmps181 Z ?_
 refine au (ah Z (aj (aQ Z (L.le Z (Sl.val b) (L.o (fU Z Z omX (aU (T.skip (aQ Z (jI Z Z b dcX omX (cZ Z (Ints.at b h0) (ah Z (aj (fK Z (?_)))))))))))))))
 refine ak (T.block (?_))
 refine bf (σ:=Nat) (fun i=>[(0,p),(3,.int .i64 (IW xs i)),(4,.int .i64 ((i+1:Nat):Int))]) (fun i w'=>i+1≤xs.length∧w'=w) (fun i=>xs.length-i) (0) ⟨rfl,rfl,rfl,trivial⟩ ⟨h0,rfl⟩ ?_
 rintro i w1 ⟨hi,rfl⟩
 refine aj (au (aN Z Z (L.le Z (Sl.val b) (bH Z Z (fun c=>?_) (fun c=>?_)))))
 ·refine ak (?_)
  have a:i+1<xs.length:=by omega
  refine aZ (T.skip (aj (T.block (aA (aN Z Z (L.m Z (dG Z Z b (cZ Z (Ints.at b a) (L.o (kJ Z Z (ah Z (T.blk (aA (L.m Z (bF Z Z (ah Z (aP (i+1) omX ⟨rfl,rfl,rfl,trivial⟩ ⟨a,rfl⟩)))))))))))))))))
 refine ak (?_)
 obtain rfl:i=xs.length-1:=by omega
 refine bn (aY Z (aQ Z (ah Z (aB results181 Z ⟨rfl,rfl⟩))))
theorem Dp (hf:NfL ps) (b:IxL ps.length l):NfL (cor ps 1 l):=fun i hi=>by
 have a:i<l.length:=by rw [o9] at hi;exact hi
 rw [IQ a]
 have h:=hf (l.getD i 0).toNat (by have:=b i a;omega)
 simp only [Dl,Int.one_mul];exact h
theorem aeV (hf:NfL ps) (a:IxL ps.length l):NmL (cor ps 1 l):=fun i hi=>by
 have:=mW (Dp hf a i hi)
 unfold Nm;omega
def uI (ps:List Pt) (l:List Int):Bool:=decide (0<uG (cor ps 1 l))
def qy (ps:List Pt) (r:Int) (l:List Int):Bool:=decide (jd (cor ps 1 l) (cor ps 1 l).length<0) == decide (r=0)
theorem LH (lo lo2 b:Nat) (c:CxV) (r:Int) (h:RiV) (w:World) (hB:Blk w b c.cells 46) (i:Pts lo w c.pv c.ps) (j:Ints .i64 lo2 w h.v h.xs) (hf:NfL c.ps) (d:Ko c.ps.length h) :
  Calls Tryz.prog 183 #[.int .i64 r,h.v,.pointer (some ⟨b,0,none⟩)] w (Ret fun v w'=>v = .bool (uI c.ps h.xs)∧Ext w w'):=by
 refine aJ (vs:=[.int .i64 r,h.v,.pointer (some ⟨b,0,none⟩)]) func183 Z ntmps183 Z ?_
 refine au (ah Z (au (aT Z Z hB.row (aO Z (ay (xs:=[.tmp 6,.tmp 7,.const (.int .i64 1)]) call185 Z Z (lJ lo lo2 c h.v h.xs 1 w i j hf (.inl Z) d.1 d.2) (fun k w1 e=>?_))))))
 obtain ⟨f,hP1⟩:=e
 refine L.o (ay (xs:=[.tmp 8]) call184 Z Z (Dk _ k (cor c.ps 1 h.xs) w1 hP1 (Dp hf d.1)) (fun v2 l e=>?_))
 obtain ⟨rfl,g⟩:=e
 refine L.o (pX Z Z (ah Z (aB results183 Z ⟨?_,f.trans g⟩)))
 refine congrArg Value.bool ?_
 by_cases a:0<uG (cor c.ps 1 h.xs)
 ·rw [uI,decide_eq_true a,if_pos a];rfl
 rw [uI,decide_eq_false a,if_neg a];rfl
theorem LK (lo lo2 b:Nat) (c:CxV) (r:Int) (h:RiV) (w:World) (hB:Blk w b c.cells 46) (g:Pts lo w c.pv c.ps) (i:Ints .i64 lo2 w h.v h.xs) (hf:NfL c.ps) (a:Ko c.ps.length h) :
  Calls Tryz.prog 187 #[.int .i64 r,h.v,.pointer (some ⟨b,0,none⟩)] w (Ret fun v w'=>v = .bool (qy c.ps r h.xs)∧Ext w w'):=by
 refine aJ (vs:=[.int .i64 r,h.v,.pointer (some ⟨b,0,none⟩)]) func187 Z ntmps187 Z ?_
 refine au (ah Z (au (aT Z Z hB.row (aO Z (ay (xs:=[.tmp 6,.tmp 7,.const (.int .i64 1)]) call185 Z Z (lJ lo lo2 c h.v h.xs 1 w g i hf (.inl Z) a.1 a.2) (fun j w1 d=>?_))))))
 obtain ⟨e,hP1⟩:=d
 refine L.o (ay (xs:=[.tmp 8]) call188 Z Z (TJ _ j (cor c.ps 1 h.xs) w1 hP1 (aeV hf a.1) (by rw [o9];exact a.2)) (fun v2 k d=>?_))
 obtain ⟨rfl,f⟩:=d
 refine L.o (uZ Z Z (aO Z (oh Z Z (L.o (ou runUnderlying4 Z Z (ah Z (aB results187 Z ⟨rfl,e.trans f⟩)))))))
def badR (ps:List Pt) (_:Int) (l:List Int):Bool:=uI ps l
def BL (ri:List RiV) (bad:Int→List Int→Bool):Bool:=decide (∃ k:Nat,k<ri.length∧bad k (ri.getD k r0).xs=true)
theorem FaV.ok.ri {lo:Nat} {w:World} {f:FaV} (h:f.ok lo w):∀ x∈f.ri,Ints .i64 lo w x.v x.xs:=fun x hx=>by
 simp only [FaV.ri,List.mem_cons] at hx
 rcases hx with rfl|hx
 ·exact h.o
 exact h.hs x hx
def pre {α:Type} (g:Nat→List α) (k:Nat):List α:=(List.range k).flatMap g
theorem rW {α:Type} (g:Nat→List α) (k:Nat):pre g (k+1)=pre g k++g k:=by
 simp [pre,List.range_succ]
theorem LM {α:Type} (g:Nat→List α) (k:Nat):∀ m,∃ t,pre g (k+1+m)=pre g k++g k++t
 | 0=>⟨[],by rw [Nat.add_zero,rW];simp⟩
 | m+1=>by
  obtain ⟨t,h⟩:=LM g k m
  exact ⟨t++g (k+1+m),by rw [show k+1+(m+1)=(k+1+m)+1 by omega,rW,h];simp⟩
theorem pre_at {α:Type} (g:Nat→List α) {k:Nat} (b:k<n) (j:Nat) (a:j<(g k).length) (d:α):(pre g n).getD ((pre g k).length+j) d=(g k).getD j d:=by
 obtain ⟨t,h⟩:=LM g k (n-(k+1))
 rw [show k+1+(n-(k+1))=n by omega] at h
 rw [h]
 simp only [List.getD]
 rw [List.append_assoc,List.getElem?_append_right omX,Nat.add_sub_cancel_left,List.getElem?_append_left a]
theorem zF {α:Type} (g:Nat→List α) (k:Nat):(pre g (k+1)).length=(pre g k).length+(g k).length:=by rw [rW,List.length_append]
theorem aa1 {α : Type} (g : Nat → List α) {k n : Nat} (a : k ≤ n) : (pre g k).length ≤ (pre g n).length := by
  induction n with
  | zero => obtain rfl : k = 0 := by omega
            exact Nat.le_refl _
  | succ n ih =>
    by_cases h : k = n + 1
    · subst h; exact Nat.le_refl _
    have := ih omX; rw [zF]; omega
def st0:St:=⟨0,0,0,0⟩
def nI (l:List Int) (i:Nat):Nat:=(l.getD i 0).toNat
def stR (f r:Nat) (l:List Int):List St:=(List.range l.length).map fun i=>⟨nI l i,nI l ((i+1) % l.length),f,r⟩
def gR (f:Nat) (ri:List RiV) (r:Nat):List St:=stR f r (ri.getD r r0).xs
def stF (f:Nat) (ri:List RiV):List St:=pre (gR f ri) ri.length
def gF (fs:List FaV) (f:Nat):List St:=stF f (fs.getD f f0).ri
def stL (fs:List FaV):List St:=pre (gF fs) fs.length
theorem wQ (f r:Nat) (l:List Int):(stR f r l).length=l.length:=by simp [stR]
theorem aa2 (f r:Nat) (l:List Int) (hi:i<l.length):(stR f r l).getD i st0=⟨nI l i,nI l ((i+1) % l.length),f,r⟩:=by
 rw [aX (by rw [wQ];exact hi)];simp [stR]
def IX (fs:List FaV) (f r i:Nat):Nat:=(pre (gF fs) f).length+((pre (gR f (fs.getD f f0).ri) r).length+i)
theorem aeW {fs:List FaV} {f r:Nat} (hf:f<fs.length) (b:r<(fs.getD f f0).ri.length) (hi:i<((fs.getD f f0).ri.getD r r0).xs.length) :
  IX fs f r i<(stL fs).length∧(stL fs).getD (IX fs f r i) st0=⟨nI ((fs.getD f f0).ri.getD r r0).xs i,nI ((fs.getD f f0).ri.getD r r0).xs ((i+1) % ((fs.getD f f0).ri.getD r r0).xs.length),f,r⟩:=by
 have a:(gR f (fs.getD f f0).ri r).length=((fs.getD f f0).ri.getD r r0).xs.length:=wQ _ _ _
 have c:(pre (gR f (fs.getD f f0).ri) r).length+i<(gF fs f).length:=by
  have:=aa1 (gR f (fs.getD f f0).ri) (k:=r+1) (n:=(fs.getD f f0).ri.length) b
  rw [zF,a] at this
  show _<(stF f (fs.getD f f0).ri).length
  unfold stF;omega
 refine ⟨?_,?_⟩
 ·have:=aa1 (gF fs) (k:=f+1) (n:=fs.length) hf
  rw [zF] at this
  unfold IX stL;omega
 unfold IX stL
 rw [pre_at (gF fs) hf _ c]
 show (pre (gR f (fs.getD f f0).ri) (fs.getD f f0).ri.length).getD _ st0=_
 rw [pre_at _ b i (by rw [a];exact hi)]
 exact aa2 _ _ _ hi
theorem aiv (fs:List FaV) (f r:Nat):IX fs f (r+1) 0=IX fs f r ((fs.getD f f0).ri.getD r r0).xs.length:=by
 have a:(gR f (fs.getD f f0).ri r).length=((fs.getD f f0).ri.getD r r0).xs.length:=wQ _ _ _
 unfold IX;rw [zF,a];omega
theorem aiw (fs:List FaV) (f:Nat):IX fs (f+1) 0 0=IX fs f (fs.getD f f0).ri.length 0:=by
 have e:(gF fs f).length=(pre (gR f (fs.getD f f0).ri) (fs.getD f f0).ri.length).length:=rfl
 have a:∀ g:Nat→List St,(pre g 0).length=0:=fun g=>rfl
 unfold IX;rw [zF,e,a];omega
theorem ab7 (fs:List FaV):IX fs fs.length 0 0=(stL fs).length:=by
 have a:∀ g:Nat→List St,(pre g 0).length=0:=fun g=>rfl
 unfold IX stL;rw [a];omega
theorem aix (fs:List FaV) (f r i:Nat):IX fs f r i+1=IX fs f r (i+1):=by unfold IX;omega
def aeX (L:List St) (i:Nat) (v:Value) (j:Nat):Prop:=i<L.length∧v=(L.getD i st0).val∧j=i+1
theorem Sl.hold {lo:Nat} {w w':World} {v:Value} {sz:Nat} {cs:List Value} (h:Sl lo w v n sz cs) (hb:0<n→w'.heap[(jX v).block]?=w.heap[(jX v).block]?):Sl lo w' v n sz cs:=by
 obtain ⟨c,oa,cap,rfl,d,e,b⟩:=h
 refine ⟨c,oa,cap,rfl,d,e,?_⟩
 rcases b with b|⟨a,rfl,f,g⟩
 ·exact .inl b
 by_cases hn:n=0
 ·exact .inl hn
 exact .inr ⟨a,rfl,f,fun j u i=>(World.cell?_of_block (by rw [add_block];exact hb omX)).trans (g j u i)⟩
theorem Gv {lo:Nat} {w:World} {f:FaV} (h:f.ok lo w):∀ u∈f.cells,u.oneCell'=true:=fun u a=>by
 simp only [FaV.cells,List.mem_cons,List.mem_nil_iff,or_false] at a
 rcases a with rfl|rfl
 ·exact Sl.one h.o
 exact Sl.one h.sl
def IxC (c:CxV):Prop:=∀ f∈c.fs,f.hs.length≤100000∧∀ h∈f.ri,Ko c.ps.length h
theorem rX (c:CxV) (w:World) :
  Calls Tryz.prog 209 #[c.val] w (Ret fun v w'=>v = .func (.func 245) #[] #[.pointer (some ⟨w.heap.size,0,none⟩)]∧Ext w w'∧Blk w' w.heap.size c.cells 46):=by
 refine aJ (vs:=[c.val]) func209 Z ntmps209 Z ?_
 refine au (bM Z (fun b1 w1 a d b hB1=>?_))
 subst a
 refine ah Z (au (L.o (eG (fi:=[]) (ca:=[.tmp 1]) Z Z (ah Z (aB results209 Z ⟨rfl,b,hB1⟩)))))
theorem LP (l b lo:Nat) (c:CxV) (hx:IxC c) (J:Nat→(Nat→Prop)→World→Prop) (X:World→Prop) (w:World) (hJ:Kz J) (hInv:∀ i S W,J i S W→c.ok lo W∧Blk W b c.cells 46) (sS:∀ i v j S W,aeX (stL c.fs) i v j→J i S W→Yld Tryz.prog l #[v] W fun u W'=>(u = .bool true∧J j S W'∧∀ k,S k→W'.heap[k]?=W.heap[k]?)∨(u = .bool false∧X W')) (h0:J 0 (fun _=>False) w) :
  Calls Tryz.prog 245 #[.func (.yield l) #[] #[],.pointer (some ⟨b,0,none⟩)] w (Ret fun _ w'=>(∃ S:Nat→Prop,(∀ k,False→S k)∧J (stL c.fs).length S w')∨X w'):=by
 have hI0:=hInv _ _ _ h0
 have aa:=Sl.le hI0.1.sl
 refine aJ (vs:=[.func (.yield l) #[] #[],.pointer (some ⟨b,0,none⟩)]) func245 Z ntmps245 Z ?_
 refine au (aC Z (hI0.2.cell Z) (L.le Z (Sl.val hI0.1.sl) (L.m Z (ak (T.block (?_))))))
 refine bf (σ:=Nat) (fun f=>[(0,.func (.yield l) #[] #[]),(1,.pointer (some ⟨b,0,none⟩)),(10,c.fv),(11,.int .i64 c.fs.length),(12,.int .i64 f)]) (fun f w'=>f≤c.fs.length∧∃ S:Nat→Prop,J (IX c.fs f 0 0) S w') (fun f=>c.fs.length-f) (0) ⟨rfl,rfl,rfl,rfl,rfl,trivial⟩ ⟨Nat.zero_le _,fun _=>False,h0⟩ ?_
 rintro f w1 ⟨hf,S,C⟩
 have hI1:=hInv _ _ _ C
 refine au (bH Z Z (fun D=>?_) (fun D=>?_))
 ·refine ak (?_)
  have d:f<c.fs.length:=by omega
  have t:=hI1.1.at d
  have x:c.fs.getD f f0∈c.fs:=by rw [aX d];exact List.getElem_mem d
  obtain ⟨hn,E⟩:=hx _ x
  refine aj (aZ (T.skip (aj (T.block (aQ Z (dG Z Z hI1.1.sl (aT Z Z (hI1.1.row d) (L.o (O.alloc zeroValue127 (fun b2 w2 ab ac F hB2=>?_))))))))))
  refine L.a Z (L.o (aK sizeOf127 Z Z Z hB2 leX (Gv t) (fun y G hB3=>?_)))
  have H:Blk y b2 (c.fs.getD f f0).cells 127:=hB3
  have iH:Ext w1 y:=F.upd G (.inr omX)
  refine ak (au (aT Z Z H.row (L.o (ay (xs:=[.tmp 17]) call176 Z Z (Dn lo (c.fs.getD f f0) y (t.ext iH) hn) (fun v4 w4 z=>?_)))))
  obtain ⟨I,e⟩:=z
  have je:=iH.trans I
  have K:=hJ.1 _ _ (fun k=>S k∨w1.heap.size≤k∧k<w4.heap.size) _ _ C je (fun k hk=>hk)
  have ad:=Sl.le e
  have M:0<(c.fs.getD f f0).ri.length:=Nat.succ_pos _
  have N:(fun k=>S k∨w1.heap.size≤k∧k<w4.heap.size) (jX v4).block:=by
   obtain ⟨_,_,_,h1,P⟩:=Sl.there e M
   have:=Row.lt P (by simp [dw,FaV.ri])
   have:=iH.size
   exact .inr ⟨omX,omX⟩
  refine L.le Z (Sl.val e) (L.m Z (ak (T.block (?_))))
  refine bf (σ:=Nat) (fun r=>[(0,.func (.yield l) #[] #[]),(1,.pointer (some ⟨b,0,none⟩)),(3,.int .i64 f),(10,c.fv),(11,.int .i64 c.fs.length),(12,.int .i64 f),(18,v4),(19,.int .i64 (c.fs.getD f f0).ri.length),(20,.int .i64 r)]) (fun r w'=>r≤(c.fs.getD f f0).ri.length∧∃ S:Nat→Prop,J (IX c.fs f r 0) S w'∧Sl y.heap.size w' v4 (c.fs.getD f f0).ri.length 1 (dw (c.fs.getD f f0).ri)∧S (jX v4).block) (fun r=>(c.fs.getD f f0).ri.length-r) (0) ⟨rfl,rfl,rfl,rfl,rfl,rfl,rfl,rfl,rfl,trivial⟩ ⟨Nat.zero_le _,_,K,e,N⟩ ?_
  rintro r w5 ⟨hr,S5,g,n,aox⟩
  have Q:=hInv _ _ _ g
  refine au (bH Z Z (fun aoy=>?_) (fun aoy=>?_))
  ·refine ak (?_)
   have VP:r<(c.fs.getD f f0).ri.length:=by omega
   have p:(c.fs.getD f f0).ri.getD r r0∈(c.fs.getD f f0).ri:=by rw [aX VP];exact List.getElem_mem VP
   have q:=E _ p
   have hL5:=(Q.1.at d).ri _ p
   obtain ⟨xs,ae⟩:∃ xs,((c.fs.getD f f0).ri.getD r r0).xs=xs:=⟨_,rfl⟩
   refine aj (aZ (T.skip (aj (T.block (aQ Z (dG Z Z n (cZ Z (by rw [Int.toNat_natCast,Nat.mul_one];exact Sl.cell n (lK VP)) (L.a Z (ah Z (aQ Z (L.le Z (Sl.val hL5) (L.m Z (ak (T.block (?_)))))))))))))))
   refine bf (σ:=Nat) (fun i=>[(0,.func (.yield l) #[] #[]),(1,.pointer (some ⟨b,0,none⟩)),(3,.int .i64 f),(5,.int .i64 r),(6,((c.fs.getD f f0).ri.getD r r0).v),(10,c.fv),(11,.int .i64 c.fs.length),(12,.int .i64 f),(18,v4),(19,.int .i64 (c.fs.getD f f0).ri.length),(20,.int .i64 r),(25,((c.fs.getD f f0).ri.getD r r0).v),(26,.int .i64 ((c.fs.getD f f0).ri.getD r r0).xs.length),(27,.int .i64 i)]) (fun i w'=>i≤((c.fs.getD f f0).ri.getD r r0).xs.length∧∃ S:Nat→Prop,J (IX c.fs f r i) S w'∧Sl y.heap.size w' v4 (c.fs.getD f f0).ri.length 1 (dw (c.fs.getD f f0).ri)∧S (jX v4).block) (fun i=>((c.fs.getD f f0).ri.getD r r0).xs.length-i) (0) ⟨rfl,rfl,rfl,rfl,rfl,rfl,rfl,rfl,rfl,rfl,rfl,rfl,rfl,rfl,trivial⟩ ⟨Nat.zero_le _,_,g,n,aox⟩ ?_
   rintro i w6 ⟨hi,S6,s,A,aiy⟩
   have R:=hInv _ _ _ s
   have af:=q.2
   refine au (bH Z Z (fun aoz=>?_) (fun aoz=>?_))
   ·refine ak (?_)
    have Ze:i<((c.fs.getD f f0).ri.getD r r0).xs.length:=by omega
    have hL6:=(R.1.at d).ri _ p
    have hm:(i+1) % ((c.fs.getD f f0).ri.getD r r0).xs.length<((c.fs.getD f f0).ri.getD r r0).xs.length:=Nat.mod_lt _ omX
    have U:((i:Int)+1) % (((c.fs.getD f f0).ri.getD r r0).xs.length:Int)=(((i+1) % ((c.fs.getD f f0).ri.getD r r0).xs.length:Nat):Int):=by rw [show (i:Int)+1=((i+1:Nat):Int) by omega];rfl
    have B:=aeW d VP Ze
    refine aj (aZ (T.skip (aj (T.block (aQ Z (dG Z Z hL6 (cZ Z (Ints.at hL6 Ze) (L.a Z (ah Z (au (aN Z Z (aN Z Z (bF Z Z (L.m Z (L.le Z (Sl.val hL6) (L.o (fG Z Z omX omX (?_))))))))))))))))))
    rw [U]
    refine dG Z Z hL6 (cZ Z (Ints.at hL6 hm) (?_))
    have hv:Value.agg #[.int .i64 (((c.fs.getD f f0).ri.getD r r0).xs.getD i 0),.int .i64 (((c.fs.getD f f0).ri.getD r r0).xs.getD ((i+1) % ((c.fs.getD f f0).ri.getD r r0).xs.length) 0),.int .i64 f,.int .i64 r]=((stL c.fs).getD (IX c.fs f r i) st0).val:=by
     have h1:=q.1 _ Ze
     have P:=q.1 _ hm
     rw [B.2]
     simp only [St.val,nI,Int.toNat_of_nonneg h1.1,Int.toNat_of_nonneg P.1]
    refine aN Z Z (L.o (bU (v:=.agg #[.int .i64 (((c.fs.getD f f0).ri.getD r r0).xs.getD i 0),.int .i64 (((c.fs.getD f f0).ri.getD r r0).xs.getD ((i+1) % ((c.fs.getD f f0).ri.getD r r0).xs.length) 0),.int .i64 f,.int .i64 r]) (parts:=[(0,.tmp 33),(1,.tmp 41),(2,.tmp 42),(3,.tmp 43)]) (vs:=[(0,_),(1,_),(2,_),(3,_)]) Z (fun w=>by kernel_rfl) (?_)))
    rw [hv]
    refine L.o (F9 (xs:=[.tmp 44]) Z Z Z (sS _ _ _ S6 _ ⟨B.1,rfl,rfl⟩ s) (fun v7 w7 z=>?_))
    obtain z:=z
    rcases z with ⟨rfl,V,Y⟩|⟨rfl,hX⟩
    ·refine bT Z (aU (T.skip (T.blk (aA (bF Z Z (L.m Z (ak (aP (i+1) omX ⟨rfl,rfl,rfl,rfl,rfl,rfl,rfl,rfl,rfl,rfl,rfl,rfl,rfl,rfl,trivial⟩ ⟨Ze,S6,by rw [← aix];exact V,Sl.hold A (fun _=>Y _ aiy),aiy⟩))))))))
    refine bT Z (aW (BZ results245 (.inr hX)))
   refine ak (?_)
   obtain rfl:i=((c.fs.getD f f0).ri.getD r r0).xs.length:=by omega
   refine aj (bn (aY Z (T.blk (aA (bF Z Z (L.m Z (ak (aP (r+1) omX ⟨rfl,rfl,rfl,rfl,rfl,rfl,rfl,rfl,rfl,trivial⟩ ⟨VP,S6,by rw [aiv];exact s,A,aiy⟩))))))))
  refine ak (?_)
  obtain rfl:r=(c.fs.getD f f0).ri.length:=by omega
  refine aj (bn (aY Z (T.blk (aA (bF Z Z (L.m Z (ak (aP (f+1) omX ⟨rfl,rfl,rfl,rfl,rfl,trivial⟩ ⟨d,S5,by rw [aiw];exact g⟩))))))))
 refine ak (?_)
 obtain rfl:f=c.fs.length:=by omega
 rw [ab7] at C
 refine aj (bn (aY Z (xI results245 (.inl ⟨S,fun _ h=>h.elim,C⟩))))
theorem yc (b lo:Nat) (c:CxV) (hx:IxC c):aex Tryz.prog 245 #[.pointer (some ⟨b,0,none⟩)] (aeX (stL c.fs)) 0 (stL c.fs).length (fun W=>c.ok lo W∧Blk W b c.cells 46) (fun _=>False) (fun _=>True) :=
 fun l J X W a hInv sS h0 _=>LP l b lo c hx J X W a hInv sS h0
end Go.Proofs.YtnlonpcbgjbbaaaGreatDoor
