/-
  BlocksParses, part 13 of its proof: that it returns true for every input, and each argument reads behind the call as it read before. Conditions: the listed variables read as the program's text lays them (tied by the card).
-/
import Derived.Test.YtnlonpcbgjbbaaaGreatDoorWBlocksParses12
import Derived.Test.YtnlonpcbgjbbaaaGreatDoorWBlocksParses11
set_option linter.unusedVariables false
set_option linter.unusedSimpArgs false
set_option maxRecDepth 20000
namespace Go.Proofs.YtnlonpcbgjbbaaaGreatDoor
open Go.Proofs.Tryz
open Go Go.E
attribute [local irreducible] Go.E.T Go.E.L Go.E.O Go.E.Ob
attribute [local irreducible] Go.E.ObX
variable {a b c d p:Pt}
theorem acG (ha:Nr a) (hb:Nr b) (d:Nr c):(-256000000000000≤(b.1-a.1)*(c.1-b.1)∧(b.1-a.1)*(c.1-b.1)≤256000000000000) ∧ -256000000000000≤(b.2-a.2)*(c.2-b.2)∧(b.2-a.2)*(c.2-b.2)≤256000000000000:=by
 unfold Nr at ha hb d
 exact ⟨ny omX,ny omX⟩
theorem acH {x:Int} (h:0<x):sgn x=1:=by unfold sgn;rw [if_neg omX,if_pos h]
theorem Zv {x:Int} (h:x<0):sgn x = -1:=by unfold sgn;rw [if_pos h]
theorem acI {x:Int} (h:¬ 0<x) (a:¬ x<0):sgn x=0:=by unfold sgn;rw [if_neg a,if_neg h]
theorem WQ (x y:Int) : -1≤sgn x*sgn y∧sgn x*sgn y≤1:=by
 unfold sgn
 split <;> split <;> (try split) <;> (try split) <;> simp
theorem GU (p:Pt) (w:World) :
  Calls Tryz.prog 217 #[pV p] w (Ret fun v w'=>v = .bool (rE p)∧Ext w w'):=by
 refine aJ (vs:=[pV p]) func217 Z ntmps217 Z ?_
 refine au (bM Z (fun b1 w1 e f a hB1=>?_))
 have Fv:Blk w1 b1 (pC p) 124:=hB1
 refine ah Z (au (aC Z (Fv.cell Z) (bH Z Z (fun b=>?_) (fun b=>?_))))
 ·refine L.m Z (L.pp (L.p (aG Z (L.m Z (L.pp (L.p (aG Z (L.m Z (L.pp (L.p (aG Z (ah Z (aB results217 Z ⟨by unfold rE;rw [decide_eq_true (.inl b)],a⟩)))))))))))))
 refine L.m Z (aC Z (Fv.cell Z) (dY Z Z (fun c=>?_) (fun c=>?_)))
 ·refine aI Z (L.m Z (L.pp (L.p (aG Z (L.m Z (L.pp (L.p (aG Z (ah Z (aB results217 Z ⟨by unfold rE;rw [decide_eq_true (.inr (.inl c))],a⟩))))))))))
 refine aI Z (L.m Z (aC Z (Fv.cell Z) (bH Z Z (fun d=>?_) (fun d=>?_))))
 ·refine aI Z (L.m Z (L.pp (L.p (aG Z (ah Z (aB results217 Z ⟨by unfold rE;rw [decide_eq_true (.inr (.inr (.inl d)))],a⟩))))))
 refine aI Z (L.m Z (aC Z (Fv.cell Z) (L.o (kG Z Z (aI Z (ah Z (aB results217 Z ⟨congrArg Value.bool (decide_eq_decide.2 omX),a⟩)))))))
theorem kM (a b c:Pt) (w:World) (ha:Nr a) (hb:Nr b) (j:Nr c) :
  Calls Tryz.prog 255 #[pV a,pV b,pV c] w (Ret fun v w'=>v = .int .i64 (dA a b c)∧Ext w w'):=by
 unfold Nr at ha hb j
 refine aJ (vs:=[pV a,pV b,pV c]) func255 Z ntmps255 Z ?_
 refine au (bM Z (fun b3 r k l f hB3=>?_))
 refine bM Z (fun b4 s m n e g=>?_)
 refine bM Z (fun b5 h p q d i=>?_)
 have hA:Blk h b3 (pC a) 124:=Blk.ext (cs:=pC a) (Blk.ext (cs:=pC a) hB3 e) d
 have hB:Blk h b4 (pC b) 124:=Blk.ext (cs:=pC b) g d
 have hC:Blk h b5 (pC c) 124:=i
 have t:=ny (x:=b.1-a.1) (y:=c.2-a.2) omX
 have u:=ny (x:=b.2-a.2) (y:=c.1-a.1) omX
 refine ah Z (au (aC Z (hB.cell Z) (aC Z (hA.cell Z) (L.o (dh Z Z omX (aC Z (hC.cell Z) (aC Z (hA.cell Z) (L.o (dh Z Z omX (L.o (dN Z Z omX (aC Z (hB.cell Z) (aC Z (hA.cell Z) (L.o (dh Z Z omX (aC Z (hC.cell Z) (aC Z (hA.cell Z) (?_))))))))))))))))))
 refine L.o (dh Z Z omX (L.o (dN Z Z omX (L.o (dh Z Z omX (ah Z (aB results255 Z ⟨rfl,(f.trans e).trans d⟩)))))))
theorem su (x:Int) (w:World) :
  Calls Tryz.prog 267 #[.int .i64 x] w (Ret fun v w'=>v = .int .i64 (sgn x)∧w'=w):=by
 refine aJ (vs:=[.int .i64 x]) func267 Z ntmps267 Z ?_
 refine au (ah Z (aj (aQ Z (dY Z Z (fun a=>?_) (fun a=>?_)))))
 ·refine aW (au (ah Z (aB results267 Z ⟨by rw [acH a],rfl⟩)))
 refine aU (T.skip (aj (aQ Z (bH Z Z (fun b=>?_) (fun b=>?_)))))
 ·refine aW (au (ah Z (aB results267 Z ⟨by rw [Zv b],rfl⟩)))
 refine aU (T.skip (au (ah Z (aB results267 Z ⟨by rw [acI a b],rfl⟩))))
theorem TY (a b c:Pt) (w:World) (ha:Nr a) (hb:Nr b) (j:Nr c) :
  Calls Tryz.prog 272 #[pV a,pV b,pV c] w (Ret fun v w'=>v = .int .i64 (fwd a b c)∧Ext w w'):=by
 have k:=acG ha hb j
 unfold Nr at ha hb j
 refine aJ (vs:=[pV a,pV b,pV c]) func272 Z ntmps272 Z ?_
 refine au (bM Z (fun b3 s l m f hB3=>?_))
 refine bM Z (fun b4 t n p e g=>?_)
 refine bM Z (fun b5 h q r d i=>?_)
 have hA:Blk h b3 (pC a) 124:=Blk.ext (cs:=pC a) (Blk.ext (cs:=pC a) hB3 e) d
 have hB:Blk h b4 (pC b) 124:=Blk.ext (cs:=pC b) g d
 have hC:Blk h b5 (pC c) 124:=i
 refine ah Z (au (aC Z (hB.cell Z) (aC Z (hA.cell Z) (L.o (dh Z Z omX (aC Z (hC.cell Z) (aC Z (hB.cell Z) (L.o (dh Z Z omX (L.o (dN Z Z omX (aC Z (hB.cell Z) (aC Z (hA.cell Z) (L.o (dh Z Z omX (aC Z (hC.cell Z) (aC Z (hB.cell Z) (?_))))))))))))))))))
 refine L.o (dh Z Z omX (L.o (dN Z Z omX (bF Z Z (ah Z (aB results272 Z ⟨rfl,(f.trans e).trans d⟩))))))
theorem dQ (a b p:Pt) (w:World) (ha:Nr a) (hb:Nr b) (t:Nr p) :
  Calls Tryz.prog 254 #[pV a,pV b,pV p] w (Ret fun v w'=>v = .bool (decide (onE a b p))∧Ext w w'):=by
 refine aJ (vs:=[pV a,pV b,pV p]) func254 Z ntmps254 Z ?_
 refine au (bM Z (fun b3 D u x k hB3=>?_))
 refine bM Z (fun b4 E y z i l=>?_)
 refine bM Z (fun b5 j A B g n=>?_)
 have hA:Blk j b3 (pC a) 124:=Blk.ext (cs:=pC a) (Blk.ext (cs:=pC a) hB3 i) g
 have hB:Blk j b4 (pC b) 124:=Blk.ext (cs:=pC b) l g
 have hP:Blk j b5 (pC p) 124:=n
 have TG:=(k.trans i).trans g
 refine ah Z (aj (au (aT Z Z hA.row (aT Z Z hB.row (aT Z Z hP.row (L.o (ay (xs:=[.tmp 7,.tmp 8,.tmp 9]) call255 Z Z (kM a b p j ha hb t) (fun F G C=>?_))))))))
 obtain ⟨rfl,c⟩:=C
 have d:=Blk.ext (cs:=pC a) hA c
 have e:=Blk.ext (cs:=pC b) hB c
 have f:=Blk.ext (cs:=pC p) hP c
 have qE:=TG.trans c
 refine L.ne Z Z (fun h0=>?_) (fun h0=>?_)
 ·refine aW (au (ah Z (aB results254 Z ⟨by rw [decide_eq_false (fun h=>h0 h.1)],qE⟩)))
 refine aU (T.skip (au (aC Z (d.cell Z) (aC Z (e.cell Z) (L.o (iP Z Z (aC Z (f.cell Z) (L.o (fB Z Z (fun q=>?_) (fun q=>?_))))))))))
 ·refine L.m Z (aC Z (f.cell Z) (aC Z (d.cell Z) (aC Z (e.cell Z) (L.o (kJ Z Z (L.o (fB Z Z (fun r=>?_) (fun r=>?_))))))))
  ·refine aG Z (L.m Z (aC Z (d.cell Z) (aC Z (e.cell Z) (L.o (iP Z Z (aC Z (f.cell Z) (L.o (fB Z Z (fun s=>?_) (fun s=>?_)))))))))
   ·refine aG Z (L.m Z (aC Z (f.cell Z) (aC Z (d.cell Z) (aC Z (e.cell Z) (L.o (kJ Z Z (L.o (jS Z Z (aG Z (ah Z (aB results254 Z ⟨congrArg Value.bool (decide_eq_decide.2 ⟨fun h=>⟨h0,q,r,s,h⟩,fun h=>h.2.2.2.2⟩),qE⟩)))))))))))
   refine aG Z (L.m Z (L.pp (L.pp (L.pp (L.pp (aI Z (ah Z (aB results254 Z ⟨by rw [decide_eq_false (fun h=>s h.2.2.2.1)],qE⟩))))))))
  refine aG Z (L.m Z (L.pp (L.pp (L.pp (L.pp (aI Z (L.m Z (L.pp (L.pp (L.pp (L.pp (aI Z (ah Z (aB results254 Z ⟨by rw [decide_eq_false (fun h=>r h.2.2.1)],qE⟩))))))))))))))
 refine L.m Z (L.pp (L.pp (L.pp (L.pp (aI Z (L.m Z (L.pp (L.pp (L.pp (L.pp (aI Z (L.m Z (L.pp (L.p (?_)))))))))))))))
 refine L.pp (L.pp (L.p (aI Z (ah Z (aB results254 Z ⟨by rw [decide_eq_false (fun h=>q h.2.1)],qE⟩)))))
theorem pG (lo:Nat) (q:Value) (r:List Pt) (i:Nat) (w:World) (g:Pts lo w q r) (h0:0<r.length) (f:r.length≤1000000) (hi:i≤4000000) :
  Calls Tryz.prog 253 #[q,.int .i64 i] w (Ret fun v w'=>v=pV (r.getD (i % r.length) (0,0))∧Ext w w'):=by
 have h:i % r.length<r.length:=Nat.mod_lt _ h0
 have c:(i:Int) % (r.length:Int)=((i % r.length:Nat):Int):=rfl
 refine aJ (vs:=[q,.int .i64 i]) func253 Z ntmps253 Z ?_
 refine au (L.o (O.alloc zeroValue124 (fun b2 n j k b hB2=>?_)))
 have a:=g.ext b
 refine ak (au (aN Z Z (L.m Z (L.le Z (Sl.val a) (L.o (fG Z Z omX omX (?_)))))))
 rw [c]
 refine dG Z Z a (aT Z Z (a.row h) (L.o (aK sizeOf124 Z Z Z hB2 leX (gu _) (fun l d hB3=>?_))))
 have e:Blk l b2 (pC (r.getD (i % r.length) (0,0))) 124:=hB3
 refine ak (jZ results253 isAgg124 sizeOf124 Z Z e.row ⟨rfl,b.upd d (.inr omX)⟩)
open Geo (xA Kq UZ wR lN)
def aml (a b c d:Pt):Int:=mx (mn a.1 b.1) (mn c.1 d.1)-mn (mx a.1 b.1) (mx c.1 d.1)
def amm (a b c d:Pt):Int:=mx (mn a.2 b.2) (mn c.2 d.2)-mn (mx a.2 b.2) (mx c.2 d.2)
theorem abe (a b c d:Pt):Kq a b c d=if a.1=b.1 then amm a b c d else aml a b c d:=rfl
theorem abf {a b c d B:Int} (ha : -B≤a∧a≤B) (hb : -B≤b∧b≤B) (e : -B≤c∧c≤B) (f : -B≤d∧d≤B):(-B≤mx (mn a b) (mn c d)∧mx (mn a b) (mn c d)≤B) ∧ -B≤mn (mx a b) (mx c d)∧mn (mx a b) (mx c d)≤B:=by
 unfold mx mn
 repeat' split
 all_goals omega
theorem acJ (e:sgn (dA a b c)=0) (f:sgn (dA a b d)=0):xA a b c d=if 0<Kq a b c d then 0 else if Kq a b c d=0 then 1 else 3:=by unfold Geo.xA;rw [if_pos ⟨e,f⟩]
theorem afl (e:¬ (sgn (dA a b c)=0∧sgn (dA a b d)=0)) (f:sgn (dA a b c)*sgn (dA a b d)<0) (g:sgn (dA c d a)*sgn (dA c d b)<0):xA a b c d=2:=by unfold Geo.xA;rw [if_neg e,if_pos ⟨f,g⟩]
theorem vT (e:¬ (sgn (dA a b c)=0∧sgn (dA a b d)=0)) (f:¬ (sgn (dA a b c)*sgn (dA a b d)<0∧sgn (dA c d a)*sgn (dA c d b)<0)) (g:onE a b c∨onE a b d∨onE c d a∨onE c d b):xA a b c d=1:=by unfold Geo.xA;rw [if_neg e,if_neg f,if_pos g]
theorem Zw (e:¬ (sgn (dA a b c)=0∧sgn (dA a b d)=0)) (f:¬ (sgn (dA a b c)*sgn (dA a b d)<0∧sgn (dA c d a)*sgn (dA c d b)<0)) (g:¬ (onE a b c∨onE a b d∨onE c d a∨onE c d b)):xA a b c d=0:=by unfold Geo.xA;rw [if_neg e,if_neg f,if_neg g]
set_option maxHeartbeats 4000000 in
theorem zI (a b c d:Pt) (w:World) (ha:Nr a) (hb:Nr b) (t:Nr c) (u:Nr d) :
  Calls Tryz.prog 252 #[pV a,pV b,pV c,pV d] w (Ret fun v w'=>v = .int .i64 (xA a b c d)∧Ext w w'):=by
 refine aJ (vs:=[pV a,pV b,pV c,pV d]) func252 Z ntmps252 Z ?_
 refine au (bM Z (fun b4 w4 ac ad U V=>?_))
 refine bM Z (fun b5 w5 ae af Q W=>?_)
 refine bM Z (fun b6 w6 ag ai J X=>?_)
 refine bM Z (fun b7 w7 ak al I Y=>?_)
 have hA:Blk w7 b4 (pC a) 124:=Blk.ext (cs:=pC a) (Blk.ext (cs:=pC a) (Blk.ext (cs:=pC a) V Q) J) I
 have hB:Blk w7 b5 (pC b) 124:=Blk.ext (cs:=pC b) (Blk.ext (cs:=pC b) W J) I
 have hC:Blk w7 b6 (pC c) 124:=Blk.ext (cs:=pC c) X I
 have hD:Blk w7 b7 (pC d) 124:=Y
 have Fz:=((U.trans Q).trans J).trans I
 refine ah Z (aj (?_))
 refine dn mixed 8 [4,5,6,7] Z [.is _,.is _,.is _,.is (.int .i64 (dA a b c)),.is (.int .i64 (sgn (dA a b c))),.is _,.is _,.is _] [[],[],[],[0,1,2],[3],[],[],[]] trivial ⟨fun r hx=>bJ rfl rfl ((Blk.ext (cs:=pC a) hA hx).row),
   fun r hx=>bJ rfl rfl ((Blk.ext (cs:=pC b) hB hx).row),
   fun r hx=>bJ rfl rfl ((Blk.ext (cs:=pC c) hC hx).row),
   fun r hx=>Ob.o (ay (xs:=[.tmp 14,.tmp 15,.tmp 16]) call255 Z Z (kM a b c r ha hb t) (fun v wy h=>⟨h.2,h.1⟩)),
   fun r hx=>Ob.o (ay (xs:=[.tmp 17]) call267 Z Z (su (dA a b c) r) (fun v wy h=>⟨Keep.of_eq h.2,h.1⟩)),
   fun r hx=>bJ rfl rfl ((Blk.ext (cs:=pC a) hA hx).row),
   fun r hx=>bJ rfl rfl ((Blk.ext (cs:=pC b) hB hx).row),
   fun r hx=>bJ rfl rfl ((Blk.ext (cs:=pC d) hD hx).row),
   trivial⟩ (fun w8 F=>?_)
 refine L.o (ay (xs:=[.tmp 19,.tmp 20,.tmp 21]) call255 Z Z (kM a b d w8 ha hb u) (fun v80 aa f=>?_))
 obtain ⟨rfl,afm⟩:=f
 refine L.o (ay (xs:=[.tmp 22]) call267 Z Z (su (dA a b d) aa) (fun am an f=>?_))
 obtain ⟨rfl,rfl⟩:=f
 have R:=Blk.ext (cs:=pC a) hA (F.trans afm)
 have S:=Blk.ext (cs:=pC b) hB (F.trans afm)
 have K:=Blk.ext (cs:=pC c) hC (F.trans afm)
 have M:=Blk.ext (cs:=pC d) hD (F.trans afm)
 refine L.a Z (ah Z (aj (?_)))
 refine dn mixed 8 [6,7,4,5] Z [.is _,.is _,.is _,.is (.int .i64 (dA c d a)),.is (.int .i64 (sgn (dA c d a))),.is _,.is _,.is _] [[],[],[],[0,1,2],[3],[],[],[]] trivial ⟨fun r hx=>bJ rfl rfl ((Blk.ext (cs:=pC c) K hx).row),
   fun r hx=>bJ rfl rfl ((Blk.ext (cs:=pC d) M hx).row),
   fun r hx=>bJ rfl rfl ((Blk.ext (cs:=pC a) R hx).row),
   fun r hx=>Ob.o (ay (xs:=[.tmp 24,.tmp 25,.tmp 26]) call255 Z Z (kM c d a r t u ha) (fun v wy h=>⟨h.2,h.1⟩)),
   fun r hx=>Ob.o (ay (xs:=[.tmp 27]) call267 Z Z (su (dA c d a) r) (fun v wy h=>⟨Keep.of_eq h.2,h.1⟩)),
   fun r hx=>bJ rfl rfl ((Blk.ext (cs:=pC c) K hx).row),
   fun r hx=>bJ rfl rfl ((Blk.ext (cs:=pC d) M hx).row),
   fun r hx=>bJ rfl rfl ((Blk.ext (cs:=pC b) S hx).row),
   trivial⟩ (fun w9 G=>?_)
 refine L.o (ay (xs:=[.tmp 29,.tmp 30,.tmp 31]) call255 Z Z (kM c d b w9 t u hb) (fun ao ab f=>?_))
 obtain ⟨rfl,wV⟩:=f
 refine L.o (ay (xs:=[.tmp 32]) call267 Z Z (su (dA c d b) ab) (fun ap H f=>?_))
 obtain ⟨rfl,rfl⟩:=f
 have l:=Blk.ext (cs:=pC a) R (G.trans wV)
 have n:=Blk.ext (cs:=pC b) S (G.trans wV)
 have p:=Blk.ext (cs:=pC c) K (G.trans wV)
 have q:=Blk.ext (cs:=pC d) M (G.trans wV)
 have vF:=Fz.trans ((F.trans afm).trans (G.trans wV))
 have m1:=WQ (dA a b c) (dA a b d)
 have m2:=WQ (dA c d a) (dA c d b)
 have bX:=abf (B:=8000000) ha.1 hb.1 t.1 u.1
 have bY:=abf (B:=8000000) ha.2 hb.2 t.2 u.2
 refine L.a Z (ah Z (aj (aQ Z (dK Z Z (fun g1=>?_) (fun g1=>?_)))))
 ·refine aN Z Z (dK Z Z (fun g2=>?_) (fun g2=>?_))
  ·refine aG Z (aW (au (aC Z (l.cell Z) (aC Z (n.cell Z) (L.o (iP Z Z (aC Z (p.cell Z) (aC Z (q.cell Z) (L.o (iP Z Z (L.o (kJ Z Z (aC Z (l.cell Z) (aC Z (n.cell Z) (L.o (kJ Z Z (aC Z (p.cell Z) (L.fa Z (?_)))))))))))))))))))
   refine cZ Z (q.cell Z) (L.o (kJ Z Z (L.o (iP Z Z (L.o (dh Z Z (by have q1:=bX.1;have q2:=bX.2;unfold mx mn at q1 q2;omega) (ah Z (aj (?_)))))))))
   refine dS (σ:=Int) (fun s=>[(13,.int .i64 s)]) (fun s w'=>w'=H∧s=Kq a b c d) ?_ ?_
   ·refine au (aC Z (l.cell Z) (aC Z (n.cell Z) (dK Z Z (fun e1=>?_) (fun e1=>?_))))
    ·refine aW (aA (aC Z (l.cell Z) (aC Z (n.cell Z) (L.o (iP Z Z (aC Z (p.cell Z) (aC Z (q.cell Z) (L.o (iP Z Z (L.o (kJ Z Z (aC Z (l.cell Z) (aC Z (n.cell Z) (L.o (kJ Z Z (aC Z (p.cell Z) (aC Z (q.cell Z) (L.o (kJ Z Z (?_))))))))))))))))))))
     refine L.o (iP Z Z (L.o (dh Z Z (by have q1:=bY.1;have q2:=bY.2;unfold mx mn at q1 q2;omega) (ah Z (bC ((amm a b c d)) ⟨rfl,trivial⟩ ⟨rfl,by rw [abe,if_pos e1]⟩)))))
    refine aU (T.skip (bC ((aml a b c d)) ⟨rfl,trivial⟩ ⟨rfl,by rw [abe,if_neg e1]⟩))
   rintro s aq ⟨rfl,rfl⟩
   refine aj (aQ Z (dY Z Z (fun l1=>?_) (fun l1=>?_)))
   ·refine aW (au (ah Z (aB results252 Z ⟨by rw [acJ g1 g2,if_pos l1],vF⟩)))
   refine aU (T.skip (aj (aQ Z (dK Z Z (fun l2=>?_) (fun l2=>?_)))))
   ·refine aW (au (ah Z (aB results252 Z ⟨by rw [acJ g1 g2,if_neg l1,if_pos l2],vF⟩)))
   refine aU (T.skip (au (ah Z (aB results252 Z ⟨by rw [acJ g1 g2,if_neg l1,if_neg l2],vF⟩))))
  have e:¬ (sgn (dA a b c)=0∧sgn (dA a b d)=0):=fun h=>g2 h.2
  refine aG Z (aU (T.skip (aj (au (aN Z Z (L.o (dN Z Z omX (bH Z Z (fun x1=>?_) (fun x1=>?_)))))))))
  ·refine aN Z Z (aO Z (dN Z Z omX (bH Z Z (fun x2=>?_) (fun x2=>?_))))
   ·refine aG Z (aW (au (ah Z (aB results252 Z ⟨by rw [afl e x1 x2],vF⟩))))
   refine aG Z (aU (T.skip (aj (au (aT Z Z l.row (aT Z Z n.row (aT Z Z p.row (L.o (ay (xs:=[.tmp 105,.tmp 106,.tmp 107]) call254 Z Z (dQ a b c H ha hb t) (fun v20 x f=>?_))))))))))
   obtain ⟨xB,jG⟩:=f
   rcases g:decide (onE a b c) with _|_
   ·rw [g] at xB
    subst xB
    have y:¬ onE a b c:=of_decide_eq_false g
    refine L.m Z (aT Z Z ((Blk.ext (cs:=pC a) l jG).row) (aT Z Z ((Blk.ext (cs:=pC b) n jG).row) (aT Z Z ((Blk.ext (cs:=pC d) q jG).row) (L.o (ay (xs:=[.tmp 110,.tmp 111,.tmp 112]) call254 Z Z (dQ a b d x ha hb u) (fun v21 z f=>?_))))))
    obtain ⟨EU,jv⟩:=f
    rcases i:decide (onE a b d) with _|_
    ·rw [i] at EU
     subst EU
     have A:¬ onE a b d:=of_decide_eq_false i
     refine aI Z (L.m Z (aT Z Z ((Blk.ext (cs:=pC c) p (jG.trans jv)).row) (aT Z Z ((Blk.ext (cs:=pC d) q (jG.trans jv)).row) (aT Z Z ((Blk.ext (cs:=pC a) l (jG.trans jv)).row) (L.o (ay (xs:=[.tmp 116,.tmp 117,.tmp 118]) call254 Z Z (dQ c d a z t u ha) (fun N C f=>?_)))))))
     obtain ⟨uO,qF⟩:=f
     rcases j:decide (onE c d a) with _|_
     ·rw [j] at uO
      subst uO
      have D:¬ onE c d a:=of_decide_eq_false j
      refine aI Z (L.m Z (aT Z Z ((Blk.ext (cs:=pC c) p ((jG.trans jv).trans qF)).row) (aT Z Z ((Blk.ext (cs:=pC d) q ((jG.trans jv).trans qF)).row) (aT Z Z ((Blk.ext (cs:=pC b) n ((jG.trans jv).trans qF)).row) (L.o (ay (xs:=[.tmp 122,.tmp 123,.tmp 124]) call254 Z Z (dQ c d b C t u hb) (fun O P f=>?_)))))))
      obtain ⟨zJ,Gm⟩:=f
      rcases k:decide (onE c d b) with _|_
      ·rw [k] at zJ
       subst zJ
       have E:¬ onE c d b:=of_decide_eq_false k
       refine aI Z (aU (T.skip (au (ah Z (aB results252 Z ⟨by rw [Zw e (fun h=>x2 h.2) (by rintro (h|h|h|h);exact y h;exact A h;exact D h;exact E h)],vF.trans (((jG.trans jv).trans qF).trans Gm)⟩)))))
      rw [k] at zJ
      subst zJ
      refine aI Z (aW (au (ah Z (aB results252 Z ⟨by rw [vT e (fun h=>x2 h.2) (.inr (.inr (.inr (of_decide_eq_true k))))],vF.trans (((jG.trans jv).trans qF).trans Gm)⟩))))
     rw [j] at uO
     subst uO
     refine aI Z (L.m Z (L.pp (L.pp (aG Z (aW (au (ah Z (aB results252 Z ⟨by rw [vT e (fun h=>x2 h.2) (.inr (.inr (.inl (of_decide_eq_true j))))],vF.trans ((jG.trans jv).trans qF)⟩))))))))
    rw [i] at EU
    subst EU
    refine aI Z (L.m Z (L.pp (L.pp (aG Z (L.m Z (L.pp (L.pp (aG Z (aW (au (ah Z (aB results252 Z ⟨by rw [vT e (fun h=>x2 h.2) (.inr (.inl (of_decide_eq_true i)))],vF.trans (jG.trans jv)⟩))))))))))))
   rw [g] at xB
   subst xB
   refine L.m Z (L.pp (L.pp (aG Z (L.m Z (L.pp (L.pp (aG Z (L.m Z (L.pp (L.pp (aG Z (aW (au (ah Z (?_)))))))))))))))
   refine aB results252 Z ⟨by rw [vT e (fun h=>x2 h.2) (.inl (of_decide_eq_true g))],vF.trans jG⟩
  refine L.m Z (L.pp (L.pp (aI Z (aU (T.skip (aj (au (aT Z Z l.row (aT Z Z n.row (aT Z Z p.row (L.o (ay (xs:=[.tmp 105,.tmp 106,.tmp 107]) call254 Z Z (dQ a b c H ha hb t) (fun v20 x f=>?_)))))))))))))
  obtain ⟨xB,jG⟩:=f
  rcases g:decide (onE a b c) with _|_
  ·rw [g] at xB
   subst xB
   have y:¬ onE a b c:=of_decide_eq_false g
   refine L.m Z (aT Z Z ((Blk.ext (cs:=pC a) l jG).row) (aT Z Z ((Blk.ext (cs:=pC b) n jG).row) (aT Z Z ((Blk.ext (cs:=pC d) q jG).row) (L.o (ay (xs:=[.tmp 110,.tmp 111,.tmp 112]) call254 Z Z (dQ a b d x ha hb u) (fun v21 z f=>?_))))))
   obtain ⟨EU,jv⟩:=f
   rcases i:decide (onE a b d) with _|_
   ·rw [i] at EU
    subst EU
    have A:¬ onE a b d:=of_decide_eq_false i
    refine aI Z (L.m Z (aT Z Z ((Blk.ext (cs:=pC c) p (jG.trans jv)).row) (aT Z Z ((Blk.ext (cs:=pC d) q (jG.trans jv)).row) (aT Z Z ((Blk.ext (cs:=pC a) l (jG.trans jv)).row) (L.o (ay (xs:=[.tmp 116,.tmp 117,.tmp 118]) call254 Z Z (dQ c d a z t u ha) (fun N C f=>?_)))))))
    obtain ⟨uO,qF⟩:=f
    rcases j:decide (onE c d a) with _|_
    ·rw [j] at uO
     subst uO
     have D:¬ onE c d a:=of_decide_eq_false j
     refine aI Z (L.m Z (aT Z Z ((Blk.ext (cs:=pC c) p ((jG.trans jv).trans qF)).row) (aT Z Z ((Blk.ext (cs:=pC d) q ((jG.trans jv).trans qF)).row) (aT Z Z ((Blk.ext (cs:=pC b) n ((jG.trans jv).trans qF)).row) (L.o (ay (xs:=[.tmp 122,.tmp 123,.tmp 124]) call254 Z Z (dQ c d b C t u hb) (fun O P f=>?_)))))))
     obtain ⟨zJ,Gm⟩:=f
     rcases k:decide (onE c d b) with _|_
     ·rw [k] at zJ
      subst zJ
      have E:¬ onE c d b:=of_decide_eq_false k
      refine aI Z (aU (T.skip (au (ah Z (aB results252 Z ⟨by rw [Zw e (fun h=>x1 h.1) (by rintro (h|h|h|h);exact y h;exact A h;exact D h;exact E h)],vF.trans (((jG.trans jv).trans qF).trans Gm)⟩)))))
     rw [k] at zJ
     subst zJ
     refine aI Z (aW (au (ah Z (aB results252 Z ⟨by rw [vT e (fun h=>x1 h.1) (.inr (.inr (.inr (of_decide_eq_true k))))],vF.trans (((jG.trans jv).trans qF).trans Gm)⟩))))
    rw [j] at uO
    subst uO
    refine aI Z (L.m Z (L.pp (L.pp (aG Z (aW (au (ah Z (aB results252 Z ⟨by rw [vT e (fun h=>x1 h.1) (.inr (.inr (.inl (of_decide_eq_true j))))],vF.trans ((jG.trans jv).trans qF)⟩))))))))
   rw [i] at EU
   subst EU
   refine aI Z (L.m Z (L.pp (L.pp (aG Z (L.m Z (L.pp (L.pp (aG Z (aW (au (ah Z (aB results252 Z ⟨by rw [vT e (fun h=>x1 h.1) (.inr (.inl (of_decide_eq_true i)))],vF.trans (jG.trans jv)⟩))))))))))))
  rw [g] at xB
  subst xB
  refine L.m Z (L.pp (L.pp (aG Z (L.m Z (L.pp (L.pp (aG Z (L.m Z (L.pp (L.pp (aG Z (aW (au (ah Z (?_)))))))))))))))
  refine aB results252 Z ⟨by rw [vT e (fun h=>x1 h.1) (.inl (of_decide_eq_true g))],vF.trans jG⟩
 have e:¬ (sgn (dA a b c)=0∧sgn (dA a b d)=0):=fun h=>g1 h.1
 refine L.m Z (L.pp (aI Z (aU (T.skip (aj (au (aN Z Z (L.o (dN Z Z omX (bH Z Z (fun x1=>?_) (fun x1=>?_)))))))))))
 ·refine aN Z Z (aO Z (dN Z Z omX (bH Z Z (fun x2=>?_) (fun x2=>?_))))
  ·refine aG Z (aW (au (ah Z (aB results252 Z ⟨by rw [afl e x1 x2],vF⟩))))
  refine aG Z (aU (T.skip (aj (au (aT Z Z l.row (aT Z Z n.row (aT Z Z p.row (L.o (ay (xs:=[.tmp 105,.tmp 106,.tmp 107]) call254 Z Z (dQ a b c H ha hb t) (fun v20 x f=>?_))))))))))
  obtain ⟨xB,jG⟩:=f
  rcases g:decide (onE a b c) with _|_
  ·rw [g] at xB
   subst xB
   have y:¬ onE a b c:=of_decide_eq_false g
   refine L.m Z (aT Z Z ((Blk.ext (cs:=pC a) l jG).row) (aT Z Z ((Blk.ext (cs:=pC b) n jG).row) (aT Z Z ((Blk.ext (cs:=pC d) q jG).row) (L.o (ay (xs:=[.tmp 110,.tmp 111,.tmp 112]) call254 Z Z (dQ a b d x ha hb u) (fun v21 z f=>?_))))))
   obtain ⟨EU,jv⟩:=f
   rcases i:decide (onE a b d) with _|_
   ·rw [i] at EU
    subst EU
    have A:¬ onE a b d:=of_decide_eq_false i
    refine aI Z (L.m Z (aT Z Z ((Blk.ext (cs:=pC c) p (jG.trans jv)).row) (aT Z Z ((Blk.ext (cs:=pC d) q (jG.trans jv)).row) (aT Z Z ((Blk.ext (cs:=pC a) l (jG.trans jv)).row) (L.o (ay (xs:=[.tmp 116,.tmp 117,.tmp 118]) call254 Z Z (dQ c d a z t u ha) (fun N C f=>?_)))))))
    obtain ⟨uO,qF⟩:=f
    rcases j:decide (onE c d a) with _|_
    ·rw [j] at uO
     subst uO
     have D:¬ onE c d a:=of_decide_eq_false j
     refine aI Z (L.m Z (aT Z Z ((Blk.ext (cs:=pC c) p ((jG.trans jv).trans qF)).row) (aT Z Z ((Blk.ext (cs:=pC d) q ((jG.trans jv).trans qF)).row) (aT Z Z ((Blk.ext (cs:=pC b) n ((jG.trans jv).trans qF)).row) (L.o (ay (xs:=[.tmp 122,.tmp 123,.tmp 124]) call254 Z Z (dQ c d b C t u hb) (fun O P f=>?_)))))))
     obtain ⟨zJ,Gm⟩:=f
     rcases k:decide (onE c d b) with _|_
     ·rw [k] at zJ
      subst zJ
      have E:¬ onE c d b:=of_decide_eq_false k
      refine aI Z (aU (T.skip (au (ah Z (aB results252 Z ⟨by rw [Zw e (fun h=>x2 h.2) (by rintro (h|h|h|h);exact y h;exact A h;exact D h;exact E h)],vF.trans (((jG.trans jv).trans qF).trans Gm)⟩)))))
     rw [k] at zJ
     subst zJ
     refine aI Z (aW (au (ah Z (aB results252 Z ⟨by rw [vT e (fun h=>x2 h.2) (.inr (.inr (.inr (of_decide_eq_true k))))],vF.trans (((jG.trans jv).trans qF).trans Gm)⟩))))
    rw [j] at uO
    subst uO
    refine aI Z (L.m Z (L.pp (L.pp (aG Z (aW (au (ah Z (aB results252 Z ⟨by rw [vT e (fun h=>x2 h.2) (.inr (.inr (.inl (of_decide_eq_true j))))],vF.trans ((jG.trans jv).trans qF)⟩))))))))
   rw [i] at EU
   subst EU
   refine aI Z (L.m Z (L.pp (L.pp (aG Z (L.m Z (L.pp (L.pp (aG Z (aW (au (ah Z (aB results252 Z ⟨by rw [vT e (fun h=>x2 h.2) (.inr (.inl (of_decide_eq_true i)))],vF.trans (jG.trans jv)⟩))))))))))))
  rw [g] at xB
  subst xB
  refine L.m Z (L.pp (L.pp (aG Z (L.m Z (L.pp (L.pp (aG Z (L.m Z (L.pp (L.pp (aG Z (aW (au (ah Z (?_)))))))))))))))
  refine aB results252 Z ⟨by rw [vT e (fun h=>x2 h.2) (.inl (of_decide_eq_true g))],vF.trans jG⟩
 refine L.m Z (L.pp (L.pp (aI Z (aU (T.skip (aj (au (aT Z Z l.row (aT Z Z n.row (aT Z Z p.row (L.o (ay (xs:=[.tmp 105,.tmp 106,.tmp 107]) call254 Z Z (dQ a b c H ha hb t) (fun v20 x f=>?_)))))))))))))
 obtain ⟨xB,jG⟩:=f
 rcases g:decide (onE a b c) with _|_
 ·rw [g] at xB
  subst xB
  have y:¬ onE a b c:=of_decide_eq_false g
  refine L.m Z (aT Z Z ((Blk.ext (cs:=pC a) l jG).row) (aT Z Z ((Blk.ext (cs:=pC b) n jG).row) (aT Z Z ((Blk.ext (cs:=pC d) q jG).row) (L.o (ay (xs:=[.tmp 110,.tmp 111,.tmp 112]) call254 Z Z (dQ a b d x ha hb u) (fun v21 z f=>?_))))))
  obtain ⟨EU,jv⟩:=f
  rcases i:decide (onE a b d) with _|_
  ·rw [i] at EU
   subst EU
   have A:¬ onE a b d:=of_decide_eq_false i
   refine aI Z (L.m Z (aT Z Z ((Blk.ext (cs:=pC c) p (jG.trans jv)).row) (aT Z Z ((Blk.ext (cs:=pC d) q (jG.trans jv)).row) (aT Z Z ((Blk.ext (cs:=pC a) l (jG.trans jv)).row) (L.o (ay (xs:=[.tmp 116,.tmp 117,.tmp 118]) call254 Z Z (dQ c d a z t u ha) (fun N C f=>?_)))))))
   obtain ⟨uO,qF⟩:=f
   rcases j:decide (onE c d a) with _|_
   ·rw [j] at uO
    subst uO
    have D:¬ onE c d a:=of_decide_eq_false j
    refine aI Z (L.m Z (aT Z Z ((Blk.ext (cs:=pC c) p ((jG.trans jv).trans qF)).row) (aT Z Z ((Blk.ext (cs:=pC d) q ((jG.trans jv).trans qF)).row) (aT Z Z ((Blk.ext (cs:=pC b) n ((jG.trans jv).trans qF)).row) (L.o (ay (xs:=[.tmp 122,.tmp 123,.tmp 124]) call254 Z Z (dQ c d b C t u hb) (fun O P f=>?_)))))))
    obtain ⟨zJ,Gm⟩:=f
    rcases k:decide (onE c d b) with _|_
    ·rw [k] at zJ
     subst zJ
     have E:¬ onE c d b:=of_decide_eq_false k
     refine aI Z (aU (T.skip (au (ah Z (aB results252 Z ⟨by rw [Zw e (fun h=>x1 h.1) (by rintro (h|h|h|h);exact y h;exact A h;exact D h;exact E h)],vF.trans (((jG.trans jv).trans qF).trans Gm)⟩)))))
    rw [k] at zJ
    subst zJ
    refine aI Z (aW (au (ah Z (aB results252 Z ⟨by rw [vT e (fun h=>x1 h.1) (.inr (.inr (.inr (of_decide_eq_true k))))],vF.trans (((jG.trans jv).trans qF).trans Gm)⟩))))
   rw [j] at uO
   subst uO
   refine aI Z (L.m Z (L.pp (L.pp (aG Z (aW (au (ah Z (aB results252 Z ⟨by rw [vT e (fun h=>x1 h.1) (.inr (.inr (.inl (of_decide_eq_true j))))],vF.trans ((jG.trans jv).trans qF)⟩))))))))
  rw [i] at EU
  subst EU
  refine aI Z (L.m Z (L.pp (L.pp (aG Z (L.m Z (L.pp (L.pp (aG Z (aW (au (ah Z (aB results252 Z ⟨by rw [vT e (fun h=>x1 h.1) (.inr (.inl (of_decide_eq_true i)))],vF.trans (jG.trans jv)⟩))))))))))))
 rw [g] at xB
 subst xB
 refine L.m Z (L.pp (L.pp (aG Z (L.m Z (L.pp (L.pp (aG Z (L.m Z (L.pp (L.pp (aG Z (aW (au (ah Z (?_)))))))))))))))
 refine aB results252 Z ⟨by rw [vT e (fun h=>x1 h.1) (.inl (of_decide_eq_true g))],vF.trans jG⟩
open Geo (UZ wR lN)
theorem PtB.ste {base:Nat} : ∀ v w w',Ext w w'→PtB base v w→PtB base v w':=fun v w w' h ⟨b,c,a,d,e⟩=>⟨b,c,a,d,Blk.ext (cs:=pC c) e h⟩
theorem RH {r:List Pt} (h:∀ k,k<r.length→¬ onE (rA r k) (rB r k) p):lN r p=if wR r p r.length=true then 2 else 0:=by
 unfold Geo.lN;rw [if_neg (by rintro ⟨i,hi,ho⟩;exact h i hi ho)]
theorem WR {r:List Pt} {i:Nat} (hi:i<r.length) (h:onE (rA r i) (rB r i) p):lN r p=1:=by
 unfold Geo.lN;rw [if_pos ⟨i,hi,h⟩]
theorem afn (h:(decide (a.2 > p.2) != decide (b.2 > p.2))=false):UZ a b p=false:=by
 have h:(decide (p.2<a.2) != decide (p.2<b.2))=false:=h
 unfold Geo.UZ;rw [h,Bool.false_and]
theorem abg (h:(decide (a.2 > p.2) != decide (b.2 > p.2))=true):UZ a b p=(decide (dA a b p > 0) == decide (b.2 > a.2)):=by
 have h:(decide (p.2<a.2) != decide (p.2<b.2))=true:=h
 unfold Geo.UZ;rw [h,Bool.true_and]
theorem Jh (lo:Nat) (q:Value) (r:List Pt) (w:World) (n:Pts lo w q r) (hn:NmL r) (p:r.length≤1000000) :
  Calls Tryz.prog 251 #[q] w (Ret fun v w'=>v = .int .i64 (jd r r.length)∧Ext w w'):=by
 refine aJ (vs:=[q]) func251 Z ntmps251 Z ?_
 refine au (ah Z (au (ah Z (aj (au (ah Z (T.block (?_))))))))
 refine bf (σ:=Nat) (fun i=>[(0,q),(3,.int .i64 (jd r i)),(4,.int .i64 i)]) (fun i w'=>i≤r.length∧Ext w w') (fun i=>r.length-i) (0) ⟨rfl,rfl,rfl,trivial⟩ ⟨Nat.zero_le _,Keep.refl _ _⟩ ?_
 rintro i w1 ⟨hi,k⟩
 have j:=n.ext k
 refine aj (au (aN Z Z (L.le Z (Sl.val j) (bH Z Z (fun u=>?_) (fun u=>?_)))))
 ·refine ak (?_)
  have d:i<r.length:=by omega
  have a:Nm (rA r i):=hn i d
  have b:Nm (rB r i):=hn _ (Nat.mod_lt _ omX)
  unfold Nm at a b
  have m1:=Gt (x:=(rA r i).1) (y:=(rB r i).2) ⟨a.1,b.2⟩
  have m2:=Gt (x:=(rA r i).2) (y:=(rB r i).1) ⟨a.2,b.1⟩
  have M:=IU hn i hi
  refine aZ (T.skip (aj (T.block (aj (?_)))))
  refine mM mixed 10 0 [0,4] Z [.is _,.is _,.is _,.is _,.is _,.is _,.is (.int .i64 ((i+1:Nat):Int)),.is (pV (rB r i)),.such (PtB w1.heap.size),.such (PtB w1.heap.size)] [[],[],[0,1],[2],[],[],[5],[4,6],[],[]] [none,none,none,none,none,none,none,none,none,none] [[],[],[0,1],[0,1,2],[],[],[5],[4,5,6],[],[],[0,1,2,3,4,5,6,7,8,9],[0,1,2,3,4,5,6,7,8,9,10]] [8,9] [] (fun _ _ _ _ _=>True) (fun _ W=>Ext w1 W) (Ext) (fun i f v w hi hf N=>by { rcases (show i=8∨i=9 by simpa using hi) with rfl|rfl <;> (simp only [List.getElem?_cons_succ,List.getElem?_cons_zero,Option.some.injEq] at hf;subst hf;exact PtB.lt N) }) (fun _ _ _ _ _ _ _ _=>trivial) krX krX krX krX rfl ⟨PtB.ste,PtB.ste,trivial⟩ (Keep.drew _ _) ⟨fun c g hx=>ObX.op rfl (O.move Z ⟨⟨Keep.refl _ _,hx⟩,rfl,trivial,trivial⟩),
    fun c g hx=>ObX.op Z (O.move Z ⟨⟨Keep.refl _ _,hx⟩,rfl,trivial,trivial⟩),
    fun c g hx=>ObX.op Z (ig Z Z (j.ext hx) omX omX ⟨⟨Keep.refl _ _,hx⟩,rfl,trivial,trivial⟩),
    fun c g hx=>ObX.op Z (jC Z Z ((j.ext hx).row d) ⟨⟨Keep.refl _ _,hx⟩,rfl,trivial,trivial⟩),
    fun c g hx=>ObX.op Z (O.move Z ⟨⟨Keep.refl _ _,hx⟩,rfl,trivial,trivial⟩),
    fun c g hx=>ObX.op Z (O.move Z ⟨⟨Keep.refl _ _,hx⟩,rfl,trivial,trivial⟩),
    fun c g hx=>ObX.op Z (bG Z Z omX (y5 ⟨⟨Keep.refl _ _,hx⟩,rfl⟩ ⟨trivial,trivial⟩)),
    fun c g hx=>ObX.op Z (ay (xs:=[.tmp 17,.tmp 19]) call253 Z Z (pG lo q r (i+1) g (j.ext hx) omX p omX) (fun v wy h=>y5 ⟨⟨h.2,hx.trans h.2⟩,h.1⟩ ⟨trivial,trivial⟩)),
    fun c g hx=>ObX.op Z (O.alloc zeroValue124 (fun b wy hb P s hB=>y5 ⟨⟨s,hx.trans s⟩,b,(0,0),rfl,by have:=hx.size;omega,hB⟩ ⟨fun q n=>by { cases n;exact Nat.le_of_eq hb.symm },trivial⟩)),
    fun c g hx=>ObX.op Z (O.alloc zeroValue124 (fun b wy hb P s hB=>y5 ⟨⟨s,hx.trans s⟩,b,(0,0),rfl,by have:=hx.size;omega,hB⟩ ⟨fun q n=>by { cases n;exact Nat.le_of_eq hb.symm },trivial⟩)),
    trivial⟩ (fun w7 z v5 A R B C=>?_)
  obtain ⟨vj,D,E,_⟩:=C 8 9 _ _ _ _ dcX dcX rfl rfl rfl rfl
  obtain rfl:=D _ _ rfl rfl
  obtain ⟨b5,c5,rfl,F,G⟩:=A
  obtain ⟨K,c6,rfl,H,I⟩:=B
  have t:b5≠K:=fun e=>E b5 rfl (by rw [e];rfl)
  refine L.o (aK sizeOf124 Z Z Z G leX (gu (rA r i)) (fun Q Ua WS=>?_))
  have J:=Blk.upd (cs:=pC c6) I Ua (Ne.symm t)
  refine L.o (aK sizeOf124 Z Z Z J leX (gu (rB r i)) (fun l ML WT=>?_))
  have hA:Blk l b5 (pC (rA r i)) 124:=Blk.upd (cs:=pC (rA r i)) WS ML t
  have hB:Blk l K (pC (rB r i)) 124:=WT
  have Ji:Ext w1 l:=(z.upd Ua (.inr F)).upd ML (.inr H)
  refine ak (aA (L.m Z (aC Z (hA.cell Z) (aC Z (hB.cell Z) (L.o (dN Z Z omX (bF Z Z (aC Z (hA.cell Z) (aC Z (hB.cell Z) (L.o (dN Z Z omX (L.o (dh Z Z omX (ah Z (T.blk (aA (L.m Z (bF Z Z (ah Z (aP (i+1) omX ⟨rfl,?_,rfl,trivial⟩ ⟨d,k.trans Ji⟩))))))))))))))))))))
  ·show _=some (Value.int .i64 (jd r (i+1)));rw [jd,← Int.add_sub_assoc];rfl
 refine ak (?_)
 obtain rfl:i=r.length:=by omega
 refine bn (aY Z (aQ Z (ah Z (aB results251 Z ⟨rfl,k⟩))))
set_option maxHeartbeats 2000000 in
theorem AA (lo:Nat) (q:Value) (r:List Pt) (p:Pt) (w:World) (x:Pts lo w q r) (hn:NrL r) (hp:Nr p) (y:r.length≤1000000) :
  Calls Tryz.prog 223 #[q,pV p] w (Ret fun v w'=>v = .int .i64 (lN r p)∧Ext w w'):=by
 refine aJ (vs:=[q,pV p]) func223 Z ntmps223 Z ?_
 refine au (bM Z (fun b3 w3 aa ab n hB3=>?_))
 have F:Blk w3 b3 (pC p) 124:=hB3
 have G:=x.ext n
 refine ah Z (au (ah Z (aj (au (ah Z (T.block (?_)))))))
 refine bf (σ:=Nat) (fun i=>[(0,q),(3,.pointer (some ⟨b3,0,none⟩)),(5,.bool (wR r p i)),(6,.int .i64 i)]) (fun i w'=>i≤r.length∧Ext w3 w'∧∀ k,k<i→¬ onE (rA r k) (rB r k) p) (fun i=>r.length-i) (0) ⟨rfl,rfl,rfl,rfl,trivial⟩ ⟨Nat.zero_le _,Keep.refl _ _,fun k hk=>absurd hk (Nat.not_lt_zero _)⟩ ?_
 rintro i E ⟨hi,j,l⟩
 have s:=G.ext j
 refine aj (au (aN Z Z (L.le Z (Sl.val s) (bH Z Z (fun H=>?_) (fun H=>?_)))))
 ·refine ak (?_)
  have d:i<r.length:=by omega
  have na:Nr (rA r i):=hn i d
  have nb:Nr (rB r i):=hn _ (Nat.mod_lt _ omX)
  refine aZ (T.skip (aj (T.block (aj (?_)))))
  refine mM mixed 10 0 [0,6] Z [.is _,.is _,.is _,.is _,.is _,.is _,.is (.int .i64 ((i+1:Nat):Int)),.is (pV (rB r i)),.such (PtB E.heap.size),.such (PtB E.heap.size)] [[],[],[0,1],[2],[],[],[5],[4,6],[],[]] [none,none,none,none,none,none,none,none,none,none] [[],[],[0,1],[0,1,2],[],[],[5],[4,5,6],[],[],[0,1,2,3,4,5,6,7,8,9],[0,1,2,3,4,5,6,7,8,9,10]] [8,9] [] (fun _ _ _ _ _=>True) (fun _ W=>Ext E W) (Ext) (fun i f v w hi hf hh=>by { rcases (show i=8∨i=9 by simpa using hi) with rfl|rfl <;> (simp only [List.getElem?_cons_succ,List.getElem?_cons_zero,Option.some.injEq] at hf;subst hf;exact PtB.lt hh) }) (fun _ _ _ _ _ _ _ _=>trivial) krX krX krX krX rfl ⟨PtB.ste,PtB.ste,trivial⟩ (Keep.drew _ _) ⟨fun c a hx=>ObX.op rfl (O.move Z ⟨⟨Keep.refl _ _,hx⟩,rfl,trivial,trivial⟩),
    fun c a hx=>ObX.op Z (O.move Z ⟨⟨Keep.refl _ _,hx⟩,rfl,trivial,trivial⟩),
    fun c a hx=>ObX.op Z (ig Z Z (s.ext hx) omX omX ⟨⟨Keep.refl _ _,hx⟩,rfl,trivial,trivial⟩),
    fun c a hx=>ObX.op Z (jC Z Z ((s.ext hx).row d) ⟨⟨Keep.refl _ _,hx⟩,rfl,trivial,trivial⟩),
    fun c a hx=>ObX.op Z (O.move Z ⟨⟨Keep.refl _ _,hx⟩,rfl,trivial,trivial⟩),
    fun c a hx=>ObX.op Z (O.move Z ⟨⟨Keep.refl _ _,hx⟩,rfl,trivial,trivial⟩),
    fun c a hx=>ObX.op Z (bG Z Z omX (y5 ⟨⟨Keep.refl _ _,hx⟩,rfl⟩ ⟨trivial,trivial⟩)),
    fun c a hx=>ObX.op Z (ay (xs:=[.tmp 19,.tmp 21]) call253 Z Z (pG lo q r (i+1) a (s.ext hx) omX y omX) (fun v wy h=>y5 ⟨⟨h.2,hx.trans h.2⟩,h.1⟩ ⟨trivial,trivial⟩)),
    fun c a hx=>ObX.op Z (O.alloc zeroValue124 (fun b wy hb hz z hB=>y5 ⟨⟨z,hx.trans z⟩,b,(0,0),rfl,by have:=hx.size;omega,hB⟩ ⟨fun q x=>by { cases x;exact Nat.le_of_eq hb.symm },trivial⟩)),
    fun c a hx=>ObX.op Z (O.alloc zeroValue124 (fun b wy hb hz z hB=>y5 ⟨⟨z,hx.trans z⟩,b,(0,0),rfl,by have:=hx.size;omega,hB⟩ ⟨fun q x=>by { cases x;exact Nat.le_of_eq hb.symm },trivial⟩)),
    trivial⟩ (fun w7 I v7 J v8 K M=>?_)
  obtain ⟨vj,N,P,_⟩:=M 8 9 _ _ _ _ dcX dcX rfl rfl rfl rfl
  obtain rfl:=N _ _ rfl rfl
  obtain ⟨b5,c5,rfl,Q,R⟩:=J
  obtain ⟨b6,c6,rfl,S,U⟩:=K
  have A:b5≠b6:=fun e=>P b5 rfl (by rw [e];rfl)
  refine L.o (aK sizeOf124 Z Z Z R leX (gu (rA r i)) (fun ac Ua WS=>?_))
  have V:=Blk.upd (cs:=pC c6) U Ua (Ne.symm A)
  refine L.o (aK sizeOf124 Z Z Z V leX (gu (rB r i)) (fun t ML WT=>?_))
  have hA:Blk t b5 (pC (rA r i)) 124:=Blk.upd (cs:=pC (rA r i)) WS ML A
  have hB:Blk t b6 (pC (rB r i)) 124:=WT
  have Ji:Ext E t:=(I.upd Ua (.inr Q)).upd ML (.inr S)
  have hP:=Blk.ext (cs:=pC p) F (j.trans Ji)
  refine ak (aj (au (aT Z Z hA.row (aT Z Z hB.row (aT Z Z hP.row (L.o (ay (xs:=[.tmp 23,.tmp 24,.tmp 25]) call254 Z Z (dQ (rA r i) (rB r i) p t na nb hp) (fun ad ae x=>?_))))))))
  obtain ⟨aho,abh⟩:=x
  have hA:=Blk.ext (cs:=pC (rA r i)) hA abh
  have hB:=Blk.ext (cs:=pC (rB r i)) hB abh
  have hP:=Blk.ext (cs:=pC p) hP abh
  have Zx:=j.trans (Ji.trans abh)
  rcases ho:decide (onE (rA r i) (rB r i) p) with _|_
  ·refine ak (?_)
   rw [ho] at aho
   subst aho
   have X:=of_decide_eq_false ho
   have g:∀ k,k<i+1→¬ onE (rA r k) (rB r k) p:=fun k hk=>by
    by_cases e:k=i
    ·subst e;exact X
    exact l k omX
   rcases B:(decide ((rA r i).2 > p.2) != decide ((rB r i).2 > p.2)) with _|_
   ·refine bn (T.skip (aj (?_)))
    refine dn mixed 22 [7,3,8] Z [.is _,.is _,.is _,.is _,.is _,.is _,.is _,.is _,.is _,.is _,.is (.bool false),.is (.bool false),.is undef,.is undef,.is undef,.is undef,.is undef,.is undef,.is undef,.is undef,.is undef,.is undef] [[],[0],[],[2],[1,3],[],[5],[],[7],[6,8],[4,9],[10],[11],[11],[11],[12,13,14,11],[15,11],[11],[17,11],[11],[19,11],[18,20,11]] trivial ⟨fun a hx=>Ob.fa rfl,
      fun a hx=>aS rfl ((Blk.ext (cs:=pC (rA r i)) hA hx).cell rfl),
      fun a hx=>Ob.fa rfl,
      fun a hx=>aS rfl ((Blk.ext (cs:=pC p) hP hx).cell rfl),
      fun a hx=>Ob.o (kG Z Z kR),
      fun a hx=>Ob.fa rfl,
      fun a hx=>aS rfl ((Blk.ext (cs:=pC (rB r i)) hB hx).cell rfl),
      fun a hx=>Ob.fa rfl,
      fun a hx=>aS rfl ((Blk.ext (cs:=pC p) hP hx).cell rfl),
      fun a hx=>Ob.o (kG Z Z kR),
      fun a hx=>Ob.o (jT runUnderlying4 Z Z ⟨Keep.refl _ _,congrArg Value.bool B⟩),
      fun a hx=>aF rfl,
      fun a hx=>aV rfl rfl,
      fun a hx=>aV rfl rfl,
      fun a hx=>aV rfl rfl,
      fun a hx=>aV rfl rfl,
      fun a hx=>aV rfl rfl,
      fun a hx=>aV rfl rfl,
      fun a hx=>aV rfl rfl,
      fun a hx=>aV rfl rfl,
      fun a hx=>aV rfl rfl,
      fun a hx=>aV rfl rfl,
      trivial⟩ (fun w9 u=>?_)
    have Y:UZ (rA r i) (rB r i) p=false:=afn B
    refine L.p (aI Z (aU (T.skip (T.blk (aA (L.m Z (bF Z Z (ah Z (aP (i+1) omX ⟨rfl,rfl,?_,rfl,trivial⟩ ⟨d,Zx.trans u,g⟩)))))))))
    ·rw [wR,Y,Bool.xor_false];rfl
   refine bn (T.skip (aj (?_)))
   refine dn mixed 22 [7,3,8] Z [.is _,.is _,.is _,.is _,.is _,.is _,.is _,.is _,.is _,.is _,.is (.bool true),.is (.bool true),.is _,.is _,.is _,.is (.int .i64 (dA (rA r i) (rB r i) p)),.is _,.is _,.is _,.is _,.is _,.is _] [[],[0],[],[2],[1,3],[],[5],[],[7],[6,8],[4,9],[10],[11],[11],[11],[12,13,14,11],[15,11],[11],[17,11],[11],[19,11],[18,20,11]] trivial ⟨fun a hx=>Ob.fa rfl,
     fun a hx=>aS rfl ((Blk.ext (cs:=pC (rA r i)) hA hx).cell rfl),
     fun a hx=>Ob.fa rfl,
     fun a hx=>aS rfl ((Blk.ext (cs:=pC p) hP hx).cell rfl),
     fun a hx=>Ob.o (kG Z Z kR),
     fun a hx=>Ob.fa rfl,
     fun a hx=>aS rfl ((Blk.ext (cs:=pC (rB r i)) hB hx).cell rfl),
     fun a hx=>Ob.fa rfl,
     fun a hx=>aS rfl ((Blk.ext (cs:=pC p) hP hx).cell rfl),
     fun a hx=>Ob.o (kG Z Z kR),
     fun a hx=>Ob.o (jT runUnderlying4 Z Z ⟨Keep.refl _ _,congrArg Value.bool B⟩),
     fun a hx=>aF rfl,
     fun a hx=>bJ rfl rfl ((Blk.ext (cs:=pC (rA r i)) hA hx).row),
     fun a hx=>bJ rfl rfl ((Blk.ext (cs:=pC (rB r i)) hB hx).row),
     fun a hx=>bJ rfl rfl ((Blk.ext (cs:=pC p) hP hx).row),
     fun a hx=>Ob.o (ay (xs:=[.tmp 39,.tmp 40,.tmp 41]) call255 Z Z (kM (rA r i) (rB r i) p a na nb hp) (fun v wy h=>⟨h.2,h.1⟩)),
     fun a hx=>Ob.o (kG Z Z kR),
     fun a hx=>Ob.fa rfl,
     fun a hx=>aS rfl ((Blk.ext (cs:=pC (rB r i)) hB hx).cell rfl),
     fun a hx=>Ob.fa rfl,
     fun a hx=>aS rfl ((Blk.ext (cs:=pC (rA r i)) hA hx).cell rfl),
     fun a hx=>Ob.o (kG Z Z kR),
     trivial⟩ (fun w9 u=>?_)
   refine L.o (ou runUnderlying4 Z Z (?_))
   rcases C:(decide (dA (rA r i) (rB r i) p > 0) == decide ((rB r i).2 > (rA r i).2)) with _|_
   ·refine aG Z (aU (T.skip (T.blk (aA (L.m Z (bF Z Z (ah Z (aP (i+1) omX ⟨rfl,rfl,?_,rfl,trivial⟩ ⟨d,Zx.trans u,g⟩))))))))
    ·rw [wR,(abg B).trans C,Bool.xor_false];rfl
   refine aG Z (aW (aA (L.m Z (bT Z (ah Z (T.blk (aA (L.m Z (bF Z Z (ah Z (aP (i+1) omX ⟨rfl,rfl,?_,rfl,trivial⟩ ⟨d,Zx.trans u,g⟩)))))))))))
   ·rw [wR,(abg B).trans C,Bool.xor_true];rfl
  refine ak (?_)
  rw [ho] at aho
  subst aho
  refine aZ (au (ah Z (aB results223 Z ⟨by rw [WR d (of_decide_eq_true ho)],n.trans Zx⟩)))
 refine ak (?_)
 obtain rfl:i=r.length:=by omega
 rcases D:wR r p r.length with _|_
 ·refine bn (aY Z (aj (aQ Z (aU (T.skip (au (ah Z (aB results223 Z ⟨by rw [RH l,D];rfl,n.trans j⟩))))))))
 refine bn (aY Z (aj (aQ Z (aW (au (ah Z (aB results223 Z ⟨by rw [RH l,D];rfl,n.trans j⟩)))))))
end Go.Proofs.YtnlonpcbgjbbaaaGreatDoor
