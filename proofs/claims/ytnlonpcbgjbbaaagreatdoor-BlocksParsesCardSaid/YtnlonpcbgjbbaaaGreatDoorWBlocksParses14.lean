/-
  BlocksParses, part 14 of its proof: that it returns true for every input, and each argument reads behind the call as it read before. Conditions: the listed variables read as the program's text lays them (tied by the card).
-/
import Derived.Test.YtnlonpcbgjbbaaaGreatDoorWBlocksParses13
import Derived.Test.YtnlonpcbgjbbaaaGreatDoorWBlocksParses3
set_option linter.unusedVariables false
set_option linter.unusedSimpArgs false
set_option maxRecDepth 20000
namespace Go.Proofs.YtnlonpcbgjbbaaaGreatDoor
open Go.Proofs.Tryz
open Go Go.E
attribute [local irreducible] Go.E.T Go.E.L Go.E.O Go.E.Ob
attribute [local irreducible] Go.E.ObX
variable {σ:BD} {base i:Nat} {w w0:World}
theorem Jj (lo:Nat) (oa ob:Option Addr) (cap cap2:Nat) (os:List Int) (hs:List RiV) (w:World) (hf:FaV.ok lo w (⟨⟨.slice oa os.length cap,os⟩,.slice ob hs.length cap2,hs⟩:FaV)) (hn:hs.length≤100000) :
  Calls Tryz.prog 131 #[(⟨⟨.slice oa os.length cap,os⟩,.slice ob hs.length cap2,hs⟩:FaV).val] w (Ret fun v w'=>Ext w w'∧Sl w.heap.size w' v (⟨⟨.slice oa os.length cap,os⟩,.slice ob hs.length cap2,hs⟩:FaV).ri.length 1 (dw (⟨⟨.slice oa os.length cap,os⟩,.slice ob hs.length cap2,hs⟩:FaV).ri)∧w'.ownsRow w.heap.size 30 1 v (⟨⟨.slice oa os.length cap,os⟩,.slice ob hs.length cap2,hs⟩:FaV).ri.length (dw (⟨⟨.slice oa os.length cap,os⟩,.slice ob hs.length cap2,hs⟩:FaV).ri)):=by
 refine aJ (vs:=[(⟨⟨.slice oa os.length cap,os⟩,.slice ob hs.length cap2,hs⟩:FaV).val]) func131 Z ntmps131 Z ?_
 refine au (bM Z (fun b1 w1 i j a hB1=>?_))
 have hF1:Blk w1 b1 (⟨⟨.slice oa os.length cap,os⟩,.slice ob hs.length cap2,hs⟩:FaV).cells 127:=hB1
 have f:=hf.ext a
 refine ah Z (au (aC Z (hF1.cell Z) (L.o (aH (el:=30) (parts:=[(0,.tmp 4)]) (vs:=[(0,_)]) (cs:=[(.slice oa os.length cap)]) Z (fun w=>by kernel_rfl) (fun b2 k l m b hB2=>?_)))))
 refine aC Z ((Blk.ext (cs:=(⟨⟨.slice oa os.length cap,os⟩,.slice ob hs.length cap2,hs⟩:FaV).cells) hF1 b).cell Z) (?_)
 have d:=f.ext b
 have hO2:=pY (base:=w.heap.size) (n:=1) (sz:=1) (cap:=1) hB2 (by have:=a.size;omega) dcX dcX rfl
 have p:(dw hs).length=hs.length:=by simp [dw]
 have g:∀ c∈dw hs,c.oneCell'=true:=fun c h=>by simp only [dw,List.mem_map] at h;obtain ⟨x,hx,rfl⟩:=h;exact Sl.one (d.hs x hx)
 have hS2:Sl lo k (.slice ob hs.length cap2) hs.length 1 (dw hs):=d.sl
 refine L.o (dJ (size:=1) (bytes:=24) runUnderlying125 Tryz.rH Z Z Z Z dcX rfl rfl hO2 hS2 g omX (by simp only [maxLen];omega) (by have:=a.size;have:=b.size;omega) (fun v3 q hO3 hG3=>?_))
 refine ah Z (aB results131 Z ⟨(a.trans b).jg hO2 hG3 leX,?_⟩)
 have e:1+hs.length=hs.length+1:=Nat.add_comm _ _
 rw [e] at hO3
 exact ⟨Sl.dD hO3,hO3⟩
theorem jm (lo:Nat) (f:FaV) (w:World) (hf:f.ok lo w) (hn:f.hs.length≤100000) :
  Calls Tryz.prog 131 #[f.val] w (Ret fun v w'=>Ext w w'∧Sl w.heap.size w' v f.ri.length 1 (dw f.ri)∧w'.ownsRow w.heap.size 30 1 v f.ri.length (dw f.ri)):=by
 obtain ⟨⟨ov,os⟩,hv,hs⟩:=f
 obtain ⟨oa,cap,e1,_,_⟩:=Sl.val hf.o
 replace e1:ov = .slice oa os.length cap:=e1
 obtain ⟨ob,cap2,a,_,_⟩:=Sl.val hf.sl
 replace a:hv = .slice ob hs.length cap2:=a
 subst e1 a
 exact Jj lo oa ob cap cap2 os hs w hf hn
theorem oJ (lo lo2:Nat) (c:CxV) (q:Value) (l:List Int) (t:Int) (w:World) (V:Pts lo w c.pv c.ps) (W:Ints .i64 lo2 w q l) (hf:NfL c.ps) (Q:t=1∨t=2) (X:IxL c.ps.length l) (R:l.length≤1000000) :
  Calls Tryz.prog 224 #[c.val,q,.int .i64 t] w (Ret fun v w'=>Ext w w'∧Pts w.heap.size w' v (cor c.ps t l)):=by
 refine aJ (vs:=[c.val,q,.int .i64 t]) func224 Z ntmps224 Z ?_
 refine au (bM Z (fun b3 u Y aa e hB3=>?_))
 have x:Blk u b3 c.cells 46:=hB3
 have y:=V.ext e
 have z:=W.ext e
 refine ah Z (au (ah Z (aj (au (ah Z (T.block (?_)))))))
 refine bf (σ:=Nat × Value) (fun s=>[(1,q),(2,.int .i64 t),(3,.pointer (some ⟨b3,0,none⟩)),(7,s.2),(8,.int .i64 s.1)]) (fun s w'=>s.1≤l.length∧Ext u w'∧w'.ownsRow u.heap.size 124 2 s.2 s.1 (pcs (cor c.ps t (l.take s.1)))) (fun s=>l.length-s.1) ((0,.slice none 0 0)) ⟨rfl,rfl,rfl,rfl,rfl,trivial⟩ ⟨Nat.zero_le _,Keep.refl _ _,iF _ _ _ _⟩ ?_
 rintro ⟨i,s⟩ A ⟨hi,d,hO4⟩
 simp only at hi hO4
 have g:=z.ext d
 have n:=y.ext d
 have B:=Blk.ext (cs:=c.cells) x d
 refine aj (au (aN Z Z (L.le Z (Sl.val g) (bH Z Z (fun j=>?_) (fun j=>?_)))))
 ·refine ak (?_)
  have a:i<l.length:=by simp only at j;omega
  have ab:=X i a
  obtain ⟨k,S⟩:∃ k:Nat,l.getD i 0=k:=⟨(l.getD i 0).toNat,omX⟩
  have p:k<c.ps.length:=by omega
  have hb:=mW (hf k p)
  have ac:=qP Q hb.1
  have ad:=qP Q hb.2
  have C:Dl c.ps t (l.getD i 0)=(t*(c.ps.getD k (0,0)).1,t*(c.ps.getD k (0,0)).2):=by rw [S];rfl
  refine aZ (T.skip (aj (T.block (aj (?_)))))
  refine dn mixed 9 [3,1,8] Z [.is _,.is _,.is _,.is _,.is _,.is (.int .i64 (k:Int)),.is _,.is _,.such (PtB A.heap.size)] [[],[0],[],[],[2,3],[4],[1,5],[6],[]] ⟨PtB.ste,trivial⟩ ⟨fun f hx=>Ob.fa rfl,
    fun f hx=>aS rfl ((Blk.ext (cs:=c.cells) B hx).cell rfl),
    fun f hx=>aF rfl,
    fun f hx=>aF rfl,
    fun f hx=>qc rfl rfl (g.ext hx) (by (try dsimp only);omega) (by (try dsimp only);omega),
    fun f hx=>Ob.o (dR Z (Ints.at (g.ext hx) a) ⟨Keep.refl _ _,by rw [S];rfl⟩),
    fun f hx=>bQ rfl rfl (n.ext hx),
    fun f hx=>bJ rfl rfl ((n.ext hx).row p),
    fun f hx=>Ob.o (O.alloc zeroValue124 (fun b wy hb hz he hB=>⟨he,b,(0,0),rfl,by have:=hx.size;omega,hB⟩)),
    trivial⟩ (fun w5 D v9 E=>?_)
  obtain ⟨b5,c5,rfl,F,G⟩:=E
  refine L.o (aK sizeOf124 Z Z Z G leX (gu (c.ps.getD k (0,0))) (fun U H I=>?_))
  have r:Blk U b5 (pC (c.ps.getD k (0,0))) 124:=I
  have Ap:Ext A U:=D.upd H (.inr F)
  refine ak (aA (aN Z Z (aC Z (r.cell Z) (L.o (dN Z Z omX (L.m Z (aC Z (r.cell Z) (L.o (dN Z Z omX (L.o (bU (v:=pV (Dl c.ps t (l.getD i 0))) (parts:=[(0,.tmp 28),(1,.tmp 32)]) (vs:=[(0,_),(1,_)]) Z (fun w=>by rw [C];show _=_;kernel_rfl) (L.o (aH (el:=124) (parts:=[(0,.tmp 33)]) (vs:=[(0,_)]) (cs:=(pC (Dl c.ps t (l.getD i 0)))) Z (fun w=>by kernel_rfl) (fun b7 w7 ae af J K=>?_))))))))))))))
  have abj:Ext A w7:=Ap.trans J
  have amn:=cO hO4 abj lzX
  have M:Sl 0 w7 (.slice (some ⟨b7,0,none⟩) 1 1) 1 2 (pC (Dl c.ps t (l.getD i 0))):=Sl.bI K rfl leX dcX lzX
  refine L.o (dJ (size:=2) (bytes:=16) runUnderlying237 Tryz.tY Z Z Z Z dcX rfl rfl amn M (gu _) omX (by simp only [maxLen];omega) (by have:=d.size;have:=abj.size;omega) (fun v8 w8 N P=>?_))
  have Bd:Ext u w8:=Keep.jg (d.trans abj) amn P leX
  refine ah Z (T.blk (aA (aO Z (bG Z Z (by simp only;omega) (ah Z (aP ((i+1,v8)) omX ⟨rfl,rfl,rfl,rfl,rfl,trivial⟩ ⟨a,Bd,by rw [QM c.ps t l a,zA,O3];exact N⟩))))))
 refine ak (?_)
 obtain rfl:i=l.length:=by simp only at j;omega
 rw [List.take_length] at hO4
 refine bn (aY Z (aQ Z (ah Z (aB results224 Z ⟨e.trans d,?_⟩))))
 have h:=(Sl.dD hO4).mono (by have:=e.size;omega)
 unfold Pts
 rw [o9];exact h
theorem yF (lo:Nat) (cx:CxV) (s:St) (w:World) (Y:Pts lo w cx.pv cx.ps) (hf:NfL cx.ps) (x:s.a<cx.ps.length) (y:s.b<cx.ps.length) :
  Calls Tryz.prog 225 #[cx.val,s.val] w (Ret fun v w'=>v=pV (qx cx.ps s)∧Ext w w'):=by
 have V:=mW (og hf x)
 have F:=mW (og hf y)
 refine aJ (vs:=[cx.val,s.val]) func225 Z ntmps225 Z ?_
 refine au (bM Z (fun b2 w2 aa ab z hB2=>?_))
 refine bM Z (fun b3 w3 ac ad n hB3=>?_)
 refine L.o (O.alloc zeroValue124 (fun b4 h ae af p G=>?_))
 have hS:Blk h b3 s.cells 292:=Blk.ext (cs:=s.cells) hB3 p
 have hR:Blk h b4 (pC (0,0)) 124:=G
 have xu:=(z.trans n).trans p
 have hC:Blk h b2 cx.cells 46:=Blk.ext (cs:=cx.cells) hB2 (n.trans p)
 have l:=Y.ext xu
 refine ak (aj (?_))
 refine mM mixed 15 1 [2,3] Z [.is _,.is _,.is _,.is _,.is _,.is _,.is _,.is _,.is _,.is _,.is _,.is _,.such (PtB h.heap.size),.such (PtB h.heap.size),.is undef] [[],[0],[],[2],[1,3],[4],[],[6],[],[8],[7,9],[10],[],[],[12,5]] [none,none,none,none,none,none,none,none,none,none,none,none,none,none,some 0] [[],[0],[],[2],[0,1,2,3],[0,1,2,3,4],[],[6],[],[8],[6,7,8,9],[6,7,8,9,10],[],[],[0,1,2,3,4,5,12,13],[0,1,2,3,4,5,6,7,8,9,10,11,12,13,14]] [12,13] [(14,12,5)] (fun _ _ u _ W=>∃ b,u = .pointer (some ⟨b,0,none⟩)∧h.heap.size≤b∧Blk W b (pC (gP cx.ps s.a)) 124) (fun _ W=>Ext h W) (RelB h.heap.size (gP cx.ps s.a)) (fun i f v w hi hf hh=>by { rcases (show i=12∨i=13 by simpa using hi) with rfl|rfl <;> (simp only [List.getElem?_cons_succ,List.getElem?_cons_zero,Option.some.injEq] at hf;subst hf;exact PtB.lt hh) }) (fun i j vi vj W W' hr ⟨b,V,F,h3⟩=>(hr.own b _ F h3).elim fun c' k=>⟨b,V,F,(k.2 Z)▸k.1⟩) krX krX krX krX rfl ⟨PtB.st,PtB.st,trivial⟩ (Keep.drew _ _) ⟨fun c d hx=>ObX.op rfl (O.fa Z ⟨⟨RelB.dF (Keep.refl _ _),hx⟩,rfl,trivial,trivial⟩),
   fun c d hx=>ObX.op Z (dR Z ((Blk.ext (cs:=cx.cells) hC hx).cell Z) ⟨⟨RelB.dF (Keep.refl _ _),hx⟩,rfl,trivial,trivial⟩),
   fun c d hx=>ObX.op Z (O.fa Z ⟨⟨RelB.dF (Keep.refl _ _),hx⟩,rfl,trivial,trivial⟩),
   fun c d hx=>ObX.op Z (dR Z ((Blk.ext (cs:=s.cells) hS hx).cell Z) ⟨⟨RelB.dF (Keep.refl _ _),hx⟩,rfl,trivial,trivial⟩),
   fun c d hx=>ObX.op Z (ig Z Z (l.ext hx) omX omX ⟨⟨RelB.dF (Keep.refl _ _),hx⟩,rfl,trivial,trivial⟩),
   fun c d hx=>ObX.op Z (jC Z Z ((l.ext hx).row x) ⟨⟨RelB.dF (Keep.refl _ _),hx⟩,rfl,trivial,trivial⟩),
   fun c d hx=>ObX.op Z (O.fa Z ⟨⟨RelB.dF (Keep.refl _ _),hx⟩,rfl,trivial,trivial⟩),
   fun c d hx=>ObX.op Z (dR Z ((Blk.ext (cs:=cx.cells) hC hx).cell Z) ⟨⟨RelB.dF (Keep.refl _ _),hx⟩,rfl,trivial,trivial⟩),
   fun c d hx=>ObX.op Z (O.fa Z ⟨⟨RelB.dF (Keep.refl _ _),hx⟩,rfl,trivial,trivial⟩),
   fun c d hx=>ObX.op Z (dR Z ((Blk.ext (cs:=s.cells) hS hx).cell Z) ⟨⟨RelB.dF (Keep.refl _ _),hx⟩,rfl,trivial,trivial⟩),
   fun c d hx=>ObX.op Z (ig Z Z (l.ext hx) omX omX ⟨⟨RelB.dF (Keep.refl _ _),hx⟩,rfl,trivial,trivial⟩),
   fun c d hx=>ObX.op Z (jC Z Z ((l.ext hx).row y) ⟨⟨RelB.dF (Keep.refl _ _),hx⟩,rfl,trivial,trivial⟩),
   fun c d hx=>ObX.op Z (O.alloc zeroValue124 (fun b wy hb hz A hB=>y5 ⟨⟨RelB.dF A,hx.trans A⟩,b,(0,0),rfl,by have:=hx.size;omega,hB⟩ ⟨fun q H=>by { cases H;exact Nat.le_of_eq hb.symm },trivial⟩)),
   fun c d hx=>ObX.op Z (O.alloc zeroValue124 (fun b wy hb hz A hB=>y5 ⟨⟨RelB.dF A,hx.trans A⟩,b,(0,0),rfl,by have:=hx.size;omega,hB⟩ ⟨fun q H=>by { cases H;exact Nat.le_of_eq hb.symm },trivial⟩)),
   fun d hx v5 B=>by { obtain ⟨b5,c5,rfl,r,t⟩:=B;exact ObX.op rfl (aK sizeOf124 Z Z Z t leX (gu (gP cx.ps s.a)) (fun E g m=>y5 ⟨⟨RelB.upd g m,hx.upd g (.inr r)⟩,rfl⟩ ⟨trivial,fun u hu=>by { cases hu;exact ⟨b5,rfl,r,m⟩ }⟩)) },
   trivial⟩ (fun w7 I v5 B v6 J C=>?_)
 obtain ⟨vj,K,M,_⟩:=C 12 13 _ _ _ _ dcX dcX rfl rfl rfl rfl
 obtain rfl:=K _ _ rfl rfl
 obtain ⟨_,_,_,N⟩:=C 12 14 _ _ _ _ dcX dcX rfl rfl rfl rfl
 obtain ⟨b5,rfl,r,t⟩:=N rfl
 obtain ⟨X,c6,rfl,P,Q⟩:=J
 have R:b5≠X:=fun e=>M b5 rfl (by rw [e];rfl)
 refine L.o (aK sizeOf124 Z Z Z Q leX (gu (gP cx.ps s.b)) (fun E g m=>?_))
 have D:Blk E b5 (pC (gP cx.ps s.a)) 124:=Blk.upd (cs:=pC (gP cx.ps s.a)) t g R
 have aaV:Blk E X (pC (gP cx.ps s.b)) 124:=m
 have Yz:Ext h E:=I.upd g (.inr P)
 refine ak (au (aC Z (D.cell Z) (aC Z (aaV.cell Z) (bF Z Z (aC Z (D.cell Z) (aC Z (aaV.cell Z) (bF Z Z (L.o (bU (v:=pV (qx cx.ps s)) (parts:=[(0,.tmp 23),(1,.tmp 28)]) (vs:=[(0,_),(1,_)]) Z (fun w=>by show _=_;kernel_rfl) (L.o (aK sizeOf124 Z Z Z (Blk.ext (cs:=pC (0,0)) hR Yz) leX (gu (qx cx.ps s)) (fun w9 S T=>?_))))))))))))
 have U:Blk w9 b4 (pC (qx cx.ps s)) 124:=T
 refine ak (jZ results225 isAgg124 sizeOf124 Z Z U.row ⟨rfl,(xu.trans Yz).upd S (.inr (by have:=z.size;have:=n.size;omega))⟩)
open Geo (yj lN)
def acK (ps:List Pt) (t:Int) (p:Pt) (ri:List RiV):Bool:=decide (∀ r,r<ri.length→yj ps t p r (ri.getD r r0).xs=false)
theorem Pj {lo:Nat} {f:FaV} (h:f.ok lo w) {r:Nat} (b:r<f.ri.length):Ints .i64 lo w (f.ri.getD r r0).v (f.ri.getD r r0).xs:=by
 rw [aX b]
 have a:=List.getElem_mem b
 generalize f.ri[r]=x at a ⊢
 simp only [FaV.ri,List.mem_cons] at a
 rcases a with rfl|a
 ·exact h.o
 exact h.hs _ a
theorem WU {f:FaV} {r:Nat} (a:r<f.ri.length):f.ri.getD r r0∈f.ri:=by rw [aX a];exact List.getElem_mem a
theorem abk {fs:List FaV} {j:Nat} (a:j<fs.length):fs.getD j f0∈fs:=by rw [aX a];exact List.getElem_mem a
theorem Jk (lo:Nat) (c:CxV) (j:Nat) (p:Pt) (t:Int) (w:World) (N:c.ok lo w) (hf:NfL c.ps) (hx:IxC c) (O:Nr p) (I:t=1∨t=2) (z:j<c.fs.length) :
  Calls Tryz.prog 226 #[c.val,.int .i64 j,pV p,.int .i64 t] w (Ret fun v w'=>v = .bool (acK c.ps t p (c.fs.getD j f0).ri)∧Ext w w'):=by
 have s:=hx _ (abk z)
 refine aJ (vs:=[c.val,.int .i64 j,pV p,.int .i64 t]) func226 Z ntmps226 Z ?_
 refine au (bM Z (fun b4 w4 P Q B C=>?_))
 refine bM Z (fun J A R S u D=>?_)
 have hC:Blk A b4 c.cells 46:=Blk.ext (cs:=c.cells) C u
 have hP:Blk A J (pC p) 124:=D
 have qE:=B.trans u
 have d:=N.ext qE
 have U:=Sl.le d.sl
 refine ah Z (au (aC Z (hC.cell Z) (L.m Z (dG Z Z d.sl (aT Z Z (d.row z) (L.o (ay (xs:=[.tmp 16]) call131 Z Z (jm lo (c.fs.getD j f0) A (d.at z) s.1) (fun K w7 E=>?_))))))))
 obtain ⟨x,F,V⟩:=E
 have Fz:=qE.trans x
 refine ah Z (aj (au (ah Z (T.block (?_)))))
 refine bf (σ:=Nat) (fun i=>[(3,.int .i64 t),(4,.pointer (some ⟨b4,0,none⟩)),(6,.pointer (some ⟨J,0,none⟩)),(9,K),(10,.int .i64 i)]) (fun i w'=>i≤(c.fs.getD j f0).ri.length∧Ext w7 w'∧∀ k,k<i→yj c.ps t p k ((c.fs.getD j f0).ri.getD k r0).xs=false) (fun i=>(c.fs.getD j f0).ri.length-i) (0) ⟨rfl,rfl,rfl,rfl,rfl,trivial⟩ ⟨Nat.zero_le _,Keep.refl _ _,fun k M=>absurd M (Nat.not_lt_zero _)⟩ ?_
 rintro i W ⟨hi,b,l⟩
 have f:Sl A.heap.size W K (c.fs.getD j f0).ri.length 1 (dw (c.fs.getD j f0).ri):=Sl.ext F b
 have ahp:=Sl.le f
 have r:=x.trans b
 have y:=d.ext r
 refine aj (au (aN Z Z (L.le Z (Sl.val f) (bH Z Z (fun G=>?_) (fun G=>?_)))))
 ·refine ak (?_)
  have a:i<(c.fs.getD j f0).ri.length:=by omega
  have g:=s.2 _ (WU a)
  refine aZ (T.skip (aj (T.block (aj (?_)))))
  refine dn mixed 8 [4,9,10,3,6] Z [.is _,.is _,.is _,.is _,.is _,.is _,.such (TK c.ps t ((c.fs.getD j f0).ri.getD i r0).xs),.is _] [[],[],[],[1,2],[3],[],[0,4,5],[]] ⟨TK.st,trivial⟩ ⟨fun n hx=>bJ rfl rfl ((Blk.ext (cs:=c.cells) hC (r.trans hx)).row),
    fun n hx=>aF rfl,
    fun n hx=>aF rfl,
    fun n hx=>bQ rfl rfl (Sl.ext f hx),
    fun n hx=>aS rfl (by rw [Int.toNat_natCast,Nat.mul_one];exact Sl.cell (Sl.ext f hx) (lK a)),
    fun n hx=>aF rfl,
    fun n hx=>Ob.o (ay (xs:=[.tmp 24,.tmp 28,.tmp 29]) call224 Z Z (oJ lo lo c _ ((c.fs.getD j f0).ri.getD i r0).xs t n (y.ext hx).p (Pj ((y.ext hx).at z) a) hf I g.1 g.2) (fun v wy h=>⟨h.1,h.2.mono lzX⟩)),
    fun n hx=>bJ rfl rfl ((Blk.ext (cs:=pC p) hP (r.trans hx)).row),
    trivial⟩ (fun X H Y YI=>?_)
  refine L.o (ay (xs:=[.tmp 30,.tmp 31]) call223 Z Z (AA 0 _ (cor c.ps t ((c.fs.getD j f0).ri.getD i r0).xs) p X YI (Lu hf I g.1) O (by rw [o9];exact g.2)) (fun aa ab E=>?_))
  obtain ⟨rfl,jf⟩:=E
  have Zy:=H.trans jf
  have q:yj c.ps t p i ((c.fs.getD j f0).ri.getD i r0).xs=true→acK c.ps t p (c.fs.getD j f0).ri=false:=fun h=>decide_eq_false fun hn=>by rw [hn i a] at h;cases h
  have hgood:yj c.ps t p i ((c.fs.getD j f0).ri.getD i r0).xs=false→∀ k,k<i+1→yj c.ps t p k ((c.fs.getD j f0).ri.getD k r0).xs=false:=fun h k M=>by
   by_cases e:k=i
   ·subst e;exact h
   exact l k omX
  refine ah Z (aQ Z (dK Z Z (fun z0=>?_) (fun z0=>?_)))
  ·refine aN Z Z (L.ne Z Z (fun z1=>?_) (fun z1=>?_))
   ·refine aG Z (L.m Z (L.pp (L.pp (L.pp (aG Z (aW (au (ah Z (aB results226 Z ⟨by rw [q (decide_eq_true (.inl ⟨omX,z1⟩))],(Fz.trans b).trans Zy⟩)))))))))
   refine aG Z (aN Z Z (L.o (gW Z Z omX (L.m Z (L.pp (aI Z (aI Z (aU (T.skip (T.blk (aA (L.m Z (bF Z Z (ah Z (aP (i+1) omX ⟨rfl,rfl,rfl,rfl,rfl,trivial⟩ ⟨a,b.trans Zy,hgood (decide_eq_false (fun h=>by rcases h with ⟨_,h⟩|⟨h,_⟩;exact h z1;omega))⟩)))))))))))))))
  refine L.m Z (L.pp (aI Z (aN Z Z (L.o (iM Z Z omX (aN Z Z (L.ne Z Z (fun z2=>?_) (fun z2=>?_))))))))
  ·refine aG Z (aI Z (aW (au (ah Z (aB results226 Z ⟨by rw [q (decide_eq_true (.inr ⟨omX,z2⟩))],(Fz.trans b).trans Zy⟩)))))
  refine aG Z (aI Z (aU (T.skip (T.blk (aA (L.m Z (bF Z Z (ah Z (aP (i+1) omX ⟨rfl,rfl,rfl,rfl,rfl,trivial⟩ ⟨a,b.trans Zy,hgood (decide_eq_false (fun h=>by rcases h with ⟨h,_⟩|⟨_,h⟩;omega;exact h z2))⟩)))))))))
 refine ak (?_)
 obtain rfl:i=(c.fs.getD j f0).ri.length:=by omega
 refine bn (aY Z (au (ah Z (aB results226 Z ⟨by rw [acK,decide_eq_true l],Fz.trans b⟩))))
open Geo (RR RG)
theorem afo {n:Nat} {l:List Int} (h:∀ x∈l,0≤x∧x<(n:Int)):IxL n l:=fun i hi=>by
 rw [aX hi];exact h _ (List.getElem_mem hi)
theorem acL {ps:List Pt} {l:List Int} (hf:NfL ps) (b:IxL ps.length l):NmL (cor ps 1 l):=fun i hi=>by
 have a:i<l.length:=by rw [cor,List.length_map] at hi;exact hi
 rw [IQ a]
 have:=VK (n:=0) hf (.inl rfl) (b i a)
 unfold Nm;omega
open Geo (RR RG)
def lS (l:List St):List Value:=l.flatMap St.cells
theorem FI (l m:List St):lS (l++m)=lS l++lS m:=by simp [lS]
theorem DK:∀ (r:List St) (i:Nat),i<r.length→((lS r).drop (i*4)).take 4=(r.getD i st0).cells
 | [],i,h=>by simp at h
 | p::r,0,_=>rfl
 | p::r,i+1,h=>by
  have ih:=DK r i (by simpa using h)
  have e:lS (p::r) = .int .i64 p.a :: .int .i64 p.b :: .int .i64 p.f :: .int .i64 p.r::lS r:=rfl
  rw [e,show (i+1)*4=i*4+1+1+1+1 by omega,List.drop_succ_cons,List.drop_succ_cons,List.drop_succ_cons,List.drop_succ_cons,ih]
  rfl
def Sts (lo:Nat) (w:World) (p:Value) (l:List St):Prop:=Sl lo w p l.length 4 (lS l)
theorem Sts.ext {lo:Nat} {w w':World} {p:Value} {r:List St} (h:Sts lo w p r) (k:Ext w w'):Sts lo w' p r:=Sl.ext h k
theorem Sts.row {lo:Nat} {p:Value} {r:List St} (h:Sts lo w p r) (hi:i<r.length):Row w ((jX p).add ((i:Int).toNat*4)) (r.getD i st0).cells:=by
 rw [Int.toNat_natCast,← DK r i hi]
 obtain ⟨_,_,_,_,a⟩:=Sl.there h omX
 exact a.part (i*4) 4
theorem St.one (s:St):∀ u∈s.cells,u.oneCell'=true:=by intro u a;simp [St.cells] at a;rcases a with (rfl|rfl|rfl|rfl) <;> rfl
open Geo (RR RG)
def StB (s:St) (v:Value) (w:World):Prop:=∃ b,v = .slice (some ⟨b,0,none⟩) 1 1∧Blk w b s.cells 292
theorem StB.st {s:St} : ∀ v w w',Ext w w'→StB s v w→StB s v w':=fun v w w' h ⟨b,a,c⟩=>⟨b,a,Blk.ext (cs:=s.cells) c h⟩
theorem own_ne {a n n' sz d:Nat} {el b:TypeId} {v u:Value} {xs ys:List Value} (h:w.ownsRow base el sz v n xs) (k:w.ownsRow a b d u n' ys) (l:el≠b):v.ownBlock=none∨v.ownBlock≠u.ownBlock:=by
 rcases h.2 with ⟨hv,_⟩|⟨g,cap,cur,hv,hb,m,_⟩
 ·left;subst hv;rfl
 right
 rcases k.2 with ⟨f,_⟩|⟨g',i,j,f,o,c,_⟩
 ·subst hv f;intro h;cases h
 subst hv f
 intro h
 have e:g=g':=by cases h;rfl
 subst e
 rw [m] at c
 cases c
 exact l rfl
theorem Pm (s:St):lS [s]=s.cells:=by simp [lS]
theorem Zz (f r:Nat) (l:List Int) (hi:i<l.length):(stR f r l).take (i+1)=(stR f r l).take i ++ [⟨nI l i,nI l ((i+1) % l.length),f,r⟩]:=by
 have h:i<(stR f r l).length:=by rw [wQ];exact hi
 rw [List.take_succ_eq_append_getElem h]
 have:=aa2 f r l hi
 rw [aX h] at this
 rw [this]
theorem WV {n:Nat} {l:List Int} (h:∀ x∈l,0≤x∧x<(n:Int)) (hi:i<l.length):l.getD i 0=((nI l i:Nat):Int):=by
 have:0≤l.getD i 0:=by rw [aX hi];exact (h _ (List.getElem_mem hi)).1
 rw [nI];omega
attribute [local irreducible] Go.E.ObG
open Geo (RR RG xA lX)
structure Ub (base:Nat) (w0:World) (p:Nat→Pt) (c:Nat) (σ:BD) (w:World):Prop where
 e:Ext w0 w
 all:0<c→∀ k,k<4→∃ v,σ (24+k)=some v
 box:∀ k,k<4→∀ v,σ (24+k)=some v→∃ b q,v = .pointer (some ⟨b,0,none⟩)∧base≤b∧Blk w b (pC q) 124∧(k<c→q=p k)
 ne:∀ j k,j<4→k<4→j≠k→∀ b,σ (24+j)=some (.pointer (some ⟨b,0,none⟩))→σ (24+k)=some (.pointer (some ⟨b,0,none⟩))→False
theorem Ub.nop {p:Nat→Pt} {c:Nat} {w':World} {v:Value} (h:Ub base w0 p c σ w) (l:Ext w w') (hi:i<24∨27<i):Ub base w0 p c (upV σ i v) w':=by
 have hs:∀ k,k<4→upV σ i v (24+k)=σ (24+k):=fun k a=>qH _ _ omX
 refine ⟨h.e.trans l,fun o k a=>by rw [hs k a];exact h.all o k a,fun k a u m=>?_,fun j k n a g b d f=>?_⟩
 ·rw [hs k a] at m
  obtain ⟨b,q,d,f,r,s⟩:=h.box k a u m
  exact ⟨b,q,d,f,Blk.ext (cs:=pC q) r l,s⟩
 rw [hs j n] at d;rw [hs k a] at f;exact h.ne j k n a g b d f
theorem Ub.alloc {p:Nat→Pt} {c k:Nat} {w':World} {b:Nat} {q:Pt} (h:Ub base w0 p c σ w) (hn:σ (24+k)=none) (r:k<4) (hb:b=w.heap.size) (hbase:base≤w.heap.size) (o:Ext w w') (hB:Blk w' b (pC q) 124):Ub base w0 p c (upV σ (24+k) (.pointer (some ⟨b,0,none⟩))) w':=by
 have m:c=0:=by
  rcases Nat.eq_zero_or_pos c with h0|h0
  ·exact h0
  obtain ⟨v,hv⟩:=h.all h0 k r;rw [hn] at hv;cases hv
 subst m
 have hs:∀ j,j≠k→upV σ (24+k) (.pointer (some ⟨b,0,none⟩)) (24+j)=σ (24+j):=fun j f=>qH _ _ omX
 have hold:∀ j,j<4→σ (24+j)=some (.pointer (some ⟨b,0,none⟩))→False:=fun j f hv=>by
  obtain ⟨b',q',a,_,n,_⟩:=h.box j f _ hv
  cases a
  have:=Blk.lt (cs:=pC q') n
  omega
 refine ⟨h.e.trans o,fun h0=>absurd h0 omX,fun j f u l=>?_,fun i j hi f g b' a d=>?_⟩
 ·by_cases e:j=k
  ·subst e
   rw [oC] at l
   cases l
   exact ⟨b,q,rfl,omX,hB,fun h0=>absurd h0 omX⟩
  rw [hs j e] at l
  obtain ⟨b',q',a,d,n,s⟩:=h.box j f u l
  exact ⟨b',q',a,d,Blk.ext (cs:=pC q') n o,s⟩
 by_cases ei:i=k
 ·subst ei
  rw [oC] at a
  cases a
  rw [hs j (Ne.symm g)] at d
  exact hold j f d
 rw [hs i ei] at a
 by_cases ej:j=k
 ·subst ej
  rw [oC] at d
  cases d
  exact hold i hi a
 rw [hs j ej] at d
 exact h.ne i j hi f g b' a d
theorem Ub.store {p:Nat→Pt} {c:Nat} {w':World} {b:Nat} {v:Value} (h:Ub base w0 p c σ w) (h0:base=w0.heap.size) (l:∀ k,k<4→∃ v,σ (24+k)=some v) (o:c<4) (hv:σ (24+c)=some (.pointer (some ⟨b,0,none⟩))) (hi:27<i) (q:Upd b w w') (hB:Blk w' b (pC (p c)) 124):Ub base w0 p (c+1) (upV σ i v) w':=by
 have hs:∀ k,k<4→upV σ i v (24+k)=σ (24+k):=fun k d=>qH _ _ omX
 have hb:base≤b:=by obtain ⟨b',q',g,f,_⟩:=h.box c o _ hv;cases g;exact f
 refine ⟨h.e.upd q (.inr omX),fun _ k d=>by rw [hs k d];exact l k d,fun k d u a=>?_,fun j k r d m b g f=>?_⟩
 ·rw [hs k d] at a
  obtain ⟨b',q',g,f,s,t⟩:=h.box k d u a
  subst g
  by_cases e:k=c
  ·subst e
   rw [hv] at a
   cases a
   exact ⟨b,p k,rfl,f,hB,fun _=>rfl⟩
  have n:b'≠b:=fun eb=>by subst eb;exact h.ne k c d o e b' a hv
  exact ⟨b',q',rfl,f,Blk.upd (cs:=pC q') s q n,fun x=>t omX⟩
 rw [hs j r] at g;rw [hs k d] at f;exact h.ne j k r d m b g f
theorem Ub.start {p:Nat→Pt} (a:Ext w0 w):Ub w0.heap.size w0 p 0 (fun _=>none) w:=⟨a,fun h=>absurd h omX,fun _ _ _ h=>(by cases h),fun _ _ _ _ _ _ h=>(by cases h)⟩
theorem ao2 (h0:∃ v,σ 24=some v) (a:∃ v,σ 25=some v) (b:∃ v,σ 26=some v) (c:∃ v,σ 27=some v):∀ k,k<4→∃ v,σ (24+k)=some v:=fun k d=>by
 rcases (show k=0∨k=1∨k=2∨k=3 by omega) with rfl|rfl|rfl|rfl
 ·exact h0
 ·exact a
 ·exact b
 exact c
def pt4 (a b c d:Pt) (k:Nat):Pt:=match k with|0=>a|1=>b|2=>c|_=>d
set_option maxHeartbeats 4000000 in
theorem MN (lo:Nat) (cx:CxV) (s t:St) (w:World) (hc:Pts lo w cx.pv cx.ps) (hf:NfL cx.ps) (C:s.a<cx.ps.length) (D:s.b<cx.ps.length) (E:t.a<cx.ps.length) (F:t.b<cx.ps.length) :
  Calls Tryz.prog 222 #[cx.val,s.val,t.val] w (Ret fun v w'=>v = .bool (lX cx.ps s t)∧Ext w w'):=by
 refine aJ (vs:=[cx.val,s.val,t.val]) func222 Z ntmps222 Z ?_
 refine au (bM Z (fun b3 w3 an ao R hB3=>?_))
 refine bM Z (fun b4 w4 ap aq G S=>?_)
 refine bM Z (fun b5 P ar av x U=>?_)
 have y:=(R.trans G).trans x
 have hC:Blk P b3 cx.cells 46:=Blk.ext (cs:=cx.cells) hB3 (G.trans x)
 have hS:Blk P b4 s.cells 292:=Blk.ext (cs:=s.cells) S x
 have hT:Blk P b5 t.cells 292:=U
 have g:=hc.ext y
 refine ah Z (aj (aj (?_)))
 refine dS (σ:=Unit) (fun _=>[(3,.pointer (some ⟨b3,0,none⟩)),(4,.pointer (some ⟨b4,0,none⟩)),(5,.pointer (some ⟨b5,0,none⟩)),(37,.bool (decide (s.a=t.a∧s.b=t.b∨s.a=t.b∧s.b=t.a)))]) (fun _ w'=>w'=P) ?_ ?_
 ·refine aA (aC Z (hS.cell Z) (aC Z (hT.cell Z) (dK Z Z (fun e1=>?_) (fun e1=>?_))))
  ·refine L.m Z (aC Z (hS.cell Z) (aC Z (hT.cell Z) (dK Z Z (fun e2=>?_) (fun e2=>?_))))
   ·refine aG Z (L.m Z (L.pp (L.pp (L.pp (L.pp (L.pp (L.pp (aG Z (ak (bC (()) ⟨rfl,rfl,rfl,?_,trivial⟩ Z))))))))))
    ·exact congrArg (fun z=>some (Value.bool z)) (decide_eq_true (.inl ⟨omX,omX⟩)).symm
   refine aG Z (L.m Z (aC Z (hS.cell Z) (aC Z (hT.cell Z) (dK Z Z (fun V=>?_) (fun V=>?_)))))
   ·refine L.m Z (aC Z (hS.cell Z) (aC Z (hT.cell Z) (dK Z Z (fun W=>?_) (fun W=>?_))))
    ·refine aG Z (aI Z (ak (bC (()) ⟨rfl,rfl,rfl,?_,trivial⟩ Z)))
     ·exact congrArg (fun z=>some (Value.bool z)) (decide_eq_true (.inr ⟨omX,omX⟩)).symm
    refine aG Z (aI Z (ak (bC (()) ⟨rfl,rfl,rfl,?_,trivial⟩ Z)))
    ·exact congrArg (fun z=>some (Value.bool z)) (decide_eq_false omX).symm
   refine L.m Z (L.pp (L.pp (L.p (aI Z (aI Z (ak (bC (()) ⟨rfl,rfl,rfl,?_,trivial⟩ Z)))))))
   ·exact congrArg (fun z=>some (Value.bool z)) (decide_eq_false omX).symm
  refine L.m Z (L.pp (L.pp (L.p (aI Z (L.m Z (aC Z (hS.cell Z) (aC Z (hT.cell Z) (dK Z Z (fun V=>?_) (fun V=>?_)))))))))
  ·refine L.m Z (aC Z (hS.cell Z) (aC Z (hT.cell Z) (dK Z Z (fun W=>?_) (fun W=>?_))))
   ·refine aG Z (aI Z (ak (bC (()) ⟨rfl,rfl,rfl,?_,trivial⟩ Z)))
    ·exact congrArg (fun z=>some (Value.bool z)) (decide_eq_true (.inr ⟨omX,omX⟩)).symm
   refine aG Z (aI Z (ak (bC (()) ⟨rfl,rfl,rfl,?_,trivial⟩ Z)))
   ·exact congrArg (fun z=>some (Value.bool z)) (decide_eq_false omX).symm
  refine L.m Z (L.pp (L.pp (L.p (aI Z (aI Z (ak (bC (()) ⟨rfl,rfl,rfl,?_,trivial⟩ Z)))))))
  ·exact congrArg (fun z=>some (Value.bool z)) (decide_eq_false omX).symm
 rintro _ X rfl
 refine jQ Z (fun j=>?_) (fun j=>?_)
 ·refine au (ah Z (aB results222 Z ⟨by rw [lX,if_pos j],y⟩))
 obtain ⟨base,hbase⟩:∃ base,base=X.heap.size:=⟨_,rfl⟩
 refine T.skip (aj (?_))
 refine qJ mixed 31 3 [3,4,5] Z (.is _ :: .is _ :: .is _ :: .is _ :: .is _ :: .is _ :: .is _ :: .is _ :: .is _ :: .is _ :: .is _ :: .is _ :: .is _ :: .is _ :: .is _ :: .is _ :: .is _ :: .is _ :: .is _ :: .is _ :: .is _ :: .is _ :: .is _ :: .is _ :: .such (fun _ _=>True) :: .such (fun _ _=>True) :: .such (fun _ _=>True) :: .such (fun _ _=>True) :: .is undef :: .is undef :: .is undef :: []) ([] :: [0] :: [] :: [2] :: [1,3] :: [4] :: [] :: [6] :: [] :: [8] :: [7,9] :: [10] :: [] :: [12] :: [] :: [14] :: [13,15] :: [16] :: [] :: [18] :: [] :: [20] :: [19,21] :: [22] :: [] :: [] :: [] :: [] :: [24,5,25,26,27] :: [25,11] :: [26,17] :: []) (none::none::none::none::none::none::none::none::none::none::none::none::none::none::none::none::none::none::none::none::none::none::none::none::none::none::none::none::some 0::some 1::some 2 :: []) ([] :: [0] :: [] :: [2] :: [0,1,2,3] :: [0,1,2,3,4] :: [] :: [6] :: [] :: [8] :: [6,7,8,9] :: [6,7,8,9,10] :: [] :: [12] :: [] :: [14] :: [12,13,14,15] :: [12,13,14,15,16] :: [] :: [18] :: [] :: [20] :: [18,19,20,21] :: [18,19,20,21,22] :: [] :: [] :: [] :: [] :: [0,1,2,3,4,5,24,25,26,27] :: [0,1,2,3,4,5,6,7,8,9,10,11,24,25,26,27,28] :: [0,1,2,3,4,5,6,7,8,9,10,11,12,13,14,15,16,17,24,25,26,27,28,29]::(0::1::2::3::4::5::6::7::8::9::10::11::12::13::14::15::16::17::18::19::20::21::22::23::24::25::26::27::28::29::30 :: []) :: []) (Ub base X (pt4 (gP cx.ps s.a) (gP cx.ps s.b) (gP cx.ps t.a) (gP cx.ps t.b))) (fun _ _=>True) krX krX krX Z ⟨fun _ _ _ _ _=>trivial,fun _ _ _ _ _=>trivial,fun _ _ _ _ _=>trivial,fun _ _ _ _ _=>trivial,trivial⟩ (by subst hbase;exact Ub.start (Keep.drew _ _)) ⟨fun c σ f hx hn d=>ObG.op rfl (O.fa Z ⟨⟨trivial,hx.nop (Keep.refl _ _) dcX⟩,rfl⟩),
   fun c σ f hx hn d=>ObG.op Z (dR Z ((Blk.ext (cs:=cx.cells) hC hx.e).cell Z) ⟨⟨trivial,hx.nop (Keep.refl _ _) dcX⟩,rfl⟩),
   fun c σ f hx hn d=>ObG.op Z (O.fa Z ⟨⟨trivial,hx.nop (Keep.refl _ _) dcX⟩,rfl⟩),
   fun c σ f hx hn d=>ObG.op Z (dR Z ((Blk.ext (cs:=s.cells) hS hx.e).cell Z) ⟨⟨trivial,hx.nop (Keep.refl _ _) dcX⟩,rfl⟩),
   fun c σ f hx hn d=>ObG.op Z (ig Z Z (g.ext hx.e) omX omX ⟨⟨trivial,hx.nop (Keep.refl _ _) dcX⟩,rfl⟩),
   fun c σ f hx hn d=>ObG.op Z (jC Z Z ((g.ext hx.e).row C) ⟨⟨trivial,hx.nop (Keep.refl _ _) dcX⟩,rfl⟩),
   fun c σ f hx hn d=>ObG.op Z (O.fa Z ⟨⟨trivial,hx.nop (Keep.refl _ _) dcX⟩,rfl⟩),
   fun c σ f hx hn d=>ObG.op Z (dR Z ((Blk.ext (cs:=cx.cells) hC hx.e).cell Z) ⟨⟨trivial,hx.nop (Keep.refl _ _) dcX⟩,rfl⟩),
   fun c σ f hx hn d=>ObG.op Z (O.fa Z ⟨⟨trivial,hx.nop (Keep.refl _ _) dcX⟩,rfl⟩),
   fun c σ f hx hn d=>ObG.op Z (dR Z ((Blk.ext (cs:=s.cells) hS hx.e).cell Z) ⟨⟨trivial,hx.nop (Keep.refl _ _) dcX⟩,rfl⟩),
   fun c σ f hx hn d=>ObG.op Z (ig Z Z (g.ext hx.e) omX omX ⟨⟨trivial,hx.nop (Keep.refl _ _) dcX⟩,rfl⟩),
   fun c σ f hx hn d=>ObG.op Z (jC Z Z ((g.ext hx.e).row D) ⟨⟨trivial,hx.nop (Keep.refl _ _) dcX⟩,rfl⟩),
   fun c σ f hx hn d=>ObG.op Z (O.fa Z ⟨⟨trivial,hx.nop (Keep.refl _ _) dcX⟩,rfl⟩),
   fun c σ f hx hn d=>ObG.op Z (dR Z ((Blk.ext (cs:=cx.cells) hC hx.e).cell Z) ⟨⟨trivial,hx.nop (Keep.refl _ _) dcX⟩,rfl⟩),
   fun c σ f hx hn d=>ObG.op Z (O.fa Z ⟨⟨trivial,hx.nop (Keep.refl _ _) dcX⟩,rfl⟩),
   fun c σ f hx hn d=>ObG.op Z (dR Z ((Blk.ext (cs:=t.cells) hT hx.e).cell Z) ⟨⟨trivial,hx.nop (Keep.refl _ _) dcX⟩,rfl⟩),
   fun c σ f hx hn d=>ObG.op Z (ig Z Z (g.ext hx.e) omX omX ⟨⟨trivial,hx.nop (Keep.refl _ _) dcX⟩,rfl⟩),
   fun c σ f hx hn d=>ObG.op Z (jC Z Z ((g.ext hx.e).row E) ⟨⟨trivial,hx.nop (Keep.refl _ _) dcX⟩,rfl⟩),
   fun c σ f hx hn d=>ObG.op Z (O.fa Z ⟨⟨trivial,hx.nop (Keep.refl _ _) dcX⟩,rfl⟩),
   fun c σ f hx hn d=>ObG.op Z (dR Z ((Blk.ext (cs:=cx.cells) hC hx.e).cell Z) ⟨⟨trivial,hx.nop (Keep.refl _ _) dcX⟩,rfl⟩),
   fun c σ f hx hn d=>ObG.op Z (O.fa Z ⟨⟨trivial,hx.nop (Keep.refl _ _) dcX⟩,rfl⟩),
   fun c σ f hx hn d=>ObG.op Z (dR Z ((Blk.ext (cs:=t.cells) hT hx.e).cell Z) ⟨⟨trivial,hx.nop (Keep.refl _ _) dcX⟩,rfl⟩),
   fun c σ f hx hn d=>ObG.op Z (ig Z Z (g.ext hx.e) omX omX ⟨⟨trivial,hx.nop (Keep.refl _ _) dcX⟩,rfl⟩),
   fun c σ f hx hn d=>ObG.op Z (jC Z Z ((g.ext hx.e).row F) ⟨⟨trivial,hx.nop (Keep.refl _ _) dcX⟩,rfl⟩),
   fun c σ f hx hn d=>ObG.op Z (O.alloc zeroValue124 (fun b wy hb Y A hB=>⟨⟨trivial,hx.alloc (k:=0) (q:=(0,0)) hn dcX hb (by subst hbase;exact hx.e.size) A hB⟩,trivial⟩)),
   fun c σ f hx hn d=>ObG.op Z (O.alloc zeroValue124 (fun b wy hb Y A hB=>⟨⟨trivial,hx.alloc (k:=1) (q:=(0,0)) hn dcX hb (by subst hbase;exact hx.e.size) A hB⟩,trivial⟩)),
   fun c σ f hx hn d=>ObG.op Z (O.alloc zeroValue124 (fun b wy hb Y A hB=>⟨⟨trivial,hx.alloc (k:=2) (q:=(0,0)) hn dcX hb (by subst hbase;exact hx.e.size) A hB⟩,trivial⟩)),
   fun c σ f hx hn d=>ObG.op Z (O.alloc zeroValue124 (fun b wy hb Y A hB=>⟨⟨trivial,hx.alloc (k:=3) (q:=(0,0)) hn dcX hb (by subst hbase;exact hx.e.size) A hB⟩,trivial⟩)),
   fun σ f hx hn v7 aa Q H v9 I J aaW d=>by { obtain ⟨aw,ab,rfl,afp,FK,_⟩:=hx.box 0 dcX v7 (d 24 dcX _ _ rfl rfl).symm;exact ObG.op rfl (aK sizeOf124 Z Z Z FK leX (gu (gP cx.ps s.a)) (fun ax Ua WS=>⟨⟨trivial,hx.store hbase (ao2 ⟨_,(d 24 dcX _ _ rfl rfl).symm⟩ ⟨_,(d 25 dcX _ _ rfl rfl).symm⟩ ⟨_,(d 26 dcX _ _ rfl rfl).symm⟩ ⟨_,(d 27 dcX _ _ rfl rfl).symm⟩) dcX (d 24 dcX _ _ rfl rfl).symm dcX Ua WS⟩,rfl⟩)) },
   fun σ f hx hn Q H d=>by { obtain ⟨az,q22,rfl,ac,ZA,_⟩:=hx.box 1 dcX Q (d 25 dcX _ _ rfl rfl).symm;exact ObG.op rfl (aK sizeOf124 Z Z Z ZA leX (gu (gP cx.ps s.b)) (fun aD ML WT=>⟨⟨trivial,hx.store hbase (hx.all dcX) dcX (d 25 dcX _ _ rfl rfl).symm dcX ML WT⟩,rfl⟩)) },
   fun σ f hx hn v9 I d=>by { obtain ⟨aE,q23,rfl,alO,abT,_⟩:=hx.box 2 dcX v9 (d 26 dcX _ _ rfl rfl).symm;exact ObG.op rfl (aK sizeOf124 Z Z Z abT leX (gu (gP cx.ps t.a)) (fun aF ZB afq=>⟨⟨trivial,hx.store hbase (hx.all dcX) dcX (d 26 dcX _ _ rfl rfl).symm dcX ZB afq⟩,rfl⟩)) },
   trivial⟩ (fun σ7 w7 i v7 aa Q H v9 I J aaW n=>?_)
 have xB:=(n 24 dcX _ _ rfl rfl).symm
 obtain ⟨c20,aH,rfl,atq,Vu,ad⟩:=i.box 0 dcX v7 xB
 have EU:=(n 25 dcX _ _ rfl rfl).symm
 obtain ⟨c21,ab,rfl,afp,FK,ae⟩:=i.box 1 dcX Q EU
 have uO:=(n 26 dcX _ _ rfl rfl).symm
 obtain ⟨B,q22,rfl,ac,ZA,af⟩:=i.box 2 dcX v9 uO
 have zJ:=(n 27 dcX _ _ rfl rfl).symm
 obtain ⟨c23,q23,rfl,alO,abT,atr⟩:=i.box 3 dcX J zJ
 obtain rfl:=ad dcX
 have K:c20≠c23:=fun e=>i.ne 0 3 dcX dcX dcX c20 xB (by rw [e];exact zJ)
 obtain rfl:=ae dcX
 have M:c21≠c23:=fun e=>i.ne 1 3 dcX dcX dcX c21 EU (by rw [e];exact zJ)
 obtain rfl:=af dcX
 have N:B≠c23:=fun e=>i.ne 2 3 dcX dcX dcX B uO (by rw [e];exact zJ)
 refine L.o (aK sizeOf124 Z Z Z abT leX (gu (gP cx.ps t.b)) (fun l ahq ag=>?_))
 have hP0:Blk l c20 (pC (gP cx.ps s.a)) 124:=Blk.upd (cs:=pC (gP cx.ps s.a)) Vu ahq K
 have hP1:Blk l c21 (pC (gP cx.ps s.b)) 124:=Blk.upd (cs:=pC (gP cx.ps s.b)) FK ahq M
 have ai:Blk l B (pC (gP cx.ps t.a)) 124:=Blk.upd (cs:=pC (gP cx.ps t.a)) ZA ahq N
 have al:Blk l c23 (pC (gP cx.ps t.b)) 124:=ag
 have abl:Ext X l:=i.e.upd ahq (.inr omX)
 refine ak (au (aT Z Z hP0.row (aT Z Z hP1.row (aT Z Z ai.row (aT Z Z al.row (L.o (ay (xs:=[.tmp 62,.tmp 63,.tmp 64,.tmp 65]) call252 Z Z (zI (gP cx.ps s.a) (gP cx.ps s.b) (gP cx.ps t.a) (gP cx.ps t.b) l (Nr.uz (og hf C)) (Nr.uz (og hf D)) (Nr.uz (og hf E)) (Nr.uz (og hf F))) (fun v9 w9 hq=>?_))))))))
 obtain ⟨rfl,am⟩:=hq
 have acM:=abl.trans am
 have r:=Blk.ext (cs:=s.cells) hS acM
 have u:=Blk.ext (cs:=t.cells) hT acM
 refine ah Z (aj (aQ Z (dK Z Z (fun m1=>?_) (fun m1=>?_))))
 ·refine aW (au (aC Z (r.cell Z) (aC Z (u.cell Z) (L.ne Z Z (fun q1=>?_) (fun q1=>?_)))))
  ·refine L.m Z (aC Z (r.cell Z) (aC Z (u.cell Z) (L.ne Z Z (fun q2=>?_) (fun q2=>?_))))
   ·refine aG Z (L.m Z (aC Z (r.cell Z) (aC Z (u.cell Z) (L.ne Z Z (fun q3=>?_) (fun q3=>?_)))))
    ·refine aG Z (L.m Z (aC Z (r.cell Z) (aC Z (u.cell Z) (L.o (pX Z Z (aG Z (ah Z (aB results222 Z ⟨?_,y.trans acM⟩))))))))
     rw [lX,if_neg j,if_pos m1]
     refine congrArg Value.bool ?_
     exact decide_eq_decide.2 omX
    refine aG Z (L.m Z (L.pp (L.pp (L.p (aI Z (ah Z (aB results222 Z ⟨by rw [lX,if_neg j,if_pos m1,decide_eq_false (fun h=>h.2.2.1 omX)],y.trans acM⟩)))))))
   refine aG Z (L.m Z (L.pp (L.pp (L.p (aI Z (L.m Z (L.pp (L.pp (L.p (aI Z (ah Z (aB results222 Z ⟨by rw [lX,if_neg j,if_pos m1,decide_eq_false (fun h=>h.2.1 omX)],y.trans acM⟩))))))))))))
  refine L.m Z (L.pp (L.pp (L.p (aI Z (L.m Z (L.pp (L.pp (L.p (aI Z (L.m Z (L.pp (L.pp (L.p (aI Z (ah Z (aB results222 Z ⟨by rw [lX,if_neg j,if_pos m1,decide_eq_false (fun h=>h.1 omX)],y.trans acM⟩))))))))))))))))
 refine aU (T.skip (au (aO Z (pX Z Z (ah Z (aB results222 Z ⟨by rw [lX,if_neg j,if_neg m1],y.trans acM⟩))))))
open Geo (RR RG xA lX yj lN)
theorem WW {ps:List Pt} {s:St} (hf:NfL ps) (ha:s.a<ps.length) (hb:s.b<ps.length):Nr (qx ps s):=by
 have c:=mW (og hf ha)
 have d:=mW (og hf hb)
 unfold Nr qx
 simp only
 omega
end Go.Proofs.YtnlonpcbgjbbaaaGreatDoor
