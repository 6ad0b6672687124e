/-
  BlocksParses, part 7 of its proof: that it returns true for every input, and each argument reads behind the call as it read before. Conditions: the listed variables read as the program's text lays them (tied by the card).
-/
import Derived.Test.YtnlonpcbgjbbaaaGreatDoorWBlocksParses6
set_option linter.unusedVariables false
set_option linter.unusedSimpArgs false
set_option maxRecDepth 20000
namespace Go.Proofs.YtnlonpcbgjbbaaaGreatDoor
open Go.Proofs.Tryz
open Go Go.E
attribute [local irreducible] Go.E.T Go.E.L Go.E.O Go.E.Ob
variable {xs:List Int} {base:Nat} {v:Value} {w:World}
def wu (d:Dr):List Value:=[.int .u8 d.wd,.int .u8 d.hi,d.cv,d.sv,.bool d.ho]
theorem Loc.grown {q:Value} {w1 a:World} {row:Option Nat} (h:Loc q w w1) (k:w1.grownBy a row) (hb:∀ j,row=some j→w.heap.size≤j):Loc q w a :=
 ⟨k.os.trans h.os,k.tape.trans h.tape,k.output.trans h.output,Nat.le_trans h.size k.size,fun i hi b=>(k.block i (Nat.lt_of_lt_of_le hi h.size) (fun e=>by have:=hb i e.symm;omega)).trans (h.block i hi b)⟩
theorem rU.loc {q:Value} {w':World} (h:rU base w v xs) (k:Loc q w w') (hn:∀ b,v.ownBlock=some b→q.ownBlock≠some b):rU base w' v xs:=BJ h k hn
theorem rU.mono {a:Nat} (h:rU base w v xs) (hb:a≤base):rU a w v xs:=by
 refine ⟨h.1,h.2.imp id ?_⟩
 rintro ⟨g,cap,cur,rfl,b,rest⟩
 exact ⟨g,cap,cur,rfl,omX,rest⟩
theorem rU.nil (base:Nat) (w:World):rU base w (.slice none 0 0) []:=iF _ _ _ _
theorem rU.lt {b:Nat} (h:rU base w v xs) (hb:v.ownBlock=some b):base≤b∧b<w.heap.size:=qG h hb
def aaP (d:Dr) (n:Nat):Int:=d.wa % ((n / 3+1:Nat):Int)
def dWt (d:Dr) (n i:Nat):Bool:=decide ((n:Int)-aaP d n≤i)
def dP (d:Dr) (n i:Nat):Int:=if dWt d n i then 0 else Tq d.ns i
def dG1 (d:Dr) (n i k:Nat):Int:=Tq d.ns (3*i+k+1) % (dP d n i+1)
def dV1 (d:Dr) (n i k:Nat):Int:=if dWt d n i then 0 else Tq d.ns (5*i+k+2)
def dL1 (d:Dr) (n i k:Nat):Int:=if dWt d n i then 0 else (((Tq d.ns (i+11) % 16).toNat / 2 ^ k:Nat):Int)
def dList (f:Nat→Int) (k:Nat):List Int:=(List.range k).map f
theorem zu (f:Nat→Int) (k:Nat):dList f (k+1)=dList f k ++ [f k]:=by simp [dList,List.range_succ]
theorem qM (f:Nat→Int) (k:Nat):(dList f k).length=k:=by simp [dList]
def dNm (i:Nat):Str:=[117]++abR i
structure DU (d:Dr) (G P L n i:Nat) (u:UnV):Prop where
 nm:u.nm=dNm i
 pp:u.pp=dP d n i
 gs:u.gs=dList (dG1 d n i) G
 vs:u.vs=dList (dV1 d n i) P
 ps:u.ps=dList (dL1 d n i) L
 wt:u.wt=dWt d n i
structure zx (base:Nat) (w:World) (u:UnV):Prop where
 g:rU base w u.gv u.gs
 v:rU base w u.vv u.vs
 p:rU base w u.pv u.ps
 n:u.nm.length≤9223372036854775807
theorem zx.ext {base:Nat} {w w':World} {u:UnV} (h:zx base w u) (k:Ext w w'):zx base w' u:=⟨h.g.ext k,h.v.ext k,h.p.ext k,h.n⟩
theorem zx.mono {base a:Nat} {w:World} {u:UnV} (h:zx base w u) (hb:a≤base):zx a w u:=⟨h.g.mono hb,h.v.mono hb,h.p.mono hb,h.n⟩
theorem zx.ok {base:Nat} {w:World} {u:UnV} (h:zx base w u):u.ok base w:=⟨h.g.ints,h.v.ints,h.p.ints,h.n⟩
theorem rU.row {ahX m n:Nat} {w':World} {q:Value} {ys:List Value} (h:rU base w q xs) (a:w.ownsRow ahX 51 6 v n ys) (hG:w.grownBy w' v.ownBlock):rU base w' q xs :=
 h.loc (q:=v) (Loc.jV hG) (fun b hb e=>by
  obtain ⟨_,cs,_,_,hB,_⟩:=(show ahW base xs.length q w from ⟨xs,Nat.le_refl _,h⟩).blk hb
  exact row_ne a e hB rfl)
structure Y1 (base b2 b4 b5:Nat) (d:Dr) (G P L:Int) (uv:Value) (us:List UnV) (W:World):Prop where
 d2:Blk W b2 d.cells 59
 c4:Blk W b4 abQ 25
 c5:Blk W b5 [.int .i64 G,.int .i64 P,.int .i64 L,uv] 25
 row:W.ownsRow base 51 6 uv us.length (iR us)
 own:∀ u∈us,zx base W u
theorem Y1.ext {base b2 b4 b5:Nat} {d:Dr} {G P L:Int} {uv:Value} {us:List UnV} {W W':World} (h:Y1 base b2 b4 b5 d G P L uv us W) (k:Ext W W'):Y1 base b2 b4 b5 d G P L uv us W' :=
 ⟨h.d2.ext k,h.c4.ext k,h.c5.ext k,cO h.row k lzX,fun u a=>(h.own u a).ext k⟩
def Y2 (d:Dr) (n:Nat) (w:World) (v:Value) (w':World):Prop:=Ext w w'∧∃ r:RoV,v=r.val∧r.ok w.heap.size w'∧r.G=d.g % 3∧r.P=d.p % 4∧r.L=d.l % 4∧r.us.length=n∧∀ i,i<n→DU d (d.g % 3).toNat (d.p % 4).toNat (d.l % 4).toNat n i (r.us.getD i u0)
set_option maxHeartbeats 1000000 in
theorem Tt (lo n:Nat) (d:Dr) (w:World) (N:d.ok lo w) (bE:1≤n) (bK:n≤24) :
  Calls Tryz.prog 70 #[d.val,.int .i64 n] w (Ret fun v w'=>Y2 d n w v w'):=by
 refine aJ (vs:=[d.val,.int .i64 n]) func70 Z ntmps70 Z ?_
 refine au (bM Z (fun b2 w2 bL bN a6 hB2=>?_))
 refine L.o (O.alloc zeroValue25 (fun b4 w4 bO bQ av a7=>?_))
 have Gl:=a6.trans av
 have hD4:Blk w4 b2 d.cells 59:=Blk.ext (cs:=d.cells) hB2 av
 have aw:Blk w4 b4 abQ 25:=a7
 have a8:=N.g0
 have a9:=N.p0
 have ba:=N.l0
 have bb:=N.a0
 unfold QG at a8 a9 ba bb
 refine ak (au (aC Z (hD4.cell Z) (L.o (fG Z Z omX omX (L.o (dO Z (fun w=>⟨_,runUnderlying5 w⟩) runUnderlying3 (IntWalk.i64_in _ ⟨omX,omX⟩) (aC Z (hD4.cell Z) (L.o (fG Z Z omX omX (L.o (dO Z (fun w=>⟨_,runUnderlying5 w⟩) runUnderlying3 (IntWalk.i64_in _ ⟨omX,omX⟩) (aC Z (hD4.cell Z) (L.o (fG Z Z omX omX (L.o (dO Z (fun w=>⟨_,runUnderlying5 w⟩) runUnderlying3 (IntWalk.i64_in _ ⟨omX,omX⟩) (L.o (bU (v:=.agg #[.int .i64 (d.g % 3),.int .i64 (d.p % 4),.int .i64 (d.l % 4),.slice none 0 0]) (parts:=[(0,.tmp 18),(1,.tmp 22),(2,.tmp 26)]) (vs:=[(0,_),(1,_),(2,_)]) Z (fun w=>by kernel_rfl) (L.o (O.alloc zeroValue25 (fun b5 w5 bR bc ax bd=>?_)))))))))))))))))))))
 refine L.o (aK sizeOf25 Z Z Z bd leX (by intro u H;simp at H;rcases H with (rfl|rfl|rfl|rfl) <;> rfl) (fun M V be=>?_))
 replace V:Upd b5 w5 M:=V
 have az:Blk M b5 [.int .i64 (d.g % 3),.int .i64 (d.p % 4),.int .i64 (d.l % 4),.slice none 0 0] 25:=be
 have bB:=hD4.lt
 have bS:=aw.lt
 have IE:=az.lt
 have bV:=Gl.size
 have bc:=ax.size
 have bX:=V.size
 have Ap:Ext w4 M:=ax.upd V (.inr omX)
 have qE:Ext w M:=Gl.trans Ap
 refine ak (au (aC Z ((hD4.ext Ap).cell Z) (L.o (dO Z (fun w=>⟨_,runUnderlying5 w⟩) runUnderlying3 (IntWalk.i64_in _ ⟨omX,omX⟩) (aO Z (uY Z Z omX (bF Z Z (?_))))))))
 rw [show ((n:Int) / 3+1)=((n / 3+1:Nat):Int) by omega]
 refine L.o (fG Z Z omX omX (?_))
 obtain ⟨wt,aB⟩:∃ wt,wt=aaP d n:=⟨_,rfl⟩
 have aD:d.wa % ((n / 3+1:Nat):Int)=wt:=by rw [aB];rfl
 rw [aD]
 have bY:0≤wt∧wt≤255:=by rw [← aD];exact ⟨Int.emod_nonneg _ omX,by have:=Int.emod_lt_of_pos d.wa (show (0:Int)<((n / 3+1:Nat):Int) by omega);omega⟩
 refine ah Z (aj (au (ah Z (T.block (?_)))))
 refine bf (σ:=Nat × Value × List UnV) (fun s=>[(1,.int .i64 n),(2,.pointer (some ⟨b2,0,none⟩)),(4,.pointer (some ⟨b4,0,none⟩)),(5,.pointer (some ⟨b5,0,none⟩)),(6,.int .i64 wt),(7,.int .i64 s.1)]) (fun s w'=>s.1≤n∧Ext w w'∧M.heap.size≤w'.heap.size∧Y1 M.heap.size b2 b4 b5 d (d.g % 3) (d.p % 4) (d.l % 4) s.2.1 s.2.2 w'∧s.2.2.length=s.1∧∀ j,j<s.1→DU d (d.g % 3).toNat (d.p % 4).toNat (d.l % 4).toNat n j (s.2.2.getD j u0)) (fun s=>n-s.1) ((0,.slice none 0 0,[])) ⟨rfl,rfl,rfl,rfl,rfl,rfl,trivial⟩ ⟨Nat.zero_le _,qE,Nat.le_refl _,⟨hD4.ext Ap,aw.ext Ap,az,iF _ _ _ _,fun _ h=>(by cases h)⟩,rfl,fun j F=>absurd F (Nat.not_lt_zero _)⟩ ?_
 rintro ⟨i,uv,us⟩ w7 ⟨hi,I,bZ,r,W,ac⟩
 simp only at hi r W ac
 refine aj (au (aN Z Z (bH Z Z (fun bg=>?_) (fun bg=>?_))))
 ·refine ak (?_)
  have bD:i<n:=by omega
  have aE:=Vs (n:=i) omX
  refine aZ (T.skip (aj (T.block (au (aO Z (uY Z Z (by (try dsimp only);omega) (L.o (dO Z (fun w=>⟨_,runUnderlying3 w⟩) runUnderlying5 (IntWalk.u8_in _ ⟨omX,omX⟩) (L.o (KY Z Z (by (try dsimp only);omega) (aO Z (fG Z Z omX omX (L.o (dO Z (fun w=>⟨_,runUnderlying3 w⟩) runUnderlying5 (IntWalk.u8_in _ ⟨omX,omX⟩) (L.o (KY Z Z (by (try dsimp only);omega) (L.o (aH (el:=5) (parts:=[(0,.tmp 43),(1,.tmp 47)]) (vs:=[(0,_),(1,_)]) (cs:=[.int .u8 (48+(i:Int) / 10),.int .u8 (48+(i:Int) % 10)]) Z (fun w=>by kernel_rfl) (fun b8 w8 b0 bh aG ad=>?_)))))))))))))))))))
  refine L.o (mZ runUnderlying54 runUnderlying5 runUnderlying9 Z (show Ints .u8 0 w8 (.slice (some ⟨b8,0,none⟩) 2 2) ((abR i).map fun c=>(c.toNat:Int)) from by rw [aE];exact Ints.bI ad rfl dcX lzX) (by simp [abR]) (L.o (bW Z Z (by simp [abR]) (aN Z Z (aO Z (dh Z Z omX (L.o (kH Z Z (?_)))))))))
  have bi:decide ((n:Int)-wt≤i)=dWt d n i:=by rw [aB];rfl
  rw [bi]
  refine L.o (bU (v:=.agg #[str (dNm i),.int .i64 0,.slice none 0 0,.slice none 0 0,.slice none 0 0,.bool (dWt d n i)]) (parts:=[(0,.tmp 50),(5,.tmp 55)]) (vs:=[(0,_),(5,_)]) Z (fun w=>by kernel_rfl) (L.o (O.alloc zeroValue51 (fun a w9 aI bj aL bk=>?_))))
  refine L.o (aK sizeOf51 Z Z Z bk leX (by intro u H;simp at H;rcases H with (rfl|rfl|rfl|rfl|rfl|rfl) <;> rfl) (fun X QH EP=>?_))
  replace QH:Upd a w9 X:=QH
  have Vt:Blk X a [str (dNm i),.int .i64 0,.slice none 0 0,.slice none 0 0,.slice none 0 0,.bool (dWt d n i)] 51:=EP
  have bh:=aG.size
  have bj:=aL.size
  have aaQ:=QH.size
  have aI:a=w8.heap.size:=aI
  have Y3:Ext w7 X:=(aG.trans aL).upd QH (.inr omX)
  have z:∀ x,(Value.slice (some ⟨a,0,none⟩) 0 0).ownBlock=some x→a=x:=fun x hx=>Option.some.inj hx
  have aM:=N.ext (I.trans Y3)
  have ata:=OY N.nl i
  refine ak (aj (?_))
  refine dS (σ:=Unit) (fun _=>[(1,.int .i64 n),(2,.pointer (some ⟨b2,0,none⟩)),(4,.pointer (some ⟨b4,0,none⟩)),(5,.pointer (some ⟨b5,0,none⟩)),(6,.int .i64 wt),(7,.int .i64 i),(8,.pointer (some ⟨a,0,none⟩))]) (fun _ w'=>Ext w7 w'∧Blk w' a [str (dNm i),.int .i64 (dP d n i),.slice none 0 0,.slice none 0 0,.slice none 0 0,.bool (dWt d n i)] 51) ?_ ?_
  ·refine au (aC Z (Vt.cell Z) (?_))
   rcases y:dWt d n i with _|_
   ·refine bT Z (aW (aA (aT Z Z ((r.d2.ext Y3).row) (aO Z (ay (xs:=[.tmp 60,.tmp 61]) call126 Z Z (vC lo d i X aM omX) (fun b1 bl hq=>?_))))))
    obtain ⟨rfl,jD⟩:=hq
    rw [y] at Vt
    refine L.fa Z (L.o (bP sizeOf3 Z Z Z (Vt.ext jD) (by simp [Value.cells,ofT]) (fun bm BK Df=>?_)))
    replace BK:Upd a bl bm:=BK
    refine ak (bC (()) ⟨rfl,rfl,rfl,rfl,rfl,rfl,rfl,trivial⟩ ⟨(Y3.trans jD).upd BK (.inr omX),by rw [show dP d n i=Tq d.ns i by rw [dP,y];rfl];exact Df⟩)
   rw [y] at Vt
   refine bT Z (aU (T.skip (bC (()) ⟨rfl,rfl,rfl,rfl,rfl,rfl,rfl,trivial⟩ ⟨Y3,by rw [show dP d n i=0 by rw [dP,y];rfl];exact Vt⟩)))
  rintro _ A ⟨iK,rD⟩
  have abS:=r.ext iK
  have atb:=rD.lt
  have b3:0≤dP d n i∧dP d n i≤65535:=by unfold dP;split <;> omega
  refine aj (au (ah Z (T.block (?_))))
  refine bf (σ:=Nat × Value) (fun s=>[(1,.int .i64 n),(2,.pointer (some ⟨b2,0,none⟩)),(4,.pointer (some ⟨b4,0,none⟩)),(5,.pointer (some ⟨b5,0,none⟩)),(6,.int .i64 wt),(7,.int .i64 i),(8,.pointer (some ⟨a,0,none⟩)),(9,.int .i64 s.1)]) (fun s w'=>(s.1:Int)≤d.g % 3∧Loc (.slice (some ⟨a,0,none⟩) 0 0) A w'∧Blk w' a [str (dNm i),.int .i64 (dP d n i),s.2,.slice none 0 0,.slice none 0 0,.bool (dWt d n i)] 51∧rU A.heap.size w' s.2 (dList (dG1 d n i) s.1)) (fun s=>(d.g % 3).toNat-s.1) ((0,.slice none 0 0)) ⟨rfl,rfl,rfl,rfl,rfl,rfl,rfl,rfl,trivial⟩ ⟨by show ((0:Nat):Int)≤d.g % 3;omega,Loc.dF (Keep.refl _ _),rD,rU.nil _ _⟩ ?_
  rintro ⟨k,gv⟩ J ⟨bo,ahY,Vu,aaR⟩
  simp only at bo Vu aaR
  have jG:Ext w7 J:=ahY.keep iK (fun x hx=>by have:=z x hx;omega)
  have alM:=r.ext jG
  refine aj (aQ Z (aC Z (alM.c5.cell Z) (bH Z Z (fun ahZ=>?_) (fun ahZ=>?_))))
  ·refine ak (?_)
   have bp:=N.ext (I.trans jG)
   have b6:=OY N.nl (3*i+k+1)
   refine aZ (T.skip (aj (T.block (aj (?_)))))
   refine dn mixed 10 [2,7,9,8] Z [.is _,.is _,.is _,.is _,.is _,.is (.int .i64 ((3*i+k+1:Nat):Int)),.is _,.is _,.is _,.is _] [[],[],[1],[],[2,3],[4],[0,5],[],[7],[8]] trivial ⟨fun U hx=>bJ rfl rfl ((alM.d2.ext hx).row),
     fun U hx=>aF rfl,
     fun U hx=>Ob.o (dN Z Z (by (try dsimp only);omega) kR),
     fun U hx=>aF rfl,
     fun U hx=>Ob.o (bG Z Z (by (try dsimp only);omega) kR),
     fun U hx=>Ob.o (bG Z Z (by (try dsimp only);omega) ⟨Keep.refl _ _,by show Value.int .i64 (3*(i:Int)+(k:Int)+1)=_;rw [show 3*(i:Int)+(k:Int)+1=((3*i+k+1:Nat):Int) by omega]⟩),
     fun U hx=>Ob.o (ay (xs:=[.tmp 70,.tmp 75]) call126 Z Z (vC lo d (3*i+k+1) U (bp.ext hx) omX) (fun v wy h=>⟨h.2,h.1⟩)),
     fun U hx=>Ob.fa rfl,
     fun U hx=>aS rfl ((Vu.ext hx).cell rfl),
     fun U hx=>Ob.o (bG Z Z omX kR),
     trivial⟩ (fun b7 jv=>?_)
   refine L.o (fG Z Z omX omX (?_))
   have alN:=jv
   have B:=Vu.ext jv
   refine ah Z (aA (aC Z (B.cell Z) (aO Z (aH (el:=3) (parts:=[(0,.tmp 83)]) (vs:=[(0,_)]) (cs:=[.int .i64 (dG1 d n i k)]) Z (fun w=>by kernel_rfl) (fun ca cb alO atc Gm abT=>?_)))))
   have t:=(aaR.ext jv).ext Gm
   have C:=(ahY.trans (Loc.dF jv)).trans (Loc.dF Gm)
   have D:=qM (dG1 d n i) k
   refine L.o (dJ (size:=1) (bytes:=8) runUnderlying30 Tryz.rG Z Z Z Z dcX rfl rfl t (Sl.bI (lo:=0) (n:=1) (sz:=1) abT Z leX dcX lzX) (by intro c hc;simp at hc;simp [hc,Value.oneCell']) omX (by simp only [maxLen];omega) (by have:=C.size;omega) (fun ae aR af alP=>?_))
   have P:=C.grown alP (fun j F=>(t.lt F).1)
   have aV:a<A.heap.size:=by have:=rD.lt;omega
   have G:ae.oneCell'=true:=Sl.one (Sl.dD af)
   refine L.fa Z (L.o (bP sizeOf30 G Z Z ((B.ext Gm).grown alP (fun j F=>by have:=(t.lt F).1;omega)) (by simp [Value.cells,ofT]) (fun bq Oo Tv=>?_)))
   replace Oo:Upd a aR bq:=Oo
   refine ak (T.blk (aA (L.m Z (bF Z Z (ah Z (aP ((k+1,ae)) (by show (d.g % 3).toNat-(k+1)<(d.g % 3).toNat-k;omega) ⟨rfl,rfl,rfl,rfl,rfl,rfl,rfl,rfl,trivial⟩ ⟨omX,P.trans (Loc.qL Oo Z),Tv,?_⟩))))))
   ·have f:rU A.heap.size aR ae (dList (dG1 d n i) (k+1)):=by
     unfold rU;rw [qM,zu,List.map_append];rw [D] at af;exact af
    exact f.loc (q:=.slice (some ⟨a,0,none⟩) 0 0) (Loc.qL Oo rfl) (fun x hx e=>by have:=z x e;have:=(f.lt hx).1;omega)
  refine ak (?_)
  have Q:k=(d.g % 3).toNat:=by omega
  rw [Q] at aaR
  have atd:=ahY.size
  have abU:rU A.heap.size J gv (dList (dG1 d n i) (d.g % 3).toNat):=aaR.mono omX
  refine bn (aY Z (aj (au (ah Z (T.block (?_))))))
  refine bf (σ:=Nat × Value) (fun s=>[(1,.int .i64 n),(2,.pointer (some ⟨b2,0,none⟩)),(4,.pointer (some ⟨b4,0,none⟩)),(5,.pointer (some ⟨b5,0,none⟩)),(6,.int .i64 wt),(7,.int .i64 i),(8,.pointer (some ⟨a,0,none⟩)),(11,.int .i64 s.1)]) (fun s w'=>(s.1:Int)≤d.p % 4∧Loc (.slice (some ⟨a,0,none⟩) 0 0) J w'∧Blk w' a [str (dNm i),.int .i64 (dP d n i),gv,s.2,.slice none 0 0,.bool (dWt d n i)] 51∧rU J.heap.size w' s.2 (dList (dV1 d n i) s.1)) (fun s=>(d.p % 4).toNat-s.1) ((0,.slice none 0 0)) ⟨rfl,rfl,rfl,rfl,rfl,rfl,rfl,rfl,trivial⟩ ⟨by show ((0:Nat):Int)≤d.p % 4;omega,Loc.dF (Keep.refl _ _),Vu,rU.nil _ _⟩ ?_
  rintro ⟨k,vv⟩ E ⟨br,aaS,abV,KZ⟩
  simp only at br abV KZ
  have ER:Ext w7 E:=aaS.keep jG (fun x hx=>by have:=z x hx;omega)
  have adS:=r.ext ER
  refine aj (aQ Z (aC Z (adS.c5.cell Z) (bH Z Z (fun bs=>?_) (fun bs=>?_))))
  ·refine aW (T.skip (aj (T.block (au (ah Z (aj (?_)))))))
   refine dS (σ:=Unit) (fun _=>[(1,.int .i64 n),(2,.pointer (some ⟨b2,0,none⟩)),(4,.pointer (some ⟨b4,0,none⟩)),(5,.pointer (some ⟨b5,0,none⟩)),(6,.int .i64 wt),(7,.int .i64 i),(8,.pointer (some ⟨a,0,none⟩)),(11,.int .i64 k),(12,.int .i64 (dV1 d n i k))]) (fun _ w'=>Ext E w') ?_ ?_
   ·refine au (aC Z (abV.cell Z) (?_))
    rcases y:dWt d n i with _|_
    ·have ag:=N.ext (I.trans ER)
     refine bT Z (aW (aA (aT Z Z adS.d2.row (aO Z (dN Z Z (by (try dsimp only);omega) (aO Z (bG Z Z (by (try dsimp only);omega) (L.o (bG Z Z (by (try dsimp only);omega) (L.o (ay (xs:=[.tmp 96,.tmp 101]) call126 Z Z (vC lo d (5*i+k+2) E ag omX) (fun cc cd hq=>?_))))))))))))
     obtain ⟨rfl,abW⟩:=hq
     refine ah Z (bC (()) ⟨rfl,rfl,rfl,rfl,rfl,rfl,rfl,rfl,?_,trivial⟩ abW)
     ·rw [dV1,y];rfl
    refine bT Z (aU (T.skip (bC (()) ⟨rfl,rfl,rfl,rfl,rfl,rfl,rfl,rfl,?_,trivial⟩ (Keep.refl _ _))))
    ·rw [dV1,y];rfl
   rintro _ ce J6
   have B:=abV.ext J6
   refine aA (aC Z (B.cell Z) (aO Z (aH (el:=3) (parts:=[(0,.tmp 105)]) (vs:=[(0,_)]) (cs:=[.int .i64 (dV1 d n i k)]) Z (fun w=>by kernel_rfl) (fun cf cg ch ci Vw abX=>?_))))
   have t:=(KZ.ext J6).ext Vw
   have C:=(aaS.trans (Loc.dF J6)).trans (Loc.dF Vw)
   have D:=qM (dV1 d n i) k
   refine L.o (dJ (size:=1) (bytes:=8) runUnderlying30 Tryz.rG Z Z Z Z dcX rfl rfl t (Sl.bI (lo:=0) (n:=1) (sz:=1) abX Z leX dcX lzX) (by intro c hc;simp at hc;simp [hc,Value.oneCell']) omX (by simp only [maxLen];omega) (by have:=C.size;omega) (fun ai a1 Vx alQ=>?_))
   have P:=C.grown alQ (fun j F=>(t.lt F).1)
   have aV:a<J.heap.size:=by have:=Vu.lt;omega
   have G:ai.oneCell'=true:=Sl.one (Sl.dD Vx)
   refine L.fa Z (L.o (bP sizeOf30 G Z Z ((B.ext Vw).grown alQ (fun j F=>by have:=(t.lt F).1;omega)) (by simp [Value.cells,ofT]) (fun bt agX aeI=>?_)))
   replace agX:Upd a a1 bt:=agX
   refine ak (T.blk (aA (L.m Z (bF Z Z (ah Z (aP ((k+1,ai)) (by show (d.p % 4).toNat-(k+1)<(d.p % 4).toNat-k;omega) ⟨rfl,rfl,rfl,rfl,rfl,rfl,rfl,rfl,trivial⟩ ⟨omX,P.trans (Loc.qL agX Z),aeI,?_⟩))))))
   ·have f:rU J.heap.size a1 ai (dList (dV1 d n i) (k+1)):=by
     unfold rU;rw [qM,zu,List.map_append];rw [D] at Vx;exact Vx
    exact f.loc (q:=.slice (some ⟨a,0,none⟩) 0 0) (Loc.qL agX rfl) (fun x hx e=>by have:=z x e;have:=(f.lt hx).1;omega)
  refine ak (?_)
  have Q:k=(d.p % 4).toNat:=by omega
  rw [Q] at KZ
  have abU:=abU.loc aaS (fun x hx e=>by have:=z x e;have:=(abU.lt hx).1;omega)
  have aoa:=aaS.size
  have agY:rU A.heap.size E vv (dList (dV1 d n i) (d.p % 4).toNat):=KZ.mono omX
  refine bn (aY Z (aj (au (ah Z (T.block (?_))))))
  refine bf (σ:=Nat × Value) (fun s=>[(1,.int .i64 n),(2,.pointer (some ⟨b2,0,none⟩)),(4,.pointer (some ⟨b4,0,none⟩)),(5,.pointer (some ⟨b5,0,none⟩)),(6,.int .i64 wt),(7,.int .i64 i),(8,.pointer (some ⟨a,0,none⟩)),(13,.int .i64 s.1)]) (fun s w'=>(s.1:Int)≤d.l % 4∧Loc (.slice (some ⟨a,0,none⟩) 0 0) E w'∧Blk w' a [str (dNm i),.int .i64 (dP d n i),gv,vv,s.2,.bool (dWt d n i)] 51∧rU E.heap.size w' s.2 (dList (dL1 d n i) s.1)) (fun s=>(d.l % 4).toNat-s.1) ((0,.slice none 0 0)) ⟨rfl,rfl,rfl,rfl,rfl,rfl,rfl,rfl,trivial⟩ ⟨by show ((0:Nat):Int)≤d.l % 4;omega,Loc.dF (Keep.refl _ _),abV,rU.nil _ _⟩ ?_
  rintro ⟨k,pv⟩ K ⟨aob,aeJ,adT,agZ⟩
  simp only at aob adT agZ
  have ES:Ext w7 K:=aeJ.keep ER (fun x hx=>by have:=z x hx;omega)
  have Y:=r.ext ES
  refine aj (aQ Z (aC Z (Y.c5.cell Z) (bH Z Z (fun bu=>?_) (fun bu=>?_))))
  ·refine aW (T.skip (aj (T.block (au (ah Z (aj (?_)))))))
   refine dS (σ:=Unit) (fun _=>[(1,.int .i64 n),(2,.pointer (some ⟨b2,0,none⟩)),(4,.pointer (some ⟨b4,0,none⟩)),(5,.pointer (some ⟨b5,0,none⟩)),(6,.int .i64 wt),(7,.int .i64 i),(8,.pointer (some ⟨a,0,none⟩)),(13,.int .i64 k),(14,.int .i64 (dL1 d n i k))]) (fun _ w'=>Ext K w') ?_ ?_
   ·refine au (aC Z (adT.cell Z) (?_))
    rcases y:dWt d n i with _|_
    ·have ag:=N.ext (I.trans ES)
     refine bT Z (aW (aA (aT Z Z Y.d2.row (aO Z (bG Z Z (by (try dsimp only);omega) (L.o (ay (xs:=[.tmp 118,.tmp 120]) call126 Z Z (vC lo d (i+11) K ag omX) (fun cj ck hq=>?_))))))))
     obtain ⟨rfl,adU⟩:=hq
     have cl:=OY N.nl (i+11)
     refine L.o (fG Z Z omX omX (?_))
     obtain ⟨c16,ab⟩:∃ c16:Nat,Tq d.ns (i+11) % 16=c16:=⟨(Tq d.ns (i+11) % 16).toNat,omX⟩
     rw [ab]
     refine aO Z (dO Z (fun w=>⟨_,runUnderlying3 w⟩) runUnderlying114 (IntWalk.u64_in _ ⟨omX,omX⟩) (L.o (KC Z Z omX (ah Z (bC (()) ⟨rfl,rfl,rfl,rfl,rfl,rfl,rfl,rfl,?_,trivial⟩ adU)))))
     ·rw [dL1,y,ab];rfl
    refine bT Z (aU (T.skip (bC (()) ⟨rfl,rfl,rfl,rfl,rfl,rfl,rfl,rfl,?_,trivial⟩ (Keep.refl _ _))))
    ·rw [dL1,y];rfl
   rintro _ cm al
   have B:=adT.ext al
   refine aA (aC Z (B.cell Z) (aO Z (aH (el:=3) (parts:=[(0,.tmp 128)]) (vs:=[(0,_)]) (cs:=[.int .i64 (dL1 d n i k)]) Z (fun w=>by kernel_rfl) (fun cn co aoc aod aeK bv=>?_))))
   have t:=(agZ.ext al).ext aeK
   have C:=(aeJ.trans (Loc.dF al)).trans (Loc.dF aeK)
   have D:=qM (dL1 d n i) k
   refine L.o (dJ (size:=1) (bytes:=8) runUnderlying30 Tryz.rG Z Z Z Z dcX rfl rfl t (Sl.bI (lo:=0) (n:=1) (sz:=1) bv Z leX dcX lzX) (by intro c hc;simp at hc;simp [hc,Value.oneCell']) omX (by simp only [maxLen];omega) (by have:=C.size;omega) (fun am a2 an alR=>?_))
   have P:=C.grown alR (fun j F=>(t.lt F).1)
   have aV:a<E.heap.size:=by have:=abV.lt;omega
   have G:am.oneCell'=true:=Sl.one (Sl.dD an)
   refine L.fa Z (L.o (bP sizeOf30 G Z Z ((B.ext aeK).grown alR (fun j F=>by have:=(t.lt F).1;omega)) (by simp [Value.cells,ofT]) (fun bw Yx Y4=>?_)))
   replace Yx:Upd a a2 bw:=Yx
   refine ak (T.blk (aA (L.m Z (bF Z Z (ah Z (aP ((k+1,am)) (by show (d.l % 4).toNat-(k+1)<(d.l % 4).toNat-k;omega) ⟨rfl,rfl,rfl,rfl,rfl,rfl,rfl,rfl,trivial⟩ ⟨omX,P.trans (Loc.qL Yx Z),Y4,?_⟩))))))
   ·have f:rU E.heap.size a2 am (dList (dL1 d n i) (k+1)):=by
     unfold rU;rw [qM,zu,List.map_append];rw [D] at an;exact an
    exact f.loc (q:=.slice (some ⟨a,0,none⟩) 0 0) (Loc.qL Yx rfl) (fun x hx e=>by have:=z x e;have:=(f.lt hx).1;omega)
  refine ak (?_)
  have Q:k=(d.l % 4).toNat:=by omega
  rw [Q] at agZ
  have abU:=abU.loc aeJ (fun x hx e=>by have:=z x e;have:=(abU.lt hx).1;omega)
  have agY:=agY.loc aeJ (fun x hx e=>by have:=z x e;have:=(agY.lt hx).1;omega)
  have alS:=aeJ.size
  have aoe:rU A.heap.size K pv (dList (dL1 d n i) (d.l % 4).toNat):=agZ.mono omX
  obtain ⟨u,H⟩:∃ u:UnV,u=⟨dNm i,dP d n i,gv,dList (dG1 d n i) (d.g % 3).toNat,vv,dList (dV1 d n i) (d.p % 4).toNat,pv,dList (dL1 d n i) (d.l % 4).toNat,dWt d n i⟩:=⟨_,rfl⟩
  have bx:Blk K a u.cells 51:=by rw [H];exact adT
  have a3:zx A.heap.size K u:=by rw [H];exact ⟨abU,agY,aoe,by show (dNm i).length≤_;simp [dNm,abR]⟩
  refine bn (aY Z (aA (aC Z (Y.c5.cell Z) (aT Z Z bx.row (L.o (aH (el:=51) (parts:=[(0,.tmp 134)]) (vs:=[(0,_)]) (cs:=u.cells) Z (fun w=>by kernel_rfl) (fun cp a4 ate atf aeL aof=>?_)))))))
  have Tz:=Y.ext aeL
  have aaT:=a3.ext aeL
  refine L.o (dJ (size:=6) (bytes:=104) runUnderlying23 Tryz.Ig Z Z Z Z dcX rfl rfl Tz.row (Sl.bI (lo:=0) (n:=1) (sz:=6) aof Z leX dcX lzX) (aaT.ok.one) omX (by simp only [maxLen];omega) (by have:=ES.size;have:=aeL.size;omega) (fun a5 aa alT Vy=>?_))
  have ao:∀ b',b'<M.heap.size→∀ j,uv.ownBlock=some j→j≠b':=fun b' cq j F=>by have:=(qG Tz.row F).1;omega
  have G:a5.oneCell'=true:=Sl.one (Sl.dD alT)
  have aog:Ext w a4:=(I.trans ES).trans aeL
  have aoh:Ext w aa:=aog.jg Tz.row Vy (by have:=qE.size;omega)
  refine L.fa Z (L.o (bP sizeOf23 G Z Z (Tz.c5.grown Vy (ao b5 IE)) (by simp [Value.cells,ofT]) (fun ap UY aeM=>?_)))
  replace UY:Upd b5 aa ap:=UY
  have aq:Loc (.slice (some ⟨b5,0,none⟩) 0 0) aa ap:=Loc.qL UY rfl
  have ar:∀ {base:Nat} {v:Value} {xs:List Int},M.heap.size≤base→rU base aa v xs→∀ b,v.ownBlock=some b→(Value.slice (some ⟨b5,0,none⟩) 0 0).ownBlock≠some b:=fun hb h b h1 e=>by have e':b5=b:=Option.some.inj e;have:=(h.lt h1).1;omega
  have Yy:=iK.size
  have mv:∀ x,zx M.heap.size a4 x→zx M.heap.size ap x:=fun x hx=>⟨(hx.g.row Tz.row Vy (m:=0)).loc aq (ar leX (hx.g.row Tz.row Vy (m:=0))),(hx.v.row Tz.row Vy (m:=0)).loc aq (ar leX (hx.v.row Tz.row Vy (m:=0))),(hx.p.row Tz.row Vy (m:=0)).loc aq (ar leX (hx.p.row Tz.row Vy (m:=0))),hx.n⟩
  refine ak (T.blk (aA (L.m Z (bF Z Z (ah Z (aP ((i+1,a5,us ++ [u])) omX ⟨rfl,rfl,rfl,rfl,rfl,rfl,trivial⟩ ⟨omX,aoh.upd UY (.inr omX),?_,⟨(Tz.d2.grown Vy (ao b2 omX)).upd UY omX,(Tz.c4.grown Vy (ao b4 omX)).upd UY omX,aeM,?_,fun x hx=>?_⟩,by simp [W],fun j F=>?_⟩))))))
  ·have:=ES.size
   have:=aeL.size
   have:=Vy.size
   have:=UY.size
   omega
  ·rw [List.length_append,List.length_singleton,rO,vk];exact lF alT UY IE
  ·rcases List.mem_append.1 hx with hx|hx
   ·exact mv x (Tz.own x hx)
   rw [List.mem_singleton.1 hx];exact mv u (aaT.mono omX)
  by_cases e:j=i
  ·subst e
   rw [show (us ++ [u]).getD j u0=u by rw [aX (by simp;omega)];simp [W]]
   rw [H];exact ⟨rfl,rfl,rfl,rfl,rfl,rfl⟩
  rw [show (us ++ [u]).getD j u0=us.getD j u0 by rw [aX (by simp;omega),aX omX];simp [show j<us.length by omega]]
  exact ac j omX
 refine ak (?_)
 obtain rfl:i=n:=by omega
 refine bn (aY Z (au (aT Z Z r.c5.row (?_))))
 have aoi:uv.oneCell'=true:=Sl.one (Sl.dD r.row)
 refine L.o (aK sizeOf25 Z Z Z r.c4 leX (by intro u H;simp at H;rcases H with (rfl|rfl|rfl|rfl);rfl;rfl;rfl;exact aoi) (fun w8 R ad=>?_))
 have bz:Blk w8 b4 [.int .i64 (d.g % 3),.int .i64 (d.p % 4),.int .i64 (d.l % 4),uv] 25:=ad
 replace R:Upd b4 w7 w8:=R
 have bA:=lF r.row R omX
 refine ak (jZ results70 isAgg25 sizeOf25 Z Z bz.row ⟨I.upd R (.inr omX),⟨d.g % 3,d.p % 4,d.l % 4,uv,us⟩,rfl,⟨(Sl.dD bA).mono omX,fun u H=>?_⟩,rfl,rfl,rfl,W,ac⟩)
 have S:Loc (.slice (some ⟨b4,0,none⟩) 0 0) w7 w8:=Loc.qL R rfl
 have ho:=r.own u H
 have key:∀ {v:Value} {xs:List Int},rU M.heap.size w7 v xs→∀ b,v.ownBlock=some b→(Value.slice (some ⟨b4,0,none⟩) 0 0).ownBlock≠some b:=fun h b hb e=>by have e':b4=b:=Option.some.inj e;have:=(h.lt hb).1;omega
 exact (show zx M.heap.size w8 u from ⟨ho.g.loc S (key ho.g),ho.v.loc S (key ho.v),ho.p.loc S (key ho.p),ho.n⟩).ok.mono omX
theorem IG {C:Cx} {e:Env} {K:Value→World→Prop} {d:Option Tmp} {ty:TypeId} {pos:String} {aft:Array Edge} {g:Option (Nat × Bool)} {x:Operand} {t:TypeId} {cs vs:List Value} {fs:Array Field} {i n:Nat} {f:Field} (b:∀ w,(underlying t).run C.P w = .ok (.struct fs) w) (hf:fs[i]?=some f) (c:∀ w,(isAgg f.type).run C.P w = .ok true w) (hs:∀ w,(sizeOf f.type).run C.P w = .ok n w)
  (hx:ev e x=some (.agg cs.toArray)) (hv:(cs.drop f.offset).take n=vs) (h:K (.agg vs.toArray) w):O C e ⟨d,.field t x i,ty,pos,aft,g⟩ w K:=by
 have e1:cs.toArray.extract f.offset (f.offset+n)=vs.toArray:=by
  rw [List.extract_toArray,List.extract_eq_take_drop,Nat.add_sub_cancel_left,hv]
 exact bD spX (fun a ha=>by simp [execOp,Instr.field,ha.eval hx,b w,hf,asAgg,Go.part,c w,hs w,hv]) h
structure Vz (d:Dr) (n:Nat) (r:RoV):Prop where
 n1:1≤n
 n2:n≤24
 g:r.G=d.g % 3
 p:r.P=d.p % 4
 l:r.L=d.l % 4
 len:r.us.length=n
 u:∀ i,i<n→DU d (d.g % 3).toNat (d.p % 4).toNat (d.l % 4).toNat n i (r.us.getD i u0)
def VA (d:Dr) (n base:Nat) (v:Value) (w:World):Prop:=∃ r:RoV,v=r.val∧r.ok base w∧Vz d n r
theorem VA.st {d:Dr} {n:Nat} : ∀ v w w',Ext w w'→VA d n base v w→VA d n base v w':=fun _ _ _ a ⟨r,b,c,e⟩=>⟨r,b,c.ext a,e⟩
theorem RoV.ok.mono {lo a:Nat} {w:World} {r:RoV} (h:r.ok lo w) (b:a≤lo):r.ok a w:=Units.mono h b
theorem RoV.ok.one {lo:Nat} {w:World} {r:RoV} (h:r.ok lo w):r.uv.oneCell'=true:=Sl.one h.sl
theorem RoV.ok.loc {lo b:Nat} {w':World} {r:RoV} (h:r.ok lo w) (a:Upd b w w') (hb:b<lo):r.ok lo w':=h.keep (lo:=lo) ((Keep.refl lo w).upd a (.inl hb))
end Go.Proofs.YtnlonpcbgjbbaaaGreatDoor
