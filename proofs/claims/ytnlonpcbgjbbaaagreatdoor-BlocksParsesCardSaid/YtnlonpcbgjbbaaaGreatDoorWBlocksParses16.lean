/-
  BlocksParses, part 16 of its proof: that it returns true for every input, and each argument reads behind the call as it read before. Conditions: the listed variables read as the program's text lays them (tied by the card).
-/
import Derived.Test.YtnlonpcbgjbbaaaGreatDoorWBlocksParses14
import Derived.Test.YtnlonpcbgjbbaaaGreatDoorWBlocksParses7
import Derived.Test.YtnlonpcbgjbbaaaGreatDoorWBlocksParses15
set_option linter.unusedVariables false
set_option linter.unusedSimpArgs false
set_option maxRecDepth 20000
namespace Go.Proofs.YtnlonpcbgjbbaaaGreatDoor
open Go.Proofs.Tryz
open Go Go.E
attribute [local irreducible] Go.E.T Go.E.L Go.E.O Go.E.Ob
attribute [local irreducible] Go.E.ObX
open Geo (Fc Match QX DC)
variable {c:CxV} {cs:List Int} {W base i k:Nat} {a b:RoV} {w w':World}
def U1 (base:Nat) (r:RiV) (w:World):Prop:=∃ b,r.v = .slice (some ⟨b,0,none⟩) r.xs.length r.xs.length∧base≤b∧r.xs.length≤1000∧Blk w b (r.xs.map (Value.int .i64)) 3
def FaB (base:Nat) (f:FaV) (w:World):Prop:=U1 base f.o w∧(f.hv = .slice none 0 0∧f.hs = []∨∃ b h,f.hv = .slice (some ⟨b,0,none⟩) 1 1∧f.hs = [h]∧base≤b∧Blk w b [h.v] 30∧U1 base h w)
theorem U1.ext {base:Nat} {r:RiV} {w w':World} (h:U1 base r w) (k:Ext w w'):U1 base r w':=by
 obtain ⟨b,a,c,d,e⟩:=h;exact ⟨b,a,c,d,Blk.ext (cs:=r.xs.map (Value.int .i64)) e k⟩
theorem U1.upd {base b:Nat} {r:RiV} {w w':World} (h:U1 base r w) (k:Upd b w w') (hb:b<base):U1 base r w':=by
 obtain ⟨b',a,c,d,e⟩:=h;exact ⟨b',a,c,d,Blk.upd (cs:=r.xs.map (Value.int .i64)) e k omX⟩
theorem FaB.ext {base:Nat} {f:FaV} {w w':World} (h:FaB base f w) (k:Ext w w'):FaB base f w':=by
 refine ⟨h.1.ext k,?_⟩
 rcases h.2 with a|⟨b,x,c,a,d,e,g⟩
 ·exact .inl a
 exact .inr ⟨b,x,c,a,d,Blk.ext (cs:=[x.v]) e k,g.ext k⟩
theorem FaB.upd {base b:Nat} {f:FaV} {w w':World} (h:FaB base f w) (k:Upd b w w') (hb:b<base):FaB base f w':=by
 refine ⟨h.1.upd k hb,?_⟩
 rcases h.2 with a|⟨b',x,c,a,d,e,g⟩
 ·exact .inl a
 exact .inr ⟨b',x,c,a,d,Blk.upd (cs:=[x.v]) e k omX,g.upd k hb⟩
theorem Jp {n sz b:Nat} {el t:TypeId} {v:Value} {xs cs:List Value} (h:w.ownsRow base el sz v n xs) (hb:Blk w b cs t) (c:el≠t):∀ j,v.ownBlock=some j→j≠b:=by
 intro j a e
 subst e
 rcases h.2 with ⟨hv,_⟩|⟨g,cap,cur,hv,_,d,_⟩
 ·subst hv;cases a
 subst hv
 cases a
 unfold Blk at hb
 rw [d] at hb
 cases hb
 exact c rfl
theorem U1.grown {base a n sz:Nat} {el:TypeId} {v:Value} {xs:List Value} {r:RiV} {w w':World} (h:U1 base r w) (hO:w.ownsRow a el sz v n xs) (hG:w.grownBy w' v.ownBlock) (c:el≠3):U1 base r w':=by
 obtain ⟨b',d,e,f,b⟩:=h
 exact ⟨b',d,e,f,Blk.grown (cs:=r.xs.map (Value.int .i64)) b hG (Jp hO b c)⟩
theorem FaB.grown {base a n sz:Nat} {el:TypeId} {v:Value} {xs:List Value} {f:FaV} {w w':World} (h:FaB base f w) (hO:w.ownsRow a el sz v n xs) (hG:w.grownBy w' v.ownBlock) (d:el≠3) (b:el≠30):FaB base f w':=by
 refine ⟨h.1.grown hO hG d,?_⟩
 rcases h.2 with c|⟨b',x,g,c,i,e,j⟩
 ·exact .inl c
 exact .inr ⟨b',x,g,c,i,Blk.grown (cs:=[x.v]) e hG (Jp hO e b),j.grown hO hG d⟩
def FsB (base:Nat) (v:Value) (fs:List FaV) (w:World):Prop:=w.ownsRow base 127 2 v fs.length (fO fs)∧∀ f∈fs,FaB base f w
theorem FsB.nil (base:Nat) (w:World):FsB base (.slice none 0 0) [] w:=⟨iF _ _ _ _,fun _ h=>by cases h⟩
theorem FsB.upd {base b:Nat} {v:Value} {fs:List FaV} {w w':World} (h:FsB base v fs w) (k:Upd b w w') (hb:b<base):FsB base v fs w':=⟨lF h.1 k hb,fun f hf=>(h.2 f hf).upd k hb⟩
theorem Uc (a b:List FaV):fO (a++b)=fO a++fO b:=by simp [fO]
theorem FsB.app {m:Nat} {v a:Value} {fs ns:List FaV} {news:List Value} {wL:World} (h:FsB base v fs w) (k:Ext w wL) (hG:wL.grownBy w' v.ownBlock) (hO:w'.ownsRow base 127 2 a (fs.length+m) (fO fs++news)) (hn:∀ f∈ns,FaB base f wL) (b:news=fO ns) (c:m=ns.length):FsB base a (fs++ns) w':=by
 subst b c
 refine ⟨by rw [List.length_append,Uc];exact hO,fun f hf=>?_⟩
 have hL:=cO h.1 k lzX
 rcases List.mem_append.1 hf with hf|hf
 ·exact ((h.2 f hf).ext k).grown hL hG dcX dcX
 exact (hn f hf).grown hL hG dcX dcX
theorem FaB.ok {base:Nat} {f:FaV} {w:World} (h:FaB base f w):f.ok base w:=by
 have N:∀ {r:RiV},U1 base r w→Ints .i64 base w r.v r.xs:=fun ⟨b,c,a,e,d⟩=>by rw [c];exact Ints.bI d rfl (by unfold maxLen;omega) a
 refine ⟨N h.1,?_,?_⟩
 ·rcases h.2 with ⟨c,a⟩|⟨b,x,c,a,e,d,g⟩
  ·rw [c,a];exact ⟨by simp [dw],none,0,rfl,Nat.le_refl _,dcX,.inl rfl⟩
  rw [c,a];exact Sl.bI d rfl leX dcX e
 intro x hx
 rcases h.2 with ⟨c,a⟩|⟨b,y,c,a,e,d,g⟩
 ·rw [a] at hx;cases hx
 rw [a] at hx
 simp only [List.mem_cons,List.mem_nil_iff,or_false] at hx
 subst hx;exact N g
theorem DN {fs ns:List FaV} {gs hs:List Fc} {n:Nat} (h:Match fs gs n) (c:ns.length=hs.length) (hn:∀ j,j<hs.length→(ns.getD j f0).o.xs=(hs.getD j ⟨.q,0,0⟩).ring n∧(ns.getD j f0).hs = []):Match (fs++ns) (gs++hs) n:=by
 refine ⟨by rw [List.length_append,List.length_append,h.len,c],fun j d=>?_⟩
 rw [List.length_append] at d
 have hL:=h.len
 rcases Nat.lt_or_ge j gs.length with a|b
 ·have:=h.at' j a
  rw [List.getD_eq_getElem?_getD,List.getElem?_append_left omX,← List.getD_eq_getElem?_getD,List.getD_eq_getElem?_getD (l:=gs++hs),List.getElem?_append_left a,← List.getD_eq_getElem?_getD]
  exact this
 have:=hn (j-gs.length) omX
 rw [List.getD_eq_getElem?_getD,List.getElem?_append_right omX,← List.getD_eq_getElem?_getD,List.getD_eq_getElem?_getD (l:=gs++hs),List.getElem?_append_right b,← List.getD_eq_getElem?_getD,hL]
 exact this
theorem WZ (n:Nat):Match [] [] n:=⟨rfl,fun j a=>absurd a (Nat.not_lt_zero _)⟩
theorem ZC (W k i:Nat):(⟨.s,i,k⟩:Fc).ring W = [(k:Int)*((W:Int)+1)+i,(k:Int)*((W:Int)+1)+i+1,(k:Int)*((W:Int)+1)+i+W+1+1]∧(⟨.t,i,k⟩:Fc).ring W = [(k:Int)*((W:Int)+1)+i,(k:Int)*((W:Int)+1)+i+W+1+1,(k:Int)*((W:Int)+1)+i+W+1]∧(⟨.q,i,k⟩:Fc).ring W = [(k:Int)*((W:Int)+1)+i,(k:Int)*((W:Int)+1)+i+1,(k:Int)*((W:Int)+1)+i+W+1+1,(k:Int)*((W:Int)+1)+i+W+1]∧(⟨.u,i,k⟩:Fc).ring W = [(k:Int)*((W:Int)+1)+i+W+1+1,(k:Int)*((W:Int)+1)+i+W+1,(k:Int)*((W:Int)+1)+i,(k:Int)*((W:Int)+1)+i+1]:=by
 have e:∀ a b:Nat,((Geo.ix W a b:Nat):Int)=(b:Int)*((W:Int)+1)+a:=fun a b=>by
  unfold Geo.ix
  rw [Int.natCast_add,Int.natCast_mul,Int.mul_comm];rfl
 have e1:((k+1:Nat):Int)*((W:Int)+1)=(k:Int)*((W:Int)+1)+((W:Int)+1):=by
  rw [show ((k+1:Nat):Int)=(k:Int)+1 by omega,Int.add_mul,Int.one_mul]
 refine ⟨?_,?_,?_,?_⟩ <;> simp only [Fc.ring,Fc.vs,List.map_cons,List.map_nil,e,e1] <;> generalize (k:Int)*((W:Int)+1)=a <;> simp only [List.cons.injEq,and_true,true_and] <;> (repeat' apply And.intro) <;> omega
open Geo (Fc Match QX DC xAt yAt rowP BM tH Kr Kt)
def dW (d:Dr):Nat:=if d.ho then 3 else (1+d.wd % 4).toNat
def dH (d:Dr):Nat:=if d.ho then 3 else (1+d.hi % 3).toNat
def CxQ (w:World) (d:Dr) (v:Value) (w':World):Prop:=Ext w w'∧∃ c:CxV,v=c.val∧c.ok w.heap.size w'∧DC c (dW d) (dH d) d.ho d.ss d.cs∧(1≤dW d∧dW d≤4)∧1≤dH d∧dH d≤3
theorem CxQ.of {d:Dr} (hE:Ext w w') (hb:w.heap.size≤base) (a:w'.ownsRow base 124 2 c.pv c.ps.length (pcs c.ps)) (hf:FsB base c.fv c.fs w') (b:DC c (dW d) (dH d) d.ho d.ss d.cs) (hW:1≤dW d∧dW d≤4) (hH:1≤dH d∧dH d≤3):CxQ w d c.val w' :=
 ⟨hE,c,rfl,⟨(Sl.dD a).mono hb,(Sl.dD hf.1).mono hb,fun f h=>by
  have:=(hf.2 f h).ok
  exact ⟨this.o.mono hb,Sl.mono this.sl hb,fun x hx=>(this.hs x hx).mono hb⟩⟩,b,hW,hH⟩
theorem afw {gs:List Fc} (h:Fq cs (k*W+i) % 8=0):tH cs W k i gs=gs ++ [⟨.s,i,k⟩,⟨.t,i,k⟩]:=by unfold Geo.tH;rw [if_pos h]
theorem afx {gs:List Fc} (h0:¬ Fq cs (k*W+i) % 8=0) (h:Fq cs (k*W+i) % 8=1) (a:gs ≠ []):tH cs W k i gs=gs:=by unfold Geo.tH;rw [if_neg h0,if_pos h,if_neg a]
theorem acQ (h0:¬ Fq cs (k*W+i) % 8=0) (h:Fq cs (k*W+i) % 8=1):tH cs W k i [] = [⟨.u,i,k⟩]:=by unfold Geo.tH;rw [if_neg h0,if_pos h,if_pos rfl]
theorem afy {gs:List Fc} (h0:¬ Fq cs (k*W+i) % 8=0) (h:¬ Fq cs (k*W+i) % 8=1):tH cs W k i gs=gs ++ [⟨.q,i,k⟩]:=by unfold Geo.tH;rw [if_neg h0,if_neg h]
theorem MS {b:Nat} {xs:List Int} {n:Nat} {cs:List Value} (hb:Blk w b cs 3) (a:cs=xs.map (Value.int .i64)) (hn:xs.length=n) (c:n≤1000) (h:base≤b):FaB base ⟨⟨.slice (some ⟨b,0,none⟩) n n,xs⟩,.slice none 0 0,[]⟩ w:=by
 subst a hn
 exact ⟨⟨b,rfl,h,c,hb⟩,.inl ⟨rfl,rfl⟩⟩
set_option maxHeartbeats 4000000 in
theorem FP (lo:Nat) (d:Dr) (w:World) (hd:d.ok lo w) :
  Calls Tryz.prog 69 #[.agg (wu d).toArray] w (Ret fun v w'=>CxQ w d v w'):=by
 refine aJ (vs:=[.agg (wu d).toArray]) func69 Z ntmps69 Z ?_
 refine au (bM Z (fun b1 w1 bD bE bb hB1=>?_))
 refine L.o (O.alloc zeroValue46 (fun b2 w2 bJ bK a1 hB2=>?_))
 have xq:=bb.trans a1
 have hD2:Blk w2 b1 (wu d) 56:=Blk.ext (cs:=wu d) hB1 a1
 have a2:Blk w2 b2 [.slice none 0 0,.slice none 0 0] 46:=hB2
 have bz:=hD2.lt
 have bA:=a2.lt
 have bc:=hd.w0
 have bd:=hd.h0
 unfold QG at bc bd
 refine ak (aj (?_))
 refine dn mixed 11 [1] Z [.is _,.is _,.is _,.is _,.is _,.is _,.is _,.is _,.is _,.is _,.is _] [[],[0],[1],[2],[3],[],[5],[6],[7],[8],[4]] trivial ⟨fun wx hx=>Ob.fa rfl,
   fun wx hx=>aS rfl ((hD2.ext hx).cell rfl),
   fun wx hx=>Ob.o (fG Z Z omX omX kR),
   fun wx hx=>Ob.o (dO Z (fun w=>⟨_,runUnderlying5 w⟩) runUnderlying3 (IntWalk.i64_in _ ⟨omX,omX⟩) kR),
   fun wx hx=>Ob.o (bG Z Z omX kR),
   fun wx hx=>Ob.fa rfl,
   fun wx hx=>aS rfl ((hD2.ext hx).cell rfl),
   fun wx hx=>Ob.o (fG Z Z omX omX kR),
   fun wx hx=>Ob.o (dO Z (fun w=>⟨_,runUnderlying5 w⟩) runUnderlying3 (IntWalk.i64_in _ ⟨omX,omX⟩) kR),
   fun wx hx=>Ob.o (bG Z Z omX kR),
   fun wx hx=>Ob.sg rfl,
   trivial⟩ (fun w3 ad=>?_)
 refine ah Z (aj (au (aC Z ((hD2.ext ad).cell Z) (?_))))
 have kZ:=xq.trans ad
 refine ak (?_)
 refine dS (σ:=Int × Int) (fun s=>[(1,.pointer (some ⟨b1,0,none⟩)),(2,.pointer (some ⟨b2,0,none⟩)),(3,.int .i64 s.1),(4,.int .i64 s.2)]) (fun s w'=>w'=w3∧s.1=dW d∧s.2=dH d) ?_ ?_
 ·rcases D:d.ho with _|_
  ·refine bn (T.skip (bC ((1+d.wd % 4,1+d.hi % 3)) ⟨rfl,rfl,rfl,rfl,trivial⟩ ⟨rfl,by simp only [dW,D];show 1+d.wd % 4=(((1+d.wd % 4).toNat:Nat):Int);omega,by simp only [dH,D];show 1+d.hi % 3=(((1+d.hi % 3).toNat:Nat):Int);omega⟩))
  refine aZ (aA (L.a Z (ah Z (bC ((3,3)) ⟨rfl,rfl,rfl,rfl,trivial⟩ ⟨rfl,by simp only [dW,D];rfl,by simp only [dH,D];rfl⟩))))
 rintro ⟨Wi,Hi⟩ w4 ⟨rfl,hW1,hH1⟩
 simp only at hW1 hH1
 subst hW1 hH1
 obtain ⟨Wn,P⟩:∃ Wn,Wn=dW d:=⟨_,rfl⟩
 obtain ⟨Hn,Q⟩:∃ Hn,Hn=dH d:=⟨_,rfl⟩
 rw [← P,← Q]
 have be:1≤Wn∧Wn≤4:=by rw [P];unfold dW;split <;> omega
 have bg:1≤Hn∧Hn≤3:=by rw [Q];unfold dH;split <;> omega
 obtain ⟨hW1,hW2⟩:=be
 obtain ⟨hH1,hH2⟩:=bg
 have apm:Wn≤4:=hW2
 refine au (L.o (bU (v:=.agg #[.slice none 0 0,.slice none 0 0]) (parts:=[]) (vs:=[]) Z (fun w=>by kernel_rfl) (L.o (O.alloc zeroValue46 (fun b5 w5 bL bN bh bi=>?_)))))
 refine L.o (aK sizeOf46 Z Z Z bi leX (by intro u hu;simp at hu;rcases hu with (rfl|rfl) <;> rfl) (fun q ar bj=>?_))
 replace ar:Upd b5 w5 q:=ar
 have bO:=ad.size
 have Ap:Ext w4 q:=bh.upd ar (.inr omX)
 have qE:=kZ.trans Ap
 have a3:Blk q b5 [.slice none 0 0,.slice none 0 0] 46:=bj
 have IE:=a3.lt
 have bQ:=ar.size
 have atu:=xq.size
 have hD6:Blk q b1 (wu d) 56:=(hD2.ext ad).ext Ap
 have bk:=(a2.ext ad).ext Ap
 refine ak (au (ah Z (aj (au (ah Z (T.block (?_)))))))
 refine bf (σ:=Nat × Value) (fun s=>[(1,.pointer (some ⟨b1,0,none⟩)),(2,.pointer (some ⟨b2,0,none⟩)),(3,.int .i64 Wn),(4,.int .i64 Hn),(5,.pointer (some ⟨b5,0,none⟩)),(6,.int .i64 (yAt d.ss s.1)),(7,.int .i64 s.1)]) (fun s w'=>s.1≤Hn+1∧Ext w w'∧q.heap.size≤w'.heap.size∧Blk w' b1 (wu d) 56∧Blk w' b2 [.slice none 0 0,.slice none 0 0] 46∧Blk w' b5 [s.2,.slice none 0 0] 46∧w'.ownsRow q.heap.size 124 2 s.2 (BM d.ss Wn s.1).length (pcs (BM d.ss Wn s.1))) (fun s=>Hn+1-s.1) ((0,.slice none 0 0)) ⟨rfl,rfl,rfl,rfl,rfl,rfl,rfl,trivial⟩ ⟨Nat.zero_le _,qE,Nat.le_refl _,hD6,bk,a3,iF _ _ _ _⟩ ?_
 rintro ⟨k,pv⟩ w7 ⟨hk,aD,a4,hD7,aE,ae,af⟩
 simp only at hk ae af
 have hy:=Geo.V7 d.ss k
 refine aj (au (aN Z Z (L.o (fB Z Z (fun bl=>?_) (fun bl=>?_)))))
 ·refine ak (?_)
  have Om:k≤Hn:=by omega
  refine aZ (T.skip (aj (T.block (au (ah Z (aj (au (ah Z (T.block (?_))))))))))
  refine bf (σ:=Nat × Value) (fun s=>[(1,.pointer (some ⟨b1,0,none⟩)),(2,.pointer (some ⟨b2,0,none⟩)),(3,.int .i64 Wn),(4,.int .i64 Hn),(5,.pointer (some ⟨b5,0,none⟩)),(6,.int .i64 (yAt d.ss k)),(7,.int .i64 k),(8,.int .i64 (xAt d.ss s.1)),(9,.int .i64 s.1)]) (fun s w'=>s.1≤Wn+1∧Ext w w'∧q.heap.size≤w'.heap.size∧Blk w' b1 (wu d) 56∧Blk w' b2 [.slice none 0 0,.slice none 0 0] 46∧Blk w' b5 [s.2,.slice none 0 0] 46∧w'.ownsRow q.heap.size 124 2 s.2 (BM d.ss Wn k++rowP d.ss k s.1).length (pcs (BM d.ss Wn k++rowP d.ss k s.1))) (fun s=>Wn+1-s.1) ((0,pv)) ⟨rfl,rfl,rfl,rfl,rfl,rfl,rfl,rfl,rfl,trivial⟩ ⟨Nat.zero_le _,aD,a4,hD7,aE,ae,by simpa [Geo.rowP] using af⟩ ?_
  rintro ⟨i,a5⟩ w8 ⟨hi,E,ag,ai,al,F,R⟩
  simp only at hi F R
  have hx:=Geo.V6 d.ss i
  have hLn:(BM d.ss Wn k++rowP d.ss k i).length≤100:=by
   rw [List.length_append,Geo.QY,Geo.I4]
   have:(Wn+1)*k≤5*4:=Nat.mul_le_mul omX omX
   omega
  refine aj (au (aN Z Z (L.o (fB Z Z (fun bm=>?_) (fun bm=>?_)))))
  ·refine ak (?_)
   have bR:i≤Wn:=by omega
   refine aZ (T.skip (aj (T.block (au (aC Z (F.cell Z) (aN Z Z (L.o (bU (v:=.agg #[.int .i64 (xAt d.ss i),.int .i64 (yAt d.ss k)]) (parts:=[(0,.tmp 39),(1,.tmp 40)]) (vs:=[(0,_),(1,_)]) Z (fun w=>by kernel_rfl) (L.o (aH (el:=124) (parts:=[(0,.tmp 41)]) (vs:=[(0,_)]) (cs:=[.int .i64 (xAt d.ss i),.int .i64 (yAt d.ss k)]) Z (fun w=>by kernel_rfl) (fun b9 w9 bo am g aF=>?_)))))))))))
   have z:=cO R g lzX
   refine L.o (dJ (size:=2) (bytes:=16) runUnderlying43 Tryz.tY Z Z Z Z dcX rfl rfl z (Sl.bI (lo:=0) (n:=1) (sz:=2) aF Z leX dcX lzX) (by intro c G;simp at G;rcases G with (rfl|rfl) <;> rfl) omX (by simp only [maxLen];omega) (by have:=g.size;omega) (fun av aw aeb afz=>?_))
   have l:∀ b',b'<q.heap.size→∀ j,a5.ownBlock=some j→j≠b':=fun b' ax j H=>by have:=(qG R H).1;omega
   have aaW:av.oneCell'=true:=Sl.one (Sl.dD aeb)
   have aiC:Ext w aw:=(E.trans g).jg z afz (by have:=qE.size;omega)
   refine L.fa Z (L.o (bP sizeOf43 aaW Z Z ((F.ext g).grown afz (l b5 IE)) (by simp [Value.cells,ofT]) (fun r nU rD=>?_)))
   replace nU:Upd b5 aw r:=nU
   have ahf:=((ai.ext g).grown afz (l b1 omX)).upd nU omX
   have Ud:=((al.ext g).grown afz (l b2 omX)).upd nU omX
   have J7:Ext w r:=aiC.upd nU (.inr omX)
   have a6:=hd.ext J7
   have aG:=IB hd.sl i
   have ain:w8.heap.size≤r.heap.size:=by have:=g.size;have:=afz.size;have:=nU.size;omega
   refine ak (aA (aO Z (bG Z Z (by (try dsimp only);omega) (aC Z (ahf.cell Z) (aO Z (ay (xs:=[.tmp 48,.tmp 49]) call125 Z Z (vw lo d.sv d.ss i r a6.s hd.sl omX) (fun S B U=>?_)))))))
   obtain ⟨rfl,rfl⟩:=U
   refine L.o (fG Z Z omX omX (L.o (bG Z Z (by (try dsimp only);omega) (ah Z (T.blk (aA (aO Z (bG Z Z (by (try dsimp only);omega) (ah Z (aP ((i+1,av)) omX ⟨rfl,rfl,rfl,rfl,rfl,rfl,rfl,rfl,rfl,trivial⟩ ⟨omX,J7,omX,ahf,Ud,rD,?_⟩))))))))))
   ·have h:=lF aeb nU IE
    have e:BM d.ss Wn k++rowP d.ss k (i+1)=(BM d.ss Wn k++rowP d.ss k i) ++ [(xAt d.ss i,yAt d.ss k)]:=by rw [Geo.rowP,List.append_assoc]
    show World.ownsRow B _ _ _ av (BM d.ss Wn k++rowP d.ss k (i+1)).length (pcs (BM d.ss Wn k++rowP d.ss k (i+1)))
    rw [e,List.length_append,zA,O3]
    exact h
  refine ak (?_)
  obtain rfl:i=Wn+1:=by omega
  have bp:=hd.ext E
  have aG:=IB hd.sl (7+k)
  refine bn (aY Z (aA (aO Z (bG Z Z (by (try dsimp only);omega) (aC Z (ai.cell Z) (aO Z (bG Z Z (by (try dsimp only);omega) (?_))))))))
  rw [show (7:Int)+(k:Int)=((7+k:Nat):Int) by omega]
  refine L.o (ay (xs:=[.tmp 56,.tmp 58]) call125 Z Z (vw lo d.sv d.ss (7+k) w8 bp.s hd.sl omX) (fun v9 w9 U=>?_))
  obtain ⟨rfl,rfl⟩:=U
  refine L.o (fG Z Z omX omX (L.o (bG Z Z (by (try dsimp only);omega) (ah Z (T.blk (aA (aO Z (bG Z Z (by (try dsimp only);omega) (ah Z (aP ((k+1,a5)) omX ⟨rfl,rfl,rfl,rfl,rfl,rfl,rfl,trivial⟩ ⟨omX,E,ag,ai,al,F,R⟩))))))))))
 refine ak (?_)
 obtain rfl:k=Hn+1:=by omega
 refine bn (aY Z (aj (au (aC Z (hD7.cell Z) (?_)))))
 have atv:=qE.size
 have aB:pv.oneCell'=true:=Sl.one (Sl.dD af)
 rcases D:d.ho with _|_
 ·refine aU (T.skip (aj (au (ah Z (T.block (?_))))))
  refine bf (σ:=Nat × Value × List FaV) (fun s=>[(1,.pointer (some ⟨b1,0,none⟩)),(2,.pointer (some ⟨b2,0,none⟩)),(3,.int .i64 Wn),(4,.int .i64 Hn),(5,.pointer (some ⟨b5,0,none⟩)),(10,.int .i64 s.1)]) (fun s w'=>s.1≤Hn∧Ext w w'∧q.heap.size≤w'.heap.size∧Blk w' b1 (wu d) 56∧Blk w' b2 [.slice none 0 0,.slice none 0 0] 46∧Blk w' b5 [pv,s.2.1] 46∧FsB q.heap.size s.2.1 s.2.2 w'∧w'.ownsRow q.heap.size 124 2 pv (BM d.ss Wn (Hn+1)).length (pcs (BM d.ss Wn (Hn+1)))∧Match s.2.2 (Kt d.cs Wn s.1) Wn) (fun s=>Hn-s.1) ((0,.slice none 0 0,[])) ⟨rfl,rfl,rfl,rfl,rfl,rfl,trivial⟩ ⟨Nat.zero_le _,aD,a4,hD7,aE,ae,FsB.nil _ _,af,WZ _⟩ ?_
  rintro ⟨k,fv,fs⟩ w8 ⟨bq,E,ag,ai,al,F,az,R,aI⟩
  simp only at bq F az aI
  refine aj (au (aN Z Z (bH Z Z (fun a7=>?_) (fun a7=>?_))))
  ·refine ak (?_)
   have apn:k<Hn:=by omega
   refine aZ (T.skip (aj (T.block (au (ah Z (T.block (?_)))))))
   refine bf (σ:=Nat × Value × List FaV) (fun s=>[(1,.pointer (some ⟨b1,0,none⟩)),(2,.pointer (some ⟨b2,0,none⟩)),(3,.int .i64 Wn),(4,.int .i64 Hn),(5,.pointer (some ⟨b5,0,none⟩)),(10,.int .i64 k),(11,.int .i64 s.1)]) (fun s w'=>s.1≤Wn∧Ext w w'∧q.heap.size≤w'.heap.size∧Blk w' b1 (wu d) 56∧Blk w' b2 [.slice none 0 0,.slice none 0 0] 46∧Blk w' b5 [pv,s.2.1] 46∧FsB q.heap.size s.2.1 s.2.2 w'∧w'.ownsRow q.heap.size 124 2 pv (BM d.ss Wn (Hn+1)).length (pcs (BM d.ss Wn (Hn+1)))∧Match s.2.2 (Kr d.cs Wn k (Kt d.cs Wn k) s.1) Wn) (fun s=>Wn-s.1) ((0,fv,fs)) ⟨rfl,rfl,rfl,rfl,rfl,rfl,rfl,trivial⟩ ⟨Nat.zero_le _,E,ag,ai,al,F,az,R,aI⟩ ?_
   rintro ⟨i,I,ab⟩ w9 ⟨br,g,am,ac,an,C,V,J,K⟩
   simp only at br C V K
   refine aj (au (aN Z Z (bH Z Z (fun apo=>?_) (fun apo=>?_))))
   ·refine ak (?_)
    have apq:i<Wn:=by omega
    have hm:0≤(k:Int)*((Wn:Int)+1)∧(k:Int)*((Wn:Int)+1)≤15:=⟨Int.mul_nonneg omX omX,Int.mul_le_mul (show (k:Int)≤3 by omega) (show (Wn:Int)+1≤5 by omega) omX omX⟩
    have bS:(k:Int)*(Wn:Int)=((k*Wn:Nat):Int):=by simp
    have bT:k*Wn≤12:=Nat.mul_le_mul (show k≤3 by omega) apm
    have bV:=(Geo.I5 d.cs Wn k (Kt d.cs Wn k) i).2.1
    have atw:=(Geo.BN d.cs Wn omX k).2
    have atx:2*Wn*k≤2*4*3:=Nat.mul_le_mul omX omX
    have aL:=K.len
    have bW:ab.length≤100:=by omega
    have ao:=ZC Wn k i
    obtain ⟨A,hA⟩:∃ A:Int,A=(k:Int)*((Wn:Int)+1)+(i:Int):=⟨_,rfl⟩
    rw [← hA] at ao
    have z:=V.1
    refine aZ (T.skip (aj (?_)))
    refine dS (σ:=Value × List FaV) (fun s=>[(1,.pointer (some ⟨b1,0,none⟩)),(2,.pointer (some ⟨b2,0,none⟩)),(3,.int .i64 Wn),(4,.int .i64 Hn),(5,.pointer (some ⟨b5,0,none⟩)),(10,.int .i64 k),(11,.int .i64 i)]) (fun s w'=>Ext w w'∧q.heap.size≤w'.heap.size∧Blk w' b1 (wu d) 56∧Blk w' b2 [.slice none 0 0,.slice none 0 0] 46∧Blk w' b5 [pv,s.1] 46∧FsB q.heap.size s.1 s.2 w'∧w'.ownsRow q.heap.size 124 2 pv (BM d.ss Wn (Hn+1)).length (pcs (BM d.ss Wn (Hn+1)))∧Match s.2 (Kr d.cs Wn k (Kt d.cs Wn k) (i+1)) Wn) ?_ ?_
    ·refine T.block (au (aN Z Z (L.o (bG Z Z (by (try dsimp only);omega) (L.o (dN Z Z (by (try dsimp only);omega) (aO Z (bG Z Z (by (try dsimp only);omega) (?_)))))))))
     rw [← hA]
     refine ah Z (au (aN Z Z (L.o (bG Z Z (by (try dsimp only);omega) (L.o (bG Z Z (by (try dsimp only);omega) (ah Z (au (aC Z (ac.cell Z) (aN Z Z (L.o (dN Z Z (by (try dsimp only);omega) (aO Z (bG Z Z (by (try dsimp only);omega) (L.o (ay (xs:=[.tmp 107,.tmp 112]) call125 Z Z (vw lo d.cv d.cs (k*Wn+i) w9 (hd.ext g).c hd.cl omX) (fun av aw U=>?_)))))))))))))))))
     obtain ⟨rfl,rfl⟩:=U
     have aG:=IB hd.cl (k*Wn+i)
     refine L.o (fG Z Z omX omX (ak (T.block (au (dK Z Z (fun c0=>?_) (fun c0=>?_))))))
     ·refine ah Z (aZ (aA (aC Z (C.cell Z) (aN Z Z (L.o (bG Z Z (by (try dsimp only);omega) (aO Z (bG Z Z (by (try dsimp only);omega) (L.o (aH (el:=3) (parts:=[(0,.tmp 132),(1,.tmp 134),(2,.tmp 136)]) (vs:=[(0,_),(1,_),(2,_)]) (cs:=[.int .i64 (A),.int .i64 (A+1),.int .i64 (A+(Wn:Int)+1+1)]) Z (fun w=>by kernel_rfl) (fun p r aea Yy iK rD=>?_)))))))))))
      refine L.o (bU (v:=.agg #[.slice (some ⟨p,0,none⟩) 3 3,.slice none 0 0]) (parts:=[(0,.tmp 137)]) (vs:=[(0,_)]) Z (fun w=>by kernel_rfl) (aN Z Z (L.o (bG Z Z (by (try dsimp only);omega) (aO Z (aH (el:=3) (parts:=[(0,.tmp 139),(1,.tmp 141),(2,.tmp 142)]) (vs:=[(0,_),(1,_),(2,_)]) (cs:=[.int .i64 (A),.int .i64 (A+(Wn:Int)+1+1),.int .i64 (A+(Wn:Int)+1)]) Z (fun w=>by kernel_rfl) (fun W B adY adX jD Lp=>?_)))))))
      refine L.o (bU (v:=.agg #[.slice (some ⟨W,0,none⟩) 3 3,.slice none 0 0]) (parts:=[(0,.tmp 143)]) (vs:=[(0,_)]) Z (fun w=>by kernel_rfl) (L.o (aH (el:=127) (parts:=[(0,.tmp 138),(1,.tmp 144)]) (vs:=[(0,_),(1,_)]) (cs:=[.slice (some ⟨p,0,none⟩) 3 3,.slice none 0 0,.slice (some ⟨W,0,none⟩) 3 3,.slice none 0 0]) Z (fun w=>by kernel_rfl) (fun bX X ahd Y8 iH Df=>?_))))
      have b:=((iK).trans jD).trans iH
      have t:∀ f∈([⟨⟨.slice (some ⟨p,0,none⟩) 3 3,[A,A+1,A+(Wn:Int)+1+1]⟩,.slice none 0 0,[]⟩,⟨⟨.slice (some ⟨W,0,none⟩) 3 3,[A,A+(Wn:Int)+1+1,A+(Wn:Int)+1]⟩,.slice none 0 0,[]⟩]:List FaV),FaB q.heap.size f X:=fun f hf=>by
       simp only [List.mem_cons,List.mem_nil_iff,or_false] at hf
       rcases hf with rfl|rfl
       ·exact MS (Blk.ext (cs:=[.int .i64 (A),.int .i64 (A+1),.int .i64 (A+(Wn:Int)+1+1)]) rD (jD.trans iH)) rfl rfl dcX omX
       exact MS (Blk.ext (cs:=[.int .i64 (A),.int .i64 (A+(Wn:Int)+1+1),.int .i64 (A+(Wn:Int)+1)]) Lp iH) rfl rfl dcX (by have:=iK.size;omega)
      have x:=cO z b lzX
      refine L.o (dJ (size:=2) (bytes:=48) runUnderlying44 Tryz.oW Z Z Z Z dcX rfl rfl x (Sl.bI (lo:=0) (n:=2) (sz:=2) Df Z leX dcX lzX) (by intro c G;simp at G;rcases G with (rfl|rfl|rfl|rfl) <;> rfl) omX (by simp only [maxLen];omega) (by have:=b.size;omega) (fun M y KZ Bg=>?_))
      have l:∀ b',b'<q.heap.size→∀ j,I.ownBlock=some j→j≠b':=fun b' ax j H=>by have:=(qG x H).1;omega
      have acR:∀ j,I.ownBlock=some j→pv.ownBlock=some j→False:=fun j Y h2=>by rcases own_ne z J dcX with h|h;rw [h] at Y;cases Y;exact h (Y.trans h2.symm)
      have YI:M.oneCell'=true:=Sl.one (Sl.dD KZ)
      have afA:=V.app b Bg KZ (ns:=([⟨⟨.slice (some ⟨p,0,none⟩) 3 3,[A,A+1,A+(Wn:Int)+1+1]⟩,.slice none 0 0,[]⟩,⟨⟨.slice (some ⟨W,0,none⟩) 3 3,[A,A+(Wn:Int)+1+1,A+(Wn:Int)+1]⟩,.slice none 0 0,[]⟩]:List FaV)) t rfl rfl
      refine L.fa Z (L.o (bP sizeOf44 YI Z Z ((C.ext b).grown Bg (l b5 IE)) (by simp [Value.cells,ofT]) (fun ap sD Ue=>?_)))
      replace sD:Upd b5 y ap:=sD
      have acS:Ext w y:=(g.trans b).jg x Bg omX
      have afB:World.ownsRow y _ _ _ pv _ _:=(cO J b lzX).kept Bg (by rcases U:pv.ownBlock with _|j;exact .inl rfl;exact .inr fun h=>acR j (by rw [← h]) U)
      refine ak (T.blk (T.blk (bC ((M,ab++([⟨⟨.slice (some ⟨p,0,none⟩) 3 3,[A,A+1,A+(Wn:Int)+1+1]⟩,.slice none 0 0,[]⟩,⟨⟨.slice (some ⟨W,0,none⟩) 3 3,[A,A+(Wn:Int)+1+1,A+(Wn:Int)+1]⟩,.slice none 0 0,[]⟩]:List FaV))) ⟨rfl,rfl,rfl,rfl,rfl,rfl,rfl,trivial⟩ ⟨acS.upd sD (.inr omX),by have:=b.size;have:=Bg.size;have:=sD.size;omega,((ac.ext b).grown Bg (l b1 omX)).upd sD omX,((an.ext b).grown Bg (l b2 omX)).upd sD omX,Ue,afA.upd sD IE,lF afB sD IE,?_⟩)))
      ·show Match _ (tH d.cs Wn k i (Kr d.cs Wn k (Kt d.cs Wn k) i)) Wn
       rw [afw c0];exact DN K rfl (fun j H=>by rcases (show j=0∨j=1 by simp at H;omega) with rfl|rfl;exact ⟨ao.1.symm,rfl⟩;exact ⟨ao.2.1.symm,rfl⟩)
     refine ah Z (bn (au (dK Z Z (fun c1=>?_) (fun c1=>?_))))
     ·refine ah Z (aZ (aj (au (aC Z (C.cell Z) (L.le Z (Sl.val (Sl.dD z)) (dY Z Z (fun c2=>?_) (fun c2=>?_)))))))
      ·refine ak (?_)
       have apr:Kr d.cs Wn k (Kt d.cs Wn k) i ≠ []:=fun h=>by rw [h] at aL;simp at aL;rw [aL] at c2;simp at c2
       refine aZ (aY Z (bC ((I,ab)) ⟨rfl,rfl,rfl,rfl,rfl,rfl,rfl,trivial⟩ ⟨g,am,ac,an,C,V,J,?_⟩))
       ·show Match _ (tH d.cs Wn k i (Kr d.cs Wn k (Kt d.cs Wn k) i)) Wn
        rw [afx c0 c1 apr];exact K
      refine ak (?_)
      have bs:Kr d.cs Wn k (Kt d.cs Wn k) i = []:=List.eq_nil_of_length_eq_zero omX
      refine bn (T.skip (aA (aC Z (C.cell Z) (aO Z (bG Z Z (by (try dsimp only);omega) (aN Z Z (aO Z (bG Z Z (by (try dsimp only);omega) (L.o (aH (el:=3) (parts:=[(0,.tmp 157),(1,.tmp 158),(2,.tmp 159),(3,.tmp 161)]) (vs:=[(0,_),(1,_),(2,_),(3,_)]) (cs:=[.int .i64 (A+(Wn:Int)+1+1),.int .i64 (A+(Wn:Int)+1),.int .i64 (A),.int .i64 (A+1)]) Z (fun w=>by kernel_rfl) (fun p r aea Yy iK rD=>?_)))))))))))
      refine L.o (bU (v:=.agg #[.slice (some ⟨p,0,none⟩) 4 4,.slice none 0 0]) (parts:=[(0,.tmp 162)]) (vs:=[(0,_)]) Z (fun w=>by kernel_rfl) (L.o (aH (el:=127) (parts:=[(0,.tmp 163)]) (vs:=[(0,_)]) (cs:=[.slice (some ⟨p,0,none⟩) 4 4,.slice none 0 0]) Z (fun w=>by kernel_rfl) (fun W B adY adX jD Lp=>?_))))
      have b:=(iK).trans jD
      have t:∀ f∈([⟨⟨.slice (some ⟨p,0,none⟩) 4 4,[A+(Wn:Int)+1+1,A+(Wn:Int)+1,A,A+1]⟩,.slice none 0 0,[]⟩]:List FaV),FaB q.heap.size f B:=fun f hf=>by
       simp only [List.mem_cons,List.mem_nil_iff,or_false] at hf
       subst hf
       exact MS (Blk.ext (cs:=[.int .i64 (A+(Wn:Int)+1+1),.int .i64 (A+(Wn:Int)+1),.int .i64 (A),.int .i64 (A+1)]) rD jD) rfl rfl dcX omX
      have x:=cO z b lzX
      refine L.o (dJ (size:=2) (bytes:=48) runUnderlying44 Tryz.oW Z Z Z Z dcX rfl rfl x (Sl.bI (lo:=0) (n:=1) (sz:=2) Lp Z leX dcX lzX) (by intro c G;simp at G;rcases G with (rfl|rfl) <;> rfl) omX (by simp only [maxLen];omega) (by have:=b.size;omega) (fun M y KZ Bg=>?_))
      have l:∀ b',b'<q.heap.size→∀ j,I.ownBlock=some j→j≠b':=fun b' ax j H=>by have:=(qG x H).1;omega
      have acR:∀ j,I.ownBlock=some j→pv.ownBlock=some j→False:=fun j Y h2=>by rcases own_ne z J dcX with h|h;rw [h] at Y;cases Y;exact h (Y.trans h2.symm)
      have YI:M.oneCell'=true:=Sl.one (Sl.dD KZ)
      have afA:=V.app b Bg KZ (ns:=([⟨⟨.slice (some ⟨p,0,none⟩) 4 4,[A+(Wn:Int)+1+1,A+(Wn:Int)+1,A,A+1]⟩,.slice none 0 0,[]⟩]:List FaV)) t rfl rfl
      refine L.fa Z (L.o (bP sizeOf44 YI Z Z ((C.ext b).grown Bg (l b5 IE)) (by simp [Value.cells,ofT]) (fun ap sD Ue=>?_)))
      replace sD:Upd b5 y ap:=sD
      have acS:Ext w y:=(g.trans b).jg x Bg omX
      have afB:World.ownsRow y _ _ _ pv _ _:=(cO J b lzX).kept Bg (by rcases U:pv.ownBlock with _|j;exact .inl rfl;exact .inr fun h=>acR j (by rw [← h]) U)
      refine ak (T.blk (T.blk (bC ((M,ab++([⟨⟨.slice (some ⟨p,0,none⟩) 4 4,[A+(Wn:Int)+1+1,A+(Wn:Int)+1,A,A+1]⟩,.slice none 0 0,[]⟩]:List FaV))) ⟨rfl,rfl,rfl,rfl,rfl,rfl,rfl,trivial⟩ ⟨acS.upd sD (.inr omX),by have:=b.size;have:=Bg.size;have:=sD.size;omega,((ac.ext b).grown Bg (l b1 omX)).upd sD omX,((an.ext b).grown Bg (l b2 omX)).upd sD omX,Ue,afA.upd sD IE,lF afB sD IE,?_⟩)))
      ·show Match _ (tH d.cs Wn k i (Kr d.cs Wn k (Kt d.cs Wn k) i)) Wn
       rw [bs] at K ⊢;rw [acQ c0 c1];exact DN K rfl (fun j H=>by have e:j=0:=Nat.lt_one_iff.1 H;subst e;exact ⟨ao.2.2.2.symm,rfl⟩)
     refine ah Z (bn (aA (aC Z (C.cell Z) (aN Z Z (L.o (bG Z Z (by (try dsimp only);omega) (aO Z (bG Z Z (by (try dsimp only);omega) (aO Z (aH (el:=3) (parts:=[(0,.tmp 117),(1,.tmp 119),(2,.tmp 121),(3,.tmp 122)]) (vs:=[(0,_),(1,_),(2,_),(3,_)]) (cs:=[.int .i64 (A),.int .i64 (A+1),.int .i64 (A+(Wn:Int)+1+1),.int .i64 (A+(Wn:Int)+1)]) Z (fun w=>by kernel_rfl) (fun p r aea Yy iK rD=>?_)))))))))))
     refine L.o (bU (v:=.agg #[.slice (some ⟨p,0,none⟩) 4 4,.slice none 0 0]) (parts:=[(0,.tmp 123)]) (vs:=[(0,_)]) Z (fun w=>by kernel_rfl) (L.o (aH (el:=127) (parts:=[(0,.tmp 124)]) (vs:=[(0,_)]) (cs:=[.slice (some ⟨p,0,none⟩) 4 4,.slice none 0 0]) Z (fun w=>by kernel_rfl) (fun W B adY adX jD Lp=>?_))))
     have b:=(iK).trans jD
     have t:∀ f∈([⟨⟨.slice (some ⟨p,0,none⟩) 4 4,[A,A+1,A+(Wn:Int)+1+1,A+(Wn:Int)+1]⟩,.slice none 0 0,[]⟩]:List FaV),FaB q.heap.size f B:=fun f hf=>by
      simp only [List.mem_cons,List.mem_nil_iff,or_false] at hf
      subst hf
      exact MS (Blk.ext (cs:=[.int .i64 (A),.int .i64 (A+1),.int .i64 (A+(Wn:Int)+1+1),.int .i64 (A+(Wn:Int)+1)]) rD jD) rfl rfl dcX omX
     have x:=cO z b lzX
     refine L.o (dJ (size:=2) (bytes:=48) runUnderlying44 Tryz.oW Z Z Z Z dcX rfl rfl x (Sl.bI (lo:=0) (n:=1) (sz:=2) Lp Z leX dcX lzX) (by intro c G;simp at G;rcases G with (rfl|rfl) <;> rfl) omX (by simp only [maxLen];omega) (by have:=b.size;omega) (fun M y KZ Bg=>?_))
     have l:∀ b',b'<q.heap.size→∀ j,I.ownBlock=some j→j≠b':=fun b' ax j H=>by have:=(qG x H).1;omega
     have acR:∀ j,I.ownBlock=some j→pv.ownBlock=some j→False:=fun j Y h2=>by rcases own_ne z J dcX with h|h;rw [h] at Y;cases Y;exact h (Y.trans h2.symm)
     have YI:M.oneCell'=true:=Sl.one (Sl.dD KZ)
     have afA:=V.app b Bg KZ (ns:=([⟨⟨.slice (some ⟨p,0,none⟩) 4 4,[A,A+1,A+(Wn:Int)+1+1,A+(Wn:Int)+1]⟩,.slice none 0 0,[]⟩]:List FaV)) t rfl rfl
     refine L.fa Z (L.o (bP sizeOf44 YI Z Z ((C.ext b).grown Bg (l b5 IE)) (by simp [Value.cells,ofT]) (fun ap sD Ue=>?_)))
     replace sD:Upd b5 y ap:=sD
     have acS:Ext w y:=(g.trans b).jg x Bg omX
     have afB:World.ownsRow y _ _ _ pv _ _:=(cO J b lzX).kept Bg (by rcases U:pv.ownBlock with _|j;exact .inl rfl;exact .inr fun h=>acR j (by rw [← h]) U)
     refine ak (T.blk (T.blk (bC ((M,ab++([⟨⟨.slice (some ⟨p,0,none⟩) 4 4,[A,A+1,A+(Wn:Int)+1+1,A+(Wn:Int)+1]⟩,.slice none 0 0,[]⟩]:List FaV))) ⟨rfl,rfl,rfl,rfl,rfl,rfl,rfl,trivial⟩ ⟨acS.upd sD (.inr omX),by have:=b.size;have:=Bg.size;have:=sD.size;omega,((ac.ext b).grown Bg (l b1 omX)).upd sD omX,((an.ext b).grown Bg (l b2 omX)).upd sD omX,Ue,afA.upd sD IE,lF afB sD IE,?_⟩)))
     ·show Match _ (tH d.cs Wn k i (Kr d.cs Wn k (Kt d.cs Wn k) i)) Wn
      rw [afy c0 c1];exact DN K rfl (fun j H=>by have e:j=0:=Nat.lt_one_iff.1 H;subst e;exact ⟨ao.2.2.1.symm,rfl⟩)
    rintro ⟨bt,bu⟩ bY ⟨ES,alS,aps,apt,apu,apv,apw,apx⟩
    refine aA (aO Z (bG Z Z (by (try dsimp only);omega) (ah Z (aP ((i+1,bt,bu)) omX ⟨rfl,rfl,rfl,rfl,rfl,rfl,rfl,trivial⟩ ⟨omX,ES,alS,aps,apt,apu,apv,apw,apx⟩))))
   refine ak (?_)
   obtain rfl:i=Wn:=by omega
   refine bn (aY Z (T.blk (aA (L.m Z (bF Z Z (ah Z (aP ((k+1,I,ab)) omX ⟨rfl,rfl,rfl,rfl,rfl,rfl,trivial⟩ ⟨omX,g,am,ac,an,C,V,J,K⟩)))))))
  refine ak (?_)
  obtain rfl:k=Hn:=by omega
  refine bn (aY Z (au (aT Z Z F.row (?_))))
  have aM:fv.oneCell'=true:=Sl.one (Sl.dD az.1)
  refine L.o (aK sizeOf46 Z Z Z al leX (by intro u hu;simp at hu;rcases hu with (rfl|rfl);exact aB;exact aM) (fun aa IL Ot=>?_))
  replace IL:Upd b2 w8 aa:=IL
  have aQ:Blk aa b2 [pv,fv] 46:=Ot
  refine ak (jZ results69 isAgg46 sizeOf46 Z Z aQ.row ?_)
  exact CxQ.of (c:=⟨pv,BM d.ss Wn (k+1),fv,fs⟩) (E.upd IL (.inr omX)) omX (lF R IL omX) (az.upd IL omX) ⟨by rw [← P,← Q],.inr ⟨D,by rw [← P,← Q];exact aI⟩⟩ (by rw [← P];exact ⟨hW1,hW2⟩) (by rw [← Q];exact ⟨hH1,hH2⟩)
 refine aW (au (aC Z (ae.cell Z) (L.o (aH (el:=3) (parts:=[(0,.const (.int .i64 0)),(1,.const (.int .i64 1)),(2,.const (.int .i64 2)),(3,.const (.int .i64 3)),(4,.const (.int .i64 7)),(5,.const (.int .i64 11)),(6,.const (.int .i64 15)),(7,.const (.int .i64 14)),(8,.const (.int .i64 13)),(9,.const (.int .i64 12)),(10,.const (.int .i64 8)),(11,.const (.int .i64 4))]) (vs:=[(0,_),(1,_),(2,_),(3,_),(4,_),(5,_),(6,_),(7,_),(8,_),(9,_),(10,_),(11,_)]) (cs:=[.int .i64 0,.int .i64 1,.int .i64 2,.int .i64 3,.int .i64 7,.int .i64 11,.int .i64 15,.int .i64 14,.int .i64 13,.int .i64 12,.int .i64 8,.int .i64 4]) Z (fun w=>by kernel_rfl) (fun b8 w8 bZ ag E bv=>?_)))))
 refine L.o (aH (el:=3) (parts:=[(0,.const (.int .i64 5)),(1,.const (.int .i64 9)),(2,.const (.int .i64 10)),(3,.const (.int .i64 6))]) (vs:=[(0,_),(1,_),(2,_),(3,_)]) (cs:=[.int .i64 5,.int .i64 9,.int .i64 10,.int .i64 6]) Z (fun w=>by kernel_rfl) (fun b9 w9 bo am g aF=>?_))
 refine L.o (aH (el:=30) (parts:=[(0,.tmp 67)]) (vs:=[(0,_)]) (cs:=[.slice (some ⟨b9,0,none⟩) 4 4]) Z (fun w=>by kernel_rfl) (fun N aw aeO aaQ jf EP=>?_))
 refine L.o (bU (v:=.agg #[.slice (some ⟨b8,0,none⟩) 12 12,.slice (some ⟨N,0,none⟩) 1 1]) (parts:=[(0,.tmp 66),(1,.tmp 68)]) (vs:=[(0,_),(1,_)]) Z (fun w=>by kernel_rfl) (L.o (aH (el:=127) (parts:=[(0,.tmp 69)]) (vs:=[(0,_)]) (cs:=[.slice (some ⟨b8,0,none⟩) 12 12,.slice (some ⟨N,0,none⟩) 1 1]) Z (fun w=>by kernel_rfl) (fun p r aea Yy iK rD=>?_))))
 have Ld:=((E.trans g).trans jf).trans iK
 have apy:=Ld.size
 have ag:=E.size
 have am:=g.size
 have aaQ:=jf.size
 refine L.o (dJ (size:=2) (bytes:=48) runUnderlying44 Tryz.oW Z Z Z Z dcX rfl rfl (iF r q.heap.size 127 2) (Sl.bI (lo:=0) (n:=1) (sz:=2) rD Z leX dcX lzX) (by intro c G;simp at G;rcases G with (rfl|rfl) <;> rfl) omX (by simp only [maxLen];omega) omX (fun S B a8 aec=>?_))
 have YC:Ext r B:=Keep.grown (Keep.refl _ _) aec (fun j H=>by cases H)
 have TF:S.oneCell'=true:=Sl.one (Sl.dD a8)
 have W9:=Ld.trans YC
 have t:∀ f ∈ [(⟨⟨.slice (some ⟨b8,0,none⟩) 12 12,Geo.acu⟩,.slice (some ⟨N,0,none⟩) 1 1,[⟨.slice (some ⟨b9,0,none⟩) 4 4,Geo.aa5⟩]⟩:FaV)],FaB q.heap.size f r:=fun f hf=>by
  simp only [List.mem_cons,List.mem_nil_iff,or_false] at hf
  subst hf
  refine ⟨⟨b8,rfl,omX,(by show (12:Nat)≤1000;decide),Blk.ext (cs:=[.int .i64 0,.int .i64 1,.int .i64 2,.int .i64 3,.int .i64 7,.int .i64 11,.int .i64 15,.int .i64 14,.int .i64 13,.int .i64 12,.int .i64 8,.int .i64 4]) bv ((g.trans jf).trans iK)⟩,.inr ⟨N,⟨.slice (some ⟨b9,0,none⟩) 4 4,Geo.aa5⟩,rfl,rfl,omX,Blk.ext (cs:=[.slice (some ⟨b9,0,none⟩) 4 4]) EP iK,⟨b9,rfl,omX,(by show (4:Nat)≤1000;decide),Blk.ext (cs:=[.int .i64 5,.int .i64 9,.int .i64 10,.int .i64 6]) aF (jf.trans iK)⟩⟩⟩
 have apz:FsB q.heap.size S [(⟨⟨.slice (some ⟨b8,0,none⟩) 12 12,Geo.acu⟩,.slice (some ⟨N,0,none⟩) 1 1,[⟨.slice (some ⟨b9,0,none⟩) 4 4,Geo.aa5⟩]⟩:FaV)] B:=(FsB.nil q.heap.size r).app (Keep.refl _ _) aec a8 (ns:=[(⟨⟨.slice (some ⟨b8,0,none⟩) 12 12,Geo.acu⟩,.slice (some ⟨N,0,none⟩) 1 1,[⟨.slice (some ⟨b9,0,none⟩) 4 4,Geo.aa5⟩]⟩:FaV)]) t rfl rfl
 refine L.fa Z (L.o (bP sizeOf44 TF Z Z (ae.ext W9) (by simp [Value.cells,ofT]) (fun X BK Df=>?_)))
 replace BK:Upd b5 B X:=BK
 have YE:Ext w X:=(aD.trans W9).upd BK (.inr omX)
 have apA:=(hD7.ext W9).upd BK omX
 have amz:=(aE.ext W9).upd BK omX
 have ahu:=apz.upd BK IE
 have aR:Blk X b5 [pv,S] 46:=Df
 have adZ:=lF (cO af W9 lzX) BK IE
 have aG:=IB hd.cl 0
 have Y8:q.heap.size≤X.heap.size:=by have:=BK.size;have:=YC.size;omega
 refine ak (aj (?_))
 refine dS (σ:=Value × List FaV) (fun s=>[(2,.pointer (some ⟨b2,0,none⟩)),(5,.pointer (some ⟨b5,0,none⟩))]) (fun s w'=>Ext w w'∧q.heap.size≤w'.heap.size∧Blk w' b2 [.slice none 0 0,.slice none 0 0] 46∧Blk w' b5 [pv,s.1] 46∧FsB q.heap.size s.1 s.2 w'∧w'.ownsRow q.heap.size 124 2 pv (BM d.ss Wn (Hn+1)).length (pcs (BM d.ss Wn (Hn+1)))∧QX s.2) ?_ ?_
 ·refine au (aC Z (apA.cell Z) (L.o (ay (xs:=[.tmp 74,.const (.int .i64 0)]) call125 Z Z (vw lo d.cv d.cs 0 X (hd.ext YE).c hd.cl omX) (fun b0 b3 U=>?_))))
  obtain ⟨rfl,rfl⟩:=U
  refine L.o (fG Z Z omX omX (dK Z Z (fun h2=>?_) (fun h2=>?_)))
  ·refine aW (aA (aC Z (aR.cell Z) (L.o (aH (el:=3) (parts:=[(0,.const (.int .i64 5)),(1,.const (.int .i64 6)),(2,.const (.int .i64 10)),(3,.const (.int .i64 9))]) (vs:=[(0,_),(1,_),(2,_),(3,_)]) (cs:=[.int .i64 5,.int .i64 6,.int .i64 10,.int .i64 9]) Z (fun w=>by kernel_rfl) (fun aq a9 apB bw nY IK=>?_)))))
   refine L.o (bU (v:=.agg #[.slice (some ⟨aq,0,none⟩) 4 4,.slice none 0 0]) (parts:=[(0,.tmp 80)]) (vs:=[(0,_)]) Z (fun w=>by kernel_rfl) (L.o (aH (el:=127) (parts:=[(0,.tmp 81)]) (vs:=[(0,_)]) (cs:=[.slice (some ⟨aq,0,none⟩) 4 4,.slice none 0 0]) Z (fun w=>by kernel_rfl) (fun b4 aa bB b6 Az Ot=>?_))))
   have AB:=nY.trans Az
   have aV:=cO ahu.1 AB lzX
   refine L.o (dJ (size:=2) (bytes:=48) runUnderlying44 Tryz.oW Z Z Z Z dcX rfl rfl aV (Sl.bI (lo:=0) (n:=1) (sz:=2) Ot Z leX dcX lzX) (by intro c G;simp at G;rcases G with (rfl|rfl) <;> rfl) (by simp only [List.length_cons,List.length_nil];omega) (by simp only [List.length_cons,List.length_nil,maxLen];omega) (by have:=AB.size;omega) (fun ba aX amA aed=>?_))
   have ahv:ba.oneCell'=true:=Sl.one (Sl.dD amA)
   have l:∀ b',b'<q.heap.size→∀ j,S.ownBlock=some j→j≠b':=fun b' ax j H=>by have:=(qG aV H).1;omega
   have acR:∀ j,S.ownBlock=some j→pv.ownBlock=some j→False:=fun j Y h2=>by rcases own_ne ahu.1 adZ dcX with h|h;rw [h] at Y;cases Y;exact h (Y.trans h2.symm)
   have a0:∀ f ∈ [(⟨⟨.slice (some ⟨aq,0,none⟩) 4 4,Geo.ahm⟩,.slice none 0 0,[]⟩:FaV)],FaB q.heap.size f aa:=fun f hf=>by
    simp only [List.mem_cons,List.mem_nil_iff,or_false] at hf
    subst hf
    exact MS (Blk.ext (cs:=[.int .i64 5,.int .i64 6,.int .i64 10,.int .i64 9]) IK Az) rfl rfl dcX omX
   have ahg:=ahu.app AB aed amA (ns:=[(⟨⟨.slice (some ⟨aq,0,none⟩) 4 4,Geo.ahm⟩,.slice none 0 0,[]⟩:FaV)]) a0 rfl rfl
   refine L.fa Z (L.o (bP sizeOf44 ahv Z Z ((aR.ext AB).grown aed (l b5 IE)) (by simp [Value.cells,ofT]) (fun bx Dq ET=>?_)))
   replace Dq:Upd b5 aX bx:=Dq
   have TQ:Ext w aX:=(YE.trans AB).jg aV aed omX
   have apC:World.ownsRow aX _ _ _ pv _ _:=(cO adZ AB lzX).kept aed (by rcases U:pv.ownBlock with _|j;exact .inl rfl;exact .inr fun h=>acR j (by rw [← h]) U)
   refine ak (bC ((ba,[(⟨⟨.slice (some ⟨b8,0,none⟩) 12 12,Geo.acu⟩,.slice (some ⟨N,0,none⟩) 1 1,[⟨.slice (some ⟨b9,0,none⟩) 4 4,Geo.aa5⟩]⟩:FaV)] ++ [(⟨⟨.slice (some ⟨aq,0,none⟩) 4 4,Geo.ahm⟩,.slice none 0 0,[]⟩:FaV)])) ⟨rfl,rfl,trivial⟩ ⟨TQ.upd Dq (.inr omX),by have:=AB.size;have:=aed.size;have:=Dq.size;omega,((amz.ext AB).grown aed (l b2 omX)).upd Dq omX,ET,ahg.upd Dq IE,lF apC Dq IE,_,_,_,.inr ⟨_,_,rfl⟩⟩)
  refine aU (T.skip (bC ((S,[(⟨⟨.slice (some ⟨b8,0,none⟩) 12 12,Geo.acu⟩,.slice (some ⟨N,0,none⟩) 1 1,[⟨.slice (some ⟨b9,0,none⟩) 4 4,Geo.aa5⟩]⟩:FaV)])) ⟨rfl,rfl,trivial⟩ ⟨YE,Y8,amz,aR,ahu,adZ,_,_,_,.inl rfl⟩))
 rintro ⟨fv,fs⟩ a9 ⟨QW,bw,apD,apE,amB,ahw,apF⟩
 refine au (aT Z Z apE.row (?_))
 have aM:fv.oneCell'=true:=Sl.one (Sl.dD amB.1)
 refine L.o (aK sizeOf46 Z Z Z apD leX (by intro u hu;simp at hu;rcases hu with (rfl|rfl);exact aB;exact aM) (fun aa IL Ot=>?_))
 replace IL:Upd b2 a9 aa:=IL
 have aQ:Blk aa b2 [pv,fv] 46:=Ot
 refine ak (jZ results69 isAgg46 sizeOf46 Z Z aQ.row ?_)
 exact CxQ.of (c:=⟨pv,BM d.ss Wn (Hn+1),fv,fs⟩) (QW.upd IL (.inr omX)) omX (lF ahw IL omX) (amB.upd IL omX) ⟨by rw [← P,← Q],.inl ⟨D,by simp only [dW,D];rfl,by simp only [dH,D];rfl,apF⟩⟩ (by rw [← P];exact ⟨hW1,hW2⟩) (by rw [← Q];exact ⟨hH1,hH2⟩)
theorem Uf {xs ys:List Int} (b:xs.length=ys.length) (h:∀ k,k<xs.length→xs.getD k 0=ys.getD k 0):xs=ys:=by
 refine List.ext_getElem b fun k a c=>?_
 have:=h k a
 rw [aX a,aX c] at this
 exact this
theorem mX (lo lo2:Nat) (p q:Value) (xs ys:List Int) (w:World) (o:Ints .i64 lo w p xs) (s:Ints .i64 lo2 w q ys) :
  Calls Tryz.prog 87 #[p,q] w (Ret fun v w'=>v = .bool (decide (xs=ys))∧Ext w w'):=by
 have x:=Sl.le o
 refine aJ (vs:=[p,q]) func87 Z ntmps87 Z ?_
 refine au (ah Z (aj (aQ Z (L.le Z (Sl.val o) (L.m Z (L.le Z (Sl.val s) (L.ne Z Z (fun t=>?_) (fun t=>?_))))))))
 ·refine aW (au (ah Z (aB results87 Z ⟨by rw [decide_eq_false (fun h=>t (by rw [h]))],Keep.refl _ _⟩)))
 refine ak (?_)
 have g:xs.length=ys.length:=by omega
 refine bn (T.skip (aj (au (ah Z (T.block (?_))))))
 refine bf (σ:=Nat) (fun i=>[(0,p),(1,q),(5,.int .i64 i)]) (fun i w'=>i≤xs.length∧Ext w w'∧∀ k,k<i→xs.getD k 0=ys.getD k 0) (fun i=>xs.length-i) (0) ⟨rfl,rfl,rfl,trivial⟩ ⟨Nat.zero_le _,Keep.refl _ _,fun k u=>absurd u (Nat.not_lt_zero _)⟩ ?_
 rintro i w1 ⟨hi,a,b⟩
 have d:=o.ext a
 have j:=s.ext a
 refine aj (au (aN Z Z (L.le Z (Sl.val d) (bH Z Z (fun r=>?_) (fun r=>?_)))))
 ·refine ak (?_)
  have c:i<xs.length:=by omega
  refine aZ (T.skip (aj (T.block (aj (?_)))))
  refine dn mixed 8 [0,5,1] Z [.is _,.is _,.is _,.is _,.is _,.is _,.is _,.is _] [[],[],[0,1],[2],[],[],[4,5],[6]] trivial ⟨fun f hx=>aF rfl,
    fun f hx=>aF rfl,
    fun f hx=>bQ rfl rfl (d.ext hx),
    fun f hx=>aS rfl (Ints.at (d.ext hx) c),
    fun f hx=>aF rfl,
    fun f hx=>aF rfl,
    fun f hx=>bQ rfl rfl (j.ext hx),
    fun f hx=>aS rfl (Ints.at (j.ext hx) (show i<ys.length by omega)),
    trivial⟩ (fun y l=>?_)
  refine L.ne Z Z (fun n=>?_) (fun n=>?_)
  ·refine aW (au (ah Z (aB results87 Z ⟨by rw [decide_eq_false (fun h=>n (by rw [h]))],a.trans l⟩)))
  refine aU (T.skip (T.blk (aA (L.m Z (bF Z Z (ah Z (aP (i+1) omX ⟨rfl,rfl,rfl,trivial⟩ ⟨c,a.trans l,fun k u=>?_⟩)))))))
  ·by_cases e:k=i
   ·subst e;omega
   exact b k omX
 refine ak (?_)
 obtain rfl:i=xs.length:=by omega
 refine bn (aY Z (au (ah Z (aB results87 Z ⟨by rw [decide_eq_true (Uf g b)],a⟩))))
def UB (base:Nat) (v:Value) (w:World):Prop:=∃ b u,v = .pointer (some ⟨b,0,none⟩)∧base≤b∧Blk w b (UnV.cells u) 51
theorem UB.lt {base:Nat} {v:Value} {w:World} (h:UB base v w):∀ b,Gh v=some b→b<w.heap.size:=fun b hb=>by
 obtain ⟨b',c,rfl,_,a⟩:=h
 cases hb;exact a.lt
structure Jq (base:Nat) (a:List Value) (w w':World):Prop where
 own:∀ b u,base≤b→Blk w b (UnV.cells u) 51→∃ u',Blk w' b (UnV.cells u') 51∧(UnV.cells u=a→UnV.cells u'=a)
theorem Jq.dF {a:List Value} (h:Ext w w'):Jq base a w w':=⟨fun b c _ hB=>⟨c,Blk.ext (cs:=c.cells) hB h,id⟩⟩
theorem Jq.upd {base:Nat} {u:UnV} {b:Nat} {w w':World} (d:Upd b w w') (hB:Blk w' b u.cells 51):Jq base u.cells w w':=⟨fun b' c _ a=>by
 by_cases e:b'=b
 ·subst e;exact ⟨u,hB,fun _=>rfl⟩
 exact ⟨c,Blk.upd (cs:=c.cells) a d e,id⟩⟩
theorem UB.st {a:List Value} : ∀ v w w',Jq base a w w'→UB base v w→UB base v w':=fun v w w' h ⟨b,c,e,d,f⟩=>by
 obtain ⟨c',g,_⟩:=h.own b c d f
 exact ⟨b,c',e,d,g⟩
theorem ZE (h:a.G≠b.G):Ba a b=false:=by simp [Ba,h]
theorem ZF (h:a.P≠b.P):Ba a b=false:=by simp [Ba,h]
theorem ZG (h:a.L≠b.L):Ba a b=false:=by simp [Ba,h]
theorem lT (h:¬ KU a.us b.us):Ba a b=false:=by simp [Ba,Vr h]
theorem Xa (c:a.G=b.G) (d:a.P=b.P) (e:a.L=b.L) (h:KU a.us b.us):Ba a b=true:=by simp [Ba,c,d,e,Tn h]
set_option maxHeartbeats 2000000 in
theorem DR (lo z:Nat) (a b:RoV) (w:World) (ha:a.ok lo w) (hb:b.ok z w) :
  Calls Tryz.prog 37 #[a.val,b.val] w (Ret fun v w'=>v = .bool (Ba a b)∧Ext w w'):=by
 have ha:Units lo w a.uv a.us:=ha
 have hb:Units z w b.uv b.us:=hb
 refine aJ (vs:=[a.val,b.val]) func37 Z ntmps37 Z ?_
 refine au (bM Z (fun b2 w2 aD aE ae hB2=>?_))
 refine bM Z (fun b3 w3 P aF Y hB3=>?_)
 have s:=ae.trans Y
 have F:Blk w3 b2 a.cells 25:=Blk.ext (cs:=a.cells) hB2 Y
 have hC2:Blk w3 b3 b.cells 25:=hB3
 have Q:=ha.ext s
 have P:=hb.ext s
 have aH:=Sl.le Q.sl
 refine ah Z (aj (au (aC Z (F.cell Z) (aC Z (hC2.cell Z) (L.ne Z Z (fun g1=>?_) (fun g1=>?_))))))
 ·refine L.m Z (L.pp (L.pp (L.p (aG Z (L.m Z (L.pp (L.pp (L.p (aG Z (L.m Z (L.pp (L.pp (L.pp (L.p (aG Z (ak (?_)))))))))))))))))
  refine aZ (au (ah Z (aB results37 Z ⟨by rw [ZE g1],s⟩)))
 refine L.m Z (aC Z (F.cell Z) (aC Z (hC2.cell Z) (L.ne Z Z (fun g2=>?_) (fun g2=>?_))))
 ·refine aI Z (L.m Z (L.pp (L.pp (L.p (aG Z (L.m Z (L.pp (L.pp (L.pp (L.p (aG Z (aW (au (ah Z (aB results37 Z ⟨by rw [ZF g2],s⟩)))))))))))))))
 refine aI Z (L.m Z (aC Z (F.cell Z) (aC Z (hC2.cell Z) (L.ne Z Z (fun g3=>?_) (fun g3=>?_)))))
 ·refine aI Z (L.m Z (L.pp (L.pp (L.pp (L.p (aG Z (aW (au (ah Z (aB results37 Z ⟨by rw [ZG g3],s⟩))))))))))
 refine aI Z (L.m Z (aC Z (F.cell Z) (L.le Z (Sl.val Q.sl) (aC Z (hC2.cell Z) (L.le Z (Sl.val P.sl) (L.ne Z Z (fun g4=>?_) (fun g4=>?_)))))))
 ·refine aI Z (aW (au (ah Z (aB results37 Z ⟨by rw [lT (fun h=>g4 (by rw [h.1]))],s⟩))))
 have aa:a.us.length=b.us.length:=by omega
 refine aI Z (aU (T.skip (aj (au (ah Z (T.block (?_)))))))
 refine bf (σ:=Nat) (fun i=>[(2,.pointer (some ⟨b2,0,none⟩)),(3,.pointer (some ⟨b3,0,none⟩)),(5,.int .i64 i)]) (fun i w'=>i≤a.us.length∧Ext w3 w'∧∀ k,k<i→Y0 (a.us.getD k u0) (b.us.getD k u0)=true) (fun i=>a.us.length-i) (0) ⟨rfl,rfl,rfl,trivial⟩ ⟨Nat.zero_le _,Keep.refl _ _,fun k hk=>absurd hk (Nat.not_lt_zero _)⟩ ?_
 rintro i X ⟨hi,l,G⟩
 have ab:=Blk.ext (cs:=a.cells) F l
 have af:=Blk.ext (cs:=b.cells) hC2 l
 have H:=Q.ext l
 have K:=P.ext l
 refine aj (aQ Z (aC Z (ab.cell Z) (L.le Z (Sl.val H.sl) (bH Z Z (fun ag=>?_) (fun ag=>?_)))))
 ·refine ak (?_)
  have d:i<a.us.length:=by omega
  have I:i<b.us.length:=by omega
  refine aZ (T.skip (aj (T.block (aj (?_)))))
  refine mM mixed 13 1 [2,5,3] Z [.is _,.is _,.is _,.is _,.is _,.is _,.is _,.is _,.is _,.is _,.such (UB X.heap.size),.such (UB X.heap.size),.is undef] [[],[0],[],[1,2],[3],[],[5],[],[6,7],[8],[],[],[10,4]] [none,none,none,none,none,none,none,none,none,none,none,none,some 0] [[],[0],[],[0,1,2],[0,1,2,3],[],[5],[],[5,6,7],[5,6,7,8],[],[],[0,1,2,3,4,10,11],[0,1,2,3,4,5,6,7,8,9,10,11,12]] [10,11] [(12,10,6)] (fun _ _ u _ W=>∃ b,u = .pointer (some ⟨b,0,none⟩)∧X.heap.size≤b∧Blk W b (a.us.getD i u0).cells 51) (fun _ W=>Ext X W) (Jq X.heap.size (a.us.getD i u0).cells) (fun i f v w hi hf hh=>by { rcases (show i=10∨i=11 by simpa using hi) with rfl|rfl <;> (simp only [List.getElem?_cons_succ,List.getElem?_cons_zero,Option.some.injEq] at hf;subst hf;exact UB.lt hh) }) (fun i j vi vj W W' hr ⟨b,h1,h2,h3⟩=>(hr.own b _ h2 h3).elim fun c' k=>⟨b,h1,h2,(k.2 Z)▸k.1⟩) krX krX krX krX rfl ⟨UB.st,UB.st,trivial⟩ (Keep.drew _ _) ⟨fun c E hx=>ObX.op rfl (O.fa Z ⟨⟨Jq.dF (Keep.refl _ _),hx⟩,rfl,trivial,trivial⟩),
    fun c E hx=>ObX.op Z (dR Z ((Blk.ext (cs:=a.cells) ab hx).cell Z) ⟨⟨Jq.dF (Keep.refl _ _),hx⟩,rfl,trivial,trivial⟩),
    fun c E hx=>ObX.op Z (O.move Z ⟨⟨Jq.dF (Keep.refl _ _),hx⟩,rfl,trivial,trivial⟩),
    fun c E hx=>ObX.op Z (ig Z Z ((H.ext hx).sl) omX omX ⟨⟨Jq.dF (Keep.refl _ _),hx⟩,rfl,trivial,trivial⟩),
    fun c E hx=>ObX.op Z (jC Z Z ((H.ext hx).row d) ⟨⟨Jq.dF (Keep.refl _ _),hx⟩,rfl,trivial,trivial⟩),
    fun c E hx=>ObX.op Z (O.fa Z ⟨⟨Jq.dF (Keep.refl _ _),hx⟩,rfl,trivial,trivial⟩),
    fun c E hx=>ObX.op Z (dR Z ((Blk.ext (cs:=b.cells) af hx).cell Z) ⟨⟨Jq.dF (Keep.refl _ _),hx⟩,rfl,trivial,trivial⟩),
    fun c E hx=>ObX.op Z (O.move Z ⟨⟨Jq.dF (Keep.refl _ _),hx⟩,rfl,trivial,trivial⟩),
    fun c E hx=>ObX.op Z (ig Z Z ((K.ext hx).sl) omX omX ⟨⟨Jq.dF (Keep.refl _ _),hx⟩,rfl,trivial,trivial⟩),
    fun c E hx=>ObX.op Z (jC Z Z ((K.ext hx).row I) ⟨⟨Jq.dF (Keep.refl _ _),hx⟩,rfl,trivial,trivial⟩),
    fun c E hx=>ObX.op Z (O.alloc zeroValue51 (fun b wy hb hz s hB=>y5 ⟨⟨Jq.dF s,hx.trans s⟩,b,u0,rfl,by have:=hx.size;omega,hB⟩ ⟨fun q B=>by { cases B;exact Nat.le_of_eq hb.symm },trivial⟩)),
    fun c E hx=>ObX.op Z (O.alloc zeroValue51 (fun b wy hb hz s hB=>y5 ⟨⟨Jq.dF s,hx.trans s⟩,b,u0,rfl,by have:=hx.size;omega,hB⟩ ⟨fun q B=>by { cases B;exact Nat.le_of_eq hb.symm },trivial⟩)),
    fun E hx v6 ac=>by { obtain ⟨b5,c5,rfl,R,S⟩:=ac;exact ObX.op rfl (aK sizeOf51 Z Z Z S leX (H.at d).one (fun aL Ua WS=>y5 ⟨⟨Jq.upd Ua WS,hx.upd Ua (.inr R)⟩,rfl⟩ ⟨trivial,fun u A=>by { cases A;exact ⟨b5,rfl,R,WS⟩ }⟩)) },
    trivial⟩ (fun w7 ai v6 ac v7 al ad=>?_)
  obtain ⟨vj,am,an,_⟩:=ad 10 11 _ _ _ _ dcX dcX rfl rfl rfl rfl
  obtain rfl:=am _ _ rfl rfl
  obtain ⟨_,_,_,ao⟩:=ad 10 12 _ _ _ _ dcX dcX rfl rfl rfl rfl
  obtain ⟨b5,rfl,R,S⟩:=ao rfl
  obtain ⟨b6,c6,rfl,ap,aq⟩:=al
  have ar:b5≠b6:=fun e=>an b5 rfl (by rw [e];rfl)
  refine L.o (aK sizeOf51 Z Z Z aq leX (K.at I).one (fun J ML WT=>?_))
  obtain ⟨u,A⟩:∃ u,u=a.us.getD i u0:=⟨_,rfl⟩
  obtain ⟨v,hv⟩:∃ v,v=b.us.getD i u0:=⟨_,rfl⟩
  have Ji:Ext X J:=ai.upd ML (.inr ap)
  have hU:Blk J b5 u.cells 51:=by rw [A];exact Blk.upd (cs:=(a.us.getD i u0).cells) S ML ar
  have hV:Blk J b6 v.cells 51:=by rw [hv];exact WT
  have C:=(H.at d).ext Ji
  have D:=(K.at I).ext Ji
  rw [← A] at C
  rw [← hv] at D
  refine ak (au (aC Z (hU.cell Z) (aC Z (hV.cell Z) (L.o (qw runUnderlying9 Z Z (fun n1=>?_) (fun n1=>?_))))))
  ·refine L.m Z (L.pp (L.pp (L.p (aG Z (L.m Z (L.pp (L.pp (L.p (aG Z (L.m Z (L.pp (L.pp (L.pp (aG Z (L.m Z (L.p (?_)))))))))))))))))
   refine L.pp (L.pp (L.p (aG Z (L.m Z (L.pp (L.pp (L.pp (aG Z (aW (au (ah Z (aB results37 Z ⟨by rw [lT (fun h=>by have:=h.2 i d;rw [← A,← hv,jk] at this;exact n1 this.1)],s.trans (l.trans Ji)⟩))))))))))))
  refine L.m Z (aC Z (hU.cell Z) (aC Z (hV.cell Z) (L.ne Z Z (fun n2=>?_) (fun n2=>?_))))
  ·refine aI Z (L.m Z (L.pp (L.pp (L.p (aG Z (L.m Z (L.pp (L.pp (L.pp (aG Z (L.m Z (L.pp (L.pp (L.pp (aG Z (?_))))))))))))))))
   refine L.m Z (L.pp (L.pp (L.pp (aG Z (aW (au (ah Z (aB results37 Z ⟨by rw [lT (fun h=>by have:=h.2 i d;rw [← A,← hv,jk] at this;exact n2 (this.2.1))],s.trans (l.trans Ji)⟩))))))))
  refine aI Z (L.m Z (aC Z (hU.cell Z) (aC Z (hV.cell Z) (?_))))
  rcases M:u.wt with _|_ <;> rcases N:v.wt with _|_
  ·refine L.o (jT runUnderlying4 Z Z (aI Z (L.m Z (aC Z (hU.cell Z) (aC Z (hV.cell Z) (L.o (ay (xs:=[.tmp 74,.tmp 76]) call87 Z Z (mX lo z u.gv v.gv u.gs v.gs J C.g D.g) (fun av U B=>?_))))))))
   obtain ⟨n,wV⟩:=B
   rcases t:decide (u.gs=v.gs) with _|_
   ·rw [t] at n
    subst n
    refine bT Z (aI Z (L.m Z (L.pp (L.pp (L.pp (aG Z (L.m Z (L.pp (L.pp (L.pp (aG Z (aW (au (ah Z (?_)))))))))))))))
    refine aB results37 Z ⟨by rw [lT (fun h=>by have:=h.2 i d;rw [← A,← hv,jk] at this;exact of_decide_eq_false t (this.2.2.2.1))],s.trans (l.trans (Ji.trans wV))⟩
   rw [t] at n
   subst n
   refine bT Z (aI Z (L.m Z (aC Z ((Blk.ext (cs:=u.cells) hU wV).cell Z) (aC Z ((Blk.ext (cs:=v.cells) hV wV).cell Z) (L.o (ay (xs:=[.tmp 82,.tmp 84]) call87 Z Z (mX lo z u.vv v.vv u.vs v.vs U (C.ext wV).v (D.ext wV).v) (fun aw V B=>?_)))))))
   obtain ⟨r,Pq⟩:=B
   rcases x:decide (u.vs=v.vs) with _|_
   ·rw [x] at r
    subst r
    refine bT Z (aI Z (L.m Z (L.pp (L.pp (L.pp (aG Z (aW (au (ah Z (aB results37 Z ⟨by rw [lT (fun h=>by have:=h.2 i d;rw [← A,← hv,jk] at this;exact of_decide_eq_false x (this.2.2.2.2.1))],s.trans (l.trans (Ji.trans (wV.trans Pq)))⟩))))))))))
   rw [x] at r
   subst r
   refine bT Z (aI Z (L.m Z (aC Z ((Blk.ext (cs:=u.cells) hU (wV.trans Pq)).cell Z) (aC Z ((Blk.ext (cs:=v.cells) hV (wV.trans Pq)).cell Z) (L.o (ay (xs:=[.tmp 90,.tmp 92]) call87 Z Z (mX lo z u.pv v.pv u.ps v.ps V (C.ext (wV.trans Pq)).p (D.ext (wV.trans Pq)).p) (fun ax az B=>?_)))))))
   obtain ⟨ZH,afC⟩:=B
   rcases y:decide (u.ps=v.ps) with _|_
   ·rw [y] at ZH
    subst ZH
    refine bT Z (aI Z (aW (au (ah Z (aB results37 Z ⟨by rw [lT (fun h=>by have:=h.2 i d;rw [← A,← hv,jk] at this;exact of_decide_eq_false y (this.2.2.2.2.2))],s.trans (l.trans (Ji.trans ((wV.trans Pq).trans afC)))⟩)))))
   rw [y] at ZH
   subst ZH
   refine bT Z (aI Z (aU (T.skip (T.blk (aA (L.m Z (bF Z Z (ah Z (aP (i+1) omX ⟨rfl,rfl,rfl,trivial⟩ ⟨d,l.trans (Ji.trans ((wV.trans Pq).trans afC)),fun k hk=>?_⟩)))))))))
   ·by_cases ek:k=i
    ·subst ek;rw [← A,← hv,jk]
     exact ⟨n1,n2,by rw [M,N],of_decide_eq_true t,of_decide_eq_true x,of_decide_eq_true y⟩
    exact G k omX
  ·refine L.o (jT runUnderlying4 Z Z (aI Z (L.m Z (L.pp (L.pp (L.pp (aG Z (L.m Z (L.pp (L.pp (L.pp (aG Z (L.m Z (L.pp (L.pp (L.p (?_)))))))))))))))))
   refine L.p (aG Z (aW (au (ah Z (aB results37 Z ⟨by rw [lT (fun h=>by have:=h.2 i d;rw [← A,← hv,jk] at this;exact by rw [M,N] at this;exact absurd this.2.2.1 dcX)],s.trans (l.trans Ji)⟩)))))
  ·refine L.o (jT runUnderlying4 Z Z (aI Z (L.m Z (L.pp (L.pp (L.pp (aG Z (L.m Z (L.pp (L.pp (L.pp (aG Z (L.m Z (L.pp (L.pp (L.p (?_)))))))))))))))))
   refine L.p (aG Z (aW (au (ah Z (aB results37 Z ⟨by rw [lT (fun h=>by have:=h.2 i d;rw [← A,← hv,jk] at this;exact by rw [M,N] at this;exact absurd this.2.2.1 dcX)],s.trans (l.trans Ji)⟩)))))
  refine L.o (jT runUnderlying4 Z Z (aI Z (L.m Z (aC Z (hU.cell Z) (aC Z (hV.cell Z) (L.o (ay (xs:=[.tmp 74,.tmp 76]) call87 Z Z (mX lo z u.gv v.gv u.gs v.gs J C.g D.g) (fun av U B=>?_))))))))
  obtain ⟨n,wV⟩:=B
  rcases t:decide (u.gs=v.gs) with _|_
  ·rw [t] at n
   subst n
   refine bT Z (aI Z (L.m Z (L.pp (L.pp (L.pp (aG Z (L.m Z (L.pp (L.pp (L.pp (aG Z (aW (au (ah Z (?_)))))))))))))))
   refine aB results37 Z ⟨by rw [lT (fun h=>by have:=h.2 i d;rw [← A,← hv,jk] at this;exact of_decide_eq_false t (this.2.2.2.1))],s.trans (l.trans (Ji.trans wV))⟩
  rw [t] at n
  subst n
  refine bT Z (aI Z (L.m Z (aC Z ((Blk.ext (cs:=u.cells) hU wV).cell Z) (aC Z ((Blk.ext (cs:=v.cells) hV wV).cell Z) (L.o (ay (xs:=[.tmp 82,.tmp 84]) call87 Z Z (mX lo z u.vv v.vv u.vs v.vs U (C.ext wV).v (D.ext wV).v) (fun aw V B=>?_)))))))
  obtain ⟨r,Pq⟩:=B
  rcases x:decide (u.vs=v.vs) with _|_
  ·rw [x] at r
   subst r
   refine bT Z (aI Z (L.m Z (L.pp (L.pp (L.pp (aG Z (aW (au (ah Z (aB results37 Z ⟨by rw [lT (fun h=>by have:=h.2 i d;rw [← A,← hv,jk] at this;exact of_decide_eq_false x (this.2.2.2.2.1))],s.trans (l.trans (Ji.trans (wV.trans Pq)))⟩))))))))))
  rw [x] at r
  subst r
  refine bT Z (aI Z (L.m Z (aC Z ((Blk.ext (cs:=u.cells) hU (wV.trans Pq)).cell Z) (aC Z ((Blk.ext (cs:=v.cells) hV (wV.trans Pq)).cell Z) (L.o (ay (xs:=[.tmp 90,.tmp 92]) call87 Z Z (mX lo z u.pv v.pv u.ps v.ps V (C.ext (wV.trans Pq)).p (D.ext (wV.trans Pq)).p) (fun ax az B=>?_)))))))
  obtain ⟨ZH,afC⟩:=B
  rcases y:decide (u.ps=v.ps) with _|_
  ·rw [y] at ZH
   subst ZH
   refine bT Z (aI Z (aW (au (ah Z (aB results37 Z ⟨by rw [lT (fun h=>by have:=h.2 i d;rw [← A,← hv,jk] at this;exact of_decide_eq_false y (this.2.2.2.2.2))],s.trans (l.trans (Ji.trans ((wV.trans Pq).trans afC)))⟩)))))
  rw [y] at ZH
  subst ZH
  refine bT Z (aI Z (aU (T.skip (T.blk (aA (L.m Z (bF Z Z (ah Z (aP (i+1) omX ⟨rfl,rfl,rfl,trivial⟩ ⟨d,l.trans (Ji.trans ((wV.trans Pq).trans afC)),fun k hk=>?_⟩)))))))))
  ·by_cases ek:k=i
   ·subst ek;rw [← A,← hv,jk]
    exact ⟨n1,n2,by rw [M,N],of_decide_eq_true t,of_decide_eq_true x,of_decide_eq_true y⟩
   exact G k omX
 refine aU (aY Z (au (ah Z (aB results37 Z ⟨by rw [Xa g1 g2 g3 ⟨aa,fun j hj=>G j omX⟩],s.trans l⟩))))
def fA (c:CxV) (r:RoV):List Value:=[c.pv,c.fv,.int .i64 r.G,.int .i64 r.P,.int .i64 r.L,r.uv]
noncomputable def gQ (c:CxV) (r:RoV) (bad:Bool):Int:=if bad then 150 else if ji r≠0 then ji r else if r.us.length≠c.fs.length then 160 else 0
theorem AL (lo:Nat) (c:CxV) (r:RoV) (w:World) (l:c.ok lo w) (g:r.ok lo w) :
  Calls Tryz.prog 34 #[.agg (fA c r).toArray] w (Ret fun v w'=>v = .int .i64 (gQ c r (iq c))∧Ext w w'):=by
 have g:Units lo w r.uv r.us:=g
 refine aJ (vs:=[.agg (fA c r).toArray]) func34 Z ntmps34 Z ?_
 refine au (bM Z (fun b1 w1 m n d hB1=>?_))
 have hL:Blk w1 b1 (fA c r) 48:=hB1
 refine ah Z (aj (au (L.fa Z (aT Z Z ((Row.bI hL).part 0 2) (L.o (ay (xs:=[.tmp 6]) call82 Z Z (Pg lo c w1 (l.ext d)) (fun v2 p h=>?_)))))))
 obtain ⟨a,e⟩:=h
 cases hb:iq c
 ·rw [hb] at a
  subst a
  refine ah Z (au (aO Z (fP Z Z dcX (?_))))
  have hL2:=Blk.ext (cs:=fA c r) hL e
  have xq:=d.trans e
  refine aU (T.skip (aj (au (L.fa Z (aT Z Z ((Row.bI hL2).part 2 4) (L.o (ay (xs:=[.tmp 12]) call32 Z Z (uy lo r p (g.ext xq)) (fun v3 q h=>?_))))))))
  obtain ⟨i,f⟩:=h
  subst i
  have hL3:=Blk.ext (cs:=fA c r) hL2 f
  have kZ:=xq.trans f
  refine ah Z (aQ Z (L.ne Z Z (fun b=>?_) (fun b=>?_)))
  ·refine aW (aQ Z (ah Z (aB results34 Z ⟨by simp [gQ,b],kZ⟩)))
  refine aU (T.skip (aj (au (L.fa Z (aC Z (hL3.cell Z) (L.le Z (Sl.val ((g.ext kZ).sl)) (L.fa Z (aC Z (hL3.cell Z) (L.le Z (Sl.val ((l.ext kZ).sl)) (L.ne Z Z (fun j=>?_) (fun j=>?_)))))))))))
  ·refine aW (au (ah Z (aB results34 Z ⟨?_,kZ⟩)))
   have k:r.us.length≠c.fs.length:=by omega
   simp [gQ,b,k]
  refine aU (T.skip (au (ah Z (aB results34 Z ⟨?_,kZ⟩))))
  have k:r.us.length=c.fs.length:=by omega
  simp [gQ,b,k]
 rw [hb] at a
 subst a
 refine ah Z (au (aO Z (kT Z Z dcX (aW (aQ Z (ah Z (aB results34 Z ⟨rfl,d.trans e⟩)))))))
attribute [local irreducible] Go.E.ObG
open Geo (RG DC)
theorem ZI {H:Nat} {ho:Bool} {ss:List Int} (h:DC c W H ho ss cs) (hW:1≤W∧W≤4) (hH:1≤H∧H≤3):c.fs.length≤24:=by
 obtain ⟨_,⟨_,_,_,hf⟩|⟨_,hM⟩⟩:=h
 ·obtain ⟨va,vh,hv,e|⟨vb,b,e⟩⟩:=hf <;> rw [e] <;> simp
 rw [hM.len]
 have d:=(Geo.BN cs W omX H).2
 have a:W*H≤4*3:=Nat.mul_le_mul hW.2 hH.2
 have e1:2*W*H=2*(W*H):=Nat.mul_assoc _ _ _
 omega
theorem Xb {H:Nat} {ho:Bool} {ss:List Int} (h:DC c W H ho ss cs) (hW:1≤W∧W≤4) (hH:1≤H∧H≤3):1≤c.fs.length:=by
 obtain ⟨_,⟨_,_,_,hf⟩|⟨_,hM⟩⟩:=h
 ·obtain ⟨va,vh,hv,e|⟨vb,a,e⟩⟩:=hf <;> rw [e] <;> simp
 rw [hM.len]
 exact (Geo.BN cs W omX H).1 omX
def ai8 (d:Dr) (w:World) (v:Value) (w':World):Prop:=Ext w w'∧∃ (c:CxV) (r:RoV),v = .agg (fA c r).toArray∧c.ok w.heap.size w'∧r.ok w.heap.size w'∧Vz d c.fs.length r∧DC c (dW d) (dH d) d.ho d.ss d.cs∧(1≤dW d∧dW d≤4)∧1≤dH d∧dH d≤3
theorem CxV.ok.one {lo:Nat} {w:World} {c:CxV} (h:c.ok lo w):∀ u∈c.cells,u.oneCell'=true:=by
 intro u a
 simp [CxV.cells] at a
 rcases a with (rfl|rfl)
 ·exact Sl.one h.p
 exact Sl.one h.sl
theorem CxV.ok.mono {lo a:Nat} {w:World} {c:CxV} (h:c.ok lo w) (b:a≤lo):c.ok a w:=⟨Sl.mono h.p b,Sl.mono h.sl b,fun f hf=>by
 have:=h.fs f hf
 exact ⟨this.o.mono b,Sl.mono this.sl b,fun x hx=>(this.hs x hx).mono b⟩⟩
theorem Pts.keep {lo:Nat} {w w':World} {v:Value} {ps:List Pt} (h:Pts lo w v ps) (k:Keep lo w w'):Pts lo w' v ps:=Sl.keep h k
theorem CxV.ok.keep {lo:Nat} {w w':World} {c:CxV} (h:c.ok lo w) (k:Keep lo w w'):c.ok lo w':=⟨h.p.keep k,Sl.keep h.sl k,fun f hf=>by
 have:=h.fs f hf
 exact ⟨Sl.keep this.o k,Sl.keep this.sl k,fun x hx=>Sl.keep (this.hs x hx) k⟩⟩
theorem CxV.ok.loc {lo b:Nat} (h:c.ok lo w) (a:Upd b w w') (hb:b<lo):c.ok lo w':=h.keep ((Keep.refl lo w).upd a (.inl hb))
theorem AO (lo:Nat) (d:Dr) (w:World) (M:d.ok lo w) :
  Calls Tryz.prog 22 #[d.val] w (Ret fun v w'=>ai8 d w v w'):=by
 refine aJ (vs:=[d.val]) func22 Z ntmps22 Z ?_
 refine au (bM Z (fun b1 w1 Q R D hB1=>?_))
 refine L.o (O.alloc zeroValue48 (fun b2 C S T n hB2=>?_))
 have xq:=D.trans n
 have hD2:Blk C b1 d.cells 59:=Blk.ext (cs:=d.cells) hB1 n
 have q:Blk C b2 [.slice none 0 0,.slice none 0 0,.int .i64 0,.int .i64 0,.int .i64 0,.slice none 0 0] 48:=hB2
 have N:=hD2.lt
 have e:=q.lt
 refine ak (au (L.fa Z (aT Z Z (Row.part hD2.row 0 5) (L.o (ay (xs:=[.tmp 5]) call69 Z Z (FP lo d C (M.ext xq)) (fun v3 U V=>?_))))))
 obtain ⟨b,c,rfl,s,f,g,i⟩:=V
 refine L.o (O.alloc zeroValue46 (fun b4 W X Y E F=>?_))
 refine L.o (aK sizeOf46 Z Z Z F leX (CxV.ok.one s) (fun G j H=>?_))
 replace j:Upd b4 W G:=j
 have t:Blk G b4 c.cells 46:=H
 have x:Ext U G:=E.upd j (.inr omX)
 have y:=s.ext x
 have hD5:=(hD2.ext b).ext x
 have TG:=(xq.trans b).trans x
 have z:=Xb f g i
 have A:=ZI f g i
 refine ak (aj (?_))
 refine dn mixed 6 [3,1] Z [.is _,.is _,.is _,.is _,.is _,.such (VA d c.fs.length C.heap.size)] [[],[],[],[2],[3],[1,4]] ⟨VA.st,trivial⟩ ⟨fun m hx=>bJ rfl rfl ((t.ext hx).row),
   fun m hx=>bJ rfl rfl ((hD5.ext hx).row),
   fun m hx=>Ob.fa rfl,
   fun m hx=>aS rfl ((t.ext hx).cell rfl),
   fun m hx=>Ob.o (O.le Z (Sl.val ((y.ext hx).sl)) kR),
   fun m hx=>Ob.o (ay (xs:=[.tmp 8,.tmp 11]) call70 Z Z (Tt lo c.fs.length d m (M.ext (TG.trans hx)) z A) (fun v wy h=>(by obtain ⟨h1,r,rfl,h2,h3,h4,h5,h6,h7⟩:=h;exact ⟨h1,r,rfl,h2.mono ((b.trans (x.trans hx)).size),⟨z,A,h3,h4,h5,h6,h7⟩⟩))),
   trivial⟩ (fun w6 k aa TF=>?_)
 obtain ⟨r,rfl,B,I⟩:=TF
 have l:=y.ext k
 refine L.o (bU (v:=.agg (fA c r).toArray) (parts:=[(0,.tmp 7),(1,.tmp 12)]) (vs:=[(0,_),(1,_)]) Z (fun w=>by kernel_rfl) (L.o (aK sizeOf48 Z Z Z ((q.ext b).ext x |>.ext k) leX (by intro u P;simp [fA] at P;rcases P with (rfl|rfl|rfl|rfl|rfl|rfl);exact Sl.one l.p;exact Sl.one l.sl;rfl;rfl;rfl;exact B.one) (fun w7 a J=>?_))))
 replace a:Upd b2 w6 w7:=a
 have K:Blk w7 b2 (fA c r) 48:=J
 refine ak (jZ results22 isAgg48 sizeOf48 Z Z K.row ⟨(TG.trans k).upd a (.inr omX),c,r,rfl,(l.loc a e).mono xq.size,(B.loc a e).mono xq.size,I,f,g,i⟩)
theorem yG (lo:Nat) (c:CxV) (r:RoV) (w:World) (l:c.ok lo w) (g:r.ok lo w) :
  Calls Tryz.prog 35 #[.agg (fA c r).toArray] w (Ret fun v w'=>v = .int .i64 (gQ c r (iq c))∧Ext w w'):=by
 have g:Units lo w r.uv r.us:=g
 refine aJ (vs:=[.agg (fA c r).toArray]) func35 Z ntmps35 Z ?_
 refine au (bM Z (fun b1 w1 m n d hB1=>?_))
 have hL:Blk w1 b1 (fA c r) 48:=hB1
 refine ah Z (aj (au (L.fa Z (aT Z Z ((Row.bI hL).part 0 2) (L.o (ay (xs:=[.tmp 6]) call83 Z Z (MR lo c w1 (l.ext d)) (fun v2 p h=>?_)))))))
 obtain ⟨a,e⟩:=h
 cases hb:iq c
 ·rw [hb] at a
  subst a
  refine ah Z (au (aO Z (fP Z Z dcX (?_))))
  have hL2:=Blk.ext (cs:=fA c r) hL e
  have xq:=d.trans e
  refine aU (T.skip (aj (au (L.fa Z (aT Z Z ((Row.bI hL2).part 2 4) (L.o (ay (xs:=[.tmp 12]) call33 Z Z (A8 lo r p (g.ext xq)) (fun v3 q h=>?_))))))))
  obtain ⟨i,f⟩:=h
  subst i
  have hL3:=Blk.ext (cs:=fA c r) hL2 f
  have kZ:=xq.trans f
  refine ah Z (aQ Z (L.ne Z Z (fun b=>?_) (fun b=>?_)))
  ·refine aW (aQ Z (ah Z (aB results35 Z ⟨by simp [gQ,b],kZ⟩)))
  refine aU (T.skip (aj (au (L.fa Z (aC Z (hL3.cell Z) (L.le Z (Sl.val ((g.ext kZ).sl)) (L.fa Z (aC Z (hL3.cell Z) (L.le Z (Sl.val ((l.ext kZ).sl)) (L.ne Z Z (fun j=>?_) (fun j=>?_)))))))))))
  ·refine aW (au (ah Z (aB results35 Z ⟨?_,kZ⟩)))
   have k:r.us.length≠c.fs.length:=by omega
   simp [gQ,b,k]
  refine aU (T.skip (au (ah Z (aB results35 Z ⟨?_,kZ⟩))))
  have k:r.us.length=c.fs.length:=by omega
  simp [gQ,b,k]
 rw [hb] at a
 subst a
 refine ah Z (au (aO Z (kT Z Z dcX (aW (aQ Z (ah Z (aB results35 Z ⟨rfl,d.trans e⟩)))))))
end Go.Proofs.YtnlonpcbgjbbaaaGreatDoor
