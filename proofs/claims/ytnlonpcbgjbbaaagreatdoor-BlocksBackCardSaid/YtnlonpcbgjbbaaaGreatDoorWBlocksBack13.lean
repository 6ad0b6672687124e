/-
  BlocksBack, part 13 of its proof: that it returns true for every input, and each argument reads behind the call as it read before. Conditions: the listed variables read as the program's text lays them (tied by the card).
-/
import Derived.Test.YtnlonpcbgjbbaaaGreatDoorWBlocksBack12
import Derived.Test.YtnlonpcbgjbbaaaGreatDoorWBlocksBack7
set_option linter.unusedVariables false
set_option linter.unusedSimpArgs false
set_option maxRecDepth 20000
set_option linter.unusedVariables false
set_option linter.unusedSimpArgs false
set_option maxRecDepth 20000
namespace Go.Proofs.YtnlonpcbgjbbaaaGreatDoor
open Go.Proofs.Tryz (call125 call32 call69 call70 call82 call87 func22 func34 func37 func69 func87 isAgg23 isAgg25 isAgg3 isAgg30 isAgg4 isAgg43 isAgg44 isAgg46 isAgg48 isAgg5 isAgg51 isAgg54 isAgg56 isAgg59 isAgg9 ntmps22 ntmps34 ntmps37 ntmps69 ntmps87 results22 results34 results37 results69 results87 runUnderlying23 runUnderlying25 runUnderlying3 runUnderlying30 runUnderlying4 runUnderlying43 runUnderlying44 runUnderlying46 runUnderlying48 runUnderlying5 runUnderlying51 runUnderlying56 runUnderlying59 runUnderlying9 sizeOf23 sizeOf25 sizeOf3 sizeOf30 sizeOf4 sizeOf43 sizeOf44 sizeOf46 sizeOf48 sizeOf5 sizeOf51 sizeOf54 sizeOf56 sizeOf59 sizeOf9 zeroValue46 zeroValue48 zeroValue51)
open Go Go.E
attribute [local irreducible] Go.E.T Go.E.L Go.E.O Go.E.Ob
attribute [local irreducible] Go.E.ObX
open Geo (Fc Match Bo DC)
def Pj (base:Nat) (r:RiV) (w:World):Prop:=∃ b,r.v = .slice (some ⟨b,0,none⟩) r.xs.length r.xs.length∧base≤b∧r.xs.length≤1000∧Blk w b (r.xs.map (Value.int .i64)) 3
def FaB (base:Nat) (f:FaV) (w:World):Prop:=Pj base f.o w∧(f.hv = .slice none 0 0∧f.hs = []∨∃ b h,f.hv = .slice (some ⟨b,0,none⟩) 1 1∧f.hs = [h]∧base≤b∧Blk w b [h.v] 30∧Pj base h w)
theorem Pj.ext {base:Nat} {r:RiV} {w w':World} (h:Pj base r w) (k:Ext w w'):Pj base r w':=by
 obtain ⟨b,h1,h2,h3,h4⟩:=h;exact ⟨b,h1,h2,h3,Blk.ext (cs:=r.xs.map (Value.int .i64)) h4 k⟩
theorem Pj.upd {base b:Nat} {r:RiV} {w w':World} (h:Pj base r w) (k:Upd b w w') (hb:b<base):Pj base r w':=by
 obtain ⟨b',h1,h2,h3,h4⟩:=h;exact ⟨b',h1,h2,h3,Blk.upd (cs:=r.xs.map (Value.int .i64)) h4 k (by omega)⟩
theorem FaB.ext {base:Nat} {f:FaV} {w w':World} (h:FaB base f w) (k:Ext w w'):FaB base f w':=by
 refine ⟨h.1.ext k,?_⟩
 rcases h.2 with h2|⟨b,x,h1,h2,h3,h4,h5⟩
 ·exact .inl h2
 exact .inr ⟨b,x,h1,h2,h3,Blk.ext (cs:=[x.v]) h4 k,h5.ext k⟩
theorem FaB.upd {base b:Nat} {f:FaV} {w w':World} (h:FaB base f w) (k:Upd b w w') (hb:b<base):FaB base f w':=by
 refine ⟨h.1.upd k hb,?_⟩
 rcases h.2 with h2|⟨b',x,h1,h2,h3,h4,h5⟩
 ·exact .inl h2
 exact .inr ⟨b',x,h1,h2,h3,Blk.upd (cs:=[x.v]) h4 k (by omega),h5.upd k hb⟩
theorem DV {w:World} {base n sz b:Nat} {el t:TypeId} {v:Value} {xs cs:List Value} (h:w.ownsRow base el sz v n xs) (hb:Blk w b cs t) (he:el≠t):∀ j,v.ownBlock=some j→j≠b:=by
 intro j hj e
 subst e
 rcases h.2 with ⟨hv,_⟩|⟨g,cap,cur,hv,_,hg,_⟩
 ·subst hv;cases hj
 subst hv
 cases hj
 unfold Blk at hb
 rw [hg] at hb
 cases hb
 exact he rfl
theorem Pj.grown {base base' n sz:Nat} {el:TypeId} {v:Value} {xs:List Value} {r:RiV} {w w':World} (h:Pj base r w) (hO:w.ownsRow base' el sz v n xs) (hG:w.grownBy w' v.ownBlock) (he:el≠3):Pj base r w':=by
 obtain ⟨b',h1,h2,h3,h4⟩:=h
 exact ⟨b',h1,h2,h3,Blk.grown (cs:=r.xs.map (Value.int .i64)) h4 hG (DV hO h4 he)⟩
theorem FaB.grown {base base' n sz:Nat} {el:TypeId} {v:Value} {xs:List Value} {f:FaV} {w w':World} (h:FaB base f w) (hO:w.ownsRow base' el sz v n xs) (hG:w.grownBy w' v.ownBlock) (he:el≠3) (he':el≠30):FaB base f w':=by
 refine ⟨h.1.grown hO hG he,?_⟩
 rcases h.2 with h2|⟨b',x,h1,h2,h3,h4,h5⟩
 ·exact .inl h2
 exact .inr ⟨b',x,h1,h2,h3,Blk.grown (cs:=[x.v]) h4 hG (DV hO h4 he'),h5.grown hO hG he⟩
def FsB (base:Nat) (v:Value) (fs:List FaV) (w:World):Prop:=w.ownsRow base 127 2 v fs.length (bP fs)∧∀ f∈fs,FaB base f w
theorem FsB.nil (base:Nat) (w:World):FsB base (.slice none 0 0) [] w:=⟨eG _ _ _ _,fun _ h=>by cases h⟩
theorem FsB.upd {base b:Nat} {v:Value} {fs:List FaV} {w w':World} (h:FsB base v fs w) (k:Upd b w w') (hb:b<base):FsB base v fs w':=⟨gW h.1 k hb,fun f hf=>(h.2 f hf).upd k hb⟩
theorem NY (a b:List FaV):bP (a++b)=bP a++bP b:=by simp [bP]
theorem FsB.app {base m:Nat} {v v':Value} {fs ns:List FaV} {news:List Value} {w wL w':World} (h:FsB base v fs w) (k:Ext w wL) (hG:wL.grownBy w' v.ownBlock) (hO:w'.ownsRow base 127 2 v' (fs.length+m) (bP fs++news)) (hn:∀ f∈ns,FaB base f wL) (he:news=bP ns) (hm:m=ns.length):FsB base v' (fs++ns) w':=by
 subst he hm
 refine ⟨by rw [List.length_append,NY];exact hO,fun f hf=>?_⟩
 have hL:=aG h.1 k (Nat.zero_le _)
 rcases List.mem_append.1 hf with hf|hf
 ·exact ((h.2 f hf).ext k).grown hL hG (by decide) (by decide)
 exact (hn f hf).grown hL hG (by decide) (by decide)
theorem FaB.ok {base:Nat} {f:FaV} {w:World} (h:FaB base f w):f.ok base w:=by
 have N:∀ {r:RiV},Pj base r w→Ints .i64 base w r.v r.xs:=fun ⟨b,h1,h2,h3,h4⟩=>by rw [h1];exact Ints.ay h4 rfl (by unfold maxLen;omega) h2
 refine ⟨N h.1,?_,?_⟩
 ·rcases h.2 with ⟨h1,h2⟩|⟨b,x,h1,h2,h3,h4,h5⟩
  ·rw [h1,h2];exact ⟨by simp [aJ],none,0,rfl,Nat.le_refl _,by decide,.inl rfl⟩
  rw [h1,h2];exact Sl.ay h4 rfl (Nat.le_refl _) (by decide) h3
 intro x hx
 rcases h.2 with ⟨h1,h2⟩|⟨b,y,h1,h2,h3,h4,h5⟩
 ·rw [h2] at hx;cases hx
 rw [h2] at hx
 simp only [List.mem_cons,List.mem_nil_iff,or_false] at hx
 subst hx;exact N h5
theorem yB {fs ns:List FaV} {gs hs:List Fc} {n:Nat} (h:Match fs gs n) (hl:ns.length=hs.length) (hn:∀ j,j<hs.length→(ns.getD j f0).o.xs=(hs.getD j ⟨.q,0,0⟩).ring n∧(ns.getD j f0).hs = []):Match (fs++ns) (gs++hs) n:=by
 refine ⟨by rw [List.length_append,List.length_append,h.len,hl],fun j hj=>?_⟩
 rw [List.length_append] at hj
 have hL:=h.len
 rcases Nat.lt_or_ge j gs.length with hlt|hge
 ·have:=h.at' j hlt
  rw [List.getD_eq_getElem?_getD,List.getElem?_append_left (by omega),← List.getD_eq_getElem?_getD,List.getD_eq_getElem?_getD (l:=gs++hs),List.getElem?_append_left hlt,← List.getD_eq_getElem?_getD]
  exact this
 have:=hn (j-gs.length) (by omega)
 rw [List.getD_eq_getElem?_getD,List.getElem?_append_right (by omega),← List.getD_eq_getElem?_getD,List.getD_eq_getElem?_getD (l:=gs++hs),List.getElem?_append_right hge,← List.getD_eq_getElem?_getD,hL]
 exact this
theorem RJ (n:Nat):Match [] [] n:=⟨rfl,fun j hj=>absurd hj (Nat.not_lt_zero _)⟩
theorem VQ (W k i:Nat):(⟨.s,i,k⟩:Fc).ring W = [(k:Int)*((W:Int)+1)+i,(k:Int)*((W:Int)+1)+i+1,(k:Int)*((W:Int)+1)+i+W+1+1]∧(⟨.t,i,k⟩:Fc).ring W = [(k:Int)*((W:Int)+1)+i,(k:Int)*((W:Int)+1)+i+W+1+1,(k:Int)*((W:Int)+1)+i+W+1]∧(⟨.q,i,k⟩:Fc).ring W = [(k:Int)*((W:Int)+1)+i,(k:Int)*((W:Int)+1)+i+1,(k:Int)*((W:Int)+1)+i+W+1+1,(k:Int)*((W:Int)+1)+i+W+1]∧(⟨.u,i,k⟩:Fc).ring W = [(k:Int)*((W:Int)+1)+i+W+1+1,(k:Int)*((W:Int)+1)+i+W+1,(k:Int)*((W:Int)+1)+i,(k:Int)*((W:Int)+1)+i+1]:=by
 have e:∀ a b:Nat,((Geo.ix W a b:Nat):Int)=(b:Int)*((W:Int)+1)+a:=fun a b=>by
  unfold Geo.ix
  rw [Int.natCast_add,Int.natCast_mul,Int.mul_comm];rfl
 have e1:((k+1:Nat):Int)*((W:Int)+1)=(k:Int)*((W:Int)+1)+((W:Int)+1):=by
  rw [show ((k+1:Nat):Int)=(k:Int)+1 by omega,Int.add_mul,Int.one_mul]
 refine ⟨?_,?_,?_,?_⟩ <;> simp only [Fc.ring,Fc.vs,List.map_cons,List.map_nil,e,e1] <;> generalize (k:Int)*((W:Int)+1)=a <;> simp only [List.cons.injEq,and_true,true_and] <;> (repeat' apply And.intro) <;> omega
open Go Go.E
open Geo (Fc Match Bo DC xAt yAt rowP qV kM DN vY)
def dW (d:Dr):Nat:=if d.ho then 3 else (1+d.wd % 4).toNat
def dH (d:Dr):Nat:=if d.ho then 3 else (1+d.hi % 3).toNat
def CxQ (w:World) (d:Dr) (v:Value) (w':World):Prop:=Ext w w'∧∃ c:CxV,v=c.val∧c.ok w.heap.size w'∧DC c (dW d) (dH d) d.ho d.ss d.cs∧(1≤dW d∧dW d≤4)∧1≤dH d∧dH d≤3
theorem CxQ.of {w w':World} {d:Dr} {base:Nat} {c:CxV} (hE:Ext w w') (hb:w.heap.size≤base) (hp:w'.ownsRow base 124 2 c.pv c.ps.length (pcs c.ps)) (hf:FsB base c.fv c.fs w') (hd:DC c (dW d) (dH d) d.ho d.ss d.cs) (hW:1≤dW d∧dW d≤4) (hH:1≤dH d∧dH d≤3):CxQ w d c.val w' :=
 ⟨hE,c,rfl,⟨(Sl.aT hp).mono hb,(Sl.aT hf.1).mono hb,fun f h=>by
  have:=(hf.2 f h).ok
  exact ⟨this.o.mono hb,Sl.mono this.sl hb,fun x hx=>(this.hs x hx).mono hb⟩⟩,hd,hW,hH⟩
theorem abQ {cs:List Int} {W k i:Nat} {gs:List Fc} (h:xO cs (k*W+i) % 8=0):kM cs W k i gs=gs ++ [⟨.s,i,k⟩,⟨.t,i,k⟩]:=by unfold Geo.kM;rw [if_pos h]
theorem abR {cs:List Int} {W k i:Nat} {gs:List Fc} (h0:¬ xO cs (k*W+i) % 8=0) (h:xO cs (k*W+i) % 8=1) (hg:gs ≠ []):kM cs W k i gs=gs:=by unfold Geo.kM;rw [if_neg h0,if_pos h,if_neg hg]
theorem Y0 {cs:List Int} {W k i:Nat} (h0:¬ xO cs (k*W+i) % 8=0) (h:xO cs (k*W+i) % 8=1):kM cs W k i [] = [⟨.u,i,k⟩]:=by unfold Geo.kM;rw [if_neg h0,if_pos h,if_pos rfl]
theorem abS {cs:List Int} {W k i:Nat} {gs:List Fc} (h0:¬ xO cs (k*W+i) % 8=0) (h:¬ xO cs (k*W+i) % 8=1):kM cs W k i gs=gs ++ [⟨.q,i,k⟩]:=by unfold Geo.kM;rw [if_neg h0,if_neg h]
theorem Gv {base b:Nat} {xs:List Int} {n:Nat} {w:World} {cs:List Value} (hb:Blk w b cs 3) (hcs:cs=xs.map (Value.int .i64)) (hn:xs.length=n) (hm:n≤1000) (h:base≤b):FaB base ⟨⟨.slice (some ⟨b,0,none⟩) n n,xs⟩,.slice none 0 0,[]⟩ w:=by
 subst hcs hn
 exact ⟨⟨b,rfl,h,hm,hb⟩,.inl ⟨rfl,rfl⟩⟩
set_option maxHeartbeats 4000000 in
theorem Af (lo:Nat) (d:Dr) (w:World) (hd:d.ok lo w) :
  Calls Tryz.prog 69 #[.agg (oU d).toArray] w (Ret fun v w'=>CxQ w d v w'):=by
 refine T.enter (vs:=[.agg (oU d).toArray]) func69 rfl ntmps69 rfl ?_
 refine T.q (L.o (O.box rfl (fun b1 w1 hb1 hz1 he1 hB1=>?_)))
 refine L.o (O.alloc zeroValue46 (fun b2 w2 hb2 hz2 he2 hB2=>?_))
 have zY:=he1.trans he2
 have hD2:Blk w2 b1 (oU d) 56:=Blk.ext (cs:=oU d) hB1 he2
 have hR2:Blk w2 b2 [.slice none 0 0,.slice none 0 0] 46:=hB2
 have hb1':=hD2.lt
 have hb2':=hR2.lt
 have hw0:=hd.w0
 have hh0:=hd.h0
 unfold qH at hw0 hh0
 refine L.nil (T.seq (?_))
 refine T.fJ mixed 11 [1] rfl [.is _,.is _,.is _,.is _,.is _,.is _,.is _,.is _,.is _,.is _,.is _] [[],[0],[1],[2],[3],[],[5],[6],[7],[8],[4]] [[],[0],[0,1],[0,1,2],[0,1,2,3],[],[5],[5,6],[5,6,7],[5,6,7,8],[0,1,2,3,4],[0,1,2,3,4,5,6,7,8,9,10]] (by kernel_rfl) (by kernel_rfl) rfl (by kernel_rfl) trivial ⟨fun wx hx=>Ob.o (O.fieldAddr runUnderlying56 rfl sizeOf5 rfl kR),
   fun wx hx=>Ob.o (O.load isAgg5 rfl ((hD2.ext hx).cell rfl) kR),
   fun wx hx=>Ob.o (O.rem rfl rfl (by omega) (by omega) kR),
   fun wx hx=>Ob.o (O.fC rfl (fun w=>⟨_,runUnderlying5 w⟩) runUnderlying3 (IntWalk.i64_in _ ⟨by omega,by omega⟩) kR),
   fun wx hx=>Ob.o (O.aI rfl rfl (by omega) kR),
   fun wx hx=>Ob.o (O.fieldAddr runUnderlying56 rfl sizeOf5 rfl kR),
   fun wx hx=>Ob.o (O.load isAgg5 rfl ((hD2.ext hx).cell rfl) kR),
   fun wx hx=>Ob.o (O.rem rfl rfl (by omega) (by omega) kR),
   fun wx hx=>Ob.o (O.fC rfl (fun w=>⟨_,runUnderlying5 w⟩) runUnderlying3 (IntWalk.i64_in _ ⟨by omega,by omega⟩) kR),
   fun wx hx=>Ob.o (O.aI rfl rfl (by omega) kR),
   fun wx hx=>Ob.o (O.assign rfl kR),
   trivial⟩ (fun w3 he3=>?_)
 refine L.a rfl (L.nil (T.seq (T.q (L.o (O.fieldAddr runUnderlying56 rfl sizeOf4 rfl (L.o (O.load isAgg4 rfl ((hD2.ext he3).cell rfl) (?_))))))))
 have mQ:=zY.trans he3
 refine L.nil (?_)
 refine T.join (σ:=Int × Int) (fun s=>[(1,.pointer (some ⟨b1,0,none⟩)),(2,.pointer (some ⟨b2,0,none⟩)),(3,.int .i64 s.1),(4,.int .i64 s.2)]) (fun s w'=>w'=w3∧s.1=dW d∧s.2=dH d) ?_ ?_
 ·rcases hho:d.ho with _|_
  ·refine T.cf (T.skip (T.meet ((1+d.wd % 4,1+d.hi % 3)) ⟨rfl,rfl,rfl,rfl,trivial⟩ ⟨rfl,by simp only [dW,hho];show 1+d.wd % 4=(((1+d.wd % 4).toNat:Nat):Int);omega,by simp only [dH,hho];show 1+d.hi % 3=(((1+d.hi % 3).toNat:Nat):Int);omega⟩))
  refine T.ct (T.region (L.a rfl (L.a rfl (L.nil (T.meet ((3,3)) ⟨rfl,rfl,rfl,rfl,trivial⟩ ⟨rfl,by simp only [dW,hho];rfl,by simp only [dH,hho];rfl⟩)))))
 rintro ⟨Wi,Hi⟩ w4 ⟨rfl,hW1,hH1⟩
 simp only at hW1 hH1
 subst hW1 hH1
 obtain ⟨Wn,hWn⟩:∃ Wn,Wn=dW d:=⟨_,rfl⟩
 obtain ⟨Hn,hHn⟩:∃ Hn,Hn=dH d:=⟨_,rfl⟩
 rw [← hWn,← hHn]
 have hWb:1≤Wn∧Wn≤4:=by rw [hWn];unfold dW;split <;> omega
 have hHb:1≤Hn∧Hn≤3:=by rw [hHn];unfold dH;split <;> omega
 obtain ⟨hW1,hW2⟩:=hWb
 obtain ⟨hH1,hH2⟩:=hHb
 have ajC:Wn≤4:=hW2
 refine T.q (L.o (O.build (v:=.agg #[.slice none 0 0,.slice none 0 0]) (parts:=[]) (vs:=[]) rfl (fun w=>by kernel_rfl) (L.o (O.alloc zeroValue46 (fun b5 w5 hb5 hz5 he5 hB5=>?_)))))
 refine L.o (O.aC sizeOf46 rfl rfl rfl hB5 (Nat.le_refl _) (by intro u hu;simp at hu;rcases hu with (rfl|rfl) <;> rfl) (fun w6 hu6 hB6=>?_))
 replace hu6:Upd b5 w5 w6:=hu6
 have hz3:=he3.size
 have AV:Ext w4 w6:=he5.upd hu6 (.inr (by omega))
 have Ih:=mQ.trans AV
 have ahv:Blk w6 b5 [.slice none 0 0,.slice none 0 0] 46:=hB6
 have Di:=ahv.lt
 have hz6:=hu6.size
 have amA:=zY.size
 have hD6:Blk w6 b1 (oU d) 56:=(hD2.ext he3).ext AV
 have hR6:=(hR2.ext he3).ext AV
 refine L.nil (T.q (L.a rfl (L.nil (T.seq (T.q (L.a rfl (L.nil (T.block (?_)))))))))
 refine T.loop (σ:=Nat × Value) (fun s=>[(1,.pointer (some ⟨b1,0,none⟩)),(2,.pointer (some ⟨b2,0,none⟩)),(3,.int .i64 Wn),(4,.int .i64 Hn),(5,.pointer (some ⟨b5,0,none⟩)),(6,.int .i64 (yAt d.ss s.1)),(7,.int .i64 s.1)]) (fun s w'=>s.1≤Hn+1∧Ext w w'∧w6.heap.size≤w'.heap.size∧Blk w' b1 (oU d) 56∧Blk w' b2 [.slice none 0 0,.slice none 0 0] 46∧Blk w' b5 [s.2,.slice none 0 0] 46∧w'.ownsRow w6.heap.size 124 2 s.2 (qV d.ss Wn s.1).length (pcs (qV d.ss Wn s.1))) (fun s=>Hn+1-s.1) ((0,.slice none 0 0)) ⟨rfl,rfl,rfl,rfl,rfl,rfl,rfl,trivial⟩ ⟨Nat.zero_le _,Ih,Nat.le_refl _,hD6,hR6,ahv,eG _ _ _ _⟩ ?_
 rintro ⟨k,pv⟩ w7 ⟨hk,he7,hz7,hD7,hR7,hC7,hP7⟩
 simp only at hk hC7 hP7
 have hy:=Geo.JB d.ss k
 refine T.seq (T.q (L.m rfl (L.m rfl (L.o (O.zQ rfl rfl (fun hlk=>?_) (fun hlk=>?_))))))
 ·refine L.nil (?_)
  have amB:k≤Hn:=by omega
  refine T.ct (T.skip (T.seq (T.block (T.q (L.a rfl (L.nil (T.seq (T.q (L.a rfl (L.nil (T.block (?_))))))))))))
  refine T.loop (σ:=Nat × Value) (fun s=>[(1,.pointer (some ⟨b1,0,none⟩)),(2,.pointer (some ⟨b2,0,none⟩)),(3,.int .i64 Wn),(4,.int .i64 Hn),(5,.pointer (some ⟨b5,0,none⟩)),(6,.int .i64 (yAt d.ss k)),(7,.int .i64 k),(8,.int .i64 (xAt d.ss s.1)),(9,.int .i64 s.1)]) (fun s w'=>s.1≤Wn+1∧Ext w w'∧w6.heap.size≤w'.heap.size∧Blk w' b1 (oU d) 56∧Blk w' b2 [.slice none 0 0,.slice none 0 0] 46∧Blk w' b5 [s.2,.slice none 0 0] 46∧w'.ownsRow w6.heap.size 124 2 s.2 (qV d.ss Wn k++rowP d.ss k s.1).length (pcs (qV d.ss Wn k++rowP d.ss k s.1))) (fun s=>Wn+1-s.1) ((0,pv)) ⟨rfl,rfl,rfl,rfl,rfl,rfl,rfl,rfl,rfl,trivial⟩ ⟨Nat.zero_le _,he7,hz7,hD7,hR7,hC7,by simpa [Geo.rowP] using hP7⟩ ?_
  rintro ⟨i,pv2⟩ w8 ⟨hi,he8,hz8,hD8,hR8,hC8,hP8⟩
  simp only at hi hC8 hP8
  have hx:=Geo.JA d.ss i
  have hLn:(qV d.ss Wn k++rowP d.ss k i).length≤100:=by
   rw [List.length_append,Geo.jO,Geo.oG]
   have:(Wn+1)*k≤5*4:=Nat.mul_le_mul (by omega) (by omega)
   omega
  refine T.seq (T.q (L.m rfl (L.m rfl (L.o (O.zQ rfl rfl (fun hli=>?_) (fun hli=>?_))))))
  ·refine L.nil (?_)
   have amC:i≤Wn:=by omega
   refine T.ct (T.skip (T.seq (T.block (T.q (L.o (O.fieldAddr runUnderlying46 rfl sizeOf43 rfl (L.o (O.load isAgg43 rfl (hC8.cell rfl) (L.m rfl (L.m rfl (L.o (O.build (v:=.agg #[.int .i64 (xAt d.ss i),.int .i64 (yAt d.ss k)]) (parts:=[(0,.tmp 39),(1,.tmp 40)]) (vs:=[(0,_),(1,_)]) rfl (fun w=>by kernel_rfl) (L.o (O.buildSlice (el:=124) (parts:=[(0,.tmp 41)]) (vs:=[(0,_)]) (cs:=[.int .i64 (xAt d.ss i),.int .i64 (yAt d.ss k)]) rfl (fun w=>by kernel_rfl) (fun b9 w9 hb9 hz9 he9 hB9=>?_)))))))))))))))
   have hO9:=aG hP8 he9 (Nat.zero_le _)
   refine L.o (O.append (size:=2) (bytes:=16) runUnderlying43 Tryz.xq rfl rfl rfl rfl (by decide) rfl rfl hO9 (Sl.ay (lo:=0) (n:=1) (sz:=2) hB9 rfl (Nat.le_refl _) (by decide) (Nat.zero_le _)) (by intro c hc;simp at hc;rcases hc with (rfl|rfl) <;> rfl) (by omega) (by simp only [maxLen];omega) (by have:=he9.size;omega) (fun v10 w10 ahw abT=>?_))
   have hne:∀ b',b'<w6.heap.size→∀ j,pv2.ownBlock=some j→j≠b':=fun b' hb' j hj=>by have:=(kC hP8 hj).1;omega
   have adh:v10.oneCell'=true:=Sl.one (Sl.aT ahw)
   have aeT:Ext w w10:=(he8.trans he9).fO hO9 abT (by have:=Ih.size;omega)
   refine L.o (O.fieldAddr runUnderlying46 rfl sizeOf43 rfl (L.o (O.store1 sizeOf43 adh rfl rfl ((hC8.ext he9).grown abT (hne b5 Di)) (by simp [Value.cells]) (fun w11 jg oV=>?_))))
   replace jg:Upd b5 w10 w11:=jg
   have adB:=((hD8.ext he9).grown abT (hne b1 (by omega))).upd jg (by omega)
   have afc:=((hR8.ext he9).grown abT (hne b2 (by omega))).upd jg (by omega)
   have EL:Ext w w11:=aeT.upd jg (.inr (by omega))
   have hd11:=hd.ext EL
   have hnb:=Dh hd.sl i
   have aeD:w8.heap.size≤w11.heap.size:=by have:=he9.size;have:=abT.size;have:=jg.size;omega
   refine L.nil (T.region (L.m rfl (L.o (O.aI rfl rfl (by (try dsimp only);omega) (L.o (O.fieldAddr runUnderlying56 rfl sizeOf54 rfl (L.o (O.load isAgg54 rfl (adB.cell rfl) (L.m rfl (L.o (O.call (xs:=[.tmp 48,.tmp 49]) call125 rfl rfl (nY lo d.sv d.ss i w11 hd11.s hd.sl (by omega)) (fun v12 w12 hq=>?_))))))))))))
   obtain ⟨rfl,rfl⟩:=hq
   refine L.o (O.rem rfl rfl (by omega) (by omega) (L.o (O.aI rfl rfl (by (try dsimp only);omega) (L.a rfl (L.nil (T.blk (T.region (L.m rfl (L.o (O.aI rfl rfl (by (try dsimp only);omega) (L.a rfl (L.nil (T.again ((i+1,v10)) (by omega) ⟨rfl,rfl,rfl,rfl,rfl,rfl,rfl,rfl,rfl,trivial⟩ ⟨by omega,EL,by omega,adB,afc,oV,?_⟩)))))))))))))
   ·have h:=gW ahw jg Di
    have e:qV d.ss Wn k++rowP d.ss k (i+1)=(qV d.ss Wn k++rowP d.ss k i) ++ [(xAt d.ss i,yAt d.ss k)]:=by rw [Geo.rowP,List.append_assoc]
    show World.ownsRow w12 _ _ _ v10 (qV d.ss Wn k++rowP d.ss k (i+1)).length (pcs (qV d.ss Wn k++rowP d.ss k (i+1)))
    rw [e,List.length_append,A8,QF]
    exact h
  refine L.nil (?_)
  obtain rfl:i=Wn+1:=by omega
  have hd8:=hd.ext he8
  have hnb:=Dh hd.sl (7+k)
  refine T.cf (T.exit rfl (T.region (L.m rfl (L.o (O.aI rfl rfl (by (try dsimp only);omega) (L.o (O.fieldAddr runUnderlying56 rfl sizeOf54 rfl (L.o (O.load isAgg54 rfl (hD8.cell rfl) (L.m rfl (L.o (O.aI rfl rfl (by (try dsimp only);omega) (?_)))))))))))))
  rw [show (7:Int)+(k:Int)=((7+k:Nat):Int) by omega]
  refine L.o (O.call (xs:=[.tmp 56,.tmp 58]) call125 rfl rfl (nY lo d.sv d.ss (7+k) w8 hd8.s hd.sl (by omega)) (fun v9 w9 hq=>?_))
  obtain ⟨rfl,rfl⟩:=hq
  refine L.o (O.rem rfl rfl (by omega) (by omega) (L.o (O.aI rfl rfl (by (try dsimp only);omega) (L.a rfl (L.nil (T.blk (T.region (L.m rfl (L.o (O.aI rfl rfl (by (try dsimp only);omega) (L.a rfl (L.nil (T.again ((k+1,pv2)) (by omega) ⟨rfl,rfl,rfl,rfl,rfl,rfl,rfl,trivial⟩ ⟨by omega,he8,hz8,hD8,hR8,hC8,hP8⟩)))))))))))))
 refine L.nil (?_)
 obtain rfl:k=Hn+1:=by omega
 refine T.cf (T.exit rfl (T.seq (T.q (L.o (O.fieldAddr runUnderlying56 rfl sizeOf4 rfl (L.o (O.load isAgg4 rfl (hD7.cell rfl) (?_))))))))
 have amD:=Ih.size
 have hpv1:pv.oneCell'=true:=Sl.one (Sl.aT hP7)
 rcases hho:d.ho with _|_
 ·refine L.nil (T.cf (T.skip (T.seq (T.q (L.a rfl (L.nil (T.block (?_))))))))
  refine T.loop (σ:=Nat × Value × List FaV) (fun s=>[(1,.pointer (some ⟨b1,0,none⟩)),(2,.pointer (some ⟨b2,0,none⟩)),(3,.int .i64 Wn),(4,.int .i64 Hn),(5,.pointer (some ⟨b5,0,none⟩)),(10,.int .i64 s.1)]) (fun s w'=>s.1≤Hn∧Ext w w'∧w6.heap.size≤w'.heap.size∧Blk w' b1 (oU d) 56∧Blk w' b2 [.slice none 0 0,.slice none 0 0] 46∧Blk w' b5 [pv,s.2.1] 46∧FsB w6.heap.size s.2.1 s.2.2 w'∧w'.ownsRow w6.heap.size 124 2 pv (qV d.ss Wn (Hn+1)).length (pcs (qV d.ss Wn (Hn+1)))∧Match s.2.2 (vY d.cs Wn s.1) Wn) (fun s=>Hn-s.1) ((0,.slice none 0 0,[])) ⟨rfl,rfl,rfl,rfl,rfl,rfl,trivial⟩ ⟨Nat.zero_le _,he7,hz7,hD7,hR7,hC7,FsB.nil _ _,hP7,RJ _⟩ ?_
  rintro ⟨k,fv,fs⟩ w8 ⟨hk8,he8,hz8,hD8,hR8,hC8,hF8,hP8,hM8⟩
  simp only at hk8 hC8 hF8 hM8
  refine T.seq (T.q (L.m rfl (L.m rfl (L.o (O.bF rfl rfl (fun hlk2=>?_) (fun hlk2=>?_))))))
  ·refine L.nil (?_)
   have ajD:k<Hn:=by omega
   refine T.ct (T.skip (T.seq (T.block (T.q (L.a rfl (L.nil (T.block (?_))))))))
   refine T.loop (σ:=Nat × Value × List FaV) (fun s=>[(1,.pointer (some ⟨b1,0,none⟩)),(2,.pointer (some ⟨b2,0,none⟩)),(3,.int .i64 Wn),(4,.int .i64 Hn),(5,.pointer (some ⟨b5,0,none⟩)),(10,.int .i64 k),(11,.int .i64 s.1)]) (fun s w'=>s.1≤Wn∧Ext w w'∧w6.heap.size≤w'.heap.size∧Blk w' b1 (oU d) 56∧Blk w' b2 [.slice none 0 0,.slice none 0 0] 46∧Blk w' b5 [pv,s.2.1] 46∧FsB w6.heap.size s.2.1 s.2.2 w'∧w'.ownsRow w6.heap.size 124 2 pv (qV d.ss Wn (Hn+1)).length (pcs (qV d.ss Wn (Hn+1)))∧Match s.2.2 (DN d.cs Wn k (vY d.cs Wn k) s.1) Wn) (fun s=>Wn-s.1) ((0,fv,fs)) ⟨rfl,rfl,rfl,rfl,rfl,rfl,rfl,trivial⟩ ⟨Nat.zero_le _,he8,hz8,hD8,hR8,hC8,hF8,hP8,hM8⟩ ?_
   rintro ⟨i,fv2,fs2⟩ w9 ⟨hi9,he9,hz9,hD9,hR9,hC9,hF9,hP9,hM9⟩
   simp only at hi9 hC9 hF9 hM9
   refine T.seq (T.q (L.m rfl (L.m rfl (L.o (O.bF rfl rfl (fun ajE=>?_) (fun ajE=>?_))))))
   ·refine L.nil (?_)
    have ajF:i<Wn:=by omega
    have hm:0≤(k:Int)*((Wn:Int)+1)∧(k:Int)*((Wn:Int)+1)≤15:=⟨Int.mul_nonneg (by omega) (by omega),Int.mul_le_mul (show (k:Int)≤3 by omega) (show (Wn:Int)+1≤5 by omega) (by omega) (by omega)⟩
    have hmk:(k:Int)*(Wn:Int)=((k*Wn:Nat):Int):=by simp
    have hm2:k*Wn≤12:=Nat.mul_le_mul (show k≤3 by omega) ajC
    have hgl:=(Geo.DR d.cs Wn k (vY d.cs Wn k) i).2.1
    have amE:=(Geo.wV d.cs Wn (by omega) k).2
    have amF:2*Wn*k≤2*4*3:=Nat.mul_le_mul (by omega) (by omega)
    have hfl:=hM9.len
    have hfn:fs2.length≤100:=by omega
    have hrg:=VQ Wn k i
    obtain ⟨A,hA⟩:∃ A:Int,A=(k:Int)*((Wn:Int)+1)+(i:Int):=⟨_,rfl⟩
    rw [← hA] at hrg
    have hO9:=hF9.1
    refine T.ct (T.skip (T.seq (?_)))
    refine T.join (σ:=Value × List FaV) (fun s=>[(1,.pointer (some ⟨b1,0,none⟩)),(2,.pointer (some ⟨b2,0,none⟩)),(3,.int .i64 Wn),(4,.int .i64 Hn),(5,.pointer (some ⟨b5,0,none⟩)),(10,.int .i64 k),(11,.int .i64 i)]) (fun s w'=>Ext w w'∧w6.heap.size≤w'.heap.size∧Blk w' b1 (oU d) 56∧Blk w' b2 [.slice none 0 0,.slice none 0 0] 46∧Blk w' b5 [pv,s.1] 46∧FsB w6.heap.size s.1 s.2 w'∧w'.ownsRow w6.heap.size 124 2 pv (qV d.ss Wn (Hn+1)).length (pcs (qV d.ss Wn (Hn+1)))∧Match s.2 (DN d.cs Wn k (vY d.cs Wn k) (i+1)) Wn) ?_ ?_
    ·refine T.block (T.q (L.m rfl (L.m rfl (L.o (O.aI rfl rfl (by (try dsimp only);omega) (L.o (O.l9 rfl rfl (by (try dsimp only);omega) (L.m rfl (L.o (O.aI rfl rfl (by (try dsimp only);omega) (?_)))))))))))
     rw [← hA]
     refine L.a rfl (L.nil (T.q (L.m rfl (L.m rfl (L.o (O.aI rfl rfl (by (try dsimp only);omega) (L.o (O.aI rfl rfl (by (try dsimp only);omega) (L.a rfl (L.nil (T.q (L.o (O.fieldAddr runUnderlying56 rfl sizeOf54 rfl (L.o (O.load isAgg54 rfl (hD9.cell rfl) (L.m rfl (L.m rfl (L.o (O.l9 rfl rfl (by (try dsimp only);omega) (L.m rfl (L.o (O.aI rfl rfl (by (try dsimp only);omega) (L.o (O.call (xs:=[.tmp 107,.tmp 112]) call125 rfl rfl (nY lo d.cv d.cs (k*Wn+i) w9 (hd.ext he9).c hd.cl (by omega)) (fun v10 w10 hq=>?_)))))))))))))))))))))))))
     obtain ⟨rfl,rfl⟩:=hq
     have hnb:=Dh hd.cl (k*Wn+i)
     refine L.o (O.rem rfl rfl (by omega) (by omega) (L.nil (T.block (T.q (L.o (O.jw rfl rfl (fun c0=>?_) (fun c0=>?_)))))))
     ·refine L.a rfl (L.nil (T.ct (T.region (L.o (O.fieldAddr runUnderlying46 rfl sizeOf44 rfl (L.o (O.load isAgg44 rfl (hC9.cell rfl) (L.m rfl (L.m rfl (L.o (O.aI rfl rfl (by (try dsimp only);omega) (L.m rfl (L.o (O.aI rfl rfl (by (try dsimp only);omega) (L.o (O.buildSlice (el:=3) (parts:=[(0,.tmp 132),(1,.tmp 134),(2,.tmp 136)]) (vs:=[(0,_),(1,_),(2,_)]) (cs:=[.int .i64 (A),.int .i64 (A+1),.int .i64 (A+(Wn:Int)+1+1)]) rfl (fun w=>by kernel_rfl) (fun b11 w11 adK Xw eH oV=>?_)))))))))))))))))
      refine L.o (O.build (v:=.agg #[.slice (some ⟨b11,0,none⟩) 3 3,.slice none 0 0]) (parts:=[(0,.tmp 137)]) (vs:=[(0,_)]) rfl (fun w=>by kernel_rfl) (L.m rfl (L.m rfl (L.o (O.aI rfl rfl (by (try dsimp only);omega) (L.m rfl (L.o (O.buildSlice (el:=3) (parts:=[(0,.tmp 139),(1,.tmp 141),(2,.tmp 142)]) (vs:=[(0,_),(1,_),(2,_)]) (cs:=[.int .i64 (A),.int .i64 (A+(Wn:Int)+1+1),.int .i64 (A+(Wn:Int)+1)]) rfl (fun w=>by kernel_rfl) (fun b12 w12 aa4 aa0 fQ Ji=>?_)))))))))
      refine L.o (O.build (v:=.agg #[.slice (some ⟨b12,0,none⟩) 3 3,.slice none 0 0]) (parts:=[(0,.tmp 143)]) (vs:=[(0,_)]) rfl (fun w=>by kernel_rfl) (L.o (O.buildSlice (el:=127) (parts:=[(0,.tmp 138),(1,.tmp 144)]) (vs:=[(0,_),(1,_)]) (cs:=[.slice (some ⟨b11,0,none⟩) 3 3,.slice none 0 0,.slice (some ⟨b12,0,none⟩) 3 3,.slice none 0 0]) rfl (fun w=>by kernel_rfl) (fun b13 w13 adz U8 dn xQ=>?_))))
      have heL:=((eH).trans fQ).trans dn
      have hnew:∀ f∈([⟨⟨.slice (some ⟨b11,0,none⟩) 3 3,[A,A+1,A+(Wn:Int)+1+1]⟩,.slice none 0 0,[]⟩,⟨⟨.slice (some ⟨b12,0,none⟩) 3 3,[A,A+(Wn:Int)+1+1,A+(Wn:Int)+1]⟩,.slice none 0 0,[]⟩]:List FaV),FaB w6.heap.size f w13:=fun f hf=>by
       simp only [List.mem_cons,List.mem_nil_iff,or_false] at hf
       rcases hf with rfl|rfl
       ·exact Gv (Blk.ext (cs:=[.int .i64 (A),.int .i64 (A+1),.int .i64 (A+(Wn:Int)+1+1)]) oV (fQ.trans dn)) rfl rfl (by decide) (by omega)
       exact Gv (Blk.ext (cs:=[.int .i64 (A),.int .i64 (A+(Wn:Int)+1+1),.int .i64 (A+(Wn:Int)+1)]) Ji dn) rfl rfl (by decide) (by have:=eH.size;omega)
      have hOL:=aG hO9 heL (Nat.zero_le _)
      refine L.o (O.append (size:=2) (bytes:=48) runUnderlying44 Tryz.ku rfl rfl rfl rfl (by decide) rfl rfl hOL (Sl.ay (lo:=0) (n:=2) (sz:=2) xQ rfl (Nat.le_refl _) (by decide) (Nat.zero_le _)) (by intro c hc;simp at hc;rcases hc with (rfl|rfl|rfl|rfl) <;> rfl) (by omega) (by simp only [maxLen];omega) (by have:=heL.size;omega) (fun v30 w30 Ny yC=>?_))
      have hne:∀ b',b'<w6.heap.size→∀ j,fv2.ownBlock=some j→j≠b':=fun b' hb' j hj=>by have:=(kC hOL hj).1;omega
      have Y1:∀ j,fv2.ownBlock=some j→pv.ownBlock=some j→False:=fun j h1 h2=>by rcases own_ne hO9 hP9 (by decide) with h|h;rw [h] at h1;cases h1;exact h (h1.trans h2.symm)
      have XQ:v30.oneCell'=true:=Sl.one (Sl.aT Ny)
      have abU:=hF9.app heL yC Ny (ns:=([⟨⟨.slice (some ⟨b11,0,none⟩) 3 3,[A,A+1,A+(Wn:Int)+1+1]⟩,.slice none 0 0,[]⟩,⟨⟨.slice (some ⟨b12,0,none⟩) 3 3,[A,A+(Wn:Int)+1+1,A+(Wn:Int)+1]⟩,.slice none 0 0,[]⟩]:List FaV)) hnew rfl rfl
      refine L.o (O.fieldAddr runUnderlying46 rfl sizeOf44 rfl (L.o (O.store1 sizeOf44 XQ rfl rfl ((hC9.ext heL).grown yC (hne b5 Di)) (by simp [Value.cells]) (fun w31 qh VR=>?_))))
      replace qh:Upd b5 w30 w31:=qh
      have abV:Ext w w30:=(he9.trans heL).fO hOL yC (by omega)
      have abW:World.ownsRow w30 _ _ _ pv _ _:=(aG hP9 heL (Nat.zero_le _)).kept yC (by rcases hq:pv.ownBlock with _|j;exact .inl rfl;exact .inr fun h=>Y1 j (by rw [← h]) hq)
      refine L.nil (T.blk (T.blk (T.meet ((v30,fs2++([⟨⟨.slice (some ⟨b11,0,none⟩) 3 3,[A,A+1,A+(Wn:Int)+1+1]⟩,.slice none 0 0,[]⟩,⟨⟨.slice (some ⟨b12,0,none⟩) 3 3,[A,A+(Wn:Int)+1+1,A+(Wn:Int)+1]⟩,.slice none 0 0,[]⟩]:List FaV))) ⟨rfl,rfl,rfl,rfl,rfl,rfl,rfl,trivial⟩ ⟨abV.upd qh (.inr (by omega)),by have:=heL.size;have:=yC.size;have:=qh.size;omega,((hD9.ext heL).grown yC (hne b1 (by omega))).upd qh (by omega),((hR9.ext heL).grown yC (hne b2 (by omega))).upd qh (by omega),VR,abU.upd qh Di,gW abW qh Di,?_⟩)))
      ·show Match _ (kM d.cs Wn k i (DN d.cs Wn k (vY d.cs Wn k) i)) Wn
       rw [abQ c0];exact yB hM9 rfl (fun j hj=>by rcases (show j=0∨j=1 by simp at hj;omega) with rfl|rfl;exact ⟨hrg.1.symm,rfl⟩;exact ⟨hrg.2.1.symm,rfl⟩)
     refine L.a rfl (L.nil (T.cf (T.q (L.o (O.jw rfl rfl (fun c1=>?_) (fun c1=>?_))))))
     ·refine L.a rfl (L.nil (T.ct (T.seq (T.q (L.o (O.fieldAddr runUnderlying46 rfl sizeOf44 rfl (L.o (O.load isAgg44 rfl (hC9.cell rfl) (L.o (O.len runUnderlying44 rfl (Sl.val (Sl.aT hO9)) (L.o (O.jS rfl rfl (fun c2=>?_) (fun c2=>?_)))))))))))))
      ·refine L.nil (?_)
       have ajG:DN d.cs Wn k (vY d.cs Wn k) i ≠ []:=fun h=>by rw [h] at hfl;simp at hfl;rw [hfl] at c2;simp at c2
       refine T.ct (T.exit rfl (T.meet ((fv2,fs2)) ⟨rfl,rfl,rfl,rfl,rfl,rfl,rfl,trivial⟩ ⟨he9,hz9,hD9,hR9,hC9,hF9,hP9,?_⟩))
       ·show Match _ (kM d.cs Wn k i (DN d.cs Wn k (vY d.cs Wn k) i)) Wn
        rw [abR c0 c1 ajG];exact hM9
      refine L.nil (?_)
      have hgn:DN d.cs Wn k (vY d.cs Wn k) i = []:=List.eq_nil_of_length_eq_zero (by omega)
      refine T.cf (T.skip (T.region (L.o (O.fieldAddr runUnderlying46 rfl sizeOf44 rfl (L.o (O.load isAgg44 rfl (hC9.cell rfl) (L.m rfl (L.o (O.aI rfl rfl (by (try dsimp only);omega) (L.m rfl (L.m rfl (L.m rfl (L.o (O.aI rfl rfl (by (try dsimp only);omega) (L.o (O.buildSlice (el:=3) (parts:=[(0,.tmp 157),(1,.tmp 158),(2,.tmp 159),(3,.tmp 161)]) (vs:=[(0,_),(1,_),(2,_),(3,_)]) (cs:=[.int .i64 (A+(Wn:Int)+1+1),.int .i64 (A+(Wn:Int)+1),.int .i64 (A),.int .i64 (A+1)]) rfl (fun w=>by kernel_rfl) (fun b11 w11 adK Xw eH oV=>?_)))))))))))))))))
      refine L.o (O.build (v:=.agg #[.slice (some ⟨b11,0,none⟩) 4 4,.slice none 0 0]) (parts:=[(0,.tmp 162)]) (vs:=[(0,_)]) rfl (fun w=>by kernel_rfl) (L.o (O.buildSlice (el:=127) (parts:=[(0,.tmp 163)]) (vs:=[(0,_)]) (cs:=[.slice (some ⟨b11,0,none⟩) 4 4,.slice none 0 0]) rfl (fun w=>by kernel_rfl) (fun b12 w12 aa4 aa0 fQ Ji=>?_))))
      have heL:=(eH).trans fQ
      have hnew:∀ f∈([⟨⟨.slice (some ⟨b11,0,none⟩) 4 4,[A+(Wn:Int)+1+1,A+(Wn:Int)+1,A,A+1]⟩,.slice none 0 0,[]⟩]:List FaV),FaB w6.heap.size f w12:=fun f hf=>by
       simp only [List.mem_cons,List.mem_nil_iff,or_false] at hf
       subst hf
       exact Gv (Blk.ext (cs:=[.int .i64 (A+(Wn:Int)+1+1),.int .i64 (A+(Wn:Int)+1),.int .i64 (A),.int .i64 (A+1)]) oV fQ) rfl rfl (by decide) (by omega)
      have hOL:=aG hO9 heL (Nat.zero_le _)
      refine L.o (O.append (size:=2) (bytes:=48) runUnderlying44 Tryz.ku rfl rfl rfl rfl (by decide) rfl rfl hOL (Sl.ay (lo:=0) (n:=1) (sz:=2) Ji rfl (Nat.le_refl _) (by decide) (Nat.zero_le _)) (by intro c hc;simp at hc;rcases hc with (rfl|rfl) <;> rfl) (by omega) (by simp only [maxLen];omega) (by have:=heL.size;omega) (fun v30 w30 Ny yC=>?_))
      have hne:∀ b',b'<w6.heap.size→∀ j,fv2.ownBlock=some j→j≠b':=fun b' hb' j hj=>by have:=(kC hOL hj).1;omega
      have Y1:∀ j,fv2.ownBlock=some j→pv.ownBlock=some j→False:=fun j h1 h2=>by rcases own_ne hO9 hP9 (by decide) with h|h;rw [h] at h1;cases h1;exact h (h1.trans h2.symm)
      have XQ:v30.oneCell'=true:=Sl.one (Sl.aT Ny)
      have abU:=hF9.app heL yC Ny (ns:=([⟨⟨.slice (some ⟨b11,0,none⟩) 4 4,[A+(Wn:Int)+1+1,A+(Wn:Int)+1,A,A+1]⟩,.slice none 0 0,[]⟩]:List FaV)) hnew rfl rfl
      refine L.o (O.fieldAddr runUnderlying46 rfl sizeOf44 rfl (L.o (O.store1 sizeOf44 XQ rfl rfl ((hC9.ext heL).grown yC (hne b5 Di)) (by simp [Value.cells]) (fun w31 qh VR=>?_))))
      replace qh:Upd b5 w30 w31:=qh
      have abV:Ext w w30:=(he9.trans heL).fO hOL yC (by omega)
      have abW:World.ownsRow w30 _ _ _ pv _ _:=(aG hP9 heL (Nat.zero_le _)).kept yC (by rcases hq:pv.ownBlock with _|j;exact .inl rfl;exact .inr fun h=>Y1 j (by rw [← h]) hq)
      refine L.nil (T.blk (T.blk (T.meet ((v30,fs2++([⟨⟨.slice (some ⟨b11,0,none⟩) 4 4,[A+(Wn:Int)+1+1,A+(Wn:Int)+1,A,A+1]⟩,.slice none 0 0,[]⟩]:List FaV))) ⟨rfl,rfl,rfl,rfl,rfl,rfl,rfl,trivial⟩ ⟨abV.upd qh (.inr (by omega)),by have:=heL.size;have:=yC.size;have:=qh.size;omega,((hD9.ext heL).grown yC (hne b1 (by omega))).upd qh (by omega),((hR9.ext heL).grown yC (hne b2 (by omega))).upd qh (by omega),VR,abU.upd qh Di,gW abW qh Di,?_⟩)))
      ·show Match _ (kM d.cs Wn k i (DN d.cs Wn k (vY d.cs Wn k) i)) Wn
       rw [hgn] at hM9 ⊢;rw [Y0 c0 c1];exact yB hM9 rfl (fun j hj=>by have e:j=0:=Nat.lt_one_iff.1 hj;subst e;exact ⟨hrg.2.2.2.symm,rfl⟩)
     refine L.a rfl (L.nil (T.cf (T.region (L.o (O.fieldAddr runUnderlying46 rfl sizeOf44 rfl (L.o (O.load isAgg44 rfl (hC9.cell rfl) (L.m rfl (L.m rfl (L.o (O.aI rfl rfl (by (try dsimp only);omega) (L.m rfl (L.o (O.aI rfl rfl (by (try dsimp only);omega) (L.m rfl (L.o (O.buildSlice (el:=3) (parts:=[(0,.tmp 117),(1,.tmp 119),(2,.tmp 121),(3,.tmp 122)]) (vs:=[(0,_),(1,_),(2,_),(3,_)]) (cs:=[.int .i64 (A),.int .i64 (A+1),.int .i64 (A+(Wn:Int)+1+1),.int .i64 (A+(Wn:Int)+1)]) rfl (fun w=>by kernel_rfl) (fun b11 w11 adK Xw eH oV=>?_))))))))))))))))))
     refine L.o (O.build (v:=.agg #[.slice (some ⟨b11,0,none⟩) 4 4,.slice none 0 0]) (parts:=[(0,.tmp 123)]) (vs:=[(0,_)]) rfl (fun w=>by kernel_rfl) (L.o (O.buildSlice (el:=127) (parts:=[(0,.tmp 124)]) (vs:=[(0,_)]) (cs:=[.slice (some ⟨b11,0,none⟩) 4 4,.slice none 0 0]) rfl (fun w=>by kernel_rfl) (fun b12 w12 aa4 aa0 fQ Ji=>?_))))
     have heL:=(eH).trans fQ
     have hnew:∀ f∈([⟨⟨.slice (some ⟨b11,0,none⟩) 4 4,[A,A+1,A+(Wn:Int)+1+1,A+(Wn:Int)+1]⟩,.slice none 0 0,[]⟩]:List FaV),FaB w6.heap.size f w12:=fun f hf=>by
      simp only [List.mem_cons,List.mem_nil_iff,or_false] at hf
      subst hf
      exact Gv (Blk.ext (cs:=[.int .i64 (A),.int .i64 (A+1),.int .i64 (A+(Wn:Int)+1+1),.int .i64 (A+(Wn:Int)+1)]) oV fQ) rfl rfl (by decide) (by omega)
     have hOL:=aG hO9 heL (Nat.zero_le _)
     refine L.o (O.append (size:=2) (bytes:=48) runUnderlying44 Tryz.ku rfl rfl rfl rfl (by decide) rfl rfl hOL (Sl.ay (lo:=0) (n:=1) (sz:=2) Ji rfl (Nat.le_refl _) (by decide) (Nat.zero_le _)) (by intro c hc;simp at hc;rcases hc with (rfl|rfl) <;> rfl) (by omega) (by simp only [maxLen];omega) (by have:=heL.size;omega) (fun v30 w30 Ny yC=>?_))
     have hne:∀ b',b'<w6.heap.size→∀ j,fv2.ownBlock=some j→j≠b':=fun b' hb' j hj=>by have:=(kC hOL hj).1;omega
     have Y1:∀ j,fv2.ownBlock=some j→pv.ownBlock=some j→False:=fun j h1 h2=>by rcases own_ne hO9 hP9 (by decide) with h|h;rw [h] at h1;cases h1;exact h (h1.trans h2.symm)
     have XQ:v30.oneCell'=true:=Sl.one (Sl.aT Ny)
     have abU:=hF9.app heL yC Ny (ns:=([⟨⟨.slice (some ⟨b11,0,none⟩) 4 4,[A,A+1,A+(Wn:Int)+1+1,A+(Wn:Int)+1]⟩,.slice none 0 0,[]⟩]:List FaV)) hnew rfl rfl
     refine L.o (O.fieldAddr runUnderlying46 rfl sizeOf44 rfl (L.o (O.store1 sizeOf44 XQ rfl rfl ((hC9.ext heL).grown yC (hne b5 Di)) (by simp [Value.cells]) (fun w31 qh VR=>?_))))
     replace qh:Upd b5 w30 w31:=qh
     have abV:Ext w w30:=(he9.trans heL).fO hOL yC (by omega)
     have abW:World.ownsRow w30 _ _ _ pv _ _:=(aG hP9 heL (Nat.zero_le _)).kept yC (by rcases hq:pv.ownBlock with _|j;exact .inl rfl;exact .inr fun h=>Y1 j (by rw [← h]) hq)
     refine L.nil (T.blk (T.blk (T.meet ((v30,fs2++([⟨⟨.slice (some ⟨b11,0,none⟩) 4 4,[A,A+1,A+(Wn:Int)+1+1,A+(Wn:Int)+1]⟩,.slice none 0 0,[]⟩]:List FaV))) ⟨rfl,rfl,rfl,rfl,rfl,rfl,rfl,trivial⟩ ⟨abV.upd qh (.inr (by omega)),by have:=heL.size;have:=yC.size;have:=qh.size;omega,((hD9.ext heL).grown yC (hne b1 (by omega))).upd qh (by omega),((hR9.ext heL).grown yC (hne b2 (by omega))).upd qh (by omega),VR,abU.upd qh Di,gW abW qh Di,?_⟩)))
     ·show Match _ (kM d.cs Wn k i (DN d.cs Wn k (vY d.cs Wn k) i)) Wn
      rw [abS c0 c1];exact yB hM9 rfl (fun j hj=>by have e:j=0:=Nat.lt_one_iff.1 hj;subst e;exact ⟨hrg.2.2.1.symm,rfl⟩)
    rintro ⟨fv3,fs3⟩ w40 ⟨Yn,ag2,ajH,ajI,ajJ,ajK,ajL,ajM⟩
    refine T.region (L.m rfl (L.o (O.aI rfl rfl (by (try dsimp only);omega) (L.a rfl (L.nil (T.again ((i+1,fv3,fs3)) (by omega) ⟨rfl,rfl,rfl,rfl,rfl,rfl,rfl,trivial⟩ ⟨by omega,Yn,ag2,ajH,ajI,ajJ,ajK,ajL,ajM⟩))))))
   refine L.nil (?_)
   obtain rfl:i=Wn:=by omega
   refine T.cf (T.exit rfl (T.blk (T.region (L.m rfl (L.o (O.aI rfl rfl (by omega) (L.a rfl (L.nil (T.again ((k+1,fv2,fs2)) (by omega) ⟨rfl,rfl,rfl,rfl,rfl,rfl,trivial⟩ ⟨by omega,he9,hz9,hD9,hR9,hC9,hF9,hP9,hM9⟩)))))))))
  refine L.nil (?_)
  obtain rfl:k=Hn:=by omega
  refine T.cf (T.exit rfl (T.q (L.o (O.ak isAgg46 sizeOf46 rfl rfl hC8.row (?_)))))
  have afd:fv.oneCell'=true:=Sl.one (Sl.aT hF8.1)
  refine L.o (O.aC sizeOf46 rfl rfl rfl hR8 (Nat.le_refl _) (by intro u hu;simp at hu;rcases hu with (rfl|rfl);exact hpv1;exact afd) (fun w16 Dn Io=>?_))
  replace Dn:Upd b2 w8 w16:=Dn
  have afe:Blk w16 b2 [pv,fv] 46:=Io
  refine L.nil (T.retA results69 isAgg46 sizeOf46 rfl rfl afe.row ?_)
  exact CxQ.of (c:=⟨pv,qV d.ss Wn (k+1),fv,fs⟩) (he8.upd Dn (.inr (by omega))) (by omega) (gW hP8 Dn (by omega)) (hF8.upd Dn (by omega)) ⟨by rw [← hWn,← hHn],.inr ⟨hho,by rw [← hWn,← hHn];exact hM8⟩⟩ (by rw [← hWn];exact ⟨hW1,hW2⟩) (by rw [← hHn];exact ⟨hH1,hH2⟩)
 refine L.nil (T.ct (T.q (L.o (O.fieldAddr runUnderlying46 rfl sizeOf44 rfl (L.o (O.load isAgg44 rfl (hC7.cell rfl) (L.o (O.buildSlice (el:=3) (parts:=[(0,.const (.int .i64 0)),(1,.const (.int .i64 1)),(2,.const (.int .i64 2)),(3,.const (.int .i64 3)),(4,.const (.int .i64 7)),(5,.const (.int .i64 11)),(6,.const (.int .i64 15)),(7,.const (.int .i64 14)),(8,.const (.int .i64 13)),(9,.const (.int .i64 12)),(10,.const (.int .i64 8)),(11,.const (.int .i64 4))]) (vs:=[(0,_),(1,_),(2,_),(3,_),(4,_),(5,_),(6,_),(7,_),(8,_),(9,_),(10,_),(11,_)]) (cs:=[.int .i64 0,.int .i64 1,.int .i64 2,.int .i64 3,.int .i64 7,.int .i64 11,.int .i64 15,.int .i64 14,.int .i64 13,.int .i64 12,.int .i64 8,.int .i64 4]) rfl (fun w=>by kernel_rfl) (fun b8 w8 hb8 hz8 he8 hB8=>?_)))))))))
 refine L.o (O.buildSlice (el:=3) (parts:=[(0,.const (.int .i64 5)),(1,.const (.int .i64 9)),(2,.const (.int .i64 10)),(3,.const (.int .i64 6))]) (vs:=[(0,_),(1,_),(2,_),(3,_)]) (cs:=[.int .i64 5,.int .i64 9,.int .i64 10,.int .i64 6]) rfl (fun w=>by kernel_rfl) (fun b9 w9 hb9 hz9 he9 hB9=>?_))
 refine L.o (O.buildSlice (el:=30) (parts:=[(0,.tmp 67)]) (vs:=[(0,_)]) (cs:=[.slice (some ⟨b9,0,none⟩) 4 4]) rfl (fun w=>by kernel_rfl) (fun b10 w10 aep Z9 gI Ii=>?_))
 refine L.o (O.build (v:=.agg #[.slice (some ⟨b8,0,none⟩) 12 12,.slice (some ⟨b10,0,none⟩) 1 1]) (parts:=[(0,.tmp 66),(1,.tmp 68)]) (vs:=[(0,_),(1,_)]) rfl (fun w=>by kernel_rfl) (L.o (O.buildSlice (el:=127) (parts:=[(0,.tmp 69)]) (vs:=[(0,_)]) (cs:=[.slice (some ⟨b8,0,none⟩) 12 12,.slice (some ⟨b10,0,none⟩) 1 1]) rfl (fun w=>by kernel_rfl) (fun b11 w11 adK Xw eH oV=>?_))))
 have FC:=((he8.trans he9).trans gI).trans eH
 have ajN:=FC.size
 have hz8:=he8.size
 have hz9:=he9.size
 have Z9:=gI.size
 refine L.o (O.append (size:=2) (bytes:=48) runUnderlying44 Tryz.ku rfl rfl rfl rfl (by decide) rfl rfl (eG w11 w6.heap.size 127 2) (Sl.ay (lo:=0) (n:=1) (sz:=2) oV rfl (Nat.le_refl _) (by decide) (Nat.zero_le _)) (by intro c hc;simp at hc;rcases hc with (rfl|rfl) <;> rfl) (by omega) (by simp only [maxLen];omega) (by omega) (fun v12 w12 ady ahx=>?_))
 have UA:Ext w11 w12:=Keep.grown (Keep.refl _ _) ahx (fun j hj=>by cases hj)
 have NH:v12.oneCell'=true:=Sl.one (Sl.aT ady)
 have RN:=FC.trans UA
 have hnew:∀ f ∈ [(⟨⟨.slice (some ⟨b8,0,none⟩) 12 12,Geo.Ir⟩,.slice (some ⟨b10,0,none⟩) 1 1,[⟨.slice (some ⟨b9,0,none⟩) 4 4,Geo.Ae⟩]⟩:FaV)],FaB w6.heap.size f w11:=fun f hf=>by
  simp only [List.mem_cons,List.mem_nil_iff,or_false] at hf
  subst hf
  refine ⟨⟨b8,rfl,by omega,(by show (12:Nat)≤1000;decide),Blk.ext (cs:=[.int .i64 0,.int .i64 1,.int .i64 2,.int .i64 3,.int .i64 7,.int .i64 11,.int .i64 15,.int .i64 14,.int .i64 13,.int .i64 12,.int .i64 8,.int .i64 4]) hB8 ((he9.trans gI).trans eH)⟩,.inr ⟨b10,⟨.slice (some ⟨b9,0,none⟩) 4 4,Geo.Ae⟩,rfl,rfl,by omega,Blk.ext (cs:=[.slice (some ⟨b9,0,none⟩) 4 4]) Ii eH,⟨b9,rfl,by omega,(by show (4:Nat)≤1000;decide),Blk.ext (cs:=[.int .i64 5,.int .i64 9,.int .i64 10,.int .i64 6]) hB9 (gI.trans eH)⟩⟩⟩
 have ajO:FsB w6.heap.size v12 [(⟨⟨.slice (some ⟨b8,0,none⟩) 12 12,Geo.Ir⟩,.slice (some ⟨b10,0,none⟩) 1 1,[⟨.slice (some ⟨b9,0,none⟩) 4 4,Geo.Ae⟩]⟩:FaV)] w12:=(FsB.nil w6.heap.size w11).app (Keep.refl _ _) ahx ady (ns:=[(⟨⟨.slice (some ⟨b8,0,none⟩) 12 12,Geo.Ir⟩,.slice (some ⟨b10,0,none⟩) 1 1,[⟨.slice (some ⟨b9,0,none⟩) 4 4,Geo.Ae⟩]⟩:FaV)]) hnew rfl rfl
 refine L.o (O.fieldAddr runUnderlying46 rfl sizeOf44 rfl (L.o (O.store1 sizeOf44 NH rfl rfl (hC7.ext RN) (by simp [Value.cells]) (fun w13 wR xQ=>?_))))
 replace wR:Upd b5 w12 w13:=wR
 have UC:Ext w w13:=(he7.trans RN).upd wR (.inr (by omega))
 have ajP:=(hD7.ext RN).upd wR (by omega)
 have ahy:=(hR7.ext RN).upd wR (by omega)
 have adL:=ajO.upd wR Di
 have aff:Blk w13 b5 [pv,v12] 46:=xQ
 have aag:=gW (aG hP7 RN (Nat.zero_le _)) wR Di
 have hnb:=Dh hd.cl 0
 have U8:w6.heap.size≤w13.heap.size:=by have:=wR.size;have:=UA.size;omega
 refine L.nil (T.seq (?_))
 refine T.join (σ:=Value × List FaV) (fun s=>[(2,.pointer (some ⟨b2,0,none⟩)),(5,.pointer (some ⟨b5,0,none⟩))]) (fun s w'=>Ext w w'∧w6.heap.size≤w'.heap.size∧Blk w' b2 [.slice none 0 0,.slice none 0 0] 46∧Blk w' b5 [pv,s.1] 46∧FsB w6.heap.size s.1 s.2 w'∧w'.ownsRow w6.heap.size 124 2 pv (qV d.ss Wn (Hn+1)).length (pcs (qV d.ss Wn (Hn+1)))∧Bo s.2) ?_ ?_
 ·refine T.q (L.o (O.fieldAddr runUnderlying56 rfl sizeOf54 rfl (L.o (O.load isAgg54 rfl (ajP.cell rfl) (L.o (O.call (xs:=[.tmp 74,.const (.int .i64 0)]) call125 rfl rfl (nY lo d.cv d.cs 0 w13 (hd.ext UC).c hd.cl (by omega)) (fun v14 w14 hq=>?_)))))))
  obtain ⟨rfl,rfl⟩:=hq
  refine L.o (O.rem rfl rfl (by omega) (by omega) (L.o (O.jw rfl rfl (fun h2=>?_) (fun h2=>?_))))
  ·refine L.nil (T.ct (T.region (L.o (O.fieldAddr runUnderlying46 rfl sizeOf44 rfl (L.o (O.load isAgg44 rfl (aff.cell rfl) (L.o (O.buildSlice (el:=3) (parts:=[(0,.const (.int .i64 5)),(1,.const (.int .i64 6)),(2,.const (.int .i64 10)),(3,.const (.int .i64 9))]) (vs:=[(0,_),(1,_),(2,_),(3,_)]) (cs:=[.int .i64 5,.int .i64 6,.int .i64 10,.int .i64 9]) rfl (fun w=>by kernel_rfl) (fun b15 w15 ajQ aah jq Dl=>?_)))))))))
   refine L.o (O.build (v:=.agg #[.slice (some ⟨b15,0,none⟩) 4 4,.slice none 0 0]) (parts:=[(0,.tmp 80)]) (vs:=[(0,_)]) rfl (fun w=>by kernel_rfl) (L.o (O.buildSlice (el:=127) (parts:=[(0,.tmp 81)]) (vs:=[(0,_)]) (cs:=[.slice (some ⟨b15,0,none⟩) 4 4,.slice none 0 0]) rfl (fun w=>by kernel_rfl) (fun b16 w16 hb16 aai Ad Io=>?_))))
   have uY:=jq.trans Ad
   have afg:=aG adL.1 uY (Nat.zero_le _)
   refine L.o (O.append (size:=2) (bytes:=48) runUnderlying44 Tryz.ku rfl rfl rfl rfl (by decide) rfl rfl afg (Sl.ay (lo:=0) (n:=1) (sz:=2) Io rfl (Nat.le_refl _) (by decide) (Nat.zero_le _)) (by intro c hc;simp at hc;rcases hc with (rfl|rfl) <;> rfl) (by simp only [List.length_cons,List.length_nil];omega) (by simp only [List.length_cons,List.length_nil,maxLen];omega) (by have:=uY.size;omega) (fun v17 w17 ahz aan=>?_))
   have adM:v17.oneCell'=true:=Sl.one (Sl.aT ahz)
   have hne:∀ b',b'<w6.heap.size→∀ j,v12.ownBlock=some j→j≠b':=fun b' hb' j hj=>by have:=(kC afg hj).1;omega
   have Y1:∀ j,v12.ownBlock=some j→pv.ownBlock=some j→False:=fun j h1 h2=>by rcases own_ne adL.1 aag (by decide) with h|h;rw [h] at h1;cases h1;exact h (h1.trans h2.symm)
   have hnew2:∀ f ∈ [(⟨⟨.slice (some ⟨b15,0,none⟩) 4 4,Geo.XK⟩,.slice none 0 0,[]⟩:FaV)],FaB w6.heap.size f w16:=fun f hf=>by
    simp only [List.mem_cons,List.mem_nil_iff,or_false] at hf
    subst hf
    exact Gv (Blk.ext (cs:=[.int .i64 5,.int .i64 6,.int .i64 10,.int .i64 9]) Dl Ad) rfl rfl (by decide) (by omega)
   have adC:=adL.app uY aan ahz (ns:=[(⟨⟨.slice (some ⟨b15,0,none⟩) 4 4,Geo.XK⟩,.slice none 0 0,[]⟩:FaV)]) hnew2 rfl rfl
   refine L.o (O.fieldAddr runUnderlying46 rfl sizeOf44 rfl (L.o (O.store1 sizeOf44 adM rfl rfl ((aff.ext uY).grown aan (hne b5 Di)) (by simp [Value.cells]) (fun w18 xZ uT=>?_))))
   replace xZ:Upd b5 w17 w18:=xZ
   have NS:Ext w w17:=(UC.trans uY).fO afg aan (by omega)
   have ajR:World.ownsRow w17 _ _ _ pv _ _:=(aG aag uY (Nat.zero_le _)).kept aan (by rcases hq:pv.ownBlock with _|j;exact .inl rfl;exact .inr fun h=>Y1 j (by rw [← h]) hq)
   refine L.nil (T.meet ((v17,[(⟨⟨.slice (some ⟨b8,0,none⟩) 12 12,Geo.Ir⟩,.slice (some ⟨b10,0,none⟩) 1 1,[⟨.slice (some ⟨b9,0,none⟩) 4 4,Geo.Ae⟩]⟩:FaV)] ++ [(⟨⟨.slice (some ⟨b15,0,none⟩) 4 4,Geo.XK⟩,.slice none 0 0,[]⟩:FaV)])) ⟨rfl,rfl,trivial⟩ ⟨NS.upd xZ (.inr (by omega)),by have:=uY.size;have:=aan.size;have:=xZ.size;omega,((ahy.ext uY).grown aan (hne b2 (by omega))).upd xZ (by omega),uT,adC.upd xZ Di,gW ajR xZ Di,_,_,_,.inr ⟨_,_,rfl⟩⟩)
  refine L.nil (T.cf (T.skip (T.meet ((v12,[(⟨⟨.slice (some ⟨b8,0,none⟩) 12 12,Geo.Ir⟩,.slice (some ⟨b10,0,none⟩) 1 1,[⟨.slice (some ⟨b9,0,none⟩) 4 4,Geo.Ae⟩]⟩:FaV)])) ⟨rfl,rfl,trivial⟩ ⟨UC,U8,ahy,aff,adL,aag,_,_,_,.inl rfl⟩)))
 rintro ⟨fv,fs⟩ w15 ⟨Lh,aah,ajS,ajT,ahA,adN,ajU⟩
 refine T.q (L.o (O.ak isAgg46 sizeOf46 rfl rfl ajT.row (?_)))
 have afd:fv.oneCell'=true:=Sl.one (Sl.aT ahA.1)
 refine L.o (O.aC sizeOf46 rfl rfl rfl ajS (Nat.le_refl _) (by intro u hu;simp at hu;rcases hu with (rfl|rfl);exact hpv1;exact afd) (fun w16 Dn Io=>?_))
 replace Dn:Upd b2 w15 w16:=Dn
 have afe:Blk w16 b2 [pv,fv] 46:=Io
 refine L.nil (T.retA results69 isAgg46 sizeOf46 rfl rfl afe.row ?_)
 exact CxQ.of (c:=⟨pv,qV d.ss Wn (Hn+1),fv,fs⟩) (Lh.upd Dn (.inr (by omega))) (by omega) (gW adN Dn (by omega)) (ahA.upd Dn (by omega)) ⟨by rw [← hWn,← hHn],.inl ⟨hho,by simp only [dW,hho];rfl,by simp only [dH,hho];rfl,ajU⟩⟩ (by rw [← hWn];exact ⟨hW1,hW2⟩) (by rw [← hHn];exact ⟨hH1,hH2⟩)
open Go Go.E
theorem NZ {xs ys:List Int} (hl:xs.length=ys.length) (h:∀ k,k<xs.length→xs.getD k 0=ys.getD k 0):xs=ys:=by
 refine List.ext_getElem hl fun k h1 h2=>?_
 have:=h k h1
 rw [au h1,au h2] at this
 exact this
theorem iL (lo lo2:Nat) (p q:Value) (xs ys:List Int) (w:World) (hp:Ints .i64 lo w p xs) (hq:Ints .i64 lo2 w q ys) :
  Calls Tryz.prog 87 #[p,q] w (Ret fun v w'=>v = .bool (decide (xs=ys))∧Ext w w'):=by
 have hle:=Sl.le hp
 refine T.enter (vs:=[p,q]) func87 rfl ntmps87 rfl ?_
 refine T.q (L.a rfl (L.nil (T.seq (T.q (L.m rfl (L.o (O.len runUnderlying30 rfl (Sl.val hp) (L.m rfl (L.o (O.len runUnderlying30 rfl (Sl.val hq) (L.o (O.jT rfl rfl (fun hl=>?_) (fun hl=>?_)))))))))))))
 ·refine L.nil (T.ct (T.q (L.a rfl (L.nil (T.aU results87 rfl ⟨by rw [decide_eq_false (fun h=>hl (by rw [h]))],Keep.refl _ _⟩)))))
 refine L.nil (?_)
 have hle2:xs.length=ys.length:=by omega
 refine T.cf (T.skip (T.seq (T.q (L.a rfl (L.nil (T.block (?_)))))))
 refine T.loop (σ:=Nat) (fun i=>[(0,p),(1,q),(5,.int .i64 i)]) (fun i w'=>i≤xs.length∧Ext w w'∧∀ k,k<i→xs.getD k 0=ys.getD k 0) (fun i=>xs.length-i) (0) ⟨rfl,rfl,rfl,trivial⟩ ⟨Nat.zero_le _,Keep.refl _ _,fun k hk=>absurd hk (Nat.not_lt_zero _)⟩ ?_
 rintro i w1 ⟨hi,he1,hall⟩
 have hp1:=hp.ext he1
 have hq1:=hq.ext he1
 refine T.seq (T.q (L.m rfl (L.m rfl (L.o (O.len runUnderlying30 rfl (Sl.val hp1) (L.o (O.bF rfl rfl (fun hlt=>?_) (fun hlt=>?_))))))))
 ·refine L.nil (?_)
  have hlt':i<xs.length:=by omega
  refine T.ct (T.skip (T.seq (T.block (T.seq (?_)))))
  refine T.fJ mixed 8 [0,5,1] rfl [.is _,.is _,.is _,.is _,.is _,.is _,.is _,.is _] [[],[],[0,1],[2],[],[],[4,5],[6]] [[],[],[0,1],[0,1,2],[],[],[4,5],[4,5,6],[0,1,2,3,4,5,6,7]] (by kernel_rfl) (by kernel_rfl) rfl (by kernel_rfl) trivial ⟨fun wx hx=>Ob.o (O.move rfl kR),
    fun wx hx=>Ob.o (O.move rfl kR),
    fun wx hx=>Ob.o (O.indexAddr runUnderlying30 sizeOf3 rfl rfl (hp1.ext hx) (by omega) (by omega) kR),
    fun wx hx=>Ob.o (O.load isAgg3 rfl (Ints.at (hp1.ext hx) hlt') kR),
    fun wx hx=>Ob.o (O.move rfl kR),
    fun wx hx=>Ob.o (O.move rfl kR),
    fun wx hx=>Ob.o (O.indexAddr runUnderlying30 sizeOf3 rfl rfl (hq1.ext hx) (by omega) (by omega) kR),
    fun wx hx=>Ob.o (O.load isAgg3 rfl (Ints.at (hq1.ext hx) (show i<ys.length by omega)) kR),
    trivial⟩ (fun w2 he2=>?_)
  refine L.o (O.jT rfl rfl (fun hne=>?_) (fun hne=>?_))
  ·refine L.nil (T.ct (T.q (L.a rfl (L.nil (T.aU results87 rfl ⟨by rw [decide_eq_false (fun h=>hne (by rw [h]))],he1.trans he2⟩)))))
  refine L.nil (T.cf (T.skip (T.blk (T.region (L.m rfl (L.o (O.aI rfl rfl (by omega) (L.a rfl (L.nil (T.again (i+1) (by omega) ⟨rfl,rfl,rfl,trivial⟩ ⟨hlt',he1.trans he2,fun k hk=>?_⟩))))))))))
  ·by_cases e:k=i
   ·subst e;omega
   exact hall k (by omega)
 refine L.nil (?_)
 obtain rfl:i=xs.length:=by omega
 refine T.cf (T.exit rfl (T.q (L.a rfl (L.nil (T.aU results87 rfl ⟨by rw [decide_eq_true (NZ hle2 hall)],he1⟩)))))
open Go Go.E
def UB (base:Nat) (v:Value) (w:World):Prop:=∃ b u,v = .pointer (some ⟨b,0,none⟩)∧base≤b∧Blk w b (UnV.cells u) 51
theorem UB.lt {base:Nat} {v:Value} {w:World} (h:UB base v w):∀ b,AL v=some b→b<w.heap.size:=fun b hb=>by
 obtain ⟨b',c,rfl,_,h2⟩:=h
 cases hb;exact h2.lt
structure DW (base:Nat) (a:List Value) (w w':World):Prop where
 own:∀ b u,base≤b→Blk w b (UnV.cells u) 51→∃ u',Blk w' b (UnV.cells u') 51∧(UnV.cells u=a→UnV.cells u'=a)
theorem DW.aV {base:Nat} {a:List Value} {w w':World} (h:Ext w w'):DW base a w w':=⟨fun b c _ hB=>⟨c,Blk.ext (cs:=c.cells) hB h,id⟩⟩
theorem DW.upd {base:Nat} {u:UnV} {b:Nat} {w w':World} (hu:Upd b w w') (hB:Blk w' b u.cells 51):DW base u.cells w w':=⟨fun b' c _ hB'=>by
 by_cases e:b'=b
 ·subst e;exact ⟨u,hB,fun _=>rfl⟩
 exact ⟨c,Blk.upd (cs:=c.cells) hB' hu e,id⟩⟩
theorem UB.st {base:Nat} {a:List Value} : ∀ v w w',DW base a w w'→UB base v w→UB base v w':=fun v w w' h ⟨b,c,h1,h2,h3⟩=>by
 obtain ⟨c',k1,_⟩:=h.own b c h2 h3
 exact ⟨b,c',h1,h2,k1⟩
theorem VT {a b:RoV} (h:a.G≠b.G):vW a b=false:=by simp [vW,h]
theorem VU {a b:RoV} (h:a.P≠b.P):vW a b=false:=by simp [vW,h]
theorem VW {a b:RoV} (h:a.L≠b.L):vW a b=false:=by simp [vW,h]
theorem iq {a b:RoV} (h:¬ Fq a.us b.us):vW a b=false:=by simp [vW,Ql h]
theorem RP {a b:RoV} (h1:a.G=b.G) (h2:a.P=b.P) (h3:a.L=b.L) (h:Fq a.us b.us):vW a b=true:=by simp [vW,h1,h2,h3,Nu h]
set_option maxHeartbeats 2000000 in
theorem yD (lo lo':Nat) (a b:RoV) (w:World) (ha:a.ok lo w) (hb:b.ok lo' w) :
  Calls Tryz.prog 37 #[a.val,b.val] w (Ret fun v w'=>v = .bool (vW a b)∧Ext w w'):=by
 have ha:Units lo w a.uv a.us:=ha
 have hb:Units lo' w b.uv b.us:=hb
 refine T.enter (vs:=[a.val,b.val]) func37 rfl ntmps37 rfl ?_
 refine T.q (L.o (O.box rfl (fun b2 w2 hb2 hz2 he2 hB2=>?_)))
 refine L.o (O.box rfl (fun b3 w3 hb3 hz3 he3 hB3=>?_))
 have he:=he2.trans he3
 have hC1:Blk w3 b2 a.cells 25:=Blk.ext (cs:=a.cells) hB2 he3
 have hC2:Blk w3 b3 b.cells 25:=hB3
 have ha3:=ha.ext he
 have hb3:=hb.ext he
 have hla:=Sl.le ha3.sl
 refine L.a rfl (L.nil (T.seq (T.q (L.o (O.fieldAddr runUnderlying25 rfl sizeOf3 rfl (L.o (O.load isAgg3 rfl (hC1.cell rfl) (L.o (O.fieldAddr runUnderlying25 rfl sizeOf3 rfl (L.o (O.load isAgg3 rfl (hC2.cell rfl) (L.o (O.jT rfl rfl (fun g1=>?_) (fun g1=>?_))))))))))))))
 ·refine L.m rfl (L.p (L.p (L.p (L.p (L.p (L.o (O.ah rfl rfl (L.m rfl (L.p (L.p (L.p (L.p (L.p (L.o (O.ah rfl rfl (L.m rfl (L.p (L.p (L.p (L.p (L.p (L.p (L.p (L.o (O.ah rfl rfl (L.nil (?_)))))))))))))))))))))))))))
  refine T.ct (T.q (L.a rfl (L.nil (T.aU results37 rfl ⟨by rw [VT g1],he⟩))))
 refine L.m rfl (L.o (O.fieldAddr runUnderlying25 rfl sizeOf3 rfl (L.o (O.load isAgg3 rfl (hC1.cell rfl) (L.o (O.fieldAddr runUnderlying25 rfl sizeOf3 rfl (L.o (O.load isAgg3 rfl (hC2.cell rfl) (L.o (O.jT rfl rfl (fun g2=>?_) (fun g2=>?_)))))))))))
 ·refine L.o (O.aj rfl rfl (L.m rfl (L.p (L.p (L.p (L.p (L.p (L.o (O.ah rfl rfl (L.m rfl (L.p (L.p (L.p (L.p (L.p (L.p (L.p (L.o (O.ah rfl rfl (L.nil (T.ct (T.q (L.a rfl (L.nil (T.aU results37 rfl ⟨by rw [VU g2],he⟩)))))))))))))))))))))))))
 refine L.o (O.aj rfl rfl (L.m rfl (L.o (O.fieldAddr runUnderlying25 rfl sizeOf3 rfl (L.o (O.load isAgg3 rfl (hC1.cell rfl) (L.o (O.fieldAddr runUnderlying25 rfl sizeOf3 rfl (L.o (O.load isAgg3 rfl (hC2.cell rfl) (L.o (O.jT rfl rfl (fun g3=>?_) (fun g3=>?_)))))))))))))
 ·refine L.o (O.aj rfl rfl (L.m rfl (L.p (L.p (L.p (L.p (L.p (L.p (L.p (L.o (O.ah rfl rfl (L.nil (T.ct (T.q (L.a rfl (L.nil (T.aU results37 rfl ⟨by rw [VW g3],he⟩)))))))))))))))))
 refine L.o (O.aj rfl rfl (L.m rfl (L.o (O.fieldAddr runUnderlying25 rfl sizeOf23 rfl (L.o (O.load isAgg23 rfl (hC1.cell rfl) (L.o (O.len runUnderlying23 rfl (Sl.val ha3.sl) (L.o (O.fieldAddr runUnderlying25 rfl sizeOf23 rfl (L.o (O.load isAgg23 rfl (hC2.cell rfl) (L.o (O.len runUnderlying23 rfl (Sl.val hb3.sl) (L.o (O.jT rfl rfl (fun g4=>?_) (fun g4=>?_)))))))))))))))))
 ·refine L.o (O.aj rfl rfl (L.nil (T.ct (T.q (L.a rfl (L.nil (T.aU results37 rfl ⟨by rw [iq (fun h=>g4 (by rw [h.1]))],he⟩)))))))
 have hlen:a.us.length=b.us.length:=by omega
 refine L.o (O.aj rfl rfl (L.nil (T.cf (T.skip (T.seq (T.q (L.a rfl (L.nil (T.block (?_))))))))))
 refine T.loop (σ:=Nat) (fun i=>[(2,.pointer (some ⟨b2,0,none⟩)),(3,.pointer (some ⟨b3,0,none⟩)),(5,.int .i64 i)]) (fun i w'=>i≤a.us.length∧Ext w3 w'∧∀ k,k<i→UU (a.us.getD k u0) (b.us.getD k u0)=true) (fun i=>a.us.length-i) (0) ⟨rfl,rfl,rfl,trivial⟩ ⟨Nat.zero_le _,Keep.refl _ _,fun k hk=>absurd hk (Nat.not_lt_zero _)⟩ ?_
 rintro i w4 ⟨hi,he4,hall⟩
 have hA4:=Blk.ext (cs:=a.cells) hC1 he4
 have hB4:=Blk.ext (cs:=b.cells) hC2 he4
 have ha4:=ha3.ext he4
 have hb4:=hb3.ext he4
 refine T.seq (T.q (L.m rfl (L.o (O.fieldAddr runUnderlying25 rfl sizeOf23 rfl (L.o (O.load isAgg23 rfl (hA4.cell rfl) (L.o (O.len runUnderlying23 rfl (Sl.val ha4.sl) (L.o (O.bF rfl rfl (fun hlt=>?_) (fun hlt=>?_)))))))))))
 ·refine L.nil (?_)
  have hlt':i<a.us.length:=by omega
  have hlt2:i<b.us.length:=by omega
  refine T.ct (T.skip (T.seq (T.block (T.seq (?_)))))
  refine T.Yd mixed 13 1 [2,5,3] rfl [.is _,.is _,.is _,.is _,.is _,.is _,.is _,.is _,.is _,.is _,.such (UB w4.heap.size),.such (UB w4.heap.size),.is undef] [[],[0],[],[1,2],[3],[],[5],[],[6,7],[8],[],[],[10,4]] [none,none,none,none,none,none,none,none,none,none,none,none,some 0] [[],[0],[],[0,1,2],[0,1,2,3],[],[5],[],[5,6,7],[5,6,7,8],[],[],[0,1,2,3,4,10,11],[0,1,2,3,4,5,6,7,8,9,10,11,12]] [10,11] [(12,10,6)] (fun _ _ u _ W=>∃ b,u = .pointer (some ⟨b,0,none⟩)∧w4.heap.size≤b∧Blk W b (a.us.getD i u0).cells 51) (fun _ W=>Ext w4 W) (DW w4.heap.size (a.us.getD i u0).cells) (fun i f v w hi hf hh=>by { rcases (show i=10∨i=11 by simpa using hi) with rfl|rfl <;> (simp only [List.getElem?_cons_succ,List.getElem?_cons_zero,Option.some.injEq] at hf;subst hf;exact UB.lt hh) }) (fun i j vi vj W W' hr ⟨b,h1,h2,h3⟩=>(hr.own b _ h2 h3).elim fun c' k=>⟨b,h1,h2,(k.2 rfl)▸k.1⟩) (by kernel_rfl) (by kernel_rfl) (by kernel_rfl) (by kernel_rfl) rfl ⟨UB.st,UB.st,trivial⟩ (Keep.drew _ _) ⟨fun c wx hx=>ObX.op rfl (O.fieldAddr runUnderlying25 rfl sizeOf23 rfl ⟨⟨DW.aV (Keep.refl _ _),hx⟩,rfl,trivial,trivial⟩),
    fun c wx hx=>ObX.op rfl (O.load isAgg23 rfl ((Blk.ext (cs:=a.cells) hA4 hx).cell rfl) ⟨⟨DW.aV (Keep.refl _ _),hx⟩,rfl,trivial,trivial⟩),
    fun c wx hx=>ObX.op rfl (O.move rfl ⟨⟨DW.aV (Keep.refl _ _),hx⟩,rfl,trivial,trivial⟩),
    fun c wx hx=>ObX.op rfl (O.indexAddr runUnderlying23 sizeOf51 rfl rfl ((ha4.ext hx).sl) (by omega) (by omega) ⟨⟨DW.aV (Keep.refl _ _),hx⟩,rfl,trivial,trivial⟩),
    fun c wx hx=>ObX.op rfl (O.ak isAgg51 sizeOf51 rfl rfl ((ha4.ext hx).row hlt') ⟨⟨DW.aV (Keep.refl _ _),hx⟩,rfl,trivial,trivial⟩),
    fun c wx hx=>ObX.op rfl (O.fieldAddr runUnderlying25 rfl sizeOf23 rfl ⟨⟨DW.aV (Keep.refl _ _),hx⟩,rfl,trivial,trivial⟩),
    fun c wx hx=>ObX.op rfl (O.load isAgg23 rfl ((Blk.ext (cs:=b.cells) hB4 hx).cell rfl) ⟨⟨DW.aV (Keep.refl _ _),hx⟩,rfl,trivial,trivial⟩),
    fun c wx hx=>ObX.op rfl (O.move rfl ⟨⟨DW.aV (Keep.refl _ _),hx⟩,rfl,trivial,trivial⟩),
    fun c wx hx=>ObX.op rfl (O.indexAddr runUnderlying23 sizeOf51 rfl rfl ((hb4.ext hx).sl) (by omega) (by omega) ⟨⟨DW.aV (Keep.refl _ _),hx⟩,rfl,trivial,trivial⟩),
    fun c wx hx=>ObX.op rfl (O.ak isAgg51 sizeOf51 rfl rfl ((hb4.ext hx).row hlt2) ⟨⟨DW.aV (Keep.refl _ _),hx⟩,rfl,trivial,trivial⟩),
    fun c wx hx=>ObX.op rfl (O.alloc zeroValue51 (fun b wy hb hz he hB=>UL ⟨⟨DW.aV he,hx.trans he⟩,b,u0,rfl,by have:=hx.size;omega,hB⟩ ⟨fun q hq=>by { cases hq;exact Nat.le_of_eq hb.symm },trivial⟩)),
    fun c wx hx=>ObX.op rfl (O.alloc zeroValue51 (fun b wy hb hz he hB=>UL ⟨⟨DW.aV he,hx.trans he⟩,b,u0,rfl,by have:=hx.size;omega,hB⟩ ⟨fun q hq=>by { cases hq;exact Nat.le_of_eq hb.symm },trivial⟩)),
    fun wx hx v6 hv6=>by { obtain ⟨b5,c5,rfl,hb5,hB5⟩:=hv6;exact ObX.op rfl (O.aC sizeOf51 rfl rfl rfl hB5 (Nat.le_refl _) (ha4.at hlt').one (fun w80 ahB ahC=>UL ⟨⟨DW.upd ahB ahC,hx.upd ahB (.inr hb5)⟩,rfl⟩ ⟨trivial,fun u hu=>by { cases hu;exact ⟨b5,rfl,hb5,ahC⟩ }⟩)) },
    trivial⟩ (fun w7 hI7 v6 hv6 v7 hv7 hp7=>?_)
  obtain ⟨vj,hvj,hfr,_⟩:=hp7 10 11 _ _ _ _ (by decide) (by decide) rfl rfl rfl rfl
  obtain rfl:=hvj _ _ rfl rfl
  obtain ⟨_,_,_,hlk⟩:=hp7 10 12 _ _ _ _ (by decide) (by decide) rfl rfl rfl rfl
  obtain ⟨b5,rfl,hb5,hB5⟩:=hlk rfl
  obtain ⟨b6,c6,rfl,hb6,hB6⟩:=hv7
  have hne:b5≠b6:=fun e=>hfr b5 rfl (by rw [e];rfl)
  refine L.o (O.aC sizeOf51 rfl rfl rfl hB6 (Nat.le_refl _) (hb4.at hlt2).one (fun w81 ahD ajV=>?_))
  obtain ⟨u,hu⟩:∃ u,u=a.us.getD i u0:=⟨_,rfl⟩
  obtain ⟨v,hv⟩:∃ v,v=b.us.getD i u0:=⟨_,rfl⟩
  have LW:Ext w4 w81:=hI7.upd ahD (.inr hb6)
  have hU:Blk w81 b5 u.cells 51:=by rw [hu];exact Blk.upd (cs:=(a.us.getD i u0).cells) hB5 ahD hne
  have hV:Blk w81 b6 v.cells 51:=by rw [hv];exact ajV
  have huo:=(ha4.at hlt').ext LW
  have hvo:=(hb4.at hlt2).ext LW
  rw [← hu] at huo
  rw [← hv] at hvo
  refine L.nil (T.q (L.o (O.fieldAddr runUnderlying51 rfl sizeOf9 rfl (L.o (O.load isAgg9 rfl (hU.cell rfl) (L.o (O.fieldAddr runUnderlying51 rfl sizeOf9 rfl (L.o (O.load isAgg9 rfl (hV.cell rfl) (L.o (O.PX runUnderlying9 rfl rfl (fun n1=>?_) (fun n1=>?_))))))))))))
  ·refine L.m rfl (L.p (L.p (L.p (L.p (L.p (L.o (O.ah rfl rfl (L.m rfl (L.p (L.p (L.p (L.p (L.p (L.o (O.ah rfl rfl (L.m rfl (L.p (L.p (L.p (L.p (L.p (L.p (L.o (O.ah rfl rfl (L.m rfl (L.p (?_)))))))))))))))))))))))))))
   refine L.p (L.p (L.p (L.p (L.p (L.o (O.ah rfl rfl (L.m rfl (L.p (L.p (L.p (L.p (L.p (L.p (L.o (O.ah rfl rfl (L.nil (T.ct (T.q (L.a rfl (L.nil (T.aU results37 rfl ⟨by rw [iq (fun h=>by have:=h.2 i hlt';rw [← hu,← hv,dL] at this;exact n1 this.1)],he.trans (he4.trans LW)⟩)))))))))))))))))))))
  refine L.m rfl (L.o (O.fieldAddr runUnderlying51 rfl sizeOf3 rfl (L.o (O.load isAgg3 rfl (hU.cell rfl) (L.o (O.fieldAddr runUnderlying51 rfl sizeOf3 rfl (L.o (O.load isAgg3 rfl (hV.cell rfl) (L.o (O.jT rfl rfl (fun n2=>?_) (fun n2=>?_)))))))))))
  ·refine L.o (O.aj rfl rfl (L.m rfl (L.p (L.p (L.p (L.p (L.p (L.o (O.ah rfl rfl (L.m rfl (L.p (L.p (L.p (L.p (L.p (L.p (L.o (O.ah rfl rfl (L.m rfl (L.p (L.p (L.p (L.p (L.p (L.p (L.o (O.ah rfl rfl (?_))))))))))))))))))))))))))))
   refine L.m rfl (L.p (L.p (L.p (L.p (L.p (L.p (L.o (O.ah rfl rfl (L.nil (T.ct (T.q (L.a rfl (L.nil (T.aU results37 rfl ⟨by rw [iq (fun h=>by have:=h.2 i hlt';rw [← hu,← hv,dL] at this;exact n2 (this.2.1))],he.trans (he4.trans LW)⟩))))))))))))))
  refine L.o (O.aj rfl rfl (L.m rfl (L.o (O.fieldAddr runUnderlying51 rfl sizeOf4 rfl (L.o (O.load isAgg4 rfl (hU.cell rfl) (L.o (O.fieldAddr runUnderlying51 rfl sizeOf4 rfl (L.o (O.load isAgg4 rfl (hV.cell rfl) (?_)))))))))))
  rcases hw1:u.wt with _|_ <;> rcases hw2:v.wt with _|_
  ·refine L.o (O.wM runUnderlying4 rfl rfl (L.o (O.aj rfl rfl (L.m rfl (L.o (O.fieldAddr runUnderlying51 rfl sizeOf30 rfl (L.o (O.load isAgg30 rfl (hU.cell rfl) (L.o (O.fieldAddr runUnderlying51 rfl sizeOf30 rfl (L.o (O.load isAgg30 rfl (hV.cell rfl) (L.o (O.call (xs:=[.tmp 74,.tmp 76]) call87 rfl rfl (iL lo lo' u.gv v.gv u.gs v.gs w81 huo.g hvo.g) (fun v90 w90 hq=>?_)))))))))))))))
   obtain ⟨hv90,vZ⟩:=hq
   rcases hq0:decide (u.gs=v.gs) with _|_
   ·rw [hq0] at hv90
    subst hv90
    refine L.o (O.not rfl (L.o (O.aj rfl rfl (L.m rfl (L.p (L.p (L.p (L.p (L.p (L.p (L.o (O.ah rfl rfl (L.m rfl (L.p (L.p (L.p (L.p (L.p (L.p (L.o (O.ah rfl rfl (L.nil (T.ct (T.q (L.a rfl (L.nil (?_)))))))))))))))))))))))))))
    refine T.aU results37 rfl ⟨by rw [iq (fun h=>by have:=h.2 i hlt';rw [← hu,← hv,dL] at this;exact of_decide_eq_false hq0 (this.2.2.2.1))],he.trans (he4.trans (LW.trans vZ))⟩
   rw [hq0] at hv90
   subst hv90
   refine L.o (O.not rfl (L.o (O.aj rfl rfl (L.m rfl (L.o (O.fieldAddr runUnderlying51 rfl sizeOf30 rfl (L.o (O.load isAgg30 rfl ((Blk.ext (cs:=u.cells) hU vZ).cell rfl) (L.o (O.fieldAddr runUnderlying51 rfl sizeOf30 rfl (L.o (O.load isAgg30 rfl ((Blk.ext (cs:=v.cells) hV vZ).cell rfl) (L.o (O.call (xs:=[.tmp 82,.tmp 84]) call87 rfl rfl (iL lo lo' u.vv v.vv u.vs v.vs w90 (huo.ext vZ).v (hvo.ext vZ).v) (fun v91 w91 hq=>?_)))))))))))))))
   obtain ⟨hv91,JD⟩:=hq
   rcases hq1:decide (u.vs=v.vs) with _|_
   ·rw [hq1] at hv91
    subst hv91
    refine L.o (O.not rfl (L.o (O.aj rfl rfl (L.m rfl (L.p (L.p (L.p (L.p (L.p (L.p (L.o (O.ah rfl rfl (L.nil (T.ct (T.q (L.a rfl (L.nil (T.aU results37 rfl ⟨by rw [iq (fun h=>by have:=h.2 i hlt';rw [← hu,← hv,dL] at this;exact of_decide_eq_false hq1 (this.2.2.2.2.1))],he.trans (he4.trans (LW.trans (vZ.trans JD)))⟩))))))))))))))))))
   rw [hq1] at hv91
   subst hv91
   refine L.o (O.not rfl (L.o (O.aj rfl rfl (L.m rfl (L.o (O.fieldAddr runUnderlying51 rfl sizeOf30 rfl (L.o (O.load isAgg30 rfl ((Blk.ext (cs:=u.cells) hU (vZ.trans JD)).cell rfl) (L.o (O.fieldAddr runUnderlying51 rfl sizeOf30 rfl (L.o (O.load isAgg30 rfl ((Blk.ext (cs:=v.cells) hV (vZ.trans JD)).cell rfl) (L.o (O.call (xs:=[.tmp 90,.tmp 92]) call87 rfl rfl (iL lo lo' u.pv v.pv u.ps v.ps w91 (huo.ext (vZ.trans JD)).p (hvo.ext (vZ.trans JD)).p) (fun v92 w92 hq=>?_)))))))))))))))
   obtain ⟨Pm,abX⟩:=hq
   rcases hq2:decide (u.ps=v.ps) with _|_
   ·rw [hq2] at Pm
    subst Pm
    refine L.o (O.not rfl (L.o (O.aj rfl rfl (L.nil (T.ct (T.q (L.a rfl (L.nil (T.aU results37 rfl ⟨by rw [iq (fun h=>by have:=h.2 i hlt';rw [← hu,← hv,dL] at this;exact of_decide_eq_false hq2 (this.2.2.2.2.2))],he.trans (he4.trans (LW.trans ((vZ.trans JD).trans abX)))⟩)))))))))
   rw [hq2] at Pm
   subst Pm
   refine L.o (O.not rfl (L.o (O.aj rfl rfl (L.nil (T.cf (T.skip (T.blk (T.region (L.m rfl (L.o (O.aI rfl rfl (by omega) (L.a rfl (L.nil (T.again (i+1) (by omega) ⟨rfl,rfl,rfl,trivial⟩ ⟨hlt',he4.trans (LW.trans ((vZ.trans JD).trans abX)),fun k hk=>?_⟩))))))))))))))
   ·by_cases ek:k=i
    ·subst ek;rw [← hu,← hv,dL]
     exact ⟨n1,n2,by rw [hw1,hw2],of_decide_eq_true hq0,of_decide_eq_true hq1,of_decide_eq_true hq2⟩
    exact hall k (by omega)
  ·refine L.o (O.wM runUnderlying4 rfl rfl (L.o (O.aj rfl rfl (L.m rfl (L.p (L.p (L.p (L.p (L.p (L.p (L.o (O.ah rfl rfl (L.m rfl (L.p (L.p (L.p (L.p (L.p (L.p (L.o (O.ah rfl rfl (L.m rfl (L.p (L.p (L.p (L.p (L.p (?_))))))))))))))))))))))))))))
   refine L.p (L.o (O.ah rfl rfl (L.nil (T.ct (T.q (L.a rfl (L.nil (T.aU results37 rfl ⟨by rw [iq (fun h=>by have:=h.2 i hlt';rw [← hu,← hv,dL] at this;exact by rw [hw1,hw2] at this;exact absurd this.2.2.1 (by decide))],he.trans (he4.trans LW)⟩))))))))
  ·refine L.o (O.wM runUnderlying4 rfl rfl (L.o (O.aj rfl rfl (L.m rfl (L.p (L.p (L.p (L.p (L.p (L.p (L.o (O.ah rfl rfl (L.m rfl (L.p (L.p (L.p (L.p (L.p (L.p (L.o (O.ah rfl rfl (L.m rfl (L.p (L.p (L.p (L.p (L.p (?_))))))))))))))))))))))))))))
   refine L.p (L.o (O.ah rfl rfl (L.nil (T.ct (T.q (L.a rfl (L.nil (T.aU results37 rfl ⟨by rw [iq (fun h=>by have:=h.2 i hlt';rw [← hu,← hv,dL] at this;exact by rw [hw1,hw2] at this;exact absurd this.2.2.1 (by decide))],he.trans (he4.trans LW)⟩))))))))
  refine L.o (O.wM runUnderlying4 rfl rfl (L.o (O.aj rfl rfl (L.m rfl (L.o (O.fieldAddr runUnderlying51 rfl sizeOf30 rfl (L.o (O.load isAgg30 rfl (hU.cell rfl) (L.o (O.fieldAddr runUnderlying51 rfl sizeOf30 rfl (L.o (O.load isAgg30 rfl (hV.cell rfl) (L.o (O.call (xs:=[.tmp 74,.tmp 76]) call87 rfl rfl (iL lo lo' u.gv v.gv u.gs v.gs w81 huo.g hvo.g) (fun v90 w90 hq=>?_)))))))))))))))
  obtain ⟨hv90,vZ⟩:=hq
  rcases hq0:decide (u.gs=v.gs) with _|_
  ·rw [hq0] at hv90
   subst hv90
   refine L.o (O.not rfl (L.o (O.aj rfl rfl (L.m rfl (L.p (L.p (L.p (L.p (L.p (L.p (L.o (O.ah rfl rfl (L.m rfl (L.p (L.p (L.p (L.p (L.p (L.p (L.o (O.ah rfl rfl (L.nil (T.ct (T.q (L.a rfl (L.nil (?_)))))))))))))))))))))))))))
   refine T.aU results37 rfl ⟨by rw [iq (fun h=>by have:=h.2 i hlt';rw [← hu,← hv,dL] at this;exact of_decide_eq_false hq0 (this.2.2.2.1))],he.trans (he4.trans (LW.trans vZ))⟩
  rw [hq0] at hv90
  subst hv90
  refine L.o (O.not rfl (L.o (O.aj rfl rfl (L.m rfl (L.o (O.fieldAddr runUnderlying51 rfl sizeOf30 rfl (L.o (O.load isAgg30 rfl ((Blk.ext (cs:=u.cells) hU vZ).cell rfl) (L.o (O.fieldAddr runUnderlying51 rfl sizeOf30 rfl (L.o (O.load isAgg30 rfl ((Blk.ext (cs:=v.cells) hV vZ).cell rfl) (L.o (O.call (xs:=[.tmp 82,.tmp 84]) call87 rfl rfl (iL lo lo' u.vv v.vv u.vs v.vs w90 (huo.ext vZ).v (hvo.ext vZ).v) (fun v91 w91 hq=>?_)))))))))))))))
  obtain ⟨hv91,JD⟩:=hq
  rcases hq1:decide (u.vs=v.vs) with _|_
  ·rw [hq1] at hv91
   subst hv91
   refine L.o (O.not rfl (L.o (O.aj rfl rfl (L.m rfl (L.p (L.p (L.p (L.p (L.p (L.p (L.o (O.ah rfl rfl (L.nil (T.ct (T.q (L.a rfl (L.nil (T.aU results37 rfl ⟨by rw [iq (fun h=>by have:=h.2 i hlt';rw [← hu,← hv,dL] at this;exact of_decide_eq_false hq1 (this.2.2.2.2.1))],he.trans (he4.trans (LW.trans (vZ.trans JD)))⟩))))))))))))))))))
  rw [hq1] at hv91
  subst hv91
  refine L.o (O.not rfl (L.o (O.aj rfl rfl (L.m rfl (L.o (O.fieldAddr runUnderlying51 rfl sizeOf30 rfl (L.o (O.load isAgg30 rfl ((Blk.ext (cs:=u.cells) hU (vZ.trans JD)).cell rfl) (L.o (O.fieldAddr runUnderlying51 rfl sizeOf30 rfl (L.o (O.load isAgg30 rfl ((Blk.ext (cs:=v.cells) hV (vZ.trans JD)).cell rfl) (L.o (O.call (xs:=[.tmp 90,.tmp 92]) call87 rfl rfl (iL lo lo' u.pv v.pv u.ps v.ps w91 (huo.ext (vZ.trans JD)).p (hvo.ext (vZ.trans JD)).p) (fun v92 w92 hq=>?_)))))))))))))))
  obtain ⟨Pm,abX⟩:=hq
  rcases hq2:decide (u.ps=v.ps) with _|_
  ·rw [hq2] at Pm
   subst Pm
   refine L.o (O.not rfl (L.o (O.aj rfl rfl (L.nil (T.ct (T.q (L.a rfl (L.nil (T.aU results37 rfl ⟨by rw [iq (fun h=>by have:=h.2 i hlt';rw [← hu,← hv,dL] at this;exact of_decide_eq_false hq2 (this.2.2.2.2.2))],he.trans (he4.trans (LW.trans ((vZ.trans JD).trans abX)))⟩)))))))))
  rw [hq2] at Pm
  subst Pm
  refine L.o (O.not rfl (L.o (O.aj rfl rfl (L.nil (T.cf (T.skip (T.blk (T.region (L.m rfl (L.o (O.aI rfl rfl (by omega) (L.a rfl (L.nil (T.again (i+1) (by omega) ⟨rfl,rfl,rfl,trivial⟩ ⟨hlt',he4.trans (LW.trans ((vZ.trans JD).trans abX)),fun k hk=>?_⟩))))))))))))))
  ·by_cases ek:k=i
   ·subst ek;rw [← hu,← hv,dL]
    exact ⟨n1,n2,by rw [hw1,hw2],of_decide_eq_true hq0,of_decide_eq_true hq1,of_decide_eq_true hq2⟩
   exact hall k (by omega)
 refine L.nil (T.cf (T.exit rfl (T.q (L.a rfl (L.nil (T.aU results37 rfl ⟨by rw [RP g1 g2 g3 ⟨hlen,fun j hj=>hall j (by omega)⟩],he.trans he4⟩))))))
open Go Go.E
def eY (c:CxV) (r:RoV):List Value:=[c.pv,c.fv,.int .i64 r.G,.int .i64 r.P,.int .i64 r.L,r.uv]
noncomputable def dN (c:CxV) (r:RoV) (bad:Bool):Int:=if bad then 150 else if fG r≠0 then fG r else if r.us.length≠c.fs.length then 160 else 0
theorem uZ (lo:Nat) (c:CxV) (r:RoV) (w:World) (hc:c.ok lo w) (hr:r.ok lo w) :
  Calls Tryz.prog 34 #[.agg (eY c r).toArray] w (Ret fun v w'=>v = .int .i64 (dN c r (cu c))∧Ext w w'):=by
 have hr:Units lo w r.uv r.us:=hr
 refine T.enter (vs:=[.agg (eY c r).toArray]) func34 rfl ntmps34 rfl ?_
 refine T.q (L.o (O.box rfl (fun b1 w1 hb1 hz1 he1 hB1=>?_)))
 have hL:Blk w1 b1 (eY c r) 48:=hB1
 refine L.a rfl (L.nil (T.seq (T.q (L.o (O.fieldAddr runUnderlying48 rfl sizeOf46 rfl (L.o (O.ak isAgg46 sizeOf46 rfl rfl ((Row.ay hL).part 0 2) (L.o (O.call (xs:=[.tmp 6]) call82 rfl rfl (Ju lo c w1 (hc.ext he1)) (fun v2 w2 hq=>?_))))))))))
 obtain ⟨hv2,he2⟩:=hq
 cases hb:cu c
 ·rw [hb] at hv2
  subst hv2
  refine L.a rfl (L.nil (T.q (L.m rfl (L.o (O.kZ rfl rfl (by decide) (?_))))))
  have hL2:=Blk.ext (cs:=eY c r) hL he2
  have zY:=he1.trans he2
  refine L.nil (T.cf (T.skip (T.seq (T.q (L.o (O.fieldAddr runUnderlying48 rfl sizeOf25 rfl (L.o (O.ak isAgg25 sizeOf25 rfl rfl ((Row.ay hL2).part 2 4) (L.o (O.call (xs:=[.tmp 12]) call32 rfl rfl (mM lo r w2 (hr.ext zY)) (fun v3 w3 hq=>?_)))))))))))
  obtain ⟨hv3,he3⟩:=hq
  subst hv3
  have hL3:=Blk.ext (cs:=eY c r) hL2 he3
  have mQ:=zY.trans he3
  refine L.a rfl (L.nil (T.q (L.m rfl (L.o (O.jT rfl rfl (fun hre=>?_) (fun hre=>?_))))))
  ·refine L.nil (T.ct (T.q (L.m rfl (L.a rfl (L.nil (T.aU results34 rfl ⟨by simp [dN,hre],mQ⟩))))))
  refine L.nil (T.cf (T.skip (T.seq (T.q (L.o (O.fieldAddr runUnderlying48 rfl sizeOf25 rfl (L.o (O.fieldAddr runUnderlying25 rfl sizeOf23 rfl (L.o (O.load isAgg23 rfl (hL3.cell rfl) (L.o (O.len runUnderlying23 rfl (Sl.val ((hr.ext mQ).sl)) (L.o (O.fieldAddr runUnderlying48 rfl sizeOf46 rfl (L.o (O.fieldAddr runUnderlying46 rfl sizeOf44 rfl (L.o (O.load isAgg44 rfl (hL3.cell rfl) (L.o (O.len runUnderlying44 rfl (Sl.val ((hc.ext mQ).sl)) (L.o (O.jT rfl rfl (fun hne=>?_) (fun hne=>?_)))))))))))))))))))))))
  ·refine L.nil (T.ct (T.q (L.a rfl (L.nil (T.aU results34 rfl ⟨?_,mQ⟩)))))
   have h2:r.us.length≠c.fs.length:=by omega
   simp [dN,hre,h2]
  refine L.nil (T.cf (T.skip (T.q (L.a rfl (L.nil (T.aU results34 rfl ⟨?_,mQ⟩))))))
  have h2:r.us.length=c.fs.length:=by omega
  simp [dN,hre,h2]
 rw [hb] at hv2
 subst hv2
 refine L.a rfl (L.nil (T.q (L.m rfl (L.o (O.IG rfl rfl (by decide) (L.nil (T.ct (T.q (L.m rfl (L.a rfl (L.nil (T.aU results34 rfl ⟨rfl,he1.trans he2⟩))))))))))))
open Go Go.E
attribute [local irreducible] Go.E.ObG
open Geo (RG DC tK)
theorem pK {c:CxV} {W H:Nat} {ho:Bool} {ss cs:List Int} (h:DC c W H ho ss cs) (hW:1≤W∧W≤4) (hH:1≤H∧H≤3):cu c=false∧RG c∧1≤c.fs.length:=by
 have g1:=tK h hW hH 1 (Nat.le_refl 1)
 have h1:1≤c.fs.length:=by have:=g1.2.f1;simp only [List.length_take] at this;omega
 have g:=tK h hW hH c.fs.length h1
 rw [List.take_of_length_le (Nat.le_refl _)] at g
 exact ⟨g.1,g.2,h1⟩
theorem VX {c:CxV} {W H:Nat} {ho:Bool} {ss cs:List Int} (h:DC c W H ho ss cs) (hW:1≤W∧W≤4) (hH:1≤H∧H≤3):c.fs.length≤24:=by
 obtain ⟨_,⟨_,_,_,hf⟩|⟨_,hM⟩⟩:=h
 ·obtain ⟨va,vh,hv,e|⟨vb,hw,e⟩⟩:=hf <;> rw [e] <;> simp
 rw [hM.len]
 have h1:=(Geo.wV cs W (by omega) H).2
 have hWH:W*H≤4*3:=Nat.mul_le_mul hW.2 hH.2
 have e1:2*W*H=2*(W*H):=Nat.mul_assoc _ _ _
 omega
def afh (d:Dr) (w:World) (v:Value) (w':World):Prop:=Ext w w'∧∃ (c:CxV) (r:RoV),v = .agg (eY c r).toArray∧c.ok w.heap.size w'∧r.ok w.heap.size w'∧sO d c.fs.length r∧DC c (dW d) (dH d) d.ho d.ss d.cs∧(1≤dW d∧dW d≤4)∧1≤dH d∧dH d≤3
theorem CxV.ok.one {lo:Nat} {w:World} {c:CxV} (h:c.ok lo w):∀ u∈c.cells,u.oneCell'=true:=by
 intro u hu
 simp [CxV.cells] at hu
 rcases hu with (rfl|rfl)
 ·exact Sl.one h.p
 exact Sl.one h.sl
theorem CxV.ok.mono {lo lo':Nat} {w:World} {c:CxV} (h:c.ok lo w) (hl:lo'≤lo):c.ok lo' w:=⟨Sl.mono h.p hl,Sl.mono h.sl hl,fun f hf=>by
 have:=h.fs f hf
 exact ⟨this.o.mono hl,Sl.mono this.sl hl,fun x hx=>(this.hs x hx).mono hl⟩⟩
theorem Pts.keep {lo:Nat} {w w':World} {v:Value} {ps:List Pt} (h:Pts lo w v ps) (k:Keep lo w w'):Pts lo w' v ps:=Sl.keep h k
theorem CxV.ok.keep {lo:Nat} {w w':World} {c:CxV} (h:c.ok lo w) (k:Keep lo w w'):c.ok lo w':=⟨h.p.keep k,Sl.keep h.sl k,fun f hf=>by
 have:=h.fs f hf
 exact ⟨Sl.keep this.o k,Sl.keep this.sl k,fun x hx=>Sl.keep (this.hs x hx) k⟩⟩
theorem CxV.ok.loc {lo b:Nat} {w w':World} {c:CxV} (h:c.ok lo w) (hu:Upd b w w') (hb:b<lo):c.ok lo w':=h.keep ((Keep.refl lo w).upd hu (.inl hb))
theorem Gw (lo:Nat) (d:Dr) (w:World) (hd:d.ok lo w) :
  Calls Tryz.prog 22 #[d.val] w (Ret fun v w'=>afh d w v w'):=by
 refine T.enter (vs:=[d.val]) func22 rfl ntmps22 rfl ?_
 refine T.q (L.o (O.box rfl (fun b1 w1 hb1 hz1 he1 hB1=>?_)))
 refine L.o (O.alloc zeroValue48 (fun b2 w2 hb2 hz2 he2 hB2=>?_))
 have zY:=he1.trans he2
 have hD2:Blk w2 b1 d.cells 59:=Blk.ext (cs:=d.cells) hB1 he2
 have hR2:Blk w2 b2 [.slice none 0 0,.slice none 0 0,.int .i64 0,.int .i64 0,.int .i64 0,.slice none 0 0] 48:=hB2
 have hb1':=hD2.lt
 have hb2':=hR2.lt
 refine L.nil (T.q (L.o (O.fieldAddr runUnderlying59 rfl sizeOf56 rfl (L.o (O.ak isAgg56 sizeOf56 rfl rfl (Row.part hD2.row 0 5) (L.o (O.call (xs:=[.tmp 5]) call69 rfl rfl (Af lo d w2 (hd.ext zY)) (fun v3 w3 hq=>?_))))))))
 obtain ⟨he3,c,rfl,hc3,hDC,hWb,hHb⟩:=hq
 refine L.o (O.alloc zeroValue46 (fun b4 w4 hb4 hz4 he4 hB4=>?_))
 refine L.o (O.aC sizeOf46 rfl rfl rfl hB4 (Nat.le_refl _) (CxV.ok.one hc3) (fun w5 hu5 hB5=>?_))
 replace hu5:Upd b4 w4 w5:=hu5
 have hC5:Blk w5 b4 c.cells 46:=hB5
 have Iq:Ext w3 w5:=he4.upd hu5 (.inr (by omega))
 have hc5:=hc3.ext Iq
 have hD5:=(hD2.ext he3).ext Iq
 have QD:=(zY.trans he3).trans Iq
 have hn1:=(pK hDC hWb hHb).2.2
 have hn2:=VX hDC hWb hHb
 refine L.nil (T.seq (?_))
 refine T.fJ mixed 6 [3,1] rfl [.is _,.is _,.is _,.is _,.is _,.such (Qr d c.fs.length w2.heap.size)] [[],[],[],[2],[3],[1,4]] [[],[],[],[2],[2,3],[1,2,3,4],[0,1,2,3,4,5],[0,1,2,3,4,5,6]] (by kernel_rfl) (by kernel_rfl) rfl (by kernel_rfl) ⟨Qr.st,trivial⟩ ⟨fun wx hx=>Ob.o (O.ak isAgg46 sizeOf46 rfl rfl ((hC5.ext hx).row) kR),
   fun wx hx=>Ob.o (O.ak isAgg59 sizeOf59 rfl rfl ((hD5.ext hx).row) kR),
   fun wx hx=>Ob.o (O.fieldAddr runUnderlying46 rfl sizeOf44 rfl kR),
   fun wx hx=>Ob.o (O.load isAgg44 rfl ((hC5.ext hx).cell rfl) kR),
   fun wx hx=>Ob.o (O.len runUnderlying44 rfl (Sl.val ((hc5.ext hx).sl)) kR),
   fun wx hx=>Ob.o (O.call (xs:=[.tmp 8,.tmp 11]) call70 rfl rfl (Nw lo c.fs.length d wx (hd.ext (QD.trans hx)) hn1 hn2) (fun v wy h=>(by obtain ⟨h1,r,rfl,h2,h3,h4,h5,h6,h7⟩:=h;exact ⟨h1,r,rfl,h2.mono ((he3.trans (Iq.trans hx)).size),⟨hn1,hn2,h3,h4,h5,h6,h7⟩⟩))),
   trivial⟩ (fun w6 he6 v12 NH=>?_)
 obtain ⟨r,rfl,hr6,hdr⟩:=NH
 have hc6:=hc5.ext he6
 refine L.o (O.build (v:=.agg (eY c r).toArray) (parts:=[(0,.tmp 7),(1,.tmp 12)]) (vs:=[(0,_),(1,_)]) rfl (fun w=>by kernel_rfl) (L.o (O.aC sizeOf48 rfl rfl rfl ((hR2.ext he3).ext Iq |>.ext he6) (Nat.le_refl _) (by intro u hu;simp [eY] at hu;rcases hu with (rfl|rfl|rfl|rfl|rfl|rfl);exact Sl.one hc6.p;exact Sl.one hc6.sl;rfl;rfl;rfl;exact hr6.one) (fun w7 hu7 hB7=>?_))))
 replace hu7:Upd b2 w6 w7:=hu7
 have hR7:Blk w7 b2 (eY c r) 48:=hB7
 refine L.nil (T.retA results22 isAgg48 sizeOf48 rfl rfl hR7.row ⟨(QD.trans he6).upd hu7 (.inr (by omega)),c,r,rfl,(hc6.loc hu7 hb2').mono zY.size,(hr6.loc hu7 hb2').mono zY.size,hdr,hDC,hWb,hHb⟩)
end Go.Proofs.YtnlonpcbgjbbaaaGreatDoor
