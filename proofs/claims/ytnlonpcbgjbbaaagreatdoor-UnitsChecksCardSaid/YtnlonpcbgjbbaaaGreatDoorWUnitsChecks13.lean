/-
  UnitsChecks, part 13 of its proof: that it returns true for every input, and each argument reads behind the call as it read before. Conditions: the listed variables read as the program's text lays them (tied by the card).
-/
import Derived.Test.YtnlonpcbgjbbaaaGreatDoorWUnitsChecks12
import Derived.Test.YtnlonpcbgjbbaaaGreatDoorWUnitsChecks7
set_option linter.unusedVariables false
set_option linter.unusedSimpArgs false
set_option maxRecDepth 20000
set_option linter.unusedVariables false
set_option linter.unusedSimpArgs false
set_option maxRecDepth 20000
namespace Go.Proofs.YtnlonpcbgjbbaaaGreatDoor
open Go.Proofs.Tryz (call125 call22 call30 call31 call32 call33 call34 call35 call36 call37 call38 call69 call70 call82 call83 call87 func22 func34 func35 func37 func5 func69 func87 isAgg23 isAgg25 isAgg3 isAgg30 isAgg4 isAgg43 isAgg44 isAgg46 isAgg48 isAgg5 isAgg51 isAgg54 isAgg56 isAgg59 isAgg77 isAgg81 isAgg9 ntmps22 ntmps34 ntmps35 ntmps37 ntmps5 ntmps69 ntmps87 results22 results34 results35 results37 results5 results69 results87 runUnderlying23 runUnderlying25 runUnderlying3 runUnderlying30 runUnderlying4 runUnderlying43 runUnderlying44 runUnderlying46 runUnderlying48 runUnderlying5 runUnderlying51 runUnderlying56 runUnderlying59 runUnderlying78 runUnderlying81 runUnderlying83 runUnderlying9 sizeOf127 sizeOf23 sizeOf25 sizeOf3 sizeOf30 sizeOf4 sizeOf43 sizeOf44 sizeOf46 sizeOf48 sizeOf5 sizeOf51 sizeOf54 sizeOf56 sizeOf59 sizeOf77 sizeOf78 sizeOf81 sizeOf9 zeroValue25 zeroValue46 zeroValue48 zeroValue51 zeroValue78 zeroValue81)
open Go Go.E
attribute [local irreducible] Go.E.T Go.E.L Go.E.O Go.E.Ob

attribute [local irreducible] Go.E.ObX
open Geo (Fc Match HoleFs DC)
/-- Numbers in a block of their own. -/
def OwnN (base:Nat) (r:RiV) (w:World):Prop:=∃ b,r.v = .slice (some ⟨b,0,none⟩) r.xs.length r.xs.length∧base≤b∧r.xs.length≤1000∧Blk w b (r.xs.map (Value.int .i64)) 3
/-- A face whose lists lie in blocks of their own. -/
def FaB (base:Nat) (f:FaV) (w:World):Prop:=OwnN base f.o w∧(f.hv = .slice none 0 0∧f.hs = []∨∃ b h,f.hv = .slice (some ⟨b,0,none⟩) 1 1∧f.hs = [h]∧base≤b∧Blk w b [h.v] 30∧OwnN base h w)
theorem OwnN.ext {base:Nat} {r:RiV} {w w':World} (h:OwnN base r w) (k:Ext w w'):OwnN base r w':=by
 obtain ⟨b,h1,h2,h3,h4⟩:=h;exact ⟨b,h1,h2,h3,Blk.ext (cs:=r.xs.map (Value.int .i64)) h4 k⟩
theorem OwnN.upd {base b:Nat} {r:RiV} {w w':World} (h:OwnN base r w) (k:Upd b w w') (hb:b<base):OwnN base r w':=by
 obtain ⟨b',h1,h2,h3,h4⟩:=h;exact ⟨b',h1,h2,h3,Blk.upd (cs:=r.xs.map (Value.int .i64)) h4 k (by omega)⟩
theorem FaB.ext {base:Nat} {f:FaV} {w w':World} (h:FaB base f w) (k:Ext w w'):FaB base f w':=by
 refine ⟨h.1.ext k,?_⟩
 rcases h.2 with h2|⟨b,x,h1,h2,h3,h4,h5⟩
 ·exact .inl h2
 ·exact .inr ⟨b,x,h1,h2,h3,Blk.ext (cs:=[x.v]) h4 k,h5.ext k⟩
theorem FaB.upd {base b:Nat} {f:FaV} {w w':World} (h:FaB base f w) (k:Upd b w w') (hb:b<base):FaB base f w':=by
 refine ⟨h.1.upd k hb,?_⟩
 rcases h.2 with h2|⟨b',x,h1,h2,h3,h4,h5⟩
 ·exact .inl h2
 ·exact .inr ⟨b',x,h1,h2,h3,Blk.upd (cs:=[x.v]) h4 k (by omega),h5.upd k hb⟩
/-- A block is not the one of a row whose elements have another type. -/
theorem own_blk {w:World} {base n sz b:Nat} {el t:TypeId} {v:Value} {xs cs:List Value} (h:w.ownsRow base el sz v n xs) (hb:Blk w b cs t) (he:el≠t):∀ j,v.ownBlock=some j→j≠b:=by
 intro j hj e
 subst e
 rcases h.2 with ⟨hv,_⟩|⟨g,cap,cur,hv,_,hg,_⟩
 ·subst hv;cases hj
 ·subst hv
  cases hj
  unfold Blk at hb
  rw [hg] at hb
  cases hb
  exact he rfl
theorem OwnN.grown {base base' n sz:Nat} {el:TypeId} {v:Value} {xs:List Value} {r:RiV} {w w':World} (h:OwnN base r w) (hO:w.ownsRow base' el sz v n xs) (hG:w.grownBy w' v.ownBlock) (he:el≠3):OwnN base r w':=by
 obtain ⟨b',h1,h2,h3,h4⟩:=h
 exact ⟨b',h1,h2,h3,Blk.grown (cs:=r.xs.map (Value.int .i64)) h4 hG (own_blk hO h4 he)⟩
theorem FaB.grown {base base' n sz:Nat} {el:TypeId} {v:Value} {xs:List Value} {f:FaV} {w w':World} (h:FaB base f w) (hO:w.ownsRow base' el sz v n xs) (hG:w.grownBy w' v.ownBlock) (he:el≠3) (he':el≠30):FaB base f w':=by
 refine ⟨h.1.grown hO hG he,?_⟩
 rcases h.2 with h2|⟨b',x,h1,h2,h3,h4,h5⟩
 ·exact .inl h2
 ·exact .inr ⟨b',x,h1,h2,h3,Blk.grown (cs:=[x.v]) h4 hG (own_blk hO h4 he'),h5.grown hO hG he⟩
/-- Faces in a row of their own. -/
def FsB (base:Nat) (v:Value) (fs:List FaV) (w:World):Prop:=w.ownsRow base 127 2 v fs.length (fcells fs)∧∀ f∈fs,FaB base f w
theorem FsB.nil (base:Nat) (w:World):FsB base (.slice none 0 0) [] w:=⟨owns_nil _ _ _ _,fun _ h=>by cases h⟩
theorem FsB.upd {base b:Nat} {v:Value} {fs:List FaV} {w w':World} (h:FsB base v fs w) (k:Upd b w w') (hb:b<base):FsB base v fs w':=⟨owns_upd h.1 k hb,fun f hf=>(h.2 f hf).upd k hb⟩
theorem fcells_app (a b:List FaV):fcells (a++b)=fcells a++fcells b:=by simp [fcells]
theorem FsB.app {base m:Nat} {v v':Value} {fs ns:List FaV} {news:List Value} {w wL w':World} (h:FsB base v fs w) (k:Ext w wL) (hG:wL.grownBy w' v.ownBlock) (hO:w'.ownsRow base 127 2 v' (fs.length+m) (fcells fs++news)) (hn:∀ f∈ns,FaB base f wL) (he:news=fcells ns) (hm:m=ns.length):FsB base v' (fs++ns) w':=by
 subst he hm
 refine ⟨by rw [List.length_append,fcells_app];exact hO,fun f hf=>?_⟩
 have hL:=owns_keep h.1 k (Nat.zero_le _)
 rcases List.mem_append.1 hf with hf|hf
 ·exact ((h.2 f hf).ext k).grown hL hG (by decide) (by decide)
 ·exact (hn f hf).grown hL hG (by decide) (by decide)
theorem FaB.ok {base:Nat} {f:FaV} {w:World} (h:FaB base f w):f.ok base w:=by
 have N:∀ {r:RiV},OwnN base r w→Ints .i64 base w r.v r.xs:=fun ⟨b,h1,h2,h3,h4⟩=>by rw [h1];exact Ints.of_blk h4 rfl (by unfold maxLen;omega) h2
 refine ⟨N h.1,?_,?_⟩
 ·rcases h.2 with ⟨h1,h2⟩|⟨b,x,h1,h2,h3,h4,h5⟩
  ·rw [h1,h2];exact ⟨by simp [riCells],none,0,rfl,Nat.le_refl _,by decide,.inl rfl⟩
  ·rw [h1,h2];exact Sl.of_blk h4 rfl (Nat.le_refl _) (by decide) h3
 ·intro x hx
  rcases h.2 with ⟨h1,h2⟩|⟨b,y,h1,h2,h3,h4,h5⟩
  ·rw [h2] at hx;cases hx
  ·rw [h2] at hx
   simp only [List.mem_cons,List.mem_nil_iff,or_false] at hx
   subst hx;exact N h5
theorem match_app {fs ns:List FaV} {gs hs:List Fc} {n:Nat} (h:Match fs gs n) (hl:ns.length=hs.length) (hn:∀ j,j<hs.length→(ns.getD j f0).o.xs=(hs.getD j ⟨.q,0,0⟩).ring n∧(ns.getD j f0).hs = []):Match (fs++ns) (gs++hs) n:=by
 refine ⟨by rw [List.length_append,List.length_append,h.len,hl],fun j hj=>?_⟩
 rw [List.length_append] at hj
 have hL:=h.len
 rcases Nat.lt_or_ge j gs.length with hlt|hge
 ·have:=h.at' j hlt
  rw [List.getD_eq_getElem?_getD,List.getElem?_append_left (by omega),← List.getD_eq_getElem?_getD,List.getD_eq_getElem?_getD (l:=gs++hs),List.getElem?_append_left hlt,← List.getD_eq_getElem?_getD]
  exact this
 ·have:=hn (j-gs.length) (by omega)
  rw [List.getD_eq_getElem?_getD,List.getElem?_append_right (by omega),← List.getD_eq_getElem?_getD,List.getD_eq_getElem?_getD (l:=gs++hs),List.getElem?_append_right hge,← List.getD_eq_getElem?_getD,hL]
  exact this
theorem match_nil (n:Nat):Match [] [] n:=⟨rfl,fun j hj=>absurd hj (Nat.not_lt_zero _)⟩
theorem rings_at (W k i:Nat):(⟨.s,i,k⟩:Fc).ring W = [(k:Int)*((W:Int)+1)+i,(k:Int)*((W:Int)+1)+i+1,(k:Int)*((W:Int)+1)+i+W+1+1]∧(⟨.t,i,k⟩:Fc).ring W = [(k:Int)*((W:Int)+1)+i,(k:Int)*((W:Int)+1)+i+W+1+1,(k:Int)*((W:Int)+1)+i+W+1]∧(⟨.q,i,k⟩:Fc).ring W = [(k:Int)*((W:Int)+1)+i,(k:Int)*((W:Int)+1)+i+1,(k:Int)*((W:Int)+1)+i+W+1+1,(k:Int)*((W:Int)+1)+i+W+1]∧(⟨.u,i,k⟩:Fc).ring W = [(k:Int)*((W:Int)+1)+i+W+1+1,(k:Int)*((W:Int)+1)+i+W+1,(k:Int)*((W:Int)+1)+i,(k:Int)*((W:Int)+1)+i+1]:=by
 have e:∀ a b:Nat,((Geo.ix W a b:Nat):Int)=(b:Int)*((W:Int)+1)+a:=fun a b=>by
  unfold Geo.ix
  rw [Int.natCast_add,Int.natCast_mul,Int.mul_comm];rfl
 have e1:((k+1:Nat):Int)*((W:Int)+1)=(k:Int)*((W:Int)+1)+((W:Int)+1):=by
  rw [show ((k+1:Nat):Int)=(k:Int)+1 by omega,Int.add_mul,Int.one_mul]
 refine ⟨?_,?_,?_,?_⟩ <;> simp only [Fc.ring,Fc.vs,List.map_cons,List.map_nil,e,e1] <;> generalize (k:Int)*((W:Int)+1)=a <;> simp only [List.cons.injEq,and_true,true_and] <;> (repeat' apply And.intro) <;> omega
open Go Go.E

open Geo (Fc Match HoleFs DC xAt yAt rowP ptsR cellG rowG allG)
def dW (d:Dr):Nat:=if d.ho then 3 else (1+d.wd % 4).toNat
def dH (d:Dr):Nat:=if d.ho then 3 else (1+d.hi % 3).toNat
/-- The complex of a draft, as it is. -/
def CxQ (w:World) (d:Dr) (v:Value) (w':World):Prop:=Ext w w'∧∃ c:CxV,v=c.val∧c.ok w.heap.size w'∧DC c (dW d) (dH d) d.ho d.ss d.cs∧(1≤dW d∧dW d≤4)∧1≤dH d∧dH d≤3
theorem CxQ.of {w w':World} {d:Dr} {base:Nat} {c:CxV} (hE:Ext w w') (hb:w.heap.size≤base) (hp:w'.ownsRow base 124 2 c.pv c.ps.length (pcs c.ps)) (hf:FsB base c.fv c.fs w') (hd:DC c (dW d) (dH d) d.ho d.ss d.cs) (hW:1≤dW d∧dW d≤4) (hH:1≤dH d∧dH d≤3):CxQ w d c.val w' :=
 ⟨hE,c,rfl,⟨(Sl.of_owns hp).mono hb,(Sl.of_owns hf.1).mono hb,fun f h=>by
  have:=(hf.2 f h).ok
  exact ⟨this.o.mono hb,Sl.mono this.sl hb,fun x hx=>(this.hs x hx).mono hb⟩⟩,hd,hW,hH⟩
theorem cell_0 {cs:List Int} {W k i:Nat} {gs:List Fc} (h:num8 cs (k*W+i) % 8=0):cellG cs W k i gs=gs ++ [⟨.s,i,k⟩,⟨.t,i,k⟩]:=by unfold Geo.cellG;rw [if_pos h]
theorem cell_1 {cs:List Int} {W k i:Nat} {gs:List Fc} (h0:¬ num8 cs (k*W+i) % 8=0) (h:num8 cs (k*W+i) % 8=1) (hg:gs ≠ []):cellG cs W k i gs=gs:=by unfold Geo.cellG;rw [if_neg h0,if_pos h,if_neg hg]
theorem cell_1n {cs:List Int} {W k i:Nat} (h0:¬ num8 cs (k*W+i) % 8=0) (h:num8 cs (k*W+i) % 8=1):cellG cs W k i [] = [⟨.u,i,k⟩]:=by unfold Geo.cellG;rw [if_neg h0,if_pos h,if_pos rfl]
theorem cell_2 {cs:List Int} {W k i:Nat} {gs:List Fc} (h0:¬ num8 cs (k*W+i) % 8=0) (h:¬ num8 cs (k*W+i) % 8=1):cellG cs W k i gs=gs ++ [⟨.q,i,k⟩]:=by unfold Geo.cellG;rw [if_neg h0,if_neg h]
theorem fab_of {base b:Nat} {xs:List Int} {n:Nat} {w:World} {cs:List Value} (hb:Blk w b cs 3) (hcs:cs=xs.map (Value.int .i64)) (hn:xs.length=n) (hm:n≤1000) (h:base≤b):FaB base ⟨⟨.slice (some ⟨b,0,none⟩) n n,xs⟩,.slice none 0 0,[]⟩ w:=by
 subst hcs hn
 exact ⟨⟨b,rfl,h,hm,hb⟩,.inl ⟨rfl,rfl⟩⟩
set_option maxHeartbeats 4000000 in
theorem ComplexE_calls (lo:Nat) (d:Dr) (w:World) (hd:d.ok lo w) :
  Calls Tryz.prog 69 #[.agg (dcells d).toArray] w (Ret fun v w'=>CxQ w d v w'):=by
 refine T.enter (vs:=[.agg (dcells d).toArray]) func69 rfl ntmps69 rfl ?_
 refine T.q (L.o (O.box rfl (fun b1 w1 hb1 hz1 he1 hB1=>?_)))
 refine L.o (O.alloc zeroValue46 (fun b2 w2 hb2 hz2 he2 hB2=>?_))
 have he02:=he1.trans he2
 have hD2:Blk w2 b1 (dcells d) 56:=Blk.ext (cs:=dcells d) hB1 he2
 have hR2:Blk w2 b2 [.slice none 0 0,.slice none 0 0] 46:=hB2
 have hb1':=hD2.lt
 have hb2':=hR2.lt
 have hw0:=hd.w0
 have hh0:=hd.h0
 unfold Low8 at hw0 hh0
 refine L.nil (T.seq (?_))
 refine T.anyE mixed 11 [1] rfl [.is _,.is _,.is _,.is _,.is _,.is _,.is _,.is _,.is _,.is _,.is _] [[],[0],[1],[2],[3],[],[5],[6],[7],[8],[4]] [[],[0],[0,1],[0,1,2],[0,1,2,3],[],[5],[5,6],[5,6,7],[5,6,7,8],[0,1,2,3,4],[0,1,2,3,4,5,6,7,8,9,10]] (by kernel_rfl) (by kernel_rfl) rfl (by kernel_rfl) trivial ⟨fun wx hx=>Ob.o (O.fieldAddr runUnderlying56 rfl sizeOf5 rfl kR),
   fun wx hx=>Ob.o (O.load isAgg5 rfl ((hD2.ext hx).cell rfl) kR),
   fun wx hx=>Ob.o (O.rem rfl rfl (by omega) (by omega) kR),
   fun wx hx=>Ob.o (O.conv_to rfl (fun w=>⟨_,runUnderlying5 w⟩) runUnderlying3 (IntWalk.i64_in _ ⟨by omega,by omega⟩) kR),
   fun wx hx=>Ob.o (O.add64 rfl rfl (by omega) kR),
   fun wx hx=>Ob.o (O.fieldAddr runUnderlying56 rfl sizeOf5 rfl kR),
   fun wx hx=>Ob.o (O.load isAgg5 rfl ((hD2.ext hx).cell rfl) kR),
   fun wx hx=>Ob.o (O.rem rfl rfl (by omega) (by omega) kR),
   fun wx hx=>Ob.o (O.conv_to rfl (fun w=>⟨_,runUnderlying5 w⟩) runUnderlying3 (IntWalk.i64_in _ ⟨by omega,by omega⟩) kR),
   fun wx hx=>Ob.o (O.add64 rfl rfl (by omega) kR),
   fun wx hx=>Ob.o (O.assign rfl kR),
   trivial⟩ (fun w3 he3=>?_)
 refine L.a rfl (L.nil (T.seq (T.q (L.o (O.fieldAddr runUnderlying56 rfl sizeOf4 rfl (L.o (O.load isAgg4 rfl ((hD2.ext he3).cell rfl) (?_))))))))
 have he03:=he02.trans he3
 refine L.nil (?_)
 refine T.join (σ:=Int × Int) (fun s=>[(1,.pointer (some ⟨b1,0,none⟩)),(2,.pointer (some ⟨b2,0,none⟩)),(3,.int .i64 s.1),(4,.int .i64 s.2)]) (fun s w'=>w'=w3∧s.1=dW d∧s.2=dH d) ?_ ?_
 ·rcases hho:d.ho with _|_
  ·refine T.cf (T.skip (T.meet ((1+d.wd % 4,1+d.hi % 3)) ⟨rfl,rfl,rfl,rfl,trivial⟩ ⟨rfl,by simp only [dW,hho];show 1+d.wd % 4=(((1+d.wd % 4).toNat:Nat):Int);omega,by simp only [dH,hho];show 1+d.hi % 3=(((1+d.hi % 3).toNat:Nat):Int);omega⟩))
  ·refine T.ct (T.region (L.a rfl (L.a rfl (L.nil (T.meet ((3,3)) ⟨rfl,rfl,rfl,rfl,trivial⟩ ⟨rfl,by simp only [dW,hho];rfl,by simp only [dH,hho];rfl⟩)))))
 rintro ⟨Wi,Hi⟩ w4 ⟨rfl,hW1,hH1⟩
 simp only at hW1 hH1
 subst hW1 hH1
 obtain ⟨Wn,hWn⟩:∃ Wn,Wn=dW d:=⟨_,rfl⟩
 obtain ⟨Hn,hHn⟩:∃ Hn,Hn=dH d:=⟨_,rfl⟩
 rw [← hWn,← hHn]
 have hWb:1≤Wn∧Wn≤4:=by rw [hWn];unfold dW;split <;> omega
 have hHb:1≤Hn∧Hn≤3:=by rw [hHn];unfold dH;split <;> omega
 obtain ⟨hW1,hW2⟩:=hWb
 obtain ⟨hH1,hH2⟩:=hHb
 have hW2n:Wn≤4:=hW2
 refine T.q (L.o (O.build (v:=.agg #[.slice none 0 0,.slice none 0 0]) (parts:=[]) (vs:=[]) rfl (fun w=>by kernel_rfl) (L.o (O.alloc zeroValue46 (fun b5 w5 hb5 hz5 he5 hB5=>?_)))))
 refine L.o (O.storeAgg sizeOf46 rfl rfl rfl hB5 (Nat.le_refl _) (by intro u hu;simp at hu;rcases hu with (rfl|rfl) <;> rfl) (fun w6 hu6 hB6=>?_))
 replace hu6:Upd b5 w5 w6:=hu6
 have hz3:=he3.size
 have he46:Ext w4 w6:=he5.upd hu6 (.inr (by omega))
 have he06:=he03.trans he46
 have hB6':Blk w6 b5 [.slice none 0 0,.slice none 0 0] 46:=hB6
 have hb5':=hB6'.lt
 have hz6:=hu6.size
 have hz02:=he02.size
 have hD6:Blk w6 b1 (dcells d) 56:=(hD2.ext he3).ext he46
 have hR6:=(hR2.ext he3).ext he46
 refine L.nil (T.q (L.a rfl (L.nil (T.seq (T.q (L.a rfl (L.nil (T.block (?_)))))))))
 refine T.loop (σ:=Nat × Value) (fun s=>[(1,.pointer (some ⟨b1,0,none⟩)),(2,.pointer (some ⟨b2,0,none⟩)),(3,.int .i64 Wn),(4,.int .i64 Hn),(5,.pointer (some ⟨b5,0,none⟩)),(6,.int .i64 (yAt d.ss s.1)),(7,.int .i64 s.1)]) (fun s w'=>s.1≤Hn+1∧Ext w w'∧w6.heap.size≤w'.heap.size∧Blk w' b1 (dcells d) 56∧Blk w' b2 [.slice none 0 0,.slice none 0 0] 46∧Blk w' b5 [s.2,.slice none 0 0] 46∧w'.ownsRow w6.heap.size 124 2 s.2 (ptsR d.ss Wn s.1).length (pcs (ptsR d.ss Wn s.1))) (fun s=>Hn+1-s.1) ((0,.slice none 0 0)) ⟨rfl,rfl,rfl,rfl,rfl,rfl,rfl,trivial⟩ ⟨Nat.zero_le _,he06,Nat.le_refl _,hD6,hR6,hB6',owns_nil _ _ _ _⟩ ?_
 rintro ⟨k,pv⟩ w7 ⟨hk,he7,hz7,hD7,hR7,hC7,hP7⟩
 simp only at hk hC7 hP7
 have hy:=Geo.yAt_bnd d.ss k
 refine T.seq (T.q (L.m rfl (L.m rfl (L.o (O.leq_s rfl rfl (fun hlk=>?_) (fun hlk=>?_))))))
 ·refine L.nil (?_)
  have hlk':k≤Hn:=by omega
  refine T.ct (T.skip (T.seq (T.block (T.q (L.a rfl (L.nil (T.seq (T.q (L.a rfl (L.nil (T.block (?_))))))))))))
  refine T.loop (σ:=Nat × Value) (fun s=>[(1,.pointer (some ⟨b1,0,none⟩)),(2,.pointer (some ⟨b2,0,none⟩)),(3,.int .i64 Wn),(4,.int .i64 Hn),(5,.pointer (some ⟨b5,0,none⟩)),(6,.int .i64 (yAt d.ss k)),(7,.int .i64 k),(8,.int .i64 (xAt d.ss s.1)),(9,.int .i64 s.1)]) (fun s w'=>s.1≤Wn+1∧Ext w w'∧w6.heap.size≤w'.heap.size∧Blk w' b1 (dcells d) 56∧Blk w' b2 [.slice none 0 0,.slice none 0 0] 46∧Blk w' b5 [s.2,.slice none 0 0] 46∧w'.ownsRow w6.heap.size 124 2 s.2 (ptsR d.ss Wn k++rowP d.ss k s.1).length (pcs (ptsR d.ss Wn k++rowP d.ss k s.1))) (fun s=>Wn+1-s.1) ((0,pv)) ⟨rfl,rfl,rfl,rfl,rfl,rfl,rfl,rfl,rfl,trivial⟩ ⟨Nat.zero_le _,he7,hz7,hD7,hR7,hC7,by simpa [Geo.rowP] using hP7⟩ ?_
  rintro ⟨i,pv2⟩ w8 ⟨hi,he8,hz8,hD8,hR8,hC8,hP8⟩
  simp only at hi hC8 hP8
  have hx:=Geo.xAt_bnd d.ss i
  have hLn:(ptsR d.ss Wn k++rowP d.ss k i).length≤100:=by
   rw [List.length_append,Geo.ptsR_len,Geo.rowP_len]
   have:(Wn+1)*k≤5*4:=Nat.mul_le_mul (by omega) (by omega)
   omega
  refine T.seq (T.q (L.m rfl (L.m rfl (L.o (O.leq_s rfl rfl (fun hli=>?_) (fun hli=>?_))))))
  ·refine L.nil (?_)
   have hli':i≤Wn:=by omega
   refine T.ct (T.skip (T.seq (T.block (T.q (L.o (O.fieldAddr runUnderlying46 rfl sizeOf43 rfl (L.o (O.load isAgg43 rfl (hC8.cell rfl) (L.m rfl (L.m rfl (L.o (O.build (v:=.agg #[.int .i64 (xAt d.ss i),.int .i64 (yAt d.ss k)]) (parts:=[(0,.tmp 39),(1,.tmp 40)]) (vs:=[(0,_),(1,_)]) rfl (fun w=>by kernel_rfl) (L.o (O.buildSlice (el:=124) (parts:=[(0,.tmp 41)]) (vs:=[(0,_)]) (cs:=[.int .i64 (xAt d.ss i),.int .i64 (yAt d.ss k)]) rfl (fun w=>by kernel_rfl) (fun b9 w9 hb9 hz9 he9 hB9=>?_)))))))))))))))
   have hO9:=owns_keep hP8 he9 (Nat.zero_le _)
   refine L.o (O.append (size:=2) (bytes:=16) runUnderlying43 Tryz.infoOf124 rfl rfl rfl rfl (by decide) rfl rfl hO9 (Sl.of_blk (lo:=0) (n:=1) (sz:=2) hB9 rfl (Nat.le_refl _) (by decide) (Nat.zero_le _)) (by intro c hc;simp at hc;rcases hc with (rfl|rfl) <;> rfl) (by omega) (by simp only [maxLen];omega) (by have:=he9.size;omega) (fun v10 w10 hO10 hG10=>?_))
   have hne:∀ b',b'<w6.heap.size→∀ j,pv2.ownBlock=some j→j≠b':=fun b' hb' j hj=>by have:=(own_at hP8 hj).1;omega
   have hv10:v10.oneCell'=true:=Sl.one (Sl.of_owns hO10)
   have hE10:Ext w w10:=(he8.trans he9).grown0 hO9 hG10 (by have:=he06.size;omega)
   refine L.o (O.fieldAddr runUnderlying46 rfl sizeOf43 rfl (L.o (O.store1 sizeOf43 hv10 rfl rfl ((hC8.ext he9).grown hG10 (hne b5 hb5')) (by simp [Value.cells]) (fun w11 hu11 hB11=>?_))))
   replace hu11:Upd b5 w10 w11:=hu11
   have hD11:=((hD8.ext he9).grown hG10 (hne b1 (by omega))).upd hu11 (by omega)
   have hR11:=((hR8.ext he9).grown hG10 (hne b2 (by omega))).upd hu11 (by omega)
   have hE11:Ext w w11:=hE10.upd hu11 (.inr (by omega))
   have hd11:=hd.ext hE11
   have hnb:=num8_le hd.sl i
   have hz911:w8.heap.size≤w11.heap.size:=by have:=he9.size;have:=hG10.size;have:=hu11.size;omega
   refine L.nil (T.region (L.m rfl (L.o (O.add64 rfl rfl (by (try dsimp only);omega) (L.o (O.fieldAddr runUnderlying56 rfl sizeOf54 rfl (L.o (O.load isAgg54 rfl (hD11.cell rfl) (L.m rfl (L.o (O.call (xs:=[.tmp 48,.tmp 49]) call125 rfl rfl (num8_calls lo d.sv d.ss i w11 hd11.s hd.sl (by omega)) (fun v12 w12 hq=>?_))))))))))))
   obtain ⟨rfl,rfl⟩:=hq
   refine L.o (O.rem rfl rfl (by omega) (by omega) (L.o (O.add64 rfl rfl (by (try dsimp only);omega) (L.a rfl (L.nil (T.blk (T.region (L.m rfl (L.o (O.add64 rfl rfl (by (try dsimp only);omega) (L.a rfl (L.nil (T.again ((i+1,v10)) (by omega) ⟨rfl,rfl,rfl,rfl,rfl,rfl,rfl,rfl,rfl,trivial⟩ ⟨by omega,hE11,by omega,hD11,hR11,hB11,?_⟩)))))))))))))
   ·have h:=owns_upd hO10 hu11 hb5'
    have e:ptsR d.ss Wn k++rowP d.ss k (i+1)=(ptsR d.ss Wn k++rowP d.ss k i) ++ [(xAt d.ss i,yAt d.ss k)]:=by rw [Geo.rowP,List.append_assoc]
    show World.ownsRow w12 _ _ _ v10 (ptsR d.ss Wn k++rowP d.ss k (i+1)).length (pcs (ptsR d.ss Wn k++rowP d.ss k (i+1)))
    rw [e,List.length_append,pcs_append,pcs_one]
    exact h
  ·refine L.nil (?_)
   obtain rfl:i=Wn+1:=by omega
   have hd8:=hd.ext he8
   have hnb:=num8_le hd.sl (7+k)
   refine T.cf (T.exit rfl (T.region (L.m rfl (L.o (O.add64 rfl rfl (by (try dsimp only);omega) (L.o (O.fieldAddr runUnderlying56 rfl sizeOf54 rfl (L.o (O.load isAgg54 rfl (hD8.cell rfl) (L.m rfl (L.o (O.add64 rfl rfl (by (try dsimp only);omega) (?_)))))))))))))
   rw [show (7:Int)+(k:Int)=((7+k:Nat):Int) by omega]
   refine L.o (O.call (xs:=[.tmp 56,.tmp 58]) call125 rfl rfl (num8_calls lo d.sv d.ss (7+k) w8 hd8.s hd.sl (by omega)) (fun v9 w9 hq=>?_))
   obtain ⟨rfl,rfl⟩:=hq
   refine L.o (O.rem rfl rfl (by omega) (by omega) (L.o (O.add64 rfl rfl (by (try dsimp only);omega) (L.a rfl (L.nil (T.blk (T.region (L.m rfl (L.o (O.add64 rfl rfl (by (try dsimp only);omega) (L.a rfl (L.nil (T.again ((k+1,pv2)) (by omega) ⟨rfl,rfl,rfl,rfl,rfl,rfl,rfl,trivial⟩ ⟨by omega,he8,hz8,hD8,hR8,hC8,hP8⟩)))))))))))))
 ·refine L.nil (?_)
  obtain rfl:k=Hn+1:=by omega
  refine T.cf (T.exit rfl (T.seq (T.q (L.o (O.fieldAddr runUnderlying56 rfl sizeOf4 rfl (L.o (O.load isAgg4 rfl (hD7.cell rfl) (?_))))))))
  have hz06:=he06.size
  have hpv1:pv.oneCell'=true:=Sl.one (Sl.of_owns hP7)
  rcases hho:d.ho with _|_
  ·refine L.nil (T.cf (T.skip (T.seq (T.q (L.a rfl (L.nil (T.block (?_))))))))
   refine T.loop (σ:=Nat × Value × List FaV) (fun s=>[(1,.pointer (some ⟨b1,0,none⟩)),(2,.pointer (some ⟨b2,0,none⟩)),(3,.int .i64 Wn),(4,.int .i64 Hn),(5,.pointer (some ⟨b5,0,none⟩)),(10,.int .i64 s.1)]) (fun s w'=>s.1≤Hn∧Ext w w'∧w6.heap.size≤w'.heap.size∧Blk w' b1 (dcells d) 56∧Blk w' b2 [.slice none 0 0,.slice none 0 0] 46∧Blk w' b5 [pv,s.2.1] 46∧FsB w6.heap.size s.2.1 s.2.2 w'∧w'.ownsRow w6.heap.size 124 2 pv (ptsR d.ss Wn (Hn+1)).length (pcs (ptsR d.ss Wn (Hn+1)))∧Match s.2.2 (allG d.cs Wn s.1) Wn) (fun s=>Hn-s.1) ((0,.slice none 0 0,[])) ⟨rfl,rfl,rfl,rfl,rfl,rfl,trivial⟩ ⟨Nat.zero_le _,he7,hz7,hD7,hR7,hC7,FsB.nil _ _,hP7,match_nil _⟩ ?_
   rintro ⟨k,fv,fs⟩ w8 ⟨hk8,he8,hz8,hD8,hR8,hC8,hF8,hP8,hM8⟩
   simp only at hk8 hC8 hF8 hM8
   refine T.seq (T.q (L.m rfl (L.m rfl (L.o (O.lss_s rfl rfl (fun hlk2=>?_) (fun hlk2=>?_))))))
   ·refine L.nil (?_)
    have hlk2':k<Hn:=by omega
    refine T.ct (T.skip (T.seq (T.block (T.q (L.a rfl (L.nil (T.block (?_))))))))
    refine T.loop (σ:=Nat × Value × List FaV) (fun s=>[(1,.pointer (some ⟨b1,0,none⟩)),(2,.pointer (some ⟨b2,0,none⟩)),(3,.int .i64 Wn),(4,.int .i64 Hn),(5,.pointer (some ⟨b5,0,none⟩)),(10,.int .i64 k),(11,.int .i64 s.1)]) (fun s w'=>s.1≤Wn∧Ext w w'∧w6.heap.size≤w'.heap.size∧Blk w' b1 (dcells d) 56∧Blk w' b2 [.slice none 0 0,.slice none 0 0] 46∧Blk w' b5 [pv,s.2.1] 46∧FsB w6.heap.size s.2.1 s.2.2 w'∧w'.ownsRow w6.heap.size 124 2 pv (ptsR d.ss Wn (Hn+1)).length (pcs (ptsR d.ss Wn (Hn+1)))∧Match s.2.2 (rowG d.cs Wn k (allG d.cs Wn k) s.1) Wn) (fun s=>Wn-s.1) ((0,fv,fs)) ⟨rfl,rfl,rfl,rfl,rfl,rfl,rfl,trivial⟩ ⟨Nat.zero_le _,he8,hz8,hD8,hR8,hC8,hF8,hP8,hM8⟩ ?_
    rintro ⟨i,fv2,fs2⟩ w9 ⟨hi9,he9,hz9,hD9,hR9,hC9,hF9,hP9,hM9⟩
    simp only at hi9 hC9 hF9 hM9
    refine T.seq (T.q (L.m rfl (L.m rfl (L.o (O.lss_s rfl rfl (fun hli2=>?_) (fun hli2=>?_))))))
    ·refine L.nil (?_)
     have hli2':i<Wn:=by omega
     have hm:0≤(k:Int)*((Wn:Int)+1)∧(k:Int)*((Wn:Int)+1)≤15:=⟨Int.mul_nonneg (by omega) (by omega),Int.mul_le_mul (show (k:Int)≤3 by omega) (show (Wn:Int)+1≤5 by omega) (by omega) (by omega)⟩
     have hmk:(k:Int)*(Wn:Int)=((k*Wn:Nat):Int):=by simp
     have hm2:k*Wn≤12:=Nat.mul_le_mul (show k≤3 by omega) hW2n
     have hgl:=(Geo.rowG_len d.cs Wn k (allG d.cs Wn k) i).2.1
     have hgl2:=(Geo.allG_len d.cs Wn (by omega) k).2
     have hgl3:2*Wn*k≤2*4*3:=Nat.mul_le_mul (by omega) (by omega)
     have hfl:=hM9.len
     have hfn:fs2.length≤100:=by omega
     have hrg:=rings_at Wn k i
     obtain ⟨A,hA⟩:∃ A:Int,A=(k:Int)*((Wn:Int)+1)+(i:Int):=⟨_,rfl⟩
     rw [← hA] at hrg
     have hO9:=hF9.1
     refine T.ct (T.skip (T.seq (?_)))
     refine T.join (σ:=Value × List FaV) (fun s=>[(1,.pointer (some ⟨b1,0,none⟩)),(2,.pointer (some ⟨b2,0,none⟩)),(3,.int .i64 Wn),(4,.int .i64 Hn),(5,.pointer (some ⟨b5,0,none⟩)),(10,.int .i64 k),(11,.int .i64 i)]) (fun s w'=>Ext w w'∧w6.heap.size≤w'.heap.size∧Blk w' b1 (dcells d) 56∧Blk w' b2 [.slice none 0 0,.slice none 0 0] 46∧Blk w' b5 [pv,s.1] 46∧FsB w6.heap.size s.1 s.2 w'∧w'.ownsRow w6.heap.size 124 2 pv (ptsR d.ss Wn (Hn+1)).length (pcs (ptsR d.ss Wn (Hn+1)))∧Match s.2 (rowG d.cs Wn k (allG d.cs Wn k) (i+1)) Wn) ?_ ?_
     ·refine T.block (T.q (L.m rfl (L.m rfl (L.o (O.add64 rfl rfl (by (try dsimp only);omega) (L.o (O.mul64 rfl rfl (by (try dsimp only);omega) (L.m rfl (L.o (O.add64 rfl rfl (by (try dsimp only);omega) (?_)))))))))))
      rw [← hA]
      refine L.a rfl (L.nil (T.q (L.m rfl (L.m rfl (L.o (O.add64 rfl rfl (by (try dsimp only);omega) (L.o (O.add64 rfl rfl (by (try dsimp only);omega) (L.a rfl (L.nil (T.q (L.o (O.fieldAddr runUnderlying56 rfl sizeOf54 rfl (L.o (O.load isAgg54 rfl (hD9.cell rfl) (L.m rfl (L.m rfl (L.o (O.mul64 rfl rfl (by (try dsimp only);omega) (L.m rfl (L.o (O.add64 rfl rfl (by (try dsimp only);omega) (L.o (O.call (xs:=[.tmp 107,.tmp 112]) call125 rfl rfl (num8_calls lo d.cv d.cs (k*Wn+i) w9 (hd.ext he9).c hd.cl (by omega)) (fun v10 w10 hq=>?_)))))))))))))))))))))))))
      obtain ⟨rfl,rfl⟩:=hq
      have hnb:=num8_le hd.cl (k*Wn+i)
      refine L.o (O.rem rfl rfl (by omega) (by omega) (L.nil (T.block (T.q (L.o (O.eql_s rfl rfl (fun c0=>?_) (fun c0=>?_)))))))
      ·refine L.a rfl (L.nil (T.ct (T.region (L.o (O.fieldAddr runUnderlying46 rfl sizeOf44 rfl (L.o (O.load isAgg44 rfl (hC9.cell rfl) (L.m rfl (L.m rfl (L.o (O.add64 rfl rfl (by (try dsimp only);omega) (L.m rfl (L.o (O.add64 rfl rfl (by (try dsimp only);omega) (L.o (O.buildSlice (el:=3) (parts:=[(0,.tmp 132),(1,.tmp 134),(2,.tmp 136)]) (vs:=[(0,_),(1,_),(2,_)]) (cs:=[.int .i64 (A),.int .i64 (A+1),.int .i64 (A+(Wn:Int)+1+1)]) rfl (fun w=>by kernel_rfl) (fun b11 w11 hb11 hz11 he11 hB11=>?_)))))))))))))))))
       refine L.o (O.build (v:=.agg #[.slice (some ⟨b11,0,none⟩) 3 3,.slice none 0 0]) (parts:=[(0,.tmp 137)]) (vs:=[(0,_)]) rfl (fun w=>by kernel_rfl) (L.m rfl (L.m rfl (L.o (O.add64 rfl rfl (by (try dsimp only);omega) (L.m rfl (L.o (O.buildSlice (el:=3) (parts:=[(0,.tmp 139),(1,.tmp 141),(2,.tmp 142)]) (vs:=[(0,_),(1,_),(2,_)]) (cs:=[.int .i64 (A),.int .i64 (A+(Wn:Int)+1+1),.int .i64 (A+(Wn:Int)+1)]) rfl (fun w=>by kernel_rfl) (fun b12 w12 hb12 hz12 he12 hB12=>?_)))))))))
       refine L.o (O.build (v:=.agg #[.slice (some ⟨b12,0,none⟩) 3 3,.slice none 0 0]) (parts:=[(0,.tmp 143)]) (vs:=[(0,_)]) rfl (fun w=>by kernel_rfl) (L.o (O.buildSlice (el:=127) (parts:=[(0,.tmp 138),(1,.tmp 144)]) (vs:=[(0,_),(1,_)]) (cs:=[.slice (some ⟨b11,0,none⟩) 3 3,.slice none 0 0,.slice (some ⟨b12,0,none⟩) 3 3,.slice none 0 0]) rfl (fun w=>by kernel_rfl) (fun b13 w13 hb13 hz13 he13 hB13=>?_))))
       have heL:=((he11).trans he12).trans he13
       have hnew:∀ f∈([⟨⟨.slice (some ⟨b11,0,none⟩) 3 3,[A,A+1,A+(Wn:Int)+1+1]⟩,.slice none 0 0,[]⟩,⟨⟨.slice (some ⟨b12,0,none⟩) 3 3,[A,A+(Wn:Int)+1+1,A+(Wn:Int)+1]⟩,.slice none 0 0,[]⟩]:List FaV),FaB w6.heap.size f w13:=fun f hf=>by
        simp only [List.mem_cons,List.mem_nil_iff,or_false] at hf
        rcases hf with rfl|rfl
        ·exact fab_of (Blk.ext (cs:=[.int .i64 (A),.int .i64 (A+1),.int .i64 (A+(Wn:Int)+1+1)]) hB11 (he12.trans he13)) rfl rfl (by decide) (by omega)
        ·exact fab_of (Blk.ext (cs:=[.int .i64 (A),.int .i64 (A+(Wn:Int)+1+1),.int .i64 (A+(Wn:Int)+1)]) hB12 he13) rfl rfl (by decide) (by have:=he11.size;omega)
       have hOL:=owns_keep hO9 heL (Nat.zero_le _)
       refine L.o (O.append (size:=2) (bytes:=48) runUnderlying44 Tryz.infoOf127 rfl rfl rfl rfl (by decide) rfl rfl hOL (Sl.of_blk (lo:=0) (n:=2) (sz:=2) hB13 rfl (Nat.le_refl _) (by decide) (Nat.zero_le _)) (by intro c hc;simp at hc;rcases hc with (rfl|rfl|rfl|rfl) <;> rfl) (by omega) (by simp only [maxLen];omega) (by have:=heL.size;omega) (fun v30 w30 hO30 hG30=>?_))
       have hne:∀ b',b'<w6.heap.size→∀ j,fv2.ownBlock=some j→j≠b':=fun b' hb' j hj=>by have:=(own_at hOL hj).1;omega
       have hneP:∀ j,fv2.ownBlock=some j→pv.ownBlock=some j→False:=fun j h1 h2=>by rcases own_ne hO9 hP9 (by decide) with h|h;rw [h] at h1;cases h1;exact h (h1.trans h2.symm)
       have hv30:v30.oneCell'=true:=Sl.one (Sl.of_owns hO30)
       have hF30:=hF9.app heL hG30 hO30 (ns:=([⟨⟨.slice (some ⟨b11,0,none⟩) 3 3,[A,A+1,A+(Wn:Int)+1+1]⟩,.slice none 0 0,[]⟩,⟨⟨.slice (some ⟨b12,0,none⟩) 3 3,[A,A+(Wn:Int)+1+1,A+(Wn:Int)+1]⟩,.slice none 0 0,[]⟩]:List FaV)) hnew rfl rfl
       refine L.o (O.fieldAddr runUnderlying46 rfl sizeOf44 rfl (L.o (O.store1 sizeOf44 hv30 rfl rfl ((hC9.ext heL).grown hG30 (hne b5 hb5')) (by simp [Value.cells]) (fun w31 hu31 hB31=>?_))))
       replace hu31:Upd b5 w30 w31:=hu31
       have hE30:Ext w w30:=(he9.trans heL).grown0 hOL hG30 (by omega)
       have hP30:World.ownsRow w30 _ _ _ pv _ _:=(owns_keep hP9 heL (Nat.zero_le _)).kept hG30 (by rcases hq:pv.ownBlock with _|j;exact .inl rfl;exact .inr fun h=>hneP j (by rw [← h]) hq)
       refine L.nil (T.blk (T.blk (T.meet ((v30,fs2++([⟨⟨.slice (some ⟨b11,0,none⟩) 3 3,[A,A+1,A+(Wn:Int)+1+1]⟩,.slice none 0 0,[]⟩,⟨⟨.slice (some ⟨b12,0,none⟩) 3 3,[A,A+(Wn:Int)+1+1,A+(Wn:Int)+1]⟩,.slice none 0 0,[]⟩]:List FaV))) ⟨rfl,rfl,rfl,rfl,rfl,rfl,rfl,trivial⟩ ⟨hE30.upd hu31 (.inr (by omega)),by have:=heL.size;have:=hG30.size;have:=hu31.size;omega,((hD9.ext heL).grown hG30 (hne b1 (by omega))).upd hu31 (by omega),((hR9.ext heL).grown hG30 (hne b2 (by omega))).upd hu31 (by omega),hB31,hF30.upd hu31 hb5',owns_upd hP30 hu31 hb5',?_⟩)))
       ·show Match _ (cellG d.cs Wn k i (rowG d.cs Wn k (allG d.cs Wn k) i)) Wn
        rw [cell_0 c0];exact match_app hM9 rfl (fun j hj=>by rcases (show j=0∨j=1 by simp at hj;omega) with rfl|rfl;exact ⟨hrg.1.symm,rfl⟩;exact ⟨hrg.2.1.symm,rfl⟩)
      ·refine L.a rfl (L.nil (T.cf (T.q (L.o (O.eql_s rfl rfl (fun c1=>?_) (fun c1=>?_))))))
       ·refine L.a rfl (L.nil (T.ct (T.seq (T.q (L.o (O.fieldAddr runUnderlying46 rfl sizeOf44 rfl (L.o (O.load isAgg44 rfl (hC9.cell rfl) (L.o (O.len runUnderlying44 rfl (Sl.val (Sl.of_owns hO9)) (L.o (O.gtr_s rfl rfl (fun c2=>?_) (fun c2=>?_)))))))))))))
        ·refine L.nil (?_)
         have hgne:rowG d.cs Wn k (allG d.cs Wn k) i ≠ []:=fun h=>by rw [h] at hfl;simp at hfl;rw [hfl] at c2;simp at c2
         refine T.ct (T.exit rfl (T.meet ((fv2,fs2)) ⟨rfl,rfl,rfl,rfl,rfl,rfl,rfl,trivial⟩ ⟨he9,hz9,hD9,hR9,hC9,hF9,hP9,?_⟩))
         ·show Match _ (cellG d.cs Wn k i (rowG d.cs Wn k (allG d.cs Wn k) i)) Wn
          rw [cell_1 c0 c1 hgne];exact hM9
        ·refine L.nil (?_)
         have hgn:rowG d.cs Wn k (allG d.cs Wn k) i = []:=List.eq_nil_of_length_eq_zero (by omega)
         refine T.cf (T.skip (T.region (L.o (O.fieldAddr runUnderlying46 rfl sizeOf44 rfl (L.o (O.load isAgg44 rfl (hC9.cell rfl) (L.m rfl (L.o (O.add64 rfl rfl (by (try dsimp only);omega) (L.m rfl (L.m rfl (L.m rfl (L.o (O.add64 rfl rfl (by (try dsimp only);omega) (L.o (O.buildSlice (el:=3) (parts:=[(0,.tmp 157),(1,.tmp 158),(2,.tmp 159),(3,.tmp 161)]) (vs:=[(0,_),(1,_),(2,_),(3,_)]) (cs:=[.int .i64 (A+(Wn:Int)+1+1),.int .i64 (A+(Wn:Int)+1),.int .i64 (A),.int .i64 (A+1)]) rfl (fun w=>by kernel_rfl) (fun b11 w11 hb11 hz11 he11 hB11=>?_)))))))))))))))))
         refine L.o (O.build (v:=.agg #[.slice (some ⟨b11,0,none⟩) 4 4,.slice none 0 0]) (parts:=[(0,.tmp 162)]) (vs:=[(0,_)]) rfl (fun w=>by kernel_rfl) (L.o (O.buildSlice (el:=127) (parts:=[(0,.tmp 163)]) (vs:=[(0,_)]) (cs:=[.slice (some ⟨b11,0,none⟩) 4 4,.slice none 0 0]) rfl (fun w=>by kernel_rfl) (fun b12 w12 hb12 hz12 he12 hB12=>?_))))
         have heL:=(he11).trans he12
         have hnew:∀ f∈([⟨⟨.slice (some ⟨b11,0,none⟩) 4 4,[A+(Wn:Int)+1+1,A+(Wn:Int)+1,A,A+1]⟩,.slice none 0 0,[]⟩]:List FaV),FaB w6.heap.size f w12:=fun f hf=>by
          simp only [List.mem_cons,List.mem_nil_iff,or_false] at hf
          subst hf
          exact fab_of (Blk.ext (cs:=[.int .i64 (A+(Wn:Int)+1+1),.int .i64 (A+(Wn:Int)+1),.int .i64 (A),.int .i64 (A+1)]) hB11 he12) rfl rfl (by decide) (by omega)
         have hOL:=owns_keep hO9 heL (Nat.zero_le _)
         refine L.o (O.append (size:=2) (bytes:=48) runUnderlying44 Tryz.infoOf127 rfl rfl rfl rfl (by decide) rfl rfl hOL (Sl.of_blk (lo:=0) (n:=1) (sz:=2) hB12 rfl (Nat.le_refl _) (by decide) (Nat.zero_le _)) (by intro c hc;simp at hc;rcases hc with (rfl|rfl) <;> rfl) (by omega) (by simp only [maxLen];omega) (by have:=heL.size;omega) (fun v30 w30 hO30 hG30=>?_))
         have hne:∀ b',b'<w6.heap.size→∀ j,fv2.ownBlock=some j→j≠b':=fun b' hb' j hj=>by have:=(own_at hOL hj).1;omega
         have hneP:∀ j,fv2.ownBlock=some j→pv.ownBlock=some j→False:=fun j h1 h2=>by rcases own_ne hO9 hP9 (by decide) with h|h;rw [h] at h1;cases h1;exact h (h1.trans h2.symm)
         have hv30:v30.oneCell'=true:=Sl.one (Sl.of_owns hO30)
         have hF30:=hF9.app heL hG30 hO30 (ns:=([⟨⟨.slice (some ⟨b11,0,none⟩) 4 4,[A+(Wn:Int)+1+1,A+(Wn:Int)+1,A,A+1]⟩,.slice none 0 0,[]⟩]:List FaV)) hnew rfl rfl
         refine L.o (O.fieldAddr runUnderlying46 rfl sizeOf44 rfl (L.o (O.store1 sizeOf44 hv30 rfl rfl ((hC9.ext heL).grown hG30 (hne b5 hb5')) (by simp [Value.cells]) (fun w31 hu31 hB31=>?_))))
         replace hu31:Upd b5 w30 w31:=hu31
         have hE30:Ext w w30:=(he9.trans heL).grown0 hOL hG30 (by omega)
         have hP30:World.ownsRow w30 _ _ _ pv _ _:=(owns_keep hP9 heL (Nat.zero_le _)).kept hG30 (by rcases hq:pv.ownBlock with _|j;exact .inl rfl;exact .inr fun h=>hneP j (by rw [← h]) hq)
         refine L.nil (T.blk (T.blk (T.meet ((v30,fs2++([⟨⟨.slice (some ⟨b11,0,none⟩) 4 4,[A+(Wn:Int)+1+1,A+(Wn:Int)+1,A,A+1]⟩,.slice none 0 0,[]⟩]:List FaV))) ⟨rfl,rfl,rfl,rfl,rfl,rfl,rfl,trivial⟩ ⟨hE30.upd hu31 (.inr (by omega)),by have:=heL.size;have:=hG30.size;have:=hu31.size;omega,((hD9.ext heL).grown hG30 (hne b1 (by omega))).upd hu31 (by omega),((hR9.ext heL).grown hG30 (hne b2 (by omega))).upd hu31 (by omega),hB31,hF30.upd hu31 hb5',owns_upd hP30 hu31 hb5',?_⟩)))
         ·show Match _ (cellG d.cs Wn k i (rowG d.cs Wn k (allG d.cs Wn k) i)) Wn
          rw [hgn] at hM9 ⊢;rw [cell_1n c0 c1];exact match_app hM9 rfl (fun j hj=>by have e:j=0:=Nat.lt_one_iff.1 hj;subst e;exact ⟨hrg.2.2.2.symm,rfl⟩)
       ·refine L.a rfl (L.nil (T.cf (T.region (L.o (O.fieldAddr runUnderlying46 rfl sizeOf44 rfl (L.o (O.load isAgg44 rfl (hC9.cell rfl) (L.m rfl (L.m rfl (L.o (O.add64 rfl rfl (by (try dsimp only);omega) (L.m rfl (L.o (O.add64 rfl rfl (by (try dsimp only);omega) (L.m rfl (L.o (O.buildSlice (el:=3) (parts:=[(0,.tmp 117),(1,.tmp 119),(2,.tmp 121),(3,.tmp 122)]) (vs:=[(0,_),(1,_),(2,_),(3,_)]) (cs:=[.int .i64 (A),.int .i64 (A+1),.int .i64 (A+(Wn:Int)+1+1),.int .i64 (A+(Wn:Int)+1)]) rfl (fun w=>by kernel_rfl) (fun b11 w11 hb11 hz11 he11 hB11=>?_))))))))))))))))))
        refine L.o (O.build (v:=.agg #[.slice (some ⟨b11,0,none⟩) 4 4,.slice none 0 0]) (parts:=[(0,.tmp 123)]) (vs:=[(0,_)]) rfl (fun w=>by kernel_rfl) (L.o (O.buildSlice (el:=127) (parts:=[(0,.tmp 124)]) (vs:=[(0,_)]) (cs:=[.slice (some ⟨b11,0,none⟩) 4 4,.slice none 0 0]) rfl (fun w=>by kernel_rfl) (fun b12 w12 hb12 hz12 he12 hB12=>?_))))
        have heL:=(he11).trans he12
        have hnew:∀ f∈([⟨⟨.slice (some ⟨b11,0,none⟩) 4 4,[A,A+1,A+(Wn:Int)+1+1,A+(Wn:Int)+1]⟩,.slice none 0 0,[]⟩]:List FaV),FaB w6.heap.size f w12:=fun f hf=>by
         simp only [List.mem_cons,List.mem_nil_iff,or_false] at hf
         subst hf
         exact fab_of (Blk.ext (cs:=[.int .i64 (A),.int .i64 (A+1),.int .i64 (A+(Wn:Int)+1+1),.int .i64 (A+(Wn:Int)+1)]) hB11 he12) rfl rfl (by decide) (by omega)
        have hOL:=owns_keep hO9 heL (Nat.zero_le _)
        refine L.o (O.append (size:=2) (bytes:=48) runUnderlying44 Tryz.infoOf127 rfl rfl rfl rfl (by decide) rfl rfl hOL (Sl.of_blk (lo:=0) (n:=1) (sz:=2) hB12 rfl (Nat.le_refl _) (by decide) (Nat.zero_le _)) (by intro c hc;simp at hc;rcases hc with (rfl|rfl) <;> rfl) (by omega) (by simp only [maxLen];omega) (by have:=heL.size;omega) (fun v30 w30 hO30 hG30=>?_))
        have hne:∀ b',b'<w6.heap.size→∀ j,fv2.ownBlock=some j→j≠b':=fun b' hb' j hj=>by have:=(own_at hOL hj).1;omega
        have hneP:∀ j,fv2.ownBlock=some j→pv.ownBlock=some j→False:=fun j h1 h2=>by rcases own_ne hO9 hP9 (by decide) with h|h;rw [h] at h1;cases h1;exact h (h1.trans h2.symm)
        have hv30:v30.oneCell'=true:=Sl.one (Sl.of_owns hO30)
        have hF30:=hF9.app heL hG30 hO30 (ns:=([⟨⟨.slice (some ⟨b11,0,none⟩) 4 4,[A,A+1,A+(Wn:Int)+1+1,A+(Wn:Int)+1]⟩,.slice none 0 0,[]⟩]:List FaV)) hnew rfl rfl
        refine L.o (O.fieldAddr runUnderlying46 rfl sizeOf44 rfl (L.o (O.store1 sizeOf44 hv30 rfl rfl ((hC9.ext heL).grown hG30 (hne b5 hb5')) (by simp [Value.cells]) (fun w31 hu31 hB31=>?_))))
        replace hu31:Upd b5 w30 w31:=hu31
        have hE30:Ext w w30:=(he9.trans heL).grown0 hOL hG30 (by omega)
        have hP30:World.ownsRow w30 _ _ _ pv _ _:=(owns_keep hP9 heL (Nat.zero_le _)).kept hG30 (by rcases hq:pv.ownBlock with _|j;exact .inl rfl;exact .inr fun h=>hneP j (by rw [← h]) hq)
        refine L.nil (T.blk (T.blk (T.meet ((v30,fs2++([⟨⟨.slice (some ⟨b11,0,none⟩) 4 4,[A,A+1,A+(Wn:Int)+1+1,A+(Wn:Int)+1]⟩,.slice none 0 0,[]⟩]:List FaV))) ⟨rfl,rfl,rfl,rfl,rfl,rfl,rfl,trivial⟩ ⟨hE30.upd hu31 (.inr (by omega)),by have:=heL.size;have:=hG30.size;have:=hu31.size;omega,((hD9.ext heL).grown hG30 (hne b1 (by omega))).upd hu31 (by omega),((hR9.ext heL).grown hG30 (hne b2 (by omega))).upd hu31 (by omega),hB31,hF30.upd hu31 hb5',owns_upd hP30 hu31 hb5',?_⟩)))
        ·show Match _ (cellG d.cs Wn k i (rowG d.cs Wn k (allG d.cs Wn k) i)) Wn
         rw [cell_2 c0 c1];exact match_app hM9 rfl (fun j hj=>by have e:j=0:=Nat.lt_one_iff.1 hj;subst e;exact ⟨hrg.2.2.1.symm,rfl⟩)
     rintro ⟨fv3,fs3⟩ w40 ⟨he40,hz40,hD40,hR40,hC40,hF40,hP40,hM40⟩
     refine T.region (L.m rfl (L.o (O.add64 rfl rfl (by (try dsimp only);omega) (L.a rfl (L.nil (T.again ((i+1,fv3,fs3)) (by omega) ⟨rfl,rfl,rfl,rfl,rfl,rfl,rfl,trivial⟩ ⟨by omega,he40,hz40,hD40,hR40,hC40,hF40,hP40,hM40⟩))))))
    ·refine L.nil (?_)
     obtain rfl:i=Wn:=by omega
     refine T.cf (T.exit rfl (T.blk (T.region (L.m rfl (L.o (O.add64 rfl rfl (by omega) (L.a rfl (L.nil (T.again ((k+1,fv2,fs2)) (by omega) ⟨rfl,rfl,rfl,rfl,rfl,rfl,trivial⟩ ⟨by omega,he9,hz9,hD9,hR9,hC9,hF9,hP9,hM9⟩)))))))))
   ·refine L.nil (?_)
    obtain rfl:k=Hn:=by omega
    refine T.cf (T.exit rfl (T.q (L.o (O.loadAgg isAgg46 sizeOf46 rfl rfl hC8.row (?_)))))
    have hfv1:fv.oneCell'=true:=Sl.one (Sl.of_owns hF8.1)
    refine L.o (O.storeAgg sizeOf46 rfl rfl rfl hR8 (Nat.le_refl _) (by intro u hu;simp at hu;rcases hu with (rfl|rfl);exact hpv1;exact hfv1) (fun w16 hu16 hB16=>?_))
    replace hu16:Upd b2 w8 w16:=hu16
    have hR16:Blk w16 b2 [pv,fv] 46:=hB16
    refine L.nil (T.retA results69 isAgg46 sizeOf46 rfl rfl hR16.row ?_)
    exact CxQ.of (c:=⟨pv,ptsR d.ss Wn (k+1),fv,fs⟩) (he8.upd hu16 (.inr (by omega))) (by omega) (owns_upd hP8 hu16 (by omega)) (hF8.upd hu16 (by omega)) ⟨by rw [← hWn,← hHn],.inr ⟨hho,by rw [← hWn,← hHn];exact hM8⟩⟩ (by rw [← hWn];exact ⟨hW1,hW2⟩) (by rw [← hHn];exact ⟨hH1,hH2⟩)
  ·refine L.nil (T.ct (T.q (L.o (O.fieldAddr runUnderlying46 rfl sizeOf44 rfl (L.o (O.load isAgg44 rfl (hC7.cell rfl) (L.o (O.buildSlice (el:=3) (parts:=[(0,.const (.int .i64 0)),(1,.const (.int .i64 1)),(2,.const (.int .i64 2)),(3,.const (.int .i64 3)),(4,.const (.int .i64 7)),(5,.const (.int .i64 11)),(6,.const (.int .i64 15)),(7,.const (.int .i64 14)),(8,.const (.int .i64 13)),(9,.const (.int .i64 12)),(10,.const (.int .i64 8)),(11,.const (.int .i64 4))]) (vs:=[(0,_),(1,_),(2,_),(3,_),(4,_),(5,_),(6,_),(7,_),(8,_),(9,_),(10,_),(11,_)]) (cs:=[.int .i64 0,.int .i64 1,.int .i64 2,.int .i64 3,.int .i64 7,.int .i64 11,.int .i64 15,.int .i64 14,.int .i64 13,.int .i64 12,.int .i64 8,.int .i64 4]) rfl (fun w=>by kernel_rfl) (fun b8 w8 hb8 hz8 he8 hB8=>?_)))))))))
   refine L.o (O.buildSlice (el:=3) (parts:=[(0,.const (.int .i64 5)),(1,.const (.int .i64 9)),(2,.const (.int .i64 10)),(3,.const (.int .i64 6))]) (vs:=[(0,_),(1,_),(2,_),(3,_)]) (cs:=[.int .i64 5,.int .i64 9,.int .i64 10,.int .i64 6]) rfl (fun w=>by kernel_rfl) (fun b9 w9 hb9 hz9 he9 hB9=>?_))
   refine L.o (O.buildSlice (el:=30) (parts:=[(0,.tmp 67)]) (vs:=[(0,_)]) (cs:=[.slice (some ⟨b9,0,none⟩) 4 4]) rfl (fun w=>by kernel_rfl) (fun b10 w10 hb10 hz10 he10 hB10=>?_))
   refine L.o (O.build (v:=.agg #[.slice (some ⟨b8,0,none⟩) 12 12,.slice (some ⟨b10,0,none⟩) 1 1]) (parts:=[(0,.tmp 66),(1,.tmp 68)]) (vs:=[(0,_),(1,_)]) rfl (fun w=>by kernel_rfl) (L.o (O.buildSlice (el:=127) (parts:=[(0,.tmp 69)]) (vs:=[(0,_)]) (cs:=[.slice (some ⟨b8,0,none⟩) 12 12,.slice (some ⟨b10,0,none⟩) 1 1]) rfl (fun w=>by kernel_rfl) (fun b11 w11 hb11 hz11 he11 hB11=>?_))))
   have he711:=((he8.trans he9).trans he10).trans he11
   have hz711:=he711.size
   have hz8:=he8.size
   have hz9:=he9.size
   have hz10:=he10.size
   refine L.o (O.append (size:=2) (bytes:=48) runUnderlying44 Tryz.infoOf127 rfl rfl rfl rfl (by decide) rfl rfl (owns_nil w11 w6.heap.size 127 2) (Sl.of_blk (lo:=0) (n:=1) (sz:=2) hB11 rfl (Nat.le_refl _) (by decide) (Nat.zero_le _)) (by intro c hc;simp at hc;rcases hc with (rfl|rfl) <;> rfl) (by omega) (by simp only [maxLen];omega) (by omega) (fun v12 w12 hO12 hG12=>?_))
   have hE12:Ext w11 w12:=Keep.grown (Keep.refl _ _) hG12 (fun j hj=>by cases hj)
   have hv12:v12.oneCell'=true:=Sl.one (Sl.of_owns hO12)
   have he712:=he711.trans hE12
   have hnew:∀ f ∈ [(⟨⟨.slice (some ⟨b8,0,none⟩) 12 12,Geo.outL⟩,.slice (some ⟨b10,0,none⟩) 1 1,[⟨.slice (some ⟨b9,0,none⟩) 4 4,Geo.holL⟩]⟩:FaV)],FaB w6.heap.size f w11:=fun f hf=>by
    simp only [List.mem_cons,List.mem_nil_iff,or_false] at hf
    subst hf
    refine ⟨⟨b8,rfl,by omega,(by show (12:Nat)≤1000;decide),Blk.ext (cs:=[.int .i64 0,.int .i64 1,.int .i64 2,.int .i64 3,.int .i64 7,.int .i64 11,.int .i64 15,.int .i64 14,.int .i64 13,.int .i64 12,.int .i64 8,.int .i64 4]) hB8 ((he9.trans he10).trans he11)⟩,.inr ⟨b10,⟨.slice (some ⟨b9,0,none⟩) 4 4,Geo.holL⟩,rfl,rfl,by omega,Blk.ext (cs:=[.slice (some ⟨b9,0,none⟩) 4 4]) hB10 he11,⟨b9,rfl,by omega,(by show (4:Nat)≤1000;decide),Blk.ext (cs:=[.int .i64 5,.int .i64 9,.int .i64 10,.int .i64 6]) hB9 (he10.trans he11)⟩⟩⟩
   have hF12:FsB w6.heap.size v12 [(⟨⟨.slice (some ⟨b8,0,none⟩) 12 12,Geo.outL⟩,.slice (some ⟨b10,0,none⟩) 1 1,[⟨.slice (some ⟨b9,0,none⟩) 4 4,Geo.holL⟩]⟩:FaV)] w12:=(FsB.nil w6.heap.size w11).app (Keep.refl _ _) hG12 hO12 (ns:=[(⟨⟨.slice (some ⟨b8,0,none⟩) 12 12,Geo.outL⟩,.slice (some ⟨b10,0,none⟩) 1 1,[⟨.slice (some ⟨b9,0,none⟩) 4 4,Geo.holL⟩]⟩:FaV)]) hnew rfl rfl
   refine L.o (O.fieldAddr runUnderlying46 rfl sizeOf44 rfl (L.o (O.store1 sizeOf44 hv12 rfl rfl (hC7.ext he712) (by simp [Value.cells]) (fun w13 hu13 hB13=>?_))))
   replace hu13:Upd b5 w12 w13:=hu13
   have hE13:Ext w w13:=(he7.trans he712).upd hu13 (.inr (by omega))
   have hD13:=(hD7.ext he712).upd hu13 (by omega)
   have hR13:=(hR7.ext he712).upd hu13 (by omega)
   have hF13:=hF12.upd hu13 hb5'
   have hC13:Blk w13 b5 [pv,v12] 46:=hB13
   have hP13:=owns_upd (owns_keep hP7 he712 (Nat.zero_le _)) hu13 hb5'
   have hnb:=num8_le hd.cl 0
   have hz13:w6.heap.size≤w13.heap.size:=by have:=hu13.size;have:=hE12.size;omega
   refine L.nil (T.seq (?_))
   refine T.join (σ:=Value × List FaV) (fun s=>[(2,.pointer (some ⟨b2,0,none⟩)),(5,.pointer (some ⟨b5,0,none⟩))]) (fun s w'=>Ext w w'∧w6.heap.size≤w'.heap.size∧Blk w' b2 [.slice none 0 0,.slice none 0 0] 46∧Blk w' b5 [pv,s.1] 46∧FsB w6.heap.size s.1 s.2 w'∧w'.ownsRow w6.heap.size 124 2 pv (ptsR d.ss Wn (Hn+1)).length (pcs (ptsR d.ss Wn (Hn+1)))∧HoleFs s.2) ?_ ?_
   ·refine T.q (L.o (O.fieldAddr runUnderlying56 rfl sizeOf54 rfl (L.o (O.load isAgg54 rfl (hD13.cell rfl) (L.o (O.call (xs:=[.tmp 74,.const (.int .i64 0)]) call125 rfl rfl (num8_calls lo d.cv d.cs 0 w13 (hd.ext hE13).c hd.cl (by omega)) (fun v14 w14 hq=>?_)))))))
    obtain ⟨rfl,rfl⟩:=hq
    refine L.o (O.rem rfl rfl (by omega) (by omega) (L.o (O.eql_s rfl rfl (fun h2=>?_) (fun h2=>?_))))
    ·refine L.nil (T.ct (T.region (L.o (O.fieldAddr runUnderlying46 rfl sizeOf44 rfl (L.o (O.load isAgg44 rfl (hC13.cell rfl) (L.o (O.buildSlice (el:=3) (parts:=[(0,.const (.int .i64 5)),(1,.const (.int .i64 6)),(2,.const (.int .i64 10)),(3,.const (.int .i64 9))]) (vs:=[(0,_),(1,_),(2,_),(3,_)]) (cs:=[.int .i64 5,.int .i64 6,.int .i64 10,.int .i64 9]) rfl (fun w=>by kernel_rfl) (fun b15 w15 hb15 hz15 he15 hB15=>?_)))))))))
     refine L.o (O.build (v:=.agg #[.slice (some ⟨b15,0,none⟩) 4 4,.slice none 0 0]) (parts:=[(0,.tmp 80)]) (vs:=[(0,_)]) rfl (fun w=>by kernel_rfl) (L.o (O.buildSlice (el:=127) (parts:=[(0,.tmp 81)]) (vs:=[(0,_)]) (cs:=[.slice (some ⟨b15,0,none⟩) 4 4,.slice none 0 0]) rfl (fun w=>by kernel_rfl) (fun b16 w16 hb16 hz16 he16 hB16=>?_))))
     have he1316:=he15.trans he16
     have hO16:=owns_keep hF13.1 he1316 (Nat.zero_le _)
     refine L.o (O.append (size:=2) (bytes:=48) runUnderlying44 Tryz.infoOf127 rfl rfl rfl rfl (by decide) rfl rfl hO16 (Sl.of_blk (lo:=0) (n:=1) (sz:=2) hB16 rfl (Nat.le_refl _) (by decide) (Nat.zero_le _)) (by intro c hc;simp at hc;rcases hc with (rfl|rfl) <;> rfl) (by simp only [List.length_cons,List.length_nil];omega) (by simp only [List.length_cons,List.length_nil,maxLen];omega) (by have:=he1316.size;omega) (fun v17 w17 hO17 hG17=>?_))
     have hv17:v17.oneCell'=true:=Sl.one (Sl.of_owns hO17)
     have hne:∀ b',b'<w6.heap.size→∀ j,v12.ownBlock=some j→j≠b':=fun b' hb' j hj=>by have:=(own_at hO16 hj).1;omega
     have hneP:∀ j,v12.ownBlock=some j→pv.ownBlock=some j→False:=fun j h1 h2=>by rcases own_ne hF13.1 hP13 (by decide) with h|h;rw [h] at h1;cases h1;exact h (h1.trans h2.symm)
     have hnew2:∀ f ∈ [(⟨⟨.slice (some ⟨b15,0,none⟩) 4 4,Geo.filL⟩,.slice none 0 0,[]⟩:FaV)],FaB w6.heap.size f w16:=fun f hf=>by
      simp only [List.mem_cons,List.mem_nil_iff,or_false] at hf
      subst hf
      exact fab_of (Blk.ext (cs:=[.int .i64 5,.int .i64 6,.int .i64 10,.int .i64 9]) hB15 he16) rfl rfl (by decide) (by omega)
     have hF17:=hF13.app he1316 hG17 hO17 (ns:=[(⟨⟨.slice (some ⟨b15,0,none⟩) 4 4,Geo.filL⟩,.slice none 0 0,[]⟩:FaV)]) hnew2 rfl rfl
     refine L.o (O.fieldAddr runUnderlying46 rfl sizeOf44 rfl (L.o (O.store1 sizeOf44 hv17 rfl rfl ((hC13.ext he1316).grown hG17 (hne b5 hb5')) (by simp [Value.cells]) (fun w18 hu18 hB18=>?_))))
     replace hu18:Upd b5 w17 w18:=hu18
     have hE17:Ext w w17:=(hE13.trans he1316).grown0 hO16 hG17 (by omega)
     have hP17:World.ownsRow w17 _ _ _ pv _ _:=(owns_keep hP13 he1316 (Nat.zero_le _)).kept hG17 (by rcases hq:pv.ownBlock with _|j;exact .inl rfl;exact .inr fun h=>hneP j (by rw [← h]) hq)
     refine L.nil (T.meet ((v17,[(⟨⟨.slice (some ⟨b8,0,none⟩) 12 12,Geo.outL⟩,.slice (some ⟨b10,0,none⟩) 1 1,[⟨.slice (some ⟨b9,0,none⟩) 4 4,Geo.holL⟩]⟩:FaV)] ++ [(⟨⟨.slice (some ⟨b15,0,none⟩) 4 4,Geo.filL⟩,.slice none 0 0,[]⟩:FaV)])) ⟨rfl,rfl,trivial⟩ ⟨hE17.upd hu18 (.inr (by omega)),by have:=he1316.size;have:=hG17.size;have:=hu18.size;omega,((hR13.ext he1316).grown hG17 (hne b2 (by omega))).upd hu18 (by omega),hB18,hF17.upd hu18 hb5',owns_upd hP17 hu18 hb5',_,_,_,.inr ⟨_,_,rfl⟩⟩)
    ·refine L.nil (T.cf (T.skip (T.meet ((v12,[(⟨⟨.slice (some ⟨b8,0,none⟩) 12 12,Geo.outL⟩,.slice (some ⟨b10,0,none⟩) 1 1,[⟨.slice (some ⟨b9,0,none⟩) 4 4,Geo.holL⟩]⟩:FaV)])) ⟨rfl,rfl,trivial⟩ ⟨hE13,hz13,hR13,hC13,hF13,hP13,_,_,_,.inl rfl⟩)))
   rintro ⟨fv,fs⟩ w15 ⟨hE15,hz15,hR15,hC15,hF15,hP15,hH15⟩
   refine T.q (L.o (O.loadAgg isAgg46 sizeOf46 rfl rfl hC15.row (?_)))
   have hfv1:fv.oneCell'=true:=Sl.one (Sl.of_owns hF15.1)
   refine L.o (O.storeAgg sizeOf46 rfl rfl rfl hR15 (Nat.le_refl _) (by intro u hu;simp at hu;rcases hu with (rfl|rfl);exact hpv1;exact hfv1) (fun w16 hu16 hB16=>?_))
   replace hu16:Upd b2 w15 w16:=hu16
   have hR16:Blk w16 b2 [pv,fv] 46:=hB16
   refine L.nil (T.retA results69 isAgg46 sizeOf46 rfl rfl hR16.row ?_)
   exact CxQ.of (c:=⟨pv,ptsR d.ss Wn (Hn+1),fv,fs⟩) (hE15.upd hu16 (.inr (by omega))) (by omega) (owns_upd hP15 hu16 (by omega)) (hF15.upd hu16 (by omega)) ⟨by rw [← hWn,← hHn],.inl ⟨hho,by simp only [dW,hho];rfl,by simp only [dH,hho];rfl,hH15⟩⟩ (by rw [← hWn];exact ⟨hW1,hW2⟩) (by rw [← hHn];exact ⟨hH1,hH2⟩)

open Go Go.E

theorem ints_eq_of {xs ys:List Int} (hl:xs.length=ys.length) (h:∀ k,k<xs.length→xs.getD k 0=ys.getD k 0):xs=ys:=by
 refine List.ext_getElem hl fun k h1 h2=>?_
 have:=h k h1
 rw [getD_get h1,getD_get h2] at this
 exact this
theorem alike_calls (lo lo2:Nat) (p q:Value) (xs ys:List Int) (w:World) (hp:Ints .i64 lo w p xs) (hq:Ints .i64 lo2 w q ys) :
  Calls Tryz.prog 87 #[p,q] w (Ret fun v w'=>v = .bool (decide (xs=ys))∧Ext w w'):=by
 have hle:=Sl.le hp
 refine T.enter (vs:=[p,q]) func87 rfl ntmps87 rfl ?_
 refine T.q (L.a rfl (L.nil (T.seq (T.q (L.m rfl (L.o (O.len runUnderlying30 rfl (Sl.val hp) (L.m rfl (L.o (O.len runUnderlying30 rfl (Sl.val hq) (L.o (O.neq_s rfl rfl (fun hl=>?_) (fun hl=>?_)))))))))))))
 ·refine L.nil (T.ct (T.q (L.a rfl (L.nil (T.ret1 results87 rfl ⟨by rw [decide_eq_false (fun h=>hl (by rw [h]))],Keep.refl _ _⟩)))))
 ·refine L.nil (?_)
  have hle2:xs.length=ys.length:=by omega
  refine T.cf (T.skip (T.seq (T.q (L.a rfl (L.nil (T.block (?_)))))))
  refine T.loop (σ:=Nat) (fun i=>[(0,p),(1,q),(5,.int .i64 i)]) (fun i w'=>i≤xs.length∧Ext w w'∧∀ k,k<i→xs.getD k 0=ys.getD k 0) (fun i=>xs.length-i) (0) ⟨rfl,rfl,rfl,trivial⟩ ⟨Nat.zero_le _,Keep.refl _ _,fun k hk=>absurd hk (Nat.not_lt_zero _)⟩ ?_
  rintro i w1 ⟨hi,he1,hall⟩
  have hp1:=hp.ext he1
  have hq1:=hq.ext he1
  refine T.seq (T.q (L.m rfl (L.m rfl (L.o (O.len runUnderlying30 rfl (Sl.val hp1) (L.o (O.lss_s rfl rfl (fun hlt=>?_) (fun hlt=>?_))))))))
  ·refine L.nil (?_)
   have hlt':i<xs.length:=by omega
   refine T.ct (T.skip (T.seq (T.block (T.seq (?_)))))
   refine T.anyE mixed 8 [0,5,1] rfl [.is _,.is _,.is _,.is _,.is _,.is _,.is _,.is _] [[],[],[0,1],[2],[],[],[4,5],[6]] [[],[],[0,1],[0,1,2],[],[],[4,5],[4,5,6],[0,1,2,3,4,5,6,7]] (by kernel_rfl) (by kernel_rfl) rfl (by kernel_rfl) trivial ⟨fun wx hx=>Ob.o (O.move rfl kR),
     fun wx hx=>Ob.o (O.move rfl kR),
     fun wx hx=>Ob.o (O.indexAddr runUnderlying30 sizeOf3 rfl rfl (hp1.ext hx) (by omega) (by omega) kR),
     fun wx hx=>Ob.o (O.load isAgg3 rfl (Ints.at (hp1.ext hx) hlt') kR),
     fun wx hx=>Ob.o (O.move rfl kR),
     fun wx hx=>Ob.o (O.move rfl kR),
     fun wx hx=>Ob.o (O.indexAddr runUnderlying30 sizeOf3 rfl rfl (hq1.ext hx) (by omega) (by omega) kR),
     fun wx hx=>Ob.o (O.load isAgg3 rfl (Ints.at (hq1.ext hx) (show i<ys.length by omega)) kR),
     trivial⟩ (fun w2 he2=>?_)
   refine L.o (O.neq_s rfl rfl (fun hne=>?_) (fun hne=>?_))
   ·refine L.nil (T.ct (T.q (L.a rfl (L.nil (T.ret1 results87 rfl ⟨by rw [decide_eq_false (fun h=>hne (by rw [h]))],he1.trans he2⟩)))))
   ·refine L.nil (T.cf (T.skip (T.blk (T.region (L.m rfl (L.o (O.add64 rfl rfl (by omega) (L.a rfl (L.nil (T.again (i+1) (by omega) ⟨rfl,rfl,rfl,trivial⟩ ⟨hlt',he1.trans he2,fun k hk=>?_⟩))))))))))
    ·by_cases e:k=i
     ·subst e;omega
     ·exact hall k (by omega)
  ·refine L.nil (?_)
   obtain rfl:i=xs.length:=by omega
   refine T.cf (T.exit rfl (T.q (L.a rfl (L.nil (T.ret1 results87 rfl ⟨by rw [decide_eq_true (ints_eq_of hle2 hall)],he1⟩)))))

open Go Go.E

/-- A box for a unit, of one's own. -/
def UB (base:Nat) (v:Value) (w:World):Prop:=∃ b u,v = .pointer (some ⟨b,0,none⟩)∧base≤b∧Blk w b (UnV.cells u) 51
theorem UB.lt {base:Nat} {v:Value} {w:World} (h:UB base v w):∀ b,ptrBlk v=some b→b<w.heap.size:=fun b hb=>by
 obtain ⟨b',c,rfl,_,h2⟩:=h
 cases hb;exact h2.lt
structure RelU (base:Nat) (a:List Value) (w w':World):Prop where
 own:∀ b u,base≤b→Blk w b (UnV.cells u) 51→∃ u',Blk w' b (UnV.cells u') 51∧(UnV.cells u=a→UnV.cells u'=a)
theorem RelU.of_ext {base:Nat} {a:List Value} {w w':World} (h:Ext w w'):RelU base a w w':=⟨fun b c _ hB=>⟨c,Blk.ext (cs:=c.cells) hB h,id⟩⟩
theorem RelU.upd {base:Nat} {u:UnV} {b:Nat} {w w':World} (hu:Upd b w w') (hB:Blk w' b u.cells 51):RelU base u.cells w w':=⟨fun b' c _ hB'=>by
 by_cases e:b'=b
 ·subst e;exact ⟨u,hB,fun _=>rfl⟩
 ·exact ⟨c,Blk.upd (cs:=c.cells) hB' hu e,id⟩⟩
theorem UB.st {base:Nat} {a:List Value} : ∀ v w w',RelU base a w w'→UB base v w→UB base v w':=fun v w w' h ⟨b,c,h1,h2,h3⟩=>by
 obtain ⟨c',k1,_⟩:=h.own b c h2 h3
 exact ⟨b,c',h1,h2,k1⟩
theorem sameB_f1 {a b:RoV} (h:a.G≠b.G):sameB a b=false:=by simp [sameB,h]
theorem sameB_f2 {a b:RoV} (h:a.P≠b.P):sameB a b=false:=by simp [sameB,h]
theorem sameB_f3 {a b:RoV} (h:a.L≠b.L):sameB a b=false:=by simp [sameB,h]
theorem sameB_f4 {a b:RoV} (h:¬ SameUs a.us b.us):sameB a b=false:=by simp [sameB,sameUs_no h]
theorem sameB_t {a b:RoV} (h1:a.G=b.G) (h2:a.P=b.P) (h3:a.L=b.L) (h:SameUs a.us b.us):sameB a b=true:=by simp [sameB,h1,h2,h3,sameUs_yes h]
set_option maxHeartbeats 2000000 in
theorem rSameRoll_calls (lo lo':Nat) (a b:RoV) (w:World) (ha:a.ok lo w) (hb:b.ok lo' w) :
  Calls Tryz.prog 37 #[a.val,b.val] w (Ret fun v w'=>v = .bool (sameB a b)∧Ext w w'):=by
 have ha:Units lo w a.uv a.us:=ha
 have hb:Units lo' w b.uv b.us:=hb
 refine T.enter (vs:=[a.val,b.val]) func37 rfl ntmps37 rfl ?_
 refine T.q (L.o (O.box rfl (fun b2 w2 hb2 hz2 he2 hB2=>?_)))
 refine L.o (O.box rfl (fun b3 w3 hb3 hz3 he3 hB3=>?_))
 have he:=he2.trans he3
 have hC1:Blk w3 b2 a.cells 25:=Blk.ext (cs:=a.cells) hB2 he3
 have hC2:Blk w3 b3 b.cells 25:=hB3
 have ha3:=ha.ext he
 have hb3:=hb.ext he
 have hla:=Sl.le ha3.sl
 refine L.a rfl (L.nil (T.seq (T.q (L.o (O.fieldAddr runUnderlying25 rfl sizeOf3 rfl (L.o (O.load isAgg3 rfl (hC1.cell rfl) (L.o (O.fieldAddr runUnderlying25 rfl sizeOf3 rfl (L.o (O.load isAgg3 rfl (hC2.cell rfl) (L.o (O.neq_s rfl rfl (fun g1=>?_) (fun g1=>?_))))))))))))))
 ·refine L.m rfl (L.p (L.p (L.p (L.p (L.p (L.o (O.pick_true rfl rfl (L.m rfl (L.p (L.p (L.p (L.p (L.p (L.o (O.pick_true rfl rfl (L.m rfl (L.p (L.p (L.p (L.p (L.p (L.p (L.p (L.o (O.pick_true rfl rfl (L.nil (?_)))))))))))))))))))))))))))
  refine T.ct (T.q (L.a rfl (L.nil (T.ret1 results37 rfl ⟨by rw [sameB_f1 g1],he⟩))))
 ·refine L.m rfl (L.o (O.fieldAddr runUnderlying25 rfl sizeOf3 rfl (L.o (O.load isAgg3 rfl (hC1.cell rfl) (L.o (O.fieldAddr runUnderlying25 rfl sizeOf3 rfl (L.o (O.load isAgg3 rfl (hC2.cell rfl) (L.o (O.neq_s rfl rfl (fun g2=>?_) (fun g2=>?_)))))))))))
  ·refine L.o (O.pick_false rfl rfl (L.m rfl (L.p (L.p (L.p (L.p (L.p (L.o (O.pick_true rfl rfl (L.m rfl (L.p (L.p (L.p (L.p (L.p (L.p (L.p (L.o (O.pick_true rfl rfl (L.nil (T.ct (T.q (L.a rfl (L.nil (T.ret1 results37 rfl ⟨by rw [sameB_f2 g2],he⟩)))))))))))))))))))))))))
  ·refine L.o (O.pick_false rfl rfl (L.m rfl (L.o (O.fieldAddr runUnderlying25 rfl sizeOf3 rfl (L.o (O.load isAgg3 rfl (hC1.cell rfl) (L.o (O.fieldAddr runUnderlying25 rfl sizeOf3 rfl (L.o (O.load isAgg3 rfl (hC2.cell rfl) (L.o (O.neq_s rfl rfl (fun g3=>?_) (fun g3=>?_)))))))))))))
   ·refine L.o (O.pick_false rfl rfl (L.m rfl (L.p (L.p (L.p (L.p (L.p (L.p (L.p (L.o (O.pick_true rfl rfl (L.nil (T.ct (T.q (L.a rfl (L.nil (T.ret1 results37 rfl ⟨by rw [sameB_f3 g3],he⟩)))))))))))))))))
   ·refine L.o (O.pick_false rfl rfl (L.m rfl (L.o (O.fieldAddr runUnderlying25 rfl sizeOf23 rfl (L.o (O.load isAgg23 rfl (hC1.cell rfl) (L.o (O.len runUnderlying23 rfl (Sl.val ha3.sl) (L.o (O.fieldAddr runUnderlying25 rfl sizeOf23 rfl (L.o (O.load isAgg23 rfl (hC2.cell rfl) (L.o (O.len runUnderlying23 rfl (Sl.val hb3.sl) (L.o (O.neq_s rfl rfl (fun g4=>?_) (fun g4=>?_)))))))))))))))))
    ·refine L.o (O.pick_false rfl rfl (L.nil (T.ct (T.q (L.a rfl (L.nil (T.ret1 results37 rfl ⟨by rw [sameB_f4 (fun h=>g4 (by rw [h.1]))],he⟩)))))))
    ·have hlen:a.us.length=b.us.length:=by omega
     refine L.o (O.pick_false rfl rfl (L.nil (T.cf (T.skip (T.seq (T.q (L.a rfl (L.nil (T.block (?_))))))))))
     refine T.loop (σ:=Nat) (fun i=>[(2,.pointer (some ⟨b2,0,none⟩)),(3,.pointer (some ⟨b3,0,none⟩)),(5,.int .i64 i)]) (fun i w'=>i≤a.us.length∧Ext w3 w'∧∀ k,k<i→sameU (a.us.getD k u0) (b.us.getD k u0)=true) (fun i=>a.us.length-i) (0) ⟨rfl,rfl,rfl,trivial⟩ ⟨Nat.zero_le _,Keep.refl _ _,fun k hk=>absurd hk (Nat.not_lt_zero _)⟩ ?_
     rintro i w4 ⟨hi,he4,hall⟩
     have hA4:=Blk.ext (cs:=a.cells) hC1 he4
     have hB4:=Blk.ext (cs:=b.cells) hC2 he4
     have ha4:=ha3.ext he4
     have hb4:=hb3.ext he4
     refine T.seq (T.q (L.m rfl (L.o (O.fieldAddr runUnderlying25 rfl sizeOf23 rfl (L.o (O.load isAgg23 rfl (hA4.cell rfl) (L.o (O.len runUnderlying23 rfl (Sl.val ha4.sl) (L.o (O.lss_s rfl rfl (fun hlt=>?_) (fun hlt=>?_)))))))))))
     ·refine L.nil (?_)
      have hlt':i<a.us.length:=by omega
      have hlt2:i<b.us.length:=by omega
      refine T.ct (T.skip (T.seq (T.block (T.seq (?_)))))
      refine T.anyF2 mixed 13 1 [2,5,3] rfl [.is _,.is _,.is _,.is _,.is _,.is _,.is _,.is _,.is _,.is _,.such (UB w4.heap.size),.such (UB w4.heap.size),.is undef] [[],[0],[],[1,2],[3],[],[5],[],[6,7],[8],[],[],[10,4]] [none,none,none,none,none,none,none,none,none,none,none,none,some 0] [[],[0],[],[0,1,2],[0,1,2,3],[],[5],[],[5,6,7],[5,6,7,8],[],[],[0,1,2,3,4,10,11],[0,1,2,3,4,5,6,7,8,9,10,11,12]] [10,11] [(12,10,6)] (fun _ _ u _ W=>∃ b,u = .pointer (some ⟨b,0,none⟩)∧w4.heap.size≤b∧Blk W b (a.us.getD i u0).cells 51) (fun _ W=>Ext w4 W) (RelU w4.heap.size (a.us.getD i u0).cells) (fun i f v w hi hf hh=>by { rcases (show i=10∨i=11 by simpa using hi) with rfl|rfl <;> (simp only [List.getElem?_cons_succ,List.getElem?_cons_zero,Option.some.injEq] at hf;subst hf;exact UB.lt hh) }) (fun i j vi vj W W' hr ⟨b,h1,h2,h3⟩=>(hr.own b _ h2 h3).elim fun c' k=>⟨b,h1,h2,(k.2 rfl)▸k.1⟩) (by kernel_rfl) (by kernel_rfl) (by kernel_rfl) (by kernel_rfl) rfl ⟨UB.st,UB.st,trivial⟩ (Keep.drew _ _) ⟨fun c wx hx=>ObX.op rfl (O.fieldAddr runUnderlying25 rfl sizeOf23 rfl ⟨⟨RelU.of_ext (Keep.refl _ _),hx⟩,rfl,trivial,trivial⟩),
        fun c wx hx=>ObX.op rfl (O.load isAgg23 rfl ((Blk.ext (cs:=a.cells) hA4 hx).cell rfl) ⟨⟨RelU.of_ext (Keep.refl _ _),hx⟩,rfl,trivial,trivial⟩),
        fun c wx hx=>ObX.op rfl (O.move rfl ⟨⟨RelU.of_ext (Keep.refl _ _),hx⟩,rfl,trivial,trivial⟩),
        fun c wx hx=>ObX.op rfl (O.indexAddr runUnderlying23 sizeOf51 rfl rfl ((ha4.ext hx).sl) (by omega) (by omega) ⟨⟨RelU.of_ext (Keep.refl _ _),hx⟩,rfl,trivial,trivial⟩),
        fun c wx hx=>ObX.op rfl (O.loadAgg isAgg51 sizeOf51 rfl rfl ((ha4.ext hx).row hlt') ⟨⟨RelU.of_ext (Keep.refl _ _),hx⟩,rfl,trivial,trivial⟩),
        fun c wx hx=>ObX.op rfl (O.fieldAddr runUnderlying25 rfl sizeOf23 rfl ⟨⟨RelU.of_ext (Keep.refl _ _),hx⟩,rfl,trivial,trivial⟩),
        fun c wx hx=>ObX.op rfl (O.load isAgg23 rfl ((Blk.ext (cs:=b.cells) hB4 hx).cell rfl) ⟨⟨RelU.of_ext (Keep.refl _ _),hx⟩,rfl,trivial,trivial⟩),
        fun c wx hx=>ObX.op rfl (O.move rfl ⟨⟨RelU.of_ext (Keep.refl _ _),hx⟩,rfl,trivial,trivial⟩),
        fun c wx hx=>ObX.op rfl (O.indexAddr runUnderlying23 sizeOf51 rfl rfl ((hb4.ext hx).sl) (by omega) (by omega) ⟨⟨RelU.of_ext (Keep.refl _ _),hx⟩,rfl,trivial,trivial⟩),
        fun c wx hx=>ObX.op rfl (O.loadAgg isAgg51 sizeOf51 rfl rfl ((hb4.ext hx).row hlt2) ⟨⟨RelU.of_ext (Keep.refl _ _),hx⟩,rfl,trivial,trivial⟩),
        fun c wx hx=>ObX.op rfl (O.alloc zeroValue51 (fun b wy hb hz he hB=>and3 ⟨⟨RelU.of_ext he,hx.trans he⟩,b,u0,rfl,by have:=hx.size;omega,hB⟩ ⟨fun q hq=>by { cases hq;exact Nat.le_of_eq hb.symm },trivial⟩)),
        fun c wx hx=>ObX.op rfl (O.alloc zeroValue51 (fun b wy hb hz he hB=>and3 ⟨⟨RelU.of_ext he,hx.trans he⟩,b,u0,rfl,by have:=hx.size;omega,hB⟩ ⟨fun q hq=>by { cases hq;exact Nat.le_of_eq hb.symm },trivial⟩)),
        fun wx hx v6 hv6=>by { obtain ⟨b5,c5,rfl,hb5,hB5⟩:=hv6;exact ObX.op rfl (O.storeAgg sizeOf51 rfl rfl rfl hB5 (Nat.le_refl _) (ha4.at hlt').one (fun w80 hu80 hB80=>and3 ⟨⟨RelU.upd hu80 hB80,hx.upd hu80 (.inr hb5)⟩,rfl⟩ ⟨trivial,fun u hu=>by { cases hu;exact ⟨b5,rfl,hb5,hB80⟩ }⟩)) },
        trivial⟩ (fun w7 hI7 v6 hv6 v7 hv7 hp7=>?_)
      obtain ⟨vj,hvj,hfr,_⟩:=hp7 10 11 _ _ _ _ (by decide) (by decide) rfl rfl rfl rfl
      obtain rfl:=hvj _ _ rfl rfl
      obtain ⟨_,_,_,hlk⟩:=hp7 10 12 _ _ _ _ (by decide) (by decide) rfl rfl rfl rfl
      obtain ⟨b5,rfl,hb5,hB5⟩:=hlk rfl
      obtain ⟨b6,c6,rfl,hb6,hB6⟩:=hv7
      have hne:b5≠b6:=fun e=>hfr b5 rfl (by rw [e];rfl)
      refine L.o (O.storeAgg sizeOf51 rfl rfl rfl hB6 (Nat.le_refl _) (hb4.at hlt2).one (fun w81 hu81 hB81=>?_))
      obtain ⟨u,hu⟩:∃ u,u=a.us.getD i u0:=⟨_,rfl⟩
      obtain ⟨v,hv⟩:∃ v,v=b.us.getD i u0:=⟨_,rfl⟩
      have he81:Ext w4 w81:=hI7.upd hu81 (.inr hb6)
      have hU:Blk w81 b5 u.cells 51:=by rw [hu];exact Blk.upd (cs:=(a.us.getD i u0).cells) hB5 hu81 hne
      have hV:Blk w81 b6 v.cells 51:=by rw [hv];exact hB81
      have huo:=(ha4.at hlt').ext he81
      have hvo:=(hb4.at hlt2).ext he81
      rw [← hu] at huo
      rw [← hv] at hvo
      refine L.nil (T.q (L.o (O.fieldAddr runUnderlying51 rfl sizeOf9 rfl (L.o (O.load isAgg9 rfl (hU.cell rfl) (L.o (O.fieldAddr runUnderlying51 rfl sizeOf9 rfl (L.o (O.load isAgg9 rfl (hV.cell rfl) (L.o (O.neq_str_s runUnderlying9 rfl rfl (fun n1=>?_) (fun n1=>?_))))))))))))
      ·refine L.m rfl (L.p (L.p (L.p (L.p (L.p (L.o (O.pick_true rfl rfl (L.m rfl (L.p (L.p (L.p (L.p (L.p (L.o (O.pick_true rfl rfl (L.m rfl (L.p (L.p (L.p (L.p (L.p (L.p (L.o (O.pick_true rfl rfl (L.m rfl (L.p (?_)))))))))))))))))))))))))))
       refine L.p (L.p (L.p (L.p (L.p (L.o (O.pick_true rfl rfl (L.m rfl (L.p (L.p (L.p (L.p (L.p (L.p (L.o (O.pick_true rfl rfl (L.nil (T.ct (T.q (L.a rfl (L.nil (T.ret1 results37 rfl ⟨by rw [sameB_f4 (fun h=>by have:=h.2 i hlt';rw [← hu,← hv,sameU_iff] at this;exact n1 this.1)],he.trans (he4.trans he81)⟩)))))))))))))))))))))
      ·refine L.m rfl (L.o (O.fieldAddr runUnderlying51 rfl sizeOf3 rfl (L.o (O.load isAgg3 rfl (hU.cell rfl) (L.o (O.fieldAddr runUnderlying51 rfl sizeOf3 rfl (L.o (O.load isAgg3 rfl (hV.cell rfl) (L.o (O.neq_s rfl rfl (fun n2=>?_) (fun n2=>?_)))))))))))
       ·refine L.o (O.pick_false rfl rfl (L.m rfl (L.p (L.p (L.p (L.p (L.p (L.o (O.pick_true rfl rfl (L.m rfl (L.p (L.p (L.p (L.p (L.p (L.p (L.o (O.pick_true rfl rfl (L.m rfl (L.p (L.p (L.p (L.p (L.p (L.p (L.o (O.pick_true rfl rfl (?_))))))))))))))))))))))))))))
        refine L.m rfl (L.p (L.p (L.p (L.p (L.p (L.p (L.o (O.pick_true rfl rfl (L.nil (T.ct (T.q (L.a rfl (L.nil (T.ret1 results37 rfl ⟨by rw [sameB_f4 (fun h=>by have:=h.2 i hlt';rw [← hu,← hv,sameU_iff] at this;exact n2 (this.2.1))],he.trans (he4.trans he81)⟩))))))))))))))
       ·refine L.o (O.pick_false rfl rfl (L.m rfl (L.o (O.fieldAddr runUnderlying51 rfl sizeOf4 rfl (L.o (O.load isAgg4 rfl (hU.cell rfl) (L.o (O.fieldAddr runUnderlying51 rfl sizeOf4 rfl (L.o (O.load isAgg4 rfl (hV.cell rfl) (?_)))))))))))
        rcases hw1:u.wt with _|_ <;> rcases hw2:v.wt with _|_
        ·refine L.o (O.neq_bool runUnderlying4 rfl rfl (L.o (O.pick_false rfl rfl (L.m rfl (L.o (O.fieldAddr runUnderlying51 rfl sizeOf30 rfl (L.o (O.load isAgg30 rfl (hU.cell rfl) (L.o (O.fieldAddr runUnderlying51 rfl sizeOf30 rfl (L.o (O.load isAgg30 rfl (hV.cell rfl) (L.o (O.call (xs:=[.tmp 74,.tmp 76]) call87 rfl rfl (alike_calls lo lo' u.gv v.gv u.gs v.gs w81 huo.g hvo.g) (fun v90 w90 hq=>?_)))))))))))))))
         obtain ⟨hv90,he90⟩:=hq
         rcases hq0:decide (u.gs=v.gs) with _|_
         ·rw [hq0] at hv90
          subst hv90
          refine L.o (O.not rfl (L.o (O.pick_false rfl rfl (L.m rfl (L.p (L.p (L.p (L.p (L.p (L.p (L.o (O.pick_true rfl rfl (L.m rfl (L.p (L.p (L.p (L.p (L.p (L.p (L.o (O.pick_true rfl rfl (L.nil (T.ct (T.q (L.a rfl (L.nil (?_)))))))))))))))))))))))))))
          refine T.ret1 results37 rfl ⟨by rw [sameB_f4 (fun h=>by have:=h.2 i hlt';rw [← hu,← hv,sameU_iff] at this;exact of_decide_eq_false hq0 (this.2.2.2.1))],he.trans (he4.trans (he81.trans he90))⟩
         ·rw [hq0] at hv90
          subst hv90
          refine L.o (O.not rfl (L.o (O.pick_false rfl rfl (L.m rfl (L.o (O.fieldAddr runUnderlying51 rfl sizeOf30 rfl (L.o (O.load isAgg30 rfl ((Blk.ext (cs:=u.cells) hU he90).cell rfl) (L.o (O.fieldAddr runUnderlying51 rfl sizeOf30 rfl (L.o (O.load isAgg30 rfl ((Blk.ext (cs:=v.cells) hV he90).cell rfl) (L.o (O.call (xs:=[.tmp 82,.tmp 84]) call87 rfl rfl (alike_calls lo lo' u.vv v.vv u.vs v.vs w90 (huo.ext he90).v (hvo.ext he90).v) (fun v91 w91 hq=>?_)))))))))))))))
          obtain ⟨hv91,he91⟩:=hq
          rcases hq1:decide (u.vs=v.vs) with _|_
          ·rw [hq1] at hv91
           subst hv91
           refine L.o (O.not rfl (L.o (O.pick_false rfl rfl (L.m rfl (L.p (L.p (L.p (L.p (L.p (L.p (L.o (O.pick_true rfl rfl (L.nil (T.ct (T.q (L.a rfl (L.nil (T.ret1 results37 rfl ⟨by rw [sameB_f4 (fun h=>by have:=h.2 i hlt';rw [← hu,← hv,sameU_iff] at this;exact of_decide_eq_false hq1 (this.2.2.2.2.1))],he.trans (he4.trans (he81.trans (he90.trans he91)))⟩))))))))))))))))))
          ·rw [hq1] at hv91
           subst hv91
           refine L.o (O.not rfl (L.o (O.pick_false rfl rfl (L.m rfl (L.o (O.fieldAddr runUnderlying51 rfl sizeOf30 rfl (L.o (O.load isAgg30 rfl ((Blk.ext (cs:=u.cells) hU (he90.trans he91)).cell rfl) (L.o (O.fieldAddr runUnderlying51 rfl sizeOf30 rfl (L.o (O.load isAgg30 rfl ((Blk.ext (cs:=v.cells) hV (he90.trans he91)).cell rfl) (L.o (O.call (xs:=[.tmp 90,.tmp 92]) call87 rfl rfl (alike_calls lo lo' u.pv v.pv u.ps v.ps w91 (huo.ext (he90.trans he91)).p (hvo.ext (he90.trans he91)).p) (fun v92 w92 hq=>?_)))))))))))))))
           obtain ⟨hv92,he92⟩:=hq
           rcases hq2:decide (u.ps=v.ps) with _|_
           ·rw [hq2] at hv92
            subst hv92
            refine L.o (O.not rfl (L.o (O.pick_false rfl rfl (L.nil (T.ct (T.q (L.a rfl (L.nil (T.ret1 results37 rfl ⟨by rw [sameB_f4 (fun h=>by have:=h.2 i hlt';rw [← hu,← hv,sameU_iff] at this;exact of_decide_eq_false hq2 (this.2.2.2.2.2))],he.trans (he4.trans (he81.trans ((he90.trans he91).trans he92)))⟩)))))))))
           ·rw [hq2] at hv92
            subst hv92
            refine L.o (O.not rfl (L.o (O.pick_false rfl rfl (L.nil (T.cf (T.skip (T.blk (T.region (L.m rfl (L.o (O.add64 rfl rfl (by omega) (L.a rfl (L.nil (T.again (i+1) (by omega) ⟨rfl,rfl,rfl,trivial⟩ ⟨hlt',he4.trans (he81.trans ((he90.trans he91).trans he92)),fun k hk=>?_⟩))))))))))))))
            ·by_cases ek:k=i
             ·subst ek;rw [← hu,← hv,sameU_iff]
              exact ⟨n1,n2,by rw [hw1,hw2],of_decide_eq_true hq0,of_decide_eq_true hq1,of_decide_eq_true hq2⟩
             ·exact hall k (by omega)
        ·refine L.o (O.neq_bool runUnderlying4 rfl rfl (L.o (O.pick_false rfl rfl (L.m rfl (L.p (L.p (L.p (L.p (L.p (L.p (L.o (O.pick_true rfl rfl (L.m rfl (L.p (L.p (L.p (L.p (L.p (L.p (L.o (O.pick_true rfl rfl (L.m rfl (L.p (L.p (L.p (L.p (L.p (?_))))))))))))))))))))))))))))
         refine L.p (L.o (O.pick_true rfl rfl (L.nil (T.ct (T.q (L.a rfl (L.nil (T.ret1 results37 rfl ⟨by rw [sameB_f4 (fun h=>by have:=h.2 i hlt';rw [← hu,← hv,sameU_iff] at this;exact by rw [hw1,hw2] at this;exact absurd this.2.2.1 (by decide))],he.trans (he4.trans he81)⟩))))))))
        ·refine L.o (O.neq_bool runUnderlying4 rfl rfl (L.o (O.pick_false rfl rfl (L.m rfl (L.p (L.p (L.p (L.p (L.p (L.p (L.o (O.pick_true rfl rfl (L.m rfl (L.p (L.p (L.p (L.p (L.p (L.p (L.o (O.pick_true rfl rfl (L.m rfl (L.p (L.p (L.p (L.p (L.p (?_))))))))))))))))))))))))))))
         refine L.p (L.o (O.pick_true rfl rfl (L.nil (T.ct (T.q (L.a rfl (L.nil (T.ret1 results37 rfl ⟨by rw [sameB_f4 (fun h=>by have:=h.2 i hlt';rw [← hu,← hv,sameU_iff] at this;exact by rw [hw1,hw2] at this;exact absurd this.2.2.1 (by decide))],he.trans (he4.trans he81)⟩))))))))
        ·refine L.o (O.neq_bool runUnderlying4 rfl rfl (L.o (O.pick_false rfl rfl (L.m rfl (L.o (O.fieldAddr runUnderlying51 rfl sizeOf30 rfl (L.o (O.load isAgg30 rfl (hU.cell rfl) (L.o (O.fieldAddr runUnderlying51 rfl sizeOf30 rfl (L.o (O.load isAgg30 rfl (hV.cell rfl) (L.o (O.call (xs:=[.tmp 74,.tmp 76]) call87 rfl rfl (alike_calls lo lo' u.gv v.gv u.gs v.gs w81 huo.g hvo.g) (fun v90 w90 hq=>?_)))))))))))))))
         obtain ⟨hv90,he90⟩:=hq
         rcases hq0:decide (u.gs=v.gs) with _|_
         ·rw [hq0] at hv90
          subst hv90
          refine L.o (O.not rfl (L.o (O.pick_false rfl rfl (L.m rfl (L.p (L.p (L.p (L.p (L.p (L.p (L.o (O.pick_true rfl rfl (L.m rfl (L.p (L.p (L.p (L.p (L.p (L.p (L.o (O.pick_true rfl rfl (L.nil (T.ct (T.q (L.a rfl (L.nil (?_)))))))))))))))))))))))))))
          refine T.ret1 results37 rfl ⟨by rw [sameB_f4 (fun h=>by have:=h.2 i hlt';rw [← hu,← hv,sameU_iff] at this;exact of_decide_eq_false hq0 (this.2.2.2.1))],he.trans (he4.trans (he81.trans he90))⟩
         ·rw [hq0] at hv90
          subst hv90
          refine L.o (O.not rfl (L.o (O.pick_false rfl rfl (L.m rfl (L.o (O.fieldAddr runUnderlying51 rfl sizeOf30 rfl (L.o (O.load isAgg30 rfl ((Blk.ext (cs:=u.cells) hU he90).cell rfl) (L.o (O.fieldAddr runUnderlying51 rfl sizeOf30 rfl (L.o (O.load isAgg30 rfl ((Blk.ext (cs:=v.cells) hV he90).cell rfl) (L.o (O.call (xs:=[.tmp 82,.tmp 84]) call87 rfl rfl (alike_calls lo lo' u.vv v.vv u.vs v.vs w90 (huo.ext he90).v (hvo.ext he90).v) (fun v91 w91 hq=>?_)))))))))))))))
          obtain ⟨hv91,he91⟩:=hq
          rcases hq1:decide (u.vs=v.vs) with _|_
          ·rw [hq1] at hv91
           subst hv91
           refine L.o (O.not rfl (L.o (O.pick_false rfl rfl (L.m rfl (L.p (L.p (L.p (L.p (L.p (L.p (L.o (O.pick_true rfl rfl (L.nil (T.ct (T.q (L.a rfl (L.nil (T.ret1 results37 rfl ⟨by rw [sameB_f4 (fun h=>by have:=h.2 i hlt';rw [← hu,← hv,sameU_iff] at this;exact of_decide_eq_false hq1 (this.2.2.2.2.1))],he.trans (he4.trans (he81.trans (he90.trans he91)))⟩))))))))))))))))))
          ·rw [hq1] at hv91
           subst hv91
           refine L.o (O.not rfl (L.o (O.pick_false rfl rfl (L.m rfl (L.o (O.fieldAddr runUnderlying51 rfl sizeOf30 rfl (L.o (O.load isAgg30 rfl ((Blk.ext (cs:=u.cells) hU (he90.trans he91)).cell rfl) (L.o (O.fieldAddr runUnderlying51 rfl sizeOf30 rfl (L.o (O.load isAgg30 rfl ((Blk.ext (cs:=v.cells) hV (he90.trans he91)).cell rfl) (L.o (O.call (xs:=[.tmp 90,.tmp 92]) call87 rfl rfl (alike_calls lo lo' u.pv v.pv u.ps v.ps w91 (huo.ext (he90.trans he91)).p (hvo.ext (he90.trans he91)).p) (fun v92 w92 hq=>?_)))))))))))))))
           obtain ⟨hv92,he92⟩:=hq
           rcases hq2:decide (u.ps=v.ps) with _|_
           ·rw [hq2] at hv92
            subst hv92
            refine L.o (O.not rfl (L.o (O.pick_false rfl rfl (L.nil (T.ct (T.q (L.a rfl (L.nil (T.ret1 results37 rfl ⟨by rw [sameB_f4 (fun h=>by have:=h.2 i hlt';rw [← hu,← hv,sameU_iff] at this;exact of_decide_eq_false hq2 (this.2.2.2.2.2))],he.trans (he4.trans (he81.trans ((he90.trans he91).trans he92)))⟩)))))))))
           ·rw [hq2] at hv92
            subst hv92
            refine L.o (O.not rfl (L.o (O.pick_false rfl rfl (L.nil (T.cf (T.skip (T.blk (T.region (L.m rfl (L.o (O.add64 rfl rfl (by omega) (L.a rfl (L.nil (T.again (i+1) (by omega) ⟨rfl,rfl,rfl,trivial⟩ ⟨hlt',he4.trans (he81.trans ((he90.trans he91).trans he92)),fun k hk=>?_⟩))))))))))))))
            ·by_cases ek:k=i
             ·subst ek;rw [← hu,← hv,sameU_iff]
              exact ⟨n1,n2,by rw [hw1,hw2],of_decide_eq_true hq0,of_decide_eq_true hq1,of_decide_eq_true hq2⟩
             ·exact hall k (by omega)
     ·refine L.nil (T.cf (T.exit rfl (T.q (L.a rfl (L.nil (T.ret1 results37 rfl ⟨by rw [sameB_t g1 g2 g3 ⟨hlen,fun j hj=>hall j (by omega)⟩],he.trans he4⟩))))))

open Go Go.E

def landC (c:CxV) (r:RoV):List Value:=[c.pv,c.fv,.int .i64 r.G,.int .i64 r.P,.int .i64 r.L,r.uv]
noncomputable def landErr (c:CxV) (r:RoV) (bad:Bool):Int:=if bad then 150 else if rollErr r≠0 then rollErr r else if r.us.length≠c.fs.length then 160 else 0
theorem LCheck_calls (lo:Nat) (c:CxV) (r:RoV) (w:World) (hc:c.ok lo w) (hr:r.ok lo w) :
  Calls Tryz.prog 34 #[.agg (landC c r).toArray] w (Ret fun v w'=>v = .int .i64 (landErr c r (cxBad c))∧Ext w w'):=by
 have hr:Units lo w r.uv r.us:=hr
 refine T.enter (vs:=[.agg (landC c r).toArray]) func34 rfl ntmps34 rfl ?_
 refine T.q (L.o (O.box rfl (fun b1 w1 hb1 hz1 he1 hB1=>?_)))
 have hL:Blk w1 b1 (landC c r) 48:=hB1
 refine L.a rfl (L.nil (T.seq (T.q (L.o (O.fieldAddr runUnderlying48 rfl sizeOf46 rfl (L.o (O.loadAgg isAgg46 sizeOf46 rfl rfl ((Row.of_blk hL).part 0 2) (L.o (O.call (xs:=[.tmp 6]) call82 rfl rfl (check_calls lo c w1 (hc.ext he1)) (fun v2 w2 hq=>?_))))))))))
 obtain ⟨hv2,he2⟩:=hq
 cases hb:cxBad c
 ·rw [hb] at hv2
  subst hv2
  refine L.a rfl (L.nil (T.q (L.m rfl (L.o (O.neq_f rfl rfl (by decide) (?_))))))
  have hL2:=Blk.ext (cs:=landC c r) hL he2
  have he02:=he1.trans he2
  refine L.nil (T.cf (T.skip (T.seq (T.q (L.o (O.fieldAddr runUnderlying48 rfl sizeOf25 rfl (L.o (O.loadAgg isAgg25 sizeOf25 rfl rfl ((Row.of_blk hL2).part 2 4) (L.o (O.call (xs:=[.tmp 12]) call32 rfl rfl (CheckRoll_calls lo r w2 (hr.ext he02)) (fun v3 w3 hq=>?_)))))))))))
  obtain ⟨hv3,he3⟩:=hq
  subst hv3
  have hL3:=Blk.ext (cs:=landC c r) hL2 he3
  have he03:=he02.trans he3
  refine L.a rfl (L.nil (T.q (L.m rfl (L.o (O.neq_s rfl rfl (fun hre=>?_) (fun hre=>?_))))))
  ·refine L.nil (T.ct (T.q (L.m rfl (L.a rfl (L.nil (T.ret1 results34 rfl ⟨by simp [landErr,hre],he03⟩))))))
  ·refine L.nil (T.cf (T.skip (T.seq (T.q (L.o (O.fieldAddr runUnderlying48 rfl sizeOf25 rfl (L.o (O.fieldAddr runUnderlying25 rfl sizeOf23 rfl (L.o (O.load isAgg23 rfl (hL3.cell rfl) (L.o (O.len runUnderlying23 rfl (Sl.val ((hr.ext he03).sl)) (L.o (O.fieldAddr runUnderlying48 rfl sizeOf46 rfl (L.o (O.fieldAddr runUnderlying46 rfl sizeOf44 rfl (L.o (O.load isAgg44 rfl (hL3.cell rfl) (L.o (O.len runUnderlying44 rfl (Sl.val ((hc.ext he03).sl)) (L.o (O.neq_s rfl rfl (fun hne=>?_) (fun hne=>?_)))))))))))))))))))))))
   ·refine L.nil (T.ct (T.q (L.a rfl (L.nil (T.ret1 results34 rfl ⟨?_,he03⟩)))))
    have h2:r.us.length≠c.fs.length:=by omega
    simp [landErr,hre,h2]
   ·refine L.nil (T.cf (T.skip (T.q (L.a rfl (L.nil (T.ret1 results34 rfl ⟨?_,he03⟩))))))
    have h2:r.us.length=c.fs.length:=by omega
    simp [landErr,hre,h2]
 ·rw [hb] at hv2
  subst hv2
  refine L.a rfl (L.nil (T.q (L.m rfl (L.o (O.neq_t rfl rfl (by decide) (L.nil (T.ct (T.q (L.m rfl (L.a rfl (L.nil (T.ret1 results34 rfl ⟨rfl,he1.trans he2⟩))))))))))))

open Go Go.E

attribute [local irreducible] Go.E.ObG
open Geo (RG DC draft_good)
/-- What is known of a complex: it is valid in both ways, or has no face. -/
def Known2 (c:CxV) (bad:Bool):Prop:=cxBad c=bad∧(bad=false→RG c)∧(bad=true→c.fs.length=0∧3≤c.ps.length∧c.ps.length≤120)
theorem no_face_bad {c:CxV} (h:c.fs.length=0):cxBad c=true:=by
 have e:cntBad c=true:=by simp [cntBad,h]
 rw [cxBad,e,Bool.true_or]
theorem draft_known {c:CxV} {W H:Nat} {ho:Bool} {ss cs:List Int} (h:DC c W H ho ss cs) (hW:1≤W∧W≤4) (hH:1≤H∧H≤3) (m:Nat):∃ bad,Known2 ⟨c.pv,c.ps,c.fv,c.fs.take m⟩ bad:=by
 rcases Nat.eq_zero_or_pos m with rfl|hm
 ·have g:=draft_good h hW hH 1 (Nat.le_refl 1)
  refine ⟨true,no_face_bad (by simp),fun h=>(by cases h),fun _=>⟨by simp,g.2.p3,g.2.p120⟩⟩
 ·have g:=draft_good h hW hH m hm
  exact ⟨false,g.1,fun _=>g.2,fun h=>(by cases h)⟩
theorem draft_valid {c:CxV} {W H:Nat} {ho:Bool} {ss cs:List Int} (h:DC c W H ho ss cs) (hW:1≤W∧W≤4) (hH:1≤H∧H≤3):cxBad c=false∧RG c∧1≤c.fs.length:=by
 have g1:=draft_good h hW hH 1 (Nat.le_refl 1)
 have h1:1≤c.fs.length:=by have:=g1.2.f1;simp only [List.length_take] at this;omega
 have g:=draft_good h hW hH c.fs.length h1
 rw [List.take_of_length_le (Nat.le_refl _)] at g
 exact ⟨g.1,g.2,h1⟩
theorem draft_24 {c:CxV} {W H:Nat} {ho:Bool} {ss cs:List Int} (h:DC c W H ho ss cs) (hW:1≤W∧W≤4) (hH:1≤H∧H≤3):c.fs.length≤24:=by
 obtain ⟨_,⟨_,_,_,hf⟩|⟨_,hM⟩⟩:=h
 ·obtain ⟨va,vh,hv,e|⟨vb,hw,e⟩⟩:=hf <;> rw [e] <;> simp
 ·rw [hM.len]
  have h1:=(Geo.allG_len cs W (by omega) H).2
  have hWH:W*H≤4*3:=Nat.mul_le_mul hW.2 hH.2
  have e1:2*W*H=2*(W*H):=Nat.mul_assoc _ _ _
  omega
/-- A drafted land. -/
def LandX (d:Dr) (w:World) (v:Value) (w':World):Prop:=Ext w w'∧∃ (c:CxV) (r:RoV),v = .agg (landC c r).toArray∧c.ok w.heap.size w'∧r.ok w.heap.size w'∧Drafted d c.fs.length r∧DC c (dW d) (dH d) d.ho d.ss d.cs∧(1≤dW d∧dW d≤4)∧1≤dH d∧dH d≤3
theorem CxV.ok.one {lo:Nat} {w:World} {c:CxV} (h:c.ok lo w):∀ u∈c.cells,u.oneCell'=true:=by
 intro u hu
 simp [CxV.cells] at hu
 rcases hu with (rfl|rfl)
 ·exact Sl.one h.p
 ·exact Sl.one h.sl
theorem CxV.ok.mono {lo lo':Nat} {w:World} {c:CxV} (h:c.ok lo w) (hl:lo'≤lo):c.ok lo' w:=⟨Sl.mono h.p hl,Sl.mono h.sl hl,fun f hf=>by
 have:=h.fs f hf
 exact ⟨this.o.mono hl,Sl.mono this.sl hl,fun x hx=>(this.hs x hx).mono hl⟩⟩
theorem Pts.keep {lo:Nat} {w w':World} {v:Value} {ps:List Pt} (h:Pts lo w v ps) (k:Keep lo w w'):Pts lo w' v ps:=Sl.keep h k
theorem CxV.ok.keep {lo:Nat} {w w':World} {c:CxV} (h:c.ok lo w) (k:Keep lo w w'):c.ok lo w':=⟨h.p.keep k,Sl.keep h.sl k,fun f hf=>by
 have:=h.fs f hf
 exact ⟨Sl.keep this.o k,Sl.keep this.sl k,fun x hx=>Sl.keep (this.hs x hx) k⟩⟩
theorem CxV.ok.loc {lo b:Nat} {w w':World} {c:CxV} (h:c.ok lo w) (hu:Upd b w w') (hb:b<lo):c.ok lo w':=h.keep ((Keep.refl lo w).upd hu (.inl hb))
theorem RLCheck_calls (lo:Nat) (c:CxV) (r:RoV) (bad:Bool) (w:World) (hc:c.ok lo w) (hr:r.ok lo w) (hk:Known2 c bad) :
  Calls Tryz.prog 35 #[.agg (landC c r).toArray] w (Ret fun v w'=>v = .int .i64 (landErr c r bad)∧Ext w w'):=by
 have hr:Units lo w r.uv r.us:=hr
 refine T.enter (vs:=[.agg (landC c r).toArray]) func35 rfl ntmps35 rfl ?_
 refine T.q (L.o (O.box rfl (fun b1 w1 hb1 hz1 he1 hB1=>?_)))
 have hL:Blk w1 b1 (landC c r) 48:=hB1
 refine L.a rfl (L.nil (T.seq (T.q (L.o (O.fieldAddr runUnderlying48 rfl sizeOf46 rfl (L.o (O.loadAgg isAgg46 sizeOf46 rfl rfl ((Row.of_blk hL).part 0 2) (?_))))))))
 rcases bad with _|_
 ·refine L.o (O.call (xs:=[.tmp 6]) call83 rfl rfl (rCheck_calls lo c w1 (hc.ext he1) (hk.2.1 rfl)) (fun v2 w2 hq=>?_))
  obtain ⟨rfl,he2⟩:=hq
  refine L.a rfl (L.nil (T.q (L.m rfl (L.o (O.neq_f rfl rfl (by decide) (?_))))))
  have hL2:=Blk.ext (cs:=landC c r) hL he2
  have he02:=he1.trans he2
  refine L.nil (T.cf (T.skip (T.seq (T.q (L.o (O.fieldAddr runUnderlying48 rfl sizeOf25 rfl (L.o (O.loadAgg isAgg25 sizeOf25 rfl rfl ((Row.of_blk hL2).part 2 4) (L.o (O.call (xs:=[.tmp 12]) call33 rfl rfl (RCheckRoll_calls lo r w2 (hr.ext he02)) (fun v3 w3 hq=>?_)))))))))))
  obtain ⟨hv3,he3⟩:=hq
  subst hv3
  have hL3:=Blk.ext (cs:=landC c r) hL2 he3
  have he03:=he02.trans he3
  refine L.a rfl (L.nil (T.q (L.m rfl (L.o (O.neq_s rfl rfl (fun hre=>?_) (fun hre=>?_))))))
  ·refine L.nil (T.ct (T.q (L.m rfl (L.a rfl (L.nil (T.ret1 results35 rfl ⟨by simp [landErr,hre],he03⟩))))))
  ·refine L.nil (T.cf (T.skip (T.seq (T.q (L.o (O.fieldAddr runUnderlying48 rfl sizeOf25 rfl (L.o (O.fieldAddr runUnderlying25 rfl sizeOf23 rfl (L.o (O.load isAgg23 rfl (hL3.cell rfl) (L.o (O.len runUnderlying23 rfl (Sl.val ((hr.ext he03).sl)) (L.o (O.fieldAddr runUnderlying48 rfl sizeOf46 rfl (L.o (O.fieldAddr runUnderlying46 rfl sizeOf44 rfl (L.o (O.load isAgg44 rfl (hL3.cell rfl) (L.o (O.len runUnderlying44 rfl (Sl.val ((hc.ext he03).sl)) (L.o (O.neq_s rfl rfl (fun hne=>?_) (fun hne=>?_)))))))))))))))))))))))
   ·refine L.nil (T.ct (T.q (L.a rfl (L.nil (T.ret1 results35 rfl ⟨?_,he03⟩)))))
    have h2:r.us.length≠c.fs.length:=by omega
    simp [landErr,hre,h2]
   ·refine L.nil (T.cf (T.skip (T.q (L.a rfl (L.nil (T.ret1 results35 rfl ⟨?_,he03⟩))))))
    have h2:r.us.length=c.fs.length:=by omega
    simp [landErr,hre,h2]
 ·obtain ⟨h0,h3,h120⟩:=hk.2.2 rfl
  refine L.o (O.call (xs:=[.tmp 6]) call83 rfl rfl (rCheck0_calls lo c w1 (hc.ext he1) h3 h120 h0) (fun v2 w2 hq=>?_))
  obtain ⟨rfl,he2⟩:=hq
  refine L.a rfl (L.nil (T.q (L.m rfl (L.o (O.neq_t rfl rfl (by decide) (L.nil (T.ct (T.q (L.m rfl (L.a rfl (L.nil (T.ret1 results35 rfl ⟨rfl,he1.trans he2⟩))))))))))))

theorem DLandX_calls (lo:Nat) (d:Dr) (w:World) (hd:d.ok lo w) :
  Calls Tryz.prog 22 #[d.val] w (Ret fun v w'=>LandX d w v w'):=by
 refine T.enter (vs:=[d.val]) func22 rfl ntmps22 rfl ?_
 refine T.q (L.o (O.box rfl (fun b1 w1 hb1 hz1 he1 hB1=>?_)))
 refine L.o (O.alloc zeroValue48 (fun b2 w2 hb2 hz2 he2 hB2=>?_))
 have he02:=he1.trans he2
 have hD2:Blk w2 b1 d.cells 59:=Blk.ext (cs:=d.cells) hB1 he2
 have hR2:Blk w2 b2 [.slice none 0 0,.slice none 0 0,.int .i64 0,.int .i64 0,.int .i64 0,.slice none 0 0] 48:=hB2
 have hb1':=hD2.lt
 have hb2':=hR2.lt
 refine L.nil (T.q (L.o (O.fieldAddr runUnderlying59 rfl sizeOf56 rfl (L.o (O.loadAgg isAgg56 sizeOf56 rfl rfl (Row.part hD2.row 0 5) (L.o (O.call (xs:=[.tmp 5]) call69 rfl rfl (ComplexE_calls lo d w2 (hd.ext he02)) (fun v3 w3 hq=>?_))))))))
 obtain ⟨he3,c,rfl,hc3,hDC,hWb,hHb⟩:=hq
 refine L.o (O.alloc zeroValue46 (fun b4 w4 hb4 hz4 he4 hB4=>?_))
 refine L.o (O.storeAgg sizeOf46 rfl rfl rfl hB4 (Nat.le_refl _) (CxV.ok.one hc3) (fun w5 hu5 hB5=>?_))
 replace hu5:Upd b4 w4 w5:=hu5
 have hC5:Blk w5 b4 c.cells 46:=hB5
 have he35:Ext w3 w5:=he4.upd hu5 (.inr (by omega))
 have hc5:=hc3.ext he35
 have hD5:=(hD2.ext he3).ext he35
 have he05:=(he02.trans he3).trans he35
 have hn1:=(draft_valid hDC hWb hHb).2.2
 have hn2:=draft_24 hDC hWb hHb
 refine L.nil (T.seq (?_))
 refine T.anyE mixed 6 [3,1] rfl [.is _,.is _,.is _,.is _,.is _,.such (SomeV d c.fs.length w2.heap.size)] [[],[],[],[2],[3],[1,4]] [[],[],[],[2],[2,3],[1,2,3,4],[0,1,2,3,4,5],[0,1,2,3,4,5,6]] (by kernel_rfl) (by kernel_rfl) rfl (by kernel_rfl) ⟨SomeV.st,trivial⟩ ⟨fun wx hx=>Ob.o (O.loadAgg isAgg46 sizeOf46 rfl rfl ((hC5.ext hx).row) kR),
   fun wx hx=>Ob.o (O.loadAgg isAgg59 sizeOf59 rfl rfl ((hD5.ext hx).row) kR),
   fun wx hx=>Ob.o (O.fieldAddr runUnderlying46 rfl sizeOf44 rfl kR),
   fun wx hx=>Ob.o (O.load isAgg44 rfl ((hC5.ext hx).cell rfl) kR),
   fun wx hx=>Ob.o (O.len runUnderlying44 rfl (Sl.val ((hc5.ext hx).sl)) kR),
   fun wx hx=>Ob.o (O.call (xs:=[.tmp 8,.tmp 11]) call70 rfl rfl (Some_calls lo c.fs.length d wx (hd.ext (he05.trans hx)) hn1 hn2) (fun v wy h=>(by obtain ⟨h1,r,rfl,h2,h3,h4,h5,h6,h7⟩:=h;exact ⟨h1,r,rfl,h2.mono ((he3.trans (he35.trans hx)).size),⟨hn1,hn2,h3,h4,h5,h6,h7⟩⟩))),
   trivial⟩ (fun w6 he6 v12 hv12=>?_)
 obtain ⟨r,rfl,hr6,hdr⟩:=hv12
 have hc6:=hc5.ext he6
 refine L.o (O.build (v:=.agg (landC c r).toArray) (parts:=[(0,.tmp 7),(1,.tmp 12)]) (vs:=[(0,_),(1,_)]) rfl (fun w=>by kernel_rfl) (L.o (O.storeAgg sizeOf48 rfl rfl rfl ((hR2.ext he3).ext he35 |>.ext he6) (Nat.le_refl _) (by intro u hu;simp [landC] at hu;rcases hu with (rfl|rfl|rfl|rfl|rfl|rfl);exact Sl.one hc6.p;exact Sl.one hc6.sl;rfl;rfl;rfl;exact hr6.one) (fun w7 hu7 hB7=>?_))))
 replace hu7:Upd b2 w6 w7:=hu7
 have hR7:Blk w7 b2 (landC c r) 48:=hB7
 refine L.nil (T.retA results22 isAgg48 sizeOf48 rfl rfl hR7.row ⟨(he05.trans he6).upd hu7 (.inr (by omega)),c,r,rfl,(hc6.loc hu7 hb2').mono he02.size,(hr6.loc hu7 hb2').mono he02.size,hdr,hDC,hWb,hHb⟩)

open Go Go.E

open Geo (RG DC)
theorem rolls4_get {r0 r1 r2 r3:RoV} {i:Nat} (hi:i<4):((r0.cells++r1.cells++r2.cells++r3.cells).drop ((i:Int).toNat*4)).take 4=([r0,r1,r2,r3].getD i r0).cells:=by
 rcases (show i=0∨i=1∨i=2∨i=3 by omega) with rfl|rfl|rfl|rfl <;> rfl
theorem rolls4_mem {p:RoV→Prop} {r0 r1 r2 r3:RoV} (h0:p r0) (h1:p r1) (h2:p r2) (h3:p r3) {i:Nat} (hi:i<4):p ([r0,r1,r2,r3].getD i r0):=by
 rcases (show i=0∨i=1∨i=2∨i=3 by omega) with rfl|rfl|rfl|rfl
 ·exact h0
 ·exact h1
 ·exact h2
 ·exact h3
theorem cxs_get {c d:CxV} {i:Nat} (hi:i<2):((c.cells++d.cells).drop ((i:Int).toNat*2)).take 2=([c,d].getD i c).cells:=by
 rcases (show i=0∨i=1 by omega) with rfl|rfl <;> rfl
theorem cxs_mem {p:CxV→Prop} {c d:CxV} (h0:p c) (h1:p d) {i:Nat} (hi:i<2):p ([c,d].getD i c):=by
 rcases (show i=0∨i=1 by omega) with rfl|rfl
 ·exact h0
 ·exact h1
theorem fcells_take:∀ (fs:List FaV) (n:Nat),(fcells fs).take (n*2)=fcells (fs.take n)
 | [],n=>by simp [fcells]
 | f::r,0=>by simp [fcells]
 | f::r,n+1=>by
  have:=fcells_take r n
  simp only [fcells,List.flatMap_cons,List.take_succ_cons] at this ⊢
  rw [show (n+1)*2=f.cells.length+n*2 by simp [FaV.cells];omega,List.take_length_add_append,this]
theorem CxV.ok.short {lo:Nat} {w:World} {c:CxV} (h:c.ok lo w) {v:Value} {m:Nat} (hm:m≤c.fs.length) (hv:Sl lo w v m 2 ((fcells c.fs).take (m*2))):(⟨c.pv,c.ps,v,c.fs.take m⟩:CxV).ok lo w:=by
 rw [fcells_take] at hv
 refine ⟨h.p,?_,fun f hf=>h.fs f (List.mem_of_mem_take hf)⟩
 show Sl lo w v (c.fs.take m).length 2 _
 rw [List.length_take,Nat.min_eq_left hm]
 exact hv
def Four (base:Nat) (r0 r1 r2 raw:RoV) (v:Value) (w:World):Prop:=∃ cv us,v = .agg (r0.cells++r1.cells++r2.cells ++ [.int .i64 raw.G,.int .i64 raw.P,.int .i64 raw.L,cv]).toArray∧Sk base 15 w cv us
theorem Four.st {base:Nat} {r0 r1 r2 raw:RoV} : ∀ v w w',Ext w w'→Four base r0 r1 r2 raw v w→Four base r0 r1 r2 raw v w':=fun _ _ _ he ⟨cv,us,h1,h2⟩=>⟨cv,us,h1,h2.ext he⟩
def Copd (base:Nat) (raw:RoV) (v:Value) (w:World):Prop:=∃ cv us,v=(RoV.mk raw.G raw.P raw.L cv us).val∧Sk base 15 w cv us
theorem Copd.st {base:Nat} {raw:RoV} : ∀ v w w',Ext w w'→Copd base raw v w→Copd base raw v w':=fun _ _ _ he ⟨cv,us,h1,h2⟩=>⟨cv,us,h1,h2.ext he⟩
theorem Sk.upd {base n b:Nat} {w w':World} {v:Value} {us:List UnV} {cs:List Value} {t:TypeId} (h:Sk base n w v us) (hB:Blk w b cs t) (h1:51≠t) (h2:3≠t) (hu:Upd b w w'):Sk base n w' v us :=
 ⟨owns_upd' h.row (own_blk h.row hB h1) hu,⟨fun q hq=>by
  obtain ⟨xs,k1,k2⟩:=h.ls.all q hq
  exact ⟨xs,k1,owns_upd' k2 (own_blk k2 hB h2) hu⟩,h.ls.nd⟩,h.nm⟩
def Box (base:Nat) (cs:List Value) (t:TypeId) (v:Value) (w:World):Prop:=∃ b,v = .pointer (some ⟨b,0,none⟩)∧base≤b∧Blk w b cs t
theorem Box.st {base:Nat} {cs:List Value} {t:TypeId} : ∀ v w w',Ext w w'→Box base cs t v w→Box base cs t v w':=fun _ _ _ he ⟨b,h1,h2,h3⟩=>⟨b,h1,h2,Blk.ext (cs:=cs) h3 he⟩
theorem roll_one {lo:Nat} {w:World} {r:RoV} (h:r.ok lo w):∀ u∈r.cells,u.oneCell'=true:=by
 intro u hu;simp [RoV.cells] at hu;rcases hu with (rfl|rfl|rfl|rfl);rfl;rfl;rfl;exact h.one
theorem app_one {xs ys:List Value} (h:∀ u∈xs,u.oneCell'=true) (k:∀ u∈ys,u.oneCell'=true):∀ u∈xs++ys,u.oneCell'=true:=fun u hu=>(List.mem_append.1 hu).elim (h u) (k u)
set_option maxHeartbeats 4000000 in
theorem UnitsChecks_calls (lo:Nat) (d:Dr) (b c:Bd) (raw:RoV) (less:Int) (w:World) (hd:d.ok lo w) (hb:b.ok) (hc:c.ok) (hraw:raw.ok lo w) (hless:Low8 less) :
  Calls Tryz.prog 5 #[d.val,bends b c,raw.val,.int .u8 less] w (Ret fun v w'=>v = .bool true∧Ext w w'):=by
 have hl8:=hless
 unfold Low8 at hl8
 refine T.enter (vs:=[d.val,bends b c,raw.val,.int .u8 less]) func5 rfl ntmps5 rfl ?_
 refine T.q (L.o (O.box rfl (fun b4 w4 hb4 hz4 he4 hB4=>?_)))
 refine L.o (O.box rfl (fun b5 w5 hb5 hz5 he5 hB5=>?_))
 refine L.o (O.box rfl (fun b6 w6 hb6 hz6 he6 hB6=>?_))
 have he06:=(he4.trans he5).trans he6
 have hD6:Blk w6 b4 d.cells 59:=Blk.ext (cs:=d.cells) hB4 (he5.trans he6)
 have hE6:Blk w6 b5 (b.cells++c.cells) 77:=Blk.ext (cs:=b.cells++c.cells) hB5 he6
 have hR6:Blk w6 b6 raw.cells 25:=hB6
 refine L.a rfl (L.nil (T.q (L.o (O.loadAgg isAgg59 sizeOf59 rfl rfl hD6.row (L.o (O.loadAgg isAgg77 sizeOf77 rfl rfl (Blk.row hE6) (L.o (O.call (xs:=[.tmp 20,.tmp 21]) call30 rfl rfl (rolls_calls lo d b c w6 (hd.ext he06) hb hc) (fun v7 w7 hq=>?_)))))))))
 obtain ⟨he7,n,r0,r1,r2,rfl,hdr,hrs⟩:=hq
 have hro0:=(hrs r0 (.inl rfl)).1
 have hro1:=(hrs r1 (.inr (.inl rfl))).1
 have hro2:=(hrs r2 (.inr (.inr rfl))).1
 refine L.o (O.alloc zeroValue78 (fun b8 w8 hb8 hz8 he8 hB8=>?_))
 refine L.o (O.storeAgg sizeOf78 rfl rfl rfl hB8 (Nat.le_refl _) (app_one (app_one (roll_one hro0) (roll_one hro1)) (roll_one hro2)) (fun w9 hu9 hB9=>?_))
 replace hu9:Upd b8 w8 w9:=hu9
 have hT9:Blk w9 b8 (r0.cells++r1.cells++r2.cells) 78:=hB9
 have he79:Ext w7 w9:=he8.upd hu9 (.inr (by omega))
 have he69:=he7.trans he79
 have hR9:=Blk.ext (cs:=raw.cells) hR6 he69
 have hraw9:=RoV.ok.ext hraw (he06.trans he69)
 refine L.nil (T.seq (?_))
 refine T.anyE mixed 10 [9,6] rfl [.is _,.is _,.is _,.is _,.is _,.is _,.is _,.such (Copd w9.heap.size raw),.such (Four w9.heap.size r0 r1 r2 raw),.such (Box w9.heap.size (zroll++zroll++zroll++zroll) 81)] [[],[0],[],[2],[],[4],[],[6],[1,3,5,7],[]] [[],[0],[],[2],[],[4],[],[6],[0,1,2,3,4,5,6,7],[],[0,1,2,3,4,5,6,7,8,9]] (by kernel_rfl) (by kernel_rfl) rfl (by kernel_rfl) ⟨Copd.st,Four.st,Box.st,trivial⟩ ⟨fun wx hx=>Ob.o (O.indexAddr_arr runUnderlying78 sizeOf25 rfl rfl (by decide) (by decide) kR),
   fun wx hx=>Ob.o (O.loadAgg isAgg25 sizeOf25 rfl rfl (Row.part (Blk.row (Blk.ext (cs:=r0.cells++r1.cells++r2.cells) hT9 hx)) 0 4) kR),
   fun wx hx=>Ob.o (O.indexAddr_arr runUnderlying78 sizeOf25 rfl rfl (by decide) (by decide) kR),
   fun wx hx=>Ob.o (O.loadAgg isAgg25 sizeOf25 rfl rfl (Row.part (Blk.row (Blk.ext (cs:=r0.cells++r1.cells++r2.cells) hT9 hx)) 4 4) kR),
   fun wx hx=>Ob.o (O.indexAddr_arr runUnderlying78 sizeOf25 rfl rfl (by decide) (by decide) kR),
   fun wx hx=>Ob.o (O.loadAgg isAgg25 sizeOf25 rfl rfl (Row.part (Blk.row (Blk.ext (cs:=r0.cells++r1.cells++r2.cells) hT9 hx)) 8 4) kR),
   fun wx hx=>Ob.o (O.loadAgg isAgg25 sizeOf25 rfl rfl (Blk.row (Blk.ext (cs:=raw.cells) hR9 hx)) kR),
   fun wx hx=>Ob.o (O.call (xs:=[.tmp 29]) call31 rfl rfl (copied_calls lo raw wx (hraw9.ext hx)) (fun v wy h=>(by obtain ⟨h1,cv,us,rfl,h2,_⟩:=h;exact ⟨h1,cv,us,rfl,h2.mono hx.size (Nat.le_refl _)⟩))),
   fun wx hx v30 hv30=>by { obtain ⟨cv,us,rfl,hs3⟩:=hv30;exact Ob.o (O.build (v:=.agg (r0.cells++r1.cells++r2.cells ++ [.int .i64 raw.G,.int .i64 raw.P,.int .i64 raw.L,cv]).toArray) (parts:=[(0,.tmp 24),(1,.tmp 26),(2,.tmp 28),(3,.tmp 30)]) (vs:=[(0,_),(1,_),(2,_),(3,_)]) rfl (fun w=>by kernel_rfl) ⟨Keep.refl _ _,cv,us,rfl,hs3⟩) },
   fun wx hx=>Ob.o (O.alloc zeroValue81 (fun b wy hb hz he hB=>⟨he,b,rfl,by have:=hx.size;omega,hB⟩)),
   trivial⟩ (fun w10 he10 v30 hv30 v31 hv31 v10 hv10=>?_)
 obtain ⟨cv,us,rfl,hs3⟩:=hv31
 obtain ⟨b10,rfl,hb10,hB10⟩:=hv10
 have hra0:=hro0.ext (he79.trans he10)
 have hra1:=hro1.ext (he79.trans he10)
 have hra2:=hro2.ext (he79.trans he10)
 refine L.o (O.storeAgg sizeOf81 rfl rfl rfl hB10 (Nat.le_refl _) (app_one (app_one (app_one (roll_one hra0) (roll_one hra1)) (roll_one hra2)) (by intro u hu;simp at hu;rcases hu with (rfl|rfl|rfl|rfl);rfl;rfl;rfl;exact Sl.one (Sl.of_owns hs3.row))) (fun w11 hu11 hB11=>?_))
 replace hu11:Upd b10 w10 w11:=hu11
 have hs11:=hs3.upd hB10 (by decide) (by decide) hu11
 obtain ⟨us3,_,_,hun3⟩:=hs11.units
 obtain ⟨r3,hr3⟩:∃ r3:RoV,r3=⟨raw.G,raw.P,raw.L,cv,us3⟩:=⟨_,rfl⟩
 have hr3o:r3.ok w9.heap.size w11:=by rw [hr3];exact hun3
 have hQ11:Blk w11 b10 (r0.cells++r1.cells++r2.cells++r3.cells) 81:=by rw [hr3];exact hB11
 have hz69:=he69.size
 have hz10:=he10.size
 have he911:Ext w9 w11:=he10.upd hu11 (.inr (by omega))
 have hall11:∀ i,i<4→RoV.ok 0 w11 ([r0,r1,r2,r3].getD i r0):=fun i hi=>rolls4_mem (p:=fun r=>RoV.ok 0 w11 r) ((hro0.ext (he79.trans he911)).mono (Nat.zero_le _)) ((hro1.ext (he79.trans he911)).mono (Nat.zero_le _)) ((hro2.ext (he79.trans he911)).mono (Nat.zero_le _)) (hr3o.mono (Nat.zero_le _)) hi
 have he611:=he69.trans he911
 have he011:=he06.trans he611
 refine L.nil (T.q (L.o (O.loadAgg isAgg59 sizeOf59 rfl rfl (Blk.row (Blk.ext (cs:=d.cells) hD6 he611)) (L.o (O.call (xs:=[.tmp 32]) call22 rfl rfl (DLandX_calls lo d w11 (hd.ext he011)) (fun v12 w12 hq=>?_))))))
 obtain ⟨he12,cx,lr,rfl,hcx,hlr,hdlr,hDC,hWb,hHb⟩:=hq
 refine L.o (O.fieldAgg (vs:=cx.cells) runUnderlying48 rfl isAgg46 sizeOf46 rfl rfl (L.o (O.alloc zeroValue46 (fun b13 w13 hb13 hz13 he13 hB13=>?_))))
 have hcx13:=hcx.ext he13
 refine L.o (O.storeAgg sizeOf46 rfl rfl rfl hB13 (Nat.le_refl _) (CxV.ok.one hcx13) (fun w14 hu14 hB14=>?_))
 replace hu14:Upd b13 w13 w14:=hu14
 have hC14:Blk w14 b13 cx.cells 46:=hB14
 have hz12:=he12.size
 have he1214:Ext w12 w14:=he13.upd hu14 (.inr (by omega))
 have hcx14:=hcx.ext he1214
 refine L.nil (T.q (L.o (O.loadAgg isAgg46 sizeOf46 rfl rfl hC14.row (L.o (O.alloc zeroValue46 (fun b15 w15 hb15 hz15 he15 hB15=>?_))))))
 have hcx15:=hcx14.ext he15
 refine L.o (O.storeAgg sizeOf46 rfl rfl rfl hB15 (Nat.le_refl _) (CxV.ok.one hcx15) (fun w16 hu16 hB16=>?_))
 replace hu16:Upd b15 w15 w16:=hu16
 have hS16:Blk w16 b15 cx.cells 46:=hB16
 have he1416:Ext w14 w16:=he15.upd hu16 (.inr (by omega))
 have hC16:=Blk.ext (cs:=cx.cells) hC14 he1416
 have hcx16:=hcx14.ext he1416
 have hn24:=draft_24 hDC hWb hHb
 refine L.nil (T.seq (?_))
 refine T.anyE mixed 9 [11,3] rfl [.is _,.is _,.is _,.is _,.is _,.is _,.is _,.is _,.is _] [[],[0],[],[2],[],[4],[5],[6],[3,7]] [[],[0],[],[2],[],[4],[4,5],[4,5,6],[2,3,4,5,6,7],[0,1,2,3,4,5,6,7,8],[0,1,2,3,4,5,6,7,8,9],[0,1,2,3,4,5,6,7,8,9,10]] (by kernel_rfl) (by kernel_rfl) rfl (by kernel_rfl) trivial ⟨fun wx hx=>Ob.o (O.fieldAddr runUnderlying46 rfl sizeOf44 rfl kR),
   fun wx hx=>Ob.o (O.load isAgg44 rfl ((Blk.ext (cs:=cx.cells) hC16 hx).cell rfl) kR),
   fun wx hx=>Ob.o (O.move rfl kR),
   fun wx hx=>Ob.o (O.conv_to rfl (fun w=>⟨_,runUnderlying5 w⟩) runUnderlying3 (IntWalk.i64_in _ ⟨by omega,by omega⟩) kR),
   fun wx hx=>Ob.o (O.fieldAddr runUnderlying46 rfl sizeOf44 rfl kR),
   fun wx hx=>Ob.o (O.load isAgg44 rfl ((Blk.ext (cs:=cx.cells) hC16 hx).cell rfl) kR),
   fun wx hx=>Ob.o (O.len runUnderlying44 rfl (Sl.val ((hcx16.ext hx).sl)) kR),
   fun wx hx=>Ob.o (O.add64 rfl rfl (by omega) kR),
   fun wx hx=>Ob.o (O.rem rfl rfl (by omega) (by omega) kR),
   trivial⟩ (fun w17 he17=>?_)
 obtain ⟨m,hm⟩:∃ m:Nat,less % ((cx.fs.length:Int)+1)=m:=⟨(less % ((cx.fs.length:Int)+1)).toNat,by have:=Int.emod_nonneg less (show ((cx.fs.length:Int)+1)≠0 by omega);omega⟩
 have hm2:m≤cx.fs.length:=by have:=Int.emod_lt_of_pos less (show (0:Int)<(cx.fs.length:Int)+1 by omega);omega
 rw [hm]
 have hcx17:=hcx16.ext he17
 refine L.o (O.cutH runUnderlying44 sizeOf127 rfl rfl hcx17.sl hm2 (L.o (O.fieldAddr runUnderlying46 rfl sizeOf44 rfl (L.o (O.store1 sizeOf44 (Sl.one (Sl_cutH hcx17.sl hm2)) rfl rfl (Blk.ext (cs:=cx.cells) hS16 he17) (by simp [CxV.cells]) (fun w19 hu19 hB19=>?_))))))
 replace hu19:Upd b15 w17 w19:=hu19
 obtain ⟨cs,hcs⟩:∃ cs:CxV,cs=⟨cx.pv,cx.ps,cutH cx.fv m,cx.fs.take m⟩:=⟨_,rfl⟩
 have hS19:Blk w19 b15 cs.cells 46:=by rw [hcs];exact hB19
 have hz1214:=he1214.size
 have he1219:Ext w12 w19:=(he1214.trans (he1416.trans he17)).upd hu19 (.inr (by omega))
 have hb13:=hC14.lt
 have hC19:Blk w19 b13 cx.cells 46:=Blk.upd (cs:=cx.cells) (Blk.ext (cs:=cx.cells) hC16 he17) hu19 (by omega)
 have hcx19:=(hcx.ext he1219).mono (Nat.zero_le _)
 have hcs19:cs.ok 0 w19:=by rw [hcs];exact hcx19.short hm2 (Sl_cutH hcx19.sl hm2)
 obtain ⟨bad,hbad⟩:∃ bad,Known2 cs bad:=by rw [hcs];exact draft_known (c:=⟨cx.pv,cx.ps,cutH cx.fv m,cx.fs⟩) hDC hWb hHb m
 have hgood:Known2 cx false:=⟨(draft_valid hDC hWb hHb).1,fun _=>(draft_valid hDC hWb hHb).2.1,fun h=>by cases h⟩
 have hall2:∀ j,j<2→CxV.ok 0 w19 ([cx,cs].getD j cx)∧∃ bd,Known2 ([cx,cs].getD j cx) bd:=fun j hj=>cxs_mem (p:=fun c=>CxV.ok 0 w19 c∧∃ bd,Known2 c bd) ⟨hcx19,false,hgood⟩ ⟨hcs19,bad,hbad⟩ hj
 have he1119:Ext w11 w19:=he12.trans he1219
 have hQ19:=Blk.ext (cs:=r0.cells++r1.cells++r2.cells++r3.cells) hQ11 he1119
 have hall19:∀ i,i<4→RoV.ok 0 w19 ([r0,r1,r2,r3].getD i r0):=fun i hi=>(hall11 i hi).ext he1119
 have he019:Ext w w19:=he011.trans he1119
 refine L.nil (T.seq (T.q (L.o (O.loadAgg isAgg81 sizeOf81 rfl rfl (Blk.row hQ19) (L.m rfl (L.nil (T.block (?_))))))))
 refine T.loop (σ:=Nat) (fun i=>[(10,.pointer (some ⟨b10,0,none⟩)),(11,.pointer (some ⟨b13,0,none⟩)),(12,.pointer (some ⟨b15,0,none⟩)),(47,.agg (r0.cells++r1.cells++r2.cells++r3.cells).toArray),(48,.int .i64 i)]) (fun i w'=>i≤4∧Ext w19 w') (fun i=>4-i) (0) ⟨rfl,rfl,rfl,rfl,rfl,trivial⟩ ⟨Nat.zero_le _,Keep.refl _ _⟩ ?_
 rintro i w20 ⟨hi,he20⟩
 refine T.q (L.o (O.lss_s rfl rfl (fun hlt=>?_) (fun hlt=>?_)))
 ·refine L.nil (?_)
  have hlt':i<4:=by omega
  obtain ⟨r,hr⟩:∃ r,r = [r0,r1,r2,r3].getD i r0:=⟨_,rfl⟩
  have hro:=hall19 i hlt'
  have hgi:=rolls4_get (r0:=r0) (r1:=r1) (r2:=r2) (r3:=r3) hlt'
  rw [← hr] at hgi hro
  refine T.seq (T.ct (T.skip (T.seq (T.block (T.q (L.o (O.index_agg_to runUnderlying81 isAgg25 sizeOf25 rfl rfl (by omega) (by omega) hgi (L.o (O.alloc zeroValue25 (fun b21 w21 hb21 hz21 he21 hB21=>?_))))))))))
  have hr21:=hro.ext (he20.trans he21)
  refine L.o (O.storeAgg sizeOf25 rfl rfl rfl hB21 (Nat.le_refl _) (roll_one hr21) (fun w22 hu22 hB22=>?_))
  replace hu22:Upd b21 w21 w22:=hu22
  have hF22:Blk w22 b21 r.cells 25:=hB22
  have hz20:=he20.size
  have he2022:Ext w20 w22:=he21.upd hu22 (.inr (by omega))
  have he1922:=he20.trans he2022
  have hr22:=hro.ext he1922
  refine L.nil (T.seq (T.seq (?_)))
  refine T.anyE mixed 3 [14] rfl [.is _,.is (.int .i64 (rollErr r)),.is _] [[],[0],[]] [[],[0],[],[0,1,2],[0,1,2,3]] (by kernel_rfl) (by kernel_rfl) rfl (by kernel_rfl) trivial ⟨fun wx hx=>Ob.o (O.loadAgg isAgg25 sizeOf25 rfl rfl (Blk.row (Blk.ext (cs:=r.cells) hF22 hx)) kR),
    fun wx hx=>Ob.o (O.call (xs:=[.tmp 51]) call32 rfl rfl (CheckRoll_calls 0 r wx (hr22.ext hx)) (fun v wy h=>⟨h.2,h.1⟩)),
    fun wx hx=>Ob.o (O.loadAgg isAgg25 sizeOf25 rfl rfl (Blk.row (Blk.ext (cs:=r.cells) hF22 hx)) kR),
    trivial⟩ (fun w23 he23=>?_)
  refine L.o (O.call (xs:=[.tmp 53]) call33 rfl rfl (RCheckRoll_calls 0 r w23 (hr22.ext he23)) (fun v24 w24 hq=>?_))
  obtain ⟨rfl,he24⟩:=hq
  refine L.o (O.neq_f rfl rfl rfl (?_))
  have he2224:=he23.trans he24
  refine L.nil (T.cf (T.skip (T.seq (T.q (L.o (O.loadAgg isAgg46 sizeOf46 rfl rfl (Blk.row (Blk.ext (cs:=cx.cells) hC19 (he1922.trans he2224))) (L.o (O.loadAgg isAgg46 sizeOf46 rfl rfl (Blk.row (Blk.ext (cs:=cs.cells) hS19 (he1922.trans he2224))) (L.o (O.build (v:=.agg (cx.cells++cs.cells).toArray) (parts:=[(0,.tmp 56),(1,.tmp 57)]) (vs:=[(0,_),(1,_)]) rfl (fun w=>by kernel_rfl) (L.m rfl (L.nil (T.block (?_))))))))))))))
  refine T.loop (σ:=Nat) (fun j=>[(10,.pointer (some ⟨b10,0,none⟩)),(11,.pointer (some ⟨b13,0,none⟩)),(12,.pointer (some ⟨b15,0,none⟩)),(14,.pointer (some ⟨b21,0,none⟩)),(47,.agg (r0.cells++r1.cells++r2.cells++r3.cells).toArray),(48,.int .i64 i),(58,.agg (cx.cells++cs.cells).toArray),(59,.int .i64 j)]) (fun j w'=>j≤2∧Ext w22 w') (fun j=>2-j) (0) ⟨rfl,rfl,rfl,rfl,rfl,rfl,rfl,rfl,trivial⟩ ⟨Nat.zero_le _,he2224⟩ ?_
  rintro j w25 ⟨hj,he25⟩
  refine T.q (L.o (O.lss_s rfl rfl (fun hltj=>?_) (fun hltj=>?_)))
  ·refine L.nil (?_)
   have hltj':j<2:=by omega
   obtain ⟨x,hx0⟩:∃ x,x = [cx,cs].getD j cx:=⟨_,rfl⟩
   obtain ⟨hxo,bd,hbd⟩:=hall2 j hltj'
   have hgx:=cxs_get (c:=cx) (d:=cs) hltj'
   rw [← hx0] at hxo hbd hgx
   refine T.seq (T.ct (T.skip (T.seq (T.block (T.q (L.o (O.index_agg_to runUnderlying83 isAgg46 sizeOf46 rfl rfl (by omega) (by omega) hgx (L.o (O.alloc zeroValue46 (fun b26 w26 hb26 hz26 he26 hB26=>?_))))))))))
   have hx26:=hxo.ext (he1922.trans (he25.trans he26))
   refine L.o (O.storeAgg sizeOf46 rfl rfl rfl hB26 (Nat.le_refl _) (CxV.ok.one hx26) (fun w27 hu27 hB27=>?_))
   replace hu27:Upd b26 w26 w27:=hu27
   have hX27:Blk w27 b26 x.cells 46:=hB27
   have he2527:Ext w25 w27:=he26.upd hu27 (.inr (by omega))
   have he2227:=he25.trans he2527
   refine L.nil (T.q (L.o (O.loadAgg isAgg46 sizeOf46 rfl rfl (Blk.row hX27) (L.o (O.loadAgg isAgg25 sizeOf25 rfl rfl (Blk.row (Blk.ext (cs:=r.cells) hF22 he2227)) (L.o (O.build (v:=.agg (landC x r).toArray) (parts:=[(0,.tmp 62),(1,.tmp 63)]) (vs:=[(0,_),(1,_)]) rfl (fun w=>by kernel_rfl) (L.o (O.alloc zeroValue48 (fun b28 w28 hb28 hz28 he28 hB28=>?_))))))))))
   have hx28:=hxo.ext (he1922.trans (he2227.trans he28))
   have hr28:=hr22.ext (he2227.trans he28)
   refine L.o (O.storeAgg sizeOf48 rfl rfl rfl hB28 (Nat.le_refl _) (by intro u hu;simp [landC] at hu;rcases hu with (rfl|rfl|rfl|rfl|rfl|rfl);exact Sl.one hx28.p;exact Sl.one hx28.sl;rfl;rfl;rfl;exact hr28.one) (fun w29 hu29 hB29=>?_))
   replace hu29:Upd b28 w28 w29:=hu29
   have hY29:Blk w29 b28 (landC x r) 48:=hB29
   have he2729:Ext w27 w29:=he28.upd hu29 (.inr (by omega))
   have hx29:=hxo.ext (he1922.trans (he2227.trans he2729))
   have hr29:=hr22.ext (he2227.trans he2729)
   refine L.nil (T.seq (?_))
   refine T.anyE mixed 3 [17] rfl [.is _,.is (.int .i64 (landErr x r bd)),.is _] [[],[0],[]] [[],[0],[],[0,1,2],[0,1,2,3]] (by kernel_rfl) (by kernel_rfl) rfl (by kernel_rfl) trivial ⟨fun wx hx=>Ob.o (O.loadAgg isAgg48 sizeOf48 rfl rfl (Blk.row (Blk.ext (cs:=landC x r) hY29 hx)) kR),
     fun wx hx=>Ob.o (O.call (xs:=[.tmp 65]) call34 rfl rfl (LCheck_calls 0 x r wx (hx29.ext hx) (hr29.ext hx)) (fun v wy h=>⟨h.2,by have h1:=h.1;rw [hbd.1] at h1;exact h1⟩)),
     fun wx hx=>Ob.o (O.loadAgg isAgg48 sizeOf48 rfl rfl (Blk.row (Blk.ext (cs:=landC x r) hY29 hx)) kR),
     trivial⟩ (fun w30 he30=>?_)
   refine L.o (O.call (xs:=[.tmp 67]) call35 rfl rfl (RLCheck_calls 0 x r bd w30 (hx29.ext he30) (hr29.ext he30) hbd) (fun v31 w31 hq=>?_))
   obtain ⟨rfl,he31⟩:=hq
   refine L.o (O.neq_f rfl rfl rfl (L.nil (T.cf (T.skip (T.blk (T.region (L.o (O.add64 rfl rfl (by omega) (L.m rfl (L.nil (T.again (j+1) (by omega) ⟨rfl,rfl,rfl,rfl,rfl,rfl,rfl,rfl,trivial⟩ ⟨by omega,he2227.trans (he2729.trans (he30.trans he31))⟩)))))))))))
  ·refine L.nil (T.seq (T.cf (T.exit rfl (T.q (L.o (O.loadAgg isAgg81 sizeOf81 rfl rfl (Blk.row (Blk.ext (cs:=r0.cells++r1.cells++r2.cells++r3.cells) hQ19 (he1922.trans he25))) (L.m rfl (L.nil (T.block (?_))))))))))
   refine T.loop (σ:=Nat) (fun k=>[(10,.pointer (some ⟨b10,0,none⟩)),(11,.pointer (some ⟨b13,0,none⟩)),(12,.pointer (some ⟨b15,0,none⟩)),(14,.pointer (some ⟨b21,0,none⟩)),(47,.agg (r0.cells++r1.cells++r2.cells++r3.cells).toArray),(48,.int .i64 i),(71,.agg (r0.cells++r1.cells++r2.cells++r3.cells).toArray),(72,.int .i64 k)]) (fun k w'=>k≤4∧Ext w22 w') (fun k=>4-k) (0) ⟨rfl,rfl,rfl,rfl,rfl,rfl,rfl,rfl,trivial⟩ ⟨Nat.zero_le _,he25⟩ ?_
   rintro k w32 ⟨hk,he32⟩
   refine T.q (L.o (O.lss_s rfl rfl (fun hltk=>?_) (fun hltk=>?_)))
   ·refine L.nil (?_)
    have hltk':k<4:=by omega
    obtain ⟨q,hq0⟩:∃ q,q = [r0,r1,r2,r3].getD k r0:=⟨_,rfl⟩
    have hqo:=hall19 k hltk'
    have hgk:=rolls4_get (r0:=r0) (r1:=r1) (r2:=r2) (r3:=r3) hltk'
    rw [← hq0] at hgk hqo
    refine T.seq (T.ct (T.skip (T.seq (T.block (T.q (L.o (O.index_agg_to runUnderlying81 isAgg25 sizeOf25 rfl rfl (by omega) (by omega) hgk (L.o (O.alloc zeroValue25 (fun b33 w33 hb33 hz33 he33 hB33=>?_))))))))))
    have hq33:=hqo.ext (he1922.trans (he32.trans he33))
    refine L.o (O.storeAgg sizeOf25 rfl rfl rfl hB33 (Nat.le_refl _) (roll_one hq33) (fun w34 hu34 hB34=>?_))
    replace hu34:Upd b33 w33 w34:=hu34
    have hG34:Blk w34 b33 q.cells 25:=hB34
    have he3234:Ext w32 w34:=he33.upd hu34 (.inr (by omega))
    have he2234:=he32.trans he3234
    have hq34:=hqo.ext (he1922.trans he2234)
    have hr34:=hr22.ext he2234
    have hF34:=Blk.ext (cs:=r.cells) hF22 he2234
    refine L.nil (T.seq (?_))
    refine T.anyE mixed 5 [14,19] rfl [.is _,.is _,.is (.bool (sameB r q)),.is _,.is _] [[],[],[0,1],[],[]] [[],[],[0,1],[],[],[0,1,2,3,4],[0,1,2,3,4,5]] (by kernel_rfl) (by kernel_rfl) rfl (by kernel_rfl) trivial ⟨fun wx hx=>Ob.o (O.loadAgg isAgg25 sizeOf25 rfl rfl (Blk.row (Blk.ext (cs:=r.cells) hF34 hx)) kR),
      fun wx hx=>Ob.o (O.loadAgg isAgg25 sizeOf25 rfl rfl (Blk.row (Blk.ext (cs:=q.cells) hG34 hx)) kR),
      fun wx hx=>Ob.o (O.call (xs:=[.tmp 75,.tmp 76]) call36 rfl rfl (SameRoll_calls 0 0 r q wx (hr34.ext hx) (hq34.ext hx)) (fun v wy h=>⟨h.2,h.1⟩)),
      fun wx hx=>Ob.o (O.loadAgg isAgg25 sizeOf25 rfl rfl (Blk.row (Blk.ext (cs:=r.cells) hF34 hx)) kR),
      fun wx hx=>Ob.o (O.loadAgg isAgg25 sizeOf25 rfl rfl (Blk.row (Blk.ext (cs:=q.cells) hG34 hx)) kR),
      trivial⟩ (fun w35 he35=>?_)
    refine L.o (O.call (xs:=[.tmp 78,.tmp 79]) call37 rfl rfl (rSameRoll_calls 0 0 r q w35 (hr34.ext he35) (hq34.ext he35)) (fun v36 w36 hq=>?_))
    obtain ⟨rfl,he36⟩:=hq
    refine L.o (O.neq_bool_f runUnderlying4 rfl rfl rfl (L.nil (T.cf (T.skip (T.blk (T.region (L.o (O.add64 rfl rfl (by omega) (L.m rfl (L.nil (T.again (k+1) (by omega) ⟨rfl,rfl,rfl,rfl,rfl,rfl,rfl,rfl,trivial⟩ ⟨by omega,he2234.trans (he35.trans he36)⟩)))))))))))
   ·refine L.nil (T.seq (T.cf (T.exit rfl (T.blk (T.region (L.o (O.add64 rfl rfl (by omega) (L.m rfl (L.nil (T.again (i+1) (by omega) ⟨rfl,rfl,rfl,rfl,rfl,trivial⟩ ⟨by omega,he1922.trans he32⟩))))))))))
 ·refine L.nil (T.seq (T.cf (T.exit rfl (T.q (L.o (O.call (xs:=[]) call38 rfl rfl (works_calls w20) (fun v21 w21 hq=>?_)))))))
  obtain ⟨rfl,he21⟩:=hq
  refine L.a rfl (L.nil (T.ret1 results5 rfl ⟨rfl,he019.trans (he20.trans he21)⟩))

end Go.Proofs.YtnlonpcbgjbbaaaGreatDoor
