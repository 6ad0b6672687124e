/-
  BlocksBack, part 7 of its proof: that it returns true for every input, and each argument reads behind the call as it read before. Conditions: the listed variables read as the program's text lays them (tied by the card).
-/
import Derived.Test.YtnlonpcbgjbbaaaGreatDoorWBlocksBack6
set_option linter.unusedVariables false
set_option linter.unusedSimpArgs false
set_option maxRecDepth 20000
set_option linter.unusedVariables false
set_option linter.unusedSimpArgs false
set_option maxRecDepth 20000
namespace Go.Proofs.YtnlonpcbgjbbaaaGreatDoor
open Go.Proofs.Tryz (call126 func70 isAgg23 isAgg25 isAgg3 isAgg30 isAgg4 isAgg5 isAgg51 isAgg59 ntmps70 results70 runUnderlying114 runUnderlying23 runUnderlying25 runUnderlying3 runUnderlying30 runUnderlying5 runUnderlying51 runUnderlying54 runUnderlying59 runUnderlying9 sizeOf23 sizeOf25 sizeOf3 sizeOf30 sizeOf4 sizeOf5 sizeOf51 sizeOf59 zeroValue25 zeroValue51)
open Go Go.E
attribute [local irreducible] Go.E.T Go.E.L Go.E.O Go.E.Ob
def oU (d:Dr):List Value:=[.int .u8 d.wd,.int .u8 d.hi,d.cv,d.sv,.bool d.ho]
open Go Go.E
theorem Loc.grown {q:Value} {w w1 w2:World} {row:Option Nat} (h:Loc q w w1) (k:w1.grownBy w2 row) (hb:∀ j,row=some j→w.heap.size≤j):Loc q w w2 :=
 ⟨k.os.trans h.os,k.tape.trans h.tape,k.output.trans h.output,Nat.le_trans h.size k.size,fun i hi hq=>(k.block i (Nat.lt_of_lt_of_le hi h.size) (fun e=>by have:=hb i e.symm;omega)).trans (h.block i hi hq)⟩
theorem lG.loc {base:Nat} {q v:Value} {w w':World} {xs:List Int} (h:lG base w v xs) (k:Loc q w w') (hn:∀ b,v.ownBlock=some b→q.ownBlock≠some b):lG base w' v xs:=wQ h k hn
theorem lG.mono {base base':Nat} {v:Value} {w:World} {xs:List Int} (h:lG base w v xs) (hb:base'≤base):lG base' w v xs:=by
 refine ⟨h.1,h.2.imp id ?_⟩
 rintro ⟨g,cap,cur,rfl,h4,rest⟩
 exact ⟨g,cap,cur,rfl,by omega,rest⟩
theorem lG.nil (base:Nat) (w:World):lG base w (.slice none 0 0) []:=eG _ _ _ _
theorem lG.lt {base b:Nat} {v:Value} {w:World} {xs:List Int} (h:lG base w v xs) (hb:v.ownBlock=some b):base≤b∧b<w.heap.size:=kC h hb
def Fv (d:Dr) (n:Nat):Int:=d.wa % ((n / 3+1:Nat):Int)
def dWt (d:Dr) (n i:Nat):Bool:=decide ((n:Int)-Fv d n≤i)
def dP (d:Dr) (n i:Nat):Int:=if dWt d n i then 0 else EJ d.ns i
def dG1 (d:Dr) (n i k:Nat):Int:=EJ d.ns (3*i+k+1) % (dP d n i+1)
def dV1 (d:Dr) (n i k:Nat):Int:=if dWt d n i then 0 else EJ d.ns (5*i+k+2)
def dL1 (d:Dr) (n i k:Nat):Int:=if dWt d n i then 0 else (((EJ d.ns (i+11) % 16).toNat / 2 ^ k:Nat):Int)
def dList (f:Nat→Int) (k:Nat):List Int:=(List.range k).map f
theorem sK (f:Nat→Int) (k:Nat):dList f (k+1)=dList f k ++ [f k]:=by simp [dList,List.range_succ]
theorem dX (f:Nat→Int) (k:Nat):(dList f k).length=k:=by simp [dList]
theorem xP {f:Nat→Int} {k q:Nat} (h:q<k):(dList f k).getD q 0=f q:=by simp [dList,List.getD,h]
def dNm (i:Nat):Str:=[117]++UY i
structure DU (d:Dr) (G P L n i:Nat) (u:UnV):Prop where
 nm:u.nm=dNm i
 pp:u.pp=dP d n i
 gs:u.gs=dList (dG1 d n i) G
 vs:u.vs=dList (dV1 d n i) P
 ps:u.ps=dList (dL1 d n i) L
 wt:u.wt=dWt d n i
structure sN (base:Nat) (w:World) (u:UnV):Prop where
 g:lG base w u.gv u.gs
 v:lG base w u.vv u.vs
 p:lG base w u.pv u.ps
 n:u.nm.length≤9223372036854775807
theorem sN.ext {base:Nat} {w w':World} {u:UnV} (h:sN base w u) (k:Ext w w'):sN base w' u:=⟨h.g.ext k,h.v.ext k,h.p.ext k,h.n⟩
theorem sN.mono {base base':Nat} {w:World} {u:UnV} (h:sN base w u) (hb:base'≤base):sN base' w u:=⟨h.g.mono hb,h.v.mono hb,h.p.mono hb,h.n⟩
theorem sN.ok {base:Nat} {w:World} {u:UnV} (h:sN base w u):u.ok base w:=⟨h.g.ints,h.v.ints,h.p.ints,h.n⟩
theorem lG.row {base aeb m n:Nat} {w w':World} {v q:Value} {ys:List Value} {xs:List Int} (h:lG base w q xs) (hr:w.ownsRow aeb 51 6 v n ys) (hG:w.grownBy w' v.ownBlock):lG base w' q xs :=
 h.loc (q:=v) (Loc.jh hG) (fun b hb e=>by
  obtain ⟨_,cs,_,_,hB,_⟩:=(show aea base xs.length q w from ⟨xs,Nat.le_refl _,h⟩).blk hb
  exact row_ne hr e hB rfl)
structure UZ (base b2 b4 b5:Nat) (d:Dr) (G P L:Int) (uv:Value) (us:List UnV) (W:World):Prop where
 d2:Blk W b2 d.cells 59
 c4:Blk W b4 aaR 25
 c5:Blk W b5 [.int .i64 G,.int .i64 P,.int .i64 L,uv] 25
 row:W.ownsRow base 51 6 uv us.length (fF us)
 own:∀ u∈us,sN base W u
theorem UZ.ext {base b2 b4 b5:Nat} {d:Dr} {G P L:Int} {uv:Value} {us:List UnV} {W W':World} (h:UZ base b2 b4 b5 d G P L uv us W) (k:Ext W W'):UZ base b2 b4 b5 d G P L uv us W' :=
 ⟨h.d2.ext k,h.c4.ext k,h.c5.ext k,aG h.row k (Nat.zero_le _),fun u hu=>(h.own u hu).ext k⟩
def U0 (d:Dr) (n:Nat) (w:World) (v:Value) (w':World):Prop:=Ext w w'∧∃ r:RoV,v=r.val∧r.ok w.heap.size w'∧r.G=d.g % 3∧r.P=d.p % 4∧r.L=d.l % 4∧r.us.length=n∧∀ i,i<n→DU d (d.g % 3).toNat (d.p % 4).toNat (d.l % 4).toNat n i (r.us.getD i u0)
set_option maxHeartbeats 1000000 in
theorem Nw (lo n:Nat) (d:Dr) (w:World) (hd:d.ok lo w) (hn1:1≤n) (hn2:n≤24) :
  Calls Tryz.prog 70 #[d.val,.int .i64 n] w (Ret fun v w'=>U0 d n w v w'):=by
 refine T.enter (vs:=[d.val,.int .i64 n]) func70 rfl ntmps70 rfl ?_
 refine T.q (L.o (O.box rfl (fun b2 w2 hb2 hz2 he2 hB2=>?_)))
 refine L.o (O.alloc zeroValue25 (fun b4 w4 hb4 hz4 he4 hB4=>?_))
 have U1:=he2.trans he4
 have hD4:Blk w4 b2 d.cells 59:=Blk.ext (cs:=d.cells) hB2 he4
 have hR4:Blk w4 b4 aaR 25:=hB4
 have hg0:=hd.g0
 have hp0:=hd.p0
 have hl0:=hd.l0
 have ha0:=hd.a0
 unfold qH at hg0 hp0 hl0 ha0
 refine L.nil (T.q (L.o (O.fieldAddr runUnderlying59 rfl sizeOf5 rfl (L.o (O.load isAgg5 rfl (hD4.cell rfl) (L.o (O.rem rfl rfl (by omega) (by omega) (L.o (O.fC rfl (fun w=>⟨_,runUnderlying5 w⟩) runUnderlying3 (IntWalk.i64_in _ ⟨by omega,by omega⟩) (L.o (O.fieldAddr runUnderlying59 rfl sizeOf5 rfl (L.o (O.load isAgg5 rfl (hD4.cell rfl) (L.o (O.rem rfl rfl (by omega) (by omega) (L.o (O.fC rfl (fun w=>⟨_,runUnderlying5 w⟩) runUnderlying3 (IntWalk.i64_in _ ⟨by omega,by omega⟩) (L.o (O.fieldAddr runUnderlying59 rfl sizeOf5 rfl (L.o (O.load isAgg5 rfl (hD4.cell rfl) (L.o (O.rem rfl rfl (by omega) (by omega) (L.o (O.fC rfl (fun w=>⟨_,runUnderlying5 w⟩) runUnderlying3 (IntWalk.i64_in _ ⟨by omega,by omega⟩) (L.o (O.build (v:=.agg #[.int .i64 (d.g % 3),.int .i64 (d.p % 4),.int .i64 (d.l % 4),.slice none 0 0]) (parts:=[(0,.tmp 18),(1,.tmp 22),(2,.tmp 26)]) (vs:=[(0,_),(1,_),(2,_)]) rfl (fun w=>by kernel_rfl) (L.o (O.alloc zeroValue25 (fun b5 w5 hb5 hz5 he5 hB5=>?_))))))))))))))))))))))))))))))
 refine L.o (O.aC sizeOf25 rfl rfl rfl hB5 (Nat.le_refl _) (by intro u hu;simp at hu;rcases hu with (rfl|rfl|rfl|rfl) <;> rfl) (fun w6 hu6 hB6=>?_))
 replace hu6:Upd b5 w5 w6:=hu6
 have hC6:Blk w6 b5 [.int .i64 (d.g % 3),.int .i64 (d.p % 4),.int .i64 (d.l % 4),.slice none 0 0] 25:=hB6
 have hb2':=hD4.lt
 have ame:=hR4.lt
 have Di:=hC6.lt
 have amf:=U1.size
 have hz5:=he5.size
 have hz6:=hu6.size
 have AV:Ext w4 w6:=he5.upd hu6 (.inr (by omega))
 have Ih:Ext w w6:=U1.trans AV
 refine L.nil (T.q (L.o (O.fieldAddr runUnderlying59 rfl sizeOf5 rfl (L.o (O.load isAgg5 rfl ((hD4.ext AV).cell rfl) (L.o (O.fC rfl (fun w=>⟨_,runUnderlying5 w⟩) runUnderlying3 (IntWalk.i64_in _ ⟨by omega,by omega⟩) (L.m rfl (L.o (O.aaz rfl rfl (by omega) (L.o (O.aI rfl rfl (by omega) (?_)))))))))))))
 rw [show ((n:Int) / 3+1)=((n / 3+1:Nat):Int) by omega]
 refine L.o (O.rem rfl rfl (by omega) (by omega) (?_))
 obtain ⟨wt,hwt⟩:∃ wt,wt=Fv d n:=⟨_,rfl⟩
 have hwe:d.wa % ((n / 3+1:Nat):Int)=wt:=by rw [hwt];rfl
 rw [hwe]
 have hw0:0≤wt∧wt≤255:=by rw [← hwe];exact ⟨Int.emod_nonneg _ (by omega),by have:=Int.emod_lt_of_pos d.wa (show (0:Int)<((n / 3+1:Nat):Int) by omega);omega⟩
 refine L.a rfl (L.nil (T.seq (T.q (L.a rfl (L.nil (T.block (?_)))))))
 refine T.loop (σ:=Nat × Value × List UnV) (fun s=>[(1,.int .i64 n),(2,.pointer (some ⟨b2,0,none⟩)),(4,.pointer (some ⟨b4,0,none⟩)),(5,.pointer (some ⟨b5,0,none⟩)),(6,.int .i64 wt),(7,.int .i64 s.1)]) (fun s w'=>s.1≤n∧Ext w w'∧w6.heap.size≤w'.heap.size∧UZ w6.heap.size b2 b4 b5 d (d.g % 3) (d.p % 4) (d.l % 4) s.2.1 s.2.2 w'∧s.2.2.length=s.1∧∀ j,j<s.1→DU d (d.g % 3).toNat (d.p % 4).toNat (d.l % 4).toNat n j (s.2.2.getD j u0)) (fun s=>n-s.1) ((0,.slice none 0 0,[])) ⟨rfl,rfl,rfl,rfl,rfl,rfl,trivial⟩ ⟨Nat.zero_le _,Ih,Nat.le_refl _,⟨hD4.ext AV,hR4.ext AV,hC6,eG _ _ _ _,fun _ h=>(by cases h)⟩,rfl,fun j hj=>absurd hj (Nat.not_lt_zero _)⟩ ?_
 rintro ⟨i,uv,us⟩ w7 ⟨hi,he7,hz7,hS7,hl7,hU7⟩
 simp only at hi hS7 hl7 hU7
 refine T.seq (T.q (L.m rfl (L.m rfl (L.o (O.bF rfl rfl (fun hlt=>?_) (fun hlt=>?_))))))
 ·refine L.nil (?_)
  have hlt':i<n:=by omega
  have hdig:=Qm (n:=i) (by omega)
  refine T.ct (T.skip (T.seq (T.block (T.q (L.m rfl (L.o (O.aaz rfl rfl (by (try dsimp only);omega) (L.o (O.fC rfl (fun w=>⟨_,runUnderlying3 w⟩) runUnderlying5 (IntWalk.u8_in _ ⟨by omega,by omega⟩) (L.o (O.add8 rfl rfl (by (try dsimp only);omega) (L.m rfl (L.o (O.rem rfl rfl (by omega) (by omega) (L.o (O.fC rfl (fun w=>⟨_,runUnderlying3 w⟩) runUnderlying5 (IntWalk.u8_in _ ⟨by omega,by omega⟩) (L.o (O.add8 rfl rfl (by (try dsimp only);omega) (L.o (O.buildSlice (el:=5) (parts:=[(0,.tmp 43),(1,.tmp 47)]) (vs:=[(0,_),(1,_)]) (cs:=[.int .u8 (48+(i:Int) / 10),.int .u8 (48+(i:Int) % 10)]) rfl (fun w=>by kernel_rfl) (fun b8 w8 hb8 hz8 he8 hB8=>?_)))))))))))))))))))))
  refine L.o (O.PZ runUnderlying54 runUnderlying5 runUnderlying9 rfl (show Ints .u8 0 w8 (.slice (some ⟨b8,0,none⟩) 2 2) ((UY i).map fun c=>(c.toNat:Int)) from by rw [hdig];exact Ints.ay hB8 rfl (by decide) (Nat.zero_le _)) (by simp [UY]) (L.o (O.jV rfl rfl (by simp [UY]) (L.m rfl (L.m rfl (L.m rfl (L.o (O.gq rfl rfl (by omega) (L.o (O.geq rfl rfl (?_)))))))))))
  have aiG:decide ((n:Int)-wt≤i)=dWt d n i:=by rw [hwt];rfl
  rw [aiG]
  refine L.o (O.build (v:=.agg #[str (dNm i),.int .i64 0,.slice none 0 0,.slice none 0 0,.slice none 0 0,.bool (dWt d n i)]) (parts:=[(0,.tmp 50),(5,.tmp 55)]) (vs:=[(0,_),(5,_)]) rfl (fun w=>by kernel_rfl) (L.o (O.alloc zeroValue51 (fun b9 w9 hb9 hz9 he9 hB9=>?_))))
  refine L.o (O.aC sizeOf51 rfl rfl rfl hB9 (Nat.le_refl _) (by intro u hu;simp at hu;rcases hu with (rfl|rfl|rfl|rfl|rfl|rfl) <;> rfl) (fun w10 O7 Ii=>?_))
  replace O7:Upd b9 w9 w10:=O7
  have Qn:Blk w10 b9 [str (dNm i),.int .i64 0,.slice none 0 0,.slice none 0 0,.slice none 0 0,.bool (dWt d n i)] 51:=Ii
  have hz8:=he8.size
  have hz9:=he9.size
  have Z9:=O7.size
  have hb9:b9=w8.heap.size:=hb9
  have U2:Ext w7 w10:=(he8.trans he9).upd O7 (.inr (by omega))
  have hlb:∀ x,(Value.slice (some ⟨b9,0,none⟩) 0 0).ownBlock=some x→b9=x:=fun x hx=>Option.some.inj hx
  have hd10:=hd.ext (he7.trans U2)
  have amg:=xM hd.nl i
  refine L.nil (T.seq (?_))
  refine T.join (σ:=Unit) (fun _=>[(1,.int .i64 n),(2,.pointer (some ⟨b2,0,none⟩)),(4,.pointer (some ⟨b4,0,none⟩)),(5,.pointer (some ⟨b5,0,none⟩)),(6,.int .i64 wt),(7,.int .i64 i),(8,.pointer (some ⟨b9,0,none⟩))]) (fun _ w'=>Ext w7 w'∧Blk w' b9 [str (dNm i),.int .i64 (dP d n i),.slice none 0 0,.slice none 0 0,.slice none 0 0,.bool (dWt d n i)] 51) ?_ ?_
  ·refine T.q (L.o (O.fieldAddr runUnderlying51 rfl sizeOf4 rfl (L.o (O.load isAgg4 rfl (Qn.cell rfl) (?_)))))
   rcases hwi:dWt d n i with _|_
   ·refine L.o (O.not rfl (L.nil (T.ct (T.region (L.o (O.ak isAgg59 sizeOf59 rfl rfl ((hS7.d2.ext U2).row) (L.m rfl (L.o (O.call (xs:=[.tmp 60,.tmp 61]) call126 rfl rfl (nZ lo d i w10 hd10 (by omega)) (fun v12 w12 hq=>?_))))))))))
    obtain ⟨rfl,fQ⟩:=hq
    rw [hwi] at Qn
    refine L.o (O.fieldAddr runUnderlying51 rfl sizeOf3 rfl (L.o (O.store1 sizeOf3 rfl rfl rfl (Qn.ext fQ) (by simp [Value.cells]) (fun w13 wR xQ=>?_))))
    replace wR:Upd b9 w12 w13:=wR
    refine L.nil (T.meet (()) ⟨rfl,rfl,rfl,rfl,rfl,rfl,rfl,trivial⟩ ⟨(U2.trans fQ).upd wR (.inr (by omega)),by rw [show dP d n i=EJ d.ns i by rw [dP,hwi];rfl];exact xQ⟩)
   rw [hwi] at Qn
   refine L.o (O.not rfl (L.nil (T.cf (T.skip (T.meet (()) ⟨rfl,rfl,rfl,rfl,rfl,rfl,rfl,trivial⟩ ⟨U2,by rw [show dP d n i=0 by rw [dP,hwi];rfl];exact Qn⟩)))))
  rintro _ w11 ⟨eH,oV⟩
  have Yi:=hS7.ext eH
  have amh:=oV.lt
  have hdP:0≤dP d n i∧dP d n i≤65535:=by unfold dP;split <;> omega
  refine T.seq (T.q (L.a rfl (L.nil (T.block (?_)))))
  refine T.loop (σ:=Nat × Value) (fun s=>[(1,.int .i64 n),(2,.pointer (some ⟨b2,0,none⟩)),(4,.pointer (some ⟨b4,0,none⟩)),(5,.pointer (some ⟨b5,0,none⟩)),(6,.int .i64 wt),(7,.int .i64 i),(8,.pointer (some ⟨b9,0,none⟩)),(9,.int .i64 s.1)]) (fun s w'=>(s.1:Int)≤d.g % 3∧Loc (.slice (some ⟨b9,0,none⟩) 0 0) w11 w'∧Blk w' b9 [str (dNm i),.int .i64 (dP d n i),s.2,.slice none 0 0,.slice none 0 0,.bool (dWt d n i)] 51∧lG w11.heap.size w' s.2 (dList (dG1 d n i) s.1)) (fun s=>(d.g % 3).toNat-s.1) ((0,.slice none 0 0)) ⟨rfl,rfl,rfl,rfl,rfl,rfl,rfl,rfl,trivial⟩ ⟨by show ((0:Nat):Int)≤d.g % 3;omega,Loc.aV (Keep.refl _ _),oV,lG.nil _ _⟩ ?_
  rintro ⟨k,gv⟩ w20 ⟨aiH,aec,U3,Xt⟩
  simp only at aiH U3 Xt
  have Uu:Ext w7 w20:=aec.keep eH (fun x hx=>by have:=hlb x hx;omega)
  have agW:=hS7.ext Uu
  refine T.seq (T.q (L.m rfl (L.o (O.fieldAddr runUnderlying25 rfl sizeOf3 rfl (L.o (O.load isAgg3 rfl (agW.c5.cell rfl) (L.o (O.bF rfl rfl (fun aed=>?_) (fun aed=>?_)))))))))
  ·refine L.nil (?_)
   have aiI:=hd.ext (he7.trans Uu)
   have hnd:=xM hd.nl (3*i+k+1)
   refine T.ct (T.skip (T.seq (T.block (T.seq (?_)))))
   refine T.fJ mixed 10 [2,7,9,8] rfl [.is _,.is _,.is _,.is _,.is _,.is (.int .i64 ((3*i+k+1:Nat):Int)),.is _,.is _,.is _,.is _] [[],[],[1],[],[2,3],[4],[0,5],[],[7],[8]] [[],[],[1],[],[1,2,3],[1,2,3,4],[0,1,2,3,4,5],[],[7],[7,8],[0,1,2,3,4,5,6,7,8,9],[0,1,2,3,4,5,6,7,8,9,10]] (by kernel_rfl) (by kernel_rfl) rfl (by kernel_rfl) trivial ⟨fun wx hx=>Ob.o (O.ak isAgg59 sizeOf59 rfl rfl ((agW.d2.ext hx).row) kR),
     fun wx hx=>Ob.o (O.move rfl kR),
     fun wx hx=>Ob.o (O.l9 rfl rfl (by (try dsimp only);omega) kR),
     fun wx hx=>Ob.o (O.move rfl kR),
     fun wx hx=>Ob.o (O.aI rfl rfl (by (try dsimp only);omega) kR),
     fun wx hx=>Ob.o (O.aI rfl rfl (by (try dsimp only);omega) ⟨Keep.refl _ _,by show Value.int .i64 (3*(i:Int)+(k:Int)+1)=_;rw [show 3*(i:Int)+(k:Int)+1=((3*i+k+1:Nat):Int) by omega]⟩),
     fun wx hx=>Ob.o (O.call (xs:=[.tmp 70,.tmp 75]) call126 rfl rfl (nZ lo d (3*i+k+1) wx (aiI.ext hx) (by omega)) (fun v wy h=>⟨h.2,h.1⟩)),
     fun wx hx=>Ob.o (O.fieldAddr runUnderlying51 rfl sizeOf3 rfl kR),
     fun wx hx=>Ob.o (O.load isAgg3 rfl ((U3.ext hx).cell rfl) kR),
     fun wx hx=>Ob.o (O.aI rfl rfl (by omega) kR),
     trivial⟩ (fun w21 EK=>?_)
   refine L.o (O.rem rfl rfl (by omega) (by omega) (?_))
   have agX:=EK
   have hBx:=U3.ext EK
   refine L.a rfl (L.nil (T.region (L.o (O.fieldAddr runUnderlying51 rfl sizeOf30 rfl (L.o (O.load isAgg30 rfl (hBx.cell rfl) (L.m rfl (L.o (O.buildSlice (el:=3) (parts:=[(0,.tmp 83)]) (vs:=[(0,_)]) (cs:=[.int .i64 (dG1 d n i k)]) rfl (fun w=>by kernel_rfl) (fun b23 w23 ami amj aee aef=>?_))))))))))
   have hOx:=(Xt.ext EK).ext aee
   have hlx:=(aec.trans (Loc.aV EK)).trans (Loc.aV aee)
   have hlen:=dX (dG1 d n i) k
   refine L.o (O.append (size:=1) (bytes:=8) runUnderlying30 Tryz.jU rfl rfl rfl rfl (by decide) rfl rfl hOx (Sl.ay (lo:=0) (n:=1) (sz:=1) aef rfl (Nat.le_refl _) (by decide) (Nat.zero_le _)) (by intro c hc;simp at hc;simp [hc,Value.oneCell']) (by omega) (by simp only [maxLen];omega) (by have:=hlx.size;omega) (fun v24 w24 aeg agY=>?_))
   have hly:=hlx.grown agY (fun j hj=>(hOx.lt hj).1)
   have hzb:b9<w11.heap.size:=by have:=oV.lt;omega
   have hvn:v24.oneCell'=true:=Sl.one (Sl.aT aeg)
   refine L.o (O.fieldAddr runUnderlying51 rfl sizeOf30 rfl (L.o (O.store1 sizeOf30 hvn rfl rfl ((hBx.ext aee).grown agY (fun j hj=>by have:=(hOx.lt hj).1;omega)) (by simp [Value.cells]) (fun w25 KR Dj=>?_))))
   replace KR:Upd b9 w24 w25:=KR
   refine L.nil (T.blk (T.region (L.m rfl (L.o (O.aI rfl rfl (by omega) (L.a rfl (L.nil (T.again ((k+1,v24)) (by show (d.g % 3).toNat-(k+1)<(d.g % 3).toNat-k;omega) ⟨rfl,rfl,rfl,rfl,rfl,rfl,rfl,rfl,trivial⟩ ⟨by omega,hly.trans (Loc.kJ KR rfl),Dj,?_⟩))))))))
   ·have hfin:lG w11.heap.size w24 v24 (dList (dG1 d n i) (k+1)):=by
     unfold lG;rw [dX,sK,List.map_append];rw [hlen] at aeg;exact aeg
    exact hfin.loc (q:=.slice (some ⟨b9,0,none⟩) 0 0) (Loc.kJ KR rfl) (fun x hx e=>by have:=hlb x e;have:=(hfin.lt hx).1;omega)
  refine L.nil (?_)
  have hke:k=(d.g % 3).toNat:=by omega
  rw [hke] at Xt
  have amk:=aec.size
  have Yj:lG w11.heap.size w20 gv (dList (dG1 d n i) (d.g % 3).toNat):=Xt.mono (by omega)
  refine T.cf (T.exit rfl (T.seq (T.q (L.a rfl (L.nil (T.block (?_)))))))
  refine T.loop (σ:=Nat × Value) (fun s=>[(1,.int .i64 n),(2,.pointer (some ⟨b2,0,none⟩)),(4,.pointer (some ⟨b4,0,none⟩)),(5,.pointer (some ⟨b5,0,none⟩)),(6,.int .i64 wt),(7,.int .i64 i),(8,.pointer (some ⟨b9,0,none⟩)),(11,.int .i64 s.1)]) (fun s w'=>(s.1:Int)≤d.p % 4∧Loc (.slice (some ⟨b9,0,none⟩) 0 0) w20 w'∧Blk w' b9 [str (dNm i),.int .i64 (dP d n i),gv,s.2,.slice none 0 0,.bool (dWt d n i)] 51∧lG w20.heap.size w' s.2 (dList (dV1 d n i) s.1)) (fun s=>(d.p % 4).toNat-s.1) ((0,.slice none 0 0)) ⟨rfl,rfl,rfl,rfl,rfl,rfl,rfl,rfl,trivial⟩ ⟨by show ((0:Nat):Int)≤d.p % 4;omega,Loc.aV (Keep.refl _ _),U3,lG.nil _ _⟩ ?_
  rintro ⟨k,vv⟩ w30 ⟨aiJ,ac9,Yk,Ny⟩
  simp only at aiJ Yk Ny
  have Nz:Ext w7 w30:=ac9.keep Uu (fun x hx=>by have:=hlb x hx;omega)
  have agZ:=hS7.ext Nz
  refine T.seq (T.q (L.m rfl (L.o (O.fieldAddr runUnderlying25 rfl sizeOf3 rfl (L.o (O.load isAgg3 rfl (agZ.c5.cell rfl) (L.o (O.bF rfl rfl (fun aeh=>?_) (fun aeh=>?_)))))))))
  ·refine L.nil (T.ct (T.skip (T.seq (T.block (T.q (L.a rfl (L.nil (T.seq (?_)))))))))
   refine T.join (σ:=Unit) (fun _=>[(1,.int .i64 n),(2,.pointer (some ⟨b2,0,none⟩)),(4,.pointer (some ⟨b4,0,none⟩)),(5,.pointer (some ⟨b5,0,none⟩)),(6,.int .i64 wt),(7,.int .i64 i),(8,.pointer (some ⟨b9,0,none⟩)),(11,.int .i64 k),(12,.int .i64 (dV1 d n i k))]) (fun _ w'=>Ext w30 w') ?_ ?_
   ·refine T.q (L.o (O.fieldAddr runUnderlying51 rfl sizeOf4 rfl (L.o (O.load isAgg4 rfl (Yk.cell rfl) (?_)))))
    rcases hwi:dWt d n i with _|_
    ·have hdq:=hd.ext (he7.trans Nz)
     refine L.o (O.not rfl (L.nil (T.ct (T.region (L.o (O.ak isAgg59 sizeOf59 rfl rfl agZ.d2.row (L.m rfl (L.o (O.l9 rfl rfl (by (try dsimp only);omega) (L.m rfl (L.o (O.aI rfl rfl (by (try dsimp only);omega) (L.o (O.aI rfl rfl (by (try dsimp only);omega) (L.o (O.call (xs:=[.tmp 96,.tmp 101]) call126 rfl rfl (nZ lo d (5*i+k+2) w30 hdq (by omega)) (fun v32 w32 hq=>?_)))))))))))))))))
     obtain ⟨rfl,Yl⟩:=hq
     refine L.a rfl (L.nil (T.meet (()) ⟨rfl,rfl,rfl,rfl,rfl,rfl,rfl,rfl,?_,trivial⟩ Yl))
     ·rw [dV1,hwi];rfl
    refine L.o (O.not rfl (L.nil (T.cf (T.skip (T.meet (()) ⟨rfl,rfl,rfl,rfl,rfl,rfl,rfl,rfl,?_,trivial⟩ (Keep.refl _ _))))))
    ·rw [dV1,hwi];rfl
   rintro _ w31 Ij
   have hBx:=Yk.ext Ij
   refine T.region (L.o (O.fieldAddr runUnderlying51 rfl sizeOf30 rfl (L.o (O.load isAgg30 rfl (hBx.cell rfl) (L.m rfl (L.o (O.buildSlice (el:=3) (parts:=[(0,.tmp 105)]) (vs:=[(0,_)]) (cs:=[.int .i64 (dV1 d n i k)]) rfl (fun w=>by kernel_rfl) (fun b33 w33 aiK aiL Ym aaS=>?_))))))))
   have hOx:=(Ny.ext Ij).ext Ym
   have hlx:=(ac9.trans (Loc.aV Ij)).trans (Loc.aV Ym)
   have hlen:=dX (dV1 d n i) k
   refine L.o (O.append (size:=1) (bytes:=8) runUnderlying30 Tryz.jU rfl rfl rfl rfl (by decide) rfl rfl hOx (Sl.ay (lo:=0) (n:=1) (sz:=1) aaS rfl (Nat.le_refl _) (by decide) (Nat.zero_le _)) (by intro c hc;simp at hc;simp [hc,Value.oneCell']) (by omega) (by simp only [maxLen];omega) (by have:=hlx.size;omega) (fun v34 w34 Qo ag0=>?_))
   have hly:=hlx.grown ag0 (fun j hj=>(hOx.lt hj).1)
   have hzb:b9<w20.heap.size:=by have:=U3.lt;omega
   have hvn:v34.oneCell'=true:=Sl.one (Sl.aT Qo)
   refine L.o (O.fieldAddr runUnderlying51 rfl sizeOf30 rfl (L.o (O.store1 sizeOf30 hvn rfl rfl ((hBx.ext Ym).grown ag0 (fun j hj=>by have:=(hOx.lt hj).1;omega)) (by simp [Value.cells]) (fun w35 ada aaT=>?_))))
   replace ada:Upd b9 w34 w35:=ada
   refine L.nil (T.blk (T.region (L.m rfl (L.o (O.aI rfl rfl (by omega) (L.a rfl (L.nil (T.again ((k+1,v34)) (by show (d.p % 4).toNat-(k+1)<(d.p % 4).toNat-k;omega) ⟨rfl,rfl,rfl,rfl,rfl,rfl,rfl,rfl,trivial⟩ ⟨by omega,hly.trans (Loc.kJ ada rfl),aaT,?_⟩))))))))
   ·have hfin:lG w20.heap.size w34 v34 (dList (dV1 d n i) (k+1)):=by
     unfold lG;rw [dX,sK,List.map_append];rw [hlen] at Qo;exact Qo
    exact hfin.loc (q:=.slice (some ⟨b9,0,none⟩) 0 0) (Loc.kJ ada rfl) (fun x hx e=>by have:=hlb x e;have:=(hfin.lt hx).1;omega)
  refine L.nil (?_)
  have hke:k=(d.p % 4).toNat:=by omega
  rw [hke] at Ny
  have Yj:=Yj.loc ac9 (fun x hx e=>by have:=hlb x e;have:=(Yj.lt hx).1;omega)
  have aiM:=ac9.size
  have adb:lG w11.heap.size w30 vv (dList (dV1 d n i) (d.p % 4).toNat):=Ny.mono (by omega)
  refine T.cf (T.exit rfl (T.seq (T.q (L.a rfl (L.nil (T.block (?_)))))))
  refine T.loop (σ:=Nat × Value) (fun s=>[(1,.int .i64 n),(2,.pointer (some ⟨b2,0,none⟩)),(4,.pointer (some ⟨b4,0,none⟩)),(5,.pointer (some ⟨b5,0,none⟩)),(6,.int .i64 wt),(7,.int .i64 i),(8,.pointer (some ⟨b9,0,none⟩)),(13,.int .i64 s.1)]) (fun s w'=>(s.1:Int)≤d.l % 4∧Loc (.slice (some ⟨b9,0,none⟩) 0 0) w30 w'∧Blk w' b9 [str (dNm i),.int .i64 (dP d n i),gv,vv,s.2,.bool (dWt d n i)] 51∧lG w30.heap.size w' s.2 (dList (dL1 d n i) s.1)) (fun s=>(d.l % 4).toNat-s.1) ((0,.slice none 0 0)) ⟨rfl,rfl,rfl,rfl,rfl,rfl,rfl,rfl,trivial⟩ ⟨by show ((0:Nat):Int)≤d.l % 4;omega,Loc.aV (Keep.refl _ _),Yk,lG.nil _ _⟩ ?_
  rintro ⟨k,pv⟩ w40 ⟨aiN,aaU,ade,adf⟩
  simp only at aiN ade adf
  have Yn:Ext w7 w40:=aaU.keep Nz (fun x hx=>by have:=hlb x hx;omega)
  have adg:=hS7.ext Yn
  refine T.seq (T.q (L.m rfl (L.o (O.fieldAddr runUnderlying25 rfl sizeOf3 rfl (L.o (O.load isAgg3 rfl (adg.c5.cell rfl) (L.o (O.bF rfl rfl (fun aei=>?_) (fun aei=>?_)))))))))
  ·refine L.nil (T.ct (T.skip (T.seq (T.block (T.q (L.a rfl (L.nil (T.seq (?_)))))))))
   refine T.join (σ:=Unit) (fun _=>[(1,.int .i64 n),(2,.pointer (some ⟨b2,0,none⟩)),(4,.pointer (some ⟨b4,0,none⟩)),(5,.pointer (some ⟨b5,0,none⟩)),(6,.int .i64 wt),(7,.int .i64 i),(8,.pointer (some ⟨b9,0,none⟩)),(13,.int .i64 k),(14,.int .i64 (dL1 d n i k))]) (fun _ w'=>Ext w40 w') ?_ ?_
   ·refine T.q (L.o (O.fieldAddr runUnderlying51 rfl sizeOf4 rfl (L.o (O.load isAgg4 rfl (ade.cell rfl) (?_)))))
    rcases hwi:dWt d n i with _|_
    ·have hdq:=hd.ext (he7.trans Yn)
     refine L.o (O.not rfl (L.nil (T.ct (T.region (L.o (O.ak isAgg59 sizeOf59 rfl rfl adg.d2.row (L.m rfl (L.o (O.aI rfl rfl (by (try dsimp only);omega) (L.o (O.call (xs:=[.tmp 118,.tmp 120]) call126 rfl rfl (nZ lo d (i+11) w40 hdq (by omega)) (fun v42 w42 hq=>?_))))))))))))
     obtain ⟨rfl,aac⟩:=hq
     have hnp:=xM hd.nl (i+11)
     refine L.o (O.rem rfl rfl (by omega) (by omega) (?_))
     obtain ⟨c16,hc16⟩:∃ c16:Nat,EJ d.ns (i+11) % 16=c16:=⟨(EJ d.ns (i+11) % 16).toNat,by omega⟩
     rw [hc16]
     refine L.m rfl (L.o (O.fC rfl (fun w=>⟨_,runUnderlying3 w⟩) runUnderlying114 (IntWalk.u64_in _ ⟨by omega,by omega⟩) (L.o (O.X7 rfl rfl (by omega) (L.a rfl (L.nil (T.meet (()) ⟨rfl,rfl,rfl,rfl,rfl,rfl,rfl,rfl,?_,trivial⟩ aac)))))))
     ·rw [dL1,hwi,hc16];rfl
    refine L.o (O.not rfl (L.nil (T.cf (T.skip (T.meet (()) ⟨rfl,rfl,rfl,rfl,rfl,rfl,rfl,rfl,?_,trivial⟩ (Keep.refl _ _))))))
    ·rw [dL1,hwi];rfl
   rintro _ w41 Yo
   have hBx:=ade.ext Yo
   refine T.region (L.o (O.fieldAddr runUnderlying51 rfl sizeOf30 rfl (L.o (O.load isAgg30 rfl (hBx.cell rfl) (L.m rfl (L.o (O.buildSlice (el:=3) (parts:=[(0,.tmp 128)]) (vs:=[(0,_)]) (cs:=[.int .i64 (dL1 d n i k)]) rfl (fun w=>by kernel_rfl) (fun b43 w43 aiO aiP aaV aej=>?_))))))))
   have hOx:=(adf.ext Yo).ext aaV
   have hlx:=(aaU.trans (Loc.aV Yo)).trans (Loc.aV aaV)
   have hlen:=dX (dL1 d n i) k
   refine L.o (O.append (size:=1) (bytes:=8) runUnderlying30 Tryz.jU rfl rfl rfl rfl (by decide) rfl rfl hOx (Sl.ay (lo:=0) (n:=1) (sz:=1) aej rfl (Nat.le_refl _) (by decide) (Nat.zero_le _)) (by intro c hc;simp at hc;simp [hc,Value.oneCell']) (by omega) (by simp only [maxLen];omega) (by have:=hlx.size;omega) (fun v44 w44 aek ag1=>?_))
   have hly:=hlx.grown ag1 (fun j hj=>(hOx.lt hj).1)
   have hzb:b9<w30.heap.size:=by have:=Yk.lt;omega
   have hvn:v44.oneCell'=true:=Sl.one (Sl.aT aek)
   refine L.o (O.fieldAddr runUnderlying51 rfl sizeOf30 rfl (L.o (O.store1 sizeOf30 hvn rfl rfl ((hBx.ext aaV).grown ag1 (fun j hj=>by have:=(hOx.lt hj).1;omega)) (by simp [Value.cells]) (fun w45 aad Yp=>?_))))
   replace aad:Upd b9 w44 w45:=aad
   refine L.nil (T.blk (T.region (L.m rfl (L.o (O.aI rfl rfl (by omega) (L.a rfl (L.nil (T.again ((k+1,v44)) (by show (d.l % 4).toNat-(k+1)<(d.l % 4).toNat-k;omega) ⟨rfl,rfl,rfl,rfl,rfl,rfl,rfl,rfl,trivial⟩ ⟨by omega,hly.trans (Loc.kJ aad rfl),Yp,?_⟩))))))))
   ·have hfin:lG w30.heap.size w44 v44 (dList (dL1 d n i) (k+1)):=by
     unfold lG;rw [dX,sK,List.map_append];rw [hlen] at aek;exact aek
    exact hfin.loc (q:=.slice (some ⟨b9,0,none⟩) 0 0) (Loc.kJ aad rfl) (fun x hx e=>by have:=hlb x e;have:=(hfin.lt hx).1;omega)
  refine L.nil (?_)
  have hke:k=(d.l % 4).toNat:=by omega
  rw [hke] at adf
  have Yj:=Yj.loc aaU (fun x hx e=>by have:=hlb x e;have:=(Yj.lt hx).1;omega)
  have adb:=adb.loc aaU (fun x hx e=>by have:=hlb x e;have:=(adb.lt hx).1;omega)
  have ag2:=aaU.size
  have aiQ:lG w11.heap.size w40 pv (dList (dL1 d n i) (d.l % 4).toNat):=adf.mono (by omega)
  obtain ⟨u,hu⟩:∃ u:UnV,u=⟨dNm i,dP d n i,gv,dList (dG1 d n i) (d.g % 3).toNat,vv,dList (dV1 d n i) (d.p % 4).toNat,pv,dList (dL1 d n i) (d.l % 4).toNat,dWt d n i⟩:=⟨_,rfl⟩
  have hBu:Blk w40 b9 u.cells 51:=by rw [hu];exact ade
  have hown:sN w11.heap.size w40 u:=by rw [hu];exact ⟨Yj,adb,aiQ,by show (dNm i).length≤_;simp [dNm,UY]⟩
  refine T.cf (T.exit rfl (T.region (L.o (O.fieldAddr runUnderlying25 rfl sizeOf23 rfl (L.o (O.load isAgg23 rfl (adg.c5.cell rfl) (L.o (O.ak isAgg51 sizeOf51 rfl rfl hBu.row (L.o (O.buildSlice (el:=51) (parts:=[(0,.tmp 134)]) (vs:=[(0,_)]) (cs:=u.cells) rfl (fun w=>by kernel_rfl) (fun b60 w60 aml amm aaW aiR=>?_)))))))))))
  have NC:=adg.ext aaW
  have Xu:=hown.ext aaW
  refine L.o (O.append (size:=6) (bytes:=104) runUnderlying23 Tryz.KC rfl rfl rfl rfl (by decide) rfl rfl NC.row (Sl.ay (lo:=0) (n:=1) (sz:=6) aiR rfl (Nat.le_refl _) (by decide) (Nat.zero_le _)) (Xu.ok.one) (by omega) (by simp only [maxLen];omega) (by have:=Yn.size;have:=aaW.size;omega) (fun v61 w61 ag3 Qq=>?_))
  have hne:∀ b',b'<w6.heap.size→∀ j,uv.ownBlock=some j→j≠b':=fun b' hb' j hj=>by have:=(kC NC.row hj).1;omega
  have hvn:v61.oneCell'=true:=Sl.one (Sl.aT ag3)
  have aiS:Ext w w60:=(he7.trans Yn).trans aaW
  have aiT:Ext w w61:=aiS.fO NC.row Qq (by have:=Ih.size;omega)
  refine L.o (O.fieldAddr runUnderlying25 rfl sizeOf23 rfl (L.o (O.store1 sizeOf23 hvn rfl rfl (NC.c5.grown Qq (hne b5 Di)) (by simp [Value.cells]) (fun w62 Xv U4=>?_))))
  replace Xv:Upd b5 w61 w62:=Xv
  have ael:Loc (.slice (some ⟨b5,0,none⟩) 0 0) w61 w62:=Loc.kJ Xv rfl
  have aem:∀ {base:Nat} {v:Value} {xs:List Int},w6.heap.size≤base→lG base w61 v xs→∀ b,v.ownBlock=some b→(Value.slice (some ⟨b5,0,none⟩) 0 0).ownBlock≠some b:=fun hb h b h1 e=>by have e':b5=b:=Option.some.inj e;have:=(h.lt h1).1;omega
  have Xw:=eH.size
  have mv:∀ x,sN w6.heap.size w60 x→sN w6.heap.size w62 x:=fun x hx=>⟨(hx.g.row NC.row Qq (m:=0)).loc ael (aem (Nat.le_refl _) (hx.g.row NC.row Qq (m:=0))),(hx.v.row NC.row Qq (m:=0)).loc ael (aem (Nat.le_refl _) (hx.v.row NC.row Qq (m:=0))),(hx.p.row NC.row Qq (m:=0)).loc ael (aem (Nat.le_refl _) (hx.p.row NC.row Qq (m:=0))),hx.n⟩
  refine L.nil (T.blk (T.region (L.m rfl (L.o (O.aI rfl rfl (by omega) (L.a rfl (L.nil (T.again ((i+1,v61,us ++ [u])) (by omega) ⟨rfl,rfl,rfl,rfl,rfl,rfl,trivial⟩ ⟨by omega,aiT.upd Xv (.inr (by omega)),?_,⟨(NC.d2.grown Qq (hne b2 (by omega))).upd Xv (by omega),(NC.c4.grown Qq (hne b4 (by omega))).upd Xv (by omega),U4,?_,fun x hx=>?_⟩,by simp [hl7],fun j hj=>?_⟩))))))))
  ·have:=Yn.size
   have:=aaW.size
   have:=Qq.size
   have:=Xv.size
   omega
  ·rw [List.length_append,List.length_singleton,qG,sF];exact gW ag3 Xv Di
  ·rcases List.mem_append.1 hx with hx|hx
   ·exact mv x (NC.own x hx)
   rw [List.mem_singleton.1 hx];exact mv u (Xu.mono (by omega))
  by_cases e:j=i
  ·subst e
   rw [show (us ++ [u]).getD j u0=u by rw [au (by simp;omega)];simp [hl7]]
   rw [hu];exact ⟨rfl,rfl,rfl,rfl,rfl,rfl⟩
  rw [show (us ++ [u]).getD j u0=us.getD j u0 by rw [au (by simp;omega),au (by omega)];simp [show j<us.length by omega]]
  exact hU7 j (by omega)
 refine L.nil (?_)
 obtain rfl:i=n:=by omega
 refine T.cf (T.exit rfl (T.q (L.o (O.ak isAgg25 sizeOf25 rfl rfl hS7.c5.row (?_)))))
 have aiU:uv.oneCell'=true:=Sl.one (Sl.aT hS7.row)
 refine L.o (O.aC sizeOf25 rfl rfl rfl hS7.c4 (Nat.le_refl _) (by intro u hu;simp at hu;rcases hu with (rfl|rfl|rfl|rfl);rfl;rfl;rfl;exact aiU) (fun w8 hu8 hB8=>?_))
 have hR8:Blk w8 b4 [.int .i64 (d.g % 3),.int .i64 (d.p % 4),.int .i64 (d.l % 4),uv] 25:=hB8
 replace hu8:Upd b4 w7 w8:=hu8
 have aen:=gW hS7.row hu8 (by omega)
 refine L.nil (T.retA results70 isAgg25 sizeOf25 rfl rfl hR8.row ⟨he7.upd hu8 (.inr (by omega)),⟨d.g % 3,d.p % 4,d.l % 4,uv,us⟩,rfl,⟨(Sl.aT aen).mono (by omega),fun u hu=>?_⟩,rfl,rfl,rfl,hl7,hU7⟩)
 have hloc:Loc (.slice (some ⟨b4,0,none⟩) 0 0) w7 w8:=Loc.kJ hu8 rfl
 have ho:=hS7.own u hu
 have key:∀ {v:Value} {xs:List Int},lG w6.heap.size w7 v xs→∀ b,v.ownBlock=some b→(Value.slice (some ⟨b4,0,none⟩) 0 0).ownBlock≠some b:=fun h b hb e=>by have e':b4=b:=Option.some.inj e;have:=(h.lt hb).1;omega
 exact (show sN w6.heap.size w8 u from ⟨ho.g.loc hloc (key ho.g),ho.v.loc hloc (key ho.v),ho.p.loc hloc (key ho.p),ho.n⟩).ok.mono (by omega)
open Go Go.E
structure sO (d:Dr) (n:Nat) (r:RoV):Prop where
 n1:1≤n
 n2:n≤24
 g:r.G=d.g % 3
 p:r.P=d.p % 4
 l:r.L=d.l % 4
 len:r.us.length=n
 u:∀ i,i<n→DU d (d.g % 3).toNat (d.p % 4).toNat (d.l % 4).toNat n i (r.us.getD i u0)
def Qr (d:Dr) (n base:Nat) (v:Value) (w:World):Prop:=∃ r:RoV,v=r.val∧r.ok base w∧sO d n r
theorem Qr.st {d:Dr} {n base:Nat} : ∀ v w w',Ext w w'→Qr d n base v w→Qr d n base v w':=fun _ _ _ he ⟨r,h1,h2,h3⟩=>⟨r,h1,h2.ext he,h3⟩
theorem RoV.ok.mono {lo lo':Nat} {w:World} {r:RoV} (h:r.ok lo w) (hl:lo'≤lo):r.ok lo' w:=Units.mono h hl
theorem RoV.ok.one {lo:Nat} {w:World} {r:RoV} (h:r.ok lo w):r.uv.oneCell'=true:=Sl.one h.sl
theorem RoV.ok.loc {lo b:Nat} {w w':World} {r:RoV} (h:r.ok lo w) (hu:Upd b w w') (hb:b<lo):r.ok lo w':=h.keep (lo:=lo) ((Keep.refl lo w).upd hu (.inl hb))
end Go.Proofs.YtnlonpcbgjbbaaaGreatDoor
