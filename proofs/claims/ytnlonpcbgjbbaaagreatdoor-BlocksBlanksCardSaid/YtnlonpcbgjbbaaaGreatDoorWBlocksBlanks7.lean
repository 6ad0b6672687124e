/-
  BlocksBlanks, part 7 of its proof: that it returns true for every input, and each argument reads behind the call as it read before. Conditions: the listed variables read as the program's text lays them (tied by the card).
-/
import Derived.Test.YtnlonpcbgjbbaaaGreatDoorWBlocksBlanks6
set_option linter.unusedVariables false
set_option linter.unusedSimpArgs false
set_option maxRecDepth 20000
set_option linter.unusedVariables false
set_option linter.unusedSimpArgs false
set_option maxRecDepth 20000
namespace Go.Proofs.YtnlonpcbgjbbaaaGreatDoor
open Go.Proofs.Tryz (call126 func70 isAgg23 isAgg25 isAgg3 isAgg30 isAgg4 isAgg5 isAgg51 isAgg59 ntmps70 results70 runUnderlying114 runUnderlying23 runUnderlying25 runUnderlying3 runUnderlying30 runUnderlying5 runUnderlying51 runUnderlying54 runUnderlying59 runUnderlying9 sizeOf23 sizeOf25 sizeOf3 sizeOf30 sizeOf4 sizeOf5 sizeOf51 sizeOf59 zeroValue25 zeroValue51)
open Go Go.E
attribute [local irreducible] Go.E.T Go.E.L Go.E.O Go.E.Ob
def oU (d:Dr):List Value:=[.int .u8 d.wd,.int .u8 d.hi,d.cv,d.sv,.bool d.ho]
open Go Go.E
theorem Loc.grown {q:Value} {w w1 w2:World} {row:Option Nat} (h:Loc q w w1) (k:w1.grownBy w2 row) (hb:∀ j,row=some j→w.heap.size≤j):Loc q w w2 :=
 ⟨k.os.trans h.os,k.tape.trans h.tape,k.output.trans h.output,Nat.le_trans h.size k.size,fun i hi hq=>(k.block i (Nat.lt_of_lt_of_le hi h.size) (fun e=>by have:=hb i e.symm;omega)).trans (h.block i hi hq)⟩
theorem lS.loc {base:Nat} {q v:Value} {w w':World} {xs:List Int} (h:lS base w v xs) (k:Loc q w w') (hn:∀ b,v.ownBlock=some b→q.ownBlock≠some b):lS base w' v xs:=wP h k hn
theorem lS.mono {base base':Nat} {v:Value} {w:World} {xs:List Int} (h:lS base w v xs) (hb:base'≤base):lS base' w v xs:=by
 refine ⟨h.1,h.2.imp id ?_⟩
 rintro ⟨g,cap,cur,rfl,h4,rest⟩
 exact ⟨g,cap,cur,rfl,by omega,rest⟩
theorem lS.nil (base:Nat) (w:World):lS base w (.slice none 0 0) []:=fH _ _ _ _
theorem lS.lt {base b:Nat} {v:Value} {w:World} {xs:List Int} (h:lS base w v xs) (hb:v.ownBlock=some b):base≤b∧b<w.heap.size:=kK h hb
def Fb (d:Dr) (n:Nat):Int:=d.wa % ((n / 3+1:Nat):Int)
def dWt (d:Dr) (n i:Nat):Bool:=decide ((n:Int)-Fb d n≤i)
def dP (d:Dr) (n i:Nat):Int:=if dWt d n i then 0 else Ez d.ns i
def dG1 (d:Dr) (n i k:Nat):Int:=Ez d.ns (3*i+k+1) % (dP d n i+1)
def dV1 (d:Dr) (n i k:Nat):Int:=if dWt d n i then 0 else Ez d.ns (5*i+k+2)
def dL1 (d:Dr) (n i k:Nat):Int:=if dWt d n i then 0 else (((Ez d.ns (i+11) % 16).toNat / 2 ^ k:Nat):Int)
def dList (f:Nat→Int) (k:Nat):List Int:=(List.range k).map f
theorem sO (f:Nat→Int) (k:Nat):dList f (k+1)=dList f k ++ [f k]:=by simp [dList,List.range_succ]
theorem dZ (f:Nat→Int) (k:Nat):(dList f k).length=k:=by simp [dList]
theorem xK {f:Nat→Int} {k q:Nat} (h:q<k):(dList f k).getD q 0=f q:=by simp [dList,List.getD,h]
def dNm (i:Nat):Str:=[117]++UH i
structure DU (d:Dr) (G P L n i:Nat) (u:UnV):Prop where
 nm:u.nm=dNm i
 pp:u.pp=dP d n i
 gs:u.gs=dList (dG1 d n i) G
 vs:u.vs=dList (dV1 d n i) P
 ps:u.ps=dList (dL1 d n i) L
 wt:u.wt=dWt d n i
structure sQ (base:Nat) (w:World) (u:UnV):Prop where
 g:lS base w u.gv u.gs
 v:lS base w u.vv u.vs
 p:lS base w u.pv u.ps
 n:u.nm.length≤9223372036854775807
theorem sQ.ext {base:Nat} {w w':World} {u:UnV} (h:sQ base w u) (k:Ext w w'):sQ base w' u:=⟨h.g.ext k,h.v.ext k,h.p.ext k,h.n⟩
theorem sQ.mono {base base':Nat} {w:World} {u:UnV} (h:sQ base w u) (hb:base'≤base):sQ base' w u:=⟨h.g.mono hb,h.v.mono hb,h.p.mono hb,h.n⟩
theorem sQ.ok {base:Nat} {w:World} {u:UnV} (h:sQ base w u):u.ok base w:=⟨h.g.ints,h.v.ints,h.p.ints,h.n⟩
theorem lS.row {base adL m n:Nat} {w w':World} {v q:Value} {ys:List Value} {xs:List Int} (h:lS base w q xs) (hr:w.ownsRow adL 51 6 v n ys) (hG:w.grownBy w' v.ownBlock):lS base w' q xs :=
 h.loc (q:=v) (Loc.jq hG) (fun b hb e=>by
  obtain ⟨_,cs,_,_,hB,_⟩:=(show adK base xs.length q w from ⟨xs,Nat.le_refl _,h⟩).blk hb
  exact row_ne hr e hB rfl)
structure UJ (base b2 b4 b5:Nat) (d:Dr) (G P L:Int) (uv:Value) (us:List UnV) (W:World):Prop where
 d2:Blk W b2 d.cells 59
 c4:Blk W b4 aaz 25
 c5:Blk W b5 [.int .i64 G,.int .i64 P,.int .i64 L,uv] 25
 row:W.ownsRow base 51 6 uv us.length (fD us)
 own:∀ u∈us,sQ base W u
theorem UJ.ext {base b2 b4 b5:Nat} {d:Dr} {G P L:Int} {uv:Value} {us:List UnV} {W W':World} (h:UJ base b2 b4 b5 d G P L uv us W) (k:Ext W W'):UJ base b2 b4 b5 d G P L uv us W' :=
 ⟨h.d2.ext k,h.c4.ext k,h.c5.ext k,aI h.row k (Nat.zero_le _),fun u hu=>(h.own u hu).ext k⟩
def UK (d:Dr) (n:Nat) (w:World) (v:Value) (w':World):Prop:=Ext w w'∧∃ r:RoV,v=r.val∧r.ok w.heap.size w'∧r.G=d.g % 3∧r.P=d.p % 4∧r.L=d.l % 4∧r.us.length=n∧∀ i,i<n→DU d (d.g % 3).toNat (d.p % 4).toNat (d.l % 4).toNat n i (r.us.getD i u0)
set_option maxHeartbeats 1000000 in
theorem Np (lo n:Nat) (d:Dr) (w:World) (hd:d.ok lo w) (hn1:1≤n) (hn2:n≤24) :
  Calls Tryz.prog 70 #[d.val,.int .i64 n] w (Ret fun v w'=>UK d n w v w'):=by
 refine T.enter (vs:=[d.val,.int .i64 n]) func70 rfl ntmps70 rfl ?_
 refine T.q (L.o (O.box rfl (fun b2 w2 hb2 hz2 he2 hB2=>?_)))
 refine L.o (O.alloc zeroValue25 (fun b4 w4 hb4 hz4 he4 hB4=>?_))
 have UL:=he2.trans he4
 have hD4:Blk w4 b2 d.cells 59:=Blk.ext (cs:=d.cells) hB2 he4
 have hR4:Blk w4 b4 aaz 25:=hB4
 have hg0:=hd.g0
 have hp0:=hd.p0
 have hl0:=hd.l0
 have ha0:=hd.a0
 unfold vY at hg0 hp0 hl0 ha0
 refine L.nil (T.q (L.o (O.fieldAddr runUnderlying59 rfl sizeOf5 rfl (L.o (O.load isAgg5 rfl (hD4.cell rfl) (L.o (O.rem rfl rfl (by omega) (by omega) (L.o (O.fA rfl (fun w=>⟨_,runUnderlying5 w⟩) runUnderlying3 (IntWalk.i64_in _ ⟨by omega,by omega⟩) (L.o (O.fieldAddr runUnderlying59 rfl sizeOf5 rfl (L.o (O.load isAgg5 rfl (hD4.cell rfl) (L.o (O.rem rfl rfl (by omega) (by omega) (L.o (O.fA rfl (fun w=>⟨_,runUnderlying5 w⟩) runUnderlying3 (IntWalk.i64_in _ ⟨by omega,by omega⟩) (L.o (O.fieldAddr runUnderlying59 rfl sizeOf5 rfl (L.o (O.load isAgg5 rfl (hD4.cell rfl) (L.o (O.rem rfl rfl (by omega) (by omega) (L.o (O.fA rfl (fun w=>⟨_,runUnderlying5 w⟩) runUnderlying3 (IntWalk.i64_in _ ⟨by omega,by omega⟩) (L.o (O.build (v:=.agg #[.int .i64 (d.g % 3),.int .i64 (d.p % 4),.int .i64 (d.l % 4),.slice none 0 0]) (parts:=[(0,.tmp 18),(1,.tmp 22),(2,.tmp 26)]) (vs:=[(0,_),(1,_),(2,_)]) rfl (fun w=>by kernel_rfl) (L.o (O.alloc zeroValue25 (fun b5 w5 hb5 hz5 he5 hB5=>?_))))))))))))))))))))))))))))))
 refine L.o (O.aF sizeOf25 rfl rfl rfl hB5 (Nat.le_refl _) (by intro u hu;simp at hu;rcases hu with (rfl|rfl|rfl|rfl) <;> rfl) (fun w6 hu6 hB6=>?_))
 replace hu6:Upd b5 w5 w6:=hu6
 have hC6:Blk w6 b5 [.int .i64 (d.g % 3),.int .i64 (d.p % 4),.int .i64 (d.l % 4),.slice none 0 0] 25:=hB6
 have hb2':=hD4.lt
 have alF:=hR4.lt
 have Df:=hC6.lt
 have alG:=UL.size
 have hz5:=he5.size
 have hz6:=hu6.size
 have AQ:Ext w4 w6:=he5.upd hu6 (.inr (by omega))
 have Ii:Ext w w6:=UL.trans AQ
 refine L.nil (T.q (L.o (O.fieldAddr runUnderlying59 rfl sizeOf5 rfl (L.o (O.load isAgg5 rfl ((hD4.ext AQ).cell rfl) (L.o (O.fA rfl (fun w=>⟨_,runUnderlying5 w⟩) runUnderlying3 (IntWalk.i64_in _ ⟨by omega,by omega⟩) (L.m rfl (L.o (O.aah rfl rfl (by omega) (L.o (O.aH rfl rfl (by omega) (?_)))))))))))))
 rw [show ((n:Int) / 3+1)=((n / 3+1:Nat):Int) by omega]
 refine L.o (O.rem rfl rfl (by omega) (by omega) (?_))
 obtain ⟨wt,hwt⟩:∃ wt,wt=Fb d n:=⟨_,rfl⟩
 have hwe:d.wa % ((n / 3+1:Nat):Int)=wt:=by rw [hwt];rfl
 rw [hwe]
 have hw0:0≤wt∧wt≤255:=by rw [← hwe];exact ⟨Int.emod_nonneg _ (by omega),by have:=Int.emod_lt_of_pos d.wa (show (0:Int)<((n / 3+1:Nat):Int) by omega);omega⟩
 refine L.a rfl (L.nil (T.seq (T.q (L.a rfl (L.nil (T.block (?_)))))))
 refine T.loop (σ:=Nat × Value × List UnV) (fun s=>[(1,.int .i64 n),(2,.pointer (some ⟨b2,0,none⟩)),(4,.pointer (some ⟨b4,0,none⟩)),(5,.pointer (some ⟨b5,0,none⟩)),(6,.int .i64 wt),(7,.int .i64 s.1)]) (fun s w'=>s.1≤n∧Ext w w'∧w6.heap.size≤w'.heap.size∧UJ w6.heap.size b2 b4 b5 d (d.g % 3) (d.p % 4) (d.l % 4) s.2.1 s.2.2 w'∧s.2.2.length=s.1∧∀ j,j<s.1→DU d (d.g % 3).toNat (d.p % 4).toNat (d.l % 4).toNat n j (s.2.2.getD j u0)) (fun s=>n-s.1) ((0,.slice none 0 0,[])) ⟨rfl,rfl,rfl,rfl,rfl,rfl,trivial⟩ ⟨Nat.zero_le _,Ii,Nat.le_refl _,⟨hD4.ext AQ,hR4.ext AQ,hC6,fH _ _ _ _,fun _ h=>(by cases h)⟩,rfl,fun j hj=>absurd hj (Nat.not_lt_zero _)⟩ ?_
 rintro ⟨i,uv,us⟩ w7 ⟨hi,he7,hz7,hS7,hl7,hU7⟩
 simp only at hi hS7 hl7 hU7
 refine T.seq (T.q (L.m rfl (L.m rfl (L.o (O.bH rfl rfl (fun hlt=>?_) (fun hlt=>?_))))))
 ·refine L.nil (?_)
  have hlt':i<n:=by omega
  have hdig:=Qa (n:=i) (by omega)
  refine T.ct (T.skip (T.seq (T.block (T.q (L.m rfl (L.o (O.aah rfl rfl (by (try dsimp only);omega) (L.o (O.fA rfl (fun w=>⟨_,runUnderlying3 w⟩) runUnderlying5 (IntWalk.u8_in _ ⟨by omega,by omega⟩) (L.o (O.add8 rfl rfl (by (try dsimp only);omega) (L.m rfl (L.o (O.rem rfl rfl (by omega) (by omega) (L.o (O.fA rfl (fun w=>⟨_,runUnderlying3 w⟩) runUnderlying5 (IntWalk.u8_in _ ⟨by omega,by omega⟩) (L.o (O.add8 rfl rfl (by (try dsimp only);omega) (L.o (O.buildSlice (el:=5) (parts:=[(0,.tmp 43),(1,.tmp 47)]) (vs:=[(0,_),(1,_)]) (cs:=[.int .u8 (48+(i:Int) / 10),.int .u8 (48+(i:Int) % 10)]) rfl (fun w=>by kernel_rfl) (fun b8 w8 hb8 hz8 he8 hB8=>?_)))))))))))))))))))))
  refine L.o (O.PE runUnderlying54 runUnderlying5 runUnderlying9 rfl (show Ints .u8 0 w8 (.slice (some ⟨b8,0,none⟩) 2 2) ((UH i).map fun c=>(c.toNat:Int)) from by rw [hdig];exact Ints.aA hB8 rfl (by decide) (Nat.zero_le _)) (by simp [UH]) (L.o (O.iY rfl rfl (by simp [UH]) (L.m rfl (L.m rfl (L.m rfl (L.o (O.gQ rfl rfl (by omega) (L.o (O.geq rfl rfl (?_)))))))))))
  have ah4:decide ((n:Int)-wt≤i)=dWt d n i:=by rw [hwt];rfl
  rw [ah4]
  refine L.o (O.build (v:=.agg #[str (dNm i),.int .i64 0,.slice none 0 0,.slice none 0 0,.slice none 0 0,.bool (dWt d n i)]) (parts:=[(0,.tmp 50),(5,.tmp 55)]) (vs:=[(0,_),(5,_)]) rfl (fun w=>by kernel_rfl) (L.o (O.alloc zeroValue51 (fun b9 w9 hb9 hz9 he9 hB9=>?_))))
  refine L.o (O.aF sizeOf51 rfl rfl rfl hB9 (Nat.le_refl _) (by intro u hu;simp at hu;rcases hu with (rfl|rfl|rfl|rfl|rfl|rfl) <;> rfl) (fun w10 OT EC=>?_))
  replace OT:Upd b9 w9 w10:=OT
  have Qb:Blk w10 b9 [str (dNm i),.int .i64 0,.slice none 0 0,.slice none 0 0,.slice none 0 0,.bool (dWt d n i)] 51:=EC
  have hz8:=he8.size
  have hz9:=he9.size
  have X8:=OT.size
  have hb9:b9=w8.heap.size:=hb9
  have UM:Ext w7 w10:=(he8.trans he9).upd OT (.inr (by omega))
  have hlb:∀ x,(Value.slice (some ⟨b9,0,none⟩) 0 0).ownBlock=some x→b9=x:=fun x hx=>Option.some.inj hx
  have hd10:=hd.ext (he7.trans UM)
  have alH:=xI hd.nl i
  refine L.nil (T.seq (?_))
  refine T.join (σ:=Unit) (fun _=>[(1,.int .i64 n),(2,.pointer (some ⟨b2,0,none⟩)),(4,.pointer (some ⟨b4,0,none⟩)),(5,.pointer (some ⟨b5,0,none⟩)),(6,.int .i64 wt),(7,.int .i64 i),(8,.pointer (some ⟨b9,0,none⟩))]) (fun _ w'=>Ext w7 w'∧Blk w' b9 [str (dNm i),.int .i64 (dP d n i),.slice none 0 0,.slice none 0 0,.slice none 0 0,.bool (dWt d n i)] 51) ?_ ?_
  ·refine T.q (L.o (O.fieldAddr runUnderlying51 rfl sizeOf4 rfl (L.o (O.load isAgg4 rfl (Qb.cell rfl) (?_)))))
   rcases hwi:dWt d n i with _|_
   ·refine L.o (O.not rfl (L.nil (T.ct (T.region (L.o (O.ak isAgg59 sizeOf59 rfl rfl ((hS7.d2.ext UM).row) (L.m rfl (L.o (O.call (xs:=[.tmp 60,.tmp 61]) call126 rfl rfl (nZ lo d i w10 hd10 (by omega)) (fun v12 w12 hq=>?_))))))))))
    obtain ⟨rfl,fP⟩:=hq
    rw [hwi] at Qb
    refine L.o (O.fieldAddr runUnderlying51 rfl sizeOf3 rfl (L.o (O.store1 sizeOf3 rfl rfl rfl (Qb.ext fP) (by simp [Value.cells]) (fun w13 wQ xM=>?_))))
    replace wQ:Upd b9 w12 w13:=wQ
    refine L.nil (T.meet (()) ⟨rfl,rfl,rfl,rfl,rfl,rfl,rfl,trivial⟩ ⟨(UM.trans fP).upd wQ (.inr (by omega)),by rw [show dP d n i=Ez d.ns i by rw [dP,hwi];rfl];exact xM⟩)
   rw [hwi] at Qb
   refine L.o (O.not rfl (L.nil (T.cf (T.skip (T.meet (()) ⟨rfl,rfl,rfl,rfl,rfl,rfl,rfl,trivial⟩ ⟨UM,by rw [show dP d n i=0 by rw [dP,hwi];rfl];exact Qb⟩)))))
  rintro _ w11 ⟨dQ,oV⟩
  have X9:=hS7.ext dQ
  have alI:=oV.lt
  have hdP:0≤dP d n i∧dP d n i≤65535:=by unfold dP;split <;> omega
  refine T.seq (T.q (L.a rfl (L.nil (T.block (?_)))))
  refine T.loop (σ:=Nat × Value) (fun s=>[(1,.int .i64 n),(2,.pointer (some ⟨b2,0,none⟩)),(4,.pointer (some ⟨b4,0,none⟩)),(5,.pointer (some ⟨b5,0,none⟩)),(6,.int .i64 wt),(7,.int .i64 i),(8,.pointer (some ⟨b9,0,none⟩)),(9,.int .i64 s.1)]) (fun s w'=>(s.1:Int)≤d.g % 3∧Loc (.slice (some ⟨b9,0,none⟩) 0 0) w11 w'∧Blk w' b9 [str (dNm i),.int .i64 (dP d n i),s.2,.slice none 0 0,.slice none 0 0,.bool (dWt d n i)] 51∧lS w11.heap.size w' s.2 (dList (dG1 d n i) s.1)) (fun s=>(d.g % 3).toNat-s.1) ((0,.slice none 0 0)) ⟨rfl,rfl,rfl,rfl,rfl,rfl,rfl,rfl,trivial⟩ ⟨by show ((0:Nat):Int)≤d.g % 3;omega,Loc.aT (Keep.refl _ _),oV,lS.nil _ _⟩ ?_
  rintro ⟨k,gv⟩ w20 ⟨ah5,adM,UN,Xd⟩
  simp only at ah5 UN Xd
  have Ug:Ext w7 w20:=adM.keep dQ (fun x hx=>by have:=hlb x hx;omega)
  have agp:=hS7.ext Ug
  refine T.seq (T.q (L.m rfl (L.o (O.fieldAddr runUnderlying25 rfl sizeOf3 rfl (L.o (O.load isAgg3 rfl (agp.c5.cell rfl) (L.o (O.bH rfl rfl (fun adN=>?_) (fun adN=>?_)))))))))
  ·refine L.nil (?_)
   have ah6:=hd.ext (he7.trans Ug)
   have hnd:=xI hd.nl (3*i+k+1)
   refine T.ct (T.skip (T.seq (T.block (T.seq (?_)))))
   refine T.fM mixed 10 [2,7,9,8] rfl [.is _,.is _,.is _,.is _,.is _,.is (.int .i64 ((3*i+k+1:Nat):Int)),.is _,.is _,.is _,.is _] [[],[],[1],[],[2,3],[4],[0,5],[],[7],[8]] [[],[],[1],[],[1,2,3],[1,2,3,4],[0,1,2,3,4,5],[],[7],[7,8],[0,1,2,3,4,5,6,7,8,9],[0,1,2,3,4,5,6,7,8,9,10]] (by kernel_rfl) (by kernel_rfl) rfl (by kernel_rfl) trivial ⟨fun wx hx=>Ob.o (O.ak isAgg59 sizeOf59 rfl rfl ((agp.d2.ext hx).row) kR),
     fun wx hx=>Ob.o (O.move rfl kR),
     fun wx hx=>Ob.o (O.mO rfl rfl (by (try dsimp only);omega) kR),
     fun wx hx=>Ob.o (O.move rfl kR),
     fun wx hx=>Ob.o (O.aH rfl rfl (by (try dsimp only);omega) kR),
     fun wx hx=>Ob.o (O.aH rfl rfl (by (try dsimp only);omega) ⟨Keep.refl _ _,by show Value.int .i64 (3*(i:Int)+(k:Int)+1)=_;rw [show 3*(i:Int)+(k:Int)+1=((3*i+k+1:Nat):Int) by omega]⟩),
     fun wx hx=>Ob.o (O.call (xs:=[.tmp 70,.tmp 75]) call126 rfl rfl (nZ lo d (3*i+k+1) wx (ah6.ext hx) (by omega)) (fun v wy h=>⟨h.2,h.1⟩)),
     fun wx hx=>Ob.o (O.fieldAddr runUnderlying51 rfl sizeOf3 rfl kR),
     fun wx hx=>Ob.o (O.load isAgg3 rfl ((UN.ext hx).cell rfl) kR),
     fun wx hx=>Ob.o (O.aH rfl rfl (by omega) kR),
     trivial⟩ (fun w21 ED=>?_)
   refine L.o (O.rem rfl rfl (by omega) (by omega) (?_))
   have agq:=ED
   have hBx:=UN.ext ED
   refine L.a rfl (L.nil (T.region (L.o (O.fieldAddr runUnderlying51 rfl sizeOf30 rfl (L.o (O.load isAgg30 rfl (hBx.cell rfl) (L.m rfl (L.o (O.buildSlice (el:=3) (parts:=[(0,.tmp 83)]) (vs:=[(0,_)]) (cs:=[.int .i64 (dG1 d n i k)]) rfl (fun w=>by kernel_rfl) (fun b23 w23 alJ alK adO adP=>?_))))))))))
   have hOx:=(Xd.ext ED).ext adO
   have hlx:=(adM.trans (Loc.aT ED)).trans (Loc.aT adO)
   have hlen:=dZ (dG1 d n i) k
   refine L.o (O.append (size:=1) (bytes:=8) runUnderlying30 Tryz.mP rfl rfl rfl rfl (by decide) rfl rfl hOx (Sl.aA (lo:=0) (n:=1) (sz:=1) adP rfl (Nat.le_refl _) (by decide) (Nat.zero_le _)) (by intro c hc;simp at hc;simp [hc,Value.oneCell']) (by omega) (by simp only [maxLen];omega) (by have:=hlx.size;omega) (fun v24 w24 adQ agr=>?_))
   have hly:=hlx.grown agr (fun j hj=>(hOx.lt hj).1)
   have hzb:b9<w11.heap.size:=by have:=oV.lt;omega
   have hvn:v24.oneCell'=true:=Sl.one (Sl.aS adQ)
   refine L.o (O.fieldAddr runUnderlying51 rfl sizeOf30 rfl (L.o (O.store1 sizeOf30 hvn rfl rfl ((hBx.ext adO).grown agr (fun j hj=>by have:=(hOx.lt hj).1;omega)) (by simp [Value.cells]) (fun w25 KI Dh=>?_))))
   replace KI:Upd b9 w24 w25:=KI
   refine L.nil (T.blk (T.region (L.m rfl (L.o (O.aH rfl rfl (by omega) (L.a rfl (L.nil (T.again ((k+1,v24)) (by show (d.g % 3).toNat-(k+1)<(d.g % 3).toNat-k;omega) ⟨rfl,rfl,rfl,rfl,rfl,rfl,rfl,rfl,trivial⟩ ⟨by omega,hly.trans (Loc.kQ KI rfl),Dh,?_⟩))))))))
   ·have hfin:lS w11.heap.size w24 v24 (dList (dG1 d n i) (k+1)):=by
     unfold lS;rw [dZ,sO,List.map_append];rw [hlen] at adQ;exact adQ
    exact hfin.loc (q:=.slice (some ⟨b9,0,none⟩) 0 0) (Loc.kQ KI rfl) (fun x hx e=>by have:=hlb x e;have:=(hfin.lt hx).1;omega)
  refine L.nil (?_)
  have hke:k=(d.g % 3).toNat:=by omega
  rw [hke] at Xd
  have alL:=adM.size
  have Ya:lS w11.heap.size w20 gv (dList (dG1 d n i) (d.g % 3).toNat):=Xd.mono (by omega)
  refine T.cf (T.exit rfl (T.seq (T.q (L.a rfl (L.nil (T.block (?_)))))))
  refine T.loop (σ:=Nat × Value) (fun s=>[(1,.int .i64 n),(2,.pointer (some ⟨b2,0,none⟩)),(4,.pointer (some ⟨b4,0,none⟩)),(5,.pointer (some ⟨b5,0,none⟩)),(6,.int .i64 wt),(7,.int .i64 i),(8,.pointer (some ⟨b9,0,none⟩)),(11,.int .i64 s.1)]) (fun s w'=>(s.1:Int)≤d.p % 4∧Loc (.slice (some ⟨b9,0,none⟩) 0 0) w20 w'∧Blk w' b9 [str (dNm i),.int .i64 (dP d n i),gv,s.2,.slice none 0 0,.bool (dWt d n i)] 51∧lS w20.heap.size w' s.2 (dList (dV1 d n i) s.1)) (fun s=>(d.p % 4).toNat-s.1) ((0,.slice none 0 0)) ⟨rfl,rfl,rfl,rfl,rfl,rfl,rfl,rfl,trivial⟩ ⟨by show ((0:Nat):Int)≤d.p % 4;omega,Loc.aT (Keep.refl _ _),UN,lS.nil _ _⟩ ?_
  rintro ⟨k,vv⟩ w30 ⟨ah7,acO,Yb,Nq⟩
  simp only at ah7 Yb Nq
  have Ns:Ext w7 w30:=acO.keep Ug (fun x hx=>by have:=hlb x hx;omega)
  have ags:=hS7.ext Ns
  refine T.seq (T.q (L.m rfl (L.o (O.fieldAddr runUnderlying25 rfl sizeOf3 rfl (L.o (O.load isAgg3 rfl (ags.c5.cell rfl) (L.o (O.bH rfl rfl (fun adR=>?_) (fun adR=>?_)))))))))
  ·refine L.nil (T.ct (T.skip (T.seq (T.block (T.q (L.a rfl (L.nil (T.seq (?_)))))))))
   refine T.join (σ:=Unit) (fun _=>[(1,.int .i64 n),(2,.pointer (some ⟨b2,0,none⟩)),(4,.pointer (some ⟨b4,0,none⟩)),(5,.pointer (some ⟨b5,0,none⟩)),(6,.int .i64 wt),(7,.int .i64 i),(8,.pointer (some ⟨b9,0,none⟩)),(11,.int .i64 k),(12,.int .i64 (dV1 d n i k))]) (fun _ w'=>Ext w30 w') ?_ ?_
   ·refine T.q (L.o (O.fieldAddr runUnderlying51 rfl sizeOf4 rfl (L.o (O.load isAgg4 rfl (Yb.cell rfl) (?_)))))
    rcases hwi:dWt d n i with _|_
    ·have hdq:=hd.ext (he7.trans Ns)
     refine L.o (O.not rfl (L.nil (T.ct (T.region (L.o (O.ak isAgg59 sizeOf59 rfl rfl ags.d2.row (L.m rfl (L.o (O.mO rfl rfl (by (try dsimp only);omega) (L.m rfl (L.o (O.aH rfl rfl (by (try dsimp only);omega) (L.o (O.aH rfl rfl (by (try dsimp only);omega) (L.o (O.call (xs:=[.tmp 96,.tmp 101]) call126 rfl rfl (nZ lo d (5*i+k+2) w30 hdq (by omega)) (fun v32 w32 hq=>?_)))))))))))))))))
     obtain ⟨rfl,Yc⟩:=hq
     refine L.a rfl (L.nil (T.meet (()) ⟨rfl,rfl,rfl,rfl,rfl,rfl,rfl,rfl,?_,trivial⟩ Yc))
     ·rw [dV1,hwi];rfl
    refine L.o (O.not rfl (L.nil (T.cf (T.skip (T.meet (()) ⟨rfl,rfl,rfl,rfl,rfl,rfl,rfl,rfl,?_,trivial⟩ (Keep.refl _ _))))))
    ·rw [dV1,hwi];rfl
   rintro _ w31 Ij
   have hBx:=Yb.ext Ij
   refine T.region (L.o (O.fieldAddr runUnderlying51 rfl sizeOf30 rfl (L.o (O.load isAgg30 rfl (hBx.cell rfl) (L.m rfl (L.o (O.buildSlice (el:=3) (parts:=[(0,.tmp 105)]) (vs:=[(0,_)]) (cs:=[.int .i64 (dV1 d n i k)]) rfl (fun w=>by kernel_rfl) (fun b33 w33 ah8 ah9 Uh aaA=>?_))))))))
   have hOx:=(Nq.ext Ij).ext Uh
   have hlx:=(acO.trans (Loc.aT Ij)).trans (Loc.aT Uh)
   have hlen:=dZ (dV1 d n i) k
   refine L.o (O.append (size:=1) (bytes:=8) runUnderlying30 Tryz.mP rfl rfl rfl rfl (by decide) rfl rfl hOx (Sl.aA (lo:=0) (n:=1) (sz:=1) aaA rfl (Nat.le_refl _) (by decide) (Nat.zero_le _)) (by intro c hc;simp at hc;simp [hc,Value.oneCell']) (by omega) (by simp only [maxLen];omega) (by have:=hlx.size;omega) (fun v34 w34 Qc agt=>?_))
   have hly:=hlx.grown agt (fun j hj=>(hOx.lt hj).1)
   have hzb:b9<w20.heap.size:=by have:=UN.lt;omega
   have hvn:v34.oneCell'=true:=Sl.one (Sl.aS Qc)
   refine L.o (O.fieldAddr runUnderlying51 rfl sizeOf30 rfl (L.o (O.store1 sizeOf30 hvn rfl rfl ((hBx.ext Uh).grown agt (fun j hj=>by have:=(hOx.lt hj).1;omega)) (by simp [Value.cells]) (fun w35 acP aaB=>?_))))
   replace acP:Upd b9 w34 w35:=acP
   refine L.nil (T.blk (T.region (L.m rfl (L.o (O.aH rfl rfl (by omega) (L.a rfl (L.nil (T.again ((k+1,v34)) (by show (d.p % 4).toNat-(k+1)<(d.p % 4).toNat-k;omega) ⟨rfl,rfl,rfl,rfl,rfl,rfl,rfl,rfl,trivial⟩ ⟨by omega,hly.trans (Loc.kQ acP rfl),aaB,?_⟩))))))))
   ·have hfin:lS w20.heap.size w34 v34 (dList (dV1 d n i) (k+1)):=by
     unfold lS;rw [dZ,sO,List.map_append];rw [hlen] at Qc;exact Qc
    exact hfin.loc (q:=.slice (some ⟨b9,0,none⟩) 0 0) (Loc.kQ acP rfl) (fun x hx e=>by have:=hlb x e;have:=(hfin.lt hx).1;omega)
  refine L.nil (?_)
  have hke:k=(d.p % 4).toNat:=by omega
  rw [hke] at Nq
  have Ya:=Ya.loc acO (fun x hx e=>by have:=hlb x e;have:=(Ya.lt hx).1;omega)
  have aia:=acO.size
  have acQ:lS w11.heap.size w30 vv (dList (dV1 d n i) (d.p % 4).toNat):=Nq.mono (by omega)
  refine T.cf (T.exit rfl (T.seq (T.q (L.a rfl (L.nil (T.block (?_)))))))
  refine T.loop (σ:=Nat × Value) (fun s=>[(1,.int .i64 n),(2,.pointer (some ⟨b2,0,none⟩)),(4,.pointer (some ⟨b4,0,none⟩)),(5,.pointer (some ⟨b5,0,none⟩)),(6,.int .i64 wt),(7,.int .i64 i),(8,.pointer (some ⟨b9,0,none⟩)),(13,.int .i64 s.1)]) (fun s w'=>(s.1:Int)≤d.l % 4∧Loc (.slice (some ⟨b9,0,none⟩) 0 0) w30 w'∧Blk w' b9 [str (dNm i),.int .i64 (dP d n i),gv,vv,s.2,.bool (dWt d n i)] 51∧lS w30.heap.size w' s.2 (dList (dL1 d n i) s.1)) (fun s=>(d.l % 4).toNat-s.1) ((0,.slice none 0 0)) ⟨rfl,rfl,rfl,rfl,rfl,rfl,rfl,rfl,trivial⟩ ⟨by show ((0:Nat):Int)≤d.l % 4;omega,Loc.aT (Keep.refl _ _),Yb,lS.nil _ _⟩ ?_
  rintro ⟨k,pv⟩ w40 ⟨aib,aaC,acR,acS⟩
  simp only at aib acR acS
  have Yd:Ext w7 w40:=aaC.keep Ns (fun x hx=>by have:=hlb x hx;omega)
  have acT:=hS7.ext Yd
  refine T.seq (T.q (L.m rfl (L.o (O.fieldAddr runUnderlying25 rfl sizeOf3 rfl (L.o (O.load isAgg3 rfl (acT.c5.cell rfl) (L.o (O.bH rfl rfl (fun adS=>?_) (fun adS=>?_)))))))))
  ·refine L.nil (T.ct (T.skip (T.seq (T.block (T.q (L.a rfl (L.nil (T.seq (?_)))))))))
   refine T.join (σ:=Unit) (fun _=>[(1,.int .i64 n),(2,.pointer (some ⟨b2,0,none⟩)),(4,.pointer (some ⟨b4,0,none⟩)),(5,.pointer (some ⟨b5,0,none⟩)),(6,.int .i64 wt),(7,.int .i64 i),(8,.pointer (some ⟨b9,0,none⟩)),(13,.int .i64 k),(14,.int .i64 (dL1 d n i k))]) (fun _ w'=>Ext w40 w') ?_ ?_
   ·refine T.q (L.o (O.fieldAddr runUnderlying51 rfl sizeOf4 rfl (L.o (O.load isAgg4 rfl (acR.cell rfl) (?_)))))
    rcases hwi:dWt d n i with _|_
    ·have hdq:=hd.ext (he7.trans Yd)
     refine L.o (O.not rfl (L.nil (T.ct (T.region (L.o (O.ak isAgg59 sizeOf59 rfl rfl acT.d2.row (L.m rfl (L.o (O.aH rfl rfl (by (try dsimp only);omega) (L.o (O.call (xs:=[.tmp 118,.tmp 120]) call126 rfl rfl (nZ lo d (i+11) w40 hdq (by omega)) (fun v42 w42 hq=>?_))))))))))))
     obtain ⟨rfl,ZN⟩:=hq
     have hnp:=xI hd.nl (i+11)
     refine L.o (O.rem rfl rfl (by omega) (by omega) (?_))
     obtain ⟨c16,hc16⟩:∃ c16:Nat,Ez d.ns (i+11) % 16=c16:=⟨(Ez d.ns (i+11) % 16).toNat,by omega⟩
     rw [hc16]
     refine L.m rfl (L.o (O.fA rfl (fun w=>⟨_,runUnderlying3 w⟩) runUnderlying114 (IntWalk.u64_in _ ⟨by omega,by omega⟩) (L.o (O.XT rfl rfl (by omega) (L.a rfl (L.nil (T.meet (()) ⟨rfl,rfl,rfl,rfl,rfl,rfl,rfl,rfl,?_,trivial⟩ ZN)))))))
     ·rw [dL1,hwi,hc16];rfl
    refine L.o (O.not rfl (L.nil (T.cf (T.skip (T.meet (()) ⟨rfl,rfl,rfl,rfl,rfl,rfl,rfl,rfl,?_,trivial⟩ (Keep.refl _ _))))))
    ·rw [dL1,hwi];rfl
   rintro _ w41 adT
   have hBx:=acR.ext adT
   refine T.region (L.o (O.fieldAddr runUnderlying51 rfl sizeOf30 rfl (L.o (O.load isAgg30 rfl (hBx.cell rfl) (L.m rfl (L.o (O.buildSlice (el:=3) (parts:=[(0,.tmp 128)]) (vs:=[(0,_)]) (cs:=[.int .i64 (dL1 d n i k)]) rfl (fun w=>by kernel_rfl) (fun b43 w43 aic aie aaD adU=>?_))))))))
   have hOx:=(acS.ext adT).ext aaD
   have hlx:=(aaC.trans (Loc.aT adT)).trans (Loc.aT aaD)
   have hlen:=dZ (dL1 d n i) k
   refine L.o (O.append (size:=1) (bytes:=8) runUnderlying30 Tryz.mP rfl rfl rfl rfl (by decide) rfl rfl hOx (Sl.aA (lo:=0) (n:=1) (sz:=1) adU rfl (Nat.le_refl _) (by decide) (Nat.zero_le _)) (by intro c hc;simp at hc;simp [hc,Value.oneCell']) (by omega) (by simp only [maxLen];omega) (by have:=hlx.size;omega) (fun v44 w44 adV agu=>?_))
   have hly:=hlx.grown agu (fun j hj=>(hOx.lt hj).1)
   have hzb:b9<w30.heap.size:=by have:=Yb.lt;omega
   have hvn:v44.oneCell'=true:=Sl.one (Sl.aS adV)
   refine L.o (O.fieldAddr runUnderlying51 rfl sizeOf30 rfl (L.o (O.store1 sizeOf30 hvn rfl rfl ((hBx.ext aaD).grown agu (fun j hj=>by have:=(hOx.lt hj).1;omega)) (by simp [Value.cells]) (fun w45 ZO Ye=>?_))))
   replace ZO:Upd b9 w44 w45:=ZO
   refine L.nil (T.blk (T.region (L.m rfl (L.o (O.aH rfl rfl (by omega) (L.a rfl (L.nil (T.again ((k+1,v44)) (by show (d.l % 4).toNat-(k+1)<(d.l % 4).toNat-k;omega) ⟨rfl,rfl,rfl,rfl,rfl,rfl,rfl,rfl,trivial⟩ ⟨by omega,hly.trans (Loc.kQ ZO rfl),Ye,?_⟩))))))))
   ·have hfin:lS w30.heap.size w44 v44 (dList (dL1 d n i) (k+1)):=by
     unfold lS;rw [dZ,sO,List.map_append];rw [hlen] at adV;exact adV
    exact hfin.loc (q:=.slice (some ⟨b9,0,none⟩) 0 0) (Loc.kQ ZO rfl) (fun x hx e=>by have:=hlb x e;have:=(hfin.lt hx).1;omega)
  refine L.nil (?_)
  have hke:k=(d.l % 4).toNat:=by omega
  rw [hke] at acS
  have Ya:=Ya.loc aaC (fun x hx e=>by have:=hlb x e;have:=(Ya.lt hx).1;omega)
  have acQ:=acQ.loc aaC (fun x hx e=>by have:=hlb x e;have:=(acQ.lt hx).1;omega)
  have agv:=aaC.size
  have aif:lS w11.heap.size w40 pv (dList (dL1 d n i) (d.l % 4).toNat):=acS.mono (by omega)
  obtain ⟨u,hu⟩:∃ u:UnV,u=⟨dNm i,dP d n i,gv,dList (dG1 d n i) (d.g % 3).toNat,vv,dList (dV1 d n i) (d.p % 4).toNat,pv,dList (dL1 d n i) (d.l % 4).toNat,dWt d n i⟩:=⟨_,rfl⟩
  have hBu:Blk w40 b9 u.cells 51:=by rw [hu];exact acR
  have hown:sQ w11.heap.size w40 u:=by rw [hu];exact ⟨Ya,acQ,aif,by show (dNm i).length≤_;simp [dNm,UH]⟩
  refine T.cf (T.exit rfl (T.region (L.o (O.fieldAddr runUnderlying25 rfl sizeOf23 rfl (L.o (O.load isAgg23 rfl (acT.c5.cell rfl) (L.o (O.ak isAgg51 sizeOf51 rfl rfl hBu.row (L.o (O.buildSlice (el:=51) (parts:=[(0,.tmp 134)]) (vs:=[(0,_)]) (cs:=u.cells) rfl (fun w=>by kernel_rfl) (fun b60 w60 alM alN aaE aii=>?_)))))))))))
  have Nu:=acT.ext aaE
  have Xe:=hown.ext aaE
  refine L.o (O.append (size:=6) (bytes:=104) runUnderlying23 Tryz.Ku rfl rfl rfl rfl (by decide) rfl rfl Nu.row (Sl.aA (lo:=0) (n:=1) (sz:=6) aii rfl (Nat.le_refl _) (by decide) (Nat.zero_le _)) (Xe.ok.one) (by omega) (by simp only [maxLen];omega) (by have:=Yd.size;have:=aaE.size;omega) (fun v61 w61 agw Qd=>?_))
  have hne:∀ b',b'<w6.heap.size→∀ j,uv.ownBlock=some j→j≠b':=fun b' hb' j hj=>by have:=(kK Nu.row hj).1;omega
  have hvn:v61.oneCell'=true:=Sl.one (Sl.aS agw)
  have aij:Ext w w60:=(he7.trans Yd).trans aaE
  have aik:Ext w w61:=aij.gB Nu.row Qd (by have:=Ii.size;omega)
  refine L.o (O.fieldAddr runUnderlying25 rfl sizeOf23 rfl (L.o (O.store1 sizeOf23 hvn rfl rfl (Nu.c5.grown Qd (hne b5 Df)) (by simp [Value.cells]) (fun w62 Xf UO=>?_))))
  replace Xf:Upd b5 w61 w62:=Xf
  have adW:Loc (.slice (some ⟨b5,0,none⟩) 0 0) w61 w62:=Loc.kQ Xf rfl
  have adX:∀ {base:Nat} {v:Value} {xs:List Int},w6.heap.size≤base→lS base w61 v xs→∀ b,v.ownBlock=some b→(Value.slice (some ⟨b5,0,none⟩) 0 0).ownBlock≠some b:=fun hb h b h1 e=>by have e':b5=b:=Option.some.inj e;have:=(h.lt h1).1;omega
  have Xg:=dQ.size
  have mv:∀ x,sQ w6.heap.size w60 x→sQ w6.heap.size w62 x:=fun x hx=>⟨(hx.g.row Nu.row Qd (m:=0)).loc adW (adX (Nat.le_refl _) (hx.g.row Nu.row Qd (m:=0))),(hx.v.row Nu.row Qd (m:=0)).loc adW (adX (Nat.le_refl _) (hx.v.row Nu.row Qd (m:=0))),(hx.p.row Nu.row Qd (m:=0)).loc adW (adX (Nat.le_refl _) (hx.p.row Nu.row Qd (m:=0))),hx.n⟩
  refine L.nil (T.blk (T.region (L.m rfl (L.o (O.aH rfl rfl (by omega) (L.a rfl (L.nil (T.again ((i+1,v61,us ++ [u])) (by omega) ⟨rfl,rfl,rfl,rfl,rfl,rfl,trivial⟩ ⟨by omega,aik.upd Xf (.inr (by omega)),?_,⟨(Nu.d2.grown Qd (hne b2 (by omega))).upd Xf (by omega),(Nu.c4.grown Qd (hne b4 (by omega))).upd Xf (by omega),UO,?_,fun x hx=>?_⟩,by simp [hl7],fun j hj=>?_⟩))))))))
  ·have:=Yd.size
   have:=aaE.size
   have:=Qd.size
   have:=Xf.size
   omega
  ·rw [List.length_append,List.length_singleton,qI,sH];exact gV agw Xf Df
  ·rcases List.mem_append.1 hx with hx|hx
   ·exact mv x (Nu.own x hx)
   rw [List.mem_singleton.1 hx];exact mv u (Xe.mono (by omega))
  by_cases e:j=i
  ·subst e
   rw [show (us ++ [u]).getD j u0=u by rw [au (by simp;omega)];simp [hl7]]
   rw [hu];exact ⟨rfl,rfl,rfl,rfl,rfl,rfl⟩
  rw [show (us ++ [u]).getD j u0=us.getD j u0 by rw [au (by simp;omega),au (by omega)];simp [show j<us.length by omega]]
  exact hU7 j (by omega)
 refine L.nil (?_)
 obtain rfl:i=n:=by omega
 refine T.cf (T.exit rfl (T.q (L.o (O.ak isAgg25 sizeOf25 rfl rfl hS7.c5.row (?_)))))
 have ail:uv.oneCell'=true:=Sl.one (Sl.aS hS7.row)
 refine L.o (O.aF sizeOf25 rfl rfl rfl hS7.c4 (Nat.le_refl _) (by intro u hu;simp at hu;rcases hu with (rfl|rfl|rfl|rfl);rfl;rfl;rfl;exact ail) (fun w8 hu8 hB8=>?_))
 have hR8:Blk w8 b4 [.int .i64 (d.g % 3),.int .i64 (d.p % 4),.int .i64 (d.l % 4),uv] 25:=hB8
 replace hu8:Upd b4 w7 w8:=hu8
 have adY:=gV hS7.row hu8 (by omega)
 refine L.nil (T.retA results70 isAgg25 sizeOf25 rfl rfl hR8.row ⟨he7.upd hu8 (.inr (by omega)),⟨d.g % 3,d.p % 4,d.l % 4,uv,us⟩,rfl,⟨(Sl.aS adY).mono (by omega),fun u hu=>?_⟩,rfl,rfl,rfl,hl7,hU7⟩)
 have hloc:Loc (.slice (some ⟨b4,0,none⟩) 0 0) w7 w8:=Loc.kQ hu8 rfl
 have ho:=hS7.own u hu
 have key:∀ {v:Value} {xs:List Int},lS w6.heap.size w7 v xs→∀ b,v.ownBlock=some b→(Value.slice (some ⟨b4,0,none⟩) 0 0).ownBlock≠some b:=fun h b hb e=>by have e':b4=b:=Option.some.inj e;have:=(h.lt hb).1;omega
 exact (show sQ w6.heap.size w8 u from ⟨ho.g.loc hloc (key ho.g),ho.v.loc hloc (key ho.v),ho.p.loc hloc (key ho.p),ho.n⟩).ok.mono (by omega)
open Go Go.E
structure sS (d:Dr) (n:Nat) (r:RoV):Prop where
 n1:1≤n
 n2:n≤24
 g:r.G=d.g % 3
 p:r.P=d.p % 4
 l:r.L=d.l % 4
 len:r.us.length=n
 u:∀ i,i<n→DU d (d.g % 3).toNat (d.p % 4).toNat (d.l % 4).toNat n i (r.us.getD i u0)
def Qe (d:Dr) (n base:Nat) (v:Value) (w:World):Prop:=∃ r:RoV,v=r.val∧r.ok base w∧sS d n r
theorem Qe.st {d:Dr} {n base:Nat} : ∀ v w w',Ext w w'→Qe d n base v w→Qe d n base v w':=fun _ _ _ he ⟨r,h1,h2,h3⟩=>⟨r,h1,h2.ext he,h3⟩
theorem RoV.ok.mono {lo lo':Nat} {w:World} {r:RoV} (h:r.ok lo w) (hl:lo'≤lo):r.ok lo' w:=Units.mono h hl
theorem RoV.ok.one {lo:Nat} {w:World} {r:RoV} (h:r.ok lo w):r.uv.oneCell'=true:=Sl.one h.sl
theorem RoV.ok.loc {lo b:Nat} {w w':World} {r:RoV} (h:r.ok lo w) (hu:Upd b w w') (hb:b<lo):r.ok lo w':=h.keep (lo:=lo) ((Keep.refl lo w).upd hu (.inl hb))
end Go.Proofs.YtnlonpcbgjbbaaaGreatDoor
