/-
  BlocksReads, part 7 of its proof: that it returns true for every input, and each argument reads behind the call as it read before. Conditions: the listed variables read as the program's text lays them (tied by the card).
-/
import Derived.Test.YtnlonpcbgjbbaaaGreatDoorWBlocksReads6
set_option linter.unusedVariables false
set_option linter.unusedSimpArgs false
set_option maxRecDepth 20000
set_option linter.unusedVariables false
set_option linter.unusedSimpArgs false
set_option maxRecDepth 20000
namespace Go.Proofs.YtnlonpcbgjbbaaaGreatDoor
open Go.Proofs.Tryz (call125 call126 call22 call69 call70 func22 func39 func69 func70 isAgg23 isAgg25 isAgg3 isAgg30 isAgg4 isAgg43 isAgg44 isAgg46 isAgg48 isAgg5 isAgg51 isAgg54 isAgg56 isAgg59 ntmps22 ntmps39 ntmps69 ntmps70 results22 results39 results69 results70 runUnderlying114 runUnderlying23 runUnderlying25 runUnderlying3 runUnderlying30 runUnderlying43 runUnderlying44 runUnderlying46 runUnderlying48 runUnderlying5 runUnderlying51 runUnderlying54 runUnderlying56 runUnderlying59 runUnderlying9 sizeOf23 sizeOf25 sizeOf3 sizeOf30 sizeOf4 sizeOf43 sizeOf44 sizeOf46 sizeOf48 sizeOf5 sizeOf51 sizeOf54 sizeOf56 sizeOf59 zeroValue25 zeroValue46 zeroValue48 zeroValue51)
open Go Go.E
attribute [local irreducible] Go.E.T Go.E.L Go.E.O Go.E.Ob
def rH (base:Nat) (el:TypeId) (sz n:Nat) (v:Value) (w:World):Prop:=∃ xs,w.ownsRow base el sz v n xs∧∀ c∈xs,c.oneCell'=true
theorem rH.nil (base:Nat) (el:TypeId) (sz:Nat) (w:World):rH base el sz 0 (.slice none 0 0) w:=⟨[],dW _ _ _ _,fun _ h=>by cases h⟩
theorem rH.ext {base:Nat} {el:TypeId} {sz n:Nat} {v:Value} {w w':World} (h:rH base el sz n v w) (k:Ext w w'):rH base el sz n v w':=by
 obtain ⟨xs,h1,h2⟩:=h;exact ⟨xs,aH h1 k (Nat.zero_le _),h2⟩
theorem rH.upd {base b:Nat} {el:TypeId} {sz n:Nat} {v:Value} {w w':World} (h:rH base el sz n v w) (k:Upd b w w') (hb:b<base):rH base el sz n v w':=by
 obtain ⟨xs,h1,h2⟩:=h;exact ⟨xs,Bo h1 k hb,h2⟩
theorem rH.one {base:Nat} {el:TypeId} {sz n:Nat} {v:Value} {w:World} (h:rH base el sz n v w):v.oneCell'=true:=by
 obtain ⟨xs,h1,h2⟩:=h;exact Sl.one (Sl.aU h1)
def Yz (w:World) (v:Value) (w':World):Prop:=Ext w w'∧∃ pv fv n,v = .agg #[pv,fv]∧rH w.heap.size 127 2 n fv w'∧1≤n∧n≤24∧pv.oneCell'=true
def oJ (d:Dr):List Value:=[.int .u8 d.wd,.int .u8 d.hi,d.cv,d.sv,.bool d.ho]
set_option maxHeartbeats 1000000 in
theorem Cc (lo:Nat) (d:Dr) (w:World) (hd:d.ok lo w) :
  Calls Tryz.prog 69 #[.agg (oJ d).toArray] w (Ret fun v w'=>Yz w v w'):=by
 refine T.enter (vs:=[.agg (oJ d).toArray]) func69 rfl ntmps69 rfl ?_
 refine T.q (L.o (O.box rfl (fun b1 w1 hb1 hz1 he1 hB1=>?_)))
 refine L.o (O.alloc zeroValue46 (fun b2 w2 hb2 hz2 he2 hB2=>?_))
 have wu:=he1.trans he2
 have hD2:Blk w2 b1 (oJ d) 56:=Blk.ext (cs:=oJ d) hB1 he2
 have hR2:Blk w2 b2 [.slice none 0 0,.slice none 0 0] 46:=hB2
 have hb1':=hD2.lt
 have hb2':=hR2.lt
 have hw0:=hd.w0
 have hh0:=hd.h0
 unfold qE at hw0 hh0
 refine L.nil (T.seq (?_))
 refine T.dL mixed 11 [1] rfl [.is _,.is _,.is _,.is _,.is _,.is _,.is _,.is _,.is _,.is _,.is _] [[],[0],[1],[2],[3],[],[5],[6],[7],[8],[4]] [[],[0],[0,1],[0,1,2],[0,1,2,3],[],[5],[5,6],[5,6,7],[5,6,7,8],[0,1,2,3,4],[0,1,2,3,4,5,6,7,8,9,10]] (by kernel_rfl) (by kernel_rfl) rfl (by kernel_rfl) trivial ⟨fun wx hx=>Ob.o (O.fieldAddr runUnderlying56 rfl sizeOf5 rfl kR),
   fun wx hx=>Ob.o (O.load isAgg5 rfl ((hD2.ext hx).cell rfl) kR),
   fun wx hx=>Ob.o (O.rem rfl rfl (by omega) (by omega) kR),
   fun wx hx=>Ob.o (O.cZ rfl (fun w=>⟨_,runUnderlying5 w⟩) runUnderlying3 (IntWalk.i64_in _ ⟨by omega,by omega⟩) kR),
   fun wx hx=>Ob.o (O.aC rfl rfl (by omega) kR),
   fun wx hx=>Ob.o (O.fieldAddr runUnderlying56 rfl sizeOf5 rfl kR),
   fun wx hx=>Ob.o (O.load isAgg5 rfl ((hD2.ext hx).cell rfl) kR),
   fun wx hx=>Ob.o (O.rem rfl rfl (by omega) (by omega) kR),
   fun wx hx=>Ob.o (O.cZ rfl (fun w=>⟨_,runUnderlying5 w⟩) runUnderlying3 (IntWalk.i64_in _ ⟨by omega,by omega⟩) kR),
   fun wx hx=>Ob.o (O.aC rfl rfl (by omega) kR),
   fun wx hx=>Ob.o (O.assign rfl kR),
   trivial⟩ (fun w3 he3=>?_)
 refine L.a rfl (L.nil (T.seq (T.q (L.o (O.fieldAddr runUnderlying56 rfl sizeOf4 rfl (L.o (O.load isAgg4 rfl ((hD2.ext he3).cell rfl) (?_))))))))
 have gV:=wu.trans he3
 refine L.nil (?_)
 refine T.join (σ:=Int × Int) (fun s=>[(1,.pointer (some ⟨b1,0,none⟩)),(2,.pointer (some ⟨b2,0,none⟩)),(3,.int .i64 s.1),(4,.int .i64 s.2)]) (fun s w'=>w'=w3∧1≤s.1∧s.1≤4∧1≤s.2∧s.2≤3) ?_ ?_
 ·rcases hho:d.ho with _|_
  ·refine T.cf (T.skip (T.meet ((1+d.wd % 4,1+d.hi % 3)) ⟨rfl,rfl,rfl,rfl,trivial⟩ ⟨rfl,by show 1≤1+d.wd % 4;omega,by show 1+d.wd % 4≤4;omega,by show 1≤1+d.hi % 3;omega,by show 1+d.hi % 3≤3;omega⟩))
  refine T.ct (T.region (L.a rfl (L.a rfl (L.nil (T.meet ((3,3)) ⟨rfl,rfl,rfl,rfl,trivial⟩ ⟨rfl,by decide,by decide,by decide,by decide⟩)))))
 rintro ⟨Wi,Hi⟩ w4 ⟨rfl,hW1,hW2,hH1,hH2⟩
 simp only at hW1 hW2 hH1 hH2
 obtain ⟨Wn,rfl⟩:∃ Wn:Nat,Wi=Wn:=⟨Wi.toNat,by omega⟩
 obtain ⟨Hn,rfl⟩:∃ Hn:Nat,Hi=Hn:=⟨Hi.toNat,by omega⟩
 have aga:Wn≤4:=by omega
 refine T.q (L.o (O.build (v:=.agg #[.slice none 0 0,.slice none 0 0]) (parts:=[]) (vs:=[]) rfl (fun w=>by kernel_rfl) (L.o (O.alloc zeroValue46 (fun b5 w5 hb5 hz5 he5 hB5=>?_)))))
 refine L.o (O.aF sizeOf46 rfl rfl rfl hB5 (Nat.le_refl _) (by intro u hu;simp at hu;rcases hu with (rfl|rfl) <;> rfl) (fun w6 hu6 hB6=>?_))
 replace hu6:Upd b5 w5 w6:=hu6
 have hz3:=he3.size
 have zZ:Ext w4 w6:=he5.upd hu6 (.inr (by omega))
 have GK:=gV.trans zZ
 have aer:Blk w6 b5 [.slice none 0 0,.slice none 0 0] 46:=hB6
 have GL:=aer.lt
 have hz6:=hu6.size
 have ajV:=wu.size
 have hD6:Blk w6 b1 (oJ d) 56:=(hD2.ext he3).ext zZ
 have hR6:=(hR2.ext he3).ext zZ
 refine L.nil (T.q (L.a rfl (L.nil (T.seq (T.q (L.a rfl (L.nil (T.block (?_)))))))))
 refine T.loop (σ:=Nat × Int × Value × Nat) (fun s=>[(1,.pointer (some ⟨b1,0,none⟩)),(2,.pointer (some ⟨b2,0,none⟩)),(3,.int .i64 Wn),(4,.int .i64 Hn),(5,.pointer (some ⟨b5,0,none⟩)),(6,.int .i64 s.2.1),(7,.int .i64 s.1)]) (fun s w'=>s.1≤Hn+1∧0≤s.2.1∧s.2.1≤5*s.1∧Ext w w'∧w6.heap.size≤w'.heap.size∧Blk w' b1 (oJ d) 56∧Blk w' b2 [.slice none 0 0,.slice none 0 0] 46∧Blk w' b5 [s.2.2.1,.slice none 0 0] 46∧rH w6.heap.size 124 2 s.2.2.2 s.2.2.1 w'∧s.2.2.2≤5*s.1) (fun s=>Hn+1-s.1) ((0,0,.slice none 0 0,0)) ⟨rfl,rfl,rfl,rfl,rfl,rfl,rfl,trivial⟩ ⟨Nat.zero_le _,Int.le_refl _,by decide,GK,Nat.le_refl _,hD6,hR6,aer,rH.nil _ _ _ _,Nat.le_refl _⟩ ?_
 rintro ⟨k,y,pv,np⟩ w7 ⟨hk,hy0,hy1,he7,hz7,hD7,hR7,hC7,hP7,hn7⟩
 simp only at hk hy0 hy1 hC7 hP7 hn7
 refine T.seq (T.q (L.m rfl (L.m rfl (L.o (O.qc rfl rfl (fun hlk=>?_) (fun hlk=>?_))))))
 ·refine L.nil (?_)
  have UH:k≤Hn:=by omega
  refine T.ct (T.skip (T.seq (T.block (T.q (L.a rfl (L.nil (T.seq (T.q (L.a rfl (L.nil (T.block (?_))))))))))))
  refine T.loop (σ:=Nat × Int × Value × Nat) (fun s=>[(1,.pointer (some ⟨b1,0,none⟩)),(2,.pointer (some ⟨b2,0,none⟩)),(3,.int .i64 Wn),(4,.int .i64 Hn),(5,.pointer (some ⟨b5,0,none⟩)),(6,.int .i64 y),(7,.int .i64 k),(8,.int .i64 s.2.1),(9,.int .i64 s.1)]) (fun s w'=>s.1≤Wn+1∧0≤s.2.1∧s.2.1≤5*s.1∧Ext w w'∧w6.heap.size≤w'.heap.size∧Blk w' b1 (oJ d) 56∧Blk w' b2 [.slice none 0 0,.slice none 0 0] 46∧Blk w' b5 [s.2.2.1,.slice none 0 0] 46∧rH w6.heap.size 124 2 s.2.2.2 s.2.2.1 w'∧s.2.2.2≤5*k+s.1) (fun s=>Wn+1-s.1) ((0,0,pv,np)) ⟨rfl,rfl,rfl,rfl,rfl,rfl,rfl,rfl,rfl,trivial⟩ ⟨Nat.zero_le _,Int.le_refl _,by show (0:Int)≤5*((0:Nat):Int);omega,he7,hz7,hD7,hR7,hC7,hP7,hn7⟩ ?_
  rintro ⟨i,x,pv2,np2⟩ w8 ⟨hi,hx0,hx1,he8,hz8,hD8,hR8,hC8,hP8,hn8⟩
  simp only at hi hx0 hx1 hC8 hP8 hn8
  refine T.seq (T.q (L.m rfl (L.m rfl (L.o (O.qc rfl rfl (fun hli=>?_) (fun hli=>?_))))))
  ·refine L.nil (?_)
   have ajW:i≤Wn:=by omega
   refine T.ct (T.skip (T.seq (T.block (T.q (L.o (O.fieldAddr runUnderlying46 rfl sizeOf43 rfl (L.o (O.load isAgg43 rfl (hC8.cell rfl) (L.m rfl (L.m rfl (L.o (O.build (v:=.agg #[.int .i64 x,.int .i64 y]) (parts:=[(0,.tmp 39),(1,.tmp 40)]) (vs:=[(0,_),(1,_)]) rfl (fun w=>by kernel_rfl) (L.o (O.buildSlice (el:=124) (parts:=[(0,.tmp 41)]) (vs:=[(0,_)]) (cs:=[.int .i64 x,.int .i64 y]) rfl (fun w=>by kernel_rfl) (fun b9 w9 hb9 hz9 he9 hB9=>?_)))))))))))))))
   obtain ⟨xs,hO8,hone⟩:=hP8
   have hO9:=aH hO8 he9 (Nat.zero_le _)
   refine L.o (O.append (size:=2) (bytes:=16) runUnderlying43 Tryz.wK rfl rfl rfl rfl (by decide) rfl rfl hO9 (Sl.ay (lo:=0) (n:=1) (sz:=2) hB9 rfl (Nat.le_refl _) (by decide) (Nat.zero_le _)) (by intro c hc;simp at hc;rcases hc with (rfl|rfl) <;> rfl) (by omega) (by simp only [maxLen];omega) (by have:=he9.size;omega) (fun v10 w10 aes YA=>?_))
   have hne:∀ b',b'<w6.heap.size→∀ j,pv2.ownBlock=some j→j≠b':=fun b' hb' j hj=>by have:=(jQ hO8 hj).1;omega
   have aaD:v10.oneCell'=true:=Sl.one (Sl.aU aes)
   have Oj:Ext w w10:=(he8.trans he9).dV hO9 YA (by have:=GK.size;omega)
   refine L.o (O.fieldAddr runUnderlying46 rfl sizeOf43 rfl (L.o (O.store1 sizeOf43 aaD rfl rfl ((hC8.ext he9).grown YA (hne b5 GL)) (by simp [Value.cells]) (fun w11 jg nR=>?_))))
   replace jg:Upd b5 w10 w11:=jg
   have aaE:=((hD8.ext he9).grown YA (hne b1 (by omega))).upd jg (by omega)
   have abx:=((hR8.ext he9).grown YA (hne b2 (by omega))).upd jg (by omega)
   have yY:Ext w w11:=Oj.upd jg (.inr (by omega))
   have hd11:=hd.ext yY
   have hnb:=Cb hd.sl i
   have aby:w8.heap.size≤w11.heap.size:=by have:=he9.size;have:=YA.size;have:=jg.size;omega
   refine L.nil (T.region (L.m rfl (L.o (O.aC rfl rfl (by (try dsimp only);omega) (L.o (O.fieldAddr runUnderlying56 rfl sizeOf54 rfl (L.o (O.load isAgg54 rfl (aaE.cell rfl) (L.m rfl (L.o (O.call (xs:=[.tmp 48,.tmp 49]) call125 rfl rfl (nN lo d.sv d.ss i w11 hd11.s hd.sl (by omega)) (fun v12 w12 hq=>?_))))))))))))
   obtain ⟨rfl,rfl⟩:=hq
   refine L.o (O.rem rfl rfl (by omega) (by omega) (L.o (O.aC rfl rfl (by (try dsimp only);omega) (L.a rfl (L.nil (T.blk (T.region (L.m rfl (L.o (O.aC rfl rfl (by (try dsimp only);omega) (L.a rfl (L.nil (T.again ((i+1,x+1+Nj d.ss i % 5,v10,np2+1)) (by omega) ⟨rfl,rfl,rfl,rfl,rfl,rfl,rfl,rfl,rfl,trivial⟩ ⟨by omega,by show 0≤x+1+Nj d.ss i % 5;omega,by show x+1+Nj d.ss i % 5≤5*((i+1:Nat):Int);omega,yY,by omega,aaE,abx,nR,?_,by show np2+1≤_;omega⟩)))))))))))))
   ·exact rH.upd ⟨_,aes,fun c hc=>by rcases List.mem_append.1 hc with hc|hc;exact hone c hc;(simp at hc;rcases hc with (rfl|rfl) <;> rfl)⟩ jg GL
  refine L.nil (?_)
  have hd8:=hd.ext he8
  have hnb:=Cb hd.sl (7+k)
  refine T.cf (T.exit rfl (T.region (L.m rfl (L.o (O.aC rfl rfl (by (try dsimp only);omega) (L.o (O.fieldAddr runUnderlying56 rfl sizeOf54 rfl (L.o (O.load isAgg54 rfl (hD8.cell rfl) (L.m rfl (L.o (O.aC rfl rfl (by (try dsimp only);omega) (?_)))))))))))))
  rw [show (7:Int)+(k:Int)=((7+k:Nat):Int) by omega]
  refine L.o (O.call (xs:=[.tmp 56,.tmp 58]) call125 rfl rfl (nN lo d.sv d.ss (7+k) w8 hd8.s hd.sl (by omega)) (fun v9 w9 hq=>?_))
  obtain ⟨rfl,rfl⟩:=hq
  refine L.o (O.rem rfl rfl (by omega) (by omega) (L.o (O.aC rfl rfl (by (try dsimp only);omega) (L.a rfl (L.nil (T.blk (T.region (L.m rfl (L.o (O.aC rfl rfl (by (try dsimp only);omega) (L.a rfl (L.nil (T.again ((k+1,y+1+Nj d.ss (7+k) % 5,pv2,np2)) (by omega) ⟨rfl,rfl,rfl,rfl,rfl,rfl,rfl,trivial⟩ ⟨by omega,by show 0≤y+1+Nj d.ss (7+k) % 5;omega,by show y+1+Nj d.ss (7+k) % 5≤5*((k+1:Nat):Int);omega,he8,hz8,hD8,hR8,hC8,hP8,by show np2≤5*(k+1);omega⟩)))))))))))))
 refine L.nil (T.cf (T.exit rfl (T.seq (T.q (L.o (O.fieldAddr runUnderlying56 rfl sizeOf4 rfl (L.o (O.load isAgg4 rfl (hD7.cell rfl) (?_)))))))))
 have ajX:=GK.size
 rcases hho:d.ho with _|_
 ·refine L.nil (T.cf (T.skip (T.seq (T.q (L.a rfl (L.nil (T.block (?_))))))))
  refine T.loop (σ:=Nat × Value × Nat) (fun s=>[(1,.pointer (some ⟨b1,0,none⟩)),(2,.pointer (some ⟨b2,0,none⟩)),(3,.int .i64 Wn),(4,.int .i64 Hn),(5,.pointer (some ⟨b5,0,none⟩)),(10,.int .i64 s.1)]) (fun s w'=>s.1≤Hn∧Ext w w'∧w6.heap.size≤w'.heap.size∧Blk w' b1 (oJ d) 56∧Blk w' b2 [.slice none 0 0,.slice none 0 0] 46∧Blk w' b5 [pv,s.2.1] 46∧rH w6.heap.size 127 2 s.2.2 s.2.1 w'∧s.2.2≤8*s.1∧(0<s.1→1≤s.2.2)) (fun s=>Hn-s.1) ((0,.slice none 0 0,0)) ⟨rfl,rfl,rfl,rfl,rfl,rfl,trivial⟩ ⟨Nat.zero_le _,he7,hz7,hD7,hR7,hC7,rH.nil _ _ _ _,Nat.le_refl _,fun h=>absurd h (Nat.lt_irrefl _)⟩ ?_
  rintro ⟨k,fv,nf⟩ w8 ⟨hk8,he8,hz8,hD8,hR8,hC8,hF8,hn8,hp8⟩
  simp only at hk8 hC8 hF8 hn8 hp8
  refine T.seq (T.q (L.m rfl (L.m rfl (L.o (O.aV rfl rfl (fun hlk2=>?_) (fun hlk2=>?_))))))
  ·refine L.nil (?_)
   have agb:k<Hn:=by omega
   refine T.ct (T.skip (T.seq (T.block (T.q (L.a rfl (L.nil (T.block (?_))))))))
   refine T.loop (σ:=Nat × Value × Nat) (fun s=>[(1,.pointer (some ⟨b1,0,none⟩)),(2,.pointer (some ⟨b2,0,none⟩)),(3,.int .i64 Wn),(4,.int .i64 Hn),(5,.pointer (some ⟨b5,0,none⟩)),(10,.int .i64 k),(11,.int .i64 s.1)]) (fun s w'=>s.1≤Wn∧Ext w w'∧w6.heap.size≤w'.heap.size∧Blk w' b1 (oJ d) 56∧Blk w' b2 [.slice none 0 0,.slice none 0 0] 46∧Blk w' b5 [pv,s.2.1] 46∧rH w6.heap.size 127 2 s.2.2 s.2.1 w'∧s.2.2≤8*k+2*s.1∧(0<k∨0<s.1→1≤s.2.2)) (fun s=>Wn-s.1) ((0,fv,nf)) ⟨rfl,rfl,rfl,rfl,rfl,rfl,rfl,trivial⟩ ⟨Nat.zero_le _,he8,hz8,hD8,hR8,hC8,hF8,hn8,fun h=>hp8 (by rcases h with h|h;exact h;exact absurd h (Nat.lt_irrefl _))⟩ ?_
   rintro ⟨i,fv2,nf2⟩ w9 ⟨hi9,he9,hz9,hD9,hR9,hC9,hF9,hn9,hp9⟩
   simp only at hi9 hC9 hF9 hn9 hp9
   refine T.seq (T.q (L.m rfl (L.m rfl (L.o (O.aV rfl rfl (fun agc=>?_) (fun agc=>?_))))))
   ·refine L.nil (?_)
    have agd:i<Wn:=by omega
    have hm:0≤(k:Int)*((Wn:Int)+1)∧(k:Int)*((Wn:Int)+1)≤15:=⟨Int.mul_nonneg (by omega) (by omega),Int.mul_le_mul (show (k:Int)≤3 by omega) (show (Wn:Int)+1≤5 by omega) (by omega) (by omega)⟩
    have hmk:(k:Int)*(Wn:Int)=((k*Wn:Nat):Int):=by simp
    have hm2:k*Wn≤12:=Nat.mul_le_mul (show k≤3 by omega) aga
    obtain ⟨xs,hO9,hone⟩:=hF9
    refine T.ct (T.skip (T.seq (?_)))
    refine T.join (σ:=Value × Nat) (fun s=>[(1,.pointer (some ⟨b1,0,none⟩)),(2,.pointer (some ⟨b2,0,none⟩)),(3,.int .i64 Wn),(4,.int .i64 Hn),(5,.pointer (some ⟨b5,0,none⟩)),(10,.int .i64 k),(11,.int .i64 i)]) (fun s w'=>Ext w w'∧w6.heap.size≤w'.heap.size∧Blk w' b1 (oJ d) 56∧Blk w' b2 [.slice none 0 0,.slice none 0 0] 46∧Blk w' b5 [pv,s.1] 46∧rH w6.heap.size 127 2 s.2 s.1 w'∧s.2≤8*k+2*(i+1)∧1≤s.2) ?_ ?_
    ·refine T.block (T.q (L.m rfl (L.m rfl (L.o (O.aC rfl rfl (by (try dsimp only);omega) (L.o (O.lW rfl rfl (by (try dsimp only);omega) (L.m rfl (L.o (O.aC rfl rfl (by (try dsimp only);omega) (L.a rfl (L.nil (T.q (L.m rfl (L.m rfl (L.o (O.aC rfl rfl (by (try dsimp only);omega) (L.o (O.aC rfl rfl (by (try dsimp only);omega) (L.a rfl (L.nil (T.q (L.o (O.fieldAddr runUnderlying56 rfl sizeOf54 rfl (L.o (O.load isAgg54 rfl (hD9.cell rfl) (L.m rfl (?_))))))))))))))))))))))))))))
     refine L.m rfl (L.o (O.lW rfl rfl (by (try dsimp only);omega) (L.m rfl (L.o (O.aC rfl rfl (by (try dsimp only);omega) (L.o (O.call (xs:=[.tmp 107,.tmp 112]) call125 rfl rfl (nN lo d.cv d.cs (k*Wn+i) w9 (hd.ext he9).c hd.cl (by omega)) (fun v10 w10 hq=>?_))))))))
     obtain ⟨rfl,rfl⟩:=hq
     have hnb:=Cb hd.cl (k*Wn+i)
     refine L.o (O.rem rfl rfl (by omega) (by omega) (L.nil (T.block (T.q (L.o (O.gJ rfl rfl (fun c0=>?_) (fun c0=>?_)))))))
     ·refine L.a rfl (L.nil (T.ct (T.region (L.o (O.fieldAddr runUnderlying46 rfl sizeOf44 rfl (L.o (O.load isAgg44 rfl (hC9.cell rfl) (L.m rfl (L.m rfl (L.o (O.aC rfl rfl (by (try dsimp only);omega) (L.m rfl (L.o (O.aC rfl rfl (by (try dsimp only);omega) (L.o (O.buildSlice (el:=3) (parts:=[(0,.tmp 132),(1,.tmp 134),(2,.tmp 136)]) (vs:=[(0,_),(1,_),(2,_)]) (cs:=[.int .i64 ((k:Int)*((Wn:Int)+1)+(i:Int)),.int .i64 ((k:Int)*((Wn:Int)+1)+(i:Int)+1),.int .i64 ((k:Int)*((Wn:Int)+1)+(i:Int)+(Wn:Int)+1+1)]) rfl (fun w=>by kernel_rfl) (fun b11 w11 aaF UK eU nR=>?_)))))))))))))))))
      refine L.o (O.build (v:=.agg #[.slice (some ⟨b11,0,none⟩) 3 3,.slice none 0 0]) (parts:=[(0,.tmp 137)]) (vs:=[(0,_)]) rfl (fun w=>by kernel_rfl) (L.m rfl (L.m rfl (L.o (O.aC rfl rfl (by (try dsimp only);omega) (L.m rfl (L.o (O.buildSlice (el:=3) (parts:=[(0,.tmp 139),(1,.tmp 141),(2,.tmp 142)]) (vs:=[(0,_),(1,_),(2,_)]) (cs:=[.int .i64 ((k:Int)*((Wn:Int)+1)+(i:Int)),.int .i64 ((k:Int)*((Wn:Int)+1)+(i:Int)+(Wn:Int)+1+1),.int .i64 ((k:Int)*((Wn:Int)+1)+(i:Int)+(Wn:Int)+1)]) rfl (fun w=>by kernel_rfl) (fun b12 w12 XQ XR eX xg=>?_)))))))))
      refine L.o (O.build (v:=.agg #[.slice (some ⟨b12,0,none⟩) 3 3,.slice none 0 0]) (parts:=[(0,.tmp 143)]) (vs:=[(0,_)]) rfl (fun w=>by kernel_rfl) (L.o (O.buildSlice (el:=127) (parts:=[(0,.tmp 138),(1,.tmp 144)]) (vs:=[(0,_),(1,_)]) (cs:=[.slice (some ⟨b11,0,none⟩) 3 3,.slice none 0 0,.slice (some ⟨b12,0,none⟩) 3 3,.slice none 0 0]) rfl (fun w=>by kernel_rfl) (fun b13 w13 aaG Vz dB xk=>?_))))
      have heL:=((eU).trans eX).trans dB
      have hOL:=aH hO9 heL (Nat.zero_le _)
      refine L.o (O.append (size:=2) (bytes:=48) runUnderlying44 Tryz.jP rfl rfl rfl rfl (by decide) rfl rfl hOL (Sl.ay (lo:=0) (n:=2) (sz:=2) xk rfl (Nat.le_refl _) (by decide) (Nat.zero_le _)) (by intro c hc;simp at hc;rcases hc with (rfl|rfl|rfl|rfl) <;> rfl) (by omega) (by simp only [maxLen];omega) (by have:=heL.size;omega) (fun v30 w30 Ie Ce=>?_))
      have hne:∀ b',b'<w6.heap.size→∀ j,fv2.ownBlock=some j→j≠b':=fun b' hb' j hj=>by have:=(jQ hOL hj).1;omega
      have UL:v30.oneCell'=true:=Sl.one (Sl.aU Ie)
      refine L.o (O.fieldAddr runUnderlying46 rfl sizeOf44 rfl (L.o (O.store1 sizeOf44 UL rfl rfl ((hC9.ext heL).grown Ce (hne b5 GL)) (by simp [Value.cells]) (fun w31 su RH=>?_))))
      replace su:Upd b5 w30 w31:=su
      have YB:Ext w w30:=(he9.trans heL).dV hOL Ce (by omega)
      refine L.nil (T.blk (T.blk (T.meet ((v30,nf2+2)) ⟨rfl,rfl,rfl,rfl,rfl,rfl,rfl,trivial⟩ ⟨YB.upd su (.inr (by omega)),by have:=heL.size;have:=Ce.size;have:=su.size;omega,((hD9.ext heL).grown Ce (hne b1 (by omega))).upd su (by omega),((hR9.ext heL).grown Ce (hne b2 (by omega))).upd su (by omega),RH,rH.upd ⟨_,Ie,?_⟩ su GL,by show nf2+2≤_;omega,by show 1≤nf2+2;omega⟩)))
      ·intro c hc
       rcases List.mem_append.1 hc with hc|hc
       ·exact hone c hc
       simp at hc;rcases hc with (rfl|rfl|rfl|rfl) <;> rfl
     refine L.a rfl (L.nil (T.cf (T.q (L.o (O.gJ rfl rfl (fun c1=>?_) (fun c1=>?_))))))
     ·refine L.a rfl (L.nil (T.ct (T.seq (T.q (L.o (O.fieldAddr runUnderlying46 rfl sizeOf44 rfl (L.o (O.load isAgg44 rfl (hC9.cell rfl) (L.o (O.len runUnderlying44 rfl (Sl.val (Sl.aU hO9)) (L.o (O.fG rfl rfl (fun c2=>?_) (fun c2=>?_)))))))))))))
      ·refine L.nil (T.ct (T.exit rfl (T.meet ((fv2,nf2)) ⟨rfl,rfl,rfl,rfl,rfl,rfl,rfl,trivial⟩ ⟨he9,hz9,hD9,hR9,hC9,⟨xs,hO9,hone⟩,by show nf2≤_;omega,by show 1≤nf2;omega⟩)))
      refine L.nil (T.cf (T.skip (T.region (L.o (O.fieldAddr runUnderlying46 rfl sizeOf44 rfl (L.o (O.load isAgg44 rfl (hC9.cell rfl) (L.m rfl (L.o (O.aC rfl rfl (by (try dsimp only);omega) (L.m rfl (L.m rfl (L.m rfl (L.o (O.aC rfl rfl (by (try dsimp only);omega) (L.o (O.buildSlice (el:=3) (parts:=[(0,.tmp 157),(1,.tmp 158),(2,.tmp 159),(3,.tmp 161)]) (vs:=[(0,_),(1,_),(2,_),(3,_)]) (cs:=[.int .i64 ((k:Int)*((Wn:Int)+1)+(i:Int)+(Wn:Int)+1+1),.int .i64 ((k:Int)*((Wn:Int)+1)+(i:Int)+(Wn:Int)+1),.int .i64 ((k:Int)*((Wn:Int)+1)+(i:Int)),.int .i64 ((k:Int)*((Wn:Int)+1)+(i:Int)+1)]) rfl (fun w=>by kernel_rfl) (fun b11 w11 aaF UK eU nR=>?_))))))))))))))))))
      refine L.o (O.build (v:=.agg #[.slice (some ⟨b11,0,none⟩) 4 4,.slice none 0 0]) (parts:=[(0,.tmp 162)]) (vs:=[(0,_)]) rfl (fun w=>by kernel_rfl) (L.o (O.buildSlice (el:=127) (parts:=[(0,.tmp 163)]) (vs:=[(0,_)]) (cs:=[.slice (some ⟨b11,0,none⟩) 4 4,.slice none 0 0]) rfl (fun w=>by kernel_rfl) (fun b12 w12 XQ XR eX xg=>?_))))
      have heL:=(eU).trans eX
      have hOL:=aH hO9 heL (Nat.zero_le _)
      refine L.o (O.append (size:=2) (bytes:=48) runUnderlying44 Tryz.jP rfl rfl rfl rfl (by decide) rfl rfl hOL (Sl.ay (lo:=0) (n:=1) (sz:=2) xg rfl (Nat.le_refl _) (by decide) (Nat.zero_le _)) (by intro c hc;simp at hc;rcases hc with (rfl|rfl) <;> rfl) (by omega) (by simp only [maxLen];omega) (by have:=heL.size;omega) (fun v30 w30 Ie Ce=>?_))
      have hne:∀ b',b'<w6.heap.size→∀ j,fv2.ownBlock=some j→j≠b':=fun b' hb' j hj=>by have:=(jQ hOL hj).1;omega
      have UL:v30.oneCell'=true:=Sl.one (Sl.aU Ie)
      refine L.o (O.fieldAddr runUnderlying46 rfl sizeOf44 rfl (L.o (O.store1 sizeOf44 UL rfl rfl ((hC9.ext heL).grown Ce (hne b5 GL)) (by simp [Value.cells]) (fun w31 su RH=>?_))))
      replace su:Upd b5 w30 w31:=su
      have YB:Ext w w30:=(he9.trans heL).dV hOL Ce (by omega)
      refine L.nil (T.blk (T.blk (T.meet ((v30,nf2+1)) ⟨rfl,rfl,rfl,rfl,rfl,rfl,rfl,trivial⟩ ⟨YB.upd su (.inr (by omega)),by have:=heL.size;have:=Ce.size;have:=su.size;omega,((hD9.ext heL).grown Ce (hne b1 (by omega))).upd su (by omega),((hR9.ext heL).grown Ce (hne b2 (by omega))).upd su (by omega),RH,rH.upd ⟨_,Ie,?_⟩ su GL,by show nf2+1≤_;omega,by show 1≤nf2+1;omega⟩)))
      ·intro c hc
       rcases List.mem_append.1 hc with hc|hc
       ·exact hone c hc
       simp at hc;rcases hc with (rfl|rfl) <;> rfl
     refine L.a rfl (L.nil (T.cf (T.region (L.o (O.fieldAddr runUnderlying46 rfl sizeOf44 rfl (L.o (O.load isAgg44 rfl (hC9.cell rfl) (L.m rfl (L.m rfl (L.o (O.aC rfl rfl (by (try dsimp only);omega) (L.m rfl (L.o (O.aC rfl rfl (by (try dsimp only);omega) (L.m rfl (L.o (O.buildSlice (el:=3) (parts:=[(0,.tmp 117),(1,.tmp 119),(2,.tmp 121),(3,.tmp 122)]) (vs:=[(0,_),(1,_),(2,_),(3,_)]) (cs:=[.int .i64 ((k:Int)*((Wn:Int)+1)+(i:Int)),.int .i64 ((k:Int)*((Wn:Int)+1)+(i:Int)+1),.int .i64 ((k:Int)*((Wn:Int)+1)+(i:Int)+(Wn:Int)+1+1),.int .i64 ((k:Int)*((Wn:Int)+1)+(i:Int)+(Wn:Int)+1)]) rfl (fun w=>by kernel_rfl) (fun b11 w11 aaF UK eU nR=>?_))))))))))))))))))
     refine L.o (O.build (v:=.agg #[.slice (some ⟨b11,0,none⟩) 4 4,.slice none 0 0]) (parts:=[(0,.tmp 123)]) (vs:=[(0,_)]) rfl (fun w=>by kernel_rfl) (L.o (O.buildSlice (el:=127) (parts:=[(0,.tmp 124)]) (vs:=[(0,_)]) (cs:=[.slice (some ⟨b11,0,none⟩) 4 4,.slice none 0 0]) rfl (fun w=>by kernel_rfl) (fun b12 w12 XQ XR eX xg=>?_))))
     have heL:=(eU).trans eX
     have hOL:=aH hO9 heL (Nat.zero_le _)
     refine L.o (O.append (size:=2) (bytes:=48) runUnderlying44 Tryz.jP rfl rfl rfl rfl (by decide) rfl rfl hOL (Sl.ay (lo:=0) (n:=1) (sz:=2) xg rfl (Nat.le_refl _) (by decide) (Nat.zero_le _)) (by intro c hc;simp at hc;rcases hc with (rfl|rfl) <;> rfl) (by omega) (by simp only [maxLen];omega) (by have:=heL.size;omega) (fun v30 w30 Ie Ce=>?_))
     have hne:∀ b',b'<w6.heap.size→∀ j,fv2.ownBlock=some j→j≠b':=fun b' hb' j hj=>by have:=(jQ hOL hj).1;omega
     have UL:v30.oneCell'=true:=Sl.one (Sl.aU Ie)
     refine L.o (O.fieldAddr runUnderlying46 rfl sizeOf44 rfl (L.o (O.store1 sizeOf44 UL rfl rfl ((hC9.ext heL).grown Ce (hne b5 GL)) (by simp [Value.cells]) (fun w31 su RH=>?_))))
     replace su:Upd b5 w30 w31:=su
     have YB:Ext w w30:=(he9.trans heL).dV hOL Ce (by omega)
     refine L.nil (T.blk (T.blk (T.meet ((v30,nf2+1)) ⟨rfl,rfl,rfl,rfl,rfl,rfl,rfl,trivial⟩ ⟨YB.upd su (.inr (by omega)),by have:=heL.size;have:=Ce.size;have:=su.size;omega,((hD9.ext heL).grown Ce (hne b1 (by omega))).upd su (by omega),((hR9.ext heL).grown Ce (hne b2 (by omega))).upd su (by omega),RH,rH.upd ⟨_,Ie,?_⟩ su GL,by show nf2+1≤_;omega,by show 1≤nf2+1;omega⟩)))
     ·intro c hc
      rcases List.mem_append.1 hc with hc|hc
      ·exact hone c hc
      simp at hc;rcases hc with (rfl|rfl) <;> rfl
    rintro ⟨fv3,nf3⟩ w40 ⟨VA,aeu,agf,agh,agi,agj,agk,agl⟩
    refine T.region (L.m rfl (L.o (O.aC rfl rfl (by (try dsimp only);omega) (L.a rfl (L.nil (T.again ((i+1,fv3,nf3)) (by omega) ⟨rfl,rfl,rfl,rfl,rfl,rfl,rfl,trivial⟩ ⟨by omega,VA,aeu,agf,agh,agi,agj,agk,fun _=>agl⟩))))))
   refine L.nil (T.cf (T.exit rfl (T.blk (T.region (L.m rfl (L.o (O.aC rfl rfl (by omega) (L.a rfl (L.nil (T.again ((k+1,fv2,nf2)) (by omega) ⟨rfl,rfl,rfl,rfl,rfl,rfl,trivial⟩ ⟨by omega,he9,hz9,hD9,hR9,hC9,hF9,by show nf2≤8*(k+1);omega,fun _=>hp9 (by omega)⟩))))))))))
  refine L.nil (T.cf (T.exit rfl (T.q (L.o (O.ak isAgg46 sizeOf46 rfl rfl hC8.row (?_))))))
  have hpv1:pv.oneCell'=true:=hP7.one
  refine L.o (O.aF sizeOf46 rfl rfl rfl hR8 (Nat.le_refl _) (by intro u hu;simp at hu;rcases hu with (rfl|rfl);exact hpv1;exact hF8.one) (fun w16 Ew GN=>?_))
  replace Ew:Upd b2 w8 w16:=Ew
  have abz:Blk w16 b2 [pv,fv] 46:=GN
  refine L.nil (T.retA results69 isAgg46 sizeOf46 rfl rfl abz.row ⟨he8.upd Ew (.inr (by omega)),pv,fv,nf,rfl,?_,hp8 (by omega),by show nf≤24;omega,hpv1⟩)
  obtain ⟨xs,h1,h2⟩:=hF8.upd Ew (by omega)
  refine ⟨xs,⟨h1.1,h1.2.imp id ?_⟩,h2⟩
  rintro ⟨g,c,cu,e1,e2,e3⟩
  exact ⟨g,c,cu,e1,by omega,e3⟩
 refine L.nil (T.ct (T.q (L.o (O.fieldAddr runUnderlying46 rfl sizeOf44 rfl (L.o (O.load isAgg44 rfl (hC7.cell rfl) (L.o (O.buildSlice (el:=3) (parts:=[(0,.const (.int .i64 0)),(1,.const (.int .i64 1)),(2,.const (.int .i64 2)),(3,.const (.int .i64 3)),(4,.const (.int .i64 7)),(5,.const (.int .i64 11)),(6,.const (.int .i64 15)),(7,.const (.int .i64 14)),(8,.const (.int .i64 13)),(9,.const (.int .i64 12)),(10,.const (.int .i64 8)),(11,.const (.int .i64 4))]) (vs:=[(0,_),(1,_),(2,_),(3,_),(4,_),(5,_),(6,_),(7,_),(8,_),(9,_),(10,_),(11,_)]) (cs:=[.int .i64 0,.int .i64 1,.int .i64 2,.int .i64 3,.int .i64 7,.int .i64 11,.int .i64 15,.int .i64 14,.int .i64 13,.int .i64 12,.int .i64 8,.int .i64 4]) rfl (fun w=>by kernel_rfl) (fun b8 w8 hb8 hz8 he8 hB8=>?_)))))))))
 refine L.o (O.buildSlice (el:=3) (parts:=[(0,.const (.int .i64 5)),(1,.const (.int .i64 9)),(2,.const (.int .i64 10)),(3,.const (.int .i64 6))]) (vs:=[(0,_),(1,_),(2,_),(3,_)]) (cs:=[.int .i64 5,.int .i64 9,.int .i64 10,.int .i64 6]) rfl (fun w=>by kernel_rfl) (fun b9 w9 hb9 hz9 he9 hB9=>?_))
 refine L.o (O.buildSlice (el:=30) (parts:=[(0,.tmp 67)]) (vs:=[(0,_)]) (cs:=[.slice (some ⟨b9,0,none⟩) 4 4]) rfl (fun w=>by kernel_rfl) (fun b10 w10 abA YC fZ xq=>?_))
 refine L.o (O.build (v:=.agg #[.slice (some ⟨b8,0,none⟩) 12 12,.slice (some ⟨b10,0,none⟩) 1 1]) (parts:=[(0,.tmp 66),(1,.tmp 68)]) (vs:=[(0,_),(1,_)]) rfl (fun w=>by kernel_rfl) (L.o (O.buildSlice (el:=127) (parts:=[(0,.tmp 69)]) (vs:=[(0,_)]) (cs:=[.slice (some ⟨b8,0,none⟩) 12 12,.slice (some ⟨b10,0,none⟩) 1 1]) rfl (fun w=>by kernel_rfl) (fun b11 w11 aaF UK eU nR=>?_))))
 have Ey:=((he8.trans he9).trans fZ).trans eU
 have agm:=Ey.size
 refine L.o (O.append (size:=2) (bytes:=48) runUnderlying44 Tryz.jP rfl rfl rfl rfl (by decide) rfl rfl (dW w11 w6.heap.size 127 2) (Sl.ay (lo:=0) (n:=1) (sz:=2) nR rfl (Nat.le_refl _) (by decide) (Nat.zero_le _)) (by intro c hc;simp at hc;rcases hc with (rfl|rfl) <;> rfl) (by omega) (by simp only [maxLen];omega) (by omega) (fun v12 w12 XT agn=>?_))
 have Ez:Ext w11 w12:=Keep.grown (Keep.refl _ _) agn (fun j hj=>by cases hj)
 have La:v12.oneCell'=true:=Sl.one (Sl.aU XT)
 have RI:=Ey.trans Ez
 refine L.o (O.fieldAddr runUnderlying46 rfl sizeOf44 rfl (L.o (O.store1 sizeOf44 La rfl rfl (hC7.ext RI) (by simp [Value.cells]) (fun w13 vC xk=>?_))))
 replace vC:Upd b5 w12 w13:=vC
 have QY:Ext w w13:=(he7.trans RI).upd vC (.inr (by omega))
 have agp:=(hD7.ext RI).upd vC (by omega)
 have aev:=(hR7.ext RI).upd vC (by omega)
 have agq:rH w6.heap.size 127 2 1 v12 w13:=rH.upd ⟨_,XT,fun c hc=>by simp at hc;rcases hc with (rfl|rfl) <;> rfl⟩ vC GL
 have abB:Blk w13 b5 [pv,v12] 46:=xk
 have hnb:=Cb hd.cl 0
 have hpv1:pv.oneCell'=true:=hP7.one
 refine L.nil (T.seq (?_))
 refine T.join (σ:=Value × Nat) (fun s=>[(2,.pointer (some ⟨b2,0,none⟩)),(5,.pointer (some ⟨b5,0,none⟩))]) (fun s w'=>Ext w w'∧Blk w' b2 [.slice none 0 0,.slice none 0 0] 46∧Blk w' b5 [pv,s.1] 46∧rH w6.heap.size 127 2 s.2 s.1 w'∧1≤s.2∧s.2≤2) ?_ ?_
 ·refine T.q (L.o (O.fieldAddr runUnderlying56 rfl sizeOf54 rfl (L.o (O.load isAgg54 rfl (agp.cell rfl) (L.o (O.call (xs:=[.tmp 74,.const (.int .i64 0)]) call125 rfl rfl (nN lo d.cv d.cs 0 w13 (hd.ext QY).c hd.cl (by omega)) (fun v14 w14 hq=>?_)))))))
  obtain ⟨rfl,rfl⟩:=hq
  refine L.o (O.rem rfl rfl (by omega) (by omega) (L.o (O.gJ rfl rfl (fun h2=>?_) (fun h2=>?_))))
  ·refine L.nil (T.ct (T.region (L.o (O.fieldAddr runUnderlying46 rfl sizeOf44 rfl (L.o (O.load isAgg44 rfl (abB.cell rfl) (L.o (O.buildSlice (el:=3) (parts:=[(0,.const (.int .i64 5)),(1,.const (.int .i64 6)),(2,.const (.int .i64 10)),(3,.const (.int .i64 9))]) (vs:=[(0,_),(1,_),(2,_),(3,_)]) (cs:=[.int .i64 5,.int .i64 6,.int .i64 10,.int .i64 9]) rfl (fun w=>by kernel_rfl) (fun b15 w15 aew XU iO Aa=>?_)))))))))
   refine L.o (O.build (v:=.agg #[.slice (some ⟨b15,0,none⟩) 4 4,.slice none 0 0]) (parts:=[(0,.tmp 80)]) (vs:=[(0,_)]) rfl (fun w=>by kernel_rfl) (L.o (O.buildSlice (el:=127) (parts:=[(0,.tmp 81)]) (vs:=[(0,_)]) (cs:=[.slice (some ⟨b15,0,none⟩) 4 4,.slice none 0 0]) rfl (fun w=>by kernel_rfl) (fun b16 w16 hb16 XV Ac GN=>?_))))
   have EC:=iO.trans Ac
   have abC:=aH (w':=w16) (rH.upd ⟨_,XT,fun c hc=>by simp at hc;rcases hc with (rfl|rfl) <;> rfl⟩ vC GL).choose_spec.1 EC (Nat.zero_le _)
   refine L.o (O.append (size:=2) (bytes:=48) runUnderlying44 Tryz.jP rfl rfl rfl rfl (by decide) rfl rfl abC (Sl.ay (lo:=0) (n:=1) (sz:=2) GN rfl (Nat.le_refl _) (by decide) (Nat.zero_le _)) (by intro c hc;simp at hc;rcases hc with (rfl|rfl) <;> rfl) (by omega) (by simp only [maxLen];omega) (by have:=EC.size;have:=vC.size;have:=Ez.size;omega) (fun v17 w17 aex abD=>?_))
   have aaH:v17.oneCell'=true:=Sl.one (Sl.aU aex)
   have hne:∀ b',b'<w6.heap.size→∀ j,v12.ownBlock=some j→j≠b':=fun b' hb' j hj=>by have:=(jQ abC hj).1;omega
   refine L.o (O.fieldAddr runUnderlying46 rfl sizeOf44 rfl (L.o (O.store1 sizeOf44 aaH rfl rfl ((abB.ext EC).grown abD (hne b5 GL)) (by simp [Value.cells]) (fun w18 vF wB=>?_))))
   replace vF:Upd b5 w17 w18:=vF
   have Lc:Ext w w17:=(QY.trans EC).dV abC abD (by omega)
   refine L.nil (T.meet ((v17,2)) ⟨rfl,rfl,trivial⟩ ⟨Lc.upd vF (.inr (by omega)),((aev.ext EC).grown abD (hne b2 (by omega))).upd vF (by omega),wB,rH.upd ⟨_,aex,?_⟩ vF GL,by simp,by simp⟩)
   ·intro c hc
    rcases List.mem_append.1 hc with hc|hc
    ·exact (rH.upd ⟨_,XT,fun c hc=>by simp at hc;rcases hc with (rfl|rfl) <;> rfl⟩ vC GL).choose_spec.2 c hc
    simp at hc;rcases hc with (rfl|rfl) <;> rfl
  refine L.nil (T.cf (T.skip (T.meet ((v12,1)) ⟨rfl,rfl,trivial⟩ ⟨QY,aev,abB,agq,by simp,by simp⟩)))
 rintro ⟨fv,nf⟩ w15 ⟨JE,agr,ags,aey,hn1,hn2⟩
 refine T.q (L.o (O.ak isAgg46 sizeOf46 rfl rfl ags.row (L.o (O.aF sizeOf46 rfl rfl rfl agr (Nat.le_refl _) (by intro u hu;simp at hu;rcases hu with (rfl|rfl);exact hpv1;exact aey.one) (fun w16 Ew GN=>?_)))))
 replace Ew:Upd b2 w15 w16:=Ew
 have abz:Blk w16 b2 [pv,fv] 46:=GN
 refine L.nil (T.retA results69 isAgg46 sizeOf46 rfl rfl abz.row ⟨JE.upd Ew (.inr (by omega)),pv,fv,nf,rfl,?_,hn1,by show nf≤24;omega,hpv1⟩)
 obtain ⟨xs,h1,h2⟩:=aey.upd Ew (by omega)
 refine ⟨xs,⟨h1.1,h1.2.imp id ?_⟩,h2⟩
 rintro ⟨g,c,cu,e1,e2,e3⟩
 exact ⟨g,c,cu,e1,by omega,e3⟩
open Go Go.E
theorem Loc.grown {q:Value} {w w1 w2:World} {row:Option Nat} (h:Loc q w w1) (k:w1.grownBy w2 row) (hb:∀ j,row=some j→w.heap.size≤j):Loc q w w2 :=
 ⟨k.os.trans h.os,k.tape.trans h.tape,k.output.trans h.output,Nat.le_trans h.size k.size,fun i hi hq=>(k.block i (Nat.lt_of_lt_of_le hi h.size) (fun e=>by have:=hb i e.symm;omega)).trans (h.block i hi hq)⟩
theorem kW.loc {base:Nat} {q v:Value} {w w':World} {xs:List Int} (h:kW base w v xs) (k:Loc q w w') (hn:∀ b,v.ownBlock=some b→q.ownBlock≠some b):kW base w' v xs:=wz h k hn
theorem kW.mono {base base':Nat} {v:Value} {w:World} {xs:List Int} (h:kW base w v xs) (hb:base'≤base):kW base' w v xs:=by
 refine ⟨h.1,h.2.imp id ?_⟩
 rintro ⟨g,cap,cur,rfl,h4,rest⟩
 exact ⟨g,cap,cur,rfl,by omega,rest⟩
theorem kW.nil (base:Nat) (w:World):kW base w (.slice none 0 0) []:=dW _ _ _ _
theorem kW.lt {base b:Nat} {v:Value} {w:World} {xs:List Int} (h:kW base w v xs) (hb:v.ownBlock=some b):base≤b∧b<w.heap.size:=jQ h hb
def ED (d:Dr) (n:Nat):Int:=d.wa % ((n / 3+1:Nat):Int)
def dWt (d:Dr) (n i:Nat):Bool:=decide ((n:Int)-ED d n≤i)
def dP (d:Dr) (n i:Nat):Int:=if dWt d n i then 0 else DW d.ns i
def dG1 (d:Dr) (n i k:Nat):Int:=DW d.ns (3*i+k+1) % (dP d n i+1)
def dV1 (d:Dr) (n i k:Nat):Int:=if dWt d n i then 0 else DW d.ns (5*i+k+2)
def dL1 (d:Dr) (n i k:Nat):Int:=if dWt d n i then 0 else (((DW d.ns (i+11) % 16).toNat / 2 ^ k:Nat):Int)
def dList (f:Nat→Int) (k:Nat):List Int:=(List.range k).map f
theorem sD (f:Nat→Int) (k:Nat):dList f (k+1)=dList f k ++ [f k]:=by simp [dList,List.range_succ]
theorem dO (f:Nat→Int) (k:Nat):(dList f k).length=k:=by simp [dList]
theorem xu {f:Nat→Int} {k q:Nat} (h:q<k):(dList f k).getD q 0=f q:=by simp [dList,List.getD,h]
def dNm (i:Nat):Str:=[117]++RG i
structure DU (d:Dr) (G P L n i:Nat) (u:UnV):Prop where
 nm:u.nm=dNm i
 pp:u.pp=dP d n i
 gs:u.gs=dList (dG1 d n i) G
 vs:u.vs=dList (dV1 d n i) P
 ps:u.ps=dList (dL1 d n i) L
 wt:u.wt=dWt d n i
structure sF (base:Nat) (w:World) (u:UnV):Prop where
 g:kW base w u.gv u.gs
 v:kW base w u.vv u.vs
 p:kW base w u.pv u.ps
 n:u.nm.length≤9223372036854775807
theorem sF.ext {base:Nat} {w w':World} {u:UnV} (h:sF base w u) (k:Ext w w'):sF base w' u:=⟨h.g.ext k,h.v.ext k,h.p.ext k,h.n⟩
theorem sF.mono {base base':Nat} {w:World} {u:UnV} (h:sF base w u) (hb:base'≤base):sF base' w u:=⟨h.g.mono hb,h.v.mono hb,h.p.mono hb,h.n⟩
theorem sF.ok {base:Nat} {w:World} {u:UnV} (h:sF base w u):u.ok base w:=⟨h.g.ints,h.v.ints,h.p.ints,h.n⟩
theorem kW.row {base abE m n:Nat} {w w':World} {v q:Value} {ys:List Value} {xs:List Int} (h:kW base w q xs) (hr:w.ownsRow abE 51 6 v n ys) (hG:w.grownBy w' v.ownBlock):kW base w' q xs :=
 h.loc (q:=v) (Loc.jh hG) (fun b hb e=>by
  obtain ⟨_,cs,_,_,hB,_⟩:=(show abw base xs.length q w from ⟨xs,Nat.le_refl _,h⟩).blk hb
  exact row_ne hr e hB rfl)
structure RJ (base b2 b4 b5:Nat) (d:Dr) (G P L:Int) (uv:Value) (us:List UnV) (W:World):Prop where
 d2:Blk W b2 d.cells 59
 c4:Blk W b4 Vy 25
 c5:Blk W b5 [.int .i64 G,.int .i64 P,.int .i64 L,uv] 25
 row:W.ownsRow base 51 6 uv us.length (eH us)
 own:∀ u∈us,sF base W u
theorem RJ.ext {base b2 b4 b5:Nat} {d:Dr} {G P L:Int} {uv:Value} {us:List UnV} {W W':World} (h:RJ base b2 b4 b5 d G P L uv us W) (k:Ext W W'):RJ base b2 b4 b5 d G P L uv us W' :=
 ⟨h.d2.ext k,h.c4.ext k,h.c5.ext k,aH h.row k (Nat.zero_le _),fun u hu=>(h.own u hu).ext k⟩
def RN (d:Dr) (n:Nat) (w:World) (v:Value) (w':World):Prop:=Ext w w'∧∃ r:RoV,v=r.val∧r.ok w.heap.size w'∧r.G=d.g % 3∧r.P=d.p % 4∧r.L=d.l % 4∧r.us.length=n∧∀ i,i<n→DU d (d.g % 3).toNat (d.p % 4).toNat (d.l % 4).toNat n i (r.us.getD i u0)
set_option maxHeartbeats 1000000 in
theorem Ld (lo n:Nat) (d:Dr) (w:World) (hd:d.ok lo w) (hn1:1≤n) (hn2:n≤24) :
  Calls Tryz.prog 70 #[d.val,.int .i64 n] w (Ret fun v w'=>RN d n w v w'):=by
 refine T.enter (vs:=[d.val,.int .i64 n]) func70 rfl ntmps70 rfl ?_
 refine T.q (L.o (O.box rfl (fun b2 w2 hb2 hz2 he2 hB2=>?_)))
 refine L.o (O.alloc zeroValue25 (fun b4 w4 hb4 hz4 he4 hB4=>?_))
 have uG:=he2.trans he4
 have hD4:Blk w4 b2 d.cells 59:=Blk.ext (cs:=d.cells) hB2 he4
 have hR4:Blk w4 b4 Vy 25:=hB4
 have hg0:=hd.g0
 have hp0:=hd.p0
 have hl0:=hd.l0
 have ha0:=hd.a0
 unfold qE at hg0 hp0 hl0 ha0
 refine L.nil (T.q (L.o (O.fieldAddr runUnderlying59 rfl sizeOf5 rfl (L.o (O.load isAgg5 rfl (hD4.cell rfl) (L.o (O.rem rfl rfl (by omega) (by omega) (L.o (O.cZ rfl (fun w=>⟨_,runUnderlying5 w⟩) runUnderlying3 (IntWalk.i64_in _ ⟨by omega,by omega⟩) (L.o (O.fieldAddr runUnderlying59 rfl sizeOf5 rfl (L.o (O.load isAgg5 rfl (hD4.cell rfl) (L.o (O.rem rfl rfl (by omega) (by omega) (L.o (O.cZ rfl (fun w=>⟨_,runUnderlying5 w⟩) runUnderlying3 (IntWalk.i64_in _ ⟨by omega,by omega⟩) (L.o (O.fieldAddr runUnderlying59 rfl sizeOf5 rfl (L.o (O.load isAgg5 rfl (hD4.cell rfl) (L.o (O.rem rfl rfl (by omega) (by omega) (L.o (O.cZ rfl (fun w=>⟨_,runUnderlying5 w⟩) runUnderlying3 (IntWalk.i64_in _ ⟨by omega,by omega⟩) (L.o (O.build (v:=.agg #[.int .i64 (d.g % 3),.int .i64 (d.p % 4),.int .i64 (d.l % 4),.slice none 0 0]) (parts:=[(0,.tmp 18),(1,.tmp 22),(2,.tmp 26)]) (vs:=[(0,_),(1,_),(2,_)]) rfl (fun w=>by kernel_rfl) (L.o (O.alloc zeroValue25 (fun b5 w5 hb5 hz5 he5 hB5=>?_))))))))))))))))))))))))))))))
 refine L.o (O.aF sizeOf25 rfl rfl rfl hB5 (Nat.le_refl _) (by intro u hu;simp at hu;rcases hu with (rfl|rfl|rfl|rfl) <;> rfl) (fun w6 hu6 hB6=>?_))
 replace hu6:Upd b5 w5 w6:=hu6
 have hC6:Blk w6 b5 [.int .i64 (d.g % 3),.int .i64 (d.p % 4),.int .i64 (d.l % 4),.slice none 0 0] 25:=hB6
 have hb2':=hD4.lt
 have ajY:=hR4.lt
 have GL:=hC6.lt
 have agt:=uG.size
 have hz5:=he5.size
 have hz6:=hu6.size
 have zZ:Ext w4 w6:=he5.upd hu6 (.inr (by omega))
 have GK:Ext w w6:=uG.trans zZ
 refine L.nil (T.q (L.o (O.fieldAddr runUnderlying59 rfl sizeOf5 rfl (L.o (O.load isAgg5 rfl ((hD4.ext zZ).cell rfl) (L.o (O.cZ rfl (fun w=>⟨_,runUnderlying5 w⟩) runUnderlying3 (IntWalk.i64_in _ ⟨by omega,by omega⟩) (L.m rfl (L.o (O.Nv rfl rfl (by omega) (L.o (O.aC rfl rfl (by omega) (?_)))))))))))))
 rw [show ((n:Int) / 3+1)=((n / 3+1:Nat):Int) by omega]
 refine L.o (O.rem rfl rfl (by omega) (by omega) (?_))
 obtain ⟨wt,hwt⟩:∃ wt,wt=ED d n:=⟨_,rfl⟩
 have hwe:d.wa % ((n / 3+1:Nat):Int)=wt:=by rw [hwt];rfl
 rw [hwe]
 have hw0:0≤wt∧wt≤255:=by rw [← hwe];exact ⟨Int.emod_nonneg _ (by omega),by have:=Int.emod_lt_of_pos d.wa (show (0:Int)<((n / 3+1:Nat):Int) by omega);omega⟩
 refine L.a rfl (L.nil (T.seq (T.q (L.a rfl (L.nil (T.block (?_)))))))
 refine T.loop (σ:=Nat × Value × List UnV) (fun s=>[(1,.int .i64 n),(2,.pointer (some ⟨b2,0,none⟩)),(4,.pointer (some ⟨b4,0,none⟩)),(5,.pointer (some ⟨b5,0,none⟩)),(6,.int .i64 wt),(7,.int .i64 s.1)]) (fun s w'=>s.1≤n∧Ext w w'∧w6.heap.size≤w'.heap.size∧RJ w6.heap.size b2 b4 b5 d (d.g % 3) (d.p % 4) (d.l % 4) s.2.1 s.2.2 w'∧s.2.2.length=s.1∧∀ j,j<s.1→DU d (d.g % 3).toNat (d.p % 4).toNat (d.l % 4).toNat n j (s.2.2.getD j u0)) (fun s=>n-s.1) ((0,.slice none 0 0,[])) ⟨rfl,rfl,rfl,rfl,rfl,rfl,trivial⟩ ⟨Nat.zero_le _,GK,Nat.le_refl _,⟨hD4.ext zZ,hR4.ext zZ,hC6,dW _ _ _ _,fun _ h=>(by cases h)⟩,rfl,fun j hj=>absurd hj (Nat.not_lt_zero _)⟩ ?_
 rintro ⟨i,uv,us⟩ w7 ⟨hi,he7,hz7,hS7,hl7,hU7⟩
 simp only at hi hS7 hl7 hU7
 refine T.seq (T.q (L.m rfl (L.m rfl (L.o (O.aV rfl rfl (fun hlt=>?_) (fun hlt=>?_))))))
 ·refine L.nil (?_)
  have hlt':i<n:=by omega
  have hdig:=Oi (n:=i) (by omega)
  refine T.ct (T.skip (T.seq (T.block (T.q (L.m rfl (L.o (O.Nv rfl rfl (by (try dsimp only);omega) (L.o (O.cZ rfl (fun w=>⟨_,runUnderlying3 w⟩) runUnderlying5 (IntWalk.u8_in _ ⟨by omega,by omega⟩) (L.o (O.add8 rfl rfl (by (try dsimp only);omega) (L.m rfl (L.o (O.rem rfl rfl (by omega) (by omega) (L.o (O.cZ rfl (fun w=>⟨_,runUnderlying3 w⟩) runUnderlying5 (IntWalk.u8_in _ ⟨by omega,by omega⟩) (L.o (O.add8 rfl rfl (by (try dsimp only);omega) (L.o (O.buildSlice (el:=5) (parts:=[(0,.tmp 43),(1,.tmp 47)]) (vs:=[(0,_),(1,_)]) (cs:=[.int .u8 (48+(i:Int) / 10),.int .u8 (48+(i:Int) % 10)]) rfl (fun w=>by kernel_rfl) (fun b8 w8 hb8 hz8 he8 hB8=>?_)))))))))))))))))))))
  refine L.o (O.qm runUnderlying54 runUnderlying5 runUnderlying9 rfl (show Ints .u8 0 w8 (.slice (some ⟨b8,0,none⟩) 2 2) ((RG i).map fun c=>(c.toNat:Int)) from by rw [hdig];exact Ints.ay hB8 rfl (by decide) (Nat.zero_le _)) (by simp [RG]) (L.o (O.bQ rfl rfl (by simp [RG]) (L.m rfl (L.m rfl (L.m rfl (L.o (O.fC rfl rfl (by omega) (L.o (O.geq rfl rfl (?_)))))))))))
  have agu:decide ((n:Int)-wt≤i)=dWt d n i:=by rw [hwt];rfl
  rw [agu]
  refine L.o (O.build (v:=.agg #[str (dNm i),.int .i64 0,.slice none 0 0,.slice none 0 0,.slice none 0 0,.bool (dWt d n i)]) (parts:=[(0,.tmp 50),(5,.tmp 55)]) (vs:=[(0,_),(5,_)]) rfl (fun w=>by kernel_rfl) (L.o (O.alloc zeroValue51 (fun b9 w9 hb9 hz9 he9 hB9=>?_))))
  refine L.o (O.aF sizeOf51 rfl rfl rfl hB9 (Nat.le_refl _) (by intro u hu;simp at hu;rcases hu with (rfl|rfl|rfl|rfl|rfl|rfl) <;> rfl) (fun w10 Nk xq=>?_))
  replace Nk:Upd b9 w9 w10:=Nk
  have Ol:Blk w10 b9 [str (dNm i),.int .i64 0,.slice none 0 0,.slice none 0 0,.slice none 0 0,.bool (dWt d n i)] 51:=xq
  have hz8:=he8.size
  have hz9:=he9.size
  have YC:=Nk.size
  have hb9:b9=w8.heap.size:=hb9
  have RP:Ext w7 w10:=(he8.trans he9).upd Nk (.inr (by omega))
  have hlb:∀ x,(Value.slice (some ⟨b9,0,none⟩) 0 0).ownBlock=some x→b9=x:=fun x hx=>Option.some.inj hx
  have hd10:=hd.ext (he7.trans RP)
  have ajZ:=wZ hd.nl i
  refine L.nil (T.seq (?_))
  refine T.join (σ:=Unit) (fun _=>[(1,.int .i64 n),(2,.pointer (some ⟨b2,0,none⟩)),(4,.pointer (some ⟨b4,0,none⟩)),(5,.pointer (some ⟨b5,0,none⟩)),(6,.int .i64 wt),(7,.int .i64 i),(8,.pointer (some ⟨b9,0,none⟩))]) (fun _ w'=>Ext w7 w'∧Blk w' b9 [str (dNm i),.int .i64 (dP d n i),.slice none 0 0,.slice none 0 0,.slice none 0 0,.bool (dWt d n i)] 51) ?_ ?_
  ·refine T.q (L.o (O.fieldAddr runUnderlying51 rfl sizeOf4 rfl (L.o (O.load isAgg4 rfl (Ol.cell rfl) (?_)))))
   rcases hwi:dWt d n i with _|_
   ·refine L.o (O.not rfl (L.nil (T.ct (T.region (L.o (O.ak isAgg59 sizeOf59 rfl rfl ((hS7.d2.ext RP).row) (L.m rfl (L.o (O.call (xs:=[.tmp 60,.tmp 61]) call126 rfl rfl (nO lo d i w10 hd10 (by omega)) (fun v12 w12 hq=>?_))))))))))
    obtain ⟨rfl,eX⟩:=hq
    rw [hwi] at Ol
    refine L.o (O.fieldAddr runUnderlying51 rfl sizeOf3 rfl (L.o (O.store1 sizeOf3 rfl rfl rfl (Ol.ext eX) (by simp [Value.cells]) (fun w13 vC xk=>?_))))
    replace vC:Upd b9 w12 w13:=vC
    refine L.nil (T.meet (()) ⟨rfl,rfl,rfl,rfl,rfl,rfl,rfl,trivial⟩ ⟨(RP.trans eX).upd vC (.inr (by omega)),by rw [show dP d n i=DW d.ns i by rw [dP,hwi];rfl];exact xk⟩)
   rw [hwi] at Ol
   refine L.o (O.not rfl (L.nil (T.cf (T.skip (T.meet (()) ⟨rfl,rfl,rfl,rfl,rfl,rfl,rfl,trivial⟩ ⟨RP,by rw [show dP d n i=0 by rw [dP,hwi];rfl];exact Ol⟩)))))
  rintro _ w11 ⟨eU,nR⟩
  have QZ:=hS7.ext eU
  have aj0:=nR.lt
  have hdP:0≤dP d n i∧dP d n i≤65535:=by unfold dP;split <;> omega
  refine T.seq (T.q (L.a rfl (L.nil (T.block (?_)))))
  refine T.loop (σ:=Nat × Value) (fun s=>[(1,.int .i64 n),(2,.pointer (some ⟨b2,0,none⟩)),(4,.pointer (some ⟨b4,0,none⟩)),(5,.pointer (some ⟨b5,0,none⟩)),(6,.int .i64 wt),(7,.int .i64 i),(8,.pointer (some ⟨b9,0,none⟩)),(9,.int .i64 s.1)]) (fun s w'=>(s.1:Int)≤d.g % 3∧Loc (.slice (some ⟨b9,0,none⟩) 0 0) w11 w'∧Blk w' b9 [str (dNm i),.int .i64 (dP d n i),s.2,.slice none 0 0,.slice none 0 0,.bool (dWt d n i)] 51∧kW w11.heap.size w' s.2 (dList (dG1 d n i) s.1)) (fun s=>(d.g % 3).toNat-s.1) ((0,.slice none 0 0)) ⟨rfl,rfl,rfl,rfl,rfl,rfl,rfl,rfl,trivial⟩ ⟨by show ((0:Nat):Int)≤d.g % 3;omega,Loc.aW (Keep.refl _ _),nR,kW.nil _ _⟩ ?_
  rintro ⟨k,gv⟩ w20 ⟨agv,abG,RS,UM⟩
  simp only at agv RS UM
  have Q5:Ext w7 w20:=abG.keep eU (fun x hx=>by have:=hlb x hx;omega)
  have aez:=hS7.ext Q5
  refine T.seq (T.q (L.m rfl (L.o (O.fieldAddr runUnderlying25 rfl sizeOf3 rfl (L.o (O.load isAgg3 rfl (aez.c5.cell rfl) (L.o (O.aV rfl rfl (fun abH=>?_) (fun abH=>?_)))))))))
  ·refine L.nil (?_)
   have agw:=hd.ext (he7.trans Q5)
   have hnd:=wZ hd.nl (3*i+k+1)
   refine T.ct (T.skip (T.seq (T.block (T.seq (?_)))))
   refine T.dL mixed 10 [2,7,9,8] rfl [.is _,.is _,.is _,.is _,.is _,.is (.int .i64 ((3*i+k+1:Nat):Int)),.is _,.is _,.is _,.is _] [[],[],[1],[],[2,3],[4],[0,5],[],[7],[8]] [[],[],[1],[],[1,2,3],[1,2,3,4],[0,1,2,3,4,5],[],[7],[7,8],[0,1,2,3,4,5,6,7,8,9],[0,1,2,3,4,5,6,7,8,9,10]] (by kernel_rfl) (by kernel_rfl) rfl (by kernel_rfl) trivial ⟨fun wx hx=>Ob.o (O.ak isAgg59 sizeOf59 rfl rfl ((aez.d2.ext hx).row) kR),
     fun wx hx=>Ob.o (O.move rfl kR),
     fun wx hx=>Ob.o (O.lW rfl rfl (by (try dsimp only);omega) kR),
     fun wx hx=>Ob.o (O.move rfl kR),
     fun wx hx=>Ob.o (O.aC rfl rfl (by (try dsimp only);omega) kR),
     fun wx hx=>Ob.o (O.aC rfl rfl (by (try dsimp only);omega) ⟨Keep.refl _ _,by show Value.int .i64 (3*(i:Int)+(k:Int)+1)=_;rw [show 3*(i:Int)+(k:Int)+1=((3*i+k+1:Nat):Int) by omega]⟩),
     fun wx hx=>Ob.o (O.call (xs:=[.tmp 70,.tmp 75]) call126 rfl rfl (nO lo d (3*i+k+1) wx (agw.ext hx) (by omega)) (fun v wy h=>⟨h.2,h.1⟩)),
     fun wx hx=>Ob.o (O.fieldAddr runUnderlying51 rfl sizeOf3 rfl kR),
     fun wx hx=>Ob.o (O.load isAgg3 rfl ((RS.ext hx).cell rfl) kR),
     fun wx hx=>Ob.o (O.aC rfl rfl (by omega) kR),
     trivial⟩ (fun w21 uH=>?_)
   refine L.o (O.rem rfl rfl (by omega) (by omega) (?_))
   have aeA:=uH
   have hBx:=RS.ext uH
   refine L.a rfl (L.nil (T.region (L.o (O.fieldAddr runUnderlying51 rfl sizeOf30 rfl (L.o (O.load isAgg30 rfl (hBx.cell rfl) (L.m rfl (L.o (O.buildSlice (el:=3) (parts:=[(0,.tmp 83)]) (vs:=[(0,_)]) (cs:=[.int .i64 (dG1 d n i k)]) rfl (fun w=>by kernel_rfl) (fun b23 w23 aj1 aj2 Q7 abI=>?_))))))))))
   have hOx:=(UM.ext uH).ext Q7
   have hlx:=(abG.trans (Loc.aW uH)).trans (Loc.aW Q7)
   have hlen:=dO (dG1 d n i) k
   refine L.o (O.append (size:=1) (bytes:=8) runUnderlying30 Tryz.jK rfl rfl rfl rfl (by decide) rfl rfl hOx (Sl.ay (lo:=0) (n:=1) (sz:=1) abI rfl (Nat.le_refl _) (by decide) (Nat.zero_le _)) (by intro c hc;simp at hc;simp [hc,Value.oneCell']) (by omega) (by simp only [maxLen];omega) (by have:=hlx.size;omega) (fun v24 w24 abJ aeB=>?_))
   have hly:=hlx.grown aeB (fun j hj=>(hOx.lt hj).1)
   have hzb:b9<w11.heap.size:=by have:=nR.lt;omega
   have hvn:v24.oneCell'=true:=Sl.one (Sl.aU abJ)
   refine L.o (O.fieldAddr runUnderlying51 rfl sizeOf30 rfl (L.o (O.store1 sizeOf30 hvn rfl rfl ((hBx.ext Q7).grown aeB (fun j hj=>by have:=(hOx.lt hj).1;omega)) (by simp [Value.cells]) (fun w25 EG yZ=>?_))))
   replace EG:Upd b9 w24 w25:=EG
   refine L.nil (T.blk (T.region (L.m rfl (L.o (O.aC rfl rfl (by omega) (L.a rfl (L.nil (T.again ((k+1,v24)) (by show (d.g % 3).toNat-(k+1)<(d.g % 3).toNat-k;omega) ⟨rfl,rfl,rfl,rfl,rfl,rfl,rfl,rfl,trivial⟩ ⟨by omega,hly.trans (Loc.jW EG rfl),yZ,?_⟩))))))))
   ·have hfin:kW w11.heap.size w24 v24 (dList (dG1 d n i) (k+1)):=by
     unfold kW;rw [dO,sD,List.map_append];rw [hlen] at abJ;exact abJ
    exact hfin.loc (q:=.slice (some ⟨b9,0,none⟩) 0 0) (Loc.jW EG rfl) (fun x hx e=>by have:=hlb x e;have:=(hfin.lt hx).1;omega)
  refine L.nil (?_)
  have hke:k=(d.g % 3).toNat:=by omega
  rw [hke] at UM
  have aj3:=abG.size
  have VB:kW w11.heap.size w20 gv (dList (dG1 d n i) (d.g % 3).toNat):=UM.mono (by omega)
  refine T.cf (T.exit rfl (T.seq (T.q (L.a rfl (L.nil (T.block (?_)))))))
  refine T.loop (σ:=Nat × Value) (fun s=>[(1,.int .i64 n),(2,.pointer (some ⟨b2,0,none⟩)),(4,.pointer (some ⟨b4,0,none⟩)),(5,.pointer (some ⟨b5,0,none⟩)),(6,.int .i64 wt),(7,.int .i64 i),(8,.pointer (some ⟨b9,0,none⟩)),(11,.int .i64 s.1)]) (fun s w'=>(s.1:Int)≤d.p % 4∧Loc (.slice (some ⟨b9,0,none⟩) 0 0) w20 w'∧Blk w' b9 [str (dNm i),.int .i64 (dP d n i),gv,s.2,.slice none 0 0,.bool (dWt d n i)] 51∧kW w20.heap.size w' s.2 (dList (dV1 d n i) s.1)) (fun s=>(d.p % 4).toNat-s.1) ((0,.slice none 0 0)) ⟨rfl,rfl,rfl,rfl,rfl,rfl,rfl,rfl,trivial⟩ ⟨by show ((0:Nat):Int)≤d.p % 4;omega,Loc.aW (Keep.refl _ _),RS,kW.nil _ _⟩ ?_
  rintro ⟨k,vv⟩ w30 ⟨agx,aaI,VD,Ie⟩
  simp only at agx VD Ie
  have Ig:Ext w7 w30:=aaI.keep Q5 (fun x hx=>by have:=hlb x hx;omega)
  have aeC:=hS7.ext Ig
  refine T.seq (T.q (L.m rfl (L.o (O.fieldAddr runUnderlying25 rfl sizeOf3 rfl (L.o (O.load isAgg3 rfl (aeC.c5.cell rfl) (L.o (O.aV rfl rfl (fun abK=>?_) (fun abK=>?_)))))))))
  ·refine L.nil (T.ct (T.skip (T.seq (T.block (T.q (L.a rfl (L.nil (T.seq (?_)))))))))
   refine T.join (σ:=Unit) (fun _=>[(1,.int .i64 n),(2,.pointer (some ⟨b2,0,none⟩)),(4,.pointer (some ⟨b4,0,none⟩)),(5,.pointer (some ⟨b5,0,none⟩)),(6,.int .i64 wt),(7,.int .i64 i),(8,.pointer (some ⟨b9,0,none⟩)),(11,.int .i64 k),(12,.int .i64 (dV1 d n i k))]) (fun _ w'=>Ext w30 w') ?_ ?_
   ·refine T.q (L.o (O.fieldAddr runUnderlying51 rfl sizeOf4 rfl (L.o (O.load isAgg4 rfl (VD.cell rfl) (?_)))))
    rcases hwi:dWt d n i with _|_
    ·have hdq:=hd.ext (he7.trans Ig)
     refine L.o (O.not rfl (L.nil (T.ct (T.region (L.o (O.ak isAgg59 sizeOf59 rfl rfl aeC.d2.row (L.m rfl (L.o (O.lW rfl rfl (by (try dsimp only);omega) (L.m rfl (L.o (O.aC rfl rfl (by (try dsimp only);omega) (L.o (O.aC rfl rfl (by (try dsimp only);omega) (L.o (O.call (xs:=[.tmp 96,.tmp 101]) call126 rfl rfl (nO lo d (5*i+k+2) w30 hdq (by omega)) (fun v32 w32 hq=>?_)))))))))))))))))
     obtain ⟨rfl,RU⟩:=hq
     refine L.a rfl (L.nil (T.meet (()) ⟨rfl,rfl,rfl,rfl,rfl,rfl,rfl,rfl,?_,trivial⟩ RU))
     ·rw [dV1,hwi];rfl
    refine L.o (O.not rfl (L.nil (T.cf (T.skip (T.meet (()) ⟨rfl,rfl,rfl,rfl,rfl,rfl,rfl,rfl,?_,trivial⟩ (Keep.refl _ _))))))
    ·rw [dV1,hwi];rfl
   rintro _ w31 DX
   have hBx:=VD.ext DX
   refine T.region (L.o (O.fieldAddr runUnderlying51 rfl sizeOf30 rfl (L.o (O.load isAgg30 rfl (hBx.cell rfl) (L.m rfl (L.o (O.buildSlice (el:=3) (parts:=[(0,.tmp 105)]) (vs:=[(0,_)]) (cs:=[.int .i64 (dV1 d n i k)]) rfl (fun w=>by kernel_rfl) (fun b33 w33 agy agz EH YD=>?_))))))))
   have hOx:=(Ie.ext DX).ext EH
   have hlx:=(aaI.trans (Loc.aW DX)).trans (Loc.aW EH)
   have hlen:=dO (dV1 d n i) k
   refine L.o (O.append (size:=1) (bytes:=8) runUnderlying30 Tryz.jK rfl rfl rfl rfl (by decide) rfl rfl hOx (Sl.ay (lo:=0) (n:=1) (sz:=1) YD rfl (Nat.le_refl _) (by decide) (Nat.zero_le _)) (by intro c hc;simp at hc;simp [hc,Value.oneCell']) (by omega) (by simp only [maxLen];omega) (by have:=hlx.size;omega) (fun v34 w34 Om aeD=>?_))
   have hly:=hlx.grown aeD (fun j hj=>(hOx.lt hj).1)
   have hzb:b9<w20.heap.size:=by have:=RS.lt;omega
   have hvn:v34.oneCell'=true:=Sl.one (Sl.aU Om)
   refine L.o (O.fieldAddr runUnderlying51 rfl sizeOf30 rfl (L.o (O.store1 sizeOf30 hvn rfl rfl ((hBx.ext EH).grown aeD (fun j hj=>by have:=(hOx.lt hj).1;omega)) (by simp [Value.cells]) (fun w35 aaJ YE=>?_))))
   replace aaJ:Upd b9 w34 w35:=aaJ
   refine L.nil (T.blk (T.region (L.m rfl (L.o (O.aC rfl rfl (by omega) (L.a rfl (L.nil (T.again ((k+1,v34)) (by show (d.p % 4).toNat-(k+1)<(d.p % 4).toNat-k;omega) ⟨rfl,rfl,rfl,rfl,rfl,rfl,rfl,rfl,trivial⟩ ⟨by omega,hly.trans (Loc.jW aaJ rfl),YE,?_⟩))))))))
   ·have hfin:kW w20.heap.size w34 v34 (dList (dV1 d n i) (k+1)):=by
     unfold kW;rw [dO,sD,List.map_append];rw [hlen] at Om;exact Om
    exact hfin.loc (q:=.slice (some ⟨b9,0,none⟩) 0 0) (Loc.jW aaJ rfl) (fun x hx e=>by have:=hlb x e;have:=(hfin.lt hx).1;omega)
  refine L.nil (?_)
  have hke:k=(d.p % 4).toNat:=by omega
  rw [hke] at Ie
  have VB:=VB.loc aaI (fun x hx e=>by have:=hlb x e;have:=(VB.lt hx).1;omega)
  have agA:=aaI.size
  have aaK:kW w11.heap.size w30 vv (dList (dV1 d n i) (d.p % 4).toNat):=Ie.mono (by omega)
  refine T.cf (T.exit rfl (T.seq (T.q (L.a rfl (L.nil (T.block (?_)))))))
  refine T.loop (σ:=Nat × Value) (fun s=>[(1,.int .i64 n),(2,.pointer (some ⟨b2,0,none⟩)),(4,.pointer (some ⟨b4,0,none⟩)),(5,.pointer (some ⟨b5,0,none⟩)),(6,.int .i64 wt),(7,.int .i64 i),(8,.pointer (some ⟨b9,0,none⟩)),(13,.int .i64 s.1)]) (fun s w'=>(s.1:Int)≤d.l % 4∧Loc (.slice (some ⟨b9,0,none⟩) 0 0) w30 w'∧Blk w' b9 [str (dNm i),.int .i64 (dP d n i),gv,vv,s.2,.bool (dWt d n i)] 51∧kW w30.heap.size w' s.2 (dList (dL1 d n i) s.1)) (fun s=>(d.l % 4).toNat-s.1) ((0,.slice none 0 0)) ⟨rfl,rfl,rfl,rfl,rfl,rfl,rfl,rfl,trivial⟩ ⟨by show ((0:Nat):Int)≤d.l % 4;omega,Loc.aW (Keep.refl _ _),VD,kW.nil _ _⟩ ?_
  rintro ⟨k,pv⟩ w40 ⟨agB,YF,aaL,aaM⟩
  simp only at agB aaL aaM
  have VA:Ext w7 w40:=YF.keep Ig (fun x hx=>by have:=hlb x hx;omega)
  have aaN:=hS7.ext VA
  refine T.seq (T.q (L.m rfl (L.o (O.fieldAddr runUnderlying25 rfl sizeOf3 rfl (L.o (O.load isAgg3 rfl (aaN.c5.cell rfl) (L.o (O.aV rfl rfl (fun abL=>?_) (fun abL=>?_)))))))))
  ·refine L.nil (T.ct (T.skip (T.seq (T.block (T.q (L.a rfl (L.nil (T.seq (?_)))))))))
   refine T.join (σ:=Unit) (fun _=>[(1,.int .i64 n),(2,.pointer (some ⟨b2,0,none⟩)),(4,.pointer (some ⟨b4,0,none⟩)),(5,.pointer (some ⟨b5,0,none⟩)),(6,.int .i64 wt),(7,.int .i64 i),(8,.pointer (some ⟨b9,0,none⟩)),(13,.int .i64 k),(14,.int .i64 (dL1 d n i k))]) (fun _ w'=>Ext w40 w') ?_ ?_
   ·refine T.q (L.o (O.fieldAddr runUnderlying51 rfl sizeOf4 rfl (L.o (O.load isAgg4 rfl (aaL.cell rfl) (?_)))))
    rcases hwi:dWt d n i with _|_
    ·have hdq:=hd.ext (he7.trans VA)
     refine L.o (O.not rfl (L.nil (T.ct (T.region (L.o (O.ak isAgg59 sizeOf59 rfl rfl aaN.d2.row (L.m rfl (L.o (O.aC rfl rfl (by (try dsimp only);omega) (L.o (O.call (xs:=[.tmp 118,.tmp 120]) call126 rfl rfl (nO lo d (i+11) w40 hdq (by omega)) (fun v42 w42 hq=>?_))))))))))))
     obtain ⟨rfl,XW⟩:=hq
     have hnp:=wZ hd.nl (i+11)
     refine L.o (O.rem rfl rfl (by omega) (by omega) (?_))
     obtain ⟨c16,hc16⟩:∃ c16:Nat,DW d.ns (i+11) % 16=c16:=⟨(DW d.ns (i+11) % 16).toNat,by omega⟩
     rw [hc16]
     refine L.m rfl (L.o (O.cZ rfl (fun w=>⟨_,runUnderlying3 w⟩) runUnderlying114 (IntWalk.u64_in _ ⟨by omega,by omega⟩) (L.o (O.Vk rfl rfl (by omega) (L.a rfl (L.nil (T.meet (()) ⟨rfl,rfl,rfl,rfl,rfl,rfl,rfl,rfl,?_,trivial⟩ XW)))))))
     ·rw [dL1,hwi,hc16];rfl
    refine L.o (O.not rfl (L.nil (T.cf (T.skip (T.meet (()) ⟨rfl,rfl,rfl,rfl,rfl,rfl,rfl,rfl,?_,trivial⟩ (Keep.refl _ _))))))
    ·rw [dL1,hwi];rfl
   rintro _ w41 abM
   have hBx:=aaL.ext abM
   refine T.region (L.o (O.fieldAddr runUnderlying51 rfl sizeOf30 rfl (L.o (O.load isAgg30 rfl (hBx.cell rfl) (L.m rfl (L.o (O.buildSlice (el:=3) (parts:=[(0,.tmp 128)]) (vs:=[(0,_)]) (cs:=[.int .i64 (dL1 d n i k)]) rfl (fun w=>by kernel_rfl) (fun b43 w43 agC agD YG abN=>?_))))))))
   have hOx:=(aaM.ext abM).ext YG
   have hlx:=(YF.trans (Loc.aW abM)).trans (Loc.aW YG)
   have hlen:=dO (dL1 d n i) k
   refine L.o (O.append (size:=1) (bytes:=8) runUnderlying30 Tryz.jK rfl rfl rfl rfl (by decide) rfl rfl hOx (Sl.ay (lo:=0) (n:=1) (sz:=1) abN rfl (Nat.le_refl _) (by decide) (Nat.zero_le _)) (by intro c hc;simp at hc;simp [hc,Value.oneCell']) (by omega) (by simp only [maxLen];omega) (by have:=hlx.size;omega) (fun v44 w44 abO aeE=>?_))
   have hly:=hlx.grown aeE (fun j hj=>(hOx.lt hj).1)
   have hzb:b9<w30.heap.size:=by have:=VD.lt;omega
   have hvn:v44.oneCell'=true:=Sl.one (Sl.aU abO)
   refine L.o (O.fieldAddr runUnderlying51 rfl sizeOf30 rfl (L.o (O.store1 sizeOf30 hvn rfl rfl ((hBx.ext YG).grown aeE (fun j hj=>by have:=(hOx.lt hj).1;omega)) (by simp [Value.cells]) (fun w45 XY VE=>?_))))
   replace XY:Upd b9 w44 w45:=XY
   refine L.nil (T.blk (T.region (L.m rfl (L.o (O.aC rfl rfl (by omega) (L.a rfl (L.nil (T.again ((k+1,v44)) (by show (d.l % 4).toNat-(k+1)<(d.l % 4).toNat-k;omega) ⟨rfl,rfl,rfl,rfl,rfl,rfl,rfl,rfl,trivial⟩ ⟨by omega,hly.trans (Loc.jW XY rfl),VE,?_⟩))))))))
   ·have hfin:kW w30.heap.size w44 v44 (dList (dL1 d n i) (k+1)):=by
     unfold kW;rw [dO,sD,List.map_append];rw [hlen] at abO;exact abO
    exact hfin.loc (q:=.slice (some ⟨b9,0,none⟩) 0 0) (Loc.jW XY rfl) (fun x hx e=>by have:=hlb x e;have:=(hfin.lt hx).1;omega)
  refine L.nil (?_)
  have hke:k=(d.l % 4).toNat:=by omega
  rw [hke] at aaM
  have VB:=VB.loc YF (fun x hx e=>by have:=hlb x e;have:=(VB.lt hx).1;omega)
  have aaK:=aaK.loc YF (fun x hx e=>by have:=hlb x e;have:=(aaK.lt hx).1;omega)
  have aeu:=YF.size
  have agE:kW w11.heap.size w40 pv (dList (dL1 d n i) (d.l % 4).toNat):=aaM.mono (by omega)
  obtain ⟨u,hu⟩:∃ u:UnV,u=⟨dNm i,dP d n i,gv,dList (dG1 d n i) (d.g % 3).toNat,vv,dList (dV1 d n i) (d.p % 4).toNat,pv,dList (dL1 d n i) (d.l % 4).toNat,dWt d n i⟩:=⟨_,rfl⟩
  have hBu:Blk w40 b9 u.cells 51:=by rw [hu];exact aaL
  have hown:sF w11.heap.size w40 u:=by rw [hu];exact ⟨VB,aaK,agE,by show (dNm i).length≤_;simp [dNm,RG]⟩
  refine T.cf (T.exit rfl (T.region (L.o (O.fieldAddr runUnderlying25 rfl sizeOf23 rfl (L.o (O.load isAgg23 rfl (aaN.c5.cell rfl) (L.o (O.ak isAgg51 sizeOf51 rfl rfl hBu.row (L.o (O.buildSlice (el:=51) (parts:=[(0,.tmp 134)]) (vs:=[(0,_)]) (cs:=u.cells) rfl (fun w=>by kernel_rfl) (fun b60 w60 aj6 aj7 YH agF=>?_)))))))))))
  have Le:=aaN.ext YH
  have UN:=hown.ext YH
  refine L.o (O.append (size:=6) (bytes:=104) runUnderlying23 Tryz.Jq rfl rfl rfl rfl (by decide) rfl rfl Le.row (Sl.ay (lo:=0) (n:=1) (sz:=6) agF rfl (Nat.le_refl _) (by decide) (Nat.zero_le _)) (UN.ok.one) (by omega) (by simp only [maxLen];omega) (by have:=VA.size;have:=YH.size;omega) (fun v61 w61 aeF Oo=>?_))
  have hne:∀ b',b'<w6.heap.size→∀ j,uv.ownBlock=some j→j≠b':=fun b' hb' j hj=>by have:=(jQ Le.row hj).1;omega
  have hvn:v61.oneCell'=true:=Sl.one (Sl.aU aeF)
  have agG:Ext w w60:=(he7.trans VA).trans YH
  have agH:Ext w w61:=agG.dV Le.row Oo (by have:=GK.size;omega)
  refine L.o (O.fieldAddr runUnderlying25 rfl sizeOf23 rfl (L.o (O.store1 sizeOf23 hvn rfl rfl (Le.c5.grown Oo (hne b5 GL)) (by simp [Value.cells]) (fun w62 UO RV=>?_))))
  replace UO:Upd b5 w61 w62:=UO
  have abP:Loc (.slice (some ⟨b5,0,none⟩) 0 0) w61 w62:=Loc.jW UO rfl
  have abQ:∀ {base:Nat} {v:Value} {xs:List Int},w6.heap.size≤base→kW base w61 v xs→∀ b,v.ownBlock=some b→(Value.slice (some ⟨b5,0,none⟩) 0 0).ownBlock≠some b:=fun hb h b h1 e=>by have e':b5=b:=Option.some.inj e;have:=(h.lt h1).1;omega
  have UK:=eU.size
  have mv:∀ x,sF w6.heap.size w60 x→sF w6.heap.size w62 x:=fun x hx=>⟨(hx.g.row Le.row Oo (m:=0)).loc abP (abQ (Nat.le_refl _) (hx.g.row Le.row Oo (m:=0))),(hx.v.row Le.row Oo (m:=0)).loc abP (abQ (Nat.le_refl _) (hx.v.row Le.row Oo (m:=0))),(hx.p.row Le.row Oo (m:=0)).loc abP (abQ (Nat.le_refl _) (hx.p.row Le.row Oo (m:=0))),hx.n⟩
  refine L.nil (T.blk (T.region (L.m rfl (L.o (O.aC rfl rfl (by omega) (L.a rfl (L.nil (T.again ((i+1,v61,us ++ [u])) (by omega) ⟨rfl,rfl,rfl,rfl,rfl,rfl,trivial⟩ ⟨by omega,agH.upd UO (.inr (by omega)),?_,⟨(Le.d2.grown Oo (hne b2 (by omega))).upd UO (by omega),(Le.c4.grown Oo (hne b4 (by omega))).upd UO (by omega),RV,?_,fun x hx=>?_⟩,by simp [hl7],fun j hj=>?_⟩))))))))
  ·have:=VA.size
   have:=YH.size
   have:=Oo.size
   have:=UO.size
   omega
  ·rw [List.length_append,List.length_singleton,qB,rV];exact Bo aeF UO GL
  ·rcases List.mem_append.1 hx with hx|hx
   ·exact mv x (Le.own x hx)
   rw [List.mem_singleton.1 hx];exact mv u (UN.mono (by omega))
  by_cases e:j=i
  ·subst e
   rw [show (us ++ [u]).getD j u0=u by rw [au (by simp;omega)];simp [hl7]]
   rw [hu];exact ⟨rfl,rfl,rfl,rfl,rfl,rfl⟩
  rw [show (us ++ [u]).getD j u0=us.getD j u0 by rw [au (by simp;omega),au (by omega)];simp [show j<us.length by omega]]
  exact hU7 j (by omega)
 refine L.nil (?_)
 obtain rfl:i=n:=by omega
 refine T.cf (T.exit rfl (T.q (L.o (O.ak isAgg25 sizeOf25 rfl rfl hS7.c5.row (?_)))))
 have agI:uv.oneCell'=true:=Sl.one (Sl.aU hS7.row)
 refine L.o (O.aF sizeOf25 rfl rfl rfl hS7.c4 (Nat.le_refl _) (by intro u hu;simp at hu;rcases hu with (rfl|rfl|rfl|rfl);rfl;rfl;rfl;exact agI) (fun w8 hu8 hB8=>?_))
 have hR8:Blk w8 b4 [.int .i64 (d.g % 3),.int .i64 (d.p % 4),.int .i64 (d.l % 4),uv] 25:=hB8
 replace hu8:Upd b4 w7 w8:=hu8
 have abR:=Bo hS7.row hu8 (by omega)
 refine L.nil (T.retA results70 isAgg25 sizeOf25 rfl rfl hR8.row ⟨he7.upd hu8 (.inr (by omega)),⟨d.g % 3,d.p % 4,d.l % 4,uv,us⟩,rfl,⟨(Sl.aU abR).mono (by omega),fun u hu=>?_⟩,rfl,rfl,rfl,hl7,hU7⟩)
 have hloc:Loc (.slice (some ⟨b4,0,none⟩) 0 0) w7 w8:=Loc.jW hu8 rfl
 have ho:=hS7.own u hu
 have key:∀ {v:Value} {xs:List Int},kW w6.heap.size w7 v xs→∀ b,v.ownBlock=some b→(Value.slice (some ⟨b4,0,none⟩) 0 0).ownBlock≠some b:=fun h b hb e=>by have e':b4=b:=Option.some.inj e;have:=(h.lt hb).1;omega
 exact (show sF w6.heap.size w8 u from ⟨ho.g.loc hloc (key ho.g),ho.v.loc hloc (key ho.v),ho.p.loc hloc (key ho.p),ho.n⟩).ok.mono (by omega)
open Go Go.E
theorem O.RX {C:Cx} {e:Env} {w:World} {K:Value→World→Prop} {d:Option Tmp} {ty:TypeId} {pos:String} {aft:Array Edge} {g:Option (Nat × Bool)} {x:Operand} {t:TypeId} {cs vs:List Value} {fs:Array Field} {i n:Nat} {f:Field} (hu:∀ w,(underlying t).run C.P w = .ok (.struct fs) w) (hf:fs[i]?=some f) (hg:∀ w,(isAgg f.type).run C.P w = .ok true w) (hs:∀ w,(sizeOf f.type).run C.P w = .ok n w)
  (hx:ev e x=some (.agg cs.toArray)) (hv:(cs.drop f.offset).take n=vs) (h:K (.agg vs.toArray) w):O C e ⟨d,.field t x i,ty,pos,aft,g⟩ w K:=by
 have e1:cs.toArray.extract f.offset (f.offset+n)=vs.toArray:=by
  rw [List.extract_toArray,List.extract_eq_take_drop,Nat.add_sub_cancel_left,hv]
 exact O.of_run (by simp) (fun a ha=>by simp [execOp,Instr.field,ha.eval hx,hu w,hf,asAgg,Go.part,hg w,hs w,hv]) h
structure xw (d:Dr) (n:Nat) (r:RoV):Prop where
 n1:1≤n
 n2:n≤24
 g:r.G=d.g % 3
 p:r.P=d.p % 4
 l:r.L=d.l % 4
 len:r.us.length=n
 u:∀ i,i<n→DU d (d.g % 3).toNat (d.p % 4).toNat (d.l % 4).toNat n i (r.us.getD i u0)
def Lh (d:Dr) (n base:Nat) (v:Value) (w:World):Prop:=∃ r:RoV,v=r.val∧r.ok base w∧xw d n r
theorem Lh.st {d:Dr} {n base:Nat} : ∀ v w w',Ext w w'→Lh d n base v w→Lh d n base v w':=fun _ _ _ he ⟨r,h1,h2,h3⟩=>⟨r,h1,h2.ext he,h3⟩
theorem RoV.ok.mono {lo lo':Nat} {w:World} {r:RoV} (h:r.ok lo w) (hl:lo'≤lo):r.ok lo' w:=Units.mono h hl
def RY (d:Dr) (w:World) (v:Value) (w':World):Prop:=Ext w w'∧∃ pv fv n,∃ r:RoV,v = .agg #[pv,fv,.int .i64 r.G,.int .i64 r.P,.int .i64 r.L,r.uv]∧r.ok w.heap.size w'∧xw d n r
theorem RoV.ok.one {lo:Nat} {w:World} {r:RoV} (h:r.ok lo w):r.uv.oneCell'=true:=Sl.one h.sl
theorem RoV.ok.loc {lo b:Nat} {w w':World} {r:RoV} (h:r.ok lo w) (hu:Upd b w w') (hb:b<lo):r.ok lo w':=h.keep (lo:=lo) ((Keep.refl lo w).upd hu (.inl hb))
theorem Ih (lo:Nat) (d:Dr) (w:World) (hd:d.ok lo w) :
  Calls Tryz.prog 22 #[d.val] w (Ret fun v w'=>RY d w v w'):=by
 refine T.enter (vs:=[d.val]) func22 rfl ntmps22 rfl ?_
 refine T.q (L.o (O.box rfl (fun b1 w1 hb1 hz1 he1 hB1=>?_)))
 refine L.o (O.alloc zeroValue48 (fun b2 w2 hb2 hz2 he2 hB2=>?_))
 have wu:=he1.trans he2
 have hD2:Blk w2 b1 d.cells 59:=Blk.ext (cs:=d.cells) hB1 he2
 have hR2:Blk w2 b2 [.slice none 0 0,.slice none 0 0,.int .i64 0,.int .i64 0,.int .i64 0,.slice none 0 0] 48:=hB2
 have hb1':=hD2.lt
 have hb2':=hR2.lt
 refine L.nil (T.q (L.o (O.fieldAddr runUnderlying59 rfl sizeOf56 rfl (L.o (O.ak isAgg56 sizeOf56 rfl rfl (Row.part hD2.row 0 5) (L.o (O.call (xs:=[.tmp 5]) call69 rfl rfl (Cc lo d w2 (hd.ext wu)) (fun v3 w3 hq=>?_))))))))
 obtain ⟨he3,pv,fv,nf,rfl,hF3,hn1,hn2,hpv⟩:=hq
 refine L.o (O.alloc zeroValue46 (fun b4 w4 hb4 hz4 he4 hB4=>?_))
 refine L.o (O.aF sizeOf46 rfl rfl rfl hB4 (Nat.le_refl _) (by intro u hu;simp at hu;rcases hu with (rfl|rfl);exact hpv;exact hF3.one) (fun w5 hu5 hB5=>?_))
 replace hu5:Upd b4 w4 w5:=hu5
 have hC5:Blk w5 b4 [pv,fv] 46:=hB5
 have Ci:Ext w3 w5:=he4.upd hu5 (.inr (by omega))
 have hF5:=hF3.ext Ci
 have hD5:=(hD2.ext he3).ext Ci
 have Lj:=(wu.trans he3).trans Ci
 refine L.nil (T.seq (?_))
 refine T.dL mixed 6 [3,1] rfl [.is _,.is _,.is _,.is _,.is _,.such (Lh d nf w2.heap.size)] [[],[],[],[2],[3],[1,4]] [[],[],[],[2],[2,3],[1,2,3,4],[0,1,2,3,4,5],[0,1,2,3,4,5,6]] (by kernel_rfl) (by kernel_rfl) rfl (by kernel_rfl) ⟨Lh.st,trivial⟩ ⟨fun wx hx=>Ob.o (O.ak isAgg46 sizeOf46 rfl rfl ((hC5.ext hx).row) kR),
   fun wx hx=>Ob.o (O.ak isAgg59 sizeOf59 rfl rfl ((hD5.ext hx).row) kR),
   fun wx hx=>Ob.o (O.fieldAddr runUnderlying46 rfl sizeOf44 rfl kR),
   fun wx hx=>Ob.o (O.load isAgg44 rfl ((hC5.ext hx).cell rfl) kR),
   fun wx hx=>Ob.o (O.len runUnderlying44 rfl (Sl.val (Sl.aU (hF5.ext hx).choose_spec.1)) kR),
   fun wx hx=>Ob.o (O.call (xs:=[.tmp 8,.tmp 11]) call70 rfl rfl (Ld lo nf d wx (hd.ext (Lj.trans hx)) hn1 hn2) (fun v wy h=>(by obtain ⟨h1,r,rfl,h2,h3,h4,h5,h6,h7⟩:=h;exact ⟨h1,r,rfl,h2.mono ((he3.trans (Ci.trans hx)).size),⟨hn1,hn2,h3,h4,h5,h6,h7⟩⟩))),
   trivial⟩ (fun w6 he6 v12 La=>?_)
 obtain ⟨r,rfl,hr6,hdr⟩:=La
 refine L.o (O.build (v:=.agg #[pv,fv,.int .i64 r.G,.int .i64 r.P,.int .i64 r.L,r.uv]) (parts:=[(0,.tmp 7),(1,.tmp 12)]) (vs:=[(0,_),(1,_)]) rfl (fun w=>by kernel_rfl) (L.o (O.aF sizeOf48 rfl rfl rfl ((hR2.ext he3).ext Ci |>.ext he6) (Nat.le_refl _) (by intro u hu;simp at hu;rcases hu with (rfl|rfl|rfl|rfl|rfl|rfl);exact hpv;exact hF3.one;rfl;rfl;rfl;exact hr6.one) (fun w7 hu7 hB7=>?_))))
 replace hu7:Upd b2 w6 w7:=hu7
 have hR7:Blk w7 b2 [pv,fv,.int .i64 r.G,.int .i64 r.P,.int .i64 r.L,r.uv] 48:=hB7
 refine L.nil (T.retA results22 isAgg48 sizeOf48 rfl rfl hR7.row ⟨(Lj.trans he6).upd hu7 (.inr (by omega)),pv,fv,nf,r,rfl,(hr6.loc hu7 hb2').mono wu.size,hdr⟩)
theorem Ii (lo:Nat) (d:Dr) (w:World) (hd:d.ok lo w) :
  Calls Tryz.prog 39 #[d.val] w (Ret fun v w'=>Ext w w'∧∃ n,Lh d n w.heap.size v w'):=by
 refine T.enter (vs:=[d.val]) func39 rfl ntmps39 rfl ?_
 refine T.q (L.o (O.box rfl (fun b1 w1 hb1 hz1 he1 hB1=>?_)))
 refine L.o (O.alloc zeroValue25 (fun b2 w2 hb2 hz2 he2 hB2=>?_))
 have wu:=he1.trans he2
 have hD2:Blk w2 b1 d.cells 59:=Blk.ext (cs:=d.cells) hB1 he2
 have hR2:Blk w2 b2 Vy 25:=hB2
 have hb2':=hR2.lt
 refine L.nil (T.q (L.o (O.ak isAgg59 sizeOf59 rfl rfl hD2.row (L.o (O.call (xs:=[.tmp 3]) call22 rfl rfl (Ih lo d w2 (hd.ext wu)) (fun v3 w3 hq=>?_))))))
 obtain ⟨he3,pv,fv,n,r,rfl,hr3,hdr⟩:=hq
 refine L.o (O.RX (vs:=[.int .i64 r.G,.int .i64 r.P,.int .i64 r.L,r.uv]) runUnderlying48 rfl isAgg25 sizeOf25 rfl rfl (L.o (O.aF sizeOf25 rfl rfl rfl (hR2.ext he3) (Nat.le_refl _) (by intro u hu;simp at hu;rcases hu with (rfl|rfl|rfl|rfl);rfl;rfl;rfl;exact hr3.one) (fun w4 hu4 hB4=>?_))))
 replace hu4:Upd b2 w3 w4:=hu4
 have hR4:Blk w4 b2 r.cells 25:=hB4
 refine L.nil (T.retA results39 isAgg25 sizeOf25 rfl rfl hR4.row ⟨(wu.trans he3).upd hu4 (.inr (by omega)),n,r,rfl,(hr3.loc hu4 hb2').mono wu.size,hdr⟩)
end Go.Proofs.YtnlonpcbgjbbaaaGreatDoor
