/-
  UnitsChecks, part 7 of its proof: that it returns true for every input, and each argument reads behind the call as it read before. Conditions: the listed variables read as the program's text lays them (tied by the card).
-/
import Derived.Test.YtnlonpcbgjbbaaaGreatDoorWUnitsChecks6
set_option linter.unusedVariables false
set_option linter.unusedSimpArgs false
set_option maxRecDepth 20000
set_option linter.unusedVariables false
set_option linter.unusedSimpArgs false
set_option maxRecDepth 20000
namespace Go.Proofs.YtnlonpcbgjbbaaaGreatDoor
open Go.Proofs.Tryz (call125 call126 call22 call32 call39 call52 call69 call70 call77 call88 call89 call90 call91 call92 call93 call94 func22 func30 func38 func39 func69 func70 func88 isAgg23 isAgg25 isAgg3 isAgg30 isAgg4 isAgg43 isAgg44 isAgg46 isAgg48 isAgg5 isAgg51 isAgg54 isAgg56 isAgg59 isAgg76 isAgg78 ntmps22 ntmps30 ntmps38 ntmps39 ntmps69 ntmps70 ntmps88 results22 results30 results38 results39 results69 results70 results88 runUnderlying114 runUnderlying23 runUnderlying25 runUnderlying3 runUnderlying30 runUnderlying43 runUnderlying44 runUnderlying46 runUnderlying48 runUnderlying5 runUnderlying51 runUnderlying54 runUnderlying56 runUnderlying59 runUnderlying77 runUnderlying9 sizeOf23 sizeOf25 sizeOf3 sizeOf30 sizeOf4 sizeOf43 sizeOf44 sizeOf46 sizeOf48 sizeOf5 sizeOf51 sizeOf54 sizeOf56 sizeOf59 sizeOf76 sizeOf78 sizeOf9 zeroValue25 zeroValue46 zeroValue48 zeroValue51 zeroValue78)
open Go Go.E
attribute [local irreducible] Go.E.T Go.E.L Go.E.O Go.E.Ob

/-- A row of one's own, content unknown. -/
def OwnA (base:Nat) (el:TypeId) (sz n:Nat) (v:Value) (w:World):Prop:=∃ xs,w.ownsRow base el sz v n xs∧∀ c∈xs,c.oneCell'=true
theorem OwnA.nil (base:Nat) (el:TypeId) (sz:Nat) (w:World):OwnA base el sz 0 (.slice none 0 0) w:=⟨[],owns_nil _ _ _ _,fun _ h=>by cases h⟩
theorem OwnA.ext {base:Nat} {el:TypeId} {sz n:Nat} {v:Value} {w w':World} (h:OwnA base el sz n v w) (k:Ext w w'):OwnA base el sz n v w':=by
 obtain ⟨xs,h1,h2⟩:=h;exact ⟨xs,owns_keep h1 k (Nat.zero_le _),h2⟩
theorem OwnA.upd {base b:Nat} {el:TypeId} {sz n:Nat} {v:Value} {w w':World} (h:OwnA base el sz n v w) (k:Upd b w w') (hb:b<base):OwnA base el sz n v w':=by
 obtain ⟨xs,h1,h2⟩:=h;exact ⟨xs,owns_upd h1 k hb,h2⟩
theorem OwnA.one {base:Nat} {el:TypeId} {sz n:Nat} {v:Value} {w:World} (h:OwnA base el sz n v w):v.oneCell'=true:=by
 obtain ⟨xs,h1,h2⟩:=h;exact Sl.one (Sl.of_owns h1)
/-- The complex of a draft, as far as rolls ask for it. -/
def CxPost (w:World) (v:Value) (w':World):Prop:=Ext w w'∧∃ pv fv n,v = .agg #[pv,fv]∧OwnA w.heap.size 127 2 n fv w'∧1≤n∧n≤24∧pv.oneCell'=true
def dcells (d:Dr):List Value:=[.int .u8 d.wd,.int .u8 d.hi,d.cv,d.sv,.bool d.ho]
set_option maxHeartbeats 1000000 in
theorem Complex_calls (lo:Nat) (d:Dr) (w:World) (hd:d.ok lo w) :
  Calls Tryz.prog 69 #[.agg (dcells d).toArray] w (Ret fun v w'=>CxPost w v w'):=by
 refine T.enter (vs:=[.agg (dcells d).toArray]) func69 rfl ntmps69 rfl ?_
 refine T.q (L.o (O.box rfl (fun b1 w1 hb1 hz1 he1 hB1=>?_)))
 refine L.o (O.alloc zeroValue46 (fun b2 w2 hb2 hz2 he2 hB2=>?_))
 have he02:=he1.trans he2
 have hD2:Blk w2 b1 (dcells d) 56:=Blk.ext (cs:=dcells d) hB1 he2
 have hR2:Blk w2 b2 [.slice none 0 0,.slice none 0 0] 46:=hB2
 have hb1':=hD2.lt
 have hb2':=hR2.lt
 have hw0:=hd.w0
 have hh0:=hd.h0
 unfold Low8 at hw0 hh0
 refine L.nil (T.seq (?_))
 refine T.anyE mixed 11 [1] rfl [.is _,.is _,.is _,.is _,.is _,.is _,.is _,.is _,.is _,.is _,.is _] [[],[0],[1],[2],[3],[],[5],[6],[7],[8],[4]] [[],[0],[0,1],[0,1,2],[0,1,2,3],[],[5],[5,6],[5,6,7],[5,6,7,8],[0,1,2,3,4],[0,1,2,3,4,5,6,7,8,9,10]] (by kernel_rfl) (by kernel_rfl) rfl (by kernel_rfl) trivial ⟨fun wx hx=>Ob.o (O.fieldAddr runUnderlying56 rfl sizeOf5 rfl kR),
   fun wx hx=>Ob.o (O.load isAgg5 rfl ((hD2.ext hx).cell rfl) kR),
   fun wx hx=>Ob.o (O.rem rfl rfl (by omega) (by omega) kR),
   fun wx hx=>Ob.o (O.conv_to rfl (fun w=>⟨_,runUnderlying5 w⟩) runUnderlying3 (IntWalk.i64_in _ ⟨by omega,by omega⟩) kR),
   fun wx hx=>Ob.o (O.add64 rfl rfl (by omega) kR),
   fun wx hx=>Ob.o (O.fieldAddr runUnderlying56 rfl sizeOf5 rfl kR),
   fun wx hx=>Ob.o (O.load isAgg5 rfl ((hD2.ext hx).cell rfl) kR),
   fun wx hx=>Ob.o (O.rem rfl rfl (by omega) (by omega) kR),
   fun wx hx=>Ob.o (O.conv_to rfl (fun w=>⟨_,runUnderlying5 w⟩) runUnderlying3 (IntWalk.i64_in _ ⟨by omega,by omega⟩) kR),
   fun wx hx=>Ob.o (O.add64 rfl rfl (by omega) kR),
   fun wx hx=>Ob.o (O.assign rfl kR),
   trivial⟩ (fun w3 he3=>?_)
 refine L.a rfl (L.nil (T.seq (T.q (L.o (O.fieldAddr runUnderlying56 rfl sizeOf4 rfl (L.o (O.load isAgg4 rfl ((hD2.ext he3).cell rfl) (?_))))))))
 have he03:=he02.trans he3
 refine L.nil (?_)
 refine T.join (σ:=Int × Int) (fun s=>[(1,.pointer (some ⟨b1,0,none⟩)),(2,.pointer (some ⟨b2,0,none⟩)),(3,.int .i64 s.1),(4,.int .i64 s.2)]) (fun s w'=>w'=w3∧1≤s.1∧s.1≤4∧1≤s.2∧s.2≤3) ?_ ?_
 ·rcases hho:d.ho with _|_
  ·refine T.cf (T.skip (T.meet ((1+d.wd % 4,1+d.hi % 3)) ⟨rfl,rfl,rfl,rfl,trivial⟩ ⟨rfl,by show 1≤1+d.wd % 4;omega,by show 1+d.wd % 4≤4;omega,by show 1≤1+d.hi % 3;omega,by show 1+d.hi % 3≤3;omega⟩))
  ·refine T.ct (T.region (L.a rfl (L.a rfl (L.nil (T.meet ((3,3)) ⟨rfl,rfl,rfl,rfl,trivial⟩ ⟨rfl,by decide,by decide,by decide,by decide⟩)))))
 rintro ⟨Wi,Hi⟩ w4 ⟨rfl,hW1,hW2,hH1,hH2⟩
 simp only at hW1 hW2 hH1 hH2
 obtain ⟨Wn,rfl⟩:∃ Wn:Nat,Wi=Wn:=⟨Wi.toNat,by omega⟩
 obtain ⟨Hn,rfl⟩:∃ Hn:Nat,Hi=Hn:=⟨Hi.toNat,by omega⟩
 have hW2n:Wn≤4:=by omega
 refine T.q (L.o (O.build (v:=.agg #[.slice none 0 0,.slice none 0 0]) (parts:=[]) (vs:=[]) rfl (fun w=>by kernel_rfl) (L.o (O.alloc zeroValue46 (fun b5 w5 hb5 hz5 he5 hB5=>?_)))))
 refine L.o (O.storeAgg sizeOf46 rfl rfl rfl hB5 (Nat.le_refl _) (by intro u hu;simp at hu;rcases hu with (rfl|rfl) <;> rfl) (fun w6 hu6 hB6=>?_))
 replace hu6:Upd b5 w5 w6:=hu6
 have hz3:=he3.size
 have he46:Ext w4 w6:=he5.upd hu6 (.inr (by omega))
 have he06:=he03.trans he46
 have hB6':Blk w6 b5 [.slice none 0 0,.slice none 0 0] 46:=hB6
 have hb5':=hB6'.lt
 have hz6:=hu6.size
 have hz02:=he02.size
 have hD6:Blk w6 b1 (dcells d) 56:=(hD2.ext he3).ext he46
 have hR6:=(hR2.ext he3).ext he46
 refine L.nil (T.q (L.a rfl (L.nil (T.seq (T.q (L.a rfl (L.nil (T.block (?_)))))))))
 refine T.loop (σ:=Nat × Int × Value × Nat) (fun s=>[(1,.pointer (some ⟨b1,0,none⟩)),(2,.pointer (some ⟨b2,0,none⟩)),(3,.int .i64 Wn),(4,.int .i64 Hn),(5,.pointer (some ⟨b5,0,none⟩)),(6,.int .i64 s.2.1),(7,.int .i64 s.1)]) (fun s w'=>s.1≤Hn+1∧0≤s.2.1∧s.2.1≤5*s.1∧Ext w w'∧w6.heap.size≤w'.heap.size∧Blk w' b1 (dcells d) 56∧Blk w' b2 [.slice none 0 0,.slice none 0 0] 46∧Blk w' b5 [s.2.2.1,.slice none 0 0] 46∧OwnA w6.heap.size 124 2 s.2.2.2 s.2.2.1 w'∧s.2.2.2≤5*s.1) (fun s=>Hn+1-s.1) ((0,0,.slice none 0 0,0)) ⟨rfl,rfl,rfl,rfl,rfl,rfl,rfl,trivial⟩ ⟨Nat.zero_le _,Int.le_refl _,by decide,he06,Nat.le_refl _,hD6,hR6,hB6',OwnA.nil _ _ _ _,Nat.le_refl _⟩ ?_
 rintro ⟨k,y,pv,np⟩ w7 ⟨hk,hy0,hy1,he7,hz7,hD7,hR7,hC7,hP7,hn7⟩
 simp only at hk hy0 hy1 hC7 hP7 hn7
 refine T.seq (T.q (L.m rfl (L.m rfl (L.o (O.leq_s rfl rfl (fun hlk=>?_) (fun hlk=>?_))))))
 ·refine L.nil (?_)
  have hlk':k≤Hn:=by omega
  refine T.ct (T.skip (T.seq (T.block (T.q (L.a rfl (L.nil (T.seq (T.q (L.a rfl (L.nil (T.block (?_))))))))))))
  refine T.loop (σ:=Nat × Int × Value × Nat) (fun s=>[(1,.pointer (some ⟨b1,0,none⟩)),(2,.pointer (some ⟨b2,0,none⟩)),(3,.int .i64 Wn),(4,.int .i64 Hn),(5,.pointer (some ⟨b5,0,none⟩)),(6,.int .i64 y),(7,.int .i64 k),(8,.int .i64 s.2.1),(9,.int .i64 s.1)]) (fun s w'=>s.1≤Wn+1∧0≤s.2.1∧s.2.1≤5*s.1∧Ext w w'∧w6.heap.size≤w'.heap.size∧Blk w' b1 (dcells d) 56∧Blk w' b2 [.slice none 0 0,.slice none 0 0] 46∧Blk w' b5 [s.2.2.1,.slice none 0 0] 46∧OwnA w6.heap.size 124 2 s.2.2.2 s.2.2.1 w'∧s.2.2.2≤5*k+s.1) (fun s=>Wn+1-s.1) ((0,0,pv,np)) ⟨rfl,rfl,rfl,rfl,rfl,rfl,rfl,rfl,rfl,trivial⟩ ⟨Nat.zero_le _,Int.le_refl _,by show (0:Int)≤5*((0:Nat):Int);omega,he7,hz7,hD7,hR7,hC7,hP7,hn7⟩ ?_
  rintro ⟨i,x,pv2,np2⟩ w8 ⟨hi,hx0,hx1,he8,hz8,hD8,hR8,hC8,hP8,hn8⟩
  simp only at hi hx0 hx1 hC8 hP8 hn8
  refine T.seq (T.q (L.m rfl (L.m rfl (L.o (O.leq_s rfl rfl (fun hli=>?_) (fun hli=>?_))))))
  ·refine L.nil (?_)
   have hli':i≤Wn:=by omega
   refine T.ct (T.skip (T.seq (T.block (T.q (L.o (O.fieldAddr runUnderlying46 rfl sizeOf43 rfl (L.o (O.load isAgg43 rfl (hC8.cell rfl) (L.m rfl (L.m rfl (L.o (O.build (v:=.agg #[.int .i64 x,.int .i64 y]) (parts:=[(0,.tmp 39),(1,.tmp 40)]) (vs:=[(0,_),(1,_)]) rfl (fun w=>by kernel_rfl) (L.o (O.buildSlice (el:=124) (parts:=[(0,.tmp 41)]) (vs:=[(0,_)]) (cs:=[.int .i64 x,.int .i64 y]) rfl (fun w=>by kernel_rfl) (fun b9 w9 hb9 hz9 he9 hB9=>?_)))))))))))))))
   obtain ⟨xs,hO8,hone⟩:=hP8
   have hO9:=owns_keep hO8 he9 (Nat.zero_le _)
   refine L.o (O.append (size:=2) (bytes:=16) runUnderlying43 Tryz.infoOf124 rfl rfl rfl rfl (by decide) rfl rfl hO9 (Sl.of_blk (lo:=0) (n:=1) (sz:=2) hB9 rfl (Nat.le_refl _) (by decide) (Nat.zero_le _)) (by intro c hc;simp at hc;rcases hc with (rfl|rfl) <;> rfl) (by omega) (by simp only [maxLen];omega) (by have:=he9.size;omega) (fun v10 w10 hO10 hG10=>?_))
   have hne:∀ b',b'<w6.heap.size→∀ j,pv2.ownBlock=some j→j≠b':=fun b' hb' j hj=>by have:=(own_at hO8 hj).1;omega
   have hv10:v10.oneCell'=true:=Sl.one (Sl.of_owns hO10)
   have hE10:Ext w w10:=(he8.trans he9).grown0 hO9 hG10 (by have:=he06.size;omega)
   refine L.o (O.fieldAddr runUnderlying46 rfl sizeOf43 rfl (L.o (O.store1 sizeOf43 hv10 rfl rfl ((hC8.ext he9).grown hG10 (hne b5 hb5')) (by simp [Value.cells]) (fun w11 hu11 hB11=>?_))))
   replace hu11:Upd b5 w10 w11:=hu11
   have hD11:=((hD8.ext he9).grown hG10 (hne b1 (by omega))).upd hu11 (by omega)
   have hR11:=((hR8.ext he9).grown hG10 (hne b2 (by omega))).upd hu11 (by omega)
   have hE11:Ext w w11:=hE10.upd hu11 (.inr (by omega))
   have hd11:=hd.ext hE11
   have hnb:=num8_le hd.sl i
   have hz911:w8.heap.size≤w11.heap.size:=by have:=he9.size;have:=hG10.size;have:=hu11.size;omega
   refine L.nil (T.region (L.m rfl (L.o (O.add64 rfl rfl (by (try dsimp only);omega) (L.o (O.fieldAddr runUnderlying56 rfl sizeOf54 rfl (L.o (O.load isAgg54 rfl (hD11.cell rfl) (L.m rfl (L.o (O.call (xs:=[.tmp 48,.tmp 49]) call125 rfl rfl (num8_calls lo d.sv d.ss i w11 hd11.s hd.sl (by omega)) (fun v12 w12 hq=>?_))))))))))))
   obtain ⟨rfl,rfl⟩:=hq
   refine L.o (O.rem rfl rfl (by omega) (by omega) (L.o (O.add64 rfl rfl (by (try dsimp only);omega) (L.a rfl (L.nil (T.blk (T.region (L.m rfl (L.o (O.add64 rfl rfl (by (try dsimp only);omega) (L.a rfl (L.nil (T.again ((i+1,x+1+num8 d.ss i % 5,v10,np2+1)) (by omega) ⟨rfl,rfl,rfl,rfl,rfl,rfl,rfl,rfl,rfl,trivial⟩ ⟨by omega,by show 0≤x+1+num8 d.ss i % 5;omega,by show x+1+num8 d.ss i % 5≤5*((i+1:Nat):Int);omega,hE11,by omega,hD11,hR11,hB11,?_,by show np2+1≤_;omega⟩)))))))))))))
   ·exact OwnA.upd ⟨_,hO10,fun c hc=>by rcases List.mem_append.1 hc with hc|hc;exact hone c hc;(simp at hc;rcases hc with (rfl|rfl) <;> rfl)⟩ hu11 hb5'
  ·refine L.nil (?_)
   have hd8:=hd.ext he8
   have hnb:=num8_le hd.sl (7+k)
   refine T.cf (T.exit rfl (T.region (L.m rfl (L.o (O.add64 rfl rfl (by (try dsimp only);omega) (L.o (O.fieldAddr runUnderlying56 rfl sizeOf54 rfl (L.o (O.load isAgg54 rfl (hD8.cell rfl) (L.m rfl (L.o (O.add64 rfl rfl (by (try dsimp only);omega) (?_)))))))))))))
   rw [show (7:Int)+(k:Int)=((7+k:Nat):Int) by omega]
   refine L.o (O.call (xs:=[.tmp 56,.tmp 58]) call125 rfl rfl (num8_calls lo d.sv d.ss (7+k) w8 hd8.s hd.sl (by omega)) (fun v9 w9 hq=>?_))
   obtain ⟨rfl,rfl⟩:=hq
   refine L.o (O.rem rfl rfl (by omega) (by omega) (L.o (O.add64 rfl rfl (by (try dsimp only);omega) (L.a rfl (L.nil (T.blk (T.region (L.m rfl (L.o (O.add64 rfl rfl (by (try dsimp only);omega) (L.a rfl (L.nil (T.again ((k+1,y+1+num8 d.ss (7+k) % 5,pv2,np2)) (by omega) ⟨rfl,rfl,rfl,rfl,rfl,rfl,rfl,trivial⟩ ⟨by omega,by show 0≤y+1+num8 d.ss (7+k) % 5;omega,by show y+1+num8 d.ss (7+k) % 5≤5*((k+1:Nat):Int);omega,he8,hz8,hD8,hR8,hC8,hP8,by show np2≤5*(k+1);omega⟩)))))))))))))
 ·refine L.nil (T.cf (T.exit rfl (T.seq (T.q (L.o (O.fieldAddr runUnderlying56 rfl sizeOf4 rfl (L.o (O.load isAgg4 rfl (hD7.cell rfl) (?_)))))))))
  have hz06:=he06.size
  rcases hho:d.ho with _|_
  ·refine L.nil (T.cf (T.skip (T.seq (T.q (L.a rfl (L.nil (T.block (?_))))))))
   refine T.loop (σ:=Nat × Value × Nat) (fun s=>[(1,.pointer (some ⟨b1,0,none⟩)),(2,.pointer (some ⟨b2,0,none⟩)),(3,.int .i64 Wn),(4,.int .i64 Hn),(5,.pointer (some ⟨b5,0,none⟩)),(10,.int .i64 s.1)]) (fun s w'=>s.1≤Hn∧Ext w w'∧w6.heap.size≤w'.heap.size∧Blk w' b1 (dcells d) 56∧Blk w' b2 [.slice none 0 0,.slice none 0 0] 46∧Blk w' b5 [pv,s.2.1] 46∧OwnA w6.heap.size 127 2 s.2.2 s.2.1 w'∧s.2.2≤8*s.1∧(0<s.1→1≤s.2.2)) (fun s=>Hn-s.1) ((0,.slice none 0 0,0)) ⟨rfl,rfl,rfl,rfl,rfl,rfl,trivial⟩ ⟨Nat.zero_le _,he7,hz7,hD7,hR7,hC7,OwnA.nil _ _ _ _,Nat.le_refl _,fun h=>absurd h (Nat.lt_irrefl _)⟩ ?_
   rintro ⟨k,fv,nf⟩ w8 ⟨hk8,he8,hz8,hD8,hR8,hC8,hF8,hn8,hp8⟩
   simp only at hk8 hC8 hF8 hn8 hp8
   refine T.seq (T.q (L.m rfl (L.m rfl (L.o (O.lss_s rfl rfl (fun hlk2=>?_) (fun hlk2=>?_))))))
   ·refine L.nil (?_)
    have hlk2':k<Hn:=by omega
    refine T.ct (T.skip (T.seq (T.block (T.q (L.a rfl (L.nil (T.block (?_))))))))
    refine T.loop (σ:=Nat × Value × Nat) (fun s=>[(1,.pointer (some ⟨b1,0,none⟩)),(2,.pointer (some ⟨b2,0,none⟩)),(3,.int .i64 Wn),(4,.int .i64 Hn),(5,.pointer (some ⟨b5,0,none⟩)),(10,.int .i64 k),(11,.int .i64 s.1)]) (fun s w'=>s.1≤Wn∧Ext w w'∧w6.heap.size≤w'.heap.size∧Blk w' b1 (dcells d) 56∧Blk w' b2 [.slice none 0 0,.slice none 0 0] 46∧Blk w' b5 [pv,s.2.1] 46∧OwnA w6.heap.size 127 2 s.2.2 s.2.1 w'∧s.2.2≤8*k+2*s.1∧(0<k∨0<s.1→1≤s.2.2)) (fun s=>Wn-s.1) ((0,fv,nf)) ⟨rfl,rfl,rfl,rfl,rfl,rfl,rfl,trivial⟩ ⟨Nat.zero_le _,he8,hz8,hD8,hR8,hC8,hF8,hn8,fun h=>hp8 (by rcases h with h|h;exact h;exact absurd h (Nat.lt_irrefl _))⟩ ?_
    rintro ⟨i,fv2,nf2⟩ w9 ⟨hi9,he9,hz9,hD9,hR9,hC9,hF9,hn9,hp9⟩
    simp only at hi9 hC9 hF9 hn9 hp9
    refine T.seq (T.q (L.m rfl (L.m rfl (L.o (O.lss_s rfl rfl (fun hli2=>?_) (fun hli2=>?_))))))
    ·refine L.nil (?_)
     have hli2':i<Wn:=by omega
     have hm:0≤(k:Int)*((Wn:Int)+1)∧(k:Int)*((Wn:Int)+1)≤15:=⟨Int.mul_nonneg (by omega) (by omega),Int.mul_le_mul (show (k:Int)≤3 by omega) (show (Wn:Int)+1≤5 by omega) (by omega) (by omega)⟩
     have hmk:(k:Int)*(Wn:Int)=((k*Wn:Nat):Int):=by simp
     have hm2:k*Wn≤12:=Nat.mul_le_mul (show k≤3 by omega) hW2n
     obtain ⟨xs,hO9,hone⟩:=hF9
     refine T.ct (T.skip (T.seq (?_)))
     refine T.join (σ:=Value × Nat) (fun s=>[(1,.pointer (some ⟨b1,0,none⟩)),(2,.pointer (some ⟨b2,0,none⟩)),(3,.int .i64 Wn),(4,.int .i64 Hn),(5,.pointer (some ⟨b5,0,none⟩)),(10,.int .i64 k),(11,.int .i64 i)]) (fun s w'=>Ext w w'∧w6.heap.size≤w'.heap.size∧Blk w' b1 (dcells d) 56∧Blk w' b2 [.slice none 0 0,.slice none 0 0] 46∧Blk w' b5 [pv,s.1] 46∧OwnA w6.heap.size 127 2 s.2 s.1 w'∧s.2≤8*k+2*(i+1)∧1≤s.2) ?_ ?_
     ·refine T.block (T.q (L.m rfl (L.m rfl (L.o (O.add64 rfl rfl (by (try dsimp only);omega) (L.o (O.mul64 rfl rfl (by (try dsimp only);omega) (L.m rfl (L.o (O.add64 rfl rfl (by (try dsimp only);omega) (L.a rfl (L.nil (T.q (L.m rfl (L.m rfl (L.o (O.add64 rfl rfl (by (try dsimp only);omega) (L.o (O.add64 rfl rfl (by (try dsimp only);omega) (L.a rfl (L.nil (T.q (L.o (O.fieldAddr runUnderlying56 rfl sizeOf54 rfl (L.o (O.load isAgg54 rfl (hD9.cell rfl) (L.m rfl (?_))))))))))))))))))))))))))))
      refine L.m rfl (L.o (O.mul64 rfl rfl (by (try dsimp only);omega) (L.m rfl (L.o (O.add64 rfl rfl (by (try dsimp only);omega) (L.o (O.call (xs:=[.tmp 107,.tmp 112]) call125 rfl rfl (num8_calls lo d.cv d.cs (k*Wn+i) w9 (hd.ext he9).c hd.cl (by omega)) (fun v10 w10 hq=>?_))))))))
      obtain ⟨rfl,rfl⟩:=hq
      have hnb:=num8_le hd.cl (k*Wn+i)
      refine L.o (O.rem rfl rfl (by omega) (by omega) (L.nil (T.block (T.q (L.o (O.eql_s rfl rfl (fun c0=>?_) (fun c0=>?_)))))))
      ·refine L.a rfl (L.nil (T.ct (T.region (L.o (O.fieldAddr runUnderlying46 rfl sizeOf44 rfl (L.o (O.load isAgg44 rfl (hC9.cell rfl) (L.m rfl (L.m rfl (L.o (O.add64 rfl rfl (by (try dsimp only);omega) (L.m rfl (L.o (O.add64 rfl rfl (by (try dsimp only);omega) (L.o (O.buildSlice (el:=3) (parts:=[(0,.tmp 132),(1,.tmp 134),(2,.tmp 136)]) (vs:=[(0,_),(1,_),(2,_)]) (cs:=[.int .i64 ((k:Int)*((Wn:Int)+1)+(i:Int)),.int .i64 ((k:Int)*((Wn:Int)+1)+(i:Int)+1),.int .i64 ((k:Int)*((Wn:Int)+1)+(i:Int)+(Wn:Int)+1+1)]) rfl (fun w=>by kernel_rfl) (fun b11 w11 hb11 hz11 he11 hB11=>?_)))))))))))))))))
       refine L.o (O.build (v:=.agg #[.slice (some ⟨b11,0,none⟩) 3 3,.slice none 0 0]) (parts:=[(0,.tmp 137)]) (vs:=[(0,_)]) rfl (fun w=>by kernel_rfl) (L.m rfl (L.m rfl (L.o (O.add64 rfl rfl (by (try dsimp only);omega) (L.m rfl (L.o (O.buildSlice (el:=3) (parts:=[(0,.tmp 139),(1,.tmp 141),(2,.tmp 142)]) (vs:=[(0,_),(1,_),(2,_)]) (cs:=[.int .i64 ((k:Int)*((Wn:Int)+1)+(i:Int)),.int .i64 ((k:Int)*((Wn:Int)+1)+(i:Int)+(Wn:Int)+1+1),.int .i64 ((k:Int)*((Wn:Int)+1)+(i:Int)+(Wn:Int)+1)]) rfl (fun w=>by kernel_rfl) (fun b12 w12 hb12 hz12 he12 hB12=>?_)))))))))
       refine L.o (O.build (v:=.agg #[.slice (some ⟨b12,0,none⟩) 3 3,.slice none 0 0]) (parts:=[(0,.tmp 143)]) (vs:=[(0,_)]) rfl (fun w=>by kernel_rfl) (L.o (O.buildSlice (el:=127) (parts:=[(0,.tmp 138),(1,.tmp 144)]) (vs:=[(0,_),(1,_)]) (cs:=[.slice (some ⟨b11,0,none⟩) 3 3,.slice none 0 0,.slice (some ⟨b12,0,none⟩) 3 3,.slice none 0 0]) rfl (fun w=>by kernel_rfl) (fun b13 w13 hb13 hz13 he13 hB13=>?_))))
       have heL:=((he11).trans he12).trans he13
       have hOL:=owns_keep hO9 heL (Nat.zero_le _)
       refine L.o (O.append (size:=2) (bytes:=48) runUnderlying44 Tryz.infoOf127 rfl rfl rfl rfl (by decide) rfl rfl hOL (Sl.of_blk (lo:=0) (n:=2) (sz:=2) hB13 rfl (Nat.le_refl _) (by decide) (Nat.zero_le _)) (by intro c hc;simp at hc;rcases hc with (rfl|rfl|rfl|rfl) <;> rfl) (by omega) (by simp only [maxLen];omega) (by have:=heL.size;omega) (fun v30 w30 hO30 hG30=>?_))
       have hne:∀ b',b'<w6.heap.size→∀ j,fv2.ownBlock=some j→j≠b':=fun b' hb' j hj=>by have:=(own_at hOL hj).1;omega
       have hv30:v30.oneCell'=true:=Sl.one (Sl.of_owns hO30)
       refine L.o (O.fieldAddr runUnderlying46 rfl sizeOf44 rfl (L.o (O.store1 sizeOf44 hv30 rfl rfl ((hC9.ext heL).grown hG30 (hne b5 hb5')) (by simp [Value.cells]) (fun w31 hu31 hB31=>?_))))
       replace hu31:Upd b5 w30 w31:=hu31
       have hE30:Ext w w30:=(he9.trans heL).grown0 hOL hG30 (by omega)
       refine L.nil (T.blk (T.blk (T.meet ((v30,nf2+2)) ⟨rfl,rfl,rfl,rfl,rfl,rfl,rfl,trivial⟩ ⟨hE30.upd hu31 (.inr (by omega)),by have:=heL.size;have:=hG30.size;have:=hu31.size;omega,((hD9.ext heL).grown hG30 (hne b1 (by omega))).upd hu31 (by omega),((hR9.ext heL).grown hG30 (hne b2 (by omega))).upd hu31 (by omega),hB31,OwnA.upd ⟨_,hO30,?_⟩ hu31 hb5',by show nf2+2≤_;omega,by show 1≤nf2+2;omega⟩)))
       ·intro c hc
        rcases List.mem_append.1 hc with hc|hc
        ·exact hone c hc
        ·simp at hc;rcases hc with (rfl|rfl|rfl|rfl) <;> rfl
      ·refine L.a rfl (L.nil (T.cf (T.q (L.o (O.eql_s rfl rfl (fun c1=>?_) (fun c1=>?_))))))
       ·refine L.a rfl (L.nil (T.ct (T.seq (T.q (L.o (O.fieldAddr runUnderlying46 rfl sizeOf44 rfl (L.o (O.load isAgg44 rfl (hC9.cell rfl) (L.o (O.len runUnderlying44 rfl (Sl.val (Sl.of_owns hO9)) (L.o (O.gtr_s rfl rfl (fun c2=>?_) (fun c2=>?_)))))))))))))
        ·refine L.nil (T.ct (T.exit rfl (T.meet ((fv2,nf2)) ⟨rfl,rfl,rfl,rfl,rfl,rfl,rfl,trivial⟩ ⟨he9,hz9,hD9,hR9,hC9,⟨xs,hO9,hone⟩,by show nf2≤_;omega,by show 1≤nf2;omega⟩)))
        ·refine L.nil (T.cf (T.skip (T.region (L.o (O.fieldAddr runUnderlying46 rfl sizeOf44 rfl (L.o (O.load isAgg44 rfl (hC9.cell rfl) (L.m rfl (L.o (O.add64 rfl rfl (by (try dsimp only);omega) (L.m rfl (L.m rfl (L.m rfl (L.o (O.add64 rfl rfl (by (try dsimp only);omega) (L.o (O.buildSlice (el:=3) (parts:=[(0,.tmp 157),(1,.tmp 158),(2,.tmp 159),(3,.tmp 161)]) (vs:=[(0,_),(1,_),(2,_),(3,_)]) (cs:=[.int .i64 ((k:Int)*((Wn:Int)+1)+(i:Int)+(Wn:Int)+1+1),.int .i64 ((k:Int)*((Wn:Int)+1)+(i:Int)+(Wn:Int)+1),.int .i64 ((k:Int)*((Wn:Int)+1)+(i:Int)),.int .i64 ((k:Int)*((Wn:Int)+1)+(i:Int)+1)]) rfl (fun w=>by kernel_rfl) (fun b11 w11 hb11 hz11 he11 hB11=>?_))))))))))))))))))
         refine L.o (O.build (v:=.agg #[.slice (some ⟨b11,0,none⟩) 4 4,.slice none 0 0]) (parts:=[(0,.tmp 162)]) (vs:=[(0,_)]) rfl (fun w=>by kernel_rfl) (L.o (O.buildSlice (el:=127) (parts:=[(0,.tmp 163)]) (vs:=[(0,_)]) (cs:=[.slice (some ⟨b11,0,none⟩) 4 4,.slice none 0 0]) rfl (fun w=>by kernel_rfl) (fun b12 w12 hb12 hz12 he12 hB12=>?_))))
         have heL:=(he11).trans he12
         have hOL:=owns_keep hO9 heL (Nat.zero_le _)
         refine L.o (O.append (size:=2) (bytes:=48) runUnderlying44 Tryz.infoOf127 rfl rfl rfl rfl (by decide) rfl rfl hOL (Sl.of_blk (lo:=0) (n:=1) (sz:=2) hB12 rfl (Nat.le_refl _) (by decide) (Nat.zero_le _)) (by intro c hc;simp at hc;rcases hc with (rfl|rfl) <;> rfl) (by omega) (by simp only [maxLen];omega) (by have:=heL.size;omega) (fun v30 w30 hO30 hG30=>?_))
         have hne:∀ b',b'<w6.heap.size→∀ j,fv2.ownBlock=some j→j≠b':=fun b' hb' j hj=>by have:=(own_at hOL hj).1;omega
         have hv30:v30.oneCell'=true:=Sl.one (Sl.of_owns hO30)
         refine L.o (O.fieldAddr runUnderlying46 rfl sizeOf44 rfl (L.o (O.store1 sizeOf44 hv30 rfl rfl ((hC9.ext heL).grown hG30 (hne b5 hb5')) (by simp [Value.cells]) (fun w31 hu31 hB31=>?_))))
         replace hu31:Upd b5 w30 w31:=hu31
         have hE30:Ext w w30:=(he9.trans heL).grown0 hOL hG30 (by omega)
         refine L.nil (T.blk (T.blk (T.meet ((v30,nf2+1)) ⟨rfl,rfl,rfl,rfl,rfl,rfl,rfl,trivial⟩ ⟨hE30.upd hu31 (.inr (by omega)),by have:=heL.size;have:=hG30.size;have:=hu31.size;omega,((hD9.ext heL).grown hG30 (hne b1 (by omega))).upd hu31 (by omega),((hR9.ext heL).grown hG30 (hne b2 (by omega))).upd hu31 (by omega),hB31,OwnA.upd ⟨_,hO30,?_⟩ hu31 hb5',by show nf2+1≤_;omega,by show 1≤nf2+1;omega⟩)))
         ·intro c hc
          rcases List.mem_append.1 hc with hc|hc
          ·exact hone c hc
          ·simp at hc;rcases hc with (rfl|rfl) <;> rfl
       ·refine L.a rfl (L.nil (T.cf (T.region (L.o (O.fieldAddr runUnderlying46 rfl sizeOf44 rfl (L.o (O.load isAgg44 rfl (hC9.cell rfl) (L.m rfl (L.m rfl (L.o (O.add64 rfl rfl (by (try dsimp only);omega) (L.m rfl (L.o (O.add64 rfl rfl (by (try dsimp only);omega) (L.m rfl (L.o (O.buildSlice (el:=3) (parts:=[(0,.tmp 117),(1,.tmp 119),(2,.tmp 121),(3,.tmp 122)]) (vs:=[(0,_),(1,_),(2,_),(3,_)]) (cs:=[.int .i64 ((k:Int)*((Wn:Int)+1)+(i:Int)),.int .i64 ((k:Int)*((Wn:Int)+1)+(i:Int)+1),.int .i64 ((k:Int)*((Wn:Int)+1)+(i:Int)+(Wn:Int)+1+1),.int .i64 ((k:Int)*((Wn:Int)+1)+(i:Int)+(Wn:Int)+1)]) rfl (fun w=>by kernel_rfl) (fun b11 w11 hb11 hz11 he11 hB11=>?_))))))))))))))))))
        refine L.o (O.build (v:=.agg #[.slice (some ⟨b11,0,none⟩) 4 4,.slice none 0 0]) (parts:=[(0,.tmp 123)]) (vs:=[(0,_)]) rfl (fun w=>by kernel_rfl) (L.o (O.buildSlice (el:=127) (parts:=[(0,.tmp 124)]) (vs:=[(0,_)]) (cs:=[.slice (some ⟨b11,0,none⟩) 4 4,.slice none 0 0]) rfl (fun w=>by kernel_rfl) (fun b12 w12 hb12 hz12 he12 hB12=>?_))))
        have heL:=(he11).trans he12
        have hOL:=owns_keep hO9 heL (Nat.zero_le _)
        refine L.o (O.append (size:=2) (bytes:=48) runUnderlying44 Tryz.infoOf127 rfl rfl rfl rfl (by decide) rfl rfl hOL (Sl.of_blk (lo:=0) (n:=1) (sz:=2) hB12 rfl (Nat.le_refl _) (by decide) (Nat.zero_le _)) (by intro c hc;simp at hc;rcases hc with (rfl|rfl) <;> rfl) (by omega) (by simp only [maxLen];omega) (by have:=heL.size;omega) (fun v30 w30 hO30 hG30=>?_))
        have hne:∀ b',b'<w6.heap.size→∀ j,fv2.ownBlock=some j→j≠b':=fun b' hb' j hj=>by have:=(own_at hOL hj).1;omega
        have hv30:v30.oneCell'=true:=Sl.one (Sl.of_owns hO30)
        refine L.o (O.fieldAddr runUnderlying46 rfl sizeOf44 rfl (L.o (O.store1 sizeOf44 hv30 rfl rfl ((hC9.ext heL).grown hG30 (hne b5 hb5')) (by simp [Value.cells]) (fun w31 hu31 hB31=>?_))))
        replace hu31:Upd b5 w30 w31:=hu31
        have hE30:Ext w w30:=(he9.trans heL).grown0 hOL hG30 (by omega)
        refine L.nil (T.blk (T.blk (T.meet ((v30,nf2+1)) ⟨rfl,rfl,rfl,rfl,rfl,rfl,rfl,trivial⟩ ⟨hE30.upd hu31 (.inr (by omega)),by have:=heL.size;have:=hG30.size;have:=hu31.size;omega,((hD9.ext heL).grown hG30 (hne b1 (by omega))).upd hu31 (by omega),((hR9.ext heL).grown hG30 (hne b2 (by omega))).upd hu31 (by omega),hB31,OwnA.upd ⟨_,hO30,?_⟩ hu31 hb5',by show nf2+1≤_;omega,by show 1≤nf2+1;omega⟩)))
        ·intro c hc
         rcases List.mem_append.1 hc with hc|hc
         ·exact hone c hc
         ·simp at hc;rcases hc with (rfl|rfl) <;> rfl
     rintro ⟨fv3,nf3⟩ w40 ⟨he40,hz40,hD40,hR40,hC40,hF40,hn40,hp40⟩
     refine T.region (L.m rfl (L.o (O.add64 rfl rfl (by (try dsimp only);omega) (L.a rfl (L.nil (T.again ((i+1,fv3,nf3)) (by omega) ⟨rfl,rfl,rfl,rfl,rfl,rfl,rfl,trivial⟩ ⟨by omega,he40,hz40,hD40,hR40,hC40,hF40,hn40,fun _=>hp40⟩))))))
    ·refine L.nil (T.cf (T.exit rfl (T.blk (T.region (L.m rfl (L.o (O.add64 rfl rfl (by omega) (L.a rfl (L.nil (T.again ((k+1,fv2,nf2)) (by omega) ⟨rfl,rfl,rfl,rfl,rfl,rfl,trivial⟩ ⟨by omega,he9,hz9,hD9,hR9,hC9,hF9,by show nf2≤8*(k+1);omega,fun _=>hp9 (by omega)⟩))))))))))
   ·refine L.nil (T.cf (T.exit rfl (T.q (L.o (O.loadAgg isAgg46 sizeOf46 rfl rfl hC8.row (?_))))))
    have hpv1:pv.oneCell'=true:=hP7.one
    refine L.o (O.storeAgg sizeOf46 rfl rfl rfl hR8 (Nat.le_refl _) (by intro u hu;simp at hu;rcases hu with (rfl|rfl);exact hpv1;exact hF8.one) (fun w16 hu16 hB16=>?_))
    replace hu16:Upd b2 w8 w16:=hu16
    have hR16:Blk w16 b2 [pv,fv] 46:=hB16
    refine L.nil (T.retA results69 isAgg46 sizeOf46 rfl rfl hR16.row ⟨he8.upd hu16 (.inr (by omega)),pv,fv,nf,rfl,?_,hp8 (by omega),by show nf≤24;omega,hpv1⟩)
    obtain ⟨xs,h1,h2⟩:=hF8.upd hu16 (by omega)
    refine ⟨xs,⟨h1.1,h1.2.imp id ?_⟩,h2⟩
    rintro ⟨g,c,cu,e1,e2,e3⟩
    exact ⟨g,c,cu,e1,by omega,e3⟩
  ·refine L.nil (T.ct (T.q (L.o (O.fieldAddr runUnderlying46 rfl sizeOf44 rfl (L.o (O.load isAgg44 rfl (hC7.cell rfl) (L.o (O.buildSlice (el:=3) (parts:=[(0,.const (.int .i64 0)),(1,.const (.int .i64 1)),(2,.const (.int .i64 2)),(3,.const (.int .i64 3)),(4,.const (.int .i64 7)),(5,.const (.int .i64 11)),(6,.const (.int .i64 15)),(7,.const (.int .i64 14)),(8,.const (.int .i64 13)),(9,.const (.int .i64 12)),(10,.const (.int .i64 8)),(11,.const (.int .i64 4))]) (vs:=[(0,_),(1,_),(2,_),(3,_),(4,_),(5,_),(6,_),(7,_),(8,_),(9,_),(10,_),(11,_)]) (cs:=[.int .i64 0,.int .i64 1,.int .i64 2,.int .i64 3,.int .i64 7,.int .i64 11,.int .i64 15,.int .i64 14,.int .i64 13,.int .i64 12,.int .i64 8,.int .i64 4]) rfl (fun w=>by kernel_rfl) (fun b8 w8 hb8 hz8 he8 hB8=>?_)))))))))
   refine L.o (O.buildSlice (el:=3) (parts:=[(0,.const (.int .i64 5)),(1,.const (.int .i64 9)),(2,.const (.int .i64 10)),(3,.const (.int .i64 6))]) (vs:=[(0,_),(1,_),(2,_),(3,_)]) (cs:=[.int .i64 5,.int .i64 9,.int .i64 10,.int .i64 6]) rfl (fun w=>by kernel_rfl) (fun b9 w9 hb9 hz9 he9 hB9=>?_))
   refine L.o (O.buildSlice (el:=30) (parts:=[(0,.tmp 67)]) (vs:=[(0,_)]) (cs:=[.slice (some ⟨b9,0,none⟩) 4 4]) rfl (fun w=>by kernel_rfl) (fun b10 w10 hb10 hz10 he10 hB10=>?_))
   refine L.o (O.build (v:=.agg #[.slice (some ⟨b8,0,none⟩) 12 12,.slice (some ⟨b10,0,none⟩) 1 1]) (parts:=[(0,.tmp 66),(1,.tmp 68)]) (vs:=[(0,_),(1,_)]) rfl (fun w=>by kernel_rfl) (L.o (O.buildSlice (el:=127) (parts:=[(0,.tmp 69)]) (vs:=[(0,_)]) (cs:=[.slice (some ⟨b8,0,none⟩) 12 12,.slice (some ⟨b10,0,none⟩) 1 1]) rfl (fun w=>by kernel_rfl) (fun b11 w11 hb11 hz11 he11 hB11=>?_))))
   have he711:=((he8.trans he9).trans he10).trans he11
   have hz711:=he711.size
   refine L.o (O.append (size:=2) (bytes:=48) runUnderlying44 Tryz.infoOf127 rfl rfl rfl rfl (by decide) rfl rfl (owns_nil w11 w6.heap.size 127 2) (Sl.of_blk (lo:=0) (n:=1) (sz:=2) hB11 rfl (Nat.le_refl _) (by decide) (Nat.zero_le _)) (by intro c hc;simp at hc;rcases hc with (rfl|rfl) <;> rfl) (by omega) (by simp only [maxLen];omega) (by omega) (fun v12 w12 hO12 hG12=>?_))
   have hE12:Ext w11 w12:=Keep.grown (Keep.refl _ _) hG12 (fun j hj=>by cases hj)
   have hv12:v12.oneCell'=true:=Sl.one (Sl.of_owns hO12)
   have he712:=he711.trans hE12
   refine L.o (O.fieldAddr runUnderlying46 rfl sizeOf44 rfl (L.o (O.store1 sizeOf44 hv12 rfl rfl (hC7.ext he712) (by simp [Value.cells]) (fun w13 hu13 hB13=>?_))))
   replace hu13:Upd b5 w12 w13:=hu13
   have hE13:Ext w w13:=(he7.trans he712).upd hu13 (.inr (by omega))
   have hD13:=(hD7.ext he712).upd hu13 (by omega)
   have hR13:=(hR7.ext he712).upd hu13 (by omega)
   have hF13:OwnA w6.heap.size 127 2 1 v12 w13:=OwnA.upd ⟨_,hO12,fun c hc=>by simp at hc;rcases hc with (rfl|rfl) <;> rfl⟩ hu13 hb5'
   have hC13:Blk w13 b5 [pv,v12] 46:=hB13
   have hnb:=num8_le hd.cl 0
   have hpv1:pv.oneCell'=true:=hP7.one
   refine L.nil (T.seq (?_))
   refine T.join (σ:=Value × Nat) (fun s=>[(2,.pointer (some ⟨b2,0,none⟩)),(5,.pointer (some ⟨b5,0,none⟩))]) (fun s w'=>Ext w w'∧Blk w' b2 [.slice none 0 0,.slice none 0 0] 46∧Blk w' b5 [pv,s.1] 46∧OwnA w6.heap.size 127 2 s.2 s.1 w'∧1≤s.2∧s.2≤2) ?_ ?_
   ·refine T.q (L.o (O.fieldAddr runUnderlying56 rfl sizeOf54 rfl (L.o (O.load isAgg54 rfl (hD13.cell rfl) (L.o (O.call (xs:=[.tmp 74,.const (.int .i64 0)]) call125 rfl rfl (num8_calls lo d.cv d.cs 0 w13 (hd.ext hE13).c hd.cl (by omega)) (fun v14 w14 hq=>?_)))))))
    obtain ⟨rfl,rfl⟩:=hq
    refine L.o (O.rem rfl rfl (by omega) (by omega) (L.o (O.eql_s rfl rfl (fun h2=>?_) (fun h2=>?_))))
    ·refine L.nil (T.ct (T.region (L.o (O.fieldAddr runUnderlying46 rfl sizeOf44 rfl (L.o (O.load isAgg44 rfl (hC13.cell rfl) (L.o (O.buildSlice (el:=3) (parts:=[(0,.const (.int .i64 5)),(1,.const (.int .i64 6)),(2,.const (.int .i64 10)),(3,.const (.int .i64 9))]) (vs:=[(0,_),(1,_),(2,_),(3,_)]) (cs:=[.int .i64 5,.int .i64 6,.int .i64 10,.int .i64 9]) rfl (fun w=>by kernel_rfl) (fun b15 w15 hb15 hz15 he15 hB15=>?_)))))))))
     refine L.o (O.build (v:=.agg #[.slice (some ⟨b15,0,none⟩) 4 4,.slice none 0 0]) (parts:=[(0,.tmp 80)]) (vs:=[(0,_)]) rfl (fun w=>by kernel_rfl) (L.o (O.buildSlice (el:=127) (parts:=[(0,.tmp 81)]) (vs:=[(0,_)]) (cs:=[.slice (some ⟨b15,0,none⟩) 4 4,.slice none 0 0]) rfl (fun w=>by kernel_rfl) (fun b16 w16 hb16 hz16 he16 hB16=>?_))))
     have he1316:=he15.trans he16
     have hO16:=owns_keep (w':=w16) (OwnA.upd ⟨_,hO12,fun c hc=>by simp at hc;rcases hc with (rfl|rfl) <;> rfl⟩ hu13 hb5').choose_spec.1 he1316 (Nat.zero_le _)
     refine L.o (O.append (size:=2) (bytes:=48) runUnderlying44 Tryz.infoOf127 rfl rfl rfl rfl (by decide) rfl rfl hO16 (Sl.of_blk (lo:=0) (n:=1) (sz:=2) hB16 rfl (Nat.le_refl _) (by decide) (Nat.zero_le _)) (by intro c hc;simp at hc;rcases hc with (rfl|rfl) <;> rfl) (by omega) (by simp only [maxLen];omega) (by have:=he1316.size;have:=hu13.size;have:=hE12.size;omega) (fun v17 w17 hO17 hG17=>?_))
     have hv17:v17.oneCell'=true:=Sl.one (Sl.of_owns hO17)
     have hne:∀ b',b'<w6.heap.size→∀ j,v12.ownBlock=some j→j≠b':=fun b' hb' j hj=>by have:=(own_at hO16 hj).1;omega
     refine L.o (O.fieldAddr runUnderlying46 rfl sizeOf44 rfl (L.o (O.store1 sizeOf44 hv17 rfl rfl ((hC13.ext he1316).grown hG17 (hne b5 hb5')) (by simp [Value.cells]) (fun w18 hu18 hB18=>?_))))
     replace hu18:Upd b5 w17 w18:=hu18
     have hE17:Ext w w17:=(hE13.trans he1316).grown0 hO16 hG17 (by omega)
     refine L.nil (T.meet ((v17,2)) ⟨rfl,rfl,trivial⟩ ⟨hE17.upd hu18 (.inr (by omega)),((hR13.ext he1316).grown hG17 (hne b2 (by omega))).upd hu18 (by omega),hB18,OwnA.upd ⟨_,hO17,?_⟩ hu18 hb5',by simp,by simp⟩)
     ·intro c hc
      rcases List.mem_append.1 hc with hc|hc
      ·exact (OwnA.upd ⟨_,hO12,fun c hc=>by simp at hc;rcases hc with (rfl|rfl) <;> rfl⟩ hu13 hb5').choose_spec.2 c hc
      ·simp at hc;rcases hc with (rfl|rfl) <;> rfl
    ·refine L.nil (T.cf (T.skip (T.meet ((v12,1)) ⟨rfl,rfl,trivial⟩ ⟨hE13,hR13,hC13,hF13,by simp,by simp⟩)))
   rintro ⟨fv,nf⟩ w15 ⟨hE15,hR15,hC15,hF15,hn1,hn2⟩
   refine T.q (L.o (O.loadAgg isAgg46 sizeOf46 rfl rfl hC15.row (L.o (O.storeAgg sizeOf46 rfl rfl rfl hR15 (Nat.le_refl _) (by intro u hu;simp at hu;rcases hu with (rfl|rfl);exact hpv1;exact hF15.one) (fun w16 hu16 hB16=>?_)))))
   replace hu16:Upd b2 w15 w16:=hu16
   have hR16:Blk w16 b2 [pv,fv] 46:=hB16
   refine L.nil (T.retA results69 isAgg46 sizeOf46 rfl rfl hR16.row ⟨hE15.upd hu16 (.inr (by omega)),pv,fv,nf,rfl,?_,hn1,by show nf≤24;omega,hpv1⟩)
   obtain ⟨xs,h1,h2⟩:=hF15.upd hu16 (by omega)
   refine ⟨xs,⟨h1.1,h1.2.imp id ?_⟩,h2⟩
   rintro ⟨g,c,cu,e1,e2,e3⟩
   exact ⟨g,c,cu,e1,by omega,e3⟩

open Go Go.E

theorem Loc.grown {q:Value} {w w1 w2:World} {row:Option Nat} (h:Loc q w w1) (k:w1.grownBy w2 row) (hb:∀ j,row=some j→w.heap.size≤j):Loc q w w2 :=
 ⟨k.os.trans h.os,k.tape.trans h.tape,k.output.trans h.output,Nat.le_trans h.size k.size,fun i hi hq=>(k.block i (Nat.lt_of_lt_of_le hi h.size) (fun e=>by have:=hb i e.symm;omega)).trans (h.block i hi hq)⟩
theorem OwnL.loc {base:Nat} {q v:Value} {w w':World} {xs:List Int} (h:OwnL base w v xs) (k:Loc q w w') (hn:∀ b,v.ownBlock=some b→q.ownBlock≠some b):OwnL base w' v xs:=owns_loc h k hn
theorem OwnL.mono {base base':Nat} {v:Value} {w:World} {xs:List Int} (h:OwnL base w v xs) (hb:base'≤base):OwnL base' w v xs:=by
 refine ⟨h.1,h.2.imp id ?_⟩
 rintro ⟨g,cap,cur,rfl,h4,rest⟩
 exact ⟨g,cap,cur,rfl,by omega,rest⟩
theorem OwnL.nil (base:Nat) (w:World):OwnL base w (.slice none 0 0) []:=owns_nil _ _ _ _
theorem OwnL.lt {base b:Nat} {v:Value} {w:World} {xs:List Int} (h:OwnL base w v xs) (hb:v.ownBlock=some b):base≤b∧b<w.heap.size:=own_at h hb
/-- The units of a draft. -/
def dWater (d:Dr) (n:Nat):Int:=d.wa % ((n / 3+1:Nat):Int)
def dWt (d:Dr) (n i:Nat):Bool:=decide ((n:Int)-dWater d n≤i)
def dP (d:Dr) (n i:Nat):Int:=if dWt d n i then 0 else numD d.ns i
def dG1 (d:Dr) (n i k:Nat):Int:=numD d.ns (3*i+k+1) % (dP d n i+1)
def dV1 (d:Dr) (n i k:Nat):Int:=if dWt d n i then 0 else numD d.ns (5*i+k+2)
def dL1 (d:Dr) (n i k:Nat):Int:=if dWt d n i then 0 else (((numD d.ns (i+11) % 16).toNat / 2 ^ k:Nat):Int)
def dList (f:Nat→Int) (k:Nat):List Int:=(List.range k).map f
theorem dList_succ (f:Nat→Int) (k:Nat):dList f (k+1)=dList f k ++ [f k]:=by simp [dList,List.range_succ]
theorem dList_len (f:Nat→Int) (k:Nat):(dList f k).length=k:=by simp [dList]
def dNm (i:Nat):Str:=[117]++dig2 i
structure DU (d:Dr) (G P L n i:Nat) (u:UnV):Prop where
 nm:u.nm=dNm i
 pp:u.pp=dP d n i
 gs:u.gs=dList (dG1 d n i) G
 vs:u.vs=dList (dV1 d n i) P
 ps:u.ps=dList (dL1 d n i) L
 wt:u.wt=dWt d n i
structure OwnUn (base:Nat) (w:World) (u:UnV):Prop where
 g:OwnL base w u.gv u.gs
 v:OwnL base w u.vv u.vs
 p:OwnL base w u.pv u.ps
 n:u.nm.length≤9223372036854775807
theorem OwnUn.ext {base:Nat} {w w':World} {u:UnV} (h:OwnUn base w u) (k:Ext w w'):OwnUn base w' u:=⟨h.g.ext k,h.v.ext k,h.p.ext k,h.n⟩
theorem OwnUn.mono {base base':Nat} {w:World} {u:UnV} (h:OwnUn base w u) (hb:base'≤base):OwnUn base' w u:=⟨h.g.mono hb,h.v.mono hb,h.p.mono hb,h.n⟩
theorem OwnUn.ok {base:Nat} {w:World} {u:UnV} (h:OwnUn base w u):u.ok base w:=⟨h.g.ints,h.v.ints,h.p.ints,h.n⟩
theorem OwnL.row {base base2 m n:Nat} {w w':World} {v q:Value} {ys:List Value} {xs:List Int} (h:OwnL base w q xs) (hr:w.ownsRow base2 51 6 v n ys) (hG:w.grownBy w' v.ownBlock):OwnL base w' q xs :=
 h.loc (q:=v) (Loc.of_grown hG) (fun b hb e=>by
  obtain ⟨_,cs,_,_,hB,_⟩:=(show OwnX base xs.length q w from ⟨xs,Nat.le_refl _,h⟩).blk hb
  exact row_ne hr e hB rfl)
structure SomeS (base b2 b4 b5:Nat) (d:Dr) (G P L:Int) (uv:Value) (us:List UnV) (W:World):Prop where
 d2:Blk W b2 d.cells 59
 c4:Blk W b4 zroll 25
 c5:Blk W b5 [.int .i64 G,.int .i64 P,.int .i64 L,uv] 25
 row:W.ownsRow base 51 6 uv us.length (ucells us)
 own:∀ u∈us,OwnUn base W u
theorem SomeS.ext {base b2 b4 b5:Nat} {d:Dr} {G P L:Int} {uv:Value} {us:List UnV} {W W':World} (h:SomeS base b2 b4 b5 d G P L uv us W) (k:Ext W W'):SomeS base b2 b4 b5 d G P L uv us W' :=
 ⟨h.d2.ext k,h.c4.ext k,h.c5.ext k,owns_keep h.row k (Nat.zero_le _),fun u hu=>(h.own u hu).ext k⟩
def SomePost (d:Dr) (n:Nat) (w:World) (v:Value) (w':World):Prop:=Ext w w'∧∃ r:RoV,v=r.val∧r.ok w.heap.size w'∧r.G=d.g % 3∧r.P=d.p % 4∧r.L=d.l % 4∧r.us.length=n∧∀ i,i<n→DU d (d.g % 3).toNat (d.p % 4).toNat (d.l % 4).toNat n i (r.us.getD i u0)
set_option maxHeartbeats 1000000 in
theorem Some_calls (lo n:Nat) (d:Dr) (w:World) (hd:d.ok lo w) (hn1:1≤n) (hn2:n≤24) :
  Calls Tryz.prog 70 #[d.val,.int .i64 n] w (Ret fun v w'=>SomePost d n w v w'):=by
 refine T.enter (vs:=[d.val,.int .i64 n]) func70 rfl ntmps70 rfl ?_
 refine T.q (L.o (O.box rfl (fun b2 w2 hb2 hz2 he2 hB2=>?_)))
 refine L.o (O.alloc zeroValue25 (fun b4 w4 hb4 hz4 he4 hB4=>?_))
 have he24:=he2.trans he4
 have hD4:Blk w4 b2 d.cells 59:=Blk.ext (cs:=d.cells) hB2 he4
 have hR4:Blk w4 b4 zroll 25:=hB4
 have hg0:=hd.g0
 have hp0:=hd.p0
 have hl0:=hd.l0
 have ha0:=hd.a0
 unfold Low8 at hg0 hp0 hl0 ha0
 refine L.nil (T.q (L.o (O.fieldAddr runUnderlying59 rfl sizeOf5 rfl (L.o (O.load isAgg5 rfl (hD4.cell rfl) (L.o (O.rem rfl rfl (by omega) (by omega) (L.o (O.conv_to rfl (fun w=>⟨_,runUnderlying5 w⟩) runUnderlying3 (IntWalk.i64_in _ ⟨by omega,by omega⟩) (L.o (O.fieldAddr runUnderlying59 rfl sizeOf5 rfl (L.o (O.load isAgg5 rfl (hD4.cell rfl) (L.o (O.rem rfl rfl (by omega) (by omega) (L.o (O.conv_to rfl (fun w=>⟨_,runUnderlying5 w⟩) runUnderlying3 (IntWalk.i64_in _ ⟨by omega,by omega⟩) (L.o (O.fieldAddr runUnderlying59 rfl sizeOf5 rfl (L.o (O.load isAgg5 rfl (hD4.cell rfl) (L.o (O.rem rfl rfl (by omega) (by omega) (L.o (O.conv_to rfl (fun w=>⟨_,runUnderlying5 w⟩) runUnderlying3 (IntWalk.i64_in _ ⟨by omega,by omega⟩) (L.o (O.build (v:=.agg #[.int .i64 (d.g % 3),.int .i64 (d.p % 4),.int .i64 (d.l % 4),.slice none 0 0]) (parts:=[(0,.tmp 18),(1,.tmp 22),(2,.tmp 26)]) (vs:=[(0,_),(1,_),(2,_)]) rfl (fun w=>by kernel_rfl) (L.o (O.alloc zeroValue25 (fun b5 w5 hb5 hz5 he5 hB5=>?_))))))))))))))))))))))))))))))
 refine L.o (O.storeAgg sizeOf25 rfl rfl rfl hB5 (Nat.le_refl _) (by intro u hu;simp at hu;rcases hu with (rfl|rfl|rfl|rfl) <;> rfl) (fun w6 hu6 hB6=>?_))
 replace hu6:Upd b5 w5 w6:=hu6
 have hC6:Blk w6 b5 [.int .i64 (d.g % 3),.int .i64 (d.p % 4),.int .i64 (d.l % 4),.slice none 0 0] 25:=hB6
 have hb2':=hD4.lt
 have hb4':=hR4.lt
 have hb5':=hC6.lt
 have hz04:=he24.size
 have hz5:=he5.size
 have hz6:=hu6.size
 have he46:Ext w4 w6:=he5.upd hu6 (.inr (by omega))
 have he06:Ext w w6:=he24.trans he46
 refine L.nil (T.q (L.o (O.fieldAddr runUnderlying59 rfl sizeOf5 rfl (L.o (O.load isAgg5 rfl ((hD4.ext he46).cell rfl) (L.o (O.conv_to rfl (fun w=>⟨_,runUnderlying5 w⟩) runUnderlying3 (IntWalk.i64_in _ ⟨by omega,by omega⟩) (L.m rfl (L.o (O.quo64 rfl rfl (by omega) (L.o (O.add64 rfl rfl (by omega) (?_)))))))))))))
 rw [show ((n:Int) / 3+1)=((n / 3+1:Nat):Int) by omega]
 refine L.o (O.rem rfl rfl (by omega) (by omega) (?_))
 obtain ⟨wt,hwt⟩:∃ wt,wt=dWater d n:=⟨_,rfl⟩
 have hwe:d.wa % ((n / 3+1:Nat):Int)=wt:=by rw [hwt];rfl
 rw [hwe]
 have hw0:0≤wt∧wt≤255:=by rw [← hwe];exact ⟨Int.emod_nonneg _ (by omega),by have:=Int.emod_lt_of_pos d.wa (show (0:Int)<((n / 3+1:Nat):Int) by omega);omega⟩
 refine L.a rfl (L.nil (T.seq (T.q (L.a rfl (L.nil (T.block (?_)))))))
 refine T.loop (σ:=Nat × Value × List UnV) (fun s=>[(1,.int .i64 n),(2,.pointer (some ⟨b2,0,none⟩)),(4,.pointer (some ⟨b4,0,none⟩)),(5,.pointer (some ⟨b5,0,none⟩)),(6,.int .i64 wt),(7,.int .i64 s.1)]) (fun s w'=>s.1≤n∧Ext w w'∧w6.heap.size≤w'.heap.size∧SomeS w6.heap.size b2 b4 b5 d (d.g % 3) (d.p % 4) (d.l % 4) s.2.1 s.2.2 w'∧s.2.2.length=s.1∧∀ j,j<s.1→DU d (d.g % 3).toNat (d.p % 4).toNat (d.l % 4).toNat n j (s.2.2.getD j u0)) (fun s=>n-s.1) ((0,.slice none 0 0,[])) ⟨rfl,rfl,rfl,rfl,rfl,rfl,trivial⟩ ⟨Nat.zero_le _,he06,Nat.le_refl _,⟨hD4.ext he46,hR4.ext he46,hC6,owns_nil _ _ _ _,fun _ h=>(by cases h)⟩,rfl,fun j hj=>absurd hj (Nat.not_lt_zero _)⟩ ?_
 rintro ⟨i,uv,us⟩ w7 ⟨hi,he7,hz7,hS7,hl7,hU7⟩
 simp only at hi hS7 hl7 hU7
 refine T.seq (T.q (L.m rfl (L.m rfl (L.o (O.lss_s rfl rfl (fun hlt=>?_) (fun hlt=>?_))))))
 ·refine L.nil (?_)
  have hlt':i<n:=by omega
  have hdig:=dig2_ints (n:=i) (by omega)
  refine T.ct (T.skip (T.seq (T.block (T.q (L.m rfl (L.o (O.quo64 rfl rfl (by (try dsimp only);omega) (L.o (O.conv_to rfl (fun w=>⟨_,runUnderlying3 w⟩) runUnderlying5 (IntWalk.u8_in _ ⟨by omega,by omega⟩) (L.o (O.add8 rfl rfl (by (try dsimp only);omega) (L.m rfl (L.o (O.rem rfl rfl (by omega) (by omega) (L.o (O.conv_to rfl (fun w=>⟨_,runUnderlying3 w⟩) runUnderlying5 (IntWalk.u8_in _ ⟨by omega,by omega⟩) (L.o (O.add8 rfl rfl (by (try dsimp only);omega) (L.o (O.buildSlice (el:=5) (parts:=[(0,.tmp 43),(1,.tmp 47)]) (vs:=[(0,_),(1,_)]) (cs:=[.int .u8 (48+(i:Int) / 10),.int .u8 (48+(i:Int) % 10)]) rfl (fun w=>by kernel_rfl) (fun b8 w8 hb8 hz8 he8 hB8=>?_)))))))))))))))))))))
  refine L.o (O.bytes_str runUnderlying54 runUnderlying5 runUnderlying9 rfl (show Ints .u8 0 w8 (.slice (some ⟨b8,0,none⟩) 2 2) ((dig2 i).map fun c=>(c.toNat:Int)) from by rw [hdig];exact Ints.of_blk hB8 rfl (by decide) (Nat.zero_le _)) (by simp [dig2]) (L.o (O.add_str rfl rfl (by simp [dig2]) (L.m rfl (L.m rfl (L.m rfl (L.o (O.sub64 rfl rfl (by omega) (L.o (O.geq rfl rfl (?_)))))))))))
  have hwt2:decide ((n:Int)-wt≤i)=dWt d n i:=by rw [hwt];rfl
  rw [hwt2]
  refine L.o (O.build (v:=.agg #[str (dNm i),.int .i64 0,.slice none 0 0,.slice none 0 0,.slice none 0 0,.bool (dWt d n i)]) (parts:=[(0,.tmp 50),(5,.tmp 55)]) (vs:=[(0,_),(5,_)]) rfl (fun w=>by kernel_rfl) (L.o (O.alloc zeroValue51 (fun b9 w9 hb9 hz9 he9 hB9=>?_))))
  refine L.o (O.storeAgg sizeOf51 rfl rfl rfl hB9 (Nat.le_refl _) (by intro u hu;simp at hu;rcases hu with (rfl|rfl|rfl|rfl|rfl|rfl) <;> rfl) (fun w10 hu10 hB10=>?_))
  replace hu10:Upd b9 w9 w10:=hu10
  have hB10':Blk w10 b9 [str (dNm i),.int .i64 0,.slice none 0 0,.slice none 0 0,.slice none 0 0,.bool (dWt d n i)] 51:=hB10
  have hz8:=he8.size
  have hz9:=he9.size
  have hz10:=hu10.size
  have hb9:b9=w8.heap.size:=hb9
  have he710:Ext w7 w10:=(he8.trans he9).upd hu10 (.inr (by omega))
  have hlb:∀ x,(Value.slice (some ⟨b9,0,none⟩) 0 0).ownBlock=some x→b9=x:=fun x hx=>Option.some.inj hx
  have hd10:=hd.ext (he7.trans he710)
  have hnd0:=numD_le hd.nl i
  refine L.nil (T.seq (?_))
  refine T.join (σ:=Unit) (fun _=>[(1,.int .i64 n),(2,.pointer (some ⟨b2,0,none⟩)),(4,.pointer (some ⟨b4,0,none⟩)),(5,.pointer (some ⟨b5,0,none⟩)),(6,.int .i64 wt),(7,.int .i64 i),(8,.pointer (some ⟨b9,0,none⟩))]) (fun _ w'=>Ext w7 w'∧Blk w' b9 [str (dNm i),.int .i64 (dP d n i),.slice none 0 0,.slice none 0 0,.slice none 0 0,.bool (dWt d n i)] 51) ?_ ?_
  ·refine T.q (L.o (O.fieldAddr runUnderlying51 rfl sizeOf4 rfl (L.o (O.load isAgg4 rfl (hB10'.cell rfl) (?_)))))
   rcases hwi:dWt d n i with _|_
   ·refine L.o (O.not rfl (L.nil (T.ct (T.region (L.o (O.loadAgg isAgg59 sizeOf59 rfl rfl ((hS7.d2.ext he710).row) (L.m rfl (L.o (O.call (xs:=[.tmp 60,.tmp 61]) call126 rfl rfl (numD_calls lo d i w10 hd10 (by omega)) (fun v12 w12 hq=>?_))))))))))
    obtain ⟨rfl,he12⟩:=hq
    rw [hwi] at hB10'
    refine L.o (O.fieldAddr runUnderlying51 rfl sizeOf3 rfl (L.o (O.store1 sizeOf3 rfl rfl rfl (hB10'.ext he12) (by simp [Value.cells]) (fun w13 hu13 hB13=>?_))))
    replace hu13:Upd b9 w12 w13:=hu13
    refine L.nil (T.meet (()) ⟨rfl,rfl,rfl,rfl,rfl,rfl,rfl,trivial⟩ ⟨(he710.trans he12).upd hu13 (.inr (by omega)),by rw [show dP d n i=numD d.ns i by rw [dP,hwi];rfl];exact hB13⟩)
   ·rw [hwi] at hB10'
    refine L.o (O.not rfl (L.nil (T.cf (T.skip (T.meet (()) ⟨rfl,rfl,rfl,rfl,rfl,rfl,rfl,trivial⟩ ⟨he710,by rw [show dP d n i=0 by rw [dP,hwi];rfl];exact hB10'⟩)))))
  rintro _ w11 ⟨he11,hB11⟩
  have hS11:=hS7.ext he11
  have hb9l:=hB11.lt
  have hdP:0≤dP d n i∧dP d n i≤65535:=by unfold dP;split <;> omega
  refine T.seq (T.q (L.a rfl (L.nil (T.block (?_)))))
  refine T.loop (σ:=Nat × Value) (fun s=>[(1,.int .i64 n),(2,.pointer (some ⟨b2,0,none⟩)),(4,.pointer (some ⟨b4,0,none⟩)),(5,.pointer (some ⟨b5,0,none⟩)),(6,.int .i64 wt),(7,.int .i64 i),(8,.pointer (some ⟨b9,0,none⟩)),(9,.int .i64 s.1)]) (fun s w'=>(s.1:Int)≤d.g % 3∧Loc (.slice (some ⟨b9,0,none⟩) 0 0) w11 w'∧Blk w' b9 [str (dNm i),.int .i64 (dP d n i),s.2,.slice none 0 0,.slice none 0 0,.bool (dWt d n i)] 51∧OwnL w11.heap.size w' s.2 (dList (dG1 d n i) s.1)) (fun s=>(d.g % 3).toNat-s.1) ((0,.slice none 0 0)) ⟨rfl,rfl,rfl,rfl,rfl,rfl,rfl,rfl,trivial⟩ ⟨by show ((0:Nat):Int)≤d.g % 3;omega,Loc.of_ext (Keep.refl _ _),hB11,OwnL.nil _ _⟩ ?_
  rintro ⟨k,gv⟩ w20 ⟨hk20,hl20,hB20,hO20⟩
  simp only at hk20 hB20 hO20
  have he20:Ext w7 w20:=hl20.keep he11 (fun x hx=>by have:=hlb x hx;omega)
  have hS20:=hS7.ext he20
  refine T.seq (T.q (L.m rfl (L.o (O.fieldAddr runUnderlying25 rfl sizeOf3 rfl (L.o (O.load isAgg3 rfl (hS20.c5.cell rfl) (L.o (O.lss_s rfl rfl (fun hlk20=>?_) (fun hlk20=>?_)))))))))
  ·refine L.nil (?_)
   have hd20:=hd.ext (he7.trans he20)
   have hnd:=numD_le hd.nl (3*i+k+1)
   refine T.ct (T.skip (T.seq (T.block (T.seq (?_)))))
   refine T.anyE mixed 10 [2,7,9,8] rfl [.is _,.is _,.is _,.is _,.is _,.is (.int .i64 ((3*i+k+1:Nat):Int)),.is _,.is _,.is _,.is _] [[],[],[1],[],[2,3],[4],[0,5],[],[7],[8]] [[],[],[1],[],[1,2,3],[1,2,3,4],[0,1,2,3,4,5],[],[7],[7,8],[0,1,2,3,4,5,6,7,8,9],[0,1,2,3,4,5,6,7,8,9,10]] (by kernel_rfl) (by kernel_rfl) rfl (by kernel_rfl) trivial ⟨fun wx hx=>Ob.o (O.loadAgg isAgg59 sizeOf59 rfl rfl ((hS20.d2.ext hx).row) kR),
     fun wx hx=>Ob.o (O.move rfl kR),
     fun wx hx=>Ob.o (O.mul64 rfl rfl (by (try dsimp only);omega) kR),
     fun wx hx=>Ob.o (O.move rfl kR),
     fun wx hx=>Ob.o (O.add64 rfl rfl (by (try dsimp only);omega) kR),
     fun wx hx=>Ob.o (O.add64 rfl rfl (by (try dsimp only);omega) ⟨Keep.refl _ _,by show Value.int .i64 (3*(i:Int)+(k:Int)+1)=_;rw [show 3*(i:Int)+(k:Int)+1=((3*i+k+1:Nat):Int) by omega]⟩),
     fun wx hx=>Ob.o (O.call (xs:=[.tmp 70,.tmp 75]) call126 rfl rfl (numD_calls lo d (3*i+k+1) wx (hd20.ext hx) (by omega)) (fun v wy h=>⟨h.2,h.1⟩)),
     fun wx hx=>Ob.o (O.fieldAddr runUnderlying51 rfl sizeOf3 rfl kR),
     fun wx hx=>Ob.o (O.load isAgg3 rfl ((hB20.ext hx).cell rfl) kR),
     fun wx hx=>Ob.o (O.add64 rfl rfl (by omega) kR),
     trivial⟩ (fun w21 he21=>?_)
   refine L.o (O.rem rfl rfl (by omega) (by omega) (?_))
   have he2021:=he21
   have hBx:=hB20.ext he21
   refine L.a rfl (L.nil (T.region (L.o (O.fieldAddr runUnderlying51 rfl sizeOf30 rfl (L.o (O.load isAgg30 rfl (hBx.cell rfl) (L.m rfl (L.o (O.buildSlice (el:=3) (parts:=[(0,.tmp 83)]) (vs:=[(0,_)]) (cs:=[.int .i64 (dG1 d n i k)]) rfl (fun w=>by kernel_rfl) (fun b23 w23 hb23 hz23 he23 hB23=>?_))))))))))
   have hOx:=(hO20.ext he21).ext he23
   have hlx:=(hl20.trans (Loc.of_ext he21)).trans (Loc.of_ext he23)
   have hlen:=dList_len (dG1 d n i) k
   refine L.o (O.append (size:=1) (bytes:=8) runUnderlying30 Tryz.infoOf3 rfl rfl rfl rfl (by decide) rfl rfl hOx (Sl.of_blk (lo:=0) (n:=1) (sz:=1) hB23 rfl (Nat.le_refl _) (by decide) (Nat.zero_le _)) (by intro c hc;simp at hc;simp [hc,Value.oneCell']) (by omega) (by simp only [maxLen];omega) (by have:=hlx.size;omega) (fun v24 w24 hO24 hG24=>?_))
   have hly:=hlx.grown hG24 (fun j hj=>(hOx.lt hj).1)
   have hzb:b9<w11.heap.size:=by have:=hB11.lt;omega
   have hvn:v24.oneCell'=true:=Sl.one (Sl.of_owns hO24)
   refine L.o (O.fieldAddr runUnderlying51 rfl sizeOf30 rfl (L.o (O.store1 sizeOf30 hvn rfl rfl ((hBx.ext he23).grown hG24 (fun j hj=>by have:=(hOx.lt hj).1;omega)) (by simp [Value.cells]) (fun w25 hu25 hB25=>?_))))
   replace hu25:Upd b9 w24 w25:=hu25
   refine L.nil (T.blk (T.region (L.m rfl (L.o (O.add64 rfl rfl (by omega) (L.a rfl (L.nil (T.again ((k+1,v24)) (by show (d.g % 3).toNat-(k+1)<(d.g % 3).toNat-k;omega) ⟨rfl,rfl,rfl,rfl,rfl,rfl,rfl,rfl,trivial⟩ ⟨by omega,hly.trans (Loc.of_upd hu25 rfl),hB25,?_⟩))))))))
   ·have hfin:OwnL w11.heap.size w24 v24 (dList (dG1 d n i) (k+1)):=by
     unfold OwnL;rw [dList_len,dList_succ,List.map_append];rw [hlen] at hO24;exact hO24
    exact hfin.loc (q:=.slice (some ⟨b9,0,none⟩) 0 0) (Loc.of_upd hu25 rfl) (fun x hx e=>by have:=hlb x e;have:=(hfin.lt hx).1;omega)
  ·refine L.nil (?_)
   have hke:k=(d.g % 3).toNat:=by omega
   rw [hke] at hO20
   have hz20:=hl20.size
   have hqgv:OwnL w11.heap.size w20 gv (dList (dG1 d n i) (d.g % 3).toNat):=hO20.mono (by omega)
   refine T.cf (T.exit rfl (T.seq (T.q (L.a rfl (L.nil (T.block (?_)))))))
   refine T.loop (σ:=Nat × Value) (fun s=>[(1,.int .i64 n),(2,.pointer (some ⟨b2,0,none⟩)),(4,.pointer (some ⟨b4,0,none⟩)),(5,.pointer (some ⟨b5,0,none⟩)),(6,.int .i64 wt),(7,.int .i64 i),(8,.pointer (some ⟨b9,0,none⟩)),(11,.int .i64 s.1)]) (fun s w'=>(s.1:Int)≤d.p % 4∧Loc (.slice (some ⟨b9,0,none⟩) 0 0) w20 w'∧Blk w' b9 [str (dNm i),.int .i64 (dP d n i),gv,s.2,.slice none 0 0,.bool (dWt d n i)] 51∧OwnL w20.heap.size w' s.2 (dList (dV1 d n i) s.1)) (fun s=>(d.p % 4).toNat-s.1) ((0,.slice none 0 0)) ⟨rfl,rfl,rfl,rfl,rfl,rfl,rfl,rfl,trivial⟩ ⟨by show ((0:Nat):Int)≤d.p % 4;omega,Loc.of_ext (Keep.refl _ _),hB20,OwnL.nil _ _⟩ ?_
   rintro ⟨k,vv⟩ w30 ⟨hk30,hl30,hB30,hO30⟩
   simp only at hk30 hB30 hO30
   have he30:Ext w7 w30:=hl30.keep he20 (fun x hx=>by have:=hlb x hx;omega)
   have hS30:=hS7.ext he30
   refine T.seq (T.q (L.m rfl (L.o (O.fieldAddr runUnderlying25 rfl sizeOf3 rfl (L.o (O.load isAgg3 rfl (hS30.c5.cell rfl) (L.o (O.lss_s rfl rfl (fun hlk30=>?_) (fun hlk30=>?_)))))))))
   ·refine L.nil (T.ct (T.skip (T.seq (T.block (T.q (L.a rfl (L.nil (T.seq (?_)))))))))
    refine T.join (σ:=Unit) (fun _=>[(1,.int .i64 n),(2,.pointer (some ⟨b2,0,none⟩)),(4,.pointer (some ⟨b4,0,none⟩)),(5,.pointer (some ⟨b5,0,none⟩)),(6,.int .i64 wt),(7,.int .i64 i),(8,.pointer (some ⟨b9,0,none⟩)),(11,.int .i64 k),(12,.int .i64 (dV1 d n i k))]) (fun _ w'=>Ext w30 w') ?_ ?_
    ·refine T.q (L.o (O.fieldAddr runUnderlying51 rfl sizeOf4 rfl (L.o (O.load isAgg4 rfl (hB30.cell rfl) (?_)))))
     rcases hwi:dWt d n i with _|_
     ·have hdq:=hd.ext (he7.trans he30)
      refine L.o (O.not rfl (L.nil (T.ct (T.region (L.o (O.loadAgg isAgg59 sizeOf59 rfl rfl hS30.d2.row (L.m rfl (L.o (O.mul64 rfl rfl (by (try dsimp only);omega) (L.m rfl (L.o (O.add64 rfl rfl (by (try dsimp only);omega) (L.o (O.add64 rfl rfl (by (try dsimp only);omega) (L.o (O.call (xs:=[.tmp 96,.tmp 101]) call126 rfl rfl (numD_calls lo d (5*i+k+2) w30 hdq (by omega)) (fun v32 w32 hq=>?_)))))))))))))))))
      obtain ⟨rfl,he32⟩:=hq
      refine L.a rfl (L.nil (T.meet (()) ⟨rfl,rfl,rfl,rfl,rfl,rfl,rfl,rfl,?_,trivial⟩ he32))
      ·rw [dV1,hwi];rfl
     ·refine L.o (O.not rfl (L.nil (T.cf (T.skip (T.meet (()) ⟨rfl,rfl,rfl,rfl,rfl,rfl,rfl,rfl,?_,trivial⟩ (Keep.refl _ _))))))
      ·rw [dV1,hwi];rfl
    rintro _ w31 he31
    have hBx:=hB30.ext he31
    refine T.region (L.o (O.fieldAddr runUnderlying51 rfl sizeOf30 rfl (L.o (O.load isAgg30 rfl (hBx.cell rfl) (L.m rfl (L.o (O.buildSlice (el:=3) (parts:=[(0,.tmp 105)]) (vs:=[(0,_)]) (cs:=[.int .i64 (dV1 d n i k)]) rfl (fun w=>by kernel_rfl) (fun b33 w33 hb33 hz33 he33 hB33=>?_))))))))
    have hOx:=(hO30.ext he31).ext he33
    have hlx:=(hl30.trans (Loc.of_ext he31)).trans (Loc.of_ext he33)
    have hlen:=dList_len (dV1 d n i) k
    refine L.o (O.append (size:=1) (bytes:=8) runUnderlying30 Tryz.infoOf3 rfl rfl rfl rfl (by decide) rfl rfl hOx (Sl.of_blk (lo:=0) (n:=1) (sz:=1) hB33 rfl (Nat.le_refl _) (by decide) (Nat.zero_le _)) (by intro c hc;simp at hc;simp [hc,Value.oneCell']) (by omega) (by simp only [maxLen];omega) (by have:=hlx.size;omega) (fun v34 w34 hO34 hG34=>?_))
    have hly:=hlx.grown hG34 (fun j hj=>(hOx.lt hj).1)
    have hzb:b9<w20.heap.size:=by have:=hB20.lt;omega
    have hvn:v34.oneCell'=true:=Sl.one (Sl.of_owns hO34)
    refine L.o (O.fieldAddr runUnderlying51 rfl sizeOf30 rfl (L.o (O.store1 sizeOf30 hvn rfl rfl ((hBx.ext he33).grown hG34 (fun j hj=>by have:=(hOx.lt hj).1;omega)) (by simp [Value.cells]) (fun w35 hu35 hB35=>?_))))
    replace hu35:Upd b9 w34 w35:=hu35
    refine L.nil (T.blk (T.region (L.m rfl (L.o (O.add64 rfl rfl (by omega) (L.a rfl (L.nil (T.again ((k+1,v34)) (by show (d.p % 4).toNat-(k+1)<(d.p % 4).toNat-k;omega) ⟨rfl,rfl,rfl,rfl,rfl,rfl,rfl,rfl,trivial⟩ ⟨by omega,hly.trans (Loc.of_upd hu35 rfl),hB35,?_⟩))))))))
    ·have hfin:OwnL w20.heap.size w34 v34 (dList (dV1 d n i) (k+1)):=by
      unfold OwnL;rw [dList_len,dList_succ,List.map_append];rw [hlen] at hO34;exact hO34
     exact hfin.loc (q:=.slice (some ⟨b9,0,none⟩) 0 0) (Loc.of_upd hu35 rfl) (fun x hx e=>by have:=hlb x e;have:=(hfin.lt hx).1;omega)
   ·refine L.nil (?_)
    have hke:k=(d.p % 4).toNat:=by omega
    rw [hke] at hO30
    have hqgv:=hqgv.loc hl30 (fun x hx e=>by have:=hlb x e;have:=(hqgv.lt hx).1;omega)
    have hz30:=hl30.size
    have hqvv:OwnL w11.heap.size w30 vv (dList (dV1 d n i) (d.p % 4).toNat):=hO30.mono (by omega)
    refine T.cf (T.exit rfl (T.seq (T.q (L.a rfl (L.nil (T.block (?_)))))))
    refine T.loop (σ:=Nat × Value) (fun s=>[(1,.int .i64 n),(2,.pointer (some ⟨b2,0,none⟩)),(4,.pointer (some ⟨b4,0,none⟩)),(5,.pointer (some ⟨b5,0,none⟩)),(6,.int .i64 wt),(7,.int .i64 i),(8,.pointer (some ⟨b9,0,none⟩)),(13,.int .i64 s.1)]) (fun s w'=>(s.1:Int)≤d.l % 4∧Loc (.slice (some ⟨b9,0,none⟩) 0 0) w30 w'∧Blk w' b9 [str (dNm i),.int .i64 (dP d n i),gv,vv,s.2,.bool (dWt d n i)] 51∧OwnL w30.heap.size w' s.2 (dList (dL1 d n i) s.1)) (fun s=>(d.l % 4).toNat-s.1) ((0,.slice none 0 0)) ⟨rfl,rfl,rfl,rfl,rfl,rfl,rfl,rfl,trivial⟩ ⟨by show ((0:Nat):Int)≤d.l % 4;omega,Loc.of_ext (Keep.refl _ _),hB30,OwnL.nil _ _⟩ ?_
    rintro ⟨k,pv⟩ w40 ⟨hk40,hl40,hB40,hO40⟩
    simp only at hk40 hB40 hO40
    have he40:Ext w7 w40:=hl40.keep he30 (fun x hx=>by have:=hlb x hx;omega)
    have hS40:=hS7.ext he40
    refine T.seq (T.q (L.m rfl (L.o (O.fieldAddr runUnderlying25 rfl sizeOf3 rfl (L.o (O.load isAgg3 rfl (hS40.c5.cell rfl) (L.o (O.lss_s rfl rfl (fun hlk40=>?_) (fun hlk40=>?_)))))))))
    ·refine L.nil (T.ct (T.skip (T.seq (T.block (T.q (L.a rfl (L.nil (T.seq (?_)))))))))
     refine T.join (σ:=Unit) (fun _=>[(1,.int .i64 n),(2,.pointer (some ⟨b2,0,none⟩)),(4,.pointer (some ⟨b4,0,none⟩)),(5,.pointer (some ⟨b5,0,none⟩)),(6,.int .i64 wt),(7,.int .i64 i),(8,.pointer (some ⟨b9,0,none⟩)),(13,.int .i64 k),(14,.int .i64 (dL1 d n i k))]) (fun _ w'=>Ext w40 w') ?_ ?_
     ·refine T.q (L.o (O.fieldAddr runUnderlying51 rfl sizeOf4 rfl (L.o (O.load isAgg4 rfl (hB40.cell rfl) (?_)))))
      rcases hwi:dWt d n i with _|_
      ·have hdq:=hd.ext (he7.trans he40)
       refine L.o (O.not rfl (L.nil (T.ct (T.region (L.o (O.loadAgg isAgg59 sizeOf59 rfl rfl hS40.d2.row (L.m rfl (L.o (O.add64 rfl rfl (by (try dsimp only);omega) (L.o (O.call (xs:=[.tmp 118,.tmp 120]) call126 rfl rfl (numD_calls lo d (i+11) w40 hdq (by omega)) (fun v42 w42 hq=>?_))))))))))))
       obtain ⟨rfl,he42⟩:=hq
       have hnp:=numD_le hd.nl (i+11)
       refine L.o (O.rem rfl rfl (by omega) (by omega) (?_))
       obtain ⟨c16,hc16⟩:∃ c16:Nat,numD d.ns (i+11) % 16=c16:=⟨(numD d.ns (i+11) % 16).toNat,by omega⟩
       rw [hc16]
       refine L.m rfl (L.o (O.conv_to rfl (fun w=>⟨_,runUnderlying3 w⟩) runUnderlying114 (IntWalk.u64_in _ ⟨by omega,by omega⟩) (L.o (O.shr_i64 rfl rfl (by omega) (L.a rfl (L.nil (T.meet (()) ⟨rfl,rfl,rfl,rfl,rfl,rfl,rfl,rfl,?_,trivial⟩ he42)))))))
       ·rw [dL1,hwi,hc16];rfl
      ·refine L.o (O.not rfl (L.nil (T.cf (T.skip (T.meet (()) ⟨rfl,rfl,rfl,rfl,rfl,rfl,rfl,rfl,?_,trivial⟩ (Keep.refl _ _))))))
       ·rw [dL1,hwi];rfl
     rintro _ w41 he41
     have hBx:=hB40.ext he41
     refine T.region (L.o (O.fieldAddr runUnderlying51 rfl sizeOf30 rfl (L.o (O.load isAgg30 rfl (hBx.cell rfl) (L.m rfl (L.o (O.buildSlice (el:=3) (parts:=[(0,.tmp 128)]) (vs:=[(0,_)]) (cs:=[.int .i64 (dL1 d n i k)]) rfl (fun w=>by kernel_rfl) (fun b43 w43 hb43 hz43 he43 hB43=>?_))))))))
     have hOx:=(hO40.ext he41).ext he43
     have hlx:=(hl40.trans (Loc.of_ext he41)).trans (Loc.of_ext he43)
     have hlen:=dList_len (dL1 d n i) k
     refine L.o (O.append (size:=1) (bytes:=8) runUnderlying30 Tryz.infoOf3 rfl rfl rfl rfl (by decide) rfl rfl hOx (Sl.of_blk (lo:=0) (n:=1) (sz:=1) hB43 rfl (Nat.le_refl _) (by decide) (Nat.zero_le _)) (by intro c hc;simp at hc;simp [hc,Value.oneCell']) (by omega) (by simp only [maxLen];omega) (by have:=hlx.size;omega) (fun v44 w44 hO44 hG44=>?_))
     have hly:=hlx.grown hG44 (fun j hj=>(hOx.lt hj).1)
     have hzb:b9<w30.heap.size:=by have:=hB30.lt;omega
     have hvn:v44.oneCell'=true:=Sl.one (Sl.of_owns hO44)
     refine L.o (O.fieldAddr runUnderlying51 rfl sizeOf30 rfl (L.o (O.store1 sizeOf30 hvn rfl rfl ((hBx.ext he43).grown hG44 (fun j hj=>by have:=(hOx.lt hj).1;omega)) (by simp [Value.cells]) (fun w45 hu45 hB45=>?_))))
     replace hu45:Upd b9 w44 w45:=hu45
     refine L.nil (T.blk (T.region (L.m rfl (L.o (O.add64 rfl rfl (by omega) (L.a rfl (L.nil (T.again ((k+1,v44)) (by show (d.l % 4).toNat-(k+1)<(d.l % 4).toNat-k;omega) ⟨rfl,rfl,rfl,rfl,rfl,rfl,rfl,rfl,trivial⟩ ⟨by omega,hly.trans (Loc.of_upd hu45 rfl),hB45,?_⟩))))))))
     ·have hfin:OwnL w30.heap.size w44 v44 (dList (dL1 d n i) (k+1)):=by
       unfold OwnL;rw [dList_len,dList_succ,List.map_append];rw [hlen] at hO44;exact hO44
      exact hfin.loc (q:=.slice (some ⟨b9,0,none⟩) 0 0) (Loc.of_upd hu45 rfl) (fun x hx e=>by have:=hlb x e;have:=(hfin.lt hx).1;omega)
    ·refine L.nil (?_)
     have hke:k=(d.l % 4).toNat:=by omega
     rw [hke] at hO40
     have hqgv:=hqgv.loc hl40 (fun x hx e=>by have:=hlb x e;have:=(hqgv.lt hx).1;omega)
     have hqvv:=hqvv.loc hl40 (fun x hx e=>by have:=hlb x e;have:=(hqvv.lt hx).1;omega)
     have hz40:=hl40.size
     have hqpv:OwnL w11.heap.size w40 pv (dList (dL1 d n i) (d.l % 4).toNat):=hO40.mono (by omega)
     obtain ⟨u,hu⟩:∃ u:UnV,u=⟨dNm i,dP d n i,gv,dList (dG1 d n i) (d.g % 3).toNat,vv,dList (dV1 d n i) (d.p % 4).toNat,pv,dList (dL1 d n i) (d.l % 4).toNat,dWt d n i⟩:=⟨_,rfl⟩
     have hBu:Blk w40 b9 u.cells 51:=by rw [hu];exact hB40
     have hown:OwnUn w11.heap.size w40 u:=by rw [hu];exact ⟨hqgv,hqvv,hqpv,by show (dNm i).length≤_;simp [dNm,dig2]⟩
     refine T.cf (T.exit rfl (T.region (L.o (O.fieldAddr runUnderlying25 rfl sizeOf23 rfl (L.o (O.load isAgg23 rfl (hS40.c5.cell rfl) (L.o (O.loadAgg isAgg51 sizeOf51 rfl rfl hBu.row (L.o (O.buildSlice (el:=51) (parts:=[(0,.tmp 134)]) (vs:=[(0,_)]) (cs:=u.cells) rfl (fun w=>by kernel_rfl) (fun b60 w60 hb60 hz60 he60 hB60=>?_)))))))))))
     have hS60:=hS40.ext he60
     have hown60:=hown.ext he60
     refine L.o (O.append (size:=6) (bytes:=104) runUnderlying23 Tryz.infoOf51 rfl rfl rfl rfl (by decide) rfl rfl hS60.row (Sl.of_blk (lo:=0) (n:=1) (sz:=6) hB60 rfl (Nat.le_refl _) (by decide) (Nat.zero_le _)) (hown60.ok.one) (by omega) (by simp only [maxLen];omega) (by have:=he40.size;have:=he60.size;omega) (fun v61 w61 hO61 hG61=>?_))
     have hne:∀ b',b'<w6.heap.size→∀ j,uv.ownBlock=some j→j≠b':=fun b' hb' j hj=>by have:=(own_at hS60.row hj).1;omega
     have hvn:v61.oneCell'=true:=Sl.one (Sl.of_owns hO61)
     have hE60:Ext w w60:=(he7.trans he40).trans he60
     have hE61:Ext w w61:=hE60.grown0 hS60.row hG61 (by have:=he06.size;omega)
     refine L.o (O.fieldAddr runUnderlying25 rfl sizeOf23 rfl (L.o (O.store1 sizeOf23 hvn rfl rfl (hS60.c5.grown hG61 (hne b5 hb5')) (by simp [Value.cells]) (fun w62 hu62 hB62=>?_))))
     replace hu62:Upd b5 w61 w62:=hu62
     have hl62:Loc (.slice (some ⟨b5,0,none⟩) 0 0) w61 w62:=Loc.of_upd hu62 rfl
     have hnb5:∀ {base:Nat} {v:Value} {xs:List Int},w6.heap.size≤base→OwnL base w61 v xs→∀ b,v.ownBlock=some b→(Value.slice (some ⟨b5,0,none⟩) 0 0).ownBlock≠some b:=fun hb h b h1 e=>by have e':b5=b:=Option.some.inj e;have:=(h.lt h1).1;omega
     have hz11:=he11.size
     have mv:∀ x,OwnUn w6.heap.size w60 x→OwnUn w6.heap.size w62 x:=fun x hx=>⟨(hx.g.row hS60.row hG61 (m:=0)).loc hl62 (hnb5 (Nat.le_refl _) (hx.g.row hS60.row hG61 (m:=0))),(hx.v.row hS60.row hG61 (m:=0)).loc hl62 (hnb5 (Nat.le_refl _) (hx.v.row hS60.row hG61 (m:=0))),(hx.p.row hS60.row hG61 (m:=0)).loc hl62 (hnb5 (Nat.le_refl _) (hx.p.row hS60.row hG61 (m:=0))),hx.n⟩
     refine L.nil (T.blk (T.region (L.m rfl (L.o (O.add64 rfl rfl (by omega) (L.a rfl (L.nil (T.again ((i+1,v61,us ++ [u])) (by omega) ⟨rfl,rfl,rfl,rfl,rfl,rfl,trivial⟩ ⟨by omega,hE61.upd hu62 (.inr (by omega)),?_,⟨(hS60.d2.grown hG61 (hne b2 (by omega))).upd hu62 (by omega),(hS60.c4.grown hG61 (hne b4 (by omega))).upd hu62 (by omega),hB62,?_,fun x hx=>?_⟩,by simp [hl7],fun j hj=>?_⟩))))))))
     ·have:=he40.size
      have:=he60.size
      have:=hG61.size
      have:=hu62.size
      omega
     ·rw [List.length_append,List.length_singleton,ucells_append,ucells_one];exact owns_upd hO61 hu62 hb5'
     ·rcases List.mem_append.1 hx with hx|hx
      ·exact mv x (hS60.own x hx)
      ·rw [List.mem_singleton.1 hx];exact mv u (hown60.mono (by omega))
     ·by_cases e:j=i
      ·subst e
       rw [show (us ++ [u]).getD j u0=u by rw [getD_get (by simp;omega)];simp [hl7]]
       rw [hu];exact ⟨rfl,rfl,rfl,rfl,rfl,rfl⟩
      ·rw [show (us ++ [u]).getD j u0=us.getD j u0 by rw [getD_get (by simp;omega),getD_get (by omega)];simp [show j<us.length by omega]]
       exact hU7 j (by omega)
 ·refine L.nil (?_)
  obtain rfl:i=n:=by omega
  refine T.cf (T.exit rfl (T.q (L.o (O.loadAgg isAgg25 sizeOf25 rfl rfl hS7.c5.row (?_)))))
  have huv1:uv.oneCell'=true:=Sl.one (Sl.of_owns hS7.row)
  refine L.o (O.storeAgg sizeOf25 rfl rfl rfl hS7.c4 (Nat.le_refl _) (by intro u hu;simp at hu;rcases hu with (rfl|rfl|rfl|rfl);rfl;rfl;rfl;exact huv1) (fun w8 hu8 hB8=>?_))
  have hR8:Blk w8 b4 [.int .i64 (d.g % 3),.int .i64 (d.p % 4),.int .i64 (d.l % 4),uv] 25:=hB8
  replace hu8:Upd b4 w7 w8:=hu8
  have hrow8:=owns_upd hS7.row hu8 (by omega)
  refine L.nil (T.retA results70 isAgg25 sizeOf25 rfl rfl hR8.row ⟨he7.upd hu8 (.inr (by omega)),⟨d.g % 3,d.p % 4,d.l % 4,uv,us⟩,rfl,⟨(Sl.of_owns hrow8).mono (by omega),fun u hu=>?_⟩,rfl,rfl,rfl,hl7,hU7⟩)
  have hloc:Loc (.slice (some ⟨b4,0,none⟩) 0 0) w7 w8:=Loc.of_upd hu8 rfl
  have ho:=hS7.own u hu
  have key:∀ {v:Value} {xs:List Int},OwnL w6.heap.size w7 v xs→∀ b,v.ownBlock=some b→(Value.slice (some ⟨b4,0,none⟩) 0 0).ownBlock≠some b:=fun h b hb e=>by have e':b4=b:=Option.some.inj e;have:=(h.lt hb).1;omega
  exact (show OwnUn w6.heap.size w8 u from ⟨ho.g.loc hloc (key ho.g),ho.v.loc hloc (key ho.v),ho.p.loc hloc (key ho.p),ho.n⟩).ok.mono (by omega)

open Go Go.E

theorem O.fieldAgg {C:Cx} {e:Env} {w:World} {K:Value→World→Prop} {d:Option Tmp} {ty:TypeId} {pos:String} {aft:Array Edge} {g:Option (Nat × Bool)} {x:Operand} {t:TypeId} {cs vs:List Value} {fs:Array Field} {i n:Nat} {f:Field} (hu:∀ w,(underlying t).run C.P w = .ok (.struct fs) w) (hf:fs[i]?=some f) (hg:∀ w,(isAgg f.type).run C.P w = .ok true w) (hs:∀ w,(sizeOf f.type).run C.P w = .ok n w)
  (hx:ev e x=some (.agg cs.toArray)) (hv:(cs.drop f.offset).take n=vs) (h:K (.agg vs.toArray) w):O C e ⟨d,.field t x i,ty,pos,aft,g⟩ w K:=by
 have e1:cs.toArray.extract f.offset (f.offset+n)=vs.toArray:=by
  rw [List.extract_toArray,List.extract_eq_take_drop,Nat.add_sub_cancel_left,hv]
 exact O.of_run (by simp) (fun a ha=>by simp [execOp,Instr.field,ha.eval hx,hu w,hf,asAgg,Go.part,hg w,hs w,hv]) h
structure Drafted (d:Dr) (n:Nat) (r:RoV):Prop where
 n1:1≤n
 n2:n≤24
 g:r.G=d.g % 3
 p:r.P=d.p % 4
 l:r.L=d.l % 4
 len:r.us.length=n
 u:∀ i,i<n→DU d (d.g % 3).toNat (d.p % 4).toNat (d.l % 4).toNat n i (r.us.getD i u0)
def SomeV (d:Dr) (n base:Nat) (v:Value) (w:World):Prop:=∃ r:RoV,v=r.val∧r.ok base w∧Drafted d n r
theorem SomeV.st {d:Dr} {n base:Nat} : ∀ v w w',Ext w w'→SomeV d n base v w→SomeV d n base v w':=fun _ _ _ he ⟨r,h1,h2,h3⟩=>⟨r,h1,h2.ext he,h3⟩
theorem RoV.ok.mono {lo lo':Nat} {w:World} {r:RoV} (h:r.ok lo w) (hl:lo'≤lo):r.ok lo' w:=Units.mono h hl
def LandPost (d:Dr) (w:World) (v:Value) (w':World):Prop:=Ext w w'∧∃ pv fv n,∃ r:RoV,v = .agg #[pv,fv,.int .i64 r.G,.int .i64 r.P,.int .i64 r.L,r.uv]∧r.ok w.heap.size w'∧Drafted d n r
theorem RoV.ok.one {lo:Nat} {w:World} {r:RoV} (h:r.ok lo w):r.uv.oneCell'=true:=Sl.one h.sl
theorem RoV.ok.loc {lo b:Nat} {w w':World} {r:RoV} (h:r.ok lo w) (hu:Upd b w w') (hb:b<lo):r.ok lo w':=h.keep (lo:=lo) ((Keep.refl lo w).upd hu (.inl hb))
theorem DLand_calls (lo:Nat) (d:Dr) (w:World) (hd:d.ok lo w) :
  Calls Tryz.prog 22 #[d.val] w (Ret fun v w'=>LandPost d w v w'):=by
 refine T.enter (vs:=[d.val]) func22 rfl ntmps22 rfl ?_
 refine T.q (L.o (O.box rfl (fun b1 w1 hb1 hz1 he1 hB1=>?_)))
 refine L.o (O.alloc zeroValue48 (fun b2 w2 hb2 hz2 he2 hB2=>?_))
 have he02:=he1.trans he2
 have hD2:Blk w2 b1 d.cells 59:=Blk.ext (cs:=d.cells) hB1 he2
 have hR2:Blk w2 b2 [.slice none 0 0,.slice none 0 0,.int .i64 0,.int .i64 0,.int .i64 0,.slice none 0 0] 48:=hB2
 have hb1':=hD2.lt
 have hb2':=hR2.lt
 refine L.nil (T.q (L.o (O.fieldAddr runUnderlying59 rfl sizeOf56 rfl (L.o (O.loadAgg isAgg56 sizeOf56 rfl rfl (Row.part hD2.row 0 5) (L.o (O.call (xs:=[.tmp 5]) call69 rfl rfl (Complex_calls lo d w2 (hd.ext he02)) (fun v3 w3 hq=>?_))))))))
 obtain ⟨he3,pv,fv,nf,rfl,hF3,hn1,hn2,hpv⟩:=hq
 refine L.o (O.alloc zeroValue46 (fun b4 w4 hb4 hz4 he4 hB4=>?_))
 refine L.o (O.storeAgg sizeOf46 rfl rfl rfl hB4 (Nat.le_refl _) (by intro u hu;simp at hu;rcases hu with (rfl|rfl);exact hpv;exact hF3.one) (fun w5 hu5 hB5=>?_))
 replace hu5:Upd b4 w4 w5:=hu5
 have hC5:Blk w5 b4 [pv,fv] 46:=hB5
 have he35:Ext w3 w5:=he4.upd hu5 (.inr (by omega))
 have hF5:=hF3.ext he35
 have hD5:=(hD2.ext he3).ext he35
 have he05:=(he02.trans he3).trans he35
 refine L.nil (T.seq (?_))
 refine T.anyE mixed 6 [3,1] rfl [.is _,.is _,.is _,.is _,.is _,.such (SomeV d nf w2.heap.size)] [[],[],[],[2],[3],[1,4]] [[],[],[],[2],[2,3],[1,2,3,4],[0,1,2,3,4,5],[0,1,2,3,4,5,6]] (by kernel_rfl) (by kernel_rfl) rfl (by kernel_rfl) ⟨SomeV.st,trivial⟩ ⟨fun wx hx=>Ob.o (O.loadAgg isAgg46 sizeOf46 rfl rfl ((hC5.ext hx).row) kR),
   fun wx hx=>Ob.o (O.loadAgg isAgg59 sizeOf59 rfl rfl ((hD5.ext hx).row) kR),
   fun wx hx=>Ob.o (O.fieldAddr runUnderlying46 rfl sizeOf44 rfl kR),
   fun wx hx=>Ob.o (O.load isAgg44 rfl ((hC5.ext hx).cell rfl) kR),
   fun wx hx=>Ob.o (O.len runUnderlying44 rfl (Sl.val (Sl.of_owns (hF5.ext hx).choose_spec.1)) kR),
   fun wx hx=>Ob.o (O.call (xs:=[.tmp 8,.tmp 11]) call70 rfl rfl (Some_calls lo nf d wx (hd.ext (he05.trans hx)) hn1 hn2) (fun v wy h=>(by obtain ⟨h1,r,rfl,h2,h3,h4,h5,h6,h7⟩:=h;exact ⟨h1,r,rfl,h2.mono ((he3.trans (he35.trans hx)).size),⟨hn1,hn2,h3,h4,h5,h6,h7⟩⟩))),
   trivial⟩ (fun w6 he6 v12 hv12=>?_)
 obtain ⟨r,rfl,hr6,hdr⟩:=hv12
 refine L.o (O.build (v:=.agg #[pv,fv,.int .i64 r.G,.int .i64 r.P,.int .i64 r.L,r.uv]) (parts:=[(0,.tmp 7),(1,.tmp 12)]) (vs:=[(0,_),(1,_)]) rfl (fun w=>by kernel_rfl) (L.o (O.storeAgg sizeOf48 rfl rfl rfl ((hR2.ext he3).ext he35 |>.ext he6) (Nat.le_refl _) (by intro u hu;simp at hu;rcases hu with (rfl|rfl|rfl|rfl|rfl|rfl);exact hpv;exact hF3.one;rfl;rfl;rfl;exact hr6.one) (fun w7 hu7 hB7=>?_))))
 replace hu7:Upd b2 w6 w7:=hu7
 have hR7:Blk w7 b2 [pv,fv,.int .i64 r.G,.int .i64 r.P,.int .i64 r.L,r.uv] 48:=hB7
 refine L.nil (T.retA results22 isAgg48 sizeOf48 rfl rfl hR7.row ⟨(he05.trans he6).upd hu7 (.inr (by omega)),pv,fv,nf,r,rfl,(hr6.loc hu7 hb2').mono he02.size,hdr⟩)

theorem DRoll_calls (lo:Nat) (d:Dr) (w:World) (hd:d.ok lo w) :
  Calls Tryz.prog 39 #[d.val] w (Ret fun v w'=>Ext w w'∧∃ n,SomeV d n w.heap.size v w'):=by
 refine T.enter (vs:=[d.val]) func39 rfl ntmps39 rfl ?_
 refine T.q (L.o (O.box rfl (fun b1 w1 hb1 hz1 he1 hB1=>?_)))
 refine L.o (O.alloc zeroValue25 (fun b2 w2 hb2 hz2 he2 hB2=>?_))
 have he02:=he1.trans he2
 have hD2:Blk w2 b1 d.cells 59:=Blk.ext (cs:=d.cells) hB1 he2
 have hR2:Blk w2 b2 zroll 25:=hB2
 have hb2':=hR2.lt
 refine L.nil (T.q (L.o (O.loadAgg isAgg59 sizeOf59 rfl rfl hD2.row (L.o (O.call (xs:=[.tmp 3]) call22 rfl rfl (DLand_calls lo d w2 (hd.ext he02)) (fun v3 w3 hq=>?_))))))
 obtain ⟨he3,pv,fv,n,r,rfl,hr3,hdr⟩:=hq
 refine L.o (O.fieldAgg (vs:=[.int .i64 r.G,.int .i64 r.P,.int .i64 r.L,r.uv]) runUnderlying48 rfl isAgg25 sizeOf25 rfl rfl (L.o (O.storeAgg sizeOf25 rfl rfl rfl (hR2.ext he3) (Nat.le_refl _) (by intro u hu;simp at hu;rcases hu with (rfl|rfl|rfl|rfl);rfl;rfl;rfl;exact hr3.one) (fun w4 hu4 hB4=>?_))))
 replace hu4:Upd b2 w3 w4:=hu4
 have hR4:Blk w4 b2 r.cells 25:=hB4
 refine L.nil (T.retA results39 isAgg25 sizeOf25 rfl rfl hR4.row ⟨(he02.trans he3).upd hu4 (.inr (by omega)),n,r,rfl,(hr3.loc hu4 hb2').mono he02.size,hdr⟩)

/-- A change of a roll. -/
structure Bd where
 W:Int
 A:Int
 To:Int
 N:Int
 nm:Str
structure Bd.ok (b:Bd):Prop where
 w:Low8 b.W
 a:Low8 b.A
 t:Low8 b.To
 n:b.nm.length≤9223372036854775807
def Bd.cells (b:Bd):List Value:=bcells b.W b.A b.To b.N b.nm
def bends (b c:Bd):Value:=.agg (b.cells++c.cells).toArray
def RollX (base:Nat) (v:Value) (w:World):Prop:=∃ r:RoV,v=r.val∧r.ok base w∧r.us.length≤67
theorem RollX.st {base:Nat} : ∀ v w w',Ext w w'→RollX base v w→RollX base v w':=fun _ _ _ he ⟨r,h1,h2,h3⟩=>⟨r,h1,h2.ext he,h3⟩
/-- A drafted roll, and two changed ones. -/
def RollsPost (d:Dr) (w:World) (v:Value) (w':World):Prop:=Ext w w'∧∃ n,∃ r0 r1 r2:RoV,v = .agg (r0.cells++r1.cells++r2.cells).toArray∧Drafted d n r0∧∀ r,r=r0∨r=r1∨r=r2→r.ok w.heap.size w'∧r.us.length≤67
theorem rolls_calls (lo:Nat) (d:Dr) (b c:Bd) (w:World) (hd:d.ok lo w) (hb:b.ok) (hc:c.ok) :
  Calls Tryz.prog 30 #[d.val,bends b c] w (Ret fun v w'=>RollsPost d w v w'):=by
 refine T.enter (vs:=[d.val,bends b c]) func30 rfl ntmps30 rfl ?_
 refine T.q (L.o (O.box rfl (fun b2 w2 hb2 hz2 he2 hB2=>?_)))
 refine L.o (O.box rfl (fun b3 w3 hb3 hz3 he3 hB3=>?_))
 refine L.o (O.alloc zeroValue78 (fun b4 w4 hb4 hz4 he4 hB4=>?_))
 have he04:=(he2.trans he3).trans he4
 have hD4:Blk w4 b2 d.cells 59:=(Blk.ext (cs:=d.cells) hB2 he3).ext he4
 have hE4:Blk w4 b3 (b.cells++c.cells) 77:=Blk.ext (cs:=b.cells++c.cells) hB3 he4
 have hR4:Blk w4 b4 (zroll++zroll++zroll) 78:=hB4
 have hb4':=hR4.lt
 refine L.nil (T.q (L.o (O.loadAgg isAgg59 sizeOf59 rfl rfl hD4.row (L.o (O.call (xs:=[.tmp 7]) call39 rfl rfl (DRoll_calls lo d w4 (hd.ext he04)) (fun v5 w5 hq=>?_))))))
 obtain ⟨he5,n,r0,rfl,hr5,hdr⟩:=hq
 refine L.o (O.alloc zeroValue25 (fun b6 w6 hb6 hz6 he6 hB6=>?_))
 refine L.o (O.storeAgg sizeOf25 rfl rfl rfl hB6 (Nat.le_refl _) (by intro u hu;simp [RoV.cells] at hu;rcases hu with (rfl|rfl|rfl|rfl);rfl;rfl;rfl;exact hr5.one) (fun w7 hu7 hB7=>?_))
 replace hu7:Upd b6 w6 w7:=hu7
 have hC7:Blk w7 b6 r0.cells 25:=hB7
 have he57:Ext w5 w7:=he6.upd hu7 (.inr (by omega))
 have he47:=he5.trans he57
 refine L.nil (T.q (L.o (O.indexAddr_arr runUnderlying77 sizeOf76 rfl rfl (by decide) (by decide) (L.o (O.loadAgg isAgg76 sizeOf76 rfl rfl (Row.part (hE4.ext he47).row 0 5) (L.o (O.loadAgg isAgg25 sizeOf25 rfl rfl hC7.row (L.o (O.call (xs:=[.tmp 10,.tmp 11]) call77 rfl rfl (Of_calls w4.heap.size b.W b.A b.To b.N b.nm r0 w7 (hr5.ext he57) hb.w hb.a hb.t hb.n) (fun v8 w8 hq=>?_))))))))))
 obtain ⟨he8,r1,rfl,hr8,hl8⟩:=hq
 refine L.o (O.alloc zeroValue25 (fun b9 w9 hb9 hz9 he9 hB9=>?_))
 refine L.o (O.storeAgg sizeOf25 rfl rfl rfl hB9 (Nat.le_refl _) (by intro u hu;simp [RoV.cells] at hu;rcases hu with (rfl|rfl|rfl|rfl);rfl;rfl;rfl;exact hr8.one) (fun w10 hu10 hB10=>?_))
 replace hu10:Upd b9 w9 w10:=hu10
 have hC10:Blk w10 b9 r1.cells 25:=hB10
 have he810:Ext w8 w10:=he9.upd hu10 (.inr (by omega))
 have he710:=he8.trans he810
 have he410:=he47.trans he710
 refine L.nil (T.seq (?_))
 refine T.anyE mixed 6 [5,6,3] rfl [.is _,.is _,.is _,.is _,.is _,.such (RollX w4.heap.size)] [[],[],[],[2],[],[3,4]] [[],[],[],[2],[],[2,3,4],[0,1,2,3,4,5],[0,1,2,3,4,5,6]] (by kernel_rfl) (by kernel_rfl) rfl (by kernel_rfl) ⟨RollX.st,trivial⟩ ⟨fun wx hx=>Ob.o (O.loadAgg isAgg25 sizeOf25 rfl rfl (((hC7.ext he710).ext hx).row) kR),
   fun wx hx=>Ob.o (O.loadAgg isAgg25 sizeOf25 rfl rfl ((hC10.ext hx).row) kR),
   fun wx hx=>Ob.o (O.indexAddr_arr runUnderlying77 sizeOf76 rfl rfl (by decide) (by decide) kR),
   fun wx hx=>Ob.o (O.loadAgg isAgg76 sizeOf76 rfl rfl (Row.part ((hE4.ext he410).ext hx).row 5 5) kR),
   fun wx hx=>Ob.o (O.loadAgg isAgg25 sizeOf25 rfl rfl ((hC10.ext hx).row) kR),
   fun wx hx=>Ob.o (O.call (xs:=[.tmp 16,.tmp 17]) call77 rfl rfl (Of_calls w7.heap.size c.W c.A c.To c.N c.nm r1 wx (hr8.ext (he810.trans hx)) hc.w hc.a hc.t hc.n) (fun v wy h=>⟨h.1,by obtain ⟨_,r',h1,h2,h3⟩:=h;exact ⟨r',h1,h2.mono ((he410.trans hx).size),h3⟩⟩)),
   trivial⟩ (fun w11 he11 v18 hv18=>?_)
 obtain ⟨r2,rfl,hr11,hl11⟩:=hv18
 refine L.o (O.build (v:=.agg (r0.cells++r1.cells++r2.cells).toArray) (parts:=[(0,.tmp 13),(1,.tmp 14),(2,.tmp 18)]) (vs:=[(0,_),(1,_),(2,_)]) rfl (fun w=>by kernel_rfl) (L.o (O.storeAgg sizeOf78 rfl rfl rfl ((hR4.ext he410).ext he11) (Nat.le_refl _) (by intro u hu;simp [RoV.cells] at hu;rcases hu with (rfl|rfl|rfl|rfl|rfl|rfl|rfl|rfl|rfl|rfl|rfl|rfl);rfl;rfl;rfl;exact hr5.one;rfl;rfl;rfl;exact hr8.one;rfl;rfl;rfl;exact hr11.one) (fun w12 hu12 hB12=>?_))))
 replace hu12:Upd b4 w11 w12:=hu12
 have hR12:Blk w12 b4 (r0.cells++r1.cells++r2.cells) 78:=hB12
 have hz:=he04.size
 have hz47:=he47.size
 refine L.nil (T.retA results30 isAgg78 sizeOf78 rfl rfl hR12.row ⟨((he04.trans he410).trans he11).upd hu12 (.inr (by omega)),n,r0,r1,r2,rfl,hdr,?_⟩)
 rintro r (rfl|rfl|rfl)
 ·exact ⟨(((hr5.ext (he57.trans he710)).ext he11).loc hu12 hb4').mono (by omega),by rw [hdr.len];have:=hdr.n2;omega⟩
 ·exact ⟨(((hr8.ext he810).ext he11).loc hu12 (by omega)).mono (by omega),hl8⟩
 ·exact ⟨(hr11.loc hu12 hb4').mono (by omega),hl11⟩

open Go Go.E

attribute [local irreducible] Go.E.ObX
def fourUs (l:List Value):List UnV:=[⟨[97],10,l.getD 0 undef,[4],l.getD 1 undef,[3,5],l.getD 2 undef,[7],false⟩,⟨[98],20,l.getD 3 undef,[0],l.getD 4 undef,[9,1],l.getD 5 undef,[2],false⟩,⟨[99],5,l.getD 6 undef,[5],l.getD 7 undef,[0,0],l.getD 8 undef,[7],false⟩,⟨[119],0,l.getD 9 undef,[0],l.getD 10 undef,[0,0],l.getD 11 undef,[0],true⟩]
def fourR (uv:Value) (us:List UnV):RoV:=⟨1,2,1,uv,us⟩
theorem lit_own {base b n:Nat} {w:World} {xs:List Int} (h:Blk w b (xs.map (Value.int .i64)) 3) (hb:base≤b) (hn:xs.length=n) (hm:n≤maxLen):OwnL base w (.slice (some ⟨b,0,none⟩) n n) xs:=by
 subst hn
 have:=owns_blk (n:=xs.length) (cap:=xs.length) (sz:=1) h hb (Nat.le_refl _) hm (by simp)
 rwa [List.take_of_length_le (by simp)] at this
/-- The roll of the examples in memory. -/
structure FourM (base b:Nat) (us:List UnV) (w:World):Prop where
 hb:base≤b
 c:Blk w b (ucells us) 51
 u:∀ x∈us,OwnUn base w x
theorem FourM.ext {base b:Nat} {us:List UnV} {w w':World} (h:FourM base b us w) (k:Ext w w'):FourM base b us w':=⟨h.hb,h.c.ext k,fun x hx=>(h.u x hx).ext k⟩
theorem FourM.ok {base b:Nat} {us:List UnV} {w:World} (h:FourM base b us w) (hl:us.length=4):(fourR (.slice (some ⟨b,0,none⟩) 4 4) us).ok base w:=by
 refine ⟨?_,fun x hx=>(h.u x hx).ok⟩
 show Sl base w _ us.length 6 (ucells us)
 rw [hl]
 exact Sl.of_blk h.c (by rw [ucells_len,hl]) (Nat.le_refl _) (by decide) h.hb
theorem OwnL.upd_unit {base b:Nat} {v:Value} {w w':World} {xs:List Int} {cs:List Value} (h:OwnL base w v xs) (hu:Upd b w w') (hB:Blk w b cs 51):OwnL base w' v xs :=
 h.loc (q:=.slice (some ⟨b,0,none⟩) 0 0) (Loc.of_upd hu rfl) (fun x hx e=>(show OwnX base xs.length v w from ⟨xs,Nat.le_refl _,h⟩).ne_unit hB (hx.trans (e.symm.trans rfl)))
theorem OwnUn.upd_unit {base b:Nat} {u:UnV} {w w':World} {cs:List Value} (h:OwnUn base w u) (hu:Upd b w w') (hB:Blk w b cs 51):OwnUn base w' u:=⟨h.g.upd_unit hu hB,h.v.upd_unit hu hB,h.p.upd_unit hu hB,h.n⟩
theorem OwnUn.lists {base:Nat} {u u':UnV} {w:World} (h:OwnUn base w u) (hg:u'.gv=u.gv) (hgs:u'.gs=u.gs) (hv:u'.vv=u.vv) (hvs:u'.vs=u.vs) (hp:u'.pv=u.pv) (hps:u'.ps=u.ps) (hn:u'.nm.length≤9223372036854775807):OwnUn base w u':=⟨by rw [hg,hgs];exact h.g,by rw [hv,hvs];exact h.v,by rw [hp,hps];exact h.p,hn⟩
theorem FourM.set {base b k j:Nat} {us:List UnV} {u':UnV} {c:Value} {w w':World} (h:FourM base b us w) (hu:Upd b w w') (hB:Blk w' b ((ucells us).set (k*6+j) c) 51) (hk:k<us.length) (hj:j<6) (hc:u'.cells=(us.getD k u0).cells.set j c) (hg:u'.gv=(us.getD k u0).gv) (hgs:u'.gs=(us.getD k u0).gs) (hv:u'.vv=(us.getD k u0).vv) (hvs:u'.vs=(us.getD k u0).vs) (hp:u'.pv=(us.getD k u0).pv) (hps:u'.ps=(us.getD k u0).ps) (hn:u'.nm.length≤9223372036854775807):FourM base b (us.set k u') w':=by
 refine ⟨h.hb,by rw [← ucells_set us k j c u' hk hj hc];exact hB,fun x hx=>?_⟩
 rcases List.mem_or_eq_of_mem_set hx with h1|rfl
 ·exact (h.u x h1).upd_unit hu h.c
 ·exact ((h.u _ (by rw [getD_get hk];exact List.getElem_mem hk)).upd_unit hu h.c).lists hg hgs hv hvs hp hps hn
def FourPost (w:World) (v:Value) (w':World):Prop:=Ext w w'∧∃ b l,v=(fourR (.slice (some ⟨b,0,none⟩) 4 4) (fourUs l)).val∧FourM w.heap.size b (fourUs l) w'
section
variable (uv:Value) (l:List Value)
theorem four_good:RollOk (fourR uv (fourUs l)):=by
 refine ⟨rfl,fun j hj=>?_⟩
 have hj':j<4:=hj
 rcases (show j=0∨j=1∨j=2∨j=3 by omega) with rfl|rfl|rfl|rfl
 ·exact ⟨rfl,fun k hk=>absurd hk (Nat.not_lt_zero _),fun k hk=>absurd hk (Nat.not_lt_zero _),fun _=>rfl⟩
 ·refine ⟨rfl,fun k hk=>?_,fun k hk h=>?_,fun h=>by omega⟩ <;> (obtain rfl:k=0:=by omega)
  ·simp [fourR,fourUs]
  ·cases h
 ·refine ⟨rfl,fun k hk=>?_,fun k hk h=>?_,fun h=>by omega⟩ <;> rcases (show k=0∨k=1 by omega) with rfl|rfl
  ·simp [fourR,fourUs]
  ·simp [fourR,fourUs]
  ·cases h
  ·cases h
 ·refine ⟨rfl,fun k hk=>?_,fun k hk h=>rfl,fun h=>by omega⟩
  rcases (show k=0∨k=1∨k=2 by omega) with rfl|rfl|rfl <;> simp [fourR,fourUs]
theorem four_err:rollErr (fourR uv (fourUs l))=0:=rollErr_ok (four_good uv l)
theorem four_land:landRes (fourR uv (fourUs l))=3:=by rw [landRes_ok (four_err uv l)];rfl
theorem four_find:findRes (fourR uv (fourUs l)) [119] = .tuple #[.int .i64 3,.int .i64 0]:=findRes_some (i:=3) (four_err uv l) rfl
theorem four_find2:findRes (fourR uv (fourUs l)) [120] = .tuple #[.int .i64 0,.int .i64 4]:=findRes_none (four_err uv l) rfl
theorem four_tot8:totErr (fourR uv (fourUs l)) 8=2:=totErr_arg (four_err uv l) (by show ¬ 8<2 ^ 3;decide)
theorem four_tot5:totErr (fourR uv (fourUs l)) 5=0:=totErr_ok (four_err uv l) (by show 5<2 ^ 3;decide)
theorem four_t5:totP (fourR uv (fourUs l)) 5=15∧totErr (fourR uv (fourUs l)) 5=0∧totG (fourR uv (fourUs l)) 5 = [9]∧totV (fourR uv (fourUs l)) 5 = [3,5]:=by
 have h:=four_tot5 uv l
 refine ⟨?_,h,?_,?_⟩
 ·rw [totP,if_pos h];kernel_rfl
 ·rw [totG,if_pos h];kernel_rfl
 ·rw [totV,if_pos h];kernel_rfl
theorem four_par:parErr (fourR uv (fourUs l)) 0=0:=parErr_ok (four_err uv l) ⟨Int.le_refl _,by show (0:Int)<1;decide⟩
theorem four_pars:parGot (fourR uv (fourUs l)) 0 = [(2,2),(7,5)]:=by
 rw [parGot,if_pos (four_par uv l)];kernel_rfl
theorem four_nest:nestB (fourR uv (fourUs l))=true:=nestB_yes (four_err uv l) (fun q hq=>absurd hq (by show ¬ q+1<1;omega))
theorem four_poor {u:UnV} (h:u = { (fourUs l).getD 0 u0 with pp:=3 }):rollErr (fourR uv ((fourUs l).set 0 u))=161:=rollErr_no fun hk=>by
 have:=(hk.good 0 (by show 0<4;decide)).right
 subst h
 exact absurd (this.symm.trans (show rightOk _ _=false from rfl)) (by decide)
theorem four_turned:rollErr (fourR uv (((fourUs l).set 0 ((fourUs l).getD 3 u0)).set 3 ((fourUs l).getD 0 u0)))=161:=rollErr_no fun hk=>by
 have:=(hk.good 0 (by show 0<4;decide)).first rfl
 exact absurd (this.symm.trans (show _=true from rfl)) (by decide)
theorem four_twice {u:UnV} (h:u = { (fourUs l).getD 1 u0 with nm:=[97] }):rollErr (fourR uv ((fourUs l).set 1 u))=161:=rollErr_no fun hk=>by
 have:=(hk.good 1 (by show 1<4;decide)).name 0 (by decide)
 subst h
 exact this rfl
end
theorem four_calls (w:World) :
  Calls Tryz.prog 88 #[] w (Ret fun v w'=>FourPost w v w'):=by
 refine T.enter (vs:=[]) func88 rfl ntmps88 rfl ?_
 refine T.q (L.o (O.alloc zeroValue25 (fun b1 w1 hb1 hz1 he1 hB1=>?_)))
 have hR1:Blk w1 b1 zroll 25:=hB1
 refine L.nil (T.q (L.o (O.buildSlice (el:=3) (parts:=[(0,.const (.int .i64 4))]) (vs:=[(0,_)]) (cs:=[.int .i64 4]) rfl (fun w=>by kernel_rfl) (fun b11 w11 hb11 hz11 he11 hB11=>?_))))
 refine L.o (O.buildSlice (el:=3) (parts:=[(0,.const (.int .i64 3)),(1,.const (.int .i64 5))]) (vs:=[(0,_),(1,_)]) (cs:=[.int .i64 3,.int .i64 5]) rfl (fun w=>by kernel_rfl) (fun b12 w12 hb12 hz12 he12 hB12=>?_))
 refine L.o (O.buildSlice (el:=3) (parts:=[(0,.const (.int .i64 7))]) (vs:=[(0,_)]) (cs:=[.int .i64 7]) rfl (fun w=>by kernel_rfl) (fun b13 w13 hb13 hz13 he13 hB13=>?_))
 refine L.o (O.build (v:=.agg #[str [97],.int .i64 10,.slice (some ⟨b11,0,none⟩) 1 1,.slice (some ⟨b12,0,none⟩) 2 2,.slice (some ⟨b13,0,none⟩) 1 1,.bool false]) (parts:=[(0,_),(1,.const (.int .i64 10)),(2,.tmp 1),(3,.tmp 2),(4,.tmp 3)]) (vs:=[(0,_),(1,_),(2,_),(3,_),(4,_)]) rfl (fun w=>by kernel_rfl) (L.o (O.buildSlice (el:=3) (parts:=[(0,.const (.int .i64 0))]) (vs:=[(0,_)]) (cs:=[.int .i64 0]) rfl (fun w=>by kernel_rfl) (fun b14 w14 hb14 hz14 he14 hB14=>?_))))
 refine L.o (O.buildSlice (el:=3) (parts:=[(0,.const (.int .i64 9)),(1,.const (.int .i64 1))]) (vs:=[(0,_),(1,_)]) (cs:=[.int .i64 9,.int .i64 1]) rfl (fun w=>by kernel_rfl) (fun b15 w15 hb15 hz15 he15 hB15=>?_))
 refine L.o (O.buildSlice (el:=3) (parts:=[(0,.const (.int .i64 2))]) (vs:=[(0,_)]) (cs:=[.int .i64 2]) rfl (fun w=>by kernel_rfl) (fun b16 w16 hb16 hz16 he16 hB16=>?_))
 refine L.o (O.build (v:=.agg #[str [98],.int .i64 20,.slice (some ⟨b14,0,none⟩) 1 1,.slice (some ⟨b15,0,none⟩) 2 2,.slice (some ⟨b16,0,none⟩) 1 1,.bool false]) (parts:=[(0,_),(1,.const (.int .i64 20)),(2,.tmp 5),(3,.tmp 6),(4,.tmp 7)]) (vs:=[(0,_),(1,_),(2,_),(3,_),(4,_)]) rfl (fun w=>by kernel_rfl) (L.o (O.buildSlice (el:=3) (parts:=[(0,.const (.int .i64 5))]) (vs:=[(0,_)]) (cs:=[.int .i64 5]) rfl (fun w=>by kernel_rfl) (fun b17 w17 hb17 hz17 he17 hB17=>?_))))
 refine L.o (O.buildSlice (el:=3) (parts:=[(0,.const (.int .i64 0)),(1,.const (.int .i64 0))]) (vs:=[(0,_),(1,_)]) (cs:=[.int .i64 0,.int .i64 0]) rfl (fun w=>by kernel_rfl) (fun b18 w18 hb18 hz18 he18 hB18=>?_))
 refine L.o (O.buildSlice (el:=3) (parts:=[(0,.const (.int .i64 7))]) (vs:=[(0,_)]) (cs:=[.int .i64 7]) rfl (fun w=>by kernel_rfl) (fun b19 w19 hb19 hz19 he19 hB19=>?_))
 refine L.o (O.build (v:=.agg #[str [99],.int .i64 5,.slice (some ⟨b17,0,none⟩) 1 1,.slice (some ⟨b18,0,none⟩) 2 2,.slice (some ⟨b19,0,none⟩) 1 1,.bool false]) (parts:=[(0,_),(1,.const (.int .i64 5)),(2,.tmp 9),(3,.tmp 10),(4,.tmp 11)]) (vs:=[(0,_),(1,_),(2,_),(3,_),(4,_)]) rfl (fun w=>by kernel_rfl) (L.o (O.buildSlice (el:=3) (parts:=[(0,.const (.int .i64 0))]) (vs:=[(0,_)]) (cs:=[.int .i64 0]) rfl (fun w=>by kernel_rfl) (fun b20 w20 hb20 hz20 he20 hB20=>?_))))
 refine L.o (O.buildSlice (el:=3) (parts:=[(0,.const (.int .i64 0)),(1,.const (.int .i64 0))]) (vs:=[(0,_),(1,_)]) (cs:=[.int .i64 0,.int .i64 0]) rfl (fun w=>by kernel_rfl) (fun b21 w21 hb21 hz21 he21 hB21=>?_))
 refine L.o (O.buildSlice (el:=3) (parts:=[(0,.const (.int .i64 0))]) (vs:=[(0,_)]) (cs:=[.int .i64 0]) rfl (fun w=>by kernel_rfl) (fun b22 w22 hb22 hz22 he22 hB22=>?_))
 refine L.o (O.build (v:=.agg #[str [119],.int .i64 0,.slice (some ⟨b20,0,none⟩) 1 1,.slice (some ⟨b21,0,none⟩) 2 2,.slice (some ⟨b22,0,none⟩) 1 1,.bool true]) (parts:=[(0,_),(2,.tmp 13),(3,.tmp 14),(4,.tmp 15),(5,.const (.bool true))]) (vs:=[(0,_),(2,_),(3,_),(4,_),(5,_)]) rfl (fun w=>by kernel_rfl) (?_))
 obtain ⟨l,hl⟩:∃ l:List Value,l = [.slice (some ⟨b11,0,none⟩) 1 1,.slice (some ⟨b12,0,none⟩) 2 2,.slice (some ⟨b13,0,none⟩) 1 1,.slice (some ⟨b14,0,none⟩) 1 1,.slice (some ⟨b15,0,none⟩) 2 2,.slice (some ⟨b16,0,none⟩) 1 1,.slice (some ⟨b17,0,none⟩) 1 1,.slice (some ⟨b18,0,none⟩) 2 2,.slice (some ⟨b19,0,none⟩) 1 1,.slice (some ⟨b20,0,none⟩) 1 1,.slice (some ⟨b21,0,none⟩) 2 2,.slice (some ⟨b22,0,none⟩) 1 1]:=⟨_,rfl⟩
 refine L.o (O.buildSlice (el:=51) (parts:=[(0,.tmp 4),(1,.tmp 8),(2,.tmp 12),(3,.tmp 16)]) (vs:=[(0,_),(1,_),(2,_),(3,_)]) (cs:=(ucells (fourUs [.slice (some ⟨b11,0,none⟩) 1 1,.slice (some ⟨b12,0,none⟩) 2 2,.slice (some ⟨b13,0,none⟩) 1 1,.slice (some ⟨b14,0,none⟩) 1 1,.slice (some ⟨b15,0,none⟩) 2 2,.slice (some ⟨b16,0,none⟩) 1 1,.slice (some ⟨b17,0,none⟩) 1 1,.slice (some ⟨b18,0,none⟩) 2 2,.slice (some ⟨b19,0,none⟩) 1 1,.slice (some ⟨b20,0,none⟩) 1 1,.slice (some ⟨b21,0,none⟩) 2 2,.slice (some ⟨b22,0,none⟩) 1 1]))) rfl (fun w=>by kernel_rfl) (fun b23 w23 hb23 hz23 he23 hB23=>?_))
 refine L.o (O.build (v:=.agg #[.int .i64 1,.int .i64 2,.int .i64 1,.slice (some ⟨b23,0,none⟩) 4 4]) (parts:=[(0,.const (.int .i64 1)),(1,.const (.int .i64 2)),(2,.const (.int .i64 1)),(3,.tmp 17)]) (vs:=[(0,_),(1,_),(2,_),(3,_)]) rfl (fun w=>by kernel_rfl) (?_))
 have he1_11:Ext w1 w11:=he11
 have k22:Ext w22 w23:=he23
 have k21:Ext w21 w23:=he22.trans k22
 have k20:Ext w20 w23:=he21.trans k21
 have k19:Ext w19 w23:=he20.trans k20
 have k18:Ext w18 w23:=he19.trans k19
 have k17:Ext w17 w23:=he18.trans k18
 have k16:Ext w16 w23:=he17.trans k17
 have k15:Ext w15 w23:=he16.trans k16
 have k14:Ext w14 w23:=he15.trans k15
 have k13:Ext w13 w23:=he14.trans k14
 have k12:Ext w12 w23:=he13.trans k13
 have k11:Ext w11 w23:=he12.trans k12
 have k1:Ext w1 w23:=he11.trans k11
 have z11:=he11.size
 have z12:=he12.size
 have z13:=he13.size
 have z14:=he14.size
 have z15:=he15.size
 have z16:=he16.size
 have z17:=he17.size
 have z18:=he18.size
 have z19:=he19.size
 have z20:=he20.size
 have z21:=he21.size
 have z22:=he22.size
 have z23:=he23.size
 refine L.o (O.storeAgg sizeOf25 rfl rfl rfl (hR1.ext k1) (Nat.le_refl _) (by intro u hu;simp at hu;rcases hu with (rfl|rfl|rfl|rfl) <;> rfl) (fun w24 hu24 hB24=>?_))
 replace hu24:Upd b1 w23 w24:=hu24
 have hR24:Blk w24 b1 [.int .i64 1,.int .i64 2,.int .i64 1,.slice (some ⟨b23,0,none⟩) 4 4] 25:=hB24
 have hz1:w1.heap.size=b1+1:=hz1
 have o11:OwnL w.heap.size w24 (.slice (some ⟨b11,0,none⟩) 1 1) [4]:=lit_own (xs:=[4]) (Blk.upd (cs:=([4]:List Int).map (Value.int .i64)) (Blk.ext hB11 k11) hu24 (by omega)) (by omega) rfl (by decide)
 have o12:OwnL w.heap.size w24 (.slice (some ⟨b12,0,none⟩) 2 2) [3,5]:=lit_own (xs:=[3,5]) (Blk.upd (cs:=([3,5]:List Int).map (Value.int .i64)) (Blk.ext hB12 k12) hu24 (by omega)) (by omega) rfl (by decide)
 have o13:OwnL w.heap.size w24 (.slice (some ⟨b13,0,none⟩) 1 1) [7]:=lit_own (xs:=[7]) (Blk.upd (cs:=([7]:List Int).map (Value.int .i64)) (Blk.ext hB13 k13) hu24 (by omega)) (by omega) rfl (by decide)
 have o14:OwnL w.heap.size w24 (.slice (some ⟨b14,0,none⟩) 1 1) [0]:=lit_own (xs:=[0]) (Blk.upd (cs:=([0]:List Int).map (Value.int .i64)) (Blk.ext hB14 k14) hu24 (by omega)) (by omega) rfl (by decide)
 have o15:OwnL w.heap.size w24 (.slice (some ⟨b15,0,none⟩) 2 2) [9,1]:=lit_own (xs:=[9,1]) (Blk.upd (cs:=([9,1]:List Int).map (Value.int .i64)) (Blk.ext hB15 k15) hu24 (by omega)) (by omega) rfl (by decide)
 have o16:OwnL w.heap.size w24 (.slice (some ⟨b16,0,none⟩) 1 1) [2]:=lit_own (xs:=[2]) (Blk.upd (cs:=([2]:List Int).map (Value.int .i64)) (Blk.ext hB16 k16) hu24 (by omega)) (by omega) rfl (by decide)
 have o17:OwnL w.heap.size w24 (.slice (some ⟨b17,0,none⟩) 1 1) [5]:=lit_own (xs:=[5]) (Blk.upd (cs:=([5]:List Int).map (Value.int .i64)) (Blk.ext hB17 k17) hu24 (by omega)) (by omega) rfl (by decide)
 have o18:OwnL w.heap.size w24 (.slice (some ⟨b18,0,none⟩) 2 2) [0,0]:=lit_own (xs:=[0,0]) (Blk.upd (cs:=([0,0]:List Int).map (Value.int .i64)) (Blk.ext hB18 k18) hu24 (by omega)) (by omega) rfl (by decide)
 have o19:OwnL w.heap.size w24 (.slice (some ⟨b19,0,none⟩) 1 1) [7]:=lit_own (xs:=[7]) (Blk.upd (cs:=([7]:List Int).map (Value.int .i64)) (Blk.ext hB19 k19) hu24 (by omega)) (by omega) rfl (by decide)
 have o20:OwnL w.heap.size w24 (.slice (some ⟨b20,0,none⟩) 1 1) [0]:=lit_own (xs:=[0]) (Blk.upd (cs:=([0]:List Int).map (Value.int .i64)) (Blk.ext hB20 k20) hu24 (by omega)) (by omega) rfl (by decide)
 have o21:OwnL w.heap.size w24 (.slice (some ⟨b21,0,none⟩) 2 2) [0,0]:=lit_own (xs:=[0,0]) (Blk.upd (cs:=([0,0]:List Int).map (Value.int .i64)) (Blk.ext hB21 k21) hu24 (by omega)) (by omega) rfl (by decide)
 have o22:OwnL w.heap.size w24 (.slice (some ⟨b22,0,none⟩) 1 1) [0]:=lit_own (xs:=[0]) (Blk.upd (cs:=([0]:List Int).map (Value.int .i64)) (Blk.ext hB22 k22) hu24 (by omega)) (by omega) rfl (by decide)
 refine L.nil (T.retA results88 isAgg25 sizeOf25 rfl rfl hR24.row ⟨(he1.trans k1).upd hu24 (.inr (by omega)),b23,[.slice (some ⟨b11,0,none⟩) 1 1,.slice (some ⟨b12,0,none⟩) 2 2,.slice (some ⟨b13,0,none⟩) 1 1,.slice (some ⟨b14,0,none⟩) 1 1,.slice (some ⟨b15,0,none⟩) 2 2,.slice (some ⟨b16,0,none⟩) 1 1,.slice (some ⟨b17,0,none⟩) 1 1,.slice (some ⟨b18,0,none⟩) 2 2,.slice (some ⟨b19,0,none⟩) 1 1,.slice (some ⟨b20,0,none⟩) 1 1,.slice (some ⟨b21,0,none⟩) 2 2,.slice (some ⟨b22,0,none⟩) 1 1],rfl,⟨by omega,hB23.upd hu24 (by omega),fun x hx=>?_⟩⟩)
 simp only [fourUs,List.mem_cons,List.mem_nil_iff,or_false] at hx
 rcases hx with (rfl|rfl|rfl|rfl)
 ·exact ⟨o11,o12,o13,by show 1≤9223372036854775807;decide⟩
 ·exact ⟨o14,o15,o16,by show 1≤9223372036854775807;decide⟩
 ·exact ⟨o17,o18,o19,by show 1≤9223372036854775807;decide⟩
 ·exact ⟨o20,o21,o22,by show 1≤9223372036854775807;decide⟩

open Go Go.E

theorem FourM.one {base b k:Nat} {us:List UnV} {w:World} (h:FourM base b us w) (hk:k<us.length):∀ c∈(us.getD k u0).cells,c.oneCell'=true:=(h.u _ (by rw [getD_get hk];exact List.getElem_mem hk)).ok.one
theorem FourM.swap {base b:Nat} {us us':List UnV} {w w':World} (h:FourM base b us w) (hl:Loc (.slice (some ⟨b,0,none⟩) 0 0) w w') (hB:Blk w' b (ucells us') 51) (hp:us'.Perm us):FourM base b us' w':=by
 refine ⟨h.hb,hB,fun x hx=>?_⟩
 have hx':=h.u x (hp.mem_iff.1 hx)
 have key:∀ {v:Value} {xs:List Int},OwnL base w v xs→OwnL base w' v xs:=fun {v xs} ho=>ho.loc hl (fun y hy e=>(show OwnX base xs.length v w from ⟨xs,Nat.le_refl _,ho⟩).ne_unit h.c (hy.trans (e.symm.trans rfl)))
 exact ⟨key hx'.g,key hx'.v,key hx'.p,hx'.n⟩
theorem FourM.other {base b b2:Nat} {us:List UnV} {w w':World} {cs:List Value} (h:FourM base b us w) (hu:Upd b2 w w') (hB:Blk w b2 cs 51) (hne:b≠b2):FourM base b us w' :=
 ⟨h.hb,h.c.upd hu hne,fun x hx=>(h.u x hx).upd_unit hu hB⟩
set_option maxHeartbeats 1000000 in
theorem works_calls (w:World) :
  Calls Tryz.prog 38 #[] w (Ret fun v w'=>v = .bool true∧Ext w w'):=by
 refine T.enter (vs:=[]) func38 rfl ntmps38 rfl ?_
 refine T.q (L.a rfl (L.nil (T.q (L.o (O.call (xs:=[]) call88 rfl rfl (four_calls w) (fun v1 w1 hq=>?_))))))
 obtain ⟨he1,bq,lq,rfl,hF1⟩:=hq
 refine L.o (O.alloc zeroValue25 (fun b2 w2 hb2 hz2 he2 hB2=>?_))
 obtain ⟨uv,huv⟩:∃ uv,uv=Value.slice (some ⟨bq,0,none⟩) 4 4:=⟨_,rfl⟩
 have hF2:=hF1.ext he2
 refine L.o (O.storeAgg sizeOf25 rfl rfl rfl hB2 (Nat.le_refl _) (by intro u hu;simp [RoV.cells,fourR] at hu;rcases hu with (rfl|rfl|rfl|rfl) <;> rfl) (fun w3 hu3 hB3=>?_))
 replace hu3:Upd b2 w2 w3:=hu3
 have hC3:Blk w3 b2 (fourR uv (fourUs lq)).cells 25:=by rw [huv];exact hB3
 have he13:Ext w1 w3:=he2.upd hu3 (.inr (by omega))
 have hF3:=hF1.ext he13
 have hr3:(fourR uv (fourUs lq)).ok w.heap.size w3:=by rw [huv];exact hF3.ok rfl
 have he03:=he1.trans he13
 refine L.nil (T.q (L.o (O.loadAgg isAgg25 sizeOf25 rfl rfl hC3.row (L.o (O.call (xs:=[.tmp 22]) call52 rfl rfl (Land_calls w.heap.size (fourR uv (fourUs lq)) w3 hr3) (fun v4 w4 hq=>?_))))))
 obtain ⟨hv4,he4⟩:=hq
 rw [four_land,four_err] at hv4
 subst hv4
 refine L.m rfl (L.o (O.extract rfl rfl (L.o (O.extract rfl rfl (L.a rfl (L.a rfl (L.nil (T.q (L.o (O.loadAgg isAgg25 sizeOf25 rfl rfl ((hC3.ext he4).row) (L.o (O.call (xs:=[.tmp 27,_]) call89 rfl rfl (Find_calls w.heap.size (fourR uv (fourUs lq)) [119] w4 (hr3.ext he4)) (fun v5 w5 hq=>?_)))))))))))))
 obtain ⟨hv5,he5⟩:=hq
 rw [four_find] at hv5
 subst hv5
 have he35:=he4.trans he5
 refine L.m rfl (L.o (O.extract rfl rfl (L.o (O.extract rfl rfl (L.a rfl (L.a rfl (L.nil (T.q (L.o (O.loadAgg isAgg25 sizeOf25 rfl rfl ((hC3.ext he35).row) (L.o (O.call (xs:=[.tmp 32,_]) call89 rfl rfl (Find_calls w.heap.size (fourR uv (fourUs lq)) [120] w5 (hr3.ext he35)) (fun v6 w6 hq=>?_)))))))))))))
 obtain ⟨hv6,he6⟩:=hq
 rw [four_find2] at hv6
 subst hv6
 have he36:=he35.trans he6
 refine L.m rfl (L.o (O.extract rfl rfl (L.o (O.extract rfl rfl (L.a rfl (L.a rfl (L.nil (T.q (L.o (O.loadAgg isAgg25 sizeOf25 rfl rfl ((hC3.ext he36).row) (L.o (O.call (xs:=[.tmp 37,.const (.int .u64 8)]) call90 rfl rfl (Total_calls w.heap.size (fourR uv (fourUs lq)) 8 w6 (hr3.ext he36) (by decide)) (fun v7 w7 hq=>?_)))))))))))))
 obtain ⟨he7,g7,x7,hv7,_,_⟩:=hq
 rw [four_tot8] at hv7
 subst hv7
 have he37:=he36.trans he7
 refine L.m rfl (L.o (O.extract rfl rfl (L.o (O.extract rfl rfl (L.o (O.extract rfl rfl (L.o (O.extract rfl rfl (L.a rfl (L.a rfl (L.a rfl (L.a rfl (L.nil (T.q (L.o (O.loadAgg isAgg25 sizeOf25 rfl rfl ((hC3.ext he37).row) (L.o (O.call (xs:=[.tmp 44,.const (.int .i64 0)]) call91 rfl rfl (Parents_calls w.heap.size (fourR uv (fourUs lq)) 0 w7 (hr3.ext he37)) (fun v8 w8 hq=>?_)))))))))))))))))))
 obtain ⟨he8,l8,hv8,hl8⟩:=hq
 rw [four_par] at hv8
 subst hv8
 rw [four_pars] at hl8
 have he38:=he37.trans he8
 refine L.m rfl (L.o (O.extract rfl rfl (L.o (O.extract rfl rfl (L.a rfl (L.a rfl (L.nil (T.q (L.o (O.loadAgg isAgg25 sizeOf25 rfl rfl ((hC3.ext he38).row) (L.o (O.call (xs:=[.tmp 49]) call92 rfl rfl (Nested_calls w.heap.size (fourR uv (fourUs lq)) w8 (hr3.ext he38)) (fun v9 w9 hq=>?_)))))))))))))
 obtain ⟨hv9,he9⟩:=hq
 rw [four_nest,four_err] at hv9
 subst hv9
 have he39:=he38.trans he9
 refine L.m rfl (L.o (O.extract rfl rfl (L.o (O.extract rfl rfl (L.a rfl (L.a rfl (L.nil (T.q (L.o (O.call (xs:=[]) call88 rfl rfl (four_calls w9) (fun v10 w10 hq=>?_)))))))))))
 obtain ⟨he10,ba,la,rfl,hFa⟩:=hq
 refine L.o (O.call (xs:=[]) call88 rfl rfl (four_calls w10) (fun v11 w11 hq=>?_))
 obtain ⟨he11,bt,lt,rfl,hFt⟩:=hq
 refine L.o (O.call (xs:=[]) call88 rfl rfl (four_calls w11) (fun v12 w12 hq=>?_))
 obtain ⟨he12,bw,lw,rfl,hFw⟩:=hq
 obtain ⟨uva,huva⟩:∃ uv,uv=Value.slice (some ⟨ba,0,none⟩) 4 4:=⟨_,rfl⟩
 obtain ⟨uvt,huvt⟩:∃ uv,uv=Value.slice (some ⟨bt,0,none⟩) 4 4:=⟨_,rfl⟩
 obtain ⟨uvw,huvw⟩:∃ uv,uv=Value.slice (some ⟨bw,0,none⟩) 4 4:=⟨_,rfl⟩
 refine L.o (O.alloc zeroValue25 (fun b13 w13 hb13 hz13 he13 hB13=>?_))
 refine L.o (O.alloc zeroValue25 (fun b14 w14 hb14 hz14 he14 hB14=>?_))
 refine L.o (O.alloc zeroValue25 (fun b15 w15 hb15 hz15 he15 hB15=>?_))
 have z9:=he39.size
 have z10:=he10.size
 have z11:=he11.size
 have z12:=he12.size
 have z13:=he13.size
 have z14:=he14.size
 have z15:=he15.size
 refine L.o (O.storeAgg sizeOf25 rfl rfl rfl ((hB13.ext he14).ext he15) (Nat.le_refl _) (by intro u hu;simp [RoV.cells,fourR] at hu;rcases hu with (rfl|rfl|rfl|rfl) <;> rfl) (fun w16 hu16 hB16=>?_))
 replace hu16:Upd b13 w15 w16:=hu16
 refine L.o (O.storeAgg sizeOf25 rfl rfl rfl ((hB14.ext he15).upd hu16 (by omega)) (Nat.le_refl _) (by intro u hu;simp [RoV.cells,fourR] at hu;rcases hu with (rfl|rfl|rfl|rfl) <;> rfl) (fun w17 hu17 hB17=>?_))
 replace hu17:Upd b14 w16 w17:=hu17
 refine L.o (O.storeAgg sizeOf25 rfl rfl rfl ((hB15.upd hu16 (by omega)).upd hu17 (by omega)) (Nat.le_refl _) (by intro u hu;simp [RoV.cells,fourR] at hu;rcases hu with (rfl|rfl|rfl|rfl) <;> rfl) (fun w18 hu18 hB18=>?_))
 replace hu18:Upd b15 w17 w18:=hu18
 have hz16:=hu16.size
 have hz17:=hu17.size
 have hz18:=hu18.size
 have hCa:Blk w18 b13 (fourR uva (fourUs la)).cells 25:=by rw [huva];exact (hB16.upd hu17 (by omega)).upd hu18 (by omega)
 have hCt:Blk w18 b14 (fourR uvt (fourUs lt)).cells 25:=by rw [huvt];exact hB17.upd hu18 (by omega)
 have hCw:Blk w18 b15 (fourR uvw (fourUs lw)).cells 25:=by rw [huvw];exact hB18
 have he1218:Ext w12 w18:=((((he13.trans he14).trans he15).upd hu16 (.inr (by omega))).upd hu17 (.inr (by omega))).upd hu18 (.inr (by omega))
 have hGa:=hFa.ext ((he11.trans he12).trans he1218)
 have hGt:=hFt.ext (he12.trans he1218)
 have hGw:=hFw.ext he1218
 have hba:=hFa.c.lt
 have hbt:=hFt.c.lt
 have hbw:=hFw.c.lt
 have hbt2:=hFt.hb
 have hbw2:=hFw.hb
 have hba2:=hFa.hb
 have he918:Ext w9 w18:=((he10.trans he11).trans he12).trans he1218
 have he318:Ext w3 w18:=he39.trans he918
 have hC18:=hC3.ext he318
 have hr18:=hr3.ext he318
 have hb2l:=hC3.lt
 subst huva
 subst huvt
 subst huvw
 refine L.nil (T.q (L.o (O.fieldAddr runUnderlying25 rfl sizeOf23 rfl (L.o (O.load isAgg23 rfl (hCa.cell rfl) (L.o (O.indexAddr runUnderlying23 sizeOf51 rfl rfl ((hGa.ok rfl).sl) (by decide) (by show (0:Int)<((4:Nat):Int);decide) (L.o (O.fieldAddr runUnderlying51 rfl sizeOf3 rfl (L.o (O.store1_at2 sizeOf3 rfl rfl rfl hGa.c (by rw [ucells_len];show 0+(0*6+1)<4*6;decide) (fun w19 hu19 hB19=>?_))))))))))))
 replace hu19:Upd ba w18 w19:=hu19
 have hGa19:FourM w9.heap.size ba ((fourUs la).set 0 { (fourUs la).getD 0 u0 with pp:=3 }) w19:=hGa.set (k:=0) (j:=1) hu19 hB19 (by show 0<4;decide) (by decide) rfl rfl rfl rfl rfl rfl rfl (by show 1≤9223372036854775807;decide)
 have hGt19:=hGt.other hu19 hGa.c (by omega)
 have hGw19:=hGw.other hu19 hGa.c (by omega)
 have hCa19:=hCa.upd hu19 (by omega)
 have hCt19:=hCt.upd hu19 (by omega)
 have hCw19:=hCw.upd hu19 (by omega)
 have hz19:=hu19.size
 obtain ⟨cs1,hcs⟩:∃ cs1,cs1=(ucells (fourUs lt)).take (0*6)++((fourUs lt).getD 3 u0).cells++(ucells (fourUs lt)).drop (0*6+6):=⟨_,rfl⟩
 have hcl:(ucells (fourUs lt)).length=4*6:=ucells_len _
 have hct:(ucells (fourUs lt)).take ((fourUs lt).length*6)=ucells (fourUs lt):=by rw [← ucells_len,List.take_length]
 have hcs1:=put_take (u':=(fourUs lt).getD 3 u0) (us:=fourUs lt) (cap:=4) (k:=0) hcl (Nat.le_refl 4) hct (by show 0<4;decide)
 rw [← hcs] at hcs1
 have hl1:cs1.length=(ucells (fourUs lt)).length:=by rw [hcs1.2,hcl]
 have hne14:b14≠bt:=by omega
 refine L.nil (T.seq (?_))
 refine T.anyF mixed 14 1 [17] rfl [.is _,.is _,.is _,.is _,.is _,.is _,.is _,.such (SwP bt w19 ((fourUs lt).getD 3 u0).val),.is _,.is _,.is _,.such (SwP bt w19 ((fourUs lt).getD 0 u0).val),.is _,.is undef] [[],[0],[],[2],[],[4],[5],[6],[],[8],[9],[10],[1],[12,7,11]] [none,none,none,none,none,none,none,none,none,none,none,none,none,some 0] [[],[0],[],[2],[],[4],[4,5],[4,5,6],[],[8],[8,9],[8,9,10],[0,1,4,5,6,7,8,9,10,11],[0,1,4,5,6,7,8,9,10,11,12],[0,1,2,3,4,5,6,7,8,9,10,11,12,13],[0,1,2,3,4,5,6,7,8,9,10,11,12,13,14]] [] [(13,11,71)] (fun _ _ u _ _=>u=((fourUs lt).getD 0 u0).val) (SwI bt cs1 w19) (fun W W'=>W'.heap[bt]?=w19.heap[bt]?→W.heap[bt]?=w19.heap[bt]?) (fun i f v w hi hf hh=>by simp at hi) (fun i j vi vj W W' hr h=>h) (by kernel_rfl) (by kernel_rfl) (by kernel_rfl) (by kernel_rfl) rfl ⟨fun v w w' hr h e=>h (hr e),fun v w w' hr h e=>h (hr e),trivial⟩ (Keep.drew _ _) ⟨fun c wx hx=>ObX.op rfl (O.fieldAddr runUnderlying25 rfl sizeOf23 rfl ⟨⟨(fun h=>h),hx⟩,rfl,trivial,trivial⟩),
   fun c wx hx=>ObX.op rfl (O.load isAgg23 rfl ((hx.blk hne14 hCt19).cell rfl) ⟨⟨(fun h=>h),hx⟩,rfl,trivial,trivial⟩),
   fun c wx hx=>ObX.op rfl (O.fieldAddr runUnderlying25 rfl sizeOf23 rfl ⟨⟨(fun h=>h),hx⟩,rfl,trivial,trivial⟩),
   fun c wx hx=>ObX.op rfl (O.load isAgg23 rfl ((hx.blk hne14 hCt19).cell rfl) ⟨⟨(fun h=>h),hx⟩,rfl,trivial,trivial⟩),
   fun c wx hx=>ObX.op rfl (O.fieldAddr runUnderlying25 rfl sizeOf23 rfl ⟨⟨(fun h=>h),hx⟩,rfl,trivial,trivial⟩),
   fun c wx hx=>ObX.op rfl (O.load isAgg23 rfl ((hx.blk hne14 hCt19).cell rfl) ⟨⟨(fun h=>h),hx⟩,rfl,trivial,trivial⟩),
   fun c wx hx=>ObX.op rfl (O.indexAddr runUnderlying23 sizeOf51 rfl rfl ((hGt.ok rfl).sl) (by decide) (by show (3:Int)<((4:Nat):Int);decide) ⟨⟨(fun h=>h),hx⟩,rfl,trivial,trivial⟩),
   fun c wx hx=>by { obtain ⟨cs,hcsr,hcsl,hcsi⟩:=hx.unit (us:=fourUs lt) hGt19.c hl1 hcl (Nat.le_refl 4) hct (i:=3) (by show 3<4;decide);exact ObX.op rfl (O.loadAgg isAgg51 sizeOf51 hcsl rfl hcsr (and3 ⟨⟨fun h=>h,hx⟩,fun h=>by rw [hcsi h];rfl⟩ ⟨trivial,trivial⟩)) },
   fun c wx hx=>ObX.op rfl (O.fieldAddr runUnderlying25 rfl sizeOf23 rfl ⟨⟨(fun h=>h),hx⟩,rfl,trivial,trivial⟩),
   fun c wx hx=>ObX.op rfl (O.load isAgg23 rfl ((hx.blk hne14 hCt19).cell rfl) ⟨⟨(fun h=>h),hx⟩,rfl,trivial,trivial⟩),
   fun c wx hx=>ObX.op rfl (O.indexAddr runUnderlying23 sizeOf51 rfl rfl ((hGt.ok rfl).sl) (by decide) (by show (0:Int)<((4:Nat):Int);decide) ⟨⟨(fun h=>h),hx⟩,rfl,trivial,trivial⟩),
   fun c wx hx=>by { obtain ⟨cs,hcsr,hcsl,hcsi⟩:=hx.unit (us:=fourUs lt) hGt19.c hl1 hcl (Nat.le_refl 4) hct (i:=0) (by show 0<4;decide);exact ObX.op rfl (O.loadAgg isAgg51 sizeOf51 hcsl rfl hcsr (and3 ⟨⟨fun h=>h,hx⟩,fun h=>by rw [hcsi h];rfl⟩ ⟨trivial,trivial⟩)) },
   fun c wx hx=>ObX.op rfl (O.indexAddr runUnderlying23 sizeOf51 rfl rfl ((hGt.ok rfl).sl) (by decide) (by show (0:Int)<((4:Nat):Int);decide) ⟨⟨(fun h=>h),hx⟩,rfl,trivial,trivial⟩),
   fun wx hx v67 hv67 v71 hv71=>by { obtain rfl:=hv67 (hx.block bt (Nat.zero_le _) hGt19.c.lt);obtain h71:=hv71 (hx.block bt (Nat.zero_le _) hGt19.c.lt);exact ObX.op rfl (O.storeAggAt sizeOf51 rfl rfl rfl (hGt19.c.ext hx) (by rw [hcl];decide) (hGt19.one (k:=3) (by show 3<4;decide)) (fun w10 hu10 hB10=>and3 ⟨⟨fun _=>hx.block bt (Nat.zero_le _) hGt19.c.lt,⟨_,hx,_,hu10,by rw [hcs];exact hB10,Keep.refl _ _⟩⟩,rfl⟩ ⟨trivial,fun u hu=>by { cases hu;exact h71 }⟩)) },
   trivial⟩ (fun w20 hI20 v67 hv67 v71 hv71 hp20=>?_)
 obtain ⟨_,_,_,hlk⟩:=hp20 11 13 _ _ _ _ (by decide) (by decide) rfl rfl rfl rfl
 obtain rfl:=hlk rfl
 obtain ⟨W1,hE1,W2,hU2,hB2',hE2⟩:=hI20
 have hcs2:=put_take (u':=(fourUs lt).getD 0 u0) (us:=(fourUs lt).set 0 ((fourUs lt).getD 3 u0)) (k:=3) hcs1.2 (by rw [List.length_set];exact Nat.le_refl 4) hcs1.1 (by rw [List.length_set];show 3<4;decide)
 refine L.o (O.indexAddr runUnderlying23 sizeOf51 rfl rfl ((hGt.ok rfl).sl) (by decide) (by show (3:Int)<((4:Nat):Int);decide) (L.o (O.storeAggAt sizeOf51 rfl rfl rfl (hB2'.ext hE2) (by rw [hcs1.2];decide) (hGt19.one (k:=0) (by show 0<4;decide)) (fun w21 hu21 hB21=>?_))))
 replace hu21:Upd bt w20 w21:=hu21
 have hloc:Loc (.slice (some ⟨bt,0,none⟩) 0 0) w19 w21:=(((Loc.of_ext hE1).trans (Loc.of_upd hU2 rfl)).trans (Loc.of_ext hE2)).trans (Loc.of_upd hu21 rfl)
 have hpm:(((fourUs lt).set 0 ((fourUs lt).getD 3 u0)).set 3 ((fourUs lt).getD 0 u0)).Perm (fourUs lt):=swap_perm (by show 0<4;decide) (by show 3<4;decide)
 have hB21':Blk w21 bt (ucells (((fourUs lt).set 0 ((fourUs lt).getD 3 u0)).set 3 ((fourUs lt).getD 0 u0))) 51:=by
  have h1:Blk w21 bt (cs1.take (3*6)++((fourUs lt).getD 0 u0).cells++cs1.drop (3*6+6)) 51:=hB21
  have h2:=hcs2.1
  rw [List.take_of_length_le (by rw [hcs2.2,List.length_set,List.length_set];exact Nat.le_refl _)] at h2
  rw [← h2];exact h1
 have hGt21:=hGt19.swap hloc hB21' hpm
 have hnl:∀ x,x≠bt→(Value.slice (some ⟨bt,0,none⟩) 0 0).ownBlock≠some x:=fun x hx e=>hx (Option.some.inj e).symm
 have lu:∀ {base b:Nat} {us:List UnV},b≠bt→FourM base b us w19→FourM base b us w21:=fun hb h=>((h.ext hE1).other hU2 (hGt19.c.ext hE1) hb |>.ext hE2).other hu21 (hB2'.ext hE2) hb
 have hGa21:=lu (by omega) hGa19
 have hGw21:=lu (by omega) hGw19
 have hCa21:=hloc.blk hCa19 (hnl _ (by omega))
 have hCt21:=hloc.blk hCt19 (hnl _ (by omega))
 have hCw21:=hloc.blk hCw19 (hnl _ (by omega))
 refine L.nil (T.q (L.o (O.fieldAddr runUnderlying25 rfl sizeOf23 rfl (L.o (O.load isAgg23 rfl (hCw21.cell rfl) (L.o (O.indexAddr runUnderlying23 sizeOf51 rfl rfl ((hGw.ok rfl).sl) (by decide) (by show (1:Int)<((4:Nat):Int);decide) (L.o (O.fieldAddr runUnderlying51 rfl sizeOf9 rfl (L.o (O.store1_at2 sizeOf9 rfl rfl rfl hGw21.c (by rw [ucells_len];show 0+(1*6+0)<4*6;decide) (fun w22 hu22 hB22=>?_))))))))))))
 replace hu22:Upd bw w21 w22:=hu22
 have hGw22:FourM w11.heap.size bw ((fourUs lw).set 1 { (fourUs lw).getD 1 u0 with nm:=[97] }) w22:=hGw21.set (k:=1) (j:=0) hu22 hB22 (by show 1<4;decide) (by decide) rfl rfl rfl rfl rfl rfl rfl (by show 1≤9223372036854775807;decide)
 have hGa22:=hGa21.other hu22 hGw21.c (by omega)
 have hGt22:=hGt21.other hu22 hGw21.c (by omega)
 have hCa22:=hCa21.upd hu22 (by omega)
 have hCt22:=hCt21.upd hu22 (by omega)
 have hCw22:=hCw21.upd hu22 (by omega)
 have hE922:Ext w9 w22:=((hloc.keep (he918.upd hu19 (.inr (by omega))) (fun x e=>by have e':bt=x:=Option.some.inj e;omega)).upd hu22 (.inr (by omega)))
 have hE322:=he39.trans hE922
 have hC22:=hC3.ext hE322
 have hr22:=hr3.ext hE322
 refine L.nil (T.q (L.o (O.loadAgg isAgg25 sizeOf25 rfl rfl hC22.row (L.o (O.call (xs:=[.tmp 78]) call32 rfl rfl (CheckRoll_calls w.heap.size (fourR uv (fourUs lq)) w22 hr22) (fun v23 w23 hq=>?_))))))
 obtain ⟨rfl,he23⟩:=hq
 refine L.o (O.eql_t rfl rfl (four_err _ _) (L.m rfl (L.o (O.loadAgg isAgg25 sizeOf25 rfl rfl ((hCa22.ext he23).row) (L.o (O.call (xs:=[.tmp 82]) call32 rfl rfl (CheckRoll_calls w9.heap.size (fourR (.slice (some ⟨ba,0,none⟩) 4 4) ((fourUs la).set 0 { (fourUs la).getD 0 u0 with pp:=3 })) w23 ((hGa22.ext he23).ok rfl)) (fun v24 w24 hq=>?_)))))))
 obtain ⟨rfl,he24⟩:=hq
 refine L.o (O.eql_t rfl rfl (four_poor _ _ rfl) (?_))
 have he2224:=he23.trans he24
 refine L.o (O.pick_true rfl rfl (L.m rfl (L.o (O.loadAgg isAgg25 sizeOf25 rfl rfl ((hCt22.ext he2224).row) (L.o (O.call (xs:=[.tmp 87]) call32 rfl rfl (CheckRoll_calls w10.heap.size (fourR (.slice (some ⟨bt,0,none⟩) 4 4) (((fourUs lt).set 0 ((fourUs lt).getD 3 u0)).set 3 ((fourUs lt).getD 0 u0))) w24 ((hGt22.ext he2224).ok rfl)) (fun v25 w25 hq=>?_)))))))
 obtain ⟨rfl,he25⟩:=hq
 refine L.o (O.eql_t rfl rfl (four_turned _ _) (?_))
 have he2225:=he2224.trans he25
 refine L.o (O.pick_true rfl rfl (L.m rfl (L.o (O.loadAgg isAgg25 sizeOf25 rfl rfl ((hCw22.ext he2225).row) (L.o (O.call (xs:=[.tmp 92]) call32 rfl rfl (CheckRoll_calls w11.heap.size (fourR (.slice (some ⟨bw,0,none⟩) 4 4) ((fourUs lw).set 1 { (fourUs lw).getD 1 u0 with nm:=[97] })) w25 ((hGw22.ext he2225).ok rfl)) (fun v26 w26 hq=>?_)))))))
 obtain ⟨rfl,he26⟩:=hq
 refine L.o (O.eql_t rfl rfl (four_twice _ _ rfl) (?_))
 have he2226:=he2225.trans he26
 refine L.o (O.pick_true rfl rfl (L.a rfl (L.nil (T.q (L.m rfl (L.m rfl (L.m rfl (L.o (O.eql_t rfl rfl rfl (L.o (O.pick_true rfl rfl (L.m rfl (L.m rfl (L.o (O.eql_t rfl rfl rfl (L.o (O.pick_true rfl rfl (L.m rfl (L.m rfl (L.o (O.eql_t rfl rfl rfl (L.o (O.pick_true rfl rfl (L.m rfl (L.m rfl (L.o (O.eql_t rfl rfl rfl (L.o (O.pick_true rfl rfl (L.m rfl (L.m rfl (?_))))))))))))))))))))))))))))))))
 refine L.o (O.eql_t rfl rfl rfl (L.o (O.pick_true rfl rfl (L.m rfl (L.o (O.loadAgg isAgg25 sizeOf25 rfl rfl ((hC22.ext he2226).row) (L.o (O.buildSlice (el:=3) (parts:=[(0,.const (.int .i64 9))]) (vs:=[(0,_)]) (cs:=[.int .i64 9]) rfl (fun w=>by kernel_rfl) (fun b27 w27 hb27 hz27 he27 hB27=>?_)))))))))
 refine L.o (O.buildSlice (el:=3) (parts:=[(0,.const (.int .i64 3)),(1,.const (.int .i64 5))]) (vs:=[(0,_),(1,_)]) (cs:=[.int .i64 3,.int .i64 5]) rfl (fun w=>by kernel_rfl) (fun b28 w28 hb28 hz28 he28 hB28=>?_))
 have he2228:=(he2226.trans he27).trans he28
 refine L.o (O.call (xs:=[.tmp 118,.const (.int .u64 5),.const (.int .i64 15),.tmp 119,.tmp 120]) call93 rfl rfl (totals_calls w.heap.size 0 0 (fourR uv (fourUs lq)) 5 15 _ _ [9] [3,5] w28 (hr22.ext he2228) (by decide) (Ints.of_blk (xs:=[9]) (n:=1) (Blk.ext hB27 he28) rfl (by decide) (Nat.zero_le _)) (Ints.of_blk (xs:=[3,5]) (n:=2) hB28 rfl (by decide) (Nat.zero_le _))) (fun v29 w29 hq=>?_))
 obtain ⟨hv29,he29⟩:=hq
 rw [decide_eq_true (four_t5 _ _)] at hv29
 subst hv29
 refine L.o (O.pick_true rfl rfl (L.m rfl (L.m rfl (L.o (O.eql_t rfl rfl rfl (L.o (O.pick_true rfl rfl (L.m rfl (L.m rfl (L.o (O.build (v:=.agg #[.int .i64 2,wordV 2]) (parts:=[(0,.const (.int .i64 2)),(1,.const (.int .u64 2))]) (vs:=[(0,_),(1,_)]) rfl (fun w=>by kernel_rfl) (L.o (O.build (v:=.agg #[.int .i64 7,wordV 5]) (parts:=[(0,.const (.int .i64 7)),(1,.const (.int .u64 5))]) (vs:=[(0,_),(1,_)]) rfl (fun w=>by kernel_rfl) (L.o (O.buildSlice (el:=160) (parts:=[(0,.tmp 129),(1,.tmp 130)]) (vs:=[(0,_),(1,_)]) (cs:=[.int .i64 2,wordV 2,.int .i64 7,wordV 5]) rfl (fun w=>by kernel_rfl) (fun b30 w30 hb30 hz30 he30 hB30=>?_))))))))))))))))
 have he930:Ext w8 w30:=(he9.trans hE922).trans (he2228.trans (he29.trans he30))
 refine L.o (O.call (xs:=[.tmp 128,.tmp 131]) call94 rfl rfl (equalPar_calls w7.heap.size 0 l8 _ [(2,2),(7,5)] [(2,2),(7,5)] w30 (Sl.ext hl8 he930) (Sl.of_blk (n:=2) (sz:=2) (cap:=2) hB30 rfl (Nat.le_refl _) (by decide) (Nat.zero_le _))) (fun v31 w31 hq=>?_))
 obtain ⟨hv31,he31⟩:=hq
 rw [decide_eq_true rfl] at hv31
 subst hv31
 refine L.o (O.pick_true rfl rfl (L.m rfl (L.m rfl (L.o (O.eql_t rfl rfl rfl (L.o (O.pick_true rfl rfl (L.m rfl (L.m rfl (L.o (O.pick_true rfl rfl (L.m rfl (L.m rfl (L.o (O.eql_t rfl rfl rfl (L.o (O.pick_true rfl rfl (L.a rfl (L.nil (T.ret1 results38 rfl ⟨rfl,(he03.trans hE322).trans (he2228.trans ((he29.trans he30).trans he31))⟩))))))))))))))))))))

end Go.Proofs.YtnlonpcbgjbbaaaGreatDoor
