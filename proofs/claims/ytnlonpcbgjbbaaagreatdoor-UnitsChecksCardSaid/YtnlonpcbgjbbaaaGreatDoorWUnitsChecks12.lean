/-
  UnitsChecks, part 12 of its proof: that it returns true for every input, and each argument reads behind the call as it read before. Conditions: the listed variables read as the program's text lays them (tied by the card).
-/
import Derived.Test.YtnlonpcbgjbbaaaGreatDoorWUnitsChecks11
import Derived.Test.YtnlonpcbgjbbaaaGreatDoorWUnitsChecks3
set_option linter.unusedVariables false
set_option linter.unusedSimpArgs false
set_option maxRecDepth 20000
set_option linter.unusedVariables false
set_option linter.unusedSimpArgs false
set_option maxRecDepth 20000
namespace Go.Proofs.YtnlonpcbgjbbaaaGreatDoor
open Go.Proofs.Tryz (call131 call141 call190 call191 call192 call217 call218 call219 call220 call221 call222 call223 call224 call225 call226 call250 call251 call252 call253 call255 call266 call272 func131 func141 func190 func191 func192 func218 func219 func220 func221 func222 func224 func225 func226 func250 func266 func83 isAgg124 isAgg125 isAgg127 isAgg292 isAgg3 isAgg30 isAgg43 isAgg44 isAgg46 ntmps131 ntmps141 ntmps190 ntmps191 ntmps192 ntmps218 ntmps219 ntmps220 ntmps221 ntmps222 ntmps224 ntmps225 ntmps226 ntmps250 ntmps266 ntmps83 results131 results141 results190 results191 results192 results218 results219 results220 results221 results222 results224 results225 results226 results250 results266 results83 runUnderlying124 runUnderlying125 runUnderlying127 runUnderlying237 runUnderlying289 runUnderlying292 runUnderlying30 runUnderlying43 runUnderlying44 runUnderlying46 sizeOf124 sizeOf125 sizeOf127 sizeOf292 sizeOf3 sizeOf30 sizeOf43 sizeOf44 sizeOf46 zeroValue124)
open Go Go.E
attribute [local irreducible] Go.E.T Go.E.L Go.E.O Go.E.Ob

attribute [local irreducible] Go.E.ObX
open Geo (howI RR)
theorem rr_nr {r:List Pt} (h:RR r):NrL r:=fun i hi=>Nr.of_far (h.far i hi)
set_option maxHeartbeats 4000000 in
theorem rRingFlaw_calls (lo:Nat) (q:Value) (r:List Pt) (w:World) (hq:Pts lo w q r) (hr:RR r) :
  Calls Tryz.prog 266 #[q] w (Ret fun v w'=>v = .tuple #[.int .i64 0,.int .i64 0]∧Ext w w'):=by
 have h3:=hr.l3
 have h40:=hr.l40
 have hlen:r.length≤1000000:=by omega
 have hn:=rr_nr hr
 refine T.enter (vs:=[q]) func266 rfl ntmps266 rfl ?_
 refine T.q (L.a rfl (L.a rfl (L.nil (T.q (L.m rfl (L.o (O.len runUnderlying237 rfl (Sl.val hq) (L.a rfl (L.nil (T.seq (T.q (L.m rfl (L.o (O.lss_f rfl rfl (by omega) (L.m rfl (L.m rfl (L.o (O.gtr_f rfl rfl (by omega) (L.o (O.pick_false rfl rfl (L.nil (T.cf (T.skip (T.seq (?_)))))))))))))))))))))))))
 refine T.q (L.a rfl (L.nil (T.block (?_))))
 refine T.loop (σ:=Nat) (fun i=>[(0,q),(4,.int .i64 r.length),(5,.int .i64 i)]) (fun i w'=>i≤r.length∧Ext w w') (fun i=>r.length-i) (0) ⟨rfl,rfl,rfl,trivial⟩ ⟨Nat.zero_le _,Keep.refl _ _⟩ ?_
 rintro i w1 ⟨hi,he1⟩
 have hq1:=hq.ext he1
 refine T.seq (T.q (L.m rfl (L.m rfl (L.o (O.lss_s rfl rfl (fun hlt=>?_) (fun hlt=>?_))))))
 ·refine L.nil (?_)
  have hlt':i<r.length:=by omega
  refine T.ct (T.skip (T.seq (T.block (T.q (L.m rfl (L.m rfl (L.o (O.indexAddr runUnderlying237 sizeOf124 rfl rfl hq1 (by omega) (by omega) (L.o (O.loadAgg isAgg124 sizeOf124 rfl rfl (hq1.row hlt') (L.o (O.call (xs:=[.tmp 29]) call217 rfl rfl (rFar_calls (r.getD i (0,0)) w1) (fun v2 w2 hq=>?_)))))))))))))
  obtain ⟨hv2,he2⟩:=hq
  have hff:farB (r.getD i (0,0))=false:=hr.far i hlt'
  rw [hff] at hv2
  subst hv2
  refine L.nil (T.cf (T.skip (T.blk (T.region (L.m rfl (L.o (O.add64 rfl rfl (by omega) (L.a rfl (L.nil (T.again (i+1) (by omega) ⟨rfl,rfl,rfl,trivial⟩ ⟨hlt',he1.trans he2⟩))))))))))
 ·refine L.nil (T.cf (T.exit rfl (T.seq (T.q (L.a rfl (L.nil (T.block (?_))))))))
  refine T.loop (σ:=Nat) (fun i=>[(0,q),(4,.int .i64 r.length),(6,.int .i64 i)]) (fun i w'=>i≤r.length∧Ext w w') (fun i=>r.length-i) (0) ⟨rfl,rfl,rfl,trivial⟩ ⟨Nat.zero_le _,he1⟩ ?_
  rintro i w2 ⟨hi,he2⟩
  have hq2:=hq.ext he2
  refine T.seq (T.q (L.m rfl (L.m rfl (L.o (O.lss_s rfl rfl (fun hlt=>?_) (fun hlt=>?_))))))
  ·refine L.nil (?_)
   have hlt':i<r.length:=by omega
   refine T.ct (T.skip (T.seq (T.block (T.seq (?_)))))
   refine T.anyE mixed 8 [0,6] rfl [.is _,.is _,.is _,.is _,.is _,.is _,.is (.int .i64 ((i+1:Nat):Int)),.is (pV (rB r i))] [[],[],[0,1],[2],[],[],[5],[4,6]] [[],[],[0,1],[0,1,2],[],[],[5],[4,5,6],[0,1,2,3,4,5,6,7]] (by kernel_rfl) (by kernel_rfl) rfl (by kernel_rfl) trivial ⟨fun wx hx=>Ob.o (O.move rfl kR),
     fun wx hx=>Ob.o (O.move rfl kR),
     fun wx hx=>Ob.o (O.indexAddr runUnderlying237 sizeOf124 rfl rfl (hq2.ext hx) (by omega) (by omega) kR),
     fun wx hx=>Ob.o (O.loadAgg isAgg124 sizeOf124 rfl rfl ((hq2.ext hx).row hlt') kR),
     fun wx hx=>Ob.o (O.move rfl kR),
     fun wx hx=>Ob.o (O.move rfl kR),
     fun wx hx=>Ob.o (O.add64 rfl rfl (by omega) kR),
     fun wx hx=>Ob.o (O.call (xs:=[.tmp 41,.tmp 43]) call253 rfl rfl (rAt_calls lo q r (i+1) wx (hq2.ext hx) (by omega) hlen (by omega)) (fun v wy h=>⟨h.2,h.1⟩)),
     trivial⟩ (fun w3 he3=>?_)
   refine L.o (O.eqlPt_f rfl rfl rfl (hr.still i hlt') (L.nil (T.cf (T.skip (T.blk (T.region (L.m rfl (L.o (O.add64 rfl rfl (by omega) (L.a rfl (L.nil (T.again (i+1) (by omega) ⟨rfl,rfl,rfl,trivial⟩ ⟨hlt',he2.trans he3⟩))))))))))))
  ·refine L.nil (T.cf (T.exit rfl (T.seq (T.q (L.a rfl (L.nil (T.block (?_))))))))
   refine T.loop (σ:=Nat) (fun i=>[(0,q),(4,.int .i64 r.length),(7,.int .i64 i)]) (fun i w'=>i≤r.length∧Ext w w') (fun i=>r.length-i) (0) ⟨rfl,rfl,rfl,trivial⟩ ⟨Nat.zero_le _,he2⟩ ?_
   rintro i w3 ⟨hi,he3⟩
   have hq3:=hq.ext he3
   refine T.seq (T.q (L.m rfl (L.m rfl (L.o (O.lss_s rfl rfl (fun hlt=>?_) (fun hlt=>?_))))))
   ·refine L.nil (?_)
    have hlt':i<r.length:=by omega
    have nP:Nr (rP r i):=hn _ (Nat.mod_lt _ (by omega))
    have nA:Nr (rA r i):=hn _ hlt'
    have nB:Nr (rB r i):=hn _ (Nat.mod_lt _ (by omega))
    refine T.ct (T.skip (T.seq (T.block (T.seq (?_)))))
    refine T.anyF2 mixed 18 1 [0,7,4] rfl [.is _,.is _,.is _,.is _,.is (.int .i64 ((i+r.length-1:Nat):Int)),.is (pV (rP r i)),.is _,.is _,.is _,.is _,.is _,.is _,.is (.int .i64 ((i+1:Nat):Int)),.is (pV (rB r i)),.such (PtB w3.heap.size),.such (PtB w3.heap.size),.such (PtB w3.heap.size),.is undef] [[],[],[],[1,2],[3],[0,4],[],[],[6,7],[8],[],[],[11],[10,12],[],[],[],[14,5]] [none,none,none,none,none,none,none,none,none,none,none,none,none,none,none,none,none,some 0] [[],[],[],[1,2],[1,2,3],[0,1,2,3,4],[],[],[6,7],[6,7,8],[],[],[11],[0,1,2,3,4,5,10,11,12],[],[],[],[0,1,2,3,4,5,10,11,12,13,14,15,16],[0,1,2,3,4,5,6,7,8,9,10,11,12,13,14,15,16,17],[0,1,2,3,4,5,6,7,8,9,10,11,12,13,14,15,16,17,18]] [14,15,16] [(17,14,8)] (fun _ _ u _ W=>∃ b,u = .pointer (some ⟨b,0,none⟩)∧w3.heap.size≤b∧Blk W b (pC (rP r i)) 124) (fun _ W=>Ext w3 W) (RelB w3.heap.size (rP r i)) (fun i f v w hi hf hh=>by { rcases (show i=14∨i=15∨i=16 by simpa using hi) with rfl|rfl|rfl <;> (simp only [List.getElem?_cons_succ,List.getElem?_cons_zero,Option.some.injEq] at hf;subst hf;exact PtB.lt hh) }) (fun i j vi vj W W' hr ⟨b,h1,h2,h3⟩=>(hr.own b _ h2 h3).elim fun c' k=>⟨b,h1,h2,(k.2 rfl)▸k.1⟩) (by kernel_rfl) (by kernel_rfl) (by kernel_rfl) (by kernel_rfl) rfl ⟨PtB.st,PtB.st,PtB.st,trivial⟩ (Keep.drew _ _) ⟨fun c wx hx=>ObX.op rfl (O.move rfl ⟨⟨RelB.of_ext (Keep.refl _ _),hx⟩,rfl,trivial,trivial⟩),
      fun c wx hx=>ObX.op rfl (O.move rfl ⟨⟨RelB.of_ext (Keep.refl _ _),hx⟩,rfl,trivial,trivial⟩),
      fun c wx hx=>ObX.op rfl (O.move rfl ⟨⟨RelB.of_ext (Keep.refl _ _),hx⟩,rfl,trivial,trivial⟩),
      fun c wx hx=>ObX.op rfl (O.add64 rfl rfl (by omega) ⟨⟨RelB.of_ext (Keep.refl _ _),hx⟩,rfl,trivial,trivial⟩),
      fun c wx hx=>ObX.op rfl (O.sub64 rfl rfl (by omega) (and3 ⟨⟨RelB.of_ext (Keep.refl _ _),hx⟩,by rw [show ((i+r.length-1:Nat):Int)=(i:Int)+r.length-1 by omega];rfl⟩ ⟨trivial,trivial⟩)),
      fun c wx hx=>ObX.op rfl (O.call (xs:=[.tmp 52,.tmp 56]) call253 rfl rfl (rAt_calls lo q r (i+r.length-1) wx (hq3.ext hx) (by omega) hlen (by omega)) (fun v wy h=>and3 ⟨⟨RelB.of_ext h.2,hx.trans h.2⟩,h.1⟩ ⟨trivial,trivial⟩)),
      fun c wx hx=>ObX.op rfl (O.move rfl ⟨⟨RelB.of_ext (Keep.refl _ _),hx⟩,rfl,trivial,trivial⟩),
      fun c wx hx=>ObX.op rfl (O.move rfl ⟨⟨RelB.of_ext (Keep.refl _ _),hx⟩,rfl,trivial,trivial⟩),
      fun c wx hx=>ObX.op rfl (O.indexAddr runUnderlying237 sizeOf124 rfl rfl (hq3.ext hx) (by omega) (by omega) ⟨⟨RelB.of_ext (Keep.refl _ _),hx⟩,rfl,trivial,trivial⟩),
      fun c wx hx=>ObX.op rfl (O.loadAgg isAgg124 sizeOf124 rfl rfl ((hq3.ext hx).row hlt') ⟨⟨RelB.of_ext (Keep.refl _ _),hx⟩,rfl,trivial,trivial⟩),
      fun c wx hx=>ObX.op rfl (O.move rfl ⟨⟨RelB.of_ext (Keep.refl _ _),hx⟩,rfl,trivial,trivial⟩),
      fun c wx hx=>ObX.op rfl (O.move rfl ⟨⟨RelB.of_ext (Keep.refl _ _),hx⟩,rfl,trivial,trivial⟩),
      fun c wx hx=>ObX.op rfl (O.add64 rfl rfl (by omega) (and3 ⟨⟨RelB.of_ext (Keep.refl _ _),hx⟩,rfl⟩ ⟨trivial,trivial⟩)),
      fun c wx hx=>ObX.op rfl (O.call (xs:=[.tmp 62,.tmp 64]) call253 rfl rfl (rAt_calls lo q r (i+1) wx (hq3.ext hx) (by omega) hlen (by omega)) (fun v wy h=>and3 ⟨⟨RelB.of_ext h.2,hx.trans h.2⟩,h.1⟩ ⟨trivial,trivial⟩)),
      fun c wx hx=>ObX.op rfl (O.alloc zeroValue124 (fun b wy hb hz he hB=>and3 ⟨⟨RelB.of_ext he,hx.trans he⟩,b,(0,0),rfl,by have:=hx.size;omega,hB⟩ ⟨fun q hq=>by { cases hq;exact Nat.le_of_eq hb.symm },trivial⟩)),
      fun c wx hx=>ObX.op rfl (O.alloc zeroValue124 (fun b wy hb hz he hB=>and3 ⟨⟨RelB.of_ext he,hx.trans he⟩,b,(0,0),rfl,by have:=hx.size;omega,hB⟩ ⟨fun q hq=>by { cases hq;exact Nat.le_of_eq hb.symm },trivial⟩)),
      fun c wx hx=>ObX.op rfl (O.alloc zeroValue124 (fun b wy hb hz he hB=>and3 ⟨⟨RelB.of_ext he,hx.trans he⟩,b,(0,0),rfl,by have:=hx.size;omega,hB⟩ ⟨fun q hq=>by { cases hq;exact Nat.le_of_eq hb.symm },trivial⟩)),
      fun wx hx v8 hv8=>by { obtain ⟨b5,c5,rfl,hb5,hB5⟩:=hv8;exact ObX.op rfl (O.storeAgg sizeOf124 rfl rfl rfl hB5 (Nat.le_refl _) (pC_one (rP r i)) (fun w80 hu80 hB80=>and3 ⟨⟨RelB.upd hu80 hB80,hx.upd hu80 (.inr hb5)⟩,rfl⟩ ⟨trivial,fun u hu=>by { cases hu;exact ⟨b5,rfl,hb5,hB80⟩ }⟩)) },
      trivial⟩ (fun w9 hI9 v8 hv8 v9 hv9 v10 hv10 hp9=>?_)
    obtain ⟨vj,hvj,hf1,_⟩:=hp9 14 15 _ _ _ _ (by decide) (by decide) rfl rfl rfl rfl
    obtain rfl:=hvj _ _ rfl rfl
    obtain ⟨vj,hvj,hf2,_⟩:=hp9 14 16 _ _ _ _ (by decide) (by decide) rfl rfl rfl rfl
    obtain rfl:=hvj _ _ rfl rfl
    obtain ⟨vj,hvj,hf3,_⟩:=hp9 15 16 _ _ _ _ (by decide) (by decide) rfl rfl rfl rfl
    obtain rfl:=hvj _ _ rfl rfl
    obtain ⟨_,_,_,hlk⟩:=hp9 14 17 _ _ _ _ (by decide) (by decide) rfl rfl rfl rfl
    obtain ⟨b5,rfl,hb5,hB5⟩:=hlk rfl
    obtain ⟨b6,c6,rfl,hb6,hB6⟩:=hv9
    obtain ⟨b7,c7,rfl,hb7,hB7⟩:=hv10
    have hn1:b5≠b6:=fun e=>hf1 b5 rfl (by rw [e];rfl)
    have hn2:b5≠b7:=fun e=>hf2 b5 rfl (by rw [e];rfl)
    have hn3:b6≠b7:=fun e=>hf3 b6 rfl (by rw [e];rfl)
    refine L.o (O.storeAgg sizeOf124 rfl rfl rfl hB6 (Nat.le_refl _) (pC_one (rA r i)) (fun w81 hu81 hB81=>?_))
    have hB7':=Blk.upd (cs:=pC c7) hB7 hu81 (Ne.symm hn3)
    refine L.o (O.storeAgg sizeOf124 rfl rfl rfl hB7' (Nat.le_refl _) (pC_one (rB r i)) (fun w82 hu82 hB82=>?_))
    have hP:Blk w82 b5 (pC (rP r i)) 124:=Blk.upd (cs:=pC (rP r i)) (Blk.upd (cs:=pC (rP r i)) hB5 hu81 hn1) hu82 hn2
    have hA:Blk w82 b6 (pC (rA r i)) 124:=Blk.upd (cs:=pC (rA r i)) hB81 hu82 hn3
    have hB:Blk w82 b7 (pC (rB r i)) 124:=hB82
    have he82:Ext w3 w82:=(hI9.upd hu81 (.inr hb6)).upd hu82 (.inr hb7)
    have hsp:=hr.spike i hlt'
    refine L.nil (T.q (L.o (O.loadAgg isAgg124 sizeOf124 rfl rfl hP.row (L.o (O.loadAgg isAgg124 sizeOf124 rfl rfl hA.row (L.o (O.loadAgg isAgg124 sizeOf124 rfl rfl hB.row (L.o (O.call (xs:=[.tmp 66,.tmp 67,.tmp 68]) call255 rfl rfl (rTurn_calls (rP r i) (rA r i) (rB r i) w82 nP nA nB) (fun v83 w83 hq=>?_))))))))))
    obtain ⟨rfl,he83⟩:=hq
    refine L.o (O.eql_s rfl rfl (fun ht0=>?_) (fun ht0=>?_))
    ·refine L.m rfl (L.o (O.loadAgg isAgg124 sizeOf124 rfl rfl ((Blk.ext (cs:=pC (rP r i)) hP he83).row) (L.o (O.loadAgg isAgg124 sizeOf124 rfl rfl ((Blk.ext (cs:=pC (rA r i)) hA he83).row) (L.o (O.loadAgg isAgg124 sizeOf124 rfl rfl ((Blk.ext (cs:=pC (rB r i)) hB he83).row) (L.o (O.call (xs:=[.tmp 72,.tmp 73,.tmp 74]) call272 rfl rfl (rFwd_calls (rP r i) (rA r i) (rB r i) w83 nP nA nB) (fun v84 w84 hq=>?_)))))))))
     obtain ⟨rfl,he84⟩:=hq
     refine L.o (O.lss_f rfl rfl (fun h=>hsp ⟨ht0,h⟩) (L.o (O.pick_true rfl rfl (L.nil (T.cf (T.skip (T.blk (T.region (L.m rfl (L.o (O.add64 rfl rfl (by omega) (L.a rfl (L.nil (T.again (i+1) (by omega) ⟨rfl,rfl,rfl,trivial⟩ ⟨hlt',he3.trans (he82.trans (he83.trans he84))⟩))))))))))))))
    ·refine L.m rfl (L.p (L.p (L.p (L.p (L.p (L.o (O.pick_false rfl rfl (L.nil (T.cf (T.skip (T.blk (T.region (L.m rfl (L.o (O.add64 rfl rfl (by omega) (L.a rfl (L.nil (T.again (i+1) (by omega) ⟨rfl,rfl,rfl,trivial⟩ ⟨hlt',he3.trans (he82.trans he83)⟩))))))))))))))))))
   ·refine L.nil (T.cf (T.exit rfl (T.seq (T.q (L.a rfl (L.nil (T.block (?_))))))))
    refine T.loop (σ:=Nat) (fun i=>[(0,q),(4,.int .i64 r.length),(11,.int .i64 i)]) (fun i w'=>i≤r.length∧Ext w w') (fun i=>r.length-i) (0) ⟨rfl,rfl,rfl,trivial⟩ ⟨Nat.zero_le _,he3⟩ ?_
    rintro i w4 ⟨hi,he4⟩
    refine T.seq (T.q (L.m rfl (L.m rfl (L.o (O.lss_s rfl rfl (fun hlt=>?_) (fun hlt=>?_))))))
    ·refine L.nil (?_)
     have hlt':i<r.length:=by omega
     refine T.ct (T.skip (T.seq (T.block (T.q (L.a rfl (L.nil (T.block (?_))))))))
     refine T.loop (σ:=Nat) (fun j=>[(0,q),(4,.int .i64 r.length),(11,.int .i64 i),(12,.int .i64 j)]) (fun j w'=>j≤i∧Ext w w') (fun j=>i-j) (0) ⟨rfl,rfl,rfl,rfl,trivial⟩ ⟨Nat.zero_le _,he4⟩ ?_
     rintro j w5 ⟨hj,he5⟩
     have hq5:=hq.ext he5
     refine T.seq (T.q (L.m rfl (L.o (O.add64 rfl rfl (by omega) (L.m rfl (L.o (O.lss_s rfl rfl (fun hjl=>?_) (fun hjl=>?_))))))))
     ·refine L.nil (?_)
      have hjl':j+1<i:=by omega
      have n1:Nr (rA r j):=hn _ (by omega)
      have n2:Nr (rA r (j+1)):=hn _ (by omega)
      have n3:Nr (rA r i):=hn _ hlt'
      have n4:Nr (rB r i):=hn _ (Nat.mod_lt _ (by omega))
      refine T.ct (T.skip (T.seq (T.block (T.seq (T.q (L.m rfl (L.o (O.eql_s rfl rfl (fun hj0=>?_) (fun hj0=>?_)))))))))
      ·refine L.m rfl (L.m rfl (L.m rfl (L.o (O.sub64 rfl rfl (by omega) (L.o (O.eql_s rfl rfl (fun hin=>?_) (fun hin=>?_)))))))
       ·refine L.o (O.pick_true rfl rfl (L.nil (T.ct (T.exit rfl (T.region (L.m rfl (L.o (O.add64 rfl rfl (by omega) (L.a rfl (L.nil (T.again (j+1) (by omega) ⟨rfl,rfl,rfl,rfl,trivial⟩ ⟨by omega,he5⟩)))))))))))
       ·refine L.o (O.pick_true rfl rfl (L.nil (T.cf (T.skip (T.seq (?_))))))
        refine T.anyE mixed 17 [0,12,11] rfl [.is _,.is _,.is _,.is _,.is _,.is _,.is (.int .i64 ((j+1:Nat):Int)),.is _,.is _,.is _,.is _,.is _,.is _,.is _,.is _,.is (.int .i64 ((i+1:Nat):Int)),.is (pV (rB r i))] [[],[],[0,1],[2],[],[],[5],[4,6],[7],[],[],[9,10],[11],[],[],[14],[13,15]] [[],[],[0,1],[0,1,2],[],[],[5],[4,5,6],[4,5,6,7],[],[],[9,10],[9,10,11],[],[],[14],[13,14,15],[0,1,2,3,4,5,6,7,8,9,10,11,12,13,14,15,16],[0,1,2,3,4,5,6,7,8,9,10,11,12,13,14,15,16,17]] (by kernel_rfl) (by kernel_rfl) rfl (by kernel_rfl) trivial ⟨fun wx hx=>Ob.o (O.move rfl kR),
          fun wx hx=>Ob.o (O.move rfl kR),
          fun wx hx=>Ob.o (O.indexAddr runUnderlying237 sizeOf124 rfl rfl (hq5.ext hx) (by omega) (by omega) kR),
          fun wx hx=>Ob.o (O.loadAgg isAgg124 sizeOf124 rfl rfl ((hq5.ext hx).row (show j<r.length by omega)) kR),
          fun wx hx=>Ob.o (O.move rfl kR),
          fun wx hx=>Ob.o (O.move rfl kR),
          fun wx hx=>Ob.o (O.add64 rfl rfl (by omega) kR),
          fun wx hx=>Ob.o (O.indexAddr runUnderlying237 sizeOf124 rfl rfl (hq5.ext hx) (by omega) (by omega) kR),
          fun wx hx=>Ob.o (O.loadAgg isAgg124 sizeOf124 rfl rfl ((hq5.ext hx).row (show j+1<r.length by omega)) kR),
          fun wx hx=>Ob.o (O.move rfl kR),
          fun wx hx=>Ob.o (O.move rfl kR),
          fun wx hx=>Ob.o (O.indexAddr runUnderlying237 sizeOf124 rfl rfl (hq5.ext hx) (by omega) (by omega) kR),
          fun wx hx=>Ob.o (O.loadAgg isAgg124 sizeOf124 rfl rfl ((hq5.ext hx).row hlt') kR),
          fun wx hx=>Ob.o (O.move rfl kR),
          fun wx hx=>Ob.o (O.move rfl kR),
          fun wx hx=>Ob.o (O.add64 rfl rfl (by omega) kR),
          fun wx hx=>Ob.o (O.call (xs:=[.tmp 111,.tmp 113]) call253 rfl rfl (rAt_calls lo q r (i+1) wx (hq5.ext hx) (by omega) hlen (by omega)) (fun v wy h=>⟨h.2,h.1⟩)),
          trivial⟩ (fun w6 he6=>?_)
        refine L.o (O.call (xs:=[.tmp 101,.tmp 106,.tmp 110,.tmp 114]) call252 rfl rfl (rHow_calls (rA r j) (rA r (j+1)) (rA r i) (rB r i) w6 n1 n2 n3 n4) (fun v7 w7 hq=>?_))
        obtain ⟨rfl,he7⟩:=hq
        have hho:=hr.how i j hlt' hjl' (fun h=>hin (by omega))
        rw [hho]
        refine L.o (O.neq_f rfl rfl (by decide) (L.nil (T.cf (T.skip (T.blk (T.region (L.m rfl (L.o (O.add64 rfl rfl (by omega) (L.a rfl (L.nil (T.again (j+1) (by omega) ⟨rfl,rfl,rfl,rfl,trivial⟩ ⟨by omega,he5.trans (he6.trans he7)⟩))))))))))))
      ·refine L.m rfl (L.p (L.p (L.p (L.p (L.o (O.pick_false rfl rfl (L.nil (T.cf (T.skip (T.seq (?_)))))))))))
       refine T.anyE mixed 17 [0,12,11] rfl [.is _,.is _,.is _,.is _,.is _,.is _,.is (.int .i64 ((j+1:Nat):Int)),.is _,.is _,.is _,.is _,.is _,.is _,.is _,.is _,.is (.int .i64 ((i+1:Nat):Int)),.is (pV (rB r i))] [[],[],[0,1],[2],[],[],[5],[4,6],[7],[],[],[9,10],[11],[],[],[14],[13,15]] [[],[],[0,1],[0,1,2],[],[],[5],[4,5,6],[4,5,6,7],[],[],[9,10],[9,10,11],[],[],[14],[13,14,15],[0,1,2,3,4,5,6,7,8,9,10,11,12,13,14,15,16],[0,1,2,3,4,5,6,7,8,9,10,11,12,13,14,15,16,17]] (by kernel_rfl) (by kernel_rfl) rfl (by kernel_rfl) trivial ⟨fun wx hx=>Ob.o (O.move rfl kR),
         fun wx hx=>Ob.o (O.move rfl kR),
         fun wx hx=>Ob.o (O.indexAddr runUnderlying237 sizeOf124 rfl rfl (hq5.ext hx) (by omega) (by omega) kR),
         fun wx hx=>Ob.o (O.loadAgg isAgg124 sizeOf124 rfl rfl ((hq5.ext hx).row (show j<r.length by omega)) kR),
         fun wx hx=>Ob.o (O.move rfl kR),
         fun wx hx=>Ob.o (O.move rfl kR),
         fun wx hx=>Ob.o (O.add64 rfl rfl (by omega) kR),
         fun wx hx=>Ob.o (O.indexAddr runUnderlying237 sizeOf124 rfl rfl (hq5.ext hx) (by omega) (by omega) kR),
         fun wx hx=>Ob.o (O.loadAgg isAgg124 sizeOf124 rfl rfl ((hq5.ext hx).row (show j+1<r.length by omega)) kR),
         fun wx hx=>Ob.o (O.move rfl kR),
         fun wx hx=>Ob.o (O.move rfl kR),
         fun wx hx=>Ob.o (O.indexAddr runUnderlying237 sizeOf124 rfl rfl (hq5.ext hx) (by omega) (by omega) kR),
         fun wx hx=>Ob.o (O.loadAgg isAgg124 sizeOf124 rfl rfl ((hq5.ext hx).row hlt') kR),
         fun wx hx=>Ob.o (O.move rfl kR),
         fun wx hx=>Ob.o (O.move rfl kR),
         fun wx hx=>Ob.o (O.add64 rfl rfl (by omega) kR),
         fun wx hx=>Ob.o (O.call (xs:=[.tmp 111,.tmp 113]) call253 rfl rfl (rAt_calls lo q r (i+1) wx (hq5.ext hx) (by omega) hlen (by omega)) (fun v wy h=>⟨h.2,h.1⟩)),
         trivial⟩ (fun w6 he6=>?_)
       refine L.o (O.call (xs:=[.tmp 101,.tmp 106,.tmp 110,.tmp 114]) call252 rfl rfl (rHow_calls (rA r j) (rA r (j+1)) (rA r i) (rB r i) w6 n1 n2 n3 n4) (fun v7 w7 hq=>?_))
       obtain ⟨rfl,he7⟩:=hq
       have hho:=hr.how i j hlt' hjl' (fun h=>hj0 (by omega))
       rw [hho]
       refine L.o (O.neq_f rfl rfl (by decide) (L.nil (T.cf (T.skip (T.blk (T.region (L.m rfl (L.o (O.add64 rfl rfl (by omega) (L.a rfl (L.nil (T.again (j+1) (by omega) ⟨rfl,rfl,rfl,rfl,trivial⟩ ⟨by omega,he5.trans (he6.trans he7)⟩))))))))))))
     ·refine L.nil (T.cf (T.exit rfl (T.blk (T.region (L.m rfl (L.o (O.add64 rfl rfl (by omega) (L.a rfl (L.nil (T.again (i+1) (by omega) ⟨rfl,rfl,rfl,trivial⟩ ⟨hlt',he5⟩))))))))))
    ·refine L.nil (T.cf (T.exit rfl (T.q (L.a rfl (L.a rfl (L.nil (T.ret2 results266 rfl rfl ⟨rfl,he4⟩)))))))

theorem rRingCheck_calls (lo:Nat) (q:Value) (r:List Pt) (w:World) (hq:Pts lo w q r) (hr:RR r) :
  Calls Tryz.prog 250 #[q] w (Ret fun v w'=>v = .int .i64 0∧Ext w w'):=by
 refine T.enter (vs:=[q]) func250 rfl ntmps250 rfl ?_
 refine T.q (L.a rfl (L.nil (T.q (L.m rfl (L.o (O.call (xs:=[.tmp 6]) call266 rfl rfl (rRingFlaw_calls lo q r w hq hr) (fun v1 w1 hq=>?_)))))))
 obtain ⟨rfl,he1⟩:=hq
 refine L.m rfl (L.o (O.extract rfl rfl (L.o (O.extract rfl rfl (L.a rfl (L.a rfl (L.nil (T.seq (T.q (L.m rfl (L.o (O.gtr_f rfl rfl (by decide) (L.nil (T.cf (T.skip (T.q (L.a rfl (L.nil (T.ret1 results250 rfl ⟨rfl,he1⟩)))))))))))))))))))

open Go Go.E

theorem rRingsX_calls (lo:Nat) (oa ob:Option Addr) (cap cap2:Nat) (os:List Int) (hs:List RiV) (w:World) (hf:FaV.ok lo w (⟨⟨.slice oa os.length cap,os⟩,.slice ob hs.length cap2,hs⟩:FaV)) (hn:hs.length≤100000) :
  Calls Tryz.prog 131 #[(⟨⟨.slice oa os.length cap,os⟩,.slice ob hs.length cap2,hs⟩:FaV).val] w (Ret fun v w'=>Ext w w'∧Sl w.heap.size w' v (⟨⟨.slice oa os.length cap,os⟩,.slice ob hs.length cap2,hs⟩:FaV).ri.length 1 (riCells (⟨⟨.slice oa os.length cap,os⟩,.slice ob hs.length cap2,hs⟩:FaV).ri)∧w'.ownsRow w.heap.size 30 1 v (⟨⟨.slice oa os.length cap,os⟩,.slice ob hs.length cap2,hs⟩:FaV).ri.length (riCells (⟨⟨.slice oa os.length cap,os⟩,.slice ob hs.length cap2,hs⟩:FaV).ri)):=by
 refine T.enter (vs:=[(⟨⟨.slice oa os.length cap,os⟩,.slice ob hs.length cap2,hs⟩:FaV).val]) func131 rfl ntmps131 rfl ?_
 refine T.q (L.o (O.box rfl (fun b1 w1 hb1 hz1 he1 hB1=>?_)))
 have hF1:Blk w1 b1 (⟨⟨.slice oa os.length cap,os⟩,.slice ob hs.length cap2,hs⟩:FaV).cells 127:=hB1
 have hf1:=hf.ext he1
 refine L.a rfl (L.nil (T.q (L.o (O.fieldAddr runUnderlying127 rfl sizeOf30 rfl (L.o (O.load isAgg30 rfl (hF1.cell rfl) (L.o (O.buildSlice (el:=30) (parts:=[(0,.tmp 4)]) (vs:=[(0,_)]) (cs:=[(.slice oa os.length cap)]) rfl (fun w=>by kernel_rfl) (fun b2 w2 hb2 hz2 he2 hB2=>?_)))))))))
 refine L.o (O.fieldAddr runUnderlying127 rfl sizeOf125 rfl (L.o (O.load isAgg125 rfl ((Blk.ext (cs:=(⟨⟨.slice oa os.length cap,os⟩,.slice ob hs.length cap2,hs⟩:FaV).cells) hF1 he2).cell rfl) (?_))))
 have hf2:=hf1.ext he2
 have hO2:=owns_blk (base:=w.heap.size) (n:=1) (sz:=1) (cap:=1) hB2 (by have:=he1.size;omega) (by decide) (by decide) rfl
 have hcl:(riCells hs).length=hs.length:=by simp [riCells]
 have h1c:∀ c∈riCells hs,c.oneCell'=true:=fun c hc=>by simp only [riCells,List.mem_map] at hc;obtain ⟨x,hx,rfl⟩:=hc;exact Sl.one (hf2.hs x hx)
 have hS2:Sl lo w2 (.slice ob hs.length cap2) hs.length 1 (riCells hs):=hf2.sl
 refine L.o (O.append (size:=1) (bytes:=24) runUnderlying125 Tryz.infoOf30 rfl rfl rfl rfl (by decide) rfl rfl hO2 hS2 h1c (by omega) (by simp only [maxLen];omega) (by have:=he1.size;have:=he2.size;omega) (fun v3 w3 hO3 hG3=>?_))
 refine L.a rfl (L.nil (T.ret1 results131 rfl ⟨(he1.trans he2).grown0 hO2 hG3 (Nat.le_refl _),?_⟩))
 have e:1+hs.length=hs.length+1:=Nat.add_comm _ _
 rw [e] at hO3
 exact ⟨Sl.of_owns hO3,hO3⟩

theorem rRings_calls (lo:Nat) (f:FaV) (w:World) (hf:f.ok lo w) (hn:f.hs.length≤100000) :
  Calls Tryz.prog 131 #[f.val] w (Ret fun v w'=>Ext w w'∧Sl w.heap.size w' v f.ri.length 1 (riCells f.ri)∧w'.ownsRow w.heap.size 30 1 v f.ri.length (riCells f.ri)):=by
 obtain ⟨⟨ov,os⟩,hv,hs⟩:=f
 obtain ⟨oa,cap,e1,_,_⟩:=Sl.val hf.o
 replace e1:ov = .slice oa os.length cap:=e1
 obtain ⟨ob,cap2,e2,_,_⟩:=Sl.val hf.sl
 replace e2:hv = .slice ob hs.length cap2:=e2
 subst e1 e2
 exact rRingsX_calls lo oa ob cap cap2 os hs w hf hn
theorem rRinged_calls (lo lo2:Nat) (c:CxV) (q:Value) (l:List Int) (t:Int) (w:World) (hc:Pts lo w c.pv c.ps) (hq:Ints .i64 lo2 w q l) (hf:NfL c.ps) (ht:t=1∨t=2) (hl:IxL c.ps.length l) (hlen:l.length≤1000000) :
  Calls Tryz.prog 224 #[c.val,q,.int .i64 t] w (Ret fun v w'=>Ext w w'∧Pts w.heap.size w' v (cor c.ps t l)):=by
 refine T.enter (vs:=[c.val,q,.int .i64 t]) func224 rfl ntmps224 rfl ?_
 refine T.q (L.o (O.box rfl (fun b3 w3 hb3 hz3 he3 hB3=>?_)))
 have hC3:Blk w3 b3 c.cells 46:=hB3
 have hc3:=hc.ext he3
 have hq3:=hq.ext he3
 refine L.a rfl (L.nil (T.q (L.a rfl (L.nil (T.seq (T.q (L.a rfl (L.nil (T.block (?_))))))))))
 refine T.loop (σ:=Nat × Value) (fun s=>[(1,q),(2,.int .i64 t),(3,.pointer (some ⟨b3,0,none⟩)),(7,s.2),(8,.int .i64 s.1)]) (fun s w'=>s.1≤l.length∧Ext w3 w'∧w'.ownsRow w3.heap.size 124 2 s.2 s.1 (pcs (cor c.ps t (l.take s.1)))) (fun s=>l.length-s.1) ((0,.slice none 0 0)) ⟨rfl,rfl,rfl,rfl,rfl,trivial⟩ ⟨Nat.zero_le _,Keep.refl _ _,owns_nil _ _ _ _⟩ ?_
 rintro ⟨i,s⟩ w4 ⟨hi,he4,hO4⟩
 simp only at hi hO4
 have hq4:=hq3.ext he4
 have hc4:=hc3.ext he4
 have hC4:=Blk.ext (cs:=c.cells) hC3 he4
 refine T.seq (T.q (L.m rfl (L.m rfl (L.o (O.len runUnderlying30 rfl (Sl.val hq4) (L.o (O.lss_s rfl rfl (fun hlt=>?_) (fun hlt=>?_))))))))
 ·refine L.nil (?_)
  have hlt':i<l.length:=by simp only at hlt;omega
  have hix:=hl i hlt'
  obtain ⟨k,hk⟩:∃ k:Nat,l.getD i 0=k:=⟨(l.getD i 0).toNat,by omega⟩
  have hkl:k<c.ps.length:=by omega
  have hb:=far_bnd (hf k hkl)
  have hb1:=times_bnd ht hb.1
  have hb2:=times_bnd ht hb.2
  have hcp:corP c.ps t (l.getD i 0)=(t*(c.ps.getD k (0,0)).1,t*(c.ps.getD k (0,0)).2):=by rw [hk];rfl
  refine T.ct (T.skip (T.seq (T.block (T.seq (?_)))))
  refine T.anyE mixed 9 [3,1,8] rfl [.is _,.is _,.is _,.is _,.is _,.is (.int .i64 (k:Int)),.is _,.is _,.such (PtB w4.heap.size)] [[],[0],[],[],[2,3],[4],[1,5],[6],[]] [[],[0],[],[],[2,3],[2,3,4],[0,1,2,3,4,5],[0,1,2,3,4,5,6],[],[0,1,2,3,4,5,6,7,8]] (by kernel_rfl) (by kernel_rfl) rfl (by kernel_rfl) ⟨PtB.ste,trivial⟩ ⟨fun wx hx=>Ob.o (O.fieldAddr runUnderlying46 rfl sizeOf43 rfl kR),
    fun wx hx=>Ob.o (O.load isAgg43 rfl ((Blk.ext (cs:=c.cells) hC4 hx).cell rfl) kR),
    fun wx hx=>Ob.o (O.move rfl kR),
    fun wx hx=>Ob.o (O.move rfl kR),
    fun wx hx=>Ob.o (O.indexAddr runUnderlying30 sizeOf3 rfl rfl (hq4.ext hx) (by (try dsimp only);omega) (by (try dsimp only);omega) kR),
    fun wx hx=>Ob.o (O.load isAgg3 rfl (Ints.at (hq4.ext hx) hlt') ⟨Keep.refl _ _,by rw [hk];rfl⟩),
    fun wx hx=>Ob.o (O.indexAddr runUnderlying43 sizeOf124 rfl rfl (hc4.ext hx) (by omega) (by omega) kR),
    fun wx hx=>Ob.o (O.loadAgg isAgg124 sizeOf124 rfl rfl ((hc4.ext hx).row hkl) kR),
    fun wx hx=>Ob.o (O.alloc zeroValue124 (fun b wy hb hz he hB=>⟨he,b,(0,0),rfl,by have:=hx.size;omega,hB⟩)),
    trivial⟩ (fun w5 he5 v9 hv9=>?_)
  obtain ⟨b5,c5,rfl,hb5,hB5⟩:=hv9
  refine L.o (O.storeAgg sizeOf124 rfl rfl rfl hB5 (Nat.le_refl _) (pC_one (c.ps.getD k (0,0))) (fun w6 hu6 hB6=>?_))
  have hX6:Blk w6 b5 (pC (c.ps.getD k (0,0))) 124:=hB6
  have he46:Ext w4 w6:=he5.upd hu6 (.inr hb5)
  refine L.nil (T.region (L.m rfl (L.m rfl (L.o (O.fieldAddr runUnderlying124 rfl sizeOf3 rfl (L.o (O.load isAgg3 rfl (hX6.cell rfl) (L.o (O.mul64 rfl rfl (by omega) (L.m rfl (L.o (O.fieldAddr runUnderlying124 rfl sizeOf3 rfl (L.o (O.load isAgg3 rfl (hX6.cell rfl) (L.o (O.mul64 rfl rfl (by omega) (L.o (O.build (v:=pV (corP c.ps t (l.getD i 0))) (parts:=[(0,.tmp 28),(1,.tmp 32)]) (vs:=[(0,_),(1,_)]) rfl (fun w=>by rw [hcp];show _=_;kernel_rfl) (L.o (O.buildSlice (el:=124) (parts:=[(0,.tmp 33)]) (vs:=[(0,_)]) (cs:=(pC (corP c.ps t (l.getD i 0)))) rfl (fun w=>by kernel_rfl) (fun b7 w7 hb7 hz7 he7 hB7=>?_)))))))))))))))))))))
  have he47:Ext w4 w7:=he46.trans he7
  have hO7':=owns_keep hO4 he47 (Nat.zero_le _)
  have hS7:Sl 0 w7 (.slice (some ⟨b7,0,none⟩) 1 1) 1 2 (pC (corP c.ps t (l.getD i 0))):=Sl.of_blk hB7 rfl (Nat.le_refl _) (by decide) (Nat.zero_le _)
  refine L.o (O.append (size:=2) (bytes:=16) runUnderlying237 Tryz.infoOf124 rfl rfl rfl rfl (by decide) rfl rfl hO7' hS7 (pC_one _) (by omega) (by simp only [maxLen];omega) (by have:=he4.size;have:=he47.size;omega) (fun v8 w8 hO8 hG8=>?_))
  have he38:Ext w3 w8:=Keep.grown0 (he4.trans he47) hO7' hG8 (Nat.le_refl _)
  refine L.a rfl (L.nil (T.blk (T.region (L.m rfl (L.o (O.add64 rfl rfl (by simp only;omega) (L.a rfl (L.nil (T.again ((i+1,v8)) (by omega) ⟨rfl,rfl,rfl,rfl,rfl,trivial⟩ ⟨hlt',he38,by rw [cor_take c.ps t l hlt',pcs_append,pcs_one];exact hO8⟩)))))))))
 ·refine L.nil (?_)
  obtain rfl:i=l.length:=by simp only at hlt;omega
  rw [List.take_length] at hO4
  refine T.cf (T.exit rfl (T.q (L.m rfl (L.a rfl (L.nil (T.ret1 results224 rfl ⟨he3.trans he4,?_⟩))))))
  have h:=(Sl.of_owns hO4).mono (by have:=he3.size;omega)
  unfold Pts
  rw [cor_len];exact h

theorem rMiddle_calls (lo:Nat) (cx:CxV) (s:St) (w:World) (hc:Pts lo w cx.pv cx.ps) (hf:NfL cx.ps) (hsa:s.a<cx.ps.length) (hsb:s.b<cx.ps.length) :
  Calls Tryz.prog 225 #[cx.val,s.val] w (Ret fun v w'=>v=pV (midP cx.ps s)∧Ext w w'):=by
 have h1:=far_bnd (gP_far hf hsa)
 have h2:=far_bnd (gP_far hf hsb)
 refine T.enter (vs:=[cx.val,s.val]) func225 rfl ntmps225 rfl ?_
 refine T.q (L.o (O.box rfl (fun b2 w2 hb2 hz2 he2 hB2=>?_)))
 refine L.o (O.box rfl (fun b3 w3 hb3 hz3 he3 hB3=>?_))
 refine L.o (O.alloc zeroValue124 (fun b4 w4 hb4 hz4 he4 hB4=>?_))
 have hS:Blk w4 b3 s.cells 292:=Blk.ext (cs:=s.cells) hB3 he4
 have hR:Blk w4 b4 (pC (0,0)) 124:=hB4
 have he04:=(he2.trans he3).trans he4
 have hC:Blk w4 b2 cx.cells 46:=Blk.ext (cs:=cx.cells) hB2 (he3.trans he4)
 have hc4:=hc.ext he04
 refine L.nil (T.seq (?_))
 refine T.anyF2 mixed 15 1 [2,3] rfl [.is _,.is _,.is _,.is _,.is _,.is _,.is _,.is _,.is _,.is _,.is _,.is _,.such (PtB w4.heap.size),.such (PtB w4.heap.size),.is undef] [[],[0],[],[2],[1,3],[4],[],[6],[],[8],[7,9],[10],[],[],[12,5]] [none,none,none,none,none,none,none,none,none,none,none,none,none,none,some 0] [[],[0],[],[2],[0,1,2,3],[0,1,2,3,4],[],[6],[],[8],[6,7,8,9],[6,7,8,9,10],[],[],[0,1,2,3,4,5,12,13],[0,1,2,3,4,5,6,7,8,9,10,11,12,13,14]] [12,13] [(14,12,5)] (fun _ _ u _ W=>∃ b,u = .pointer (some ⟨b,0,none⟩)∧w4.heap.size≤b∧Blk W b (pC (gP cx.ps s.a)) 124) (fun _ W=>Ext w4 W) (RelB w4.heap.size (gP cx.ps s.a)) (fun i f v w hi hf hh=>by { rcases (show i=12∨i=13 by simpa using hi) with rfl|rfl <;> (simp only [List.getElem?_cons_succ,List.getElem?_cons_zero,Option.some.injEq] at hf;subst hf;exact PtB.lt hh) }) (fun i j vi vj W W' hr ⟨b,h1,h2,h3⟩=>(hr.own b _ h2 h3).elim fun c' k=>⟨b,h1,h2,(k.2 rfl)▸k.1⟩) (by kernel_rfl) (by kernel_rfl) (by kernel_rfl) (by kernel_rfl) rfl ⟨PtB.st,PtB.st,trivial⟩ (Keep.drew _ _) ⟨fun c wx hx=>ObX.op rfl (O.fieldAddr runUnderlying46 rfl sizeOf43 rfl ⟨⟨RelB.of_ext (Keep.refl _ _),hx⟩,rfl,trivial,trivial⟩),
   fun c wx hx=>ObX.op rfl (O.load isAgg43 rfl ((Blk.ext (cs:=cx.cells) hC hx).cell rfl) ⟨⟨RelB.of_ext (Keep.refl _ _),hx⟩,rfl,trivial,trivial⟩),
   fun c wx hx=>ObX.op rfl (O.fieldAddr runUnderlying292 rfl sizeOf3 rfl ⟨⟨RelB.of_ext (Keep.refl _ _),hx⟩,rfl,trivial,trivial⟩),
   fun c wx hx=>ObX.op rfl (O.load isAgg3 rfl ((Blk.ext (cs:=s.cells) hS hx).cell rfl) ⟨⟨RelB.of_ext (Keep.refl _ _),hx⟩,rfl,trivial,trivial⟩),
   fun c wx hx=>ObX.op rfl (O.indexAddr runUnderlying43 sizeOf124 rfl rfl (hc4.ext hx) (by omega) (by omega) ⟨⟨RelB.of_ext (Keep.refl _ _),hx⟩,rfl,trivial,trivial⟩),
   fun c wx hx=>ObX.op rfl (O.loadAgg isAgg124 sizeOf124 rfl rfl ((hc4.ext hx).row hsa) ⟨⟨RelB.of_ext (Keep.refl _ _),hx⟩,rfl,trivial,trivial⟩),
   fun c wx hx=>ObX.op rfl (O.fieldAddr runUnderlying46 rfl sizeOf43 rfl ⟨⟨RelB.of_ext (Keep.refl _ _),hx⟩,rfl,trivial,trivial⟩),
   fun c wx hx=>ObX.op rfl (O.load isAgg43 rfl ((Blk.ext (cs:=cx.cells) hC hx).cell rfl) ⟨⟨RelB.of_ext (Keep.refl _ _),hx⟩,rfl,trivial,trivial⟩),
   fun c wx hx=>ObX.op rfl (O.fieldAddr runUnderlying292 rfl sizeOf3 rfl ⟨⟨RelB.of_ext (Keep.refl _ _),hx⟩,rfl,trivial,trivial⟩),
   fun c wx hx=>ObX.op rfl (O.load isAgg3 rfl ((Blk.ext (cs:=s.cells) hS hx).cell rfl) ⟨⟨RelB.of_ext (Keep.refl _ _),hx⟩,rfl,trivial,trivial⟩),
   fun c wx hx=>ObX.op rfl (O.indexAddr runUnderlying43 sizeOf124 rfl rfl (hc4.ext hx) (by omega) (by omega) ⟨⟨RelB.of_ext (Keep.refl _ _),hx⟩,rfl,trivial,trivial⟩),
   fun c wx hx=>ObX.op rfl (O.loadAgg isAgg124 sizeOf124 rfl rfl ((hc4.ext hx).row hsb) ⟨⟨RelB.of_ext (Keep.refl _ _),hx⟩,rfl,trivial,trivial⟩),
   fun c wx hx=>ObX.op rfl (O.alloc zeroValue124 (fun b wy hb hz he hB=>and3 ⟨⟨RelB.of_ext he,hx.trans he⟩,b,(0,0),rfl,by have:=hx.size;omega,hB⟩ ⟨fun q hq=>by { cases hq;exact Nat.le_of_eq hb.symm },trivial⟩)),
   fun c wx hx=>ObX.op rfl (O.alloc zeroValue124 (fun b wy hb hz he hB=>and3 ⟨⟨RelB.of_ext he,hx.trans he⟩,b,(0,0),rfl,by have:=hx.size;omega,hB⟩ ⟨fun q hq=>by { cases hq;exact Nat.le_of_eq hb.symm },trivial⟩)),
   fun wx hx v5 hv5=>by { obtain ⟨b5,c5,rfl,hb5,hB5⟩:=hv5;exact ObX.op rfl (O.storeAgg sizeOf124 rfl rfl rfl hB5 (Nat.le_refl _) (pC_one (gP cx.ps s.a)) (fun w8 hu8 hB8=>and3 ⟨⟨RelB.upd hu8 hB8,hx.upd hu8 (.inr hb5)⟩,rfl⟩ ⟨trivial,fun u hu=>by { cases hu;exact ⟨b5,rfl,hb5,hB8⟩ }⟩)) },
   trivial⟩ (fun w7 hI7 v5 hv5 v6 hv6 hp7=>?_)
 obtain ⟨vj,hvj,hfr,_⟩:=hp7 12 13 _ _ _ _ (by decide) (by decide) rfl rfl rfl rfl
 obtain rfl:=hvj _ _ rfl rfl
 obtain ⟨_,_,_,hlk⟩:=hp7 12 14 _ _ _ _ (by decide) (by decide) rfl rfl rfl rfl
 obtain ⟨b5,rfl,hb5,hB5⟩:=hlk rfl
 obtain ⟨b6,c6,rfl,hb6,hB6⟩:=hv6
 have hne:b5≠b6:=fun e=>hfr b5 rfl (by rw [e];rfl)
 refine L.o (O.storeAgg sizeOf124 rfl rfl rfl hB6 (Nat.le_refl _) (pC_one (gP cx.ps s.b)) (fun w8 hu8 hB8=>?_))
 have hA8:Blk w8 b5 (pC (gP cx.ps s.a)) 124:=Blk.upd (cs:=pC (gP cx.ps s.a)) hB5 hu8 hne
 have hB8':Blk w8 b6 (pC (gP cx.ps s.b)) 124:=hB8
 have he48:Ext w4 w8:=hI7.upd hu8 (.inr hb6)
 refine L.nil (T.q (L.o (O.fieldAddr runUnderlying124 rfl sizeOf3 rfl (L.o (O.load isAgg3 rfl (hA8.cell rfl) (L.o (O.fieldAddr runUnderlying124 rfl sizeOf3 rfl (L.o (O.load isAgg3 rfl (hB8'.cell rfl) (L.o (O.add64 rfl rfl (by omega) (L.o (O.fieldAddr runUnderlying124 rfl sizeOf3 rfl (L.o (O.load isAgg3 rfl (hA8.cell rfl) (L.o (O.fieldAddr runUnderlying124 rfl sizeOf3 rfl (L.o (O.load isAgg3 rfl (hB8'.cell rfl) (L.o (O.add64 rfl rfl (by omega) (L.o (O.build (v:=pV (midP cx.ps s)) (parts:=[(0,.tmp 23),(1,.tmp 28)]) (vs:=[(0,_),(1,_)]) rfl (fun w=>by show _=_;kernel_rfl) (L.o (O.storeAgg sizeOf124 rfl rfl rfl (Blk.ext (cs:=pC (0,0)) hR he48) (Nat.le_refl _) (pC_one (midP cx.ps s)) (fun w9 hu9 hB9=>?_))))))))))))))))))))))))))
 have hR9:Blk w9 b4 (pC (midP cx.ps s)) 124:=hB9
 refine L.nil (T.retA results225 isAgg124 sizeOf124 rfl rfl hR9.row ⟨rfl,(he04.trans he48).upd hu9 (.inr (by have:=he2.size;have:=he3.size;omega))⟩)

open Go Go.E

open Geo (outB placeI)
def regB (ps:List Pt) (t:Int) (p:Pt) (ri:List RiV):Bool:=decide (∀ r,r<ri.length→outB ps t p r (ri.getD r r0).xs=false)
theorem ri_xs {lo:Nat} {w:World} {f:FaV} (h:f.ok lo w) {r:Nat} (hr:r<f.ri.length):Ints .i64 lo w (f.ri.getD r r0).v (f.ri.getD r r0).xs:=by
 rw [getD_get hr]
 have hm:=List.getElem_mem hr
 generalize f.ri[r]=x at hm ⊢
 simp only [FaV.ri,List.mem_cons] at hm
 rcases hm with rfl|hm
 ·exact h.o
 ·exact h.hs _ hm
theorem ri_mem {f:FaV} {r:Nat} (hr:r<f.ri.length):f.ri.getD r r0∈f.ri:=by rw [getD_get hr];exact List.getElem_mem hr
theorem fs_mem {fs:List FaV} {j:Nat} (hj:j<fs.length):fs.getD j f0∈fs:=by rw [getD_get hj];exact List.getElem_mem hj
theorem rRegion_calls (lo:Nat) (c:CxV) (j:Nat) (p:Pt) (t:Int) (w:World) (hc:c.ok lo w) (hf:NfL c.ps) (hx:IxC c) (hp:Nr p) (ht:t=1∨t=2) (hj:j<c.fs.length) :
  Calls Tryz.prog 226 #[c.val,.int .i64 j,pV p,.int .i64 t] w (Ret fun v w'=>v = .bool (regB c.ps t p (c.fs.getD j f0).ri)∧Ext w w'):=by
 have hj1:=hx _ (fs_mem hj)
 refine T.enter (vs:=[c.val,.int .i64 j,pV p,.int .i64 t]) func226 rfl ntmps226 rfl ?_
 refine T.q (L.o (O.box rfl (fun b4 w4 hb4 hz4 he4 hB4=>?_)))
 refine L.o (O.box rfl (fun b6 w6 hb6 hz6 he6 hB6=>?_))
 have hC:Blk w6 b4 c.cells 46:=Blk.ext (cs:=c.cells) hB4 he6
 have hP:Blk w6 b6 (pC p) 124:=hB6
 have he06:=he4.trans he6
 have hc6:=hc.ext he06
 have hle:=Sl.le hc6.sl
 refine L.a rfl (L.nil (T.q (L.o (O.fieldAddr runUnderlying46 rfl sizeOf44 rfl (L.o (O.load isAgg44 rfl (hC.cell rfl) (L.m rfl (L.o (O.indexAddr runUnderlying44 sizeOf127 rfl rfl hc6.sl (by omega) (by omega) (L.o (O.loadAgg isAgg127 sizeOf127 rfl rfl (hc6.row hj) (L.o (O.call (xs:=[.tmp 16]) call131 rfl rfl (rRings_calls lo (c.fs.getD j f0) w6 (hc6.at hj) hj1.1) (fun v7 w7 hq=>?_))))))))))))))
 obtain ⟨he7,hS7,hR7⟩:=hq
 have he07:=he06.trans he7
 refine L.a rfl (L.nil (T.seq (T.q (L.a rfl (L.nil (T.block (?_)))))))
 refine T.loop (σ:=Nat) (fun i=>[(3,.int .i64 t),(4,.pointer (some ⟨b4,0,none⟩)),(6,.pointer (some ⟨b6,0,none⟩)),(9,v7),(10,.int .i64 i)]) (fun i w'=>i≤(c.fs.getD j f0).ri.length∧Ext w7 w'∧∀ k,k<i→outB c.ps t p k ((c.fs.getD j f0).ri.getD k r0).xs=false) (fun i=>(c.fs.getD j f0).ri.length-i) (0) ⟨rfl,rfl,rfl,rfl,rfl,trivial⟩ ⟨Nat.zero_le _,Keep.refl _ _,fun k hk=>absurd hk (Nat.not_lt_zero _)⟩ ?_
 rintro i w8 ⟨hi,he8,hall⟩
 have hS8:Sl w6.heap.size w8 v7 (c.fs.getD j f0).ri.length 1 (riCells (c.fs.getD j f0).ri):=Sl.ext hS7 he8
 have hle8:=Sl.le hS8
 have he68:=he7.trans he8
 have hc8:=hc6.ext he68
 refine T.seq (T.q (L.m rfl (L.m rfl (L.o (O.len runUnderlying125 rfl (Sl.val hS8) (L.o (O.lss_s rfl rfl (fun hlt=>?_) (fun hlt=>?_))))))))
 ·refine L.nil (?_)
  have hlt':i<(c.fs.getD j f0).ri.length:=by omega
  have hri:=hj1.2 _ (ri_mem hlt')
  refine T.ct (T.skip (T.seq (T.block (T.seq (?_)))))
  refine T.anyE mixed 8 [4,9,10,3,6] rfl [.is _,.is _,.is _,.is _,.is _,.is _,.such (Corn c.ps t ((c.fs.getD j f0).ri.getD i r0).xs),.is _] [[],[],[],[1,2],[3],[],[0,4,5],[]] [[],[],[],[1,2],[1,2,3],[],[0,1,2,3,4,5],[],[0,1,2,3,4,5,6,7],[0,1,2,3,4,5,6,7,8]] (by kernel_rfl) (by kernel_rfl) rfl (by kernel_rfl) ⟨Corn.st,trivial⟩ ⟨fun wx hx=>Ob.o (O.loadAgg isAgg46 sizeOf46 rfl rfl ((Blk.ext (cs:=c.cells) hC (he68.trans hx)).row) kR),
    fun wx hx=>Ob.o (O.move rfl kR),
    fun wx hx=>Ob.o (O.move rfl kR),
    fun wx hx=>Ob.o (O.indexAddr runUnderlying125 sizeOf30 rfl rfl (Sl.ext hS8 hx) (by omega) (by omega) kR),
    fun wx hx=>Ob.o (O.load isAgg30 rfl (by rw [Int.toNat_natCast,Nat.mul_one];exact Sl.cell (Sl.ext hS8 hx) (ri_get hlt')) kR),
    fun wx hx=>Ob.o (O.move rfl kR),
    fun wx hx=>Ob.o (O.call (xs:=[.tmp 24,.tmp 28,.tmp 29]) call224 rfl rfl (rRinged_calls lo lo c _ ((c.fs.getD j f0).ri.getD i r0).xs t wx (hc8.ext hx).p (ri_xs ((hc8.ext hx).at hj) hlt') hf ht hri.1 hri.2) (fun v wy h=>⟨h.1,h.2.mono (Nat.zero_le _)⟩)),
    fun wx hx=>Ob.o (O.loadAgg isAgg124 sizeOf124 rfl rfl ((Blk.ext (cs:=pC p) hP (he68.trans hx)).row) kR),
    trivial⟩ (fun w9 he9 v30 hv30=>?_)
  refine L.o (O.call (xs:=[.tmp 30,.tmp 31]) call223 rfl rfl (rPlace_calls 0 _ (cor c.ps t ((c.fs.getD j f0).ri.getD i r0).xs) p w9 hv30 (cor_nr hf ht hri.1) hp (by rw [cor_len];exact hri.2)) (fun v10 w10 hq=>?_))
  obtain ⟨rfl,he10⟩:=hq
  have he810:=he9.trans he10
  have hbad:outB c.ps t p i ((c.fs.getD j f0).ri.getD i r0).xs=true→regB c.ps t p (c.fs.getD j f0).ri=false:=fun h=>decide_eq_false fun hn=>by rw [hn i hlt'] at h;cases h
  have hgood:outB c.ps t p i ((c.fs.getD j f0).ri.getD i r0).xs=false→∀ k,k<i+1→outB c.ps t p k ((c.fs.getD j f0).ri.getD k r0).xs=false:=fun h k hk=>by
   by_cases e:k=i
   ·subst e;exact h
   ·exact hall k (by omega)
  refine L.a rfl (L.nil (T.q (L.m rfl (L.o (O.eql_s rfl rfl (fun z0=>?_) (fun z0=>?_))))))
  ·refine L.m rfl (L.m rfl (L.o (O.neq_s rfl rfl (fun z1=>?_) (fun z1=>?_))))
   ·refine L.o (O.pick_true rfl rfl (L.m rfl (L.p (L.p (L.p (L.p (L.p (L.p (L.o (O.pick_true rfl rfl (L.nil (T.ct (T.q (L.a rfl (L.nil (T.ret1 results226 rfl ⟨by rw [hbad (decide_eq_true (.inl ⟨by omega,z1⟩))],(he07.trans he8).trans he810⟩))))))))))))))))
   ·refine L.o (O.pick_true rfl rfl (L.m rfl (L.m rfl (L.o (O.gtr_f rfl rfl (by omega) (L.m rfl (L.p (L.p (L.o (O.pick_false rfl rfl (L.o (O.pick_false rfl rfl (L.nil (T.cf (T.skip (T.blk (T.region (L.m rfl (L.o (O.add64 rfl rfl (by omega) (L.a rfl (L.nil (T.again (i+1) (by omega) ⟨rfl,rfl,rfl,rfl,rfl,trivial⟩ ⟨hlt',he8.trans he810,hgood (decide_eq_false (fun h=>by rcases h with ⟨_,h⟩|⟨h,_⟩;exact h z1;omega))⟩)))))))))))))))))))))))
  ·refine L.m rfl (L.p (L.p (L.o (O.pick_false rfl rfl (L.m rfl (L.m rfl (L.o (O.gtr_t rfl rfl (by omega) (L.m rfl (L.m rfl (L.o (O.neq_s rfl rfl (fun z2=>?_) (fun z2=>?_)))))))))))))
   ·refine L.o (O.pick_true rfl rfl (L.o (O.pick_false rfl rfl (L.nil (T.ct (T.q (L.a rfl (L.nil (T.ret1 results226 rfl ⟨by rw [hbad (decide_eq_true (.inr ⟨by omega,z2⟩))],(he07.trans he8).trans he810⟩)))))))))
   ·refine L.o (O.pick_true rfl rfl (L.o (O.pick_false rfl rfl (L.nil (T.cf (T.skip (T.blk (T.region (L.m rfl (L.o (O.add64 rfl rfl (by omega) (L.a rfl (L.nil (T.again (i+1) (by omega) ⟨rfl,rfl,rfl,rfl,rfl,trivial⟩ ⟨hlt',he8.trans he810,hgood (decide_eq_false (fun h=>by rcases h with ⟨h,_⟩|⟨_,h⟩;omega;exact h z2))⟩))))))))))))))
 ·refine L.nil (?_)
  obtain rfl:i=(c.fs.getD j f0).ri.length:=by omega
  refine T.cf (T.exit rfl (T.q (L.a rfl (L.nil (T.ret1 results226 rfl ⟨by rw [regB,decide_eq_true hall],he07.trans he8⟩)))))

open Go Go.E

open Geo (RR RG)
theorem rg_nf {c:CxV} (h:RG c):NfL c.ps:=fun i hi=>h.far i hi
theorem ixl_of {n:Nat} {l:List Int} (h:∀ x∈l,0≤x∧x<(n:Int)):IxL n l:=fun i hi=>by
 rw [getD_get hi];exact h _ (List.getElem_mem hi)
theorem rg_ix {c:CxV} (h:RG c):IxC c:=fun f hf=>by
 obtain ⟨j,hj,rfl⟩:=List.getElem_of_mem hf
 have h1:=h.holes j hj
 rw [getD_get hj] at h1
 refine ⟨by omega,fun x hx=>?_⟩
 obtain ⟨r,hr,rfl⟩:=List.getElem_of_mem hx
 have h2:=h.idx j r hj (by rw [getD_get hj];exact hr)
 rw [getD_get hj,getD_get hr] at h2
 exact ⟨ixl_of h2.2,by have:=h2.1;omega⟩
theorem rcor_nm {ps:List Pt} {l:List Int} (hf:NfL ps) (hl:IxL ps.length l):NmL (cor ps 1 l):=fun i hi=>by
 have hi':i<l.length:=by rw [cor,List.length_map] at hi;exact hi
 rw [cor_get hi']
 have:=corP_nr (n:=0) hf (.inl rfl) (hl i hi')
 unfold Nm;omega
theorem rPoints_calls (lo:Nat) (c:CxV) (w:World) (hc:c.ok lo w) (hg:RG c) :
  Calls Tryz.prog 190 #[c.val] w (Ret fun v w'=>v = .tuple #[.int .i64 0,.int .i64 0]∧Ext w w'):=by
 have h1:=hg.p3
 have h2:=hg.p120
 have h3:=hg.f1
 have h4:=hg.f64
 refine T.enter (vs:=[c.val]) func190 rfl ntmps190 rfl ?_
 refine T.q (L.o (O.box rfl (fun b1 w1 hb1 hz1 he1 hB1=>?_)))
 have hC:Blk w1 b1 c.cells 46:=hB1
 have hc1:=hc.ext he1
 refine L.a rfl (L.a rfl (L.nil (T.seq (T.q (L.o (O.fieldAddr runUnderlying46 rfl sizeOf43 rfl (L.o (O.load isAgg43 rfl (hC.cell rfl) (L.o (O.len runUnderlying43 rfl (Sl.val hc1.p) (L.o (O.lss_f rfl rfl (by omega) (L.m rfl (L.o (O.fieldAddr runUnderlying46 rfl sizeOf43 rfl (L.o (O.load isAgg43 rfl (hC.cell rfl) (L.o (O.len runUnderlying43 rfl (Sl.val hc1.p) (L.o (O.gtr_f rfl rfl (by omega) (L.o (O.pick_false rfl rfl (L.m rfl (L.o (O.fieldAddr runUnderlying46 rfl sizeOf44 rfl (L.o (O.load isAgg44 rfl (hC.cell rfl) (L.o (O.len runUnderlying44 rfl (Sl.val hc1.sl) (L.o (O.lss_f rfl rfl (by omega) (L.o (O.pick_false rfl rfl (L.m rfl (L.o (O.fieldAddr runUnderlying46 rfl sizeOf44 rfl (?_))))))))))))))))))))))))))))))))))))))
 refine L.o (O.load isAgg44 rfl (hC.cell rfl) (L.o (O.len runUnderlying44 rfl (Sl.val hc1.sl) (L.o (O.gtr_f rfl rfl (by omega) (L.o (O.pick_false rfl rfl (L.nil (T.cf (T.skip (T.seq (T.q (L.a rfl (L.nil (T.block (?_))))))))))))))))
 refine T.loop (σ:=Nat) (fun i=>[(1,.pointer (some ⟨b1,0,none⟩)),(4,.int .i64 i)]) (fun i w'=>i≤c.ps.length∧Ext w1 w') (fun i=>c.ps.length-i) (0) ⟨rfl,rfl,trivial⟩ ⟨Nat.zero_le _,Keep.refl _ _⟩ ?_
 rintro i w2 ⟨hi,he2⟩
 have hC2:=Blk.ext (cs:=c.cells) hC he2
 have hc2:=hc1.ext he2
 refine T.seq (T.q (L.m rfl (L.o (O.fieldAddr runUnderlying46 rfl sizeOf43 rfl (L.o (O.load isAgg43 rfl (hC2.cell rfl) (L.o (O.len runUnderlying43 rfl (Sl.val hc2.p) (L.o (O.lss_s rfl rfl (fun hlt=>?_) (fun hlt=>?_)))))))))))
 ·refine L.nil (?_)
  have hlt':i<c.ps.length:=by omega
  refine T.ct (T.skip (T.seq (T.block (T.q (L.o (O.fieldAddr runUnderlying46 rfl sizeOf43 rfl (L.o (O.load isAgg43 rfl (hC2.cell rfl) (L.m rfl (L.o (O.indexAddr runUnderlying43 sizeOf124 rfl rfl hc2.p (by omega) (by omega) (L.o (O.loadAgg isAgg124 sizeOf124 rfl rfl (hc2.p.row hlt') (L.o (O.call (xs:=[.tmp 40]) call217 rfl rfl (rFar_calls (c.ps.getD i (0,0)) w2) (fun v3 w3 hq=>?_))))))))))))))))
  obtain ⟨hv3,he3⟩:=hq
  have hff:farB (c.ps.getD i (0,0))=false:=hg.far i hlt'
  rw [hff] at hv3
  subst hv3
  refine L.nil (T.cf (T.skip (T.blk (T.region (L.m rfl (L.o (O.add64 rfl rfl (by omega) (L.a rfl (L.nil (T.again (i+1) (by omega) ⟨rfl,rfl,trivial⟩ ⟨hlt',he2.trans he3⟩))))))))))
 ·refine L.nil (T.cf (T.exit rfl (T.seq (T.q (L.a rfl (L.nil (T.block (?_))))))))
  refine T.loop (σ:=Nat) (fun i=>[(1,.pointer (some ⟨b1,0,none⟩)),(5,.int .i64 i)]) (fun i w'=>i≤c.ps.length∧Ext w1 w') (fun i=>c.ps.length-i) (0) ⟨rfl,rfl,trivial⟩ ⟨Nat.zero_le _,he2⟩ ?_
  rintro i w3 ⟨hi,he3⟩
  have hC3:=Blk.ext (cs:=c.cells) hC he3
  have hc3:=hc1.ext he3
  refine T.seq (T.q (L.m rfl (L.o (O.fieldAddr runUnderlying46 rfl sizeOf43 rfl (L.o (O.load isAgg43 rfl (hC3.cell rfl) (L.o (O.len runUnderlying43 rfl (Sl.val hc3.p) (L.o (O.lss_s rfl rfl (fun hlt=>?_) (fun hlt=>?_)))))))))))
  ·refine L.nil (?_)
   have hlt':i<c.ps.length:=by omega
   refine T.ct (T.skip (T.seq (T.block (T.q (L.a rfl (L.nil (T.block (?_))))))))
   refine T.loop (σ:=Nat) (fun k=>[(1,.pointer (some ⟨b1,0,none⟩)),(5,.int .i64 i),(6,.int .i64 k)]) (fun k w'=>k≤i∧Ext w1 w') (fun k=>i-k) (0) ⟨rfl,rfl,rfl,trivial⟩ ⟨Nat.zero_le _,he3⟩ ?_
   rintro k w4 ⟨hk,he4⟩
   refine T.seq (T.q (L.m rfl (L.m rfl (L.o (O.lss_s rfl rfl (fun hlk=>?_) (fun hlk=>?_))))))
   ·refine L.nil (?_)
    have hlk':k<i:=by omega
    have hC4:=Blk.ext (cs:=c.cells) hC he4
    have hc4:=hc1.ext he4
    refine T.ct (T.skip (T.seq (T.block (T.seq (?_)))))
    refine T.anyE mixed 10 [1,5,6] rfl [.is _,.is _,.is _,.is _,.is _,.is _,.is _,.is _,.is _,.is _] [[],[0],[],[1,2],[3],[],[5],[],[6,7],[8]] [[],[0],[],[0,1,2],[0,1,2,3],[],[5],[],[5,6,7],[5,6,7,8],[0,1,2,3,4,5,6,7,8,9]] (by kernel_rfl) (by kernel_rfl) rfl (by kernel_rfl) trivial ⟨fun wx hx=>Ob.o (O.fieldAddr runUnderlying46 rfl sizeOf43 rfl kR),
      fun wx hx=>Ob.o (O.load isAgg43 rfl ((Blk.ext (cs:=c.cells) hC4 hx).cell rfl) kR),
      fun wx hx=>Ob.o (O.move rfl kR),
      fun wx hx=>Ob.o (O.indexAddr runUnderlying43 sizeOf124 rfl rfl ((hc4.ext hx).p) (by omega) (by omega) kR),
      fun wx hx=>Ob.o (O.loadAgg isAgg124 sizeOf124 rfl rfl ((hc4.ext hx).p.row hlt') kR),
      fun wx hx=>Ob.o (O.fieldAddr runUnderlying46 rfl sizeOf43 rfl kR),
      fun wx hx=>Ob.o (O.load isAgg43 rfl ((Blk.ext (cs:=c.cells) hC4 hx).cell rfl) kR),
      fun wx hx=>Ob.o (O.move rfl kR),
      fun wx hx=>Ob.o (O.indexAddr runUnderlying43 sizeOf124 rfl rfl ((hc4.ext hx).p) (by omega) (by omega) kR),
      fun wx hx=>Ob.o (O.loadAgg isAgg124 sizeOf124 rfl rfl ((hc4.ext hx).p.row (show k<c.ps.length by omega)) kR),
      trivial⟩ (fun w5 he5=>?_)
    refine L.o (O.eqlPt_f rfl rfl rfl (hg.twin i k hlt' hlk') (L.nil (T.cf (T.skip (T.blk (T.region (L.m rfl (L.o (O.add64 rfl rfl (by omega) (L.a rfl (L.nil (T.again (k+1) (by omega) ⟨rfl,rfl,rfl,trivial⟩ ⟨by omega,he4.trans he5⟩))))))))))))
   ·refine L.nil (T.cf (T.exit rfl (T.blk (T.region (L.m rfl (L.o (O.add64 rfl rfl (by omega) (L.a rfl (L.nil (T.again (i+1) (by omega) ⟨rfl,rfl,trivial⟩ ⟨hlt',he4⟩))))))))))
  ·refine L.nil (T.cf (T.exit rfl (T.q (L.a rfl (L.a rfl (L.nil (T.ret2 results190 rfl rfl ⟨rfl,he1.trans he3⟩)))))))

theorem rSimple_calls (lo:Nat) (c:CxV) (f:FaV) (w:World) (hc:c.ok lo w) (hf:f.ok lo w) (hn:NfL c.ps) (hfn:f.hs.length≤100000) (hix:∀ h∈f.ri,RiOk c.ps.length h) (hr:∀ r,r<f.ri.length→RR (cor c.ps 1 (f.ri.getD r r0).xs)) :
  Calls Tryz.prog 219 #[c.val,f.val] w (Ret fun v w'=>v = .bool true∧Ext w w'):=by
 refine T.enter (vs:=[c.val,f.val]) func219 rfl ntmps219 rfl ?_
 refine T.q (L.o (O.box rfl (fun b2 w2 hb2 hz2 he2 hB2=>?_)))
 refine L.o (O.box rfl (fun b3 w3 hb3 hz3 he3 hB3=>?_))
 have hC:Blk w3 b2 c.cells 46:=Blk.ext (cs:=c.cells) hB2 he3
 have hF:Blk w3 b3 f.cells 127:=hB3
 have he03:=he2.trans he3
 have hc3:=hc.ext he03
 have hf3:=hf.ext he03
 refine L.a rfl (L.nil (T.q (L.o (O.loadAgg isAgg127 sizeOf127 rfl rfl hF.row (L.o (O.call (xs:=[.tmp 7]) call131 rfl rfl (rRings_calls lo f w3 hf3 hfn) (fun v7 w7 hq=>?_)))))))
 obtain ⟨he7,hS7,hR7⟩:=hq
 refine L.a rfl (L.nil (T.seq (T.q (L.a rfl (L.nil (T.block (?_)))))))
 refine T.loop (σ:=Nat) (fun i=>[(2,.pointer (some ⟨b2,0,none⟩)),(5,v7),(6,.int .i64 i)]) (fun i w'=>i≤f.ri.length∧Ext w7 w') (fun i=>f.ri.length-i) (0) ⟨rfl,rfl,rfl,trivial⟩ ⟨Nat.zero_le _,Keep.refl _ _⟩ ?_
 rintro i w8 ⟨hi,he8⟩
 have hS8:Sl w3.heap.size w8 v7 f.ri.length 1 (riCells f.ri):=Sl.ext hS7 he8
 have hle8:=Sl.le hS8
 have he38:=he7.trans he8
 have hc8:=hc3.ext he38
 have hf8:=hf3.ext he38
 refine T.seq (T.q (L.m rfl (L.m rfl (L.o (O.len runUnderlying125 rfl (Sl.val hS8) (L.o (O.lss_s rfl rfl (fun hlt=>?_) (fun hlt=>?_))))))))
 ·refine L.nil (?_)
  have hlt':i<f.ri.length:=by omega
  have hri:=hix _ (ri_mem hlt')
  refine T.ct (T.skip (T.seq (T.block (T.seq (?_)))))
  refine T.anyE mixed 5 [2,5,6] rfl [.is _,.is _,.is _,.is _,.is _] [[],[],[],[1,2],[3]] [[],[],[],[1,2],[1,2,3],[0,1,2,3,4],[0,1,2,3,4,5],[0,1,2,3,4,5,6]] (by kernel_rfl) (by kernel_rfl) rfl (by kernel_rfl) trivial ⟨fun wx hx=>Ob.o (O.loadAgg isAgg46 sizeOf46 rfl rfl ((Blk.ext (cs:=c.cells) hC (he38.trans hx)).row) kR),
    fun wx hx=>Ob.o (O.move rfl kR),
    fun wx hx=>Ob.o (O.move rfl kR),
    fun wx hx=>Ob.o (O.indexAddr runUnderlying125 sizeOf30 rfl rfl (Sl.ext hS8 hx) (by omega) (by omega) kR),
    fun wx hx=>Ob.o (O.load isAgg30 rfl (by rw [Int.toNat_natCast,Nat.mul_one];exact Sl.cell (Sl.ext hS8 hx) (ri_get hlt')) kR),
    trivial⟩ (fun w9 he9=>?_)
  refine L.o (O.call (xs:=[.tmp 15,.tmp 19,.const (.int .i64 1)]) call224 rfl rfl (rRinged_calls lo lo c _ (f.ri.getD i r0).xs 1 w9 (hc8.ext he9).p (ri_xs (hf8.ext he9) hlt') hn (.inl rfl) hri.1 hri.2) (fun v10 w10 hq=>?_))
  obtain ⟨he10,hP10⟩:=hq
  refine L.o (O.call (xs:=[.tmp 20]) call250 rfl rfl (rRingCheck_calls _ _ (cor c.ps 1 (f.ri.getD i r0).xs) w10 hP10 (hr i hlt')) (fun v11 w11 hq=>?_))
  obtain ⟨rfl,he11⟩:=hq
  refine L.o (O.neq_f rfl rfl (by decide) (L.nil (T.cf (T.skip (T.blk (T.region (L.m rfl (L.o (O.add64 rfl rfl (by omega) (L.a rfl (L.nil (T.again (i+1) (by omega) ⟨rfl,rfl,rfl,trivial⟩ ⟨hlt',he8.trans (he9.trans (he10.trans he11))⟩))))))))))))
 ·refine L.nil (T.cf (T.exit rfl (T.q (L.a rfl (L.nil (T.ret1 results219 rfl ⟨rfl,he03.trans he38⟩))))))

theorem rTurned_calls (lo:Nat) (c:CxV) (f:FaV) (w:World) (hc:c.ok lo w) (hf:f.ok lo w) (hn:NfL c.ps) (hfn:f.hs.length≤100000) (hix:∀ h∈f.ri,RiOk c.ps.length h) (hr:∀ r,r<f.ri.length→¬ (r=0∧areaTo (cor c.ps 1 (f.ri.getD r r0).xs) (cor c.ps 1 (f.ri.getD r r0).xs).length<0∨0<r∧0<areaTo (cor c.ps 1 (f.ri.getD r r0).xs) (cor c.ps 1 (f.ri.getD r r0).xs).length)) :
  Calls Tryz.prog 220 #[c.val,f.val] w (Ret fun v w'=>v = .bool true∧Ext w w'):=by
 refine T.enter (vs:=[c.val,f.val]) func220 rfl ntmps220 rfl ?_
 refine T.q (L.o (O.box rfl (fun b2 w2 hb2 hz2 he2 hB2=>?_)))
 refine L.o (O.box rfl (fun b3 w3 hb3 hz3 he3 hB3=>?_))
 have hC:Blk w3 b2 c.cells 46:=Blk.ext (cs:=c.cells) hB2 he3
 have hF:Blk w3 b3 f.cells 127:=hB3
 have he03:=he2.trans he3
 have hc3:=hc.ext he03
 have hf3:=hf.ext he03
 refine L.a rfl (L.nil (T.q (L.o (O.loadAgg isAgg127 sizeOf127 rfl rfl hF.row (L.o (O.call (xs:=[.tmp 8]) call131 rfl rfl (rRings_calls lo f w3 hf3 hfn) (fun v7 w7 hq=>?_)))))))
 obtain ⟨he7,hS7,hR7⟩:=hq
 refine L.a rfl (L.nil (T.seq (T.q (L.a rfl (L.nil (T.block (?_)))))))
 refine T.loop (σ:=Nat) (fun i=>[(2,.pointer (some ⟨b2,0,none⟩)),(5,v7),(6,.int .i64 i)]) (fun i w'=>i≤f.ri.length∧Ext w7 w') (fun i=>f.ri.length-i) (0) ⟨rfl,rfl,rfl,trivial⟩ ⟨Nat.zero_le _,Keep.refl _ _⟩ ?_
 rintro i w8 ⟨hi,he8⟩
 have hS8:Sl w3.heap.size w8 v7 f.ri.length 1 (riCells f.ri):=Sl.ext hS7 he8
 have hle8:=Sl.le hS8
 have he38:=he7.trans he8
 have hc8:=hc3.ext he38
 have hf8:=hf3.ext he38
 refine T.seq (T.q (L.m rfl (L.m rfl (L.o (O.len runUnderlying125 rfl (Sl.val hS8) (L.o (O.lss_s rfl rfl (fun hlt=>?_) (fun hlt=>?_))))))))
 ·refine L.nil (?_)
  have hlt':i<f.ri.length:=by omega
  have hri:=hix _ (ri_mem hlt')
  have hrr:=hr i hlt'
  refine T.ct (T.skip (T.seq (T.block (T.seq (?_)))))
  refine T.anyE mixed 5 [2,5,6] rfl [.is _,.is _,.is _,.is _,.is _] [[],[],[],[1,2],[3]] [[],[],[],[1,2],[1,2,3],[0,1,2,3,4],[0,1,2,3,4,5],[0,1,2,3,4,5,6]] (by kernel_rfl) (by kernel_rfl) rfl (by kernel_rfl) trivial ⟨fun wx hx=>Ob.o (O.loadAgg isAgg46 sizeOf46 rfl rfl ((Blk.ext (cs:=c.cells) hC (he38.trans hx)).row) kR),
    fun wx hx=>Ob.o (O.move rfl kR),
    fun wx hx=>Ob.o (O.move rfl kR),
    fun wx hx=>Ob.o (O.indexAddr runUnderlying125 sizeOf30 rfl rfl (Sl.ext hS8 hx) (by omega) (by omega) kR),
    fun wx hx=>Ob.o (O.load isAgg30 rfl (by rw [Int.toNat_natCast,Nat.mul_one];exact Sl.cell (Sl.ext hS8 hx) (ri_get hlt')) kR),
    trivial⟩ (fun w9 he9=>?_)
  refine L.o (O.call (xs:=[.tmp 16,.tmp 20,.const (.int .i64 1)]) call224 rfl rfl (rRinged_calls lo lo c _ (f.ri.getD i r0).xs 1 w9 (hc8.ext he9).p (ri_xs (hf8.ext he9) hlt') hn (.inl rfl) hri.1 hri.2) (fun v10 w10 hq=>?_))
  obtain ⟨he10,hP10⟩:=hq
  refine L.o (O.call (xs:=[.tmp 21]) call251 rfl rfl (rDouble_calls _ _ (cor c.ps 1 (f.ri.getD i r0).xs) w10 hP10 (rcor_nm hn hri.1) (by rw [cor_len];exact hri.2)) (fun v11 w11 hq=>?_))
  obtain ⟨rfl,he11⟩:=hq
  have hE:=he8.trans (he9.trans (he10.trans he11))
  refine L.a rfl (L.nil (T.q (L.m rfl (L.o (O.eql_s rfl rfl (fun z0=>?_) (fun z0=>?_))))))
  ·refine L.m rfl (L.m rfl (L.o (O.lss_f rfl rfl (fun h=>hrr (.inl ⟨by omega,h⟩)) (L.o (O.pick_true rfl rfl (L.m rfl (L.m rfl (L.o (O.gtr_f rfl rfl (by omega) (L.m rfl (L.p (L.p (L.o (O.pick_false rfl rfl (L.o (O.pick_false rfl rfl (L.nil (T.cf (T.skip (T.blk (T.region (L.m rfl (L.o (O.add64 rfl rfl (by omega) (L.a rfl (L.nil (T.again (i+1) (by omega) ⟨rfl,rfl,rfl,trivial⟩ ⟨hlt',hE⟩)))))))))))))))))))))))))))
  ·refine L.m rfl (L.p (L.p (L.o (O.pick_false rfl rfl (L.m rfl (L.m rfl (L.o (O.gtr_t rfl rfl (by omega) (L.m rfl (L.m rfl (L.o (O.gtr_f rfl rfl (fun h=>hrr (.inr ⟨by omega,h⟩)) (L.o (O.pick_true rfl rfl (L.o (O.pick_false rfl rfl (L.nil (T.cf (T.skip (T.blk (T.region (L.m rfl (L.o (O.add64 rfl rfl (by omega) (L.a rfl (L.nil (T.again (i+1) (by omega) ⟨rfl,rfl,rfl,trivial⟩ ⟨hlt',hE⟩)))))))))))))))))))))))))))
 ·refine L.nil (T.cf (T.exit rfl (T.q (L.a rfl (L.nil (T.ret1 results220 rfl ⟨rfl,he03.trans he38⟩))))))

theorem rIndexed_calls (lo:Nat) (c:CxV) (f:FaV) (w:World) (hc:c.ok lo w) (hf:f.ok lo w) (h120:c.ps.length≤120) (h8:f.hs.length≤8) (hr:∀ r,r<f.ri.length→(3≤(f.ri.getD r r0).xs.length∧(f.ri.getD r r0).xs.length≤40)∧∀ x∈(f.ri.getD r r0).xs,0≤x∧x<(c.ps.length:Int)) :
  Calls Tryz.prog 218 #[c.val,f.val] w (Ret fun v w'=>v = .bool true∧Ext w w'):=by
 refine T.enter (vs:=[c.val,f.val]) func218 rfl ntmps218 rfl ?_
 refine T.q (L.o (O.box rfl (fun b2 w2 hb2 hz2 he2 hB2=>?_)))
 refine L.o (O.box rfl (fun b3 w3 hb3 hz3 he3 hB3=>?_))
 have hC:Blk w3 b2 c.cells 46:=Blk.ext (cs:=c.cells) hB2 he3
 have hF:Blk w3 b3 f.cells 127:=hB3
 have he03:=he2.trans he3
 have hc3:=hc.ext he03
 have hf3:=hf.ext he03
 refine L.a rfl (L.nil (T.seq (T.q (L.o (O.fieldAddr runUnderlying127 rfl sizeOf125 rfl (L.o (O.load isAgg125 rfl (hF.cell rfl) (L.o (O.len runUnderlying125 rfl (Sl.val hf3.sl) (L.o (O.gtr_f rfl rfl (by omega) (L.nil (T.cf (T.skip (T.q (L.o (O.loadAgg isAgg127 sizeOf127 rfl rfl hF.row (L.o (O.call (xs:=[.tmp 12]) call131 rfl rfl (rRings_calls lo f w3 hf3 (by omega)) (fun v7 w7 hq=>?_))))))))))))))))))))
 obtain ⟨he7,hS7,hR7⟩:=hq
 refine L.a rfl (L.nil (T.seq (T.q (L.a rfl (L.nil (T.block (?_)))))))
 refine T.loop (σ:=Nat) (fun i=>[(2,.pointer (some ⟨b2,0,none⟩)),(5,v7),(6,.int .i64 i)]) (fun i w'=>i≤f.ri.length∧Ext w7 w') (fun i=>f.ri.length-i) (0) ⟨rfl,rfl,rfl,trivial⟩ ⟨Nat.zero_le _,Keep.refl _ _⟩ ?_
 rintro i w8 ⟨hi,he8⟩
 have hS8:Sl w3.heap.size w8 v7 f.ri.length 1 (riCells f.ri):=Sl.ext hS7 he8
 have hle8:=Sl.le hS8
 have he38:=he7.trans he8
 have hf8:=hf3.ext he38
 refine T.seq (T.q (L.m rfl (L.m rfl (L.o (O.len runUnderlying125 rfl (Sl.val hS8) (L.o (O.lss_s rfl rfl (fun hlt=>?_) (fun hlt=>?_))))))))
 ·refine L.nil (?_)
  have hlt':i<f.ri.length:=by omega
  have hri:=hr i hlt'
  have hxs8:=ri_xs hf8 hlt'
  refine T.ct (T.skip (T.seq (T.block (T.seq (T.q (L.m rfl (L.m rfl (L.o (O.indexAddr runUnderlying125 sizeOf30 rfl rfl hS8 (by omega) (by omega) (L.o (O.load isAgg30 rfl (by rw [Int.toNat_natCast,Nat.mul_one];exact Sl.cell hS8 (ri_get hlt')) (L.o (O.len runUnderlying30 rfl (Sl.val hxs8) (L.o (O.lss_f rfl rfl (by omega) (L.m rfl (L.m rfl (L.m rfl (L.o (O.indexAddr runUnderlying125 sizeOf30 rfl rfl hS8 (by omega) (by omega) (L.o (O.load isAgg30 rfl (by rw [Int.toNat_natCast,Nat.mul_one];exact Sl.cell hS8 (ri_get hlt')) (L.o (O.len runUnderlying30 rfl (Sl.val hxs8) (L.o (O.gtr_f rfl rfl (by omega) (L.o (O.pick_false rfl rfl (L.nil (T.cf (T.skip (?_))))))))))))))))))))))))))))))))
  refine T.q (L.a rfl (L.nil (T.block (?_))))
  refine T.loop (σ:=Nat) (fun k=>[(2,.pointer (some ⟨b2,0,none⟩)),(5,v7),(6,.int .i64 i),(7,.int .i64 k)]) (fun k w'=>k≤(f.ri.getD i r0).xs.length∧Ext w7 w') (fun k=>(f.ri.getD i r0).xs.length-k) (0) ⟨rfl,rfl,rfl,rfl,trivial⟩ ⟨Nat.zero_le _,he8⟩ ?_
  rintro k w9 ⟨hk,he9⟩
  have hS9:Sl w3.heap.size w9 v7 f.ri.length 1 (riCells f.ri):=Sl.ext hS7 he9
  have he39:=he7.trans he9
  have hc9:=hc3.ext he39
  have hf9:=hf3.ext he39
  have hxs9:=ri_xs hf9 hlt'
  refine T.seq (T.q (L.m rfl (L.m rfl (L.m rfl (L.o (O.indexAddr runUnderlying125 sizeOf30 rfl rfl hS9 (by omega) (by omega) (L.o (O.load isAgg30 rfl (by rw [Int.toNat_natCast,Nat.mul_one];exact Sl.cell hS9 (ri_get hlt')) (L.o (O.len runUnderlying30 rfl (Sl.val hxs9) (L.o (O.lss_s rfl rfl (fun hlk=>?_) (fun hlk=>?_)))))))))))))
  ·refine L.nil (?_)
   have hlk':k<(f.ri.getD i r0).xs.length:=by omega
   have hxk:0≤(f.ri.getD i r0).xs.getD k 0∧(f.ri.getD i r0).xs.getD k 0<(c.ps.length:Int):=by rw [getD_get hlk'];exact hri.2 _ (List.getElem_mem hlk')
   refine T.ct (T.skip (T.seq (T.block (T.seq (?_)))))
   refine T.anyE mixed 19 [5,6,7,2] rfl [.is _,.is _,.is _,.is _,.is _,.is _,.is _,.is _,.is _,.is _,.is _,.is _,.is _,.is _,.is _,.is _,.is _,.is _,.is _] [[],[],[0,1],[2],[],[3,4],[5],[6],[7],[8],[8],[9,10,8],[11,8],[8],[12,13,8],[14,8],[8],[16,8],[17,8]] [[],[],[0,1],[0,1,2],[],[0,1,2,3,4],[0,1,2,3,4,5],[0,1,2,3,4,5,6],[0,1,2,3,4,5,6,7],[0,1,2,3,4,5,6,7,8],[0,1,2,3,4,5,6,7,8],[0,1,2,3,4,5,6,7,8,9,10],[0,1,2,3,4,5,6,7,8,9,10,11],[0,1,2,3,4,5,6,7,8],[0,1,2,3,4,5,6,7,8,9,10,11,12,13],[0,1,2,3,4,5,6,7,8,9,10,11,12,13,14],[0,1,2,3,4,5,6,7,8],[0,1,2,3,4,5,6,7,8,16],[0,1,2,3,4,5,6,7,8,16,17],[0,1,2,3,4,5,6,7,8,9,10,11,12,13,14,15,16,17,18],[0,1,2,3,4,5,6,7,8,9,10,11,12,13,14,15,16,17,18,19]] (by kernel_rfl) (by kernel_rfl) rfl (by kernel_rfl) trivial ⟨fun wx hx=>Ob.o (O.move rfl kR),
     fun wx hx=>Ob.o (O.move rfl kR),
     fun wx hx=>Ob.o (O.indexAddr runUnderlying125 sizeOf30 rfl rfl (Sl.ext hS9 hx) (by omega) (by omega) kR),
     fun wx hx=>Ob.o (O.load isAgg30 rfl (by rw [Int.toNat_natCast,Nat.mul_one];exact Sl.cell (Sl.ext hS9 hx) (ri_get hlt')) kR),
     fun wx hx=>Ob.o (O.move rfl kR),
     fun wx hx=>Ob.o (O.indexAddr runUnderlying30 sizeOf3 rfl rfl (hxs9.ext hx) (by omega) (by omega) kR),
     fun wx hx=>Ob.o (O.load isAgg3 rfl (Ints.at (hxs9.ext hx) hlk') kR),
     fun wx hx=>Ob.o (O.lss_f rfl rfl (by omega) kR),
     fun wx hx=>Ob.o (O.move rfl kR),
     fun wx hx=>Ob.o (O.move rfl kR),
     fun wx hx=>Ob.o (O.move rfl kR),
     fun wx hx=>Ob.o (O.indexAddr runUnderlying125 sizeOf30 rfl rfl (Sl.ext hS9 hx) (by omega) (by omega) kR),
     fun wx hx=>Ob.o (O.load isAgg30 rfl (by rw [Int.toNat_natCast,Nat.mul_one];exact Sl.cell (Sl.ext hS9 hx) (ri_get hlt')) kR),
     fun wx hx=>Ob.o (O.move rfl kR),
     fun wx hx=>Ob.o (O.indexAddr runUnderlying30 sizeOf3 rfl rfl (hxs9.ext hx) (by omega) (by omega) kR),
     fun wx hx=>Ob.o (O.load isAgg3 rfl (Ints.at (hxs9.ext hx) hlk') kR),
     fun wx hx=>Ob.o (O.fieldAddr runUnderlying46 rfl sizeOf43 rfl kR),
     fun wx hx=>Ob.o (O.load isAgg43 rfl ((Blk.ext (cs:=c.cells) hC (he39.trans hx)).cell rfl) kR),
     fun wx hx=>Ob.o (O.len runUnderlying43 rfl (Sl.val ((hc9.ext hx).p)) kR),
     trivial⟩ (fun w10 he10=>?_)
   refine L.o (O.geq_f rfl rfl (by omega) (L.o (O.pick_false rfl rfl (L.nil (T.cf (T.skip (T.blk (T.region (L.m rfl (L.o (O.add64 rfl rfl (by omega) (L.a rfl (L.nil (T.again (k+1) (by omega) ⟨rfl,rfl,rfl,rfl,trivial⟩ ⟨by omega,he9.trans he10⟩))))))))))))))
  ·refine L.nil (T.cf (T.exit rfl (T.blk (T.region (L.m rfl (L.o (O.add64 rfl rfl (by omega) (L.a rfl (L.nil (T.again (i+1) (by omega) ⟨rfl,rfl,rfl,trivial⟩ ⟨hlt',he9⟩))))))))))
 ·refine L.nil (T.cf (T.exit rfl (T.q (L.a rfl (L.nil (T.ret1 results218 rfl ⟨rfl,he03.trans he38⟩))))))

open Go Go.E

open Geo (RR RG)
theorem fs_hn {c:CxV} (hg:RG c) {j:Nat} (hj:j<c.fs.length):(c.fs.getD j f0).hs.length≤100000:=by have:=hg.holes j hj;omega
/-- The cells of directed edges. -/
def stCells (l:List St):List Value:=l.flatMap St.cells
theorem stCells_append (l m:List St):stCells (l++m)=stCells l++stCells m:=by simp [stCells]
theorem stCells_get:∀ (r:List St) (i:Nat),i<r.length→((stCells r).drop (i*4)).take 4=(r.getD i st0).cells
 | [],i,h=>by simp at h
 | p::r,0,_=>rfl
 | p::r,i+1,h=>by
  have ih:=stCells_get r i (by simpa using h)
  have e:stCells (p::r) = .int .i64 p.a :: .int .i64 p.b :: .int .i64 p.f :: .int .i64 p.r::stCells r:=rfl
  rw [e,show (i+1)*4=i*4+1+1+1+1 by omega,List.drop_succ_cons,List.drop_succ_cons,List.drop_succ_cons,List.drop_succ_cons,ih]
  rfl
def Sts (lo:Nat) (w:World) (p:Value) (l:List St):Prop:=Sl lo w p l.length 4 (stCells l)
theorem Sts.ext {lo:Nat} {w w':World} {p:Value} {r:List St} (h:Sts lo w p r) (k:Ext w w'):Sts lo w' p r:=Sl.ext h k
theorem Sts.row {lo:Nat} {w:World} {p:Value} {r:List St} (h:Sts lo w p r) {i:Nat} (hi:i<r.length):Row w ((sAddr p).add ((i:Int).toNat*4)) (r.getD i st0).cells:=by
 rw [Int.toNat_natCast,← stCells_get r i hi]
 obtain ⟨_,_,_,_,hr⟩:=Sl.there h (by omega)
 exact hr.part (i*4) 4
theorem St.one (s:St):∀ u∈s.cells,u.oneCell'=true:=by intro u hu;simp [St.cells] at hu;rcases hu with (rfl|rfl|rfl|rfl) <;> rfl
theorem rFaces_calls (lo:Nat) (c:CxV) (w:World) (hc:c.ok lo w) (hg:RG c) :
  Calls Tryz.prog 191 #[c.val] w (Ret fun v w'=>v = .tuple #[.int .i64 0,.int .i64 0]∧Ext w w'):=by
 have h2:=hg.p120
 have h4:=hg.f64
 have hn:=rg_nf hg
 have hixc:=rg_ix hg
 refine T.enter (vs:=[c.val]) func191 rfl ntmps191 rfl ?_
 refine T.q (L.o (O.box rfl (fun b1 w1 hb1 hz1 he1 hB1=>?_)))
 have hC:Blk w1 b1 c.cells 46:=hB1
 have hc1:=hc.ext he1
 refine L.a rfl (L.a rfl (L.nil (T.seq (T.q (L.a rfl (L.nil (T.block (?_))))))))
 refine T.loop (σ:=Nat) (fun i=>[(1,.pointer (some ⟨b1,0,none⟩)),(4,.int .i64 i)]) (fun i w'=>i≤c.fs.length∧Ext w1 w') (fun i=>c.fs.length-i) (0) ⟨rfl,rfl,trivial⟩ ⟨Nat.zero_le _,Keep.refl _ _⟩ ?_
 rintro i w2 ⟨hi,he2⟩
 have hCC:=Blk.ext (cs:=c.cells) hC he2
 have hcc:=hc1.ext he2
 refine T.seq (T.q (L.m rfl (L.o (O.fieldAddr runUnderlying46 rfl sizeOf44 rfl (L.o (O.load isAgg44 rfl (hCC.cell rfl) (L.o (O.len runUnderlying44 rfl (Sl.val hcc.sl) (L.o (O.lss_s rfl rfl (fun hlt=>?_) (fun hlt=>?_)))))))))))
 ·refine L.nil (?_)
  have hlt':i<c.fs.length:=by omega
  refine T.ct (T.skip (T.seq (T.block (T.seq (?_)))))
  refine T.anyE mixed 6 [1,4] rfl [.is _,.is _,.is _,.is _,.is _,.is _] [[],[],[1],[],[2,3],[4]] [[],[],[1],[],[1,2,3],[1,2,3,4],[0,1,2,3,4,5],[0,1,2,3,4,5,6]] (by kernel_rfl) (by kernel_rfl) rfl (by kernel_rfl) trivial ⟨fun wx hx=>Ob.o (O.loadAgg isAgg46 sizeOf46 rfl rfl ((Blk.ext (cs:=c.cells) hCC hx).row) kR),
    fun wx hx=>Ob.o (O.fieldAddr runUnderlying46 rfl sizeOf44 rfl kR),
    fun wx hx=>Ob.o (O.load isAgg44 rfl ((Blk.ext (cs:=c.cells) hCC hx).cell rfl) kR),
    fun wx hx=>Ob.o (O.move rfl kR),
    fun wx hx=>Ob.o (O.indexAddr runUnderlying44 sizeOf127 rfl rfl ((hcc.ext hx).sl) (by omega) (by omega) kR),
    fun wx hx=>Ob.o (O.loadAgg isAgg127 sizeOf127 rfl rfl ((hcc.ext hx).row hlt') kR),
    trivial⟩ (fun w12 he12=>?_)
  refine L.o (O.call (xs:=[.tmp 14,.tmp 19]) call218 rfl rfl (rIndexed_calls lo c (c.fs.getD i f0) w12 (hcc.ext he12) ((hcc.ext he12).at hlt') h2 (hg.holes i hlt') (fun r hr ↦ hg.idx i r hlt' hr)) (fun v22 w22 hq=>?_))
  obtain ⟨rfl,he22⟩:=hq
  refine L.o (O.not rfl (L.nil (T.cf (T.skip (T.blk (T.region (L.m rfl (L.o (O.add64 rfl rfl (by omega) (L.a rfl (L.nil (T.again (i+1) (by omega) ⟨rfl,rfl,trivial⟩ ⟨hlt',he2.trans (he12.trans he22)⟩))))))))))))
 ·refine L.nil (T.cf (T.exit rfl (T.seq (T.q (L.a rfl (L.nil (T.block (?_))))))))
  refine T.loop (σ:=Nat) (fun i=>[(1,.pointer (some ⟨b1,0,none⟩)),(5,.int .i64 i)]) (fun i w'=>i≤c.fs.length∧Ext w1 w') (fun i=>c.fs.length-i) (0) ⟨rfl,rfl,trivial⟩ ⟨Nat.zero_le _,he2⟩ ?_
  rintro i w3 ⟨hi,he3⟩
  have hCC:=Blk.ext (cs:=c.cells) hC he3
  have hcc:=hc1.ext he3
  refine T.seq (T.q (L.m rfl (L.o (O.fieldAddr runUnderlying46 rfl sizeOf44 rfl (L.o (O.load isAgg44 rfl (hCC.cell rfl) (L.o (O.len runUnderlying44 rfl (Sl.val hcc.sl) (L.o (O.lss_s rfl rfl (fun hlt=>?_) (fun hlt=>?_)))))))))))
  ·refine L.nil (?_)
   have hlt':i<c.fs.length:=by omega
   refine T.ct (T.skip (T.seq (T.block (T.seq (?_)))))
   refine T.anyE mixed 6 [1,5] rfl [.is _,.is _,.is _,.is _,.is _,.is _] [[],[],[1],[],[2,3],[4]] [[],[],[1],[],[1,2,3],[1,2,3,4],[0,1,2,3,4,5],[0,1,2,3,4,5,6]] (by kernel_rfl) (by kernel_rfl) rfl (by kernel_rfl) trivial ⟨fun wx hx=>Ob.o (O.loadAgg isAgg46 sizeOf46 rfl rfl ((Blk.ext (cs:=c.cells) hCC hx).row) kR),
     fun wx hx=>Ob.o (O.fieldAddr runUnderlying46 rfl sizeOf44 rfl kR),
     fun wx hx=>Ob.o (O.load isAgg44 rfl ((Blk.ext (cs:=c.cells) hCC hx).cell rfl) kR),
     fun wx hx=>Ob.o (O.move rfl kR),
     fun wx hx=>Ob.o (O.indexAddr runUnderlying44 sizeOf127 rfl rfl ((hcc.ext hx).sl) (by omega) (by omega) kR),
     fun wx hx=>Ob.o (O.loadAgg isAgg127 sizeOf127 rfl rfl ((hcc.ext hx).row hlt') kR),
     trivial⟩ (fun w13 he13=>?_)
   refine L.o (O.call (xs:=[.tmp 30,.tmp 35]) call219 rfl rfl (rSimple_calls lo c (c.fs.getD i f0) w13 (hcc.ext he13) ((hcc.ext he13).at hlt') hn (fs_hn hg hlt') (hixc _ (fs_mem hlt')).2 (fun r hr ↦ hg.ring i r hlt' hr)) (fun v23 w23 hq=>?_))
   obtain ⟨rfl,he23⟩:=hq
   refine L.o (O.not rfl (L.nil (T.cf (T.skip (T.blk (T.region (L.m rfl (L.o (O.add64 rfl rfl (by omega) (L.a rfl (L.nil (T.again (i+1) (by omega) ⟨rfl,rfl,trivial⟩ ⟨hlt',he3.trans (he13.trans he23)⟩))))))))))))
  ·refine L.nil (T.cf (T.exit rfl (T.seq (T.q (L.a rfl (L.nil (T.block (?_))))))))
   refine T.loop (σ:=Nat) (fun i=>[(1,.pointer (some ⟨b1,0,none⟩)),(6,.int .i64 i)]) (fun i w'=>i≤c.fs.length∧Ext w1 w') (fun i=>c.fs.length-i) (0) ⟨rfl,rfl,trivial⟩ ⟨Nat.zero_le _,he3⟩ ?_
   rintro i w4 ⟨hi,he4⟩
   have hCC:=Blk.ext (cs:=c.cells) hC he4
   have hcc:=hc1.ext he4
   refine T.seq (T.q (L.m rfl (L.o (O.fieldAddr runUnderlying46 rfl sizeOf44 rfl (L.o (O.load isAgg44 rfl (hCC.cell rfl) (L.o (O.len runUnderlying44 rfl (Sl.val hcc.sl) (L.o (O.lss_s rfl rfl (fun hlt=>?_) (fun hlt=>?_)))))))))))
   ·refine L.nil (?_)
    have hlt':i<c.fs.length:=by omega
    refine T.ct (T.skip (T.seq (T.block (T.seq (?_)))))
    refine T.anyE mixed 6 [1,6] rfl [.is _,.is _,.is _,.is _,.is _,.is _] [[],[],[1],[],[2,3],[4]] [[],[],[1],[],[1,2,3],[1,2,3,4],[0,1,2,3,4,5],[0,1,2,3,4,5,6]] (by kernel_rfl) (by kernel_rfl) rfl (by kernel_rfl) trivial ⟨fun wx hx=>Ob.o (O.loadAgg isAgg46 sizeOf46 rfl rfl ((Blk.ext (cs:=c.cells) hCC hx).row) kR),
      fun wx hx=>Ob.o (O.fieldAddr runUnderlying46 rfl sizeOf44 rfl kR),
      fun wx hx=>Ob.o (O.load isAgg44 rfl ((Blk.ext (cs:=c.cells) hCC hx).cell rfl) kR),
      fun wx hx=>Ob.o (O.move rfl kR),
      fun wx hx=>Ob.o (O.indexAddr runUnderlying44 sizeOf127 rfl rfl ((hcc.ext hx).sl) (by omega) (by omega) kR),
      fun wx hx=>Ob.o (O.loadAgg isAgg127 sizeOf127 rfl rfl ((hcc.ext hx).row hlt') kR),
      trivial⟩ (fun w14 he14=>?_)
    refine L.o (O.call (xs:=[.tmp 46,.tmp 51]) call220 rfl rfl (rTurned_calls lo c (c.fs.getD i f0) w14 (hcc.ext he14) ((hcc.ext he14).at hlt') hn (fs_hn hg hlt') (hixc _ (fs_mem hlt')).2 (fun r hr ↦ hg.turn i r hlt' hr)) (fun v24 w24 hq=>?_))
    obtain ⟨rfl,he24⟩:=hq
    refine L.o (O.not rfl (L.nil (T.cf (T.skip (T.blk (T.region (L.m rfl (L.o (O.add64 rfl rfl (by omega) (L.a rfl (L.nil (T.again (i+1) (by omega) ⟨rfl,rfl,trivial⟩ ⟨hlt',he4.trans (he14.trans he24)⟩))))))))))))
   ·refine L.nil (T.cf (T.exit rfl (T.q (L.a rfl (L.a rfl (L.nil (T.ret2 results191 rfl rfl ⟨rfl,he1.trans he4⟩)))))))

open Go Go.E

open Geo (RR RG)
def StB (s:St) (v:Value) (w:World):Prop:=∃ b,v = .slice (some ⟨b,0,none⟩) 1 1∧Blk w b s.cells 292
theorem StB.st {s:St} : ∀ v w w',Ext w w'→StB s v w→StB s v w':=fun v w w' h ⟨b,h1,h2⟩=>⟨b,h1,Blk.ext (cs:=s.cells) h2 h⟩
theorem own_ne {w:World} {base base' n n' sz sz':Nat} {el el':TypeId} {v u:Value} {xs ys:List Value} (h:w.ownsRow base el sz v n xs) (h':w.ownsRow base' el' sz' u n' ys) (he:el≠el'):v.ownBlock=none∨v.ownBlock≠u.ownBlock:=by
 rcases h.2 with ⟨hv,_⟩|⟨g,cap,cur,hv,hb,hg,_⟩
 ·left;subst hv;rfl
 ·right
  rcases h'.2 with ⟨hu,_⟩|⟨g',cap',cur',hu,hb',hg',_⟩
  ·subst hv hu;intro h;cases h
  ·subst hv hu
   intro h
   have e:g=g':=by cases h;rfl
   subst e
   rw [hg] at hg'
   cases hg'
   exact he rfl
theorem stCells_one (s:St):stCells [s]=s.cells:=by simp [stCells]
theorem stR_take (f r:Nat) (l:List Int) {i:Nat} (hi:i<l.length):(stR f r l).take (i+1)=(stR f r l).take i ++ [⟨nI l i,nI l ((i+1) % l.length),f,r⟩]:=by
 have h:i<(stR f r l).length:=by rw [stR_len];exact hi
 rw [List.take_succ_eq_append_getElem h]
 have:=stR_at f r l hi
 rw [getD_get h] at this
 rw [this]
theorem nI_val {n:Nat} {l:List Int} (h:∀ x∈l,0≤x∧x<(n:Int)) {i:Nat} (hi:i<l.length):l.getD i 0=((nI l i:Nat):Int):=by
 have:0≤l.getD i 0:=by rw [getD_get hi];exact (h _ (List.getElem_mem hi)).1
 rw [nI];omega
set_option maxHeartbeats 2000000 in
theorem rSteps_calls (lo:Nat) (c:CxV) (w:World) (hc:c.ok lo w) (hg:RG c) :
  Calls Tryz.prog 221 #[c.val] w (Ret fun v w'=>Ext w w'∧Sts w.heap.size w' v (stL c.fs)):=by
 have h4:=hg.f64
 refine T.enter (vs:=[c.val]) func221 rfl ntmps221 rfl ?_
 refine T.q (L.o (O.box rfl (fun b1 w1 hb1 hz1 he1 hB1=>?_)))
 have hC:Blk w1 b1 c.cells 46:=hB1
 have hc1:=hc.ext he1
 refine L.a rfl (L.nil (T.q (L.a rfl (L.nil (T.seq (T.q (L.a rfl (L.nil (T.block (?_))))))))))
 refine T.loop (σ:=Nat × Value) (fun s=>[(1,.pointer (some ⟨b1,0,none⟩)),(3,s.2),(4,.int .i64 s.1)]) (fun s w'=>s.1≤c.fs.length∧Ext w1 w'∧w'.ownsRow w1.heap.size 292 4 s.2 (pre (gF c.fs) s.1).length (stCells (pre (gF c.fs) s.1))∧(pre (gF c.fs) s.1).length≤360*s.1) (fun s=>c.fs.length-s.1) ((0,.slice none 0 0)) ⟨rfl,rfl,rfl,trivial⟩ ⟨Nat.zero_le _,Keep.refl _ _,owns_nil _ _ _ _,Nat.le_refl _⟩ ?_
 rintro ⟨f,s⟩ w2 ⟨hf,he2,hO2,hL2⟩
 simp only at hf hO2 hL2
 have hC2:=Blk.ext (cs:=c.cells) hC he2
 have hc2:=hc1.ext he2
 refine T.seq (T.q (L.m rfl (L.o (O.fieldAddr runUnderlying46 rfl sizeOf44 rfl (L.o (O.load isAgg44 rfl (hC2.cell rfl) (L.o (O.len runUnderlying44 rfl (Sl.val hc2.sl) (L.o (O.lss_s rfl rfl (fun hlt=>?_) (fun hlt=>?_)))))))))))
 ·refine L.nil (?_)
  have hlt':f<c.fs.length:=by simp only at hlt;omega
  have hh8:=hg.holes f hlt'
  have hrl:(c.fs.getD f f0).ri.length=(c.fs.getD f f0).hs.length+1:=rfl
  refine T.ct (T.skip (T.seq (T.block (T.q (L.o (O.fieldAddr runUnderlying46 rfl sizeOf44 rfl (L.o (O.load isAgg44 rfl (hC2.cell rfl) (L.m rfl (L.o (O.indexAddr runUnderlying44 sizeOf127 rfl rfl hc2.sl (by omega) (by omega) (L.o (O.loadAgg isAgg127 sizeOf127 rfl rfl (hc2.row hlt') (L.o (O.call (xs:=[.tmp 19]) call131 rfl rfl (rRings_calls lo (c.fs.getD f f0) w2 (hc2.at hlt') (by omega)) (fun v7 w7 hq=>?_))))))))))))))))
  obtain ⟨he7,hS7,hR7⟩:=hq
  have hO7:=owns_keep hO2 he7 (Nat.zero_le _)
  refine L.a rfl (L.nil (T.q (L.a rfl (L.nil (T.block (?_))))))
  refine T.loop (σ:=Nat × Value) (fun s=>[(1,.pointer (some ⟨b1,0,none⟩)),(3,s.2),(4,.int .i64 f),(5,v7),(6,.int .i64 s.1)]) (fun s w'=>s.1≤(c.fs.getD f f0).ri.length∧Ext w1 w'∧w7.heap.size≤w'.heap.size∧w'.ownsRow w2.heap.size 30 1 v7 (c.fs.getD f f0).ri.length (riCells (c.fs.getD f f0).ri)∧w'.ownsRow w1.heap.size 292 4 s.2 (pre (gF c.fs) f++pre (gR f (c.fs.getD f f0).ri) s.1).length (stCells (pre (gF c.fs) f++pre (gR f (c.fs.getD f f0).ri) s.1))∧(pre (gR f (c.fs.getD f f0).ri) s.1).length≤40*s.1) (fun s=>(c.fs.getD f f0).ri.length-s.1) ((0,s)) ⟨rfl,rfl,rfl,rfl,rfl,trivial⟩ ⟨Nat.zero_le _,he2.trans he7,Nat.le_refl _,hR7,by simpa [pre] using hO7,Nat.le_refl _⟩ ?_
  rintro ⟨r,s2⟩ w8 ⟨hr,he8,hz8,hR8,hO8,hL8⟩
  simp only at hr hO8 hL8 hR8
  have hS8:Sl w2.heap.size w8 v7 (c.fs.getD f f0).ri.length 1 (riCells (c.fs.getD f f0).ri):=Sl.of_owns hR8
  have hle8:=Sl.le hS8
  refine T.seq (T.q (L.m rfl (L.m rfl (L.o (O.len runUnderlying125 rfl (Sl.val hS8) (L.o (O.lss_s rfl rfl (fun hlr=>?_) (fun hlr=>?_))))))))
  ·refine L.nil (?_)
   have hlr':r<(c.fs.getD f f0).ri.length:=by simp only at hlr;omega
   have hix:=hg.idx f r hlt' hlr'
   refine T.ct (T.skip (T.seq (T.block (T.q (L.a rfl (L.nil (T.block (?_))))))))
   refine T.loop (σ:=Nat × Value) (fun s=>[(1,.pointer (some ⟨b1,0,none⟩)),(3,s.2),(4,.int .i64 f),(5,v7),(6,.int .i64 r),(7,.int .i64 s.1)]) (fun s w'=>s.1≤((c.fs.getD f f0).ri.getD r r0).xs.length∧Ext w1 w'∧w7.heap.size≤w'.heap.size∧w'.ownsRow w2.heap.size 30 1 v7 (c.fs.getD f f0).ri.length (riCells (c.fs.getD f f0).ri)∧w'.ownsRow w1.heap.size 292 4 s.2 (pre (gF c.fs) f++(pre (gR f (c.fs.getD f f0).ri) r++(stR f r ((c.fs.getD f f0).ri.getD r r0).xs).take s.1)).length (stCells (pre (gF c.fs) f++(pre (gR f (c.fs.getD f f0).ri) r++(stR f r ((c.fs.getD f f0).ri.getD r r0).xs).take s.1)))) (fun s=>((c.fs.getD f f0).ri.getD r r0).xs.length-s.1) ((0,s2)) ⟨rfl,rfl,rfl,rfl,rfl,rfl,trivial⟩ ⟨Nat.zero_le _,he8,hz8,hR8,by simpa using hO8⟩ ?_
   rintro ⟨i,s3⟩ w9 ⟨hi,he9,hz9,hR9,hO9⟩
   simp only at hi hO9 hR9
   have hS9:Sl w2.heap.size w9 v7 (c.fs.getD f f0).ri.length 1 (riCells (c.fs.getD f f0).ri):=Sl.of_owns hR9
   have hc9:=hc1.ext he9
   have hxs9:=ri_xs (hc9.at hlt') hlr'
   refine T.seq (T.q (L.m rfl (L.m rfl (L.m rfl (L.o (O.indexAddr runUnderlying125 sizeOf30 rfl rfl hS9 (by omega) (by omega) (L.o (O.load isAgg30 rfl (by rw [Int.toNat_natCast,Nat.mul_one];exact Sl.cell hS9 (ri_get hlr')) (L.o (O.len runUnderlying30 rfl (Sl.val hxs9) (L.o (O.lss_s rfl rfl (fun hli=>?_) (fun hli=>?_)))))))))))))
   ·refine L.nil (?_)
    have hli':i<((c.fs.getD f f0).ri.getD r r0).xs.length:=by simp only at hli;omega
    obtain ⟨xs,hxs⟩:∃ xs,xs=((c.fs.getD f f0).ri.getD r r0).xs:=⟨_,rfl⟩
    rw [← hxs] at hxs9 hix hO9 hli'
    have hm:(i+1) % xs.length<xs.length:=Nat.mod_lt _ (by omega)
    have hmi:((i:Int)+1) % (xs.length:Int)=(((i+1) % xs.length:Nat):Int):=by rw [show (i:Int)+1=((i+1:Nat):Int) by omega];rfl
    have hn1:=nI_val hix.2 hli'
    have hn2:=nI_val hix.2 hm
    obtain ⟨sn,hsn⟩:∃ sn:St,sn=⟨nI xs i,nI xs ((i+1) % xs.length),f,r⟩:=⟨_,rfl⟩
    refine T.ct (T.skip (T.seq (T.block (?_))))
    refine T.anyE mixed 26 [3,5,6,7,4] rfl [.is _,.is _,.is _,.is _,.is _,.is _,.is _,.is (.int .i64 ((nI xs i:Nat):Int)),.is _,.is _,.is _,.is _,.is _,.is _,.is _,.is _,.is _,.is _,.is _,.is (.int .i64 (((i+1) % xs.length:Nat):Int)),.is _,.is (.int .i64 ((nI xs ((i+1) % xs.length):Nat):Int)),.is _,.is _,.is _,.such (StB sn)] [[],[],[],[1,2],[3],[],[4,5],[6],[],[],[8,9],[10],[],[12],[],[],[14,15],[16],[17],[13,18],[11,19],[20],[],[],[7,21,22,23],[24]] [[],[],[],[1,2],[1,2,3],[],[1,2,3,4,5],[1,2,3,4,5,6],[],[],[8,9],[8,9,10],[],[12],[],[],[14,15],[14,15,16],[14,15,16,17],[12,13,14,15,16,17,18],[8,9,10,11,12,13,14,15,16,17,18,19],[8,9,10,11,12,13,14,15,16,17,18,19,20],[],[],[1,2,3,4,5,6,7,8,9,10,11,12,13,14,15,16,17,18,19,20,21,22,23],[1,2,3,4,5,6,7,8,9,10,11,12,13,14,15,16,17,18,19,20,21,22,23,24],[0,1,2,3,4,5,6,7,8,9,10,11,12,13,14,15,16,17,18,19,20,21,22,23,24,25],[0,1,2,3,4,5,6,7,8,9,10,11,12,13,14,15,16,17,18,19,20,21,22,23,24,25,26]] (by kernel_rfl) (by kernel_rfl) rfl (by kernel_rfl) ⟨StB.st,trivial⟩ ⟨fun wx hx=>Ob.o (O.move rfl kR),
      fun wx hx=>Ob.o (O.move rfl kR),
      fun wx hx=>Ob.o (O.move rfl kR),
      fun wx hx=>Ob.o (O.indexAddr runUnderlying125 sizeOf30 rfl rfl (Sl.ext hS9 hx) (by (try dsimp only);omega) (by (try dsimp only);omega) kR),
      fun wx hx=>Ob.o (O.load isAgg30 rfl (by rw [Int.toNat_natCast,Nat.mul_one];exact Sl.cell (Sl.ext hS9 hx) (ri_get hlr')) kR),
      fun wx hx=>Ob.o (O.move rfl kR),
      fun wx hx=>Ob.o (O.indexAddr runUnderlying30 sizeOf3 rfl rfl (hxs9.ext hx) (by (try dsimp only);omega) (by (try dsimp only);omega) kR),
      fun wx hx=>Ob.o (O.load isAgg3 rfl (Ints.at (hxs9.ext hx) hli') ⟨Keep.refl _ _,by rw [hn1];rfl⟩),
      fun wx hx=>Ob.o (O.move rfl kR),
      fun wx hx=>Ob.o (O.move rfl kR),
      fun wx hx=>Ob.o (O.indexAddr runUnderlying125 sizeOf30 rfl rfl (Sl.ext hS9 hx) (by (try dsimp only);omega) (by (try dsimp only);omega) kR),
      fun wx hx=>Ob.o (O.load isAgg30 rfl (by rw [Int.toNat_natCast,Nat.mul_one];exact Sl.cell (Sl.ext hS9 hx) (ri_get hlr')) kR),
      fun wx hx=>Ob.o (O.move rfl kR),
      fun wx hx=>Ob.o (O.add64 rfl rfl (by (try dsimp only);omega) kR),
      fun wx hx=>Ob.o (O.move rfl kR),
      fun wx hx=>Ob.o (O.move rfl kR),
      fun wx hx=>Ob.o (O.indexAddr runUnderlying125 sizeOf30 rfl rfl (Sl.ext hS9 hx) (by (try dsimp only);omega) (by (try dsimp only);omega) kR),
      fun wx hx=>Ob.o (O.load isAgg30 rfl (by rw [Int.toNat_natCast,Nat.mul_one];exact Sl.cell (Sl.ext hS9 hx) (ri_get hlr')) kR),
      fun wx hx=>Ob.o (O.len runUnderlying30 rfl (Sl.val (hxs9.ext hx)) kR),
      fun wx hx=>Ob.o (O.rem rfl rfl (by omega) (by omega) ⟨Keep.refl _ _,by rw [← hmi];rfl⟩),
      fun wx hx=>Ob.o (O.indexAddr runUnderlying30 sizeOf3 rfl rfl (hxs9.ext hx) (by omega) (by omega) kR),
      fun wx hx=>Ob.o (O.load isAgg3 rfl (Ints.at (hxs9.ext hx) hm) ⟨Keep.refl _ _,by rw [hn2];rfl⟩),
      fun wx hx=>Ob.o (O.move rfl kR),
      fun wx hx=>Ob.o (O.move rfl kR),
      fun wx hx=>Ob.o (O.build (v:=sn.val) (parts:=[(0,.tmp 43),(1,.tmp 57),(2,.tmp 58),(3,.tmp 59)]) (vs:=[(0,_),(1,_),(2,_),(3,_)]) rfl (fun w=>by rw [hsn];kernel_rfl) kR),
      fun wx hx=>Ob.o (O.buildSlice (el:=292) (parts:=[(0,.tmp 60)]) (vs:=[(0,_)]) (cs:=sn.cells) rfl (fun w=>by kernel_rfl) (fun b11 w11 hb11 hz11 he11 hB11=>⟨he11,⟨b11,rfl,hB11⟩⟩)),
      trivial⟩ (fun w10 he10 v61 hv61=>?_)
    obtain ⟨b11,rfl,hB11⟩:=hv61
    have hO10:=owns_keep hO9 he10 (Nat.zero_le _)
    have hR10:=owns_keep hR9 he10 (Nat.zero_le _)
    have hS10:Sl 0 w10 (.slice (some ⟨b11,0,none⟩) 1 1) 1 4 sn.cells:=Sl.of_blk hB11 rfl (Nat.le_refl _) (by decide) (Nat.zero_le _)
    have hlen:(pre (gF c.fs) f++(pre (gR f (c.fs.getD f f0).ri) r++(stR f r xs).take i)).length≤360*64+40*9+40:=by
     rw [List.length_append,List.length_append,List.length_take];omega
    refine L.o (O.append (size:=4) (bytes:=32) runUnderlying289 Tryz.infoOf292 rfl rfl rfl rfl (by decide) rfl rfl hO10 hS10 (St.one sn) (by omega) (by simp only [maxLen];omega) (by have:=he1.size;have:=he9.size;have:=he10.size;omega) (fun v12 w12 hO12 hG12=>?_))
    have he112:Ext w1 w12:=Keep.grown0 (he9.trans he10) hO10 hG12 (Nat.le_refl _)
    have hR12:=hR10.kept hG12 (own_ne hR10 hO10 (by decide))
    refine L.a rfl (L.nil (T.blk (T.region (L.m rfl (L.o (O.add64 rfl rfl (by (try dsimp only);omega) (L.a rfl (L.nil (T.again ((i+1,v12)) (by omega) ⟨rfl,rfl,rfl,rfl,rfl,rfl,trivial⟩ ⟨by rw [← hxs];exact hli',he112,by have:=he10.size;have:=hG12.size;omega,hR12,?_⟩)))))))))
    ·have e:pre (gF c.fs) f++(pre (gR f (c.fs.getD f f0).ri) r++(stR f r ((c.fs.getD f f0).ri.getD r r0).xs).take (i+1))=(pre (gF c.fs) f++(pre (gR f (c.fs.getD f f0).ri) r++(stR f r xs).take i)) ++ [sn]:=by
      rw [← hxs,stR_take f r xs hli',hsn];simp
     show World.ownsRow w12 _ _ _ v12 (pre (gF c.fs) f++(pre (gR f (c.fs.getD f f0).ri) r++(stR f r ((c.fs.getD f f0).ri.getD r r0).xs).take (i+1))).length _
     rw [e,List.length_append,stCells_append,stCells_one]
     exact hO12
   ·refine L.nil (?_)
    obtain rfl:i=((c.fs.getD f f0).ri.getD r r0).xs.length:=by simp only at hli;omega
    have htk:(stR f r ((c.fs.getD f f0).ri.getD r r0).xs).take ((c.fs.getD f f0).ri.getD r r0).xs.length=gR f (c.fs.getD f f0).ri r:=by rw [List.take_of_length_le (by rw [stR_len];exact Nat.le_refl _)];rfl
    rw [htk,← pre_succ] at hO9
    refine T.cf (T.exit rfl (T.blk (T.region (L.m rfl (L.o (O.add64 rfl rfl (by (try dsimp only);omega) (L.a rfl (L.nil (T.again ((r+1,s3)) (by omega) ⟨rfl,rfl,rfl,rfl,rfl,trivial⟩ ⟨hlr',he9,hz9,hR9,hO9,?_⟩)))))))))
    ·show (pre (gR f (c.fs.getD f f0).ri) (r+1)).length≤40*(r+1)
     rw [pre_succ,List.length_append]
     have:(gR f (c.fs.getD f f0).ri r).length=((c.fs.getD f f0).ri.getD r r0).xs.length:=stR_len _ _ _
     have:=hix.1.2
     omega
  ·refine L.nil (?_)
   obtain rfl:r=(c.fs.getD f f0).ri.length:=by simp only at hlr;omega
   refine T.cf (T.exit rfl (T.blk (T.region (L.m rfl (L.o (O.add64 rfl rfl (by (try dsimp only);omega) (L.a rfl (L.nil (T.again ((f+1,s2)) (by omega) ⟨rfl,rfl,rfl,trivial⟩ ⟨hlt',he8,?_,?_⟩)))))))))
   ·show World.ownsRow w8 _ _ _ s2 (pre (gF c.fs) (f+1)).length (stCells (pre (gF c.fs) (f+1)))
    rw [pre_succ];exact hO8
   ·show (pre (gF c.fs) (f+1)).length≤360*(f+1)
    rw [pre_succ,List.length_append]
    have:(gF c.fs f).length=(pre (gR f (c.fs.getD f f0).ri) (c.fs.getD f f0).ri.length).length:=rfl
    omega
 ·refine L.nil (?_)
  obtain rfl:f=c.fs.length:=by simp only at hlt;omega
  refine T.cf (T.exit rfl (T.q (L.m rfl (L.a rfl (L.nil (T.ret1 results221 rfl ⟨he1.trans he2,(Sl.of_owns hO2).mono (by have:=he1.size;omega)⟩))))))

open Go Go.E

attribute [local irreducible] Go.E.ObG
open Geo (RR RG howI clashR)
/-- Four boxes of one's own, made as values 24 .. 27 of a region, filled one after the other. -/
structure Box4 (base:Nat) (w0:World) (p:Nat→Pt) (c:Nat) (σ:Vals) (w:World):Prop where
 e:Ext w0 w
 all:0<c→∀ k,k<4→∃ v,σ (24+k)=some v
 box:∀ k,k<4→∀ v,σ (24+k)=some v→∃ b q,v = .pointer (some ⟨b,0,none⟩)∧base≤b∧Blk w b (pC q) 124∧(k<c→q=p k)
 ne:∀ j k,j<4→k<4→j≠k→∀ b,σ (24+j)=some (.pointer (some ⟨b,0,none⟩))→σ (24+k)=some (.pointer (some ⟨b,0,none⟩))→False
theorem Box4.nop {base:Nat} {w0:World} {p:Nat→Pt} {c i:Nat} {σ:Vals} {w w':World} {v:Value} (h:Box4 base w0 p c σ w) (he:Ext w w') (hi:i<24∨27<i):Box4 base w0 p c (upV σ i v) w':=by
 have hs:∀ k,k<4→upV σ i v (24+k)=σ (24+k):=fun k hk=>upV_ne _ _ (by omega)
 refine ⟨h.e.trans he,fun hc k hk=>by rw [hs k hk];exact h.all hc k hk,fun k hk u hu=>?_,fun j k hj hk hjk b h1 h2=>?_⟩
 ·rw [hs k hk] at hu
  obtain ⟨b,q,h1,h2,h3,h4⟩:=h.box k hk u hu
  exact ⟨b,q,h1,h2,Blk.ext (cs:=pC q) h3 he,h4⟩
 ·rw [hs j hj] at h1;rw [hs k hk] at h2;exact h.ne j k hj hk hjk b h1 h2
theorem Box4.alloc {base:Nat} {w0:World} {p:Nat→Pt} {c k:Nat} {σ:Vals} {w w':World} {b:Nat} {q:Pt} (h:Box4 base w0 p c σ w) (hn:σ (24+k)=none) (hk:k<4) (hb:b=w.heap.size) (hbase:base≤w.heap.size) (he:Ext w w') (hB:Blk w' b (pC q) 124):Box4 base w0 p c (upV σ (24+k) (.pointer (some ⟨b,0,none⟩))) w':=by
 have hc0:c=0:=by
  rcases Nat.eq_zero_or_pos c with h0|h0
  ·exact h0
  ·obtain ⟨v,hv⟩:=h.all h0 k hk;rw [hn] at hv;cases hv
 subst hc0
 have hs:∀ j,j≠k→upV σ (24+k) (.pointer (some ⟨b,0,none⟩)) (24+j)=σ (24+j):=fun j hj=>upV_ne _ _ (by omega)
 have hold:∀ j,j<4→σ (24+j)=some (.pointer (some ⟨b,0,none⟩))→False:=fun j hj hv=>by
  obtain ⟨b',q',h1,_,h3,_⟩:=h.box j hj _ hv
  cases h1
  have:=Blk.lt (cs:=pC q') h3
  omega
 refine ⟨h.e.trans he,fun h0=>absurd h0 (by omega),fun j hj u hu=>?_,fun i j hi hj hij b' h1 h2=>?_⟩
 ·by_cases e:j=k
  ·subst e
   rw [upV_self] at hu
   cases hu
   exact ⟨b,q,rfl,by omega,hB,fun h0=>absurd h0 (by omega)⟩
  ·rw [hs j e] at hu
   obtain ⟨b',q',h1,h2,h3,h4⟩:=h.box j hj u hu
   exact ⟨b',q',h1,h2,Blk.ext (cs:=pC q') h3 he,h4⟩
 ·by_cases ei:i=k
  ·subst ei
   rw [upV_self] at h1
   cases h1
   rw [hs j (Ne.symm hij)] at h2
   exact hold j hj h2
  ·rw [hs i ei] at h1
   by_cases ej:j=k
   ·subst ej
    rw [upV_self] at h2
    cases h2
    exact hold i hi h1
   ·rw [hs j ej] at h2
    exact h.ne i j hi hj hij b' h1 h2
theorem Box4.store {base:Nat} {w0:World} {p:Nat→Pt} {c i:Nat} {σ:Vals} {w w':World} {b:Nat} {v:Value} (h:Box4 base w0 p c σ w) (h0:base=w0.heap.size) (hall:∀ k,k<4→∃ v,σ (24+k)=some v) (hc:c<4) (hv:σ (24+c)=some (.pointer (some ⟨b,0,none⟩))) (hi:27<i) (hu:Upd b w w') (hB:Blk w' b (pC (p c)) 124):Box4 base w0 p (c+1) (upV σ i v) w':=by
 have hs:∀ k,k<4→upV σ i v (24+k)=σ (24+k):=fun k hk=>upV_ne _ _ (by omega)
 have hb:base≤b:=by obtain ⟨b',q',h1,h2,_⟩:=h.box c hc _ hv;cases h1;exact h2
 refine ⟨h.e.upd hu (.inr (by omega)),fun _ k hk=>by rw [hs k hk];exact hall k hk,fun k hk u hu'=>?_,fun j k hj hk hjk b h1 h2=>?_⟩
 ·rw [hs k hk] at hu'
  obtain ⟨b',q',h1,h2,h3,h4⟩:=h.box k hk u hu'
  subst h1
  by_cases e:k=c
  ·subst e
   rw [hv] at hu'
   cases hu'
   exact ⟨b,p k,rfl,h2,hB,fun _=>rfl⟩
  ·have hne:b'≠b:=fun eb=>by subst eb;exact h.ne k c hk hc e b' hu' hv
   exact ⟨b',q',rfl,h2,Blk.upd (cs:=pC q') h3 hu hne,fun hk'=>h4 (by omega)⟩
 ·rw [hs j hj] at h1;rw [hs k hk] at h2;exact h.ne j k hj hk hjk b h1 h2
theorem Box4.start {w0 w:World} {p:Nat→Pt} (he:Ext w0 w):Box4 w0.heap.size w0 p 0 (fun _=>none) w:=⟨he,fun h=>absurd h (by omega),fun _ _ _ h=>(by cases h),fun _ _ _ _ _ _ h=>(by cases h)⟩
theorem all4 {σ:Vals} (h0:∃ v,σ 24=some v) (h1:∃ v,σ 25=some v) (h2:∃ v,σ 26=some v) (h3:∃ v,σ 27=some v):∀ k,k<4→∃ v,σ (24+k)=some v:=fun k hk=>by
 rcases (show k=0∨k=1∨k=2∨k=3 by omega) with rfl|rfl|rfl|rfl
 ·exact h0
 ·exact h1
 ·exact h2
 ·exact h3
def pt4 (a b c d:Pt) (k:Nat):Pt:=match k with|0=>a|1=>b|2=>c|_=>d
set_option maxHeartbeats 4000000 in
theorem rClash_calls (lo:Nat) (cx:CxV) (s t:St) (w:World) (hc:Pts lo w cx.pv cx.ps) (hf:NfL cx.ps) (hsa:s.a<cx.ps.length) (hsb:s.b<cx.ps.length) (hta:t.a<cx.ps.length) (htb:t.b<cx.ps.length) :
  Calls Tryz.prog 222 #[cx.val,s.val,t.val] w (Ret fun v w'=>v = .bool (clashR cx.ps s t)∧Ext w w'):=by
 refine T.enter (vs:=[cx.val,s.val,t.val]) func222 rfl ntmps222 rfl ?_
 refine T.q (L.o (O.box rfl (fun b3 w3 hb3 hz3 he3 hB3=>?_)))
 refine L.o (O.box rfl (fun b4 w4 hb4 hz4 he4 hB4=>?_))
 refine L.o (O.box rfl (fun b5 w5 hb5 hz5 he5 hB5=>?_))
 have he35:=(he3.trans he4).trans he5
 have hC:Blk w5 b3 cx.cells 46:=Blk.ext (cs:=cx.cells) hB3 (he4.trans he5)
 have hS:Blk w5 b4 s.cells 292:=Blk.ext (cs:=s.cells) hB4 he5
 have hT:Blk w5 b5 t.cells 292:=hB5
 have hc5:=hc.ext he35
 refine L.a rfl (L.nil (T.seq (T.seq (?_))))
 refine T.join (σ:=Unit) (fun _=>[(3,.pointer (some ⟨b3,0,none⟩)),(4,.pointer (some ⟨b4,0,none⟩)),(5,.pointer (some ⟨b5,0,none⟩)),(37,.bool (decide (s.a=t.a∧s.b=t.b∨s.a=t.b∧s.b=t.a)))]) (fun _ w'=>w'=w5) ?_ ?_
 ·refine T.region (L.o (O.fieldAddr runUnderlying292 rfl sizeOf3 rfl (L.o (O.load isAgg3 rfl (hS.cell rfl) (L.o (O.fieldAddr runUnderlying292 rfl sizeOf3 rfl (L.o (O.load isAgg3 rfl (hT.cell rfl) (L.o (O.eql_s rfl rfl (fun e1=>?_) (fun e1=>?_)))))))))))
  ·refine L.m rfl (L.o (O.fieldAddr runUnderlying292 rfl sizeOf3 rfl (L.o (O.load isAgg3 rfl (hS.cell rfl) (L.o (O.fieldAddr runUnderlying292 rfl sizeOf3 rfl (L.o (O.load isAgg3 rfl (hT.cell rfl) (L.o (O.eql_s rfl rfl (fun e2=>?_) (fun e2=>?_)))))))))))
   ·refine L.o (O.pick_true rfl rfl (L.m rfl (L.p (L.p (L.p (L.p (L.p (L.p (L.p (L.p (L.p (L.p (L.p (L.p (L.o (O.pick_true rfl rfl (L.nil (T.meet (()) ⟨rfl,rfl,rfl,?_,trivial⟩ rfl))))))))))))))))))
    ·exact congrArg (fun z=>some (Value.bool z)) (decide_eq_true (.inl ⟨by omega,by omega⟩)).symm
   ·refine L.o (O.pick_true rfl rfl (L.m rfl (L.o (O.fieldAddr runUnderlying292 rfl sizeOf3 rfl (L.o (O.load isAgg3 rfl (hS.cell rfl) (L.o (O.fieldAddr runUnderlying292 rfl sizeOf3 rfl (L.o (O.load isAgg3 rfl (hT.cell rfl) (L.o (O.eql_s rfl rfl (fun e3=>?_) (fun e3=>?_)))))))))))))
    ·refine L.m rfl (L.o (O.fieldAddr runUnderlying292 rfl sizeOf3 rfl (L.o (O.load isAgg3 rfl (hS.cell rfl) (L.o (O.fieldAddr runUnderlying292 rfl sizeOf3 rfl (L.o (O.load isAgg3 rfl (hT.cell rfl) (L.o (O.eql_s rfl rfl (fun e4=>?_) (fun e4=>?_)))))))))))
     ·refine L.o (O.pick_true rfl rfl (L.o (O.pick_false rfl rfl (L.nil (T.meet (()) ⟨rfl,rfl,rfl,?_,trivial⟩ rfl)))))
      ·exact congrArg (fun z=>some (Value.bool z)) (decide_eq_true (.inr ⟨by omega,by omega⟩)).symm
     ·refine L.o (O.pick_true rfl rfl (L.o (O.pick_false rfl rfl (L.nil (T.meet (()) ⟨rfl,rfl,rfl,?_,trivial⟩ rfl)))))
      ·exact congrArg (fun z=>some (Value.bool z)) (decide_eq_false (by omega)).symm
    ·refine L.m rfl (L.p (L.p (L.p (L.p (L.p (L.o (O.pick_false rfl rfl (L.o (O.pick_false rfl rfl (L.nil (T.meet (()) ⟨rfl,rfl,rfl,?_,trivial⟩ rfl)))))))))))
     ·exact congrArg (fun z=>some (Value.bool z)) (decide_eq_false (by omega)).symm
  ·refine L.m rfl (L.p (L.p (L.p (L.p (L.p (L.o (O.pick_false rfl rfl (L.m rfl (L.o (O.fieldAddr runUnderlying292 rfl sizeOf3 rfl (L.o (O.load isAgg3 rfl (hS.cell rfl) (L.o (O.fieldAddr runUnderlying292 rfl sizeOf3 rfl (L.o (O.load isAgg3 rfl (hT.cell rfl) (L.o (O.eql_s rfl rfl (fun e3=>?_) (fun e3=>?_)))))))))))))))))))
   ·refine L.m rfl (L.o (O.fieldAddr runUnderlying292 rfl sizeOf3 rfl (L.o (O.load isAgg3 rfl (hS.cell rfl) (L.o (O.fieldAddr runUnderlying292 rfl sizeOf3 rfl (L.o (O.load isAgg3 rfl (hT.cell rfl) (L.o (O.eql_s rfl rfl (fun e4=>?_) (fun e4=>?_)))))))))))
    ·refine L.o (O.pick_true rfl rfl (L.o (O.pick_false rfl rfl (L.nil (T.meet (()) ⟨rfl,rfl,rfl,?_,trivial⟩ rfl)))))
     ·exact congrArg (fun z=>some (Value.bool z)) (decide_eq_true (.inr ⟨by omega,by omega⟩)).symm
    ·refine L.o (O.pick_true rfl rfl (L.o (O.pick_false rfl rfl (L.nil (T.meet (()) ⟨rfl,rfl,rfl,?_,trivial⟩ rfl)))))
     ·exact congrArg (fun z=>some (Value.bool z)) (decide_eq_false (by omega)).symm
   ·refine L.m rfl (L.p (L.p (L.p (L.p (L.p (L.o (O.pick_false rfl rfl (L.o (O.pick_false rfl rfl (L.nil (T.meet (()) ⟨rfl,rfl,rfl,?_,trivial⟩ rfl)))))))))))
    ·exact congrArg (fun z=>some (Value.bool z)) (decide_eq_false (by omega)).symm
 rintro _ w6 rfl
 refine T.cond_dec rfl (fun hno=>?_) (fun hno=>?_)
 ·refine T.q (L.a rfl (L.nil (T.ret1 results222 rfl ⟨by rw [clashR,if_pos hno],he35⟩)))
 ·obtain ⟨base,hbase⟩:∃ base,base=w6.heap.size:=⟨_,rfl⟩
  refine T.skip (T.seq (?_))
  refine T.anyG mixed 31 3 [3,4,5] rfl (.is _ :: .is _ :: .is _ :: .is _ :: .is _ :: .is _ :: .is _ :: .is _ :: .is _ :: .is _ :: .is _ :: .is _ :: .is _ :: .is _ :: .is _ :: .is _ :: .is _ :: .is _ :: .is _ :: .is _ :: .is _ :: .is _ :: .is _ :: .is _ :: .such (fun _ _=>True) :: .such (fun _ _=>True) :: .such (fun _ _=>True) :: .such (fun _ _=>True) :: .is undef :: .is undef :: .is undef :: []) ([] :: [0] :: [] :: [2] :: [1,3] :: [4] :: [] :: [6] :: [] :: [8] :: [7,9] :: [10] :: [] :: [12] :: [] :: [14] :: [13,15] :: [16] :: [] :: [18] :: [] :: [20] :: [19,21] :: [22] :: [] :: [] :: [] :: [] :: [24,5,25,26,27] :: [25,11] :: [26,17] :: []) (none::none::none::none::none::none::none::none::none::none::none::none::none::none::none::none::none::none::none::none::none::none::none::none::none::none::none::none::some 0::some 1::some 2 :: []) ([] :: [0] :: [] :: [2] :: [0,1,2,3] :: [0,1,2,3,4] :: [] :: [6] :: [] :: [8] :: [6,7,8,9] :: [6,7,8,9,10] :: [] :: [12] :: [] :: [14] :: [12,13,14,15] :: [12,13,14,15,16] :: [] :: [18] :: [] :: [20] :: [18,19,20,21] :: [18,19,20,21,22] :: [] :: [] :: [] :: [] :: [0,1,2,3,4,5,24,25,26,27] :: [0,1,2,3,4,5,6,7,8,9,10,11,24,25,26,27,28] :: [0,1,2,3,4,5,6,7,8,9,10,11,12,13,14,15,16,17,24,25,26,27,28,29]::(0::1::2::3::4::5::6::7::8::9::10::11::12::13::14::15::16::17::18::19::20::21::22::23::24::25::26::27::28::29::30 :: []) :: []) (Box4 base w6 (pt4 (gP cx.ps s.a) (gP cx.ps s.b) (gP cx.ps t.a) (gP cx.ps t.b))) (fun _ _=>True) (by kernel_rfl) (by kernel_rfl) (by kernel_rfl) rfl ⟨fun _ _ _ _ _=>trivial,fun _ _ _ _ _=>trivial,fun _ _ _ _ _=>trivial,fun _ _ _ _ _=>trivial,trivial⟩ (by subst hbase;exact Box4.start (Keep.drew _ _)) ⟨fun c σ wx hx hn hl=>ObG.op rfl (O.fieldAddr runUnderlying46 rfl sizeOf43 rfl ⟨⟨trivial,hx.nop (Keep.refl _ _) (by decide)⟩,rfl⟩),
    fun c σ wx hx hn hl=>ObG.op rfl (O.load isAgg43 rfl ((Blk.ext (cs:=cx.cells) hC hx.e).cell rfl) ⟨⟨trivial,hx.nop (Keep.refl _ _) (by decide)⟩,rfl⟩),
    fun c σ wx hx hn hl=>ObG.op rfl (O.fieldAddr runUnderlying292 rfl sizeOf3 rfl ⟨⟨trivial,hx.nop (Keep.refl _ _) (by decide)⟩,rfl⟩),
    fun c σ wx hx hn hl=>ObG.op rfl (O.load isAgg3 rfl ((Blk.ext (cs:=s.cells) hS hx.e).cell rfl) ⟨⟨trivial,hx.nop (Keep.refl _ _) (by decide)⟩,rfl⟩),
    fun c σ wx hx hn hl=>ObG.op rfl (O.indexAddr runUnderlying43 sizeOf124 rfl rfl (hc5.ext hx.e) (by omega) (by omega) ⟨⟨trivial,hx.nop (Keep.refl _ _) (by decide)⟩,rfl⟩),
    fun c σ wx hx hn hl=>ObG.op rfl (O.loadAgg isAgg124 sizeOf124 rfl rfl ((hc5.ext hx.e).row hsa) ⟨⟨trivial,hx.nop (Keep.refl _ _) (by decide)⟩,rfl⟩),
    fun c σ wx hx hn hl=>ObG.op rfl (O.fieldAddr runUnderlying46 rfl sizeOf43 rfl ⟨⟨trivial,hx.nop (Keep.refl _ _) (by decide)⟩,rfl⟩),
    fun c σ wx hx hn hl=>ObG.op rfl (O.load isAgg43 rfl ((Blk.ext (cs:=cx.cells) hC hx.e).cell rfl) ⟨⟨trivial,hx.nop (Keep.refl _ _) (by decide)⟩,rfl⟩),
    fun c σ wx hx hn hl=>ObG.op rfl (O.fieldAddr runUnderlying292 rfl sizeOf3 rfl ⟨⟨trivial,hx.nop (Keep.refl _ _) (by decide)⟩,rfl⟩),
    fun c σ wx hx hn hl=>ObG.op rfl (O.load isAgg3 rfl ((Blk.ext (cs:=s.cells) hS hx.e).cell rfl) ⟨⟨trivial,hx.nop (Keep.refl _ _) (by decide)⟩,rfl⟩),
    fun c σ wx hx hn hl=>ObG.op rfl (O.indexAddr runUnderlying43 sizeOf124 rfl rfl (hc5.ext hx.e) (by omega) (by omega) ⟨⟨trivial,hx.nop (Keep.refl _ _) (by decide)⟩,rfl⟩),
    fun c σ wx hx hn hl=>ObG.op rfl (O.loadAgg isAgg124 sizeOf124 rfl rfl ((hc5.ext hx.e).row hsb) ⟨⟨trivial,hx.nop (Keep.refl _ _) (by decide)⟩,rfl⟩),
    fun c σ wx hx hn hl=>ObG.op rfl (O.fieldAddr runUnderlying46 rfl sizeOf43 rfl ⟨⟨trivial,hx.nop (Keep.refl _ _) (by decide)⟩,rfl⟩),
    fun c σ wx hx hn hl=>ObG.op rfl (O.load isAgg43 rfl ((Blk.ext (cs:=cx.cells) hC hx.e).cell rfl) ⟨⟨trivial,hx.nop (Keep.refl _ _) (by decide)⟩,rfl⟩),
    fun c σ wx hx hn hl=>ObG.op rfl (O.fieldAddr runUnderlying292 rfl sizeOf3 rfl ⟨⟨trivial,hx.nop (Keep.refl _ _) (by decide)⟩,rfl⟩),
    fun c σ wx hx hn hl=>ObG.op rfl (O.load isAgg3 rfl ((Blk.ext (cs:=t.cells) hT hx.e).cell rfl) ⟨⟨trivial,hx.nop (Keep.refl _ _) (by decide)⟩,rfl⟩),
    fun c σ wx hx hn hl=>ObG.op rfl (O.indexAddr runUnderlying43 sizeOf124 rfl rfl (hc5.ext hx.e) (by omega) (by omega) ⟨⟨trivial,hx.nop (Keep.refl _ _) (by decide)⟩,rfl⟩),
    fun c σ wx hx hn hl=>ObG.op rfl (O.loadAgg isAgg124 sizeOf124 rfl rfl ((hc5.ext hx.e).row hta) ⟨⟨trivial,hx.nop (Keep.refl _ _) (by decide)⟩,rfl⟩),
    fun c σ wx hx hn hl=>ObG.op rfl (O.fieldAddr runUnderlying46 rfl sizeOf43 rfl ⟨⟨trivial,hx.nop (Keep.refl _ _) (by decide)⟩,rfl⟩),
    fun c σ wx hx hn hl=>ObG.op rfl (O.load isAgg43 rfl ((Blk.ext (cs:=cx.cells) hC hx.e).cell rfl) ⟨⟨trivial,hx.nop (Keep.refl _ _) (by decide)⟩,rfl⟩),
    fun c σ wx hx hn hl=>ObG.op rfl (O.fieldAddr runUnderlying292 rfl sizeOf3 rfl ⟨⟨trivial,hx.nop (Keep.refl _ _) (by decide)⟩,rfl⟩),
    fun c σ wx hx hn hl=>ObG.op rfl (O.load isAgg3 rfl ((Blk.ext (cs:=t.cells) hT hx.e).cell rfl) ⟨⟨trivial,hx.nop (Keep.refl _ _) (by decide)⟩,rfl⟩),
    fun c σ wx hx hn hl=>ObG.op rfl (O.indexAddr runUnderlying43 sizeOf124 rfl rfl (hc5.ext hx.e) (by omega) (by omega) ⟨⟨trivial,hx.nop (Keep.refl _ _) (by decide)⟩,rfl⟩),
    fun c σ wx hx hn hl=>ObG.op rfl (O.loadAgg isAgg124 sizeOf124 rfl rfl ((hc5.ext hx.e).row htb) ⟨⟨trivial,hx.nop (Keep.refl _ _) (by decide)⟩,rfl⟩),
    fun c σ wx hx hn hl=>ObG.op rfl (O.alloc zeroValue124 (fun b wy hb hz he hB=>⟨⟨trivial,hx.alloc (k:=0) (q:=(0,0)) hn (by decide) hb (by subst hbase;exact hx.e.size) he hB⟩,trivial⟩)),
    fun c σ wx hx hn hl=>ObG.op rfl (O.alloc zeroValue124 (fun b wy hb hz he hB=>⟨⟨trivial,hx.alloc (k:=1) (q:=(0,0)) hn (by decide) hb (by subst hbase;exact hx.e.size) he hB⟩,trivial⟩)),
    fun c σ wx hx hn hl=>ObG.op rfl (O.alloc zeroValue124 (fun b wy hb hz he hB=>⟨⟨trivial,hx.alloc (k:=2) (q:=(0,0)) hn (by decide) hb (by subst hbase;exact hx.e.size) he hB⟩,trivial⟩)),
    fun c σ wx hx hn hl=>ObG.op rfl (O.alloc zeroValue124 (fun b wy hb hz he hB=>⟨⟨trivial,hx.alloc (k:=3) (q:=(0,0)) hn (by decide) hb (by subst hbase;exact hx.e.size) he hB⟩,trivial⟩)),
    fun σ wx hx hn v7 hv7 v8 hv8 v9 hv9 v10 hv10 hl=>by { obtain ⟨b21,q21,rfl,hb21,hB21,_⟩:=hx.box 0 (by decide) v7 (hl 24 (by decide) _ _ rfl rfl).symm;exact ObG.op rfl (O.storeAgg sizeOf124 rfl rfl rfl hB21 (Nat.le_refl _) (pC_one (gP cx.ps s.a)) (fun w80 hu80 hB80=>⟨⟨trivial,hx.store hbase (all4 ⟨_,(hl 24 (by decide) _ _ rfl rfl).symm⟩ ⟨_,(hl 25 (by decide) _ _ rfl rfl).symm⟩ ⟨_,(hl 26 (by decide) _ _ rfl rfl).symm⟩ ⟨_,(hl 27 (by decide) _ _ rfl rfl).symm⟩) (by decide) (hl 24 (by decide) _ _ rfl rfl).symm (by decide) hu80 hB80⟩,rfl⟩)) },
    fun σ wx hx hn v8 hv8 hl=>by { obtain ⟨b22,q22,rfl,hb22,hB22,_⟩:=hx.box 1 (by decide) v8 (hl 25 (by decide) _ _ rfl rfl).symm;exact ObG.op rfl (O.storeAgg sizeOf124 rfl rfl rfl hB22 (Nat.le_refl _) (pC_one (gP cx.ps s.b)) (fun w81 hu81 hB81=>⟨⟨trivial,hx.store hbase (hx.all (by decide)) (by decide) (hl 25 (by decide) _ _ rfl rfl).symm (by decide) hu81 hB81⟩,rfl⟩)) },
    fun σ wx hx hn v9 hv9 hl=>by { obtain ⟨b23,q23,rfl,hb23,hB23,_⟩:=hx.box 2 (by decide) v9 (hl 26 (by decide) _ _ rfl rfl).symm;exact ObG.op rfl (O.storeAgg sizeOf124 rfl rfl rfl hB23 (Nat.le_refl _) (pC_one (gP cx.ps t.a)) (fun w82 hu82 hB82=>⟨⟨trivial,hx.store hbase (hx.all (by decide)) (by decide) (hl 26 (by decide) _ _ rfl rfl).symm (by decide) hu82 hB82⟩,rfl⟩)) },
    trivial⟩ (fun σ7 w7 hI7 v7 hv7 v8 hv8 v9 hv9 v10 hv10 hl7=>?_)
  have hv20:=(hl7 24 (by decide) _ _ rfl rfl).symm
  obtain ⟨c20,q20,rfl,hb20,hB20,hq20⟩:=hI7.box 0 (by decide) v7 hv20
  have hv21:=(hl7 25 (by decide) _ _ rfl rfl).symm
  obtain ⟨c21,q21,rfl,hb21,hB21,hq21⟩:=hI7.box 1 (by decide) v8 hv21
  have hv22:=(hl7 26 (by decide) _ _ rfl rfl).symm
  obtain ⟨c22,q22,rfl,hb22,hB22,hq22⟩:=hI7.box 2 (by decide) v9 hv22
  have hv23:=(hl7 27 (by decide) _ _ rfl rfl).symm
  obtain ⟨c23,q23,rfl,hb23,hB23,hq23⟩:=hI7.box 3 (by decide) v10 hv23
  obtain rfl:=hq20 (by decide)
  have hne0:c20≠c23:=fun e=>hI7.ne 0 3 (by decide) (by decide) (by decide) c20 hv20 (by rw [e];exact hv23)
  obtain rfl:=hq21 (by decide)
  have hne1:c21≠c23:=fun e=>hI7.ne 1 3 (by decide) (by decide) (by decide) c21 hv21 (by rw [e];exact hv23)
  obtain rfl:=hq22 (by decide)
  have hne2:c22≠c23:=fun e=>hI7.ne 2 3 (by decide) (by decide) (by decide) c22 hv22 (by rw [e];exact hv23)
  refine L.o (O.storeAgg sizeOf124 rfl rfl rfl hB23 (Nat.le_refl _) (pC_one (gP cx.ps t.b)) (fun w83 hu83 hB83=>?_))
  have hP0:Blk w83 c20 (pC (gP cx.ps s.a)) 124:=Blk.upd (cs:=pC (gP cx.ps s.a)) hB20 hu83 hne0
  have hP1:Blk w83 c21 (pC (gP cx.ps s.b)) 124:=Blk.upd (cs:=pC (gP cx.ps s.b)) hB21 hu83 hne1
  have hP2:Blk w83 c22 (pC (gP cx.ps t.a)) 124:=Blk.upd (cs:=pC (gP cx.ps t.a)) hB22 hu83 hne2
  have hP3:Blk w83 c23 (pC (gP cx.ps t.b)) 124:=hB83
  have he83:Ext w6 w83:=hI7.e.upd hu83 (.inr (by omega))
  refine L.nil (T.q (L.o (O.loadAgg isAgg124 sizeOf124 rfl rfl hP0.row (L.o (O.loadAgg isAgg124 sizeOf124 rfl rfl hP1.row (L.o (O.loadAgg isAgg124 sizeOf124 rfl rfl hP2.row (L.o (O.loadAgg isAgg124 sizeOf124 rfl rfl hP3.row (L.o (O.call (xs:=[.tmp 62,.tmp 63,.tmp 64,.tmp 65]) call252 rfl rfl (rHow_calls (gP cx.ps s.a) (gP cx.ps s.b) (gP cx.ps t.a) (gP cx.ps t.b) w83 (Nr.of_far (gP_far hf hsa)) (Nr.of_far (gP_far hf hsb)) (Nr.of_far (gP_far hf hta)) (Nr.of_far (gP_far hf htb))) (fun v9 w9 hq=>?_))))))))))))
  obtain ⟨rfl,he9⟩:=hq
  have he69:=he83.trans he9
  have hS9:=Blk.ext (cs:=s.cells) hS he69
  have hT9:=Blk.ext (cs:=t.cells) hT he69
  refine L.a rfl (L.nil (T.seq (T.q (L.m rfl (L.o (O.eql_s rfl rfl (fun m1=>?_) (fun m1=>?_)))))))
  ·refine L.nil (T.ct (T.q (L.o (O.fieldAddr runUnderlying292 rfl sizeOf3 rfl (L.o (O.load isAgg3 rfl (hS9.cell rfl) (L.o (O.fieldAddr runUnderlying292 rfl sizeOf3 rfl (L.o (O.load isAgg3 rfl (hT9.cell rfl) (L.o (O.neq_s rfl rfl (fun q1=>?_) (fun q1=>?_)))))))))))))
   ·refine L.m rfl (L.o (O.fieldAddr runUnderlying292 rfl sizeOf3 rfl (L.o (O.load isAgg3 rfl (hS9.cell rfl) (L.o (O.fieldAddr runUnderlying292 rfl sizeOf3 rfl (L.o (O.load isAgg3 rfl (hT9.cell rfl) (L.o (O.neq_s rfl rfl (fun q2=>?_) (fun q2=>?_)))))))))))
    ·refine L.o (O.pick_true rfl rfl (L.m rfl (L.o (O.fieldAddr runUnderlying292 rfl sizeOf3 rfl (L.o (O.load isAgg3 rfl (hS9.cell rfl) (L.o (O.fieldAddr runUnderlying292 rfl sizeOf3 rfl (L.o (O.load isAgg3 rfl (hT9.cell rfl) (L.o (O.neq_s rfl rfl (fun q3=>?_) (fun q3=>?_)))))))))))))
     ·refine L.o (O.pick_true rfl rfl (L.m rfl (L.o (O.fieldAddr runUnderlying292 rfl sizeOf3 rfl (L.o (O.load isAgg3 rfl (hS9.cell rfl) (L.o (O.fieldAddr runUnderlying292 rfl sizeOf3 rfl (L.o (O.load isAgg3 rfl (hT9.cell rfl) (L.o (O.neq rfl rfl (L.o (O.pick_true rfl rfl (L.a rfl (L.nil (T.ret1 results222 rfl ⟨?_,he35.trans he69⟩)))))))))))))))))
      rw [clashR,if_neg hno,if_pos m1]
      refine congrArg Value.bool ?_
      exact decide_eq_decide.2 (by omega)
     ·refine L.o (O.pick_true rfl rfl (L.m rfl (L.p (L.p (L.p (L.p (L.p (L.o (O.pick_false rfl rfl (L.a rfl (L.nil (T.ret1 results222 rfl ⟨by rw [clashR,if_neg hno,if_pos m1,decide_eq_false (fun h=>h.2.2.1 (by omega))],he35.trans he69⟩))))))))))))
    ·refine L.o (O.pick_true rfl rfl (L.m rfl (L.p (L.p (L.p (L.p (L.p (L.o (O.pick_false rfl rfl (L.m rfl (L.p (L.p (L.p (L.p (L.p (L.o (O.pick_false rfl rfl (L.a rfl (L.nil (T.ret1 results222 rfl ⟨by rw [clashR,if_neg hno,if_pos m1,decide_eq_false (fun h=>h.2.1 (by omega))],he35.trans he69⟩))))))))))))))))))))
   ·refine L.m rfl (L.p (L.p (L.p (L.p (L.p (L.o (O.pick_false rfl rfl (L.m rfl (L.p (L.p (L.p (L.p (L.p (L.o (O.pick_false rfl rfl (L.m rfl (L.p (L.p (L.p (L.p (L.p (L.o (O.pick_false rfl rfl (L.a rfl (L.nil (T.ret1 results222 rfl ⟨by rw [clashR,if_neg hno,if_pos m1,decide_eq_false (fun h=>h.1 (by omega))],he35.trans he69⟩))))))))))))))))))))))))))
  ·refine L.nil (T.cf (T.skip (T.q (L.m rfl (L.o (O.neq rfl rfl (L.a rfl (L.nil (T.ret1 results222 rfl ⟨by rw [clashR,if_neg hno,if_neg m1],he35.trans he69⟩)))))))))

open Go Go.E

open Geo (RR RG howI clashR outB placeI)
theorem rg_st {c:CxV} (hg:RG c) {i:Nat} (hi:i<(stL c.fs).length):((stL c.fs).getD i st0)∈stL c.fs∧((stL c.fs).getD i st0).a<c.ps.length∧((stL c.fs).getD i st0).b<c.ps.length∧((stL c.fs).getD i st0).f<c.fs.length∧((stL c.fs).getD i st0).r<(c.fs.getD ((stL c.fs).getD i st0).f f0).ri.length:=by
 have hm:(stL c.fs).getD i st0∈stL c.fs:=by rw [getD_get hi];exact List.getElem_mem hi
 generalize (stL c.fs).getD i st0=s at hm
 obtain ⟨h1,h2,p,hp,ha,hb⟩:=stL_get hm
 obtain ⟨⟨h3,h40⟩,hix⟩:=hg.idx s.f s.r h1 h2
 have key:∀ q,q<((c.fs.getD s.f f0).ri.getD s.r r0).xs.length→nI ((c.fs.getD s.f f0).ri.getD s.r r0).xs q<c.ps.length:=fun q hq=>by
  have h:=nI_val hix hq
  have h2:=hix _ (show ((c.fs.getD s.f f0).ri.getD s.r r0).xs.getD q 0∈((c.fs.getD s.f f0).ri.getD s.r r0).xs by rw [getD_get hq];exact List.getElem_mem hq)
  omega
 exact ⟨hm,by rw [ha];exact key _ hp,by rw [hb];exact key _ (Nat.mod_lt _ (by omega)),h1,h2⟩
theorem rmid_nr {ps:List Pt} {s:St} (hf:NfL ps) (ha:s.a<ps.length) (hb:s.b<ps.length):Nr (midP ps s):=by
 have h1:=far_bnd (gP_far hf ha)
 have h2:=far_bnd (gP_far hf hb)
 unfold Nr midP
 simp only
 omega
theorem over_no {c:CxV} (hg:RG c) {s:St} (hs:s∈stL c.fs) {j:Nat} (hj:j<c.fs.length) (hne:j≠s.f):regB c.ps 2 (midP c.ps s) (c.fs.getD j f0).ri=false:=by
 obtain ⟨r,hr,hb⟩:=hg.over s hs j hj hne
 exact decide_eq_false fun h=>by rw [h r hr] at hb;cases hb
theorem hole_no {c:CxV} (hg:RG c) {s:St} (hs:s∈stL c.fs) (h0:s.r≠0) {r:Nat} (hr:r<(c.fs.getD s.f f0).ri.length) (hne:r≠s.r):¬ (r=0∧placeI (cor c.ps 2 ((c.fs.getD s.f f0).ri.getD r r0).xs) (midP c.ps s)≠2∨0<r∧placeI (cor c.ps 2 ((c.fs.getD s.f f0).ri.getD r r0).xs) (midP c.ps s)≠0):=of_decide_eq_false (hg.hole s hs h0 r hr hne)
set_option maxHeartbeats 4000000 in
theorem rEdges_calls (lo:Nat) (c:CxV) (w:World) (hc:c.ok lo w) (hg:RG c) :
  Calls Tryz.prog 192 #[c.val] w (Ret fun v w'=>v = .tuple #[.int .i64 0,.int .i64 0]∧Ext w w'):=by
 have h64:=hg.f64
 have hn:=rg_nf hg
 have hixc:=rg_ix hg
 refine T.enter (vs:=[c.val]) func192 rfl ntmps192 rfl ?_
 refine T.q (L.o (O.box rfl (fun b1 w1 hb1 hz1 he1 hB1=>?_)))
 have hC:Blk w1 b1 c.cells 46:=hB1
 have hc1:=hc.ext he1
 refine L.a rfl (L.a rfl (L.nil (T.q (L.o (O.loadAgg isAgg46 sizeOf46 rfl rfl (Row.of_blk hC) (L.o (O.call (xs:=[.tmp 15]) call221 rfl rfl (rSteps_calls lo c w1 hc1 hg) (fun v4 w4 hq=>?_))))))))
 obtain ⟨he4,hS4⟩:=hq
 have hle4:=Sl.le hS4
 have he04:=he1.trans he4
 obtain ⟨Ls,hLL⟩:∃ Ls,Ls=stL c.fs:=⟨_,rfl⟩
 have hst:∀ i,i<Ls.length→_:=fun i hi=>rg_st hg (i:=i) (by rw [← hLL];exact hi)
 rw [← hLL] at hS4 hst hle4
 refine L.a rfl (L.nil (T.seq (T.q (L.a rfl (L.nil (T.block (?_)))))))
 refine T.loop (σ:=Nat) (fun i=>[(1,.pointer (some ⟨b1,0,none⟩)),(4,v4),(5,.int .i64 i)]) (fun i w'=>i≤Ls.length∧Ext w4 w') (fun i=>Ls.length-i) (0) ⟨rfl,rfl,rfl,trivial⟩ ⟨Nat.zero_le _,Keep.refl _ _⟩ ?_
 rintro i w5 ⟨hi,he5⟩
 have hS5:=hS4.ext he5
 refine T.seq (T.q (L.m rfl (L.m rfl (L.o (O.len runUnderlying289 rfl (Sl.val hS5) (L.o (O.lss_s rfl rfl (fun hlt=>?_) (fun hlt=>?_))))))))
 ·refine L.nil (?_)
  have hlt':i<Ls.length:=by omega
  refine T.ct (T.skip (T.seq (T.block (T.q (L.a rfl (L.nil (T.block (?_))))))))
  refine T.loop (σ:=Nat) (fun k=>[(1,.pointer (some ⟨b1,0,none⟩)),(4,v4),(5,.int .i64 i),(6,.int .i64 k)]) (fun k w'=>k≤i∧Ext w4 w') (fun k=>i-k) (0) ⟨rfl,rfl,rfl,rfl,trivial⟩ ⟨Nat.zero_le _,he5⟩ ?_
  rintro k w6 ⟨hk,he6⟩
  have hS6:=hS4.ext he6
  refine T.seq (T.q (L.m rfl (L.m rfl (L.o (O.lss_s rfl rfl (fun hkl=>?_) (fun hkl=>?_))))))
  ·refine L.nil (?_)
   have hkl':k<i:=by omega
   have htw:=hg.twice i k (by rw [← hLL];exact hlt') hkl'
   rw [← hLL] at htw
   rcases Classical.em ((Ls.getD i st0).a=(Ls.getD k st0).a) with ha|ha
   ·refine T.ct (T.skip (T.seq (T.block (T.seq (?_)))))
    refine T.anyE mixed 22 [4,5,6] rfl [.is _,.is _,.is _,.is _,.is _,.is _,.is _,.is _,.is _,.is _,.is _,.is _,.is _,.is _,.is _,.is _,.is _,.is _,.is _,.is _,.is _,.is _] [[],[],[0,1],[2],[3],[],[],[5,6],[7],[8],[4,9],[10],[11],[11],[12,13,11],[14,11],[15,11],[11],[11],[17,18,11],[19,11],[20,11]] [[],[],[0,1],[0,1,2],[0,1,2,3],[],[],[5,6],[5,6,7],[5,6,7,8],[0,1,2,3,4,5,6,7,8,9],[0,1,2,3,4,5,6,7,8,9,10],[0,1,2,3,4,5,6,7,8,9,10,11],[0,1,2,3,4,5,6,7,8,9,10,11],[0,1,2,3,4,5,6,7,8,9,10,11,12,13],[0,1,2,3,4,5,6,7,8,9,10,11,12,13,14],[0,1,2,3,4,5,6,7,8,9,10,11,12,13,14,15],[0,1,2,3,4,5,6,7,8,9,10,11],[0,1,2,3,4,5,6,7,8,9,10,11],[0,1,2,3,4,5,6,7,8,9,10,11,17,18],[0,1,2,3,4,5,6,7,8,9,10,11,17,18,19],[0,1,2,3,4,5,6,7,8,9,10,11,17,18,19,20],[0,1,2,3,4,5,6,7,8,9,10,11,12,13,14,15,16,17,18,19,20,21],[0,1,2,3,4,5,6,7,8,9,10,11,12,13,14,15,16,17,18,19,20,21,22]] (by kernel_rfl) (by kernel_rfl) rfl (by kernel_rfl) trivial ⟨fun wx hx=>Ob.o (O.move rfl kR),
      fun wx hx=>Ob.o (O.move rfl kR),
      fun wx hx=>Ob.o (O.indexAddr runUnderlying289 sizeOf292 rfl rfl (hS6.ext hx) (by omega) (by omega) kR),
      fun wx hx=>Ob.o (O.fieldAddr runUnderlying292 rfl sizeOf3 rfl kR),
      fun wx hx=>Ob.o (O.load isAgg3 rfl (((hS6.ext hx).row hlt') 0 _ rfl) kR),
      fun wx hx=>Ob.o (O.move rfl kR),
      fun wx hx=>Ob.o (O.move rfl kR),
      fun wx hx=>Ob.o (O.indexAddr runUnderlying289 sizeOf292 rfl rfl (hS6.ext hx) (by omega) (by omega) kR),
      fun wx hx=>Ob.o (O.fieldAddr runUnderlying292 rfl sizeOf3 rfl kR),
      fun wx hx=>Ob.o (O.load isAgg3 rfl (((hS6.ext hx).row (show k<Ls.length by omega)) 0 _ rfl) kR),
      fun wx hx=>Ob.o (O.eql_t rfl rfl (by omega) kR),
      fun wx hx=>Ob.o (O.move rfl kR),
      fun wx hx=>Ob.o (O.move rfl kR),
      fun wx hx=>Ob.o (O.move rfl kR),
      fun wx hx=>Ob.o (O.indexAddr runUnderlying289 sizeOf292 rfl rfl (hS6.ext hx) (by omega) (by omega) kR),
      fun wx hx=>Ob.o (O.fieldAddr runUnderlying292 rfl sizeOf3 rfl kR),
      fun wx hx=>Ob.o (O.load isAgg3 rfl (((hS6.ext hx).row hlt') 1 _ rfl) kR),
      fun wx hx=>Ob.o (O.move rfl kR),
      fun wx hx=>Ob.o (O.move rfl kR),
      fun wx hx=>Ob.o (O.indexAddr runUnderlying289 sizeOf292 rfl rfl (hS6.ext hx) (by omega) (by omega) kR),
      fun wx hx=>Ob.o (O.fieldAddr runUnderlying292 rfl sizeOf3 rfl kR),
      fun wx hx=>Ob.o (O.load isAgg3 rfl (((hS6.ext hx).row (show k<Ls.length by omega)) 1 _ rfl) kR),
      trivial⟩ (fun w8 he8=>?_)
    refine L.o (O.eql_f rfl rfl (fun h=>htw ⟨ha,by omega⟩) (L.o (O.pick_true rfl rfl (L.nil (T.cf (T.skip (T.blk (T.region (L.m rfl (L.o (O.add64 rfl rfl (by omega) (L.a rfl (L.nil (T.again (k+1) (by omega) ⟨rfl,rfl,rfl,rfl,trivial⟩ ⟨by omega,he6.trans he8⟩))))))))))))))
   ·refine T.ct (T.skip (T.seq (T.block (T.seq (?_)))))
    refine T.anyE mixed 22 [4,5,6] rfl [.is _,.is _,.is _,.is _,.is _,.is _,.is _,.is _,.is _,.is _,.is _,.is _,.is undef,.is undef,.is undef,.is undef,.is undef,.is undef,.is undef,.is undef,.is undef,.is undef] [[],[],[0,1],[2],[3],[],[],[5,6],[7],[8],[4,9],[10],[11],[11],[12,13,11],[14,11],[15,11],[11],[11],[17,18,11],[19,11],[20,11]] [[],[],[0,1],[0,1,2],[0,1,2,3],[],[],[5,6],[5,6,7],[5,6,7,8],[0,1,2,3,4,5,6,7,8,9],[0,1,2,3,4,5,6,7,8,9,10],[0,1,2,3,4,5,6,7,8,9,10,11],[0,1,2,3,4,5,6,7,8,9,10,11],[0,1,2,3,4,5,6,7,8,9,10,11,12,13],[0,1,2,3,4,5,6,7,8,9,10,11,12,13,14],[0,1,2,3,4,5,6,7,8,9,10,11,12,13,14,15],[0,1,2,3,4,5,6,7,8,9,10,11],[0,1,2,3,4,5,6,7,8,9,10,11],[0,1,2,3,4,5,6,7,8,9,10,11,17,18],[0,1,2,3,4,5,6,7,8,9,10,11,17,18,19],[0,1,2,3,4,5,6,7,8,9,10,11,17,18,19,20],[0,1,2,3,4,5,6,7,8,9,10,11,12,13,14,15,16,17,18,19,20,21],[0,1,2,3,4,5,6,7,8,9,10,11,12,13,14,15,16,17,18,19,20,21,22]] (by kernel_rfl) (by kernel_rfl) rfl (by kernel_rfl) trivial ⟨fun wx hx=>Ob.o (O.move rfl kR),
      fun wx hx=>Ob.o (O.move rfl kR),
      fun wx hx=>Ob.o (O.indexAddr runUnderlying289 sizeOf292 rfl rfl (hS6.ext hx) (by omega) (by omega) kR),
      fun wx hx=>Ob.o (O.fieldAddr runUnderlying292 rfl sizeOf3 rfl kR),
      fun wx hx=>Ob.o (O.load isAgg3 rfl (((hS6.ext hx).row hlt') 0 _ rfl) kR),
      fun wx hx=>Ob.o (O.move rfl kR),
      fun wx hx=>Ob.o (O.move rfl kR),
      fun wx hx=>Ob.o (O.indexAddr runUnderlying289 sizeOf292 rfl rfl (hS6.ext hx) (by omega) (by omega) kR),
      fun wx hx=>Ob.o (O.fieldAddr runUnderlying292 rfl sizeOf3 rfl kR),
      fun wx hx=>Ob.o (O.load isAgg3 rfl (((hS6.ext hx).row (show k<Ls.length by omega)) 0 _ rfl) kR),
      fun wx hx=>Ob.o (O.eql_f rfl rfl (by omega) kR),
      fun wx hx=>Ob.o (O.move rfl kR),
      fun wx hx=>Ob.pass rfl rfl,
      fun wx hx=>Ob.pass rfl rfl,
      fun wx hx=>Ob.pass rfl rfl,
      fun wx hx=>Ob.pass rfl rfl,
      fun wx hx=>Ob.pass rfl rfl,
      fun wx hx=>Ob.pass rfl rfl,
      fun wx hx=>Ob.pass rfl rfl,
      fun wx hx=>Ob.pass rfl rfl,
      fun wx hx=>Ob.pass rfl rfl,
      fun wx hx=>Ob.pass rfl rfl,
      trivial⟩ (fun w8 he8=>?_)
    refine L.p (L.o (O.pick_false rfl rfl (L.nil (T.cf (T.skip (T.blk (T.region (L.m rfl (L.o (O.add64 rfl rfl (by omega) (L.a rfl (L.nil (T.again (k+1) (by omega) ⟨rfl,rfl,rfl,rfl,trivial⟩ ⟨by omega,he6.trans he8⟩)))))))))))))
  ·refine L.nil (T.cf (T.exit rfl (T.blk (T.region (L.m rfl (L.o (O.add64 rfl rfl (by omega) (L.a rfl (L.nil (T.again (i+1) (by omega) ⟨rfl,rfl,rfl,trivial⟩ ⟨hlt',he6⟩))))))))))
 ·refine L.nil (T.cf (T.exit rfl (T.seq (T.q (L.a rfl (L.nil (T.block (?_))))))))
  refine T.loop (σ:=Nat) (fun i=>[(1,.pointer (some ⟨b1,0,none⟩)),(4,v4),(7,.int .i64 i)]) (fun i w'=>i≤Ls.length∧Ext w4 w') (fun i=>Ls.length-i) (0) ⟨rfl,rfl,rfl,trivial⟩ ⟨Nat.zero_le _,he5⟩ ?_
  rintro i w5 ⟨hi,he5⟩
  have hS5:=hS4.ext he5
  refine T.seq (T.q (L.m rfl (L.m rfl (L.o (O.len runUnderlying289 rfl (Sl.val hS5) (L.o (O.lss_s rfl rfl (fun hlt=>?_) (fun hlt=>?_))))))))
  ·refine L.nil (?_)
   have hlt':i<Ls.length:=by omega
   refine T.ct (T.skip (T.seq (T.block (T.q (L.a rfl (L.nil (T.block (?_))))))))
   refine T.loop (σ:=Nat) (fun k=>[(1,.pointer (some ⟨b1,0,none⟩)),(4,v4),(7,.int .i64 i),(8,.int .i64 k)]) (fun k w'=>k≤i∧Ext w4 w') (fun k=>i-k) (0) ⟨rfl,rfl,rfl,rfl,trivial⟩ ⟨Nat.zero_le _,he5⟩ ?_
   rintro k w6 ⟨hk,he6⟩
   have hS6:=hS4.ext he6
   refine T.seq (T.q (L.m rfl (L.m rfl (L.o (O.lss_s rfl rfl (fun hkl=>?_) (fun hkl=>?_))))))
   ·refine L.nil (?_)
    have hkl':k<i:=by omega
    have hcl:=hg.clash i k (by rw [← hLL];exact hlt') hkl'
    rw [← hLL] at hcl
    have hi5:=hst i hlt'
    have hk5:=hst k (by omega)
    have hCC:=Blk.ext (cs:=c.cells) hC (he4.trans he6)
    refine T.ct (T.skip (T.seq (T.block (T.seq (?_)))))
    refine T.anyE mixed 9 [1,4,7,8] rfl [.is _,.is _,.is _,.is _,.is _,.is _,.is _,.is _,.is _] [[],[],[],[1,2],[3],[],[],[5,6],[7]] [[],[],[],[1,2],[1,2,3],[],[],[5,6],[5,6,7],[0,1,2,3,4,5,6,7,8]] (by kernel_rfl) (by kernel_rfl) rfl (by kernel_rfl) trivial ⟨fun wx hx=>Ob.o (O.loadAgg isAgg46 sizeOf46 rfl rfl ((Blk.ext (cs:=c.cells) hCC hx).row) kR),
      fun wx hx=>Ob.o (O.move rfl kR),
      fun wx hx=>Ob.o (O.move rfl kR),
      fun wx hx=>Ob.o (O.indexAddr runUnderlying289 sizeOf292 rfl rfl (hS6.ext hx) (by omega) (by omega) kR),
      fun wx hx=>Ob.o (O.loadAgg isAgg292 sizeOf292 rfl rfl ((hS6.ext hx).row hlt') kR),
      fun wx hx=>Ob.o (O.move rfl kR),
      fun wx hx=>Ob.o (O.move rfl kR),
      fun wx hx=>Ob.o (O.indexAddr runUnderlying289 sizeOf292 rfl rfl (hS6.ext hx) (by omega) (by omega) kR),
      fun wx hx=>Ob.o (O.loadAgg isAgg292 sizeOf292 rfl rfl ((hS6.ext hx).row (show k<Ls.length by omega)) kR),
      trivial⟩ (fun w16 he16=>?_)
    refine L.o (O.call (xs:=[.tmp 68,.tmp 72,.tmp 76]) call222 rfl rfl (rClash_calls lo c (Ls.getD i st0) (Ls.getD k st0) w16 (hc1.ext (he4.trans (he6.trans he16))).p hn hi5.2.1 hi5.2.2.1 hk5.2.1 hk5.2.2.1) (fun v20 w20 hq=>?_))
    obtain ⟨hv20,he20⟩:=hq
    rw [hcl] at hv20
    subst hv20
    refine L.nil (T.cf (T.skip (T.blk (T.region (L.m rfl (L.o (O.add64 rfl rfl (by omega) (L.a rfl (L.nil (T.again (k+1) (by omega) ⟨rfl,rfl,rfl,rfl,trivial⟩ ⟨by omega,he6.trans (he16.trans he20)⟩))))))))))
   ·refine L.nil (T.cf (T.exit rfl (T.blk (T.region (L.m rfl (L.o (O.add64 rfl rfl (by omega) (L.a rfl (L.nil (T.again (i+1) (by omega) ⟨rfl,rfl,rfl,trivial⟩ ⟨hlt',he6⟩))))))))))
  ·refine L.nil (T.cf (T.exit rfl (T.seq (T.q (L.a rfl (L.nil (T.block (?_))))))))
   refine T.loop (σ:=Nat) (fun i=>[(1,.pointer (some ⟨b1,0,none⟩)),(4,v4),(9,.int .i64 i)]) (fun i w'=>i≤Ls.length∧Ext w4 w') (fun i=>Ls.length-i) (0) ⟨rfl,rfl,rfl,trivial⟩ ⟨Nat.zero_le _,he5⟩ ?_
   rintro i w5 ⟨hi,he5⟩
   have hS5:=hS4.ext he5
   refine T.seq (T.q (L.m rfl (L.m rfl (L.o (O.len runUnderlying289 rfl (Sl.val hS5) (L.o (O.lss_s rfl rfl (fun hlt=>?_) (fun hlt=>?_))))))))
   ·refine L.nil (?_)
    have hlt':i<Ls.length:=by omega
    have hs5:=hst i hlt'
    obtain ⟨s,hs⟩:∃ s,s=Ls.getD i st0:=⟨_,rfl⟩
    have hrow:∀ {W:World},Ext w4 W→Row W ((sAddr v4).add ((i:Int).toNat*4)) s.cells:=fun hW=>by rw [hs];exact (hS4.ext hW).row hlt'
    rw [← hs] at hs5
    obtain ⟨hsm,hsa,hsb,hsf,hsr⟩:=hs5
    rw [hLL] at hsm
    refine T.ct (T.skip (T.seq (T.block (T.seq (T.q (L.m rfl (L.m rfl (L.o (O.indexAddr runUnderlying289 sizeOf292 rfl rfl hS5 (by omega) (by omega) (L.o (O.fieldAddr runUnderlying292 rfl sizeOf3 rfl (L.o (O.load isAgg3 rfl ((hrow he5) 3 _ rfl) (L.o (O.eql_s rfl rfl (fun hr0=>?_) (fun hr0=>?_))))))))))))))))
    ·refine L.nil (T.ct (T.exit rfl (T.region (L.m rfl (L.o (O.add64 rfl rfl (by omega) (L.a rfl (L.nil (T.again (i+1) (by omega) ⟨rfl,rfl,rfl,trivial⟩ ⟨hlt',he5⟩)))))))))
    ·refine L.nil (?_)
     have hr0':s.r≠0:=by omega
     have hCC:=Blk.ext (cs:=c.cells) hC (he4.trans he5)
     have hcc:=hc1.ext (he4.trans he5)
     have hfn:=hixc _ (fs_mem hsf)
     refine T.cf (T.skip (T.seq (?_)))
     refine T.anyE mixed 7 [1,4,9] rfl [.is _,.is _,.is _,.is _,.is _,.is _,.is _] [[],[0],[],[],[2,3],[4],[5]] [[],[0],[],[],[2,3],[2,3,4],[2,3,4,5],[0,1,2,3,4,5,6],[0,1,2,3,4,5,6,7],[0,1,2,3,4,5,6,7,8],[0,1,2,3,4,5,6,7,8,9]] (by kernel_rfl) (by kernel_rfl) rfl (by kernel_rfl) trivial ⟨fun wx hx=>Ob.o (O.fieldAddr runUnderlying46 rfl sizeOf44 rfl kR),
       fun wx hx=>Ob.o (O.load isAgg44 rfl ((Blk.ext (cs:=c.cells) hCC hx).cell rfl) kR),
       fun wx hx=>Ob.o (O.move rfl kR),
       fun wx hx=>Ob.o (O.move rfl kR),
       fun wx hx=>Ob.o (O.indexAddr runUnderlying289 sizeOf292 rfl rfl (hS5.ext hx) (by omega) (by omega) kR),
       fun wx hx=>Ob.o (O.fieldAddr runUnderlying292 rfl sizeOf3 rfl kR),
       fun wx hx=>Ob.o (O.load isAgg3 rfl ((hrow (he5.trans hx)) 2 _ rfl) kR),
       trivial⟩ (fun w22 he22=>?_)
     refine L.o (O.indexAddr runUnderlying44 sizeOf127 rfl rfl ((hcc.ext he22).sl) (by omega) (by omega) (L.o (O.loadAgg isAgg127 sizeOf127 rfl rfl ((hcc.ext he22).row hsf) (L.o (O.call (xs:=[.tmp 103]) call131 rfl rfl (rRings_calls lo (c.fs.getD s.f f0) w22 ((hcc.ext he22).at hsf) hfn.1) (fun v23 w23 hq=>?_))))))
     obtain ⟨he23,hS23,hR23⟩:=hq
     have he423:=he5.trans (he22.trans he23)
     refine L.a rfl (L.nil (T.q (L.a rfl (L.nil (T.block (?_))))))
     refine T.loop (σ:=Nat) (fun r=>[(1,.pointer (some ⟨b1,0,none⟩)),(4,v4),(9,.int .i64 i),(10,v23),(11,.int .i64 r)]) (fun r w'=>r≤(c.fs.getD s.f f0).ri.length∧Ext w23 w') (fun r=>(c.fs.getD s.f f0).ri.length-r) (0) ⟨rfl,rfl,rfl,rfl,rfl,trivial⟩ ⟨Nat.zero_le _,Keep.refl _ _⟩ ?_
     rintro r w24 ⟨hr,he24⟩
     have hS24:Sl w22.heap.size w24 v23 (c.fs.getD s.f f0).ri.length 1 (riCells (c.fs.getD s.f f0).ri):=Sl.ext hS23 he24
     have hle24:=Sl.le hS24
     have he424:=he423.trans he24
     have hS4b:=hS4.ext he424
     have hC24:=Blk.ext (cs:=c.cells) hC (he4.trans he424)
     have hc24:=hc1.ext (he4.trans he424)
     refine T.seq (T.q (L.m rfl (L.m rfl (L.o (O.len runUnderlying125 rfl (Sl.val hS24) (L.o (O.lss_s rfl rfl (fun hrl=>?_) (fun hrl=>?_))))))))
     ·refine L.nil (?_)
      have hrl':r<(c.fs.getD s.f f0).ri.length:=by omega
      have hri:=hfn.2 _ (ri_mem hrl')
      refine T.ct (T.skip (T.seq (T.block (T.seq (?_)))))
      refine T.anyE mixed 11 [1,10,11,4,9] rfl [.is _,.is _,.is _,.is _,.is _,.such (Corn c.ps 2 ((c.fs.getD s.f f0).ri.getD r r0).xs),.is _,.is _,.is _,.is _,.is _] [[],[],[],[1,2],[3],[0,4],[],[],[],[7,8],[9]] [[],[],[],[1,2],[1,2,3],[0,1,2,3,4],[],[],[],[7,8],[7,8,9],[0,1,2,3,4,5,6,7,8,9,10],[0,1,2,3,4,5,6,7,8,9,10,11],[0,1,2,3,4,5,6,7,8,9,10,11,12]] (by kernel_rfl) (by kernel_rfl) rfl (by kernel_rfl) ⟨Corn.st,trivial⟩ ⟨fun wx hx=>Ob.o (O.loadAgg isAgg46 sizeOf46 rfl rfl ((Blk.ext (cs:=c.cells) hC24 hx).row) kR),
        fun wx hx=>Ob.o (O.move rfl kR),
        fun wx hx=>Ob.o (O.move rfl kR),
        fun wx hx=>Ob.o (O.indexAddr runUnderlying125 sizeOf30 rfl rfl (Sl.ext hS24 hx) (by omega) (by omega) kR),
        fun wx hx=>Ob.o (O.load isAgg30 rfl (by rw [Int.toNat_natCast,Nat.mul_one];exact Sl.cell (Sl.ext hS24 hx) (ri_get hrl')) kR),
        fun wx hx=>Ob.o (O.call (xs:=[.tmp 111,.tmp 115,.const (.int .i64 2)]) call224 rfl rfl (rRinged_calls lo lo c _ ((c.fs.getD s.f f0).ri.getD r r0).xs 2 wx (hc24.ext hx).p (ri_xs ((hc24.ext hx).at hsf) hrl') hn (.inr rfl) hri.1 hri.2) (fun v wy h=>⟨h.1,h.2.mono (Nat.zero_le _)⟩)),
        fun wx hx=>Ob.o (O.loadAgg isAgg46 sizeOf46 rfl rfl ((Blk.ext (cs:=c.cells) hC24 hx).row) kR),
        fun wx hx=>Ob.o (O.move rfl kR),
        fun wx hx=>Ob.o (O.move rfl kR),
        fun wx hx=>Ob.o (O.indexAddr runUnderlying289 sizeOf292 rfl rfl (hS4b.ext hx) (by omega) (by omega) kR),
        fun wx hx=>Ob.o (O.loadAgg isAgg292 sizeOf292 rfl rfl (hrow (he424.trans hx)) kR),
        trivial⟩ (fun w26 he26 v116 hv116=>?_)
      refine L.o (O.call (xs:=[.tmp 117,.tmp 121]) call225 rfl rfl (rMiddle_calls lo c s w26 (hc24.ext he26).p hn hsa hsb) (fun v27 w27 hq=>?_))
      obtain ⟨rfl,he27⟩:=hq
      refine L.o (O.call (xs:=[.tmp 116,.tmp 122]) call223 rfl rfl (rPlace_calls 0 _ (cor c.ps 2 ((c.fs.getD s.f f0).ri.getD r r0).xs) (midP c.ps s) w27 (Pts.ext hv116 he27) (cor_nr hn (.inr rfl) hri.1) (rmid_nr hn hsa hsb) (by rw [cor_len];exact hri.2)) (fun v28 w28 hq=>?_))
      obtain ⟨rfl,he28⟩:=hq
      have he2428:=he26.trans (he27.trans he28)
      refine L.a rfl (L.nil (T.q (L.m rfl (L.o (O.eql_s rfl rfl (fun z0=>?_) (fun z0=>?_))))))
      ·have hno:=hole_no hg hsm hr0' hrl' (by omega)
       refine L.m rfl (L.m rfl (L.o (O.neq_f rfl rfl (Classical.byContradiction fun h=>hno (.inl ⟨by omega,h⟩)) (L.o (O.pick_true rfl rfl (L.m rfl (L.m rfl (L.o (O.gtr_f rfl rfl (by omega) (L.m rfl (L.p (L.p (L.p (L.p (L.p (L.p (L.p (L.o (O.pick_false rfl rfl (L.m rfl (L.p (L.p (L.o (O.pick_false rfl rfl (L.o (O.pick_false rfl rfl (L.nil (T.cf (T.skip (?_))))))))))))))))))))))))))))))
       refine T.blk (T.region (L.m rfl (L.o (O.add64 rfl rfl (by omega) (L.a rfl (L.nil (T.again (r+1) (by omega) ⟨rfl,rfl,rfl,rfl,rfl,trivial⟩ ⟨hrl',he24.trans he2428⟩)))))))
      ·refine L.m rfl (L.p (L.p (L.o (O.pick_false rfl rfl (L.m rfl (L.m rfl (L.o (O.gtr_t rfl rfl (by omega) (L.m rfl (L.m rfl (L.m rfl (L.m rfl (L.o (O.indexAddr runUnderlying289 sizeOf292 rfl rfl (hS4b.ext he2428) (by omega) (by omega) (L.o (O.fieldAddr runUnderlying292 rfl sizeOf3 rfl (L.o (O.load isAgg3 rfl ((hrow (he424.trans he2428)) 3 _ rfl) (L.o (O.neq_s rfl rfl (fun hrr=>?_) (fun hrr=>?_)))))))))))))))))))))
       ·have hno:=hole_no hg hsm hr0' hrl' (by omega)
        refine L.o (O.pick_true rfl rfl (L.m rfl (L.m rfl (L.o (O.neq_f rfl rfl (Classical.byContradiction fun h=>hno (.inr ⟨by omega,h⟩)) (L.o (O.pick_true rfl rfl (L.o (O.pick_false rfl rfl (L.nil (T.cf (T.skip (T.blk (T.region (L.m rfl (L.o (O.add64 rfl rfl (by omega) (L.a rfl (L.nil (T.again (r+1) (by omega) ⟨rfl,rfl,rfl,rfl,rfl,trivial⟩ ⟨hrl',he24.trans he2428⟩))))))))))))))))))))
       ·refine L.o (O.pick_true rfl rfl (L.m rfl (L.p (L.p (L.o (O.pick_false rfl rfl (L.o (O.pick_false rfl rfl (L.nil (T.cf (T.skip (T.blk (T.region (L.m rfl (L.o (O.add64 rfl rfl (by omega) (L.a rfl (L.nil (T.again (r+1) (by omega) ⟨rfl,rfl,rfl,rfl,rfl,trivial⟩ ⟨hrl',he24.trans he2428⟩)))))))))))))))))))
     ·refine L.nil (T.cf (T.exit rfl (T.blk (T.region (L.m rfl (L.o (O.add64 rfl rfl (by omega) (L.a rfl (L.nil (T.again (i+1) (by omega) ⟨rfl,rfl,rfl,trivial⟩ ⟨hlt',he424⟩))))))))))
   ·refine L.nil (T.cf (T.exit rfl (T.seq (T.q (L.a rfl (L.nil (T.block (?_))))))))
    refine T.loop (σ:=Nat) (fun i=>[(1,.pointer (some ⟨b1,0,none⟩)),(4,v4),(13,.int .i64 i)]) (fun i w'=>i≤Ls.length∧Ext w4 w') (fun i=>Ls.length-i) (0) ⟨rfl,rfl,rfl,trivial⟩ ⟨Nat.zero_le _,he5⟩ ?_
    rintro i w5 ⟨hi,he5⟩
    have hS5:=hS4.ext he5
    refine T.seq (T.q (L.m rfl (L.m rfl (L.o (O.len runUnderlying289 rfl (Sl.val hS5) (L.o (O.lss_s rfl rfl (fun hlt=>?_) (fun hlt=>?_))))))))
    ·refine L.nil (?_)
     have hlt':i<Ls.length:=by omega
     have hs5:=hst i hlt'
     obtain ⟨s,hs⟩:∃ s,s=Ls.getD i st0:=⟨_,rfl⟩
     have hrow:∀ {W:World},Ext w4 W→Row W ((sAddr v4).add ((i:Int).toNat*4)) s.cells:=fun hW=>by rw [hs];exact (hS4.ext hW).row hlt'
     rw [← hs] at hs5
     obtain ⟨hsm,hsa,hsb,hsf,hsr⟩:=hs5
     rw [hLL] at hsm
     refine T.ct (T.skip (T.seq (T.block (T.q (L.a rfl (L.nil (T.block (?_))))))))
     refine T.loop (σ:=Nat) (fun j=>[(1,.pointer (some ⟨b1,0,none⟩)),(4,v4),(13,.int .i64 i),(14,.int .i64 j)]) (fun j w'=>j≤c.fs.length∧Ext w4 w') (fun j=>c.fs.length-j) (0) ⟨rfl,rfl,rfl,rfl,trivial⟩ ⟨Nat.zero_le _,he5⟩ ?_
     rintro j w6 ⟨hj,he6⟩
     have hS6:=hS4.ext he6
     have hC6:=Blk.ext (cs:=c.cells) hC (he4.trans he6)
     have hc6:=hc1.ext (he4.trans he6)
     refine T.seq (T.q (L.m rfl (L.o (O.fieldAddr runUnderlying46 rfl sizeOf44 rfl (L.o (O.load isAgg44 rfl (hC6.cell rfl) (L.o (O.len runUnderlying44 rfl (Sl.val hc6.sl) (L.o (O.lss_s rfl rfl (fun hjl=>?_) (fun hjl=>?_)))))))))))
     ·refine L.nil (?_)
      have hjl':j<c.fs.length:=by omega
      rcases Classical.em (j=s.f) with hjf|hjf
      ·refine T.ct (T.skip (T.seq (T.block (T.seq (?_)))))
       refine T.anyE mixed 16 [14,4,13,1] rfl [.is _,.is _,.is _,.is _,.is _,.is _,.is _,.is _,.is undef,.is undef,.is undef,.is undef,.is undef,.is undef,.is undef,.is undef] [[],[],[],[1,2],[3],[4],[0,5],[6],[7],[7],[7],[7],[7],[11,12,7],[13,7],[10,14,7]] [[],[],[],[1,2],[1,2,3],[1,2,3,4],[0,1,2,3,4,5],[0,1,2,3,4,5,6],[0,1,2,3,4,5,6,7],[0,1,2,3,4,5,6,7],[0,1,2,3,4,5,6,7],[0,1,2,3,4,5,6,7],[0,1,2,3,4,5,6,7],[0,1,2,3,4,5,6,7,11,12],[0,1,2,3,4,5,6,7,11,12,13],[0,1,2,3,4,5,6,7,10,11,12,13,14],[0,1,2,3,4,5,6,7,8,9,10,11,12,13,14,15],[0,1,2,3,4,5,6,7,8,9,10,11,12,13,14,15,16]] (by kernel_rfl) (by kernel_rfl) rfl (by kernel_rfl) trivial ⟨fun wx hx=>Ob.o (O.move rfl kR),
         fun wx hx=>Ob.o (O.move rfl kR),
         fun wx hx=>Ob.o (O.move rfl kR),
         fun wx hx=>Ob.o (O.indexAddr runUnderlying289 sizeOf292 rfl rfl (hS6.ext hx) (by omega) (by omega) kR),
         fun wx hx=>Ob.o (O.fieldAddr runUnderlying292 rfl sizeOf3 rfl kR),
         fun wx hx=>Ob.o (O.load isAgg3 rfl ((hrow (he6.trans hx)) 2 _ rfl) kR),
         fun wx hx=>Ob.o (O.neq_f rfl rfl (by omega) kR),
         fun wx hx=>Ob.o (O.move rfl kR),
         fun wx hx=>Ob.pass rfl rfl,
         fun wx hx=>Ob.pass rfl rfl,
         fun wx hx=>Ob.pass rfl rfl,
         fun wx hx=>Ob.pass rfl rfl,
         fun wx hx=>Ob.pass rfl rfl,
         fun wx hx=>Ob.pass rfl rfl,
         fun wx hx=>Ob.pass rfl rfl,
         fun wx hx=>Ob.pass rfl rfl,
         trivial⟩ (fun w35 he35=>?_)
       refine L.p (L.o (O.pick_false rfl rfl (L.nil (T.cf (T.skip (T.blk (T.region (L.m rfl (L.o (O.add64 rfl rfl (by omega) (L.a rfl (L.nil (T.again (j+1) (by omega) ⟨rfl,rfl,rfl,rfl,trivial⟩ ⟨by omega,he6.trans he35⟩)))))))))))))
      ·refine T.ct (T.skip (T.seq (T.block (T.seq (?_)))))
       refine T.anyE mixed 16 [14,4,13,1] rfl [.is _,.is _,.is _,.is _,.is _,.is _,.is _,.is _,.is _,.is _,.is _,.is _,.is _,.is _,.is _,.is (pV (midP c.ps s))] [[],[],[],[1,2],[3],[4],[0,5],[6],[7],[7],[7],[7],[7],[11,12,7],[13,7],[10,14,7]] [[],[],[],[1,2],[1,2,3],[1,2,3,4],[0,1,2,3,4,5],[0,1,2,3,4,5,6],[0,1,2,3,4,5,6,7],[0,1,2,3,4,5,6,7],[0,1,2,3,4,5,6,7],[0,1,2,3,4,5,6,7],[0,1,2,3,4,5,6,7],[0,1,2,3,4,5,6,7,11,12],[0,1,2,3,4,5,6,7,11,12,13],[0,1,2,3,4,5,6,7,10,11,12,13,14],[0,1,2,3,4,5,6,7,8,9,10,11,12,13,14,15],[0,1,2,3,4,5,6,7,8,9,10,11,12,13,14,15,16]] (by kernel_rfl) (by kernel_rfl) rfl (by kernel_rfl) trivial ⟨fun wx hx=>Ob.o (O.move rfl kR),
         fun wx hx=>Ob.o (O.move rfl kR),
         fun wx hx=>Ob.o (O.move rfl kR),
         fun wx hx=>Ob.o (O.indexAddr runUnderlying289 sizeOf292 rfl rfl (hS6.ext hx) (by omega) (by omega) kR),
         fun wx hx=>Ob.o (O.fieldAddr runUnderlying292 rfl sizeOf3 rfl kR),
         fun wx hx=>Ob.o (O.load isAgg3 rfl ((hrow (he6.trans hx)) 2 _ rfl) kR),
         fun wx hx=>Ob.o (O.neq_t rfl rfl (by omega) kR),
         fun wx hx=>Ob.o (O.move rfl kR),
         fun wx hx=>Ob.o (O.loadAgg isAgg46 sizeOf46 rfl rfl ((Blk.ext (cs:=c.cells) hC6 hx).row) kR),
         fun wx hx=>Ob.o (O.move rfl kR),
         fun wx hx=>Ob.o (O.loadAgg isAgg46 sizeOf46 rfl rfl ((Blk.ext (cs:=c.cells) hC6 hx).row) kR),
         fun wx hx=>Ob.o (O.move rfl kR),
         fun wx hx=>Ob.o (O.move rfl kR),
         fun wx hx=>Ob.o (O.indexAddr runUnderlying289 sizeOf292 rfl rfl (hS6.ext hx) (by omega) (by omega) kR),
         fun wx hx=>Ob.o (O.loadAgg isAgg292 sizeOf292 rfl rfl (hrow (he6.trans hx)) kR),
         fun wx hx=>Ob.o (O.call (xs:=[.tmp 175,.tmp 179]) call225 rfl rfl (rMiddle_calls lo c s wx (hc6.ext hx).p hn hsa hsb) (fun v wy h=>⟨h.2,h.1⟩)),
         trivial⟩ (fun w35 he35=>?_)
       refine L.o (O.call (xs:=[.tmp 173,.tmp 174,.tmp 180,.const (.int .i64 2)]) call226 rfl rfl (rRegion_calls lo c j (midP c.ps s) 2 w35 (hc6.ext he35) hn hixc (rmid_nr hn hsa hsb) (.inr rfl) hjl') (fun v40 w40 hq=>?_))
       obtain ⟨hv40,he40⟩:=hq
       rw [over_no hg hsm hjl' hjf] at hv40
       subst hv40
       refine L.o (O.pick_true rfl rfl (L.nil (T.cf (T.skip (T.blk (T.region (L.m rfl (L.o (O.add64 rfl rfl (by omega) (L.a rfl (L.nil (T.again (j+1) (by omega) ⟨rfl,rfl,rfl,rfl,trivial⟩ ⟨by omega,he6.trans (he35.trans he40)⟩))))))))))))
     ·refine L.nil (T.cf (T.exit rfl (T.blk (T.region (L.m rfl (L.o (O.add64 rfl rfl (by omega) (L.a rfl (L.nil (T.again (i+1) (by omega) ⟨rfl,rfl,rfl,trivial⟩ ⟨hlt',he6⟩))))))))))
    ·refine L.nil (T.cf (T.exit rfl (T.q (L.a rfl (L.a rfl (L.nil (T.ret2 results192 rfl rfl ⟨rfl,he04.trans he5⟩)))))))

theorem rFlaw_calls (lo:Nat) (c:CxV) (w:World) (hc:c.ok lo w) (hg:RG c) :
  Calls Tryz.prog 141 #[c.val] w (Ret fun v w'=>v = .tuple #[.int .i64 0,.int .i64 0]∧Ext w w'):=by
 refine T.enter (vs:=[c.val]) func141 rfl ntmps141 rfl ?_
 refine T.q (L.o (O.box rfl (fun b1 w1 hb1 hz1 he1 hB1=>?_)))
 have hC:Blk w1 b1 c.cells 46:=hB1
 have hc1:=hc.ext he1
 refine L.a rfl (L.a rfl (L.nil (T.q (L.o (O.loadAgg isAgg46 sizeOf46 rfl rfl (Row.of_blk hC) (L.o (O.call (xs:=[.tmp 7]) call190 rfl rfl (rPoints_calls lo c w1 hc1 hg) (fun v2 w2 hq=>?_))))))))
 obtain ⟨rfl,he2⟩:=hq
 refine L.m rfl (L.o (O.extract rfl rfl (L.o (O.extract rfl rfl (L.a rfl (L.a rfl (L.nil (T.seq (T.q (L.m rfl (L.o (O.eql_t rfl rfl rfl (L.nil (T.ct (T.region (L.o (O.loadAgg isAgg46 sizeOf46 rfl rfl (Row.of_blk (Blk.ext (cs:=c.cells) hC he2)) (L.o (O.call (xs:=[.tmp 14]) call191 rfl rfl (rFaces_calls lo c w2 (hc1.ext he2) hg) (fun v3 w3 hq=>?_))))))))))))))))))))
 obtain ⟨rfl,he3⟩:=hq
 refine L.m rfl (L.o (O.extract rfl rfl (L.o (O.extract rfl rfl (L.a rfl (L.a rfl (L.nil (T.seq (T.q (L.m rfl (L.o (O.eql_t rfl rfl rfl (L.nil (T.ct (T.region (L.o (O.loadAgg isAgg46 sizeOf46 rfl rfl (Row.of_blk (Blk.ext (cs:=c.cells) hC (he2.trans he3))) (L.o (O.call (xs:=[.tmp 21]) call192 rfl rfl (rEdges_calls lo c w3 (hc1.ext (he2.trans he3)) hg) (fun v4 w4 hq=>?_))))))))))))))))))))
 obtain ⟨rfl,he4⟩:=hq
 refine L.m rfl (L.o (O.extract rfl rfl (L.o (O.extract rfl rfl (L.a rfl (L.a rfl (L.nil (T.q (L.m rfl (L.m rfl (L.a rfl (L.a rfl (L.nil (T.ret2 results141 rfl rfl ⟨rfl,he1.trans ((he2.trans he3).trans he4)⟩))))))))))))))

theorem rCheck_calls (lo:Nat) (c:CxV) (w:World) (hc:c.ok lo w) (hg:RG c) :
  Calls Tryz.prog 83 #[c.val] w (Ret fun v w'=>v = .int .i64 0∧Ext w w'):=by
 refine T.enter (vs:=[c.val]) func83 rfl ntmps83 rfl ?_
 refine T.q (L.o (O.box rfl (fun b1 w1 hb1 hz1 he1 hB1=>?_)))
 have hC:Blk w1 b1 c.cells 46:=hB1
 refine L.a rfl (L.nil (T.q (L.o (O.loadAgg isAgg46 sizeOf46 rfl rfl (Row.of_blk hC) (L.o (O.call (xs:=[.tmp 6]) call141 rfl rfl (rFlaw_calls lo c w1 (hc.ext he1) hg) (fun v2 w2 hq=>?_)))))))
 obtain ⟨rfl,he2⟩:=hq
 refine L.m rfl (L.o (O.extract rfl rfl (L.o (O.extract rfl rfl (L.a rfl (L.a rfl (L.nil (T.seq (T.q (L.m rfl (L.o (O.gtr_f rfl rfl (by decide) (L.nil (T.cf (T.skip (T.q (L.a rfl (L.nil (T.ret1 results83 rfl ⟨rfl,he1.trans he2⟩)))))))))))))))))))

theorem rPoints0_calls (lo:Nat) (c:CxV) (w:World) (hc:c.ok lo w) (h3:3≤c.ps.length) (h120:c.ps.length≤120) (h0:c.fs.length=0) :
  Calls Tryz.prog 190 #[c.val] w (Ret fun v w'=>v = .tuple #[.int .i64 1,.int .i64 0]∧Ext w w'):=by
 refine T.enter (vs:=[c.val]) func190 rfl ntmps190 rfl ?_
 refine T.q (L.o (O.box rfl (fun b1 w1 hb1 hz1 he1 hB1=>?_)))
 have hC:Blk w1 b1 c.cells 46:=hB1
 have hc1:=hc.ext he1
 refine L.a rfl (L.a rfl (L.nil (T.seq (T.q (L.o (O.fieldAddr runUnderlying46 rfl sizeOf43 rfl (L.o (O.load isAgg43 rfl (hC.cell rfl) (L.o (O.len runUnderlying43 rfl (Sl.val hc1.p) (L.o (O.lss_f rfl rfl (by omega) (L.m rfl (L.o (O.fieldAddr runUnderlying46 rfl sizeOf43 rfl (L.o (O.load isAgg43 rfl (hC.cell rfl) (L.o (O.len runUnderlying43 rfl (Sl.val hc1.p) (L.o (O.gtr_f rfl rfl (by omega) (L.o (O.pick_false rfl rfl (L.m rfl (L.o (O.fieldAddr runUnderlying46 rfl sizeOf44 rfl (L.o (O.load isAgg44 rfl (hC.cell rfl) (L.o (O.len runUnderlying44 rfl (Sl.val hc1.sl) (L.o (O.lss_t rfl rfl (by omega) (L.o (O.pick_false rfl rfl (L.m rfl (L.p (?_)))))))))))))))))))))))))))))))))))))
 refine L.p (L.p (L.p (L.o (O.pick_true rfl rfl (L.nil (T.ct (T.q (L.a rfl (L.a rfl (L.nil (T.ret2 results190 rfl rfl ⟨rfl,he1⟩)))))))))))

theorem rFlaw0_calls (lo:Nat) (c:CxV) (w:World) (hc:c.ok lo w) (h3:3≤c.ps.length) (h120:c.ps.length≤120) (h0:c.fs.length=0) :
  Calls Tryz.prog 141 #[c.val] w (Ret fun v w'=>v = .tuple #[.int .i64 1,.int .i64 0]∧Ext w w'):=by
 refine T.enter (vs:=[c.val]) func141 rfl ntmps141 rfl ?_
 refine T.q (L.o (O.box rfl (fun b1 w1 hb1 hz1 he1 hB1=>?_)))
 have hC:Blk w1 b1 c.cells 46:=hB1
 have hc1:=hc.ext he1
 refine L.a rfl (L.a rfl (L.nil (T.q (L.o (O.loadAgg isAgg46 sizeOf46 rfl rfl (Row.of_blk hC) (L.o (O.call (xs:=[.tmp 7]) call190 rfl rfl (rPoints0_calls lo c w1 hc1 h3 h120 h0) (fun v2 w2 hq=>?_))))))))
 obtain ⟨rfl,he2⟩:=hq
 refine L.m rfl (L.o (O.extract rfl rfl (L.o (O.extract rfl rfl (L.a rfl (L.a rfl (L.nil (T.seq (T.q (L.m rfl (L.o (O.eql_f rfl rfl (by decide) (L.nil (T.cf (T.skip (T.seq (T.q (L.m rfl (L.o (O.eql_f rfl rfl (by decide) (L.nil (T.cf (T.skip (T.q (?_)))))))))))))))))))))))))
 refine L.m rfl (L.m rfl (L.a rfl (L.a rfl (L.nil (T.ret2 results141 rfl rfl ⟨rfl,he1.trans he2⟩)))))

theorem rCheck0_calls (lo:Nat) (c:CxV) (w:World) (hc:c.ok lo w) (h3:3≤c.ps.length) (h120:c.ps.length≤120) (h0:c.fs.length=0) :
  Calls Tryz.prog 83 #[c.val] w (Ret fun v w'=>v = .int .i64 150∧Ext w w'):=by
 refine T.enter (vs:=[c.val]) func83 rfl ntmps83 rfl ?_
 refine T.q (L.o (O.box rfl (fun b1 w1 hb1 hz1 he1 hB1=>?_)))
 have hC:Blk w1 b1 c.cells 46:=hB1
 refine L.a rfl (L.nil (T.q (L.o (O.loadAgg isAgg46 sizeOf46 rfl rfl (Row.of_blk hC) (L.o (O.call (xs:=[.tmp 6]) call141 rfl rfl (rFlaw0_calls lo c w1 (hc.ext he1) h3 h120 h0) (fun v2 w2 hq=>?_)))))))
 obtain ⟨rfl,he2⟩:=hq
 refine L.m rfl (L.o (O.extract rfl rfl (L.o (O.extract rfl rfl (L.a rfl (L.a rfl (L.nil (T.seq (T.q (L.m rfl (L.o (O.gtr_t rfl rfl (by decide) (L.nil (T.ct (T.q (L.a rfl (L.nil (T.ret1 results83 rfl ⟨rfl,he1.trans he2⟩))))))))))))))))))

end Go.Proofs.YtnlonpcbgjbbaaaGreatDoor
