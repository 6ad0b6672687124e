/-
  BlocksBlanks, part 19 of its proof: that it returns true for every input, and each argument reads behind the call as it read before. Conditions: the listed variables read as the program's text lays them (tied by the card).
-/
import Derived.Test.YtnlonpcbgjbbaaaGreatDoorWBlocksBlanks18
import Derived.Test.YtnlonpcbgjbbaaaGreatDoorWBlocksBlanks13
set_option linter.unusedVariables false
set_option linter.unusedSimpArgs false
set_option maxRecDepth 20000
set_option linter.unusedVariables false
set_option linter.unusedSimpArgs false
set_option maxRecDepth 20000
namespace Go.Proofs.YtnlonpcbgjbbaaaGreatDoor
open Go.Proofs.Tryz (call11 call12 call13 call130 call131 call132 call14 call16 call17 call19 call20 call21 call28 call37 call46 call51 call74 func10 func11 func130 func132 func16 func17 func20 func28 func46 func51 func74 isAgg124 isAgg127 isAgg23 isAgg25 isAgg3 isAgg30 isAgg43 isAgg44 isAgg46 isAgg48 ntmps10 ntmps11 ntmps130 ntmps132 ntmps16 ntmps17 ntmps20 ntmps28 ntmps46 ntmps51 ntmps74 results10 results11 results130 results132 results16 results17 results20 results28 results46 results51 results74 runUnderlying125 runUnderlying23 runUnderlying237 runUnderlying25 runUnderlying30 runUnderlying31 runUnderlying43 runUnderlying44 runUnderlying46 runUnderlying48 runUnderlying9 sizeOf124 sizeOf127 sizeOf23 sizeOf25 sizeOf3 sizeOf30 sizeOf43 sizeOf44 sizeOf46 sizeOf48 zeroValue25 zeroValue48)
open Go Go.E RowKit
attribute [local irreducible] Go.E.T Go.E.L Go.E.O Go.E.Ob
attribute [local irreducible] Go.E.ObX Go.E.ObG Go.E.ObK
theorem O.ZB {C:Cx} {e:Env} {w:World} {K:Value→World→Prop} {d:Option Tmp} {ty:TypeId} {pos:String} {aft:Array Edge} {g:Option (Nat × Bool)} {x y:Operand} {p:Pt} (hP:C.P=Tryz.prog) (hx:ev e x=some (pV p)) (hy:ev e y=some (pV p)) (h:K (.bool false) w):O C e ⟨d,.binOp .neq 124 x y 124,ty,pos,aft,g⟩ w K :=
 O.of_run (by simp) (fun ac hq=>by
  rw [hP]
  have h1:=eqPt p p w
  unfold pV at hx hy h1
  simp only [execOp,hq.eval hx,hq.eval hy,Sem.run_bind,run_eqGuard_agg w _ _ _ _ _ _ AX,Result.andThen_ok,run_neq_struct,h1,decide_true]
  rfl) h
def RiS (f:FaV) (v:Value) (W:World):Prop:=Sl 0 W v f.ri.length 1 (aJ f.ri)
theorem RiS.st {f:FaV} : ∀ v w w',Ext w w'→RiS f v w→RiS f v w':=fun _ _ _ k h=>Sl.ext h k
theorem TM {f g:FaV} (h:jQ f=jQ g):f.ri.length=g.ri.length∧∀ k,(f.ri.getD k r0).xs=(g.ri.getD k r0).xs:=by
 have h1:f.o.xs=g.o.xs:=congrArg Prod.fst h
 have h2:f.hs.map (·.xs)=g.hs.map (·.xs):=congrArg Prod.snd h
 have h3:f.ri.map (·.xs)=g.ri.map (·.xs):=by simp only [FaV.ri,List.map_cons,h1,h2]
 refine ⟨by simpa using congrArg List.length h3,fun k=>?_⟩
 have e1:=getD_map' (f:=fun x:RiV=>x.xs) (d:=r0) (e:=[]) rfl f.ri k
 have e2:=getD_map' (f:=fun x:RiV=>x.xs) (d:=r0) (e:=[]) rfl g.ri k
 rw [← e1,← e2,h3]
theorem OD (lo lo2:Nat) (p q:Value) (ps:List Pt) (w:World) (hp:Pts lo w p ps) (hq:Pts lo2 w q ps) :
  Calls Tryz.prog 130 #[p,q] w (Ret fun v w'=>v = .bool true∧Ext w w'):=by
 have hle:=Sl.le hp
 refine T.enter (vs:=[p,q]) func130 rfl ntmps130 rfl ?_
 refine T.q (L.a rfl (L.nil (T.seq (T.q (L.m rfl (L.o (O.len runUnderlying237 rfl (Sl.val hp) (L.m rfl (L.o (O.len runUnderlying237 rfl (Sl.val hq) (L.o (O.o8 rfl rfl (by omega) (L.nil (T.cf (T.skip (T.seq (T.q (L.a rfl (L.nil (T.block (?_)))))))))))))))))))))
 refine T.loop (σ:=Nat) (fun i=>[(0,p),(1,q),(5,.int .i64 i)]) (fun i w'=>i≤ps.length∧Ext w w') (fun i=>ps.length-i) (0) ⟨rfl,rfl,rfl,trivial⟩ ⟨Nat.zero_le _,Keep.refl _ _⟩ ?_
 rintro i w1 ⟨hi,he1⟩
 have hp1:=hp.ext he1
 have hq1:=hq.ext he1
 refine T.seq (T.q (L.m rfl (L.m rfl (L.o (O.len runUnderlying237 rfl (Sl.val hp1) (L.o (O.bH rfl rfl (fun hlt=>?_) (fun hlt=>?_))))))))
 ·refine L.nil (?_)
  have hlt':i<ps.length:=by omega
  refine T.ct (T.skip (T.seq (T.block (T.seq (?_)))))
  refine T.fM mixed 8 [0,5,1] rfl [.is _,.is _,.is _,.is _,.is _,.is _,.is _,.is _] [[],[],[0,1],[2],[],[],[4,5],[6]] [[],[],[0,1],[0,1,2],[],[],[4,5],[4,5,6],[0,1,2,3,4,5,6,7]] (by kernel_rfl) (by kernel_rfl) rfl (by kernel_rfl) trivial ⟨fun wx hx=>Ob.o (O.move rfl kR),
    fun wx hx=>Ob.o (O.move rfl kR),
    fun wx hx=>Ob.o (O.indexAddr runUnderlying237 sizeOf124 rfl rfl (hp1.ext hx) (by omega) (by omega) kR),
    fun wx hx=>Ob.o (O.ak isAgg124 sizeOf124 rfl rfl ((hp1.ext hx).row hlt') kR),
    fun wx hx=>Ob.o (O.move rfl kR),
    fun wx hx=>Ob.o (O.move rfl kR),
    fun wx hx=>Ob.o (O.indexAddr runUnderlying237 sizeOf124 rfl rfl (hq1.ext hx) (by omega) (by omega) kR),
    fun wx hx=>Ob.o (O.ak isAgg124 sizeOf124 rfl rfl ((hq1.ext hx).row hlt') kR),
    trivial⟩ (fun w2 he2=>?_)
  refine L.o (O.ZB (p:=ps.getD i (0,0)) rfl rfl rfl (L.nil (T.cf (T.skip (T.blk (T.region (L.m rfl (L.o (O.aH rfl rfl (by omega) (L.a rfl (L.nil (T.again (i+1) (by omega) ⟨rfl,rfl,rfl,trivial⟩ ⟨hlt',he1.trans he2⟩))))))))))))
 refine L.nil (T.cf (T.exit rfl (T.q (L.a rfl (L.nil (T.aU results130 rfl ⟨rfl,he1⟩))))))
theorem J9 (lo lo2:Nat) (p q:Value) (xs ys:List Int) (w:World) (hp:Ints .i64 lo w p xs) (hq:Ints .i64 lo2 w q ys) (hxy:xs=ys) :
  Calls Tryz.prog 132 #[p,q] w (Ret fun v w'=>v = .bool true∧Ext w w'):=by
 subst hxy
 have hle:=Sl.le hp
 refine T.enter (vs:=[p,q]) func132 rfl ntmps132 rfl ?_
 refine T.q (L.a rfl (L.nil (T.seq (T.q (L.m rfl (L.o (O.len runUnderlying30 rfl (Sl.val hp) (L.m rfl (L.o (O.len runUnderlying30 rfl (Sl.val hq) (L.o (O.o8 rfl rfl (by omega) (L.nil (T.cf (T.skip (T.seq (T.q (L.a rfl (L.nil (T.block (?_)))))))))))))))))))))
 refine T.loop (σ:=Nat) (fun i=>[(0,p),(1,q),(5,.int .i64 i)]) (fun i w'=>i≤xs.length∧Ext w w') (fun i=>xs.length-i) (0) ⟨rfl,rfl,rfl,trivial⟩ ⟨Nat.zero_le _,Keep.refl _ _⟩ ?_
 rintro i w1 ⟨hi,he1⟩
 have hp1:=hp.ext he1
 have hq1:=hq.ext he1
 refine T.seq (T.q (L.m rfl (L.m rfl (L.o (O.len runUnderlying30 rfl (Sl.val hp1) (L.o (O.bH rfl rfl (fun hlt=>?_) (fun hlt=>?_))))))))
 ·refine L.nil (?_)
  have hlt':i<xs.length:=by omega
  refine T.ct (T.skip (T.seq (T.block (T.seq (?_)))))
  refine T.fM mixed 8 [0,5,1] rfl [.is _,.is _,.is _,.is _,.is _,.is _,.is _,.is _] [[],[],[0,1],[2],[],[],[4,5],[6]] [[],[],[0,1],[0,1,2],[],[],[4,5],[4,5,6],[0,1,2,3,4,5,6,7]] (by kernel_rfl) (by kernel_rfl) rfl (by kernel_rfl) trivial ⟨fun wx hx=>Ob.o (O.move rfl kR),
    fun wx hx=>Ob.o (O.move rfl kR),
    fun wx hx=>Ob.o (O.indexAddr runUnderlying30 sizeOf3 rfl rfl (hp1.ext hx) (by omega) (by omega) kR),
    fun wx hx=>Ob.o (O.load isAgg3 rfl (Ints.at (hp1.ext hx) hlt') kR),
    fun wx hx=>Ob.o (O.move rfl kR),
    fun wx hx=>Ob.o (O.move rfl kR),
    fun wx hx=>Ob.o (O.indexAddr runUnderlying30 sizeOf3 rfl rfl (hq1.ext hx) (by omega) (by omega) kR),
    fun wx hx=>Ob.o (O.load isAgg3 rfl (Ints.at (hq1.ext hx) hlt') kR),
    trivial⟩ (fun w2 he2=>?_)
  refine L.o (O.o8 rfl rfl (by simp) (L.nil (T.cf (T.skip (T.blk (T.region (L.m rfl (L.o (O.aH rfl rfl (by omega) (L.a rfl (L.nil (T.again (i+1) (by omega) ⟨rfl,rfl,rfl,trivial⟩ ⟨hlt',he1.trans he2⟩))))))))))))
 refine L.nil (T.cf (T.exit rfl (T.q (L.a rfl (L.nil (T.aU results132 rfl ⟨rfl,he1⟩))))))
set_option maxHeartbeats 1000000 in
theorem OE (lo lo2:Nat) (c c':CxV) (w:World) (hc:c.ok lo w) (hc':c'.ok lo2 w) (hps:c.ps=c'.ps) (hfs:c.fs.map jQ=c'.fs.map jQ) (hn:∀ f∈c.fs,f.hs.length≤100000) :
  Calls Tryz.prog 74 #[c.val,c'.val] w (Ret fun v w'=>v = .bool true∧Ext w w'):=by
 have hl:c.fs.length=c'.fs.length:=by simpa using congrArg List.length hfs
 have hfi:∀ i,i<c.fs.length→jQ (c.fs.getD i f0)=jQ (c'.fs.getD i f0):=fun i hi ↦ by
  have e1:=getD_map' (f:=jQ) (d:=f0) (e:=jQ f0) rfl c.fs i
  have e2:=getD_map' (f:=jQ) (d:=f0) (e:=jQ f0) rfl c'.fs i
  rw [← e1,← e2,hfs]
 have hn2:∀ f∈c'.fs,f.hs.length≤100000:=fun f hf ↦ by
  obtain ⟨i,hi,rfl⟩:=List.getElem_of_mem hf
  have h1:=hfi i (by omega)
  rw [au (show i<c'.fs.length from hi),au (show i<c.fs.length by omega)] at h1
  have h2:=congrArg (fun x=>(Prod.snd x).length) h1
  simp only [jQ,List.length_map] at h2
  rw [← h2]
  exact hn _ (List.getElem_mem _)
 refine T.enter (vs:=[c.val,c'.val]) func74 rfl ntmps74 rfl ?_
 refine T.q (L.o (O.box rfl (fun b2 w2 hb2 hz2 he2 hB2=>?_)))
 refine L.o (O.box rfl (fun b3 w3 hb3 hz3 he3 hB3=>?_))
 have he:=he2.trans he3
 have hC1:Blk w3 b2 c.cells 46:=Blk.ext (cs:=c.cells) hB2 he3
 have hC2:Blk w3 b3 c'.cells 46:=hB3
 have hc3:=hc.ext he
 have afT:=hc'.ext he
 have hla:=Sl.le hc3.sl
 refine L.a rfl (L.nil (T.seq (T.q (L.o (O.fieldAddr runUnderlying46 rfl sizeOf43 rfl (L.o (O.load isAgg43 rfl (hC1.cell rfl) (L.o (O.fieldAddr runUnderlying46 rfl sizeOf43 rfl (L.o (O.load isAgg43 rfl (hC2.cell rfl) (L.o (O.call (xs:=[.tmp 10,.tmp 12]) call130 rfl rfl (OD lo lo2 c.pv c'.pv c.ps w3 hc3.p (by rw [hps];exact afT.p)) (fun v13 w13 hq=>?_))))))))))))))
 obtain ⟨rfl,dB⟩:=hq
 refine L.o (O.not rfl (L.m rfl (L.o (O.fieldAddr runUnderlying46 rfl sizeOf44 rfl (L.o (O.load isAgg44 rfl ((Blk.ext (cs:=c.cells) hC1 dB).cell rfl) (L.o (O.len runUnderlying44 rfl (Sl.val ((hc3.ext dB).sl)) (L.o (O.fieldAddr runUnderlying46 rfl sizeOf44 rfl (L.o (O.load isAgg44 rfl ((Blk.ext (cs:=c'.cells) hC2 dB).cell rfl) (L.o (O.len runUnderlying44 rfl (Sl.val ((afT.ext dB).sl)) (L.o (O.o8 rfl rfl (by omega) (L.o (O.aj rfl rfl (L.nil (T.cf (T.skip (T.seq (T.q (L.a rfl (L.nil (T.block (?_)))))))))))))))))))))))))))
 refine T.loop (σ:=Nat) (fun i=>[(2,.pointer (some ⟨b2,0,none⟩)),(3,.pointer (some ⟨b3,0,none⟩)),(5,.int .i64 i)]) (fun i w'=>i≤c.fs.length∧Ext w3 w') (fun i=>c.fs.length-i) (0) ⟨rfl,rfl,rfl,trivial⟩ ⟨Nat.zero_le _,dB⟩ ?_
 rintro i w14 ⟨hi,eX⟩
 have hD1:=Blk.ext (cs:=c.cells) hC1 eX
 have hD2:=Blk.ext (cs:=c'.cells) hC2 eX
 have acs:=hc3.ext eX
 have WE:=afT.ext eX
 refine T.seq (T.q (L.m rfl (L.o (O.fieldAddr runUnderlying46 rfl sizeOf44 rfl (L.o (O.load isAgg44 rfl (hD1.cell rfl) (L.o (O.len runUnderlying44 rfl (Sl.val acs.sl) (L.o (O.bH rfl rfl (fun hlt=>?_) (fun hlt=>?_)))))))))))
 ·refine L.nil (?_)
  have hlt':i<c.fs.length:=by omega
  have hfe:=TM (hfi i hlt')
  have hm1:c.fs.getD i f0∈c.fs:=by rw [au hlt'];exact List.getElem_mem hlt'
  have hm2:c'.fs.getD i f0∈c'.fs:=by rw [au (show i<c'.fs.length by omega)];exact List.getElem_mem _
  refine T.ct (T.skip (T.seq (T.block (T.seq (?_)))))
  refine T.fM mixed 11 [2,5,3] rfl [.is _,.is _,.is _,.is _,.is _,.such (RiS (c.fs.getD i f0)),.is _,.is _,.is _,.is _,.is _] [[],[0],[],[1,2],[3],[4],[],[6],[],[7,8],[9]] [[],[0],[],[0,1,2],[0,1,2,3],[0,1,2,3,4],[],[6],[],[6,7,8],[6,7,8,9],[0,1,2,3,4,5,6,7,8,9,10],[0,1,2,3,4,5,6,7,8,9,10,11],[0,1,2,3,4,5,6,7,8,9,10,11,12]] (by kernel_rfl) (by kernel_rfl) rfl (by kernel_rfl) ⟨RiS.st,trivial⟩ ⟨fun wx hx=>Ob.o (O.fieldAddr runUnderlying46 rfl sizeOf44 rfl kR),
    fun wx hx=>Ob.o (O.load isAgg44 rfl ((Blk.ext (cs:=c.cells) hD1 hx).cell rfl) kR),
    fun wx hx=>Ob.o (O.move rfl kR),
    fun wx hx=>Ob.o (O.indexAddr runUnderlying44 sizeOf127 rfl rfl ((acs.ext hx).sl) (by omega) (by omega) kR),
    fun wx hx=>Ob.o (O.ak isAgg127 sizeOf127 rfl rfl ((acs.ext hx).row hlt') kR),
    fun wx hx=>Ob.o (O.call (xs:=[.tmp 35]) call131 rfl rfl (vg lo (c.fs.getD i f0) wx ((acs.ext hx).at hlt') (hn _ hm1)) (fun v wy h=>⟨h.1,Sl.mono h.2.1 (Nat.zero_le _)⟩)),
    fun wx hx=>Ob.o (O.fieldAddr runUnderlying46 rfl sizeOf44 rfl kR),
    fun wx hx=>Ob.o (O.load isAgg44 rfl ((Blk.ext (cs:=c'.cells) hD2 hx).cell rfl) kR),
    fun wx hx=>Ob.o (O.move rfl kR),
    fun wx hx=>Ob.o (O.indexAddr runUnderlying44 sizeOf127 rfl rfl ((WE.ext hx).sl) (by omega) (by omega) kR),
    fun wx hx=>Ob.o (O.ak isAgg127 sizeOf127 rfl rfl ((WE.ext hx).row (by omega)) kR),
    trivial⟩ (fun w6 he6 v36 akV=>?_)
  refine L.o (O.call (xs:=[.tmp 41]) call131 rfl rfl (vg lo2 (c'.fs.getD i f0) w6 ((WE.ext he6).at (by omega)) (hn2 _ hm2)) (fun v42 w42 hq=>?_))
  obtain ⟨ZN,akW,_⟩:=hq
  have hR1:RiS (c.fs.getD i f0) v36 w42:=RiS.st _ _ _ ZN akV
  have hR2:RiS (c'.fs.getD i f0) v42 w42:=Sl.mono akW (Nat.zero_le _)
  have ZC:=he6.trans ZN
  obtain ⟨oa,ca,rfl,_,hca⟩:=Sl.val hR1
  obtain ⟨ob,cb,rfl,_,hcb⟩:=Sl.val hR2
  refine L.a rfl (L.a rfl (L.nil (T.seq (T.q (L.m rfl (L.o (O.len runUnderlying125 rfl (Sl.val hR1) (L.m rfl (L.o (O.len runUnderlying125 rfl (Sl.val hR2) (L.o (O.o8 rfl rfl (by have:=hfe.1;omega) (L.nil (T.cf (T.skip (T.q (L.a rfl (L.nil (T.block (?_))))))))))))))))))))
  refine T.loop (σ:=Nat) (fun k=>[(2,.pointer (some ⟨b2,0,none⟩)),(3,.pointer (some ⟨b3,0,none⟩)),(5,.int .i64 i),(6,.slice oa (c.fs.getD i f0).ri.length ca),(7,.slice ob (c'.fs.getD i f0).ri.length cb),(8,.int .i64 k)]) (fun k w'=>k≤(c.fs.getD i f0).ri.length∧Ext w42 w') (fun k=>(c.fs.getD i f0).ri.length-k) (0) ⟨rfl,rfl,rfl,rfl,rfl,rfl,trivial⟩ ⟨Nat.zero_le _,Keep.refl _ _⟩ ?_
  rintro k w15 ⟨hk,jh⟩
  have hS1:Sl 0 w15 (.slice oa (c.fs.getD i f0).ri.length ca) (c.fs.getD i f0).ri.length 1 (aJ (c.fs.getD i f0).ri):=Sl.ext hR1 jh
  have hS2:Sl 0 w15 (.slice ob (c'.fs.getD i f0).ri.length cb) (c'.fs.getD i f0).ri.length 1 (aJ (c'.fs.getD i f0).ri):=Sl.ext hR2 jh
  have amO:=Sl.le hS1
  refine T.seq (T.q (L.m rfl (L.m rfl (L.o (O.len runUnderlying125 rfl (Sl.val hS1) (L.o (O.bH rfl rfl (fun hkl=>?_) (fun hkl=>?_))))))))
  ·refine L.nil (?_)
   have hk1:k<(c.fs.getD i f0).ri.length:=by omega
   have hk2:k<(c'.fs.getD i f0).ri.length:=by omega
   have hO1:=((acs.ext (ZC.trans jh)).at hlt').ri _ (show (c.fs.getD i f0).ri.getD k r0∈_ by rw [au hk1];exact List.getElem_mem hk1)
   have hO2:=((WE.ext (ZC.trans jh)).at (show i<c'.fs.length by omega)).ri _ (show (c'.fs.getD i f0).ri.getD k r0∈_ by rw [au hk2];exact List.getElem_mem hk2)
   refine T.ct (T.skip (T.seq (T.block (T.seq (?_)))))
   refine T.fM mixed 8 [6,8,7] rfl [.is _,.is _,.is _,.is _,.is _,.is _,.is _,.is _] [[],[],[0,1],[2],[],[],[4,5],[6]] [[],[],[0,1],[0,1,2],[],[],[4,5],[4,5,6],[0,1,2,3,4,5,6,7],[0,1,2,3,4,5,6,7,8]] (by kernel_rfl) (by kernel_rfl) rfl (by kernel_rfl) trivial ⟨fun wx hx=>Ob.o (O.move rfl kR),
     fun wx hx=>Ob.o (O.move rfl kR),
     fun wx hx=>Ob.o (O.indexAddr runUnderlying125 sizeOf30 rfl rfl (Sl.ext hS1 hx) (by omega) (by omega) kR),
     fun wx hx=>Ob.o (O.load isAgg30 rfl (Sl.at1 (Sl.ext hS1 hx) (FD hk1)) kR),
     fun wx hx=>Ob.o (O.move rfl kR),
     fun wx hx=>Ob.o (O.move rfl kR),
     fun wx hx=>Ob.o (O.indexAddr runUnderlying125 sizeOf30 rfl rfl (Sl.ext hS2 hx) (by omega) (by omega) kR),
     fun wx hx=>Ob.o (O.load isAgg30 rfl (Sl.at1 (Sl.ext hS2 hx) (FD hk2)) kR),
     trivial⟩ (fun w12 fP=>?_)
   refine L.o (O.call (xs:=[.tmp 57,.tmp 61]) call132 rfl rfl (J9 lo lo2 _ _ _ _ w12 (hO1.ext fP) (hO2.ext fP) (hfe.2 k)) (fun v62 w62 hq=>?_))
   obtain ⟨rfl,Eb⟩:=hq
   refine L.o (O.not rfl (L.nil (T.cf (T.skip (T.blk (T.region (L.m rfl (L.o (O.aH rfl rfl (by omega) (L.a rfl (L.nil (T.again (k+1) (by omega) ⟨rfl,rfl,rfl,rfl,rfl,rfl,trivial⟩ ⟨hk1,jh.trans (fP.trans Eb)⟩))))))))))))
  refine L.nil (T.cf (T.exit rfl (T.blk (T.region (L.m rfl (L.o (O.aH rfl rfl (by omega) (L.a rfl (L.nil (T.again (i+1) (by omega) ⟨rfl,rfl,rfl,trivial⟩ ⟨hlt',eX.trans (ZC.trans jh)⟩))))))))))
 refine L.nil (T.cf (T.exit rfl (T.q (L.a rfl (L.nil (T.aU results74 rfl ⟨rfl,he.trans eX⟩))))))
open Go Go.E RowKit
def Ep (r:RoV):Bool:=(zW r).all id && (List.range r.us.length).all fun j=>cu r (r.us.getD j u0) && ((List.range j).all fun k=>!decide ((r.us.getD k u0).nm=(r.us.getD j u0).nm) && (!(r.us.getD k u0).wt || (r.us.getD j u0).wt)) && (!decide (j=0) || !(r.us.getD j u0).wt)
theorem iW (r:RoV):Ep r=true↔bJ r:=by
 unfold Ep
 rw [Bool.and_eq_true]
 constructor
 ·rintro ⟨h1,h2⟩
  refine ⟨h1,fun j hj=>?_⟩
  have:=List.all_eq_true.1 h2 j (List.mem_range.2 hj)
  simp only [Bool.and_eq_true,List.all_eq_true,List.mem_range,Bool.or_eq_true,Bool.not_eq_true',decide_eq_false_iff_not] at this
  obtain ⟨⟨a,b⟩,c⟩:=this
  exact ⟨a,fun k hk=>(b k hk).1,fun k hk hw=>(b k hk).2.resolve_left (by rw [hw];decide),fun h0=>c.resolve_left (fun h=>h h0)⟩
 rintro ⟨h1,h2⟩
 refine ⟨h1,List.all_eq_true.2 fun j hj=>?_⟩
 obtain ⟨a,b,c,d⟩:=h2 j (List.mem_range.1 hj)
 simp only [Bool.and_eq_true,List.all_eq_true,List.mem_range,Bool.or_eq_true,Bool.not_eq_true',decide_eq_false_iff_not]
 refine ⟨⟨a,fun k hk=>⟨b k hk,?_⟩⟩,?_⟩
 ·cases hw:(r.us.getD k u0).wt
  ·exact .inl rfl
  exact .inr (c k hk hw)
 by_cases h0:j=0
 ·exact .inr (d h0)
 exact .inl h0
theorem OG (r:RoV):fE r=if Ep r then 0 else 161:=by
 cases h:Ep r
 ·exact dn (fun hk=>by rw [(iW r).2 hk] at h;cases h)
 exact eG ((iW r).1 h)
theorem zx (us:List UnV):nmA (us.map lu)=nmA us:=by
 funext i
 unfold nmA
 rw [zq];rfl
theorem jY:∀ us:List UnV,aX (us.map lu)=aX us
 | []=>rfl
 | u::r=>by
  simp only [List.map_cons,aX]
  rw [jY r];rfl
def Ap (r:RoV) (t:Str):List Int × Nat × Int:=if Ep r then yQ (nmA r.us) (aX r.us) t else ([],0,161)
theorem oN (r:RoV) (t:Str):jg r t=Ap (stripR r) t:=by
 by_cases h:bJ r
 ·rw [oJ h,Ap,(iW _).2 ((dU r).2 h),if_pos rfl]
  show _=yQ (nmA (r.us.map lu)) (aX (r.us.map lu)) t
  rw [zx,jY]
 rw [yR h,Ap,if_neg (fun k=>h ((dU r).1 ((iW _).1 k)))]
def WG (r:RoV) (xs:List Int) (t:Str):List Int × Nat × Int:=if Ep r then (if pO xs (aX r.us)=true then dA (nmA r.us) xs t else ([],0,2)) else ([],0,161)
theorem BQ (r:RoV) (xs:List Int) (t:Str):jH r xs t=WG (stripR r) xs t:=by
 by_cases h:bJ r
 ·rw [uf h,WG,(iW _).2 ((dU r).2 h),if_pos rfl]
  show _=if pO xs (aX (r.us.map lu))=true then dA (nmA (r.us.map lu)) xs t else _
  rw [zx,jY]
 rw [yP h,WG,if_neg (fun k=>h ((dU r).1 ((iW _).1 k)))]
def adB (s:PS):Int:=if cZ s.cx then 150 else if Ep s.ro then (if s.ro.us.length≠s.cx.fs.length then 160 else 0) else 161
theorem TN (s:PS):Tv s=adB s:=by
 unfold Tv adB dX
 rw [OG]
 cases cZ s.cx <;> cases Ep s.ro <;> rfl
def BR (t:Str):PS ⊕ (Int × Int) :=
 if 40000<t.length then .inr (0,3) else match oP (fun s l=>jP s (aW [] l)) PS0 (aK 10 t) 1 with
 | .inr n=>.inr ((n:Int),5)
 | .inl s=>if s.last=dL then (if adB s=0 then .inl s else .inr (0,adB s)) else .inr (0,5)
theorem nT (t:Str):fU t=BR t:=by
 have e:eP=fun s l=>jP s (aW [] l):=by funext s l;exact Me s l
 unfold fU BR
 rw [e]
 simp only [TN]
 rfl
def uM:RoV:=⟨1,2,1,undef,[⟨[97],10,.slice none 0 0,[4],.slice none 0 0,[3,5],.slice none 0 0,[7],false⟩,⟨[98],20,.slice none 0 0,[0],.slice none 0 0,[9,1],.slice none 0 0,[2],false⟩,⟨[99],5,.slice none 0 0,[5],.slice none 0 0,[0,0],.slice none 0 0,[7],false⟩,⟨[119],0,.slice none 0 0,[0],.slice none 0 0,[0,0],.slice none 0 0,[0],true⟩]⟩
def uK (nm:Str) (pp:Int) (bg bv bp:Nat) (gs vs ps:List Int) (wt:Bool):UnV:=⟨nm,pp,.slice (some ⟨bg,0,none⟩) gs.length gs.length,gs,.slice (some ⟨bv,0,none⟩) vs.length vs.length,vs,.slice (some ⟨bp,0,none⟩) ps.length ps.length,ps,wt⟩
theorem WH {lo:Nat} {w:World} {nm:Str} {pp:Int} {bg bv bp:Nat} {gs vs ps:List Int} {wt:Bool} (hn:nm.length≤9223372036854775807) (hg:Blk w bg (gs.map (.int .i64)) 3) (hv:Blk w bv (vs.map (.int .i64)) 3) (hp:Blk w bp (ps.map (.int .i64)) 3) (lg:lo≤bg) (lv:lo≤bv) (lp:lo≤bp) (mg:gs.length≤maxLen) (mv:vs.length≤maxLen) (mp:ps.length≤maxLen):(uK nm pp bg bv bp gs vs ps wt).ok lo w :=
 ⟨Ints.aA hg rfl mg lg,Ints.aA hv rfl mv lv,Ints.aA hp rfl mp lp,hn⟩
theorem TP (r:RoV) (h:r.uv.oneCell'=true):∀ c∈r.cells,c.oneCell'=true:=fun c hc=>by
 simp only [RoV.cells,List.mem_cons,List.not_mem_nil,or_false] at hc
 rcases hc with rfl|rfl|rfl|rfl
 ·rfl
 ·rfl
 ·rfl
 exact h
def ZE:PS:=⟨[(0,0),(4,0),(0,4)],[([0,1,2],[])],0,0,0,[⟨[97],3,[],[],[],false⟩],dL⟩
def acu (b:Nat):FaV:=⟨⟨.slice (some ⟨b,0,none⟩) 3 3,[0,1,2]⟩,.slice none 0 0,[]⟩
def aaf (b4 b5 b7:Nat):CxV:=⟨.slice (some ⟨b4,0,none⟩) 3 3,[(0,0),(4,0),(0,4)],.slice (some ⟨b7,0,none⟩) 1 1,[acu b5]⟩
def acv:UnV:=⟨[97],3,.slice none 0 0,[],.slice none 0 0,[],.slice none 0 0,[],false⟩
def aag (b10:Nat):RoV:=⟨0,0,0,.slice (some ⟨b10,0,none⟩) 1 1,[acv]⟩
theorem TQ {lo b4 b5 b7:Nat} {w:World} (h4:Blk w b4 (pcs [(0,0),(4,0),(0,4)]) 124) (h5:Blk w b5 ([0,1,2].map (Value.int .i64)) 3) (h7:Blk w b7 (bT [acu b5]) 127) (l4:lo≤b4) (l5:lo≤b5) (l7:lo≤b7):(aaf b4 b5 b7).ok lo w:=by
 refine ⟨Sl.aA (n:=3) (sz:=2) h4 rfl (Nat.le_refl _) (by decide) l4,Sl.aA (n:=1) (sz:=2) h7 rfl (Nat.le_refl _) (by decide) l7,fun f hf=>?_⟩
 rw [List.mem_singleton.1 hf]
 exact ⟨Ints.aA h5 rfl (by decide) l5,Sl.nil _ _ _,fun h hh=>by cases hh⟩
theorem TR {lo b10:Nat} {w:World} (h:Blk w b10 (fD [acv]) 51) (l:lo≤b10):(aag b10).ok lo w:=by
 refine ⟨Sl.aA (n:=1) (sz:=6) h rfl (Nat.le_refl _) (by decide) l,fun u hu=>?_⟩
 rw [List.mem_singleton.1 hu]
 exact ⟨Sl.nil _ _ _,Sl.nil _ _ _,Sl.nil _ _ _,by decide⟩
theorem zy (w:World) :
  Calls Tryz.prog 20 #[] w (Ret fun v w'=>∃ b4 b5 b7 b10,v = .agg (fG (aaf b4 b5 b7) (aag b10)).toArray∧(w.heap.size≤b4∧w.heap.size≤b5∧w.heap.size≤b7∧w.heap.size≤b10)∧Blk w' b4 (pcs [(0,0),(4,0),(0,4)]) 124∧Blk w' b5 ([0,1,2].map (Value.int .i64)) 3∧Blk w' b7 (bT [acu b5]) 127∧Blk w' b10 (fD [acv]) 51∧Ext w w'):=by
 refine T.enter (vs:=[]) func20 rfl ntmps20 rfl ?_
 refine T.q (L.o (O.alloc zeroValue48 (fun b0 w0 hb0 hz0 he0 hB0=>?_)))
 refine L.nil (T.q (L.o (O.build (v:=(pV (0,0))) (parts:=[]) (vs:=[]) rfl (fun w=>by kernel_rfl) (L.o (O.build (v:=(pV (4,0))) (parts:=[(0,.const (.int .i64 4))]) (vs:=[(0,_)]) rfl (fun w=>by kernel_rfl) (L.o (O.build (v:=(pV (0,4))) (parts:=[(1,.const (.int .i64 4))]) (vs:=[(1,_)]) rfl (fun w=>by kernel_rfl) (L.o (O.buildSlice (el:=124) (parts:=[(0,.tmp 1),(1,.tmp 2),(2,.tmp 3)]) (vs:=[(0,_),(1,_),(2,_)]) (cs:=(pcs [(0,0),(4,0),(0,4)])) rfl (fun w=>by kernel_rfl) (fun b4 w4 hb4 hz4 he4 hB4=>?_))))))))))
 refine L.o (O.buildSlice (el:=3) (parts:=[(0,.const (.int .i64 0)),(1,.const (.int .i64 1)),(2,.const (.int .i64 2))]) (vs:=[(0,_),(1,_),(2,_)]) (cs:=([0,1,2].map (Value.int .i64))) rfl (fun w=>by kernel_rfl) (fun b5 w5 hb5 hz5 he5 hB5=>?_))
 refine L.o (O.build (v:=(acu b5).val) (parts:=[(0,.tmp 5)]) (vs:=[(0,_)]) rfl (fun w=>by kernel_rfl) (L.o (O.buildSlice (el:=127) (parts:=[(0,.tmp 6)]) (vs:=[(0,_)]) (cs:=(bT [acu b5])) rfl (fun w=>by kernel_rfl) (fun b7 w7 hb7 hz7 he7 hB7=>?_))))
 refine L.o (O.build (v:=(aaf b4 b5 b7).val) (parts:=[(0,.tmp 4),(1,.tmp 7)]) (vs:=[(0,_),(1,_)]) rfl (fun w=>by kernel_rfl) (L.o (O.build (v:=acv.val) (parts:=[(0,_),(1,.const (.int .i64 3))]) (vs:=[(0,_),(1,_)]) rfl (fun w=>by kernel_rfl) (L.o (O.buildSlice (el:=51) (parts:=[(0,.tmp 9)]) (vs:=[(0,_)]) (cs:=(fD [acv])) rfl (fun w=>by kernel_rfl) (fun b10 w10 acU X8 fZ EC=>?_))))))
 refine L.o (O.build (v:=(aag b10).val) (parts:=[(3,.tmp 10)]) (vs:=[(3,_)]) rfl (fun w=>by kernel_rfl) (L.o (O.build (v:=.agg (fG (aaf b4 b5 b7) (aag b10)).toArray) (parts:=[(0,.tmp 8),(1,.tmp 11)]) (vs:=[(0,_),(1,_)]) rfl (fun w=>by kernel_rfl) (?_))))
 have hE0:Ext w0 w10:=((he4.trans he5).trans he7).trans fZ
 have h4:=Blk.ext hB4 ((he5.trans he7).trans fZ)
 have h5:=Blk.ext hB5 (he7.trans fZ)
 have h7:=Blk.ext hB7 fZ
 have l5:=he4.size
 have l7:=(he4.trans he5).size
 have l10:=((he4.trans he5).trans he7).size
 have hc:(aaf b4 b5 b7).ok w0.heap.size w10:=TQ h4 h5 h7 (by omega) (by omega) (by omega)
 have hr:(aag b10).ok w0.heap.size w10:=TR EC (by omega)
 refine L.o (O.aF sizeOf48 rfl rfl rfl (Blk.ext hB0 hE0) (Nat.le_refl _) (nS hc hr) (fun w18 xX zJ=>?_))
 replace xX:Upd b0 w10 w18:=xX
 have afU:Blk w18 b0 (fG (aaf b4 b5 b7) (aag b10)) 48:=zJ
 refine L.nil (T.retA results20 isAgg48 sizeOf48 rfl rfl (Row.aA afU) ⟨b4,b5,b7,b10,rfl,⟨by omega,by omega,by omega,by omega⟩,Blk.upd h4 xX (by omega),Blk.upd h5 xX (by omega),Blk.upd h7 xX (by omega),Blk.upd EC xX (by omega),(he0.trans hE0).upd xX (.inr (by omega))⟩)
theorem o7 (w:World):Calls Tryz.prog 20 #[] w (Ret fun v w'=>∃ c r,v = .agg (fG c r).toArray∧c.ok w.heap.size w'∧r.ok w.heap.size w'∧Says c r ZE∧Ext w w'):=by
 refine (zy w).mono ?_
 rintro (v|_|_) w' h
 ·obtain ⟨b4,b5,b7,b10,h1,⟨l4,l5,l7,l10⟩,h4,h5,h7,h10,he⟩:=h
  exact ⟨_,_,h1,TQ h4 h5 h7 l4 l5 l7,TR h10 l10,⟨rfl,rfl,rfl,rfl,rfl,rfl⟩,he⟩
 ·exact h
 exact h
set_option maxHeartbeats 1000000 in
theorem oO (w:World) :
  Calls Tryz.prog 11 #[] w (Ret fun v w'=>∃ r:RoV,v=r.val∧r.ok w.heap.size w'∧stripR r=uM∧Ext w w'):=by
 refine T.enter (vs:=[]) func11 rfl ntmps11 rfl ?_
 refine T.q (L.o (O.alloc zeroValue25 (fun b0 w0 hb0 hz0 he0 hB0=>?_)))
 refine L.nil (T.q (L.o (O.buildSlice (el:=3) (parts:=[(0,.const (.int .i64 4))]) (vs:=[(0,_)]) (cs:=([4].map (Value.int .i64))) rfl (fun w=>by kernel_rfl) (fun b1 w1 hb1 hz1 he1 hB1=>?_))))
 refine L.o (O.buildSlice (el:=3) (parts:=[(0,.const (.int .i64 3)),(1,.const (.int .i64 5))]) (vs:=[(0,_),(1,_)]) (cs:=([3,5].map (Value.int .i64))) rfl (fun w=>by kernel_rfl) (fun b2 w2 hb2 hz2 he2 hB2=>?_))
 refine L.o (O.buildSlice (el:=3) (parts:=[(0,.const (.int .i64 7))]) (vs:=[(0,_)]) (cs:=([7].map (Value.int .i64))) rfl (fun w=>by kernel_rfl) (fun b3 w3 hb3 hz3 he3 hB3=>?_))
 refine L.o (O.build (v:=(uK [97] 10 b1 b2 b3 [4] [3,5] [7] false).val) (parts:=[(0,_),(1,.const (.int .i64 10)),(2,.tmp 1),(3,.tmp 2),(4,.tmp 3)]) (vs:=[(0,_),(1,_),(2,_),(3,_),(4,_)]) rfl (fun w=>by kernel_rfl) (L.o (O.buildSlice (el:=3) (parts:=[(0,.const (.int .i64 0))]) (vs:=[(0,_)]) (cs:=([0].map (Value.int .i64))) rfl (fun w=>by kernel_rfl) (fun b5 w5 hb5 hz5 he5 hB5=>?_))))
 refine L.o (O.buildSlice (el:=3) (parts:=[(0,.const (.int .i64 9)),(1,.const (.int .i64 1))]) (vs:=[(0,_),(1,_)]) (cs:=([9,1].map (Value.int .i64))) rfl (fun w=>by kernel_rfl) (fun b6 w6 hb6 hz6 he6 hB6=>?_))
 refine L.o (O.buildSlice (el:=3) (parts:=[(0,.const (.int .i64 2))]) (vs:=[(0,_)]) (cs:=([2].map (Value.int .i64))) rfl (fun w=>by kernel_rfl) (fun b7 w7 hb7 hz7 he7 hB7=>?_))
 refine L.o (O.build (v:=(uK [98] 20 b5 b6 b7 [0] [9,1] [2] false).val) (parts:=[(0,_),(1,.const (.int .i64 20)),(2,.tmp 5),(3,.tmp 6),(4,.tmp 7)]) (vs:=[(0,_),(1,_),(2,_),(3,_),(4,_)]) rfl (fun w=>by kernel_rfl) (L.o (O.buildSlice (el:=3) (parts:=[(0,.const (.int .i64 5))]) (vs:=[(0,_)]) (cs:=([5].map (Value.int .i64))) rfl (fun w=>by kernel_rfl) (fun b9 w9 hb9 hz9 he9 hB9=>?_))))
 refine L.o (O.buildSlice (el:=3) (parts:=[(0,.const (.int .i64 0)),(1,.const (.int .i64 0))]) (vs:=[(0,_),(1,_)]) (cs:=([0,0].map (Value.int .i64))) rfl (fun w=>by kernel_rfl) (fun b10 w10 acU X8 fZ EC=>?_))
 refine L.o (O.buildSlice (el:=3) (parts:=[(0,.const (.int .i64 7))]) (vs:=[(0,_)]) (cs:=([7].map (Value.int .i64))) rfl (fun w=>by kernel_rfl) (fun b11 w11 XA Xg dQ oV=>?_))
 refine L.o (O.build (v:=(uK [99] 5 b9 b10 b11 [5] [0,0] [7] false).val) (parts:=[(0,_),(1,.const (.int .i64 5)),(2,.tmp 9),(3,.tmp 10),(4,.tmp 11)]) (vs:=[(0,_),(1,_),(2,_),(3,_),(4,_)]) rfl (fun w=>by kernel_rfl) (L.o (O.buildSlice (el:=3) (parts:=[(0,.const (.int .i64 0))]) (vs:=[(0,_)]) (cs:=([0].map (Value.int .i64))) rfl (fun w=>by kernel_rfl) (fun b13 w13 ada UW dB xM=>?_))))
 refine L.o (O.buildSlice (el:=3) (parts:=[(0,.const (.int .i64 0)),(1,.const (.int .i64 0))]) (vs:=[(0,_),(1,_)]) (cs:=([0,0].map (Value.int .i64))) rfl (fun w=>by kernel_rfl) (fun b14 w14 amP ad7 eX U0=>?_))
 refine L.o (O.buildSlice (el:=3) (parts:=[(0,.const (.int .i64 0))]) (vs:=[(0,_)]) (cs:=([0].map (Value.int .i64))) rfl (fun w=>by kernel_rfl) (fun b15 w15 ag4 Yk jh zZ=>?_))
 refine L.o (O.build (v:=(uK [119] 0 b13 b14 b15 [0] [0,0] [0] true).val) (parts:=[(0,_),(2,.tmp 13),(3,.tmp 14),(4,.tmp 15),(5,.const (.bool true))]) (vs:=[(0,_),(2,_),(3,_),(4,_),(5,_)]) rfl (fun w=>by kernel_rfl) (L.o (O.buildSlice (el:=51) (parts:=[(0,.tmp 4),(1,.tmp 8),(2,.tmp 12),(3,.tmp 16)]) (vs:=[(0,_),(1,_),(2,_),(3,_)]) (cs:=(fD [uK [97] 10 b1 b2 b3 [4] [3,5] [7] false,uK [98] 20 b5 b6 b7 [0] [9,1] [2] false,uK [99] 5 b9 b10 b11 [5] [0,0] [7] false,uK [119] 0 b13 b14 b15 [0] [0,0] [0] true])) rfl (fun w=>by kernel_rfl) (fun b17 w17 amQ aef Ko Fv=>?_))))
 have akX:Blk w17 b1 ([4].map (Value.int .i64)) 3:=Blk.ext hB1 ((((((((((((he2).trans he3).trans he5).trans he6).trans he7).trans he9).trans fZ).trans dQ).trans dB).trans eX).trans jh).trans Ko)
 have akY:Blk w17 b2 ([3,5].map (Value.int .i64)) 3:=Blk.ext hB2 (((((((((((he3).trans he5).trans he6).trans he7).trans he9).trans fZ).trans dQ).trans dB).trans eX).trans jh).trans Ko)
 have akZ:Blk w17 b3 ([7].map (Value.int .i64)) 3:=Blk.ext hB3 ((((((((((he5).trans he6).trans he7).trans he9).trans fZ).trans dQ).trans dB).trans eX).trans jh).trans Ko)
 have ak0:Blk w17 b5 ([0].map (Value.int .i64)) 3:=Blk.ext hB5 (((((((((he6).trans he7).trans he9).trans fZ).trans dQ).trans dB).trans eX).trans jh).trans Ko)
 have ak1:Blk w17 b6 ([9,1].map (Value.int .i64)) 3:=Blk.ext hB6 ((((((((he7).trans he9).trans fZ).trans dQ).trans dB).trans eX).trans jh).trans Ko)
 have ak2:Blk w17 b7 ([2].map (Value.int .i64)) 3:=Blk.ext hB7 (((((((he9).trans fZ).trans dQ).trans dB).trans eX).trans jh).trans Ko)
 have ak3:Blk w17 b9 ([5].map (Value.int .i64)) 3:=Blk.ext hB9 ((((((fZ).trans dQ).trans dB).trans eX).trans jh).trans Ko)
 have afV:Blk w17 b10 ([0,0].map (Value.int .i64)) 3:=Blk.ext EC (((((dQ).trans dB).trans eX).trans jh).trans Ko)
 have afW:Blk w17 b11 ([7].map (Value.int .i64)) 3:=Blk.ext oV ((((dB).trans eX).trans jh).trans Ko)
 have afX:Blk w17 b13 ([0].map (Value.int .i64)) 3:=Blk.ext xM (((eX).trans jh).trans Ko)
 have afY:Blk w17 b14 ([0,0].map (Value.int .i64)) 3:=Blk.ext U0 ((jh).trans Ko)
 have afZ:Blk w17 b15 ([0].map (Value.int .i64)) 3:=Blk.ext zZ (Ko)
 have ak4:w0.heap.size≤b1:=by omega
 have ak5:w0.heap.size≤b2:=by have:=(he1).size;omega
 have ak6:w0.heap.size≤b3:=by have:=((he1).trans he2).size;omega
 have ak7:w0.heap.size≤b5:=by have:=(((he1).trans he2).trans he3).size;omega
 have ak8:w0.heap.size≤b6:=by have:=((((he1).trans he2).trans he3).trans he5).size;omega
 have ak9:w0.heap.size≤b7:=by have:=(((((he1).trans he2).trans he3).trans he5).trans he6).size;omega
 have ala:w0.heap.size≤b9:=by have:=((((((he1).trans he2).trans he3).trans he5).trans he6).trans he7).size;omega
 have af0:w0.heap.size≤b10:=by have:=(((((((he1).trans he2).trans he3).trans he5).trans he6).trans he7).trans he9).size;omega
 have af2:w0.heap.size≤b11:=by have:=((((((((he1).trans he2).trans he3).trans he5).trans he6).trans he7).trans he9).trans fZ).size;omega
 have af4:w0.heap.size≤b13:=by have:=(((((((((he1).trans he2).trans he3).trans he5).trans he6).trans he7).trans he9).trans fZ).trans dQ).size;omega
 have af5:w0.heap.size≤b14:=by have:=((((((((((he1).trans he2).trans he3).trans he5).trans he6).trans he7).trans he9).trans fZ).trans dQ).trans dB).size;omega
 have af6:w0.heap.size≤b15:=by have:=(((((((((((he1).trans he2).trans he3).trans he5).trans he6).trans he7).trans he9).trans fZ).trans dQ).trans dB).trans eX).size;omega
 have af7:w0.heap.size≤b17:=by have:=((((((((((((he1).trans he2).trans he3).trans he5).trans he6).trans he7).trans he9).trans fZ).trans dQ).trans dB).trans eX).trans jh).size;omega
 have hE0:Ext w0 w17:=((((((((((((he1).trans he2).trans he3).trans he5).trans he6).trans he7).trans he9).trans fZ).trans dQ).trans dB).trans eX).trans jh).trans Ko
 have hE:Ext w w17:=he0.trans hE0
 have hro:Units w0.heap.size w17 (.slice (some ⟨b17,0,none⟩) 4 4) [uK [97] 10 b1 b2 b3 [4] [3,5] [7] false,uK [98] 20 b5 b6 b7 [0] [9,1] [2] false,uK [99] 5 b9 b10 b11 [5] [0,0] [7] false,uK [119] 0 b13 b14 b15 [0] [0,0] [0] true]:=by
  refine ⟨Sl.aA (n:=4) (sz:=6) Fv rfl (Nat.le_refl _) (by decide) af7,fun u hu=>?_⟩
  simp only [List.mem_cons,List.not_mem_nil,or_false] at hu
  rcases hu with rfl|rfl|rfl|rfl
  ·exact WH (by decide) akX akY akZ ak4 ak5 ak6 (by decide) (by decide) (by decide)
  ·exact WH (by decide) ak0 ak1 ak2 ak7 ak8 ak9 (by decide) (by decide) (by decide)
  ·exact WH (by decide) ak3 afV afW ala af0 af2 (by decide) (by decide) (by decide)
  exact WH (by decide) afX afY afZ af4 af5 af6 (by decide) (by decide) (by decide)
 refine L.o (O.build (v:=(⟨1,2,1,.slice (some ⟨b17,0,none⟩) 4 4,[uK [97] 10 b1 b2 b3 [4] [3,5] [7] false,uK [98] 20 b5 b6 b7 [0] [9,1] [2] false,uK [99] 5 b9 b10 b11 [5] [0,0] [7] false,uK [119] 0 b13 b14 b15 [0] [0,0] [0] true]⟩:RoV).val) (parts:=[(0,.const (.int .i64 1)),(1,.const (.int .i64 2)),(2,.const (.int .i64 1)),(3,.tmp 17)]) (vs:=[(0,_),(1,_),(2,_),(3,_)]) rfl (fun w=>by kernel_rfl) (L.o (O.aF sizeOf25 rfl rfl rfl (Blk.ext hB0 hE0) (Nat.le_refl _) (TP (⟨1,2,1,.slice (some ⟨b17,0,none⟩) 4 4,[uK [97] 10 b1 b2 b3 [4] [3,5] [7] false,uK [98] 20 b5 b6 b7 [0] [9,1] [2] false,uK [99] 5 b9 b10 b11 [5] [0,0] [7] false,uK [119] 0 b13 b14 b15 [0] [0,0] [0] true]⟩:RoV) rfl) (fun w18 xX zJ=>?_))))
 replace xX:Upd b0 w17 w18:=xX
 have afU:Blk w18 b0 (⟨1,2,1,.slice (some ⟨b17,0,none⟩) 4 4,[uK [97] 10 b1 b2 b3 [4] [3,5] [7] false,uK [98] 20 b5 b6 b7 [0] [9,1] [2] false,uK [99] 5 b9 b10 b11 [5] [0,0] [7] false,uK [119] 0 b13 b14 b15 [0] [0,0] [0] true]⟩:RoV).cells 25:=zJ
 refine L.nil (T.retA results11 isAgg25 sizeOf25 rfl rfl (Row.aA afU) ⟨_,rfl,(Units.keep (lo:=w0.heap.size) hro ((Keep.refl _ _).upd xX (.inl (by omega)))).mono (by omega),rfl,hE.upd xX (.inr (by omega))⟩)
open Go Go.E RowKit
theorem TS {c c':CxV} {r r':RoV} {s:PS} (h:Says c r s) (h':Says c' r' s):vX r r'=true:=by
 have e:r.us.map iC=r'.us.map iC:=h.us.trans h'.us.symm
 refine Rw (h.G.trans h'.G.symm) (h.P.trans h'.P.symm) (h.L.trans h'.L.symm) ⟨by simpa using congrArg List.length e,fun i _=>?_⟩
 have e1:=getD_map' (f:=iC) (d:=u0) (e:=iC u0) rfl r.us i
 have e2:=getD_map' (f:=iC) (d:=u0) (e:=iC u0) rfl r'.us i
 have e3:iC (r.us.getD i u0)=iC (r'.us.getD i u0):=by rw [← e1,← e2,e]
 simp only [iC,PU.mk.injEq] at e3
 exact dM.2 ⟨e3.1,e3.2.1,e3.2.2.2.2.2,e3.2.2.1,e3.2.2.2.1,e3.2.2.2.2.1⟩
theorem rO (lo lo':Nat) (p q:Value) (xs ys:List Int) (w:World) (hp:Ints .i64 lo w p xs) (hq:Ints .i64 lo' w q ys) :
  Calls Tryz.prog 46 #[p,q] w (Ret fun v w'=>v = .bool (decide (xs=ys))∧Ext w w'):=by
 have hle:=Sl.le hp
 refine T.enter (vs:=[p,q]) func46 rfl ntmps46 rfl ?_
 refine T.q (L.a rfl (L.nil (T.seq (T.q (L.m rfl (L.o (O.len runUnderlying31 rfl (Sl.val hp) (L.m rfl (L.o (O.len runUnderlying31 rfl (Sl.val hq) (L.o (O.kC rfl rfl (fun hl=>?_) (fun hl=>?_)))))))))))))
 ·refine L.nil (T.ct (T.q (L.a rfl (L.nil (T.aU results46 rfl ⟨by rw [decide_eq_false (fun h=>hl (by rw [h]))],Keep.refl _ _⟩)))))
 refine L.nil (?_)
 have hlen:xs.length=ys.length:=by omega
 refine T.cf (T.skip (T.seq (T.q (L.m rfl (L.o (O.len runUnderlying31 rfl (Sl.val hp) (L.m rfl (L.nil (T.block (?_))))))))))
 refine T.loop (σ:=Nat) (fun i=>[(0,p),(1,q),(12,.int .i64 xs.length),(13,.int .i64 i)]) (fun i w'=>i≤xs.length∧Ext w w'∧∀ j,j<i→xs.getD j 0=ys.getD j 0) (fun i=>xs.length-i) (0) ⟨rfl,rfl,rfl,rfl,trivial⟩ ⟨Nat.zero_le _,Keep.refl _ _,fun j hj=>absurd hj (Nat.not_lt_zero _)⟩ ?_
 rintro i w1 ⟨hi,he1,hall⟩
 have hp1:=hp.keep (he1.mono (Nat.zero_le lo))
 have hq1:=hq.keep (he1.mono (Nat.zero_le lo'))
 refine T.q (L.o (O.bH rfl rfl (fun hlt=>?_) (fun hlt=>?_)))
 ·refine L.nil (?_)
  have hlt':i<xs.length:=by omega
  by_cases heq:xs.getD i 0=ys.getD i 0
  ·refine T.seq (T.ct (T.skip (T.seq (T.block (T.q (L.m rfl (L.a rfl (L.nil (T.seq (?_))))))))))
   refine T.fM mixed 8 [0,5,1] rfl [.is _,.is _,.is _,.is _,.is _,.is _,.is _,.is _] [[],[],[0,1],[2],[],[],[4,5],[6]] [[],[],[0,1],[0,1,2],[],[],[4,5],[4,5,6],[0,1,2,3,4,5,6,7]] (by kernel_rfl) (by kernel_rfl) rfl (by kernel_rfl) trivial ⟨fun wx hx=>Ob.o (O.move rfl kR),
     fun wx hx=>Ob.o (O.move rfl kR),
     fun wx hx=>Ob.o (O.indexAddr runUnderlying31 sizeOf3 rfl rfl hp1 (by omega) (by omega) kR),
     fun wx hx=>Ob.o (O.load isAgg3 rfl (Ints.at (hp1.keep (hx.mono (Nat.zero_le _))) hlt') kR),
     fun wx hx=>Ob.o (O.move rfl kR),
     fun wx hx=>Ob.o (O.move rfl kR),
     fun wx hx=>Ob.o (O.indexAddr runUnderlying31 sizeOf3 rfl rfl hq1 (by omega) (by omega) kR),
     fun wx hx=>Ob.o (O.load isAgg3 rfl (Ints.at (hq1.keep (hx.mono (Nat.zero_le _))) (by omega)) kR),
     trivial⟩ (fun w2 he2=>?_)
   refine L.o (O.o8 rfl rfl heq (L.nil (T.cf (T.skip (T.blk (T.region (L.o (O.aH rfl rfl (by omega) (L.m rfl (L.nil (T.again (i+1) (by omega) ⟨rfl,rfl,rfl,rfl,trivial⟩ ⟨hlt',he1.trans he2,fun j hj=>?_⟩)))))))))))
   ·by_cases hji:j=i
    ·subst hji;exact heq
    exact hall j (by omega)
  refine T.seq (T.ct (T.skip (T.seq (T.block (T.q (L.m rfl (L.a rfl (L.nil (T.seq (?_))))))))))
  refine T.fM mixed 8 [0,5,1] rfl [.is _,.is _,.is _,.is _,.is _,.is _,.is _,.is _] [[],[],[0,1],[2],[],[],[4,5],[6]] [[],[],[0,1],[0,1,2],[],[],[4,5],[4,5,6],[0,1,2,3,4,5,6,7]] (by kernel_rfl) (by kernel_rfl) rfl (by kernel_rfl) trivial ⟨fun wx hx=>Ob.o (O.move rfl kR),
    fun wx hx=>Ob.o (O.move rfl kR),
    fun wx hx=>Ob.o (O.indexAddr runUnderlying31 sizeOf3 rfl rfl hp1 (by omega) (by omega) kR),
    fun wx hx=>Ob.o (O.load isAgg3 rfl (Ints.at (hp1.keep (hx.mono (Nat.zero_le _))) hlt') kR),
    fun wx hx=>Ob.o (O.move rfl kR),
    fun wx hx=>Ob.o (O.move rfl kR),
    fun wx hx=>Ob.o (O.indexAddr runUnderlying31 sizeOf3 rfl rfl hq1 (by omega) (by omega) kR),
    fun wx hx=>Ob.o (O.load isAgg3 rfl (Ints.at (hq1.keep (hx.mono (Nat.zero_le _))) (by omega)) kR),
    trivial⟩ (fun w2 he2=>?_)
  refine L.o (O.IC rfl rfl heq (L.nil (T.ct (T.q (L.a rfl (L.nil (T.aU results46 rfl ⟨by rw [decide_eq_false (fun h=>heq (by rw [h]))],he1.trans he2⟩)))))))
 refine L.nil (T.seq (T.cf (T.exit rfl (T.q (L.a rfl (L.nil (T.aU results46 rfl ⟨by rw [decide_eq_true (MX (d:=0) hlen (fun j hj=>hall j (by omega)))],he1⟩)))))))
theorem MF (lo lo2:Nat) (c c':CxV) (r r':RoV) (s:PS) (w:World) (hc:c.ok lo w) (hr:r.ok lo w) (hc':c'.ok lo2 w) (hr':r'.ok lo2 w) (hs:Says c r s) (hs':Says c' r' s) (hn:∀ f∈c.fs,f.hs.length≤100000) :
  Calls Tryz.prog 28 #[.agg (fG c r).toArray,.agg (fG c' r').toArray] w (Ret fun v w'=>v = .bool true∧Ext w w'):=by
 refine T.enter (vs:=[.agg (fG c r).toArray,.agg (fG c' r').toArray]) func28 rfl ntmps28 rfl ?_
 refine T.q (L.o (O.box rfl (fun b2 w2 hb2 hz2 he2 hB2=>?_)))
 refine L.o (O.box rfl (fun b3 w3 hb3 hz3 he3 hB3=>?_))
 have he:=he2.trans he3
 have hC1:Blk w3 b2 (fG c r) 48:=Blk.ext (cs:=fG c r) hB2 he3
 have hC2:Blk w3 b3 (fG c' r') 48:=hB3
 refine L.a rfl (L.nil (T.q (L.o (O.fieldAddr runUnderlying48 rfl sizeOf46 rfl (L.o (O.ak isAgg46 sizeOf46 rfl rfl ((Row.aA hC1).part 0 2) (L.o (O.fieldAddr runUnderlying48 rfl sizeOf46 rfl (L.o (O.ak isAgg46 sizeOf46 rfl rfl ((Row.aA hC2).part 0 2) (L.o (O.call (xs:=[.tmp 6,.tmp 8]) call74 rfl rfl (OE lo lo2 c c' w3 (hc.ext he) (hc'.ext he) (hs.ps.trans hs'.ps.symm) (hs.fs.trans hs'.fs.symm) hn) (fun v9 w9 hq=>?_)))))))))))))
 obtain ⟨rfl,he9⟩:=hq
 refine L.m rfl (L.o (O.fieldAddr runUnderlying48 rfl sizeOf25 rfl (L.o (O.ak isAgg25 sizeOf25 rfl rfl ((Row.aA (Blk.ext hC1 he9)).part 2 4) (L.o (O.fieldAddr runUnderlying48 rfl sizeOf25 rfl (L.o (O.ak isAgg25 sizeOf25 rfl rfl ((Row.aA (Blk.ext hC2 he9)).part 2 4) (L.o (O.call (xs:=[.tmp 12,.tmp 14]) call37 rfl rfl (yB lo lo2 r r' w9 (hr.ext (he.trans he9)) (hr'.ext (he.trans he9))) (fun v15 w15 hq=>?_)))))))))))
 obtain ⟨ahM,jh⟩:=hq
 rw [TS hs hs'] at ahM
 subst ahM
 refine L.o (O.ah rfl rfl (L.a rfl (L.nil (T.aU results28 rfl ⟨rfl,(he.trans he9).trans jh⟩))))
theorem rQ (t:Str) (n:Nat) (e:Int) (w:World) (hL:je w) (ht:t.length≤1000000) (hr:Ap uM t=([],n,e)) :
  Calls Tryz.prog 16 #[str t,.int .i64 n,.int .i64 e] w (Ret fun v w'=>v = .bool true∧Ext w w'):=by
 refine T.enter (vs:=[str t,.int .i64 n,.int .i64 e]) func16 rfl ntmps16 rfl ?_
 refine T.q (L.a rfl (L.nil (T.q (L.o (O.call (xs:=[]) call11 rfl rfl (oO w) (fun v11 w11 hq=>?_))))))
 obtain ⟨r,rfl,hro,hst,dQ⟩:=hq
 refine L.m rfl (L.o (O.call (xs:=[.tmp 11,.tmp 12]) call13 rfl rfl (Bv w.heap.size r t w11 hro (hL.ext dQ) ht) (fun v13 w13 hq=>?_)))
 obtain ⟨pv,rfl,hpv,dB⟩:=hq
 rw [oN,hst,hr] at hpv
 rw [oN,hst,hr]
 refine L.m rfl (L.o (O.extract rfl rfl (L.o (O.extract rfl rfl (L.o (O.extract rfl rfl (L.a rfl (L.a rfl (L.a rfl (L.nil (T.q (L.m rfl (L.o (O.len runUnderlying31 rfl (Sl.val hpv) (L.o (O.jk rfl rfl rfl (L.m rfl (L.m rfl (L.m rfl (L.o (O.jk rfl rfl rfl (L.o (O.ah rfl rfl (L.m rfl (L.m rfl (L.m rfl (L.o (O.eql rfl rfl (L.o (O.ah rfl rfl (L.a rfl (?_))))))))))))))))))))))))))))))))
 refine L.nil (T.aU results16 rfl ⟨congrArg Value.bool (decide_eq_true rfl),dQ.trans dB⟩)
theorem lZ (t:Str) (n e:Int) (w:World) (hL:je w) (ht:t.length≤1000000) (hp:BR t = .inr (n,e)) :
  Calls Tryz.prog 17 #[str t,.int .i64 n,.int .i64 e] w (Ret fun v w'=>v = .bool true∧Ext w w'):=by
 refine T.enter (vs:=[str t,.int .i64 n,.int .i64 e]) func17 rfl ntmps17 rfl ?_
 refine T.q (L.a rfl (L.nil (T.q (L.m rfl (L.o (O.call (xs:=[.tmp 11]) call21 rfl rfl (qg t w hL (by omega)) (fun v12 w12 hq=>?_)))))))
 obtain ⟨fP,Ny⟩:=hq
 rw [nT,hp] at Ny
 replace Ny:v12 = .tuple #[.agg fK.toArray,.int .i64 n,.int .i64 e]:=Ny
 subst Ny
 refine L.m rfl (L.o (O.extract rfl rfl (L.o (O.extract rfl rfl (L.o (O.extract rfl rfl (L.o (O.alloc zeroValue48 (fun b7 w7 hb7 hz7 he7 hB7=>?_)))))))))
 refine L.o (O.aF sizeOf48 rfl rfl rfl hB7 (Nat.le_refl _) iV (fun w13 wQ xM=>?_))
 replace wQ:Upd b7 w7 w13:=wQ
 have hR:Blk w13 b7 fK 48:=xM
 refine L.a rfl (L.a rfl (L.nil (T.q (L.o (O.fieldAddr runUnderlying48 rfl sizeOf46 rfl (L.o (O.fieldAddr runUnderlying46 rfl sizeOf43 rfl (L.o (O.load isAgg43 rfl (hR.cell rfl) (L.o (O.len runUnderlying43 rfl (Sl.val (Sl.nil 0 w13 1)) (L.o (O.jk rfl rfl rfl (L.m rfl (L.o (O.fieldAddr runUnderlying48 rfl sizeOf25 rfl (L.o (O.fieldAddr runUnderlying25 rfl sizeOf23 rfl (L.o (O.load isAgg23 rfl (hR.cell rfl) (L.o (O.len runUnderlying23 rfl (Sl.val (Sl.nil 0 w13 1)) (L.o (O.jk rfl rfl rfl (L.o (O.ah rfl rfl (L.m rfl (L.m rfl (L.m rfl (L.o (O.jk rfl rfl rfl (L.o (O.ah rfl rfl (L.m rfl (L.m rfl (?_))))))))))))))))))))))))))))))))))))
 refine L.m rfl (L.o (O.eql rfl rfl (L.o (O.ah rfl rfl (L.a rfl (L.nil (T.aU results17 rfl ⟨congrArg Value.bool (decide_eq_true rfl),fP.trans (he7.upd wQ (.inr (by omega)))⟩)))))))
theorem TT (lo:Nat) (t:Str) (p:Value) (xs:List Int) (w:World) (hL:je w) (ht:t.length≤1000000) (hp:Ints .i64 lo w p xs) (hr:Ap uM t=(xs,0,0)) :
  Calls Tryz.prog 51 #[str t,p] w (Ret fun v w'=>v = .bool true∧Ext w w'):=by
 refine T.enter (vs:=[str t,p]) func51 rfl ntmps51 rfl ?_
 refine T.q (L.a rfl (L.nil (T.q (L.o (O.call (xs:=[]) call11 rfl rfl (oO w) (fun v11 w11 hq=>?_))))))
 obtain ⟨r,rfl,hro,hst,dQ⟩:=hq
 refine L.m rfl (L.o (O.call (xs:=[.tmp 9,.tmp 10]) call13 rfl rfl (Bv w.heap.size r t w11 hro (hL.ext dQ) ht) (fun v13 w13 hq=>?_)))
 obtain ⟨pv,rfl,hpv,dB⟩:=hq
 rw [oN,hst,hr] at hpv
 rw [oN,hst,hr]
 refine L.m rfl (L.o (O.extract rfl rfl (L.o (O.extract rfl rfl (L.o (O.extract rfl rfl (L.a rfl (L.a rfl (L.a rfl (L.nil (T.q (L.m rfl (L.m rfl (L.o (O.call (xs:=[.tmp 15,.tmp 16]) call46 rfl rfl (rO 0 lo pv p xs xs w13 hpv (hp.ext (dQ.trans dB))) (fun v17 w17 hq=>?_))))))))))))))))
 obtain ⟨adq,Ko⟩:=hq
 rw [decide_eq_true rfl] at adq
 subst adq
 refine L.m rfl (L.m rfl (L.o (O.jk rfl rfl rfl (L.o (O.ah rfl rfl (L.m rfl (L.m rfl (L.o (O.eql rfl rfl (L.o (O.ah rfl rfl (L.a rfl (L.nil (T.aU results51 rfl ⟨congrArg Value.bool (decide_eq_true rfl),(dQ.trans dB).trans Ko⟩))))))))))))))
open Go Go.E RowKit
def alb:Str:=[117,110,105,116,44,100,105,115,116,114,105,99,116,10,97,44,49,10,98,44,50,10,99,44,49,10]
def H8:Str:=108::97::110::100::32::48::32::48::32::48::10::112::111::105::110::116::32::48::32::48::10::112::111::105::110::116::32::52::32::48::10::112::111::105::110::116::32::48::32::52::10::102::97::99::101::32::48::32::49::32::50::10::117::110::105::116::32::97::32::51::10::101::110::100::10 :: []
def acw (r:RoV) (xs:List Int):Str × Int:=if Ep r then (if pO xs (aX r.us)=true then (ay (jW (nmA r.us) xs xs.length),0) else ([],2)) else ([],161)
theorem TU (r:RoV) (xs:List Int):yM r xs=acw (stripR r) xs:=by
 by_cases h:bJ r
 ·rw [yN h,acw,(iW _).2 ((dU r).2 h),if_pos rfl]
  show _=if pO xs (aX (r.us.map lu))=true then (ay (jW (nmA (r.us.map lu)) xs xs.length),0) else _
  rw [zx,jY]
 rw [Bq h,acw,if_neg (fun k=>h ((dU r).1 ((iW _).1 k)))]
theorem rU {d:Nat} (h:d<10):Lib.itoa (d:Int) = [UInt8.ofNat (48+d)]:=by
 rw [Lib.itoa_nonneg,Lib.decDigits_one h]
theorem WI:acw uM [0,1,0]=(alb,0):=by
 unfold acw
 rw [if_pos (by kernel_rfl),if_pos (by kernel_rfl)]
 have e1:Lib.itoa (([0,1,0]:List Int).getD 0 0+1) = [49]:=D6 (d:=0) (by decide)
 have e2:Lib.itoa (([0,1,0]:List Int).getD 1 0+1) = [50]:=D6 (d:=1) (by decide)
 have e3:Lib.itoa (([0,1,0]:List Int).getD 2 0+1) = [49]:=D6 (d:=0) (by decide)
 show (ay [XD,yK (nmA uM.us) [0,1,0] 0,yK (nmA uM.us) [0,1,0] 1,yK (nmA uM.us) [0,1,0] 2],(0:Int))=_
 unfold yK
 rw [e1,e2,e3]
 rfl
theorem MG:ay (bI ZE.cx ZE.ro)=H8:=by
 have e0:Lib.itoa 0 = [48]:=rU (d:=0) (by decide)
 have e1:Lib.itoa 1 = [49]:=rU (d:=1) (by decide)
 have e2:Lib.itoa 2 = [50]:=rU (d:=2) (by decide)
 have e3:Lib.itoa 3 = [51]:=rU (d:=3) (by decide)
 have e4:Lib.itoa 4 = [52]:=rU (d:=4) (by decide)
 have h1:spell [0,0,0] = [32,48,32,48,32,48]:=by simp only [spell,List.flatMap_cons,List.flatMap_nil,e0];rfl
 have h2:spell [0,0] = [32,48,32,48]:=by simp only [spell,List.flatMap_cons,List.flatMap_nil,e0];rfl
 have h3:spell [4,0] = [32,52,32,48]:=by simp only [spell,List.flatMap_cons,List.flatMap_nil,e0,e4];rfl
 have h4:spell [0,4] = [32,48,32,52]:=by simp only [spell,List.flatMap_cons,List.flatMap_nil,e0,e4];rfl
 have h5:spell [0,1,2] = [32,48,32,49,32,50]:=by simp only [spell,List.flatMap_cons,List.flatMap_nil,e0,e1,e2];rfl
 have h6:spell [3] = [32,51]:=by simp only [spell,List.flatMap_cons,List.flatMap_nil,e3];rfl
 show ay ([bD++spell [0,0,0]] ++ [aN++spell [0,0],aN++spell [4,0],aN++spell [0,4]] ++ [aZ++spell [0,1,2]] ++ [RU ++ [97]++spell [3] ++ []] ++ [dL])=_
 rw [h1,h2,h3,h4,h5,h6]
 rfl
theorem ZF:Tv ZE=0:=by rw [TN];kernel_rfl
theorem TV:BR H8 = .inl ZE:=by kernel_rfl
theorem TW:WG uM [0,1,0] [117,110,105,116,44,100,105,115,116,114,105,99,116,10,99,44,50,10]=([0,1,1],0,0):=by kernel_rfl
theorem ZG:Ap uM ([117,110,105,116,44,100,105,115,116,114,105,99,116,10,98,44,50,10,97,44,49,10,99,44,49,10])=([0,1,0],0,0):=by kernel_rfl
theorem WJ:Ap uM ([117,110,105,116,44,100,105,115,116,114,105,99,116,10,97,44,49,10,99,44,49,10])=([],0,4):=by kernel_rfl
theorem WL:Ap uM ([117,110,105,116,44,100,105,115,116,114,105,99,116,10,97,44,57,10,98,44,50,10,99,44,49,10])=([],2,5):=by kernel_rfl
theorem WM:Ap uM ([117,110,105,116,44,100,105,115,116,114,105,99,116,10,97,44,49,10,98,44,50,10,99,44,49,10,97,44,49,10])=([],5,5):=by kernel_rfl
theorem WO:Ap uM ([117,110,105,116,44,100,105,115,116,114,105,99,116,10,97,44,49,10,98,44,50,10,99,44,49])=([],4,5):=by kernel_rfl
theorem WQ:BR (H8.take 61) = .inr (0,5):=by kernel_rfl
theorem Says.text_eq {c:CxV} {r:RoV} {s:PS} (h:Says c r s):bI c r=bI s.cx s.ro:=by rw [h.cx,h.ro,J8]
theorem WR {c:CxV} {r:RoV} {s:PS} (h:Says c r s) (he:Tv s=0) (hl:(ay (bI s.cx s.ro)).length≤40000):jI c r (dX c r (cZ c))=(ay (bI s.cx s.ro),0):=by
 rw [h.err,he,jI,if_neg (fun x=>x rfl),h.text_eq,if_neg (by omega)]
theorem OH {c:CxV} {r:RoV} {s:PS} (h:Says c r s) (hs:∀ f∈s.fs,f.2.length≤100000):∀ f∈c.fs,f.hs.length≤100000:=fun f hf=>by
 have:=hs (jQ f) (by rw [← h.fs];exact List.mem_map_of_mem hf)
 simpa [jQ] using this
def acy (v:Value) (w:World):Prop:=∃ c r,v = .agg (fG c r).toArray∧c.ok 0 w∧r.ok 0 w∧Says c r ZE
theorem acy.st:∀ v w w',Ext w w'→acy v w→acy v w':=fun _ _ _ k ⟨c,r,h1,h2,h3,h4⟩=>⟨c,r,h1,h2.ext k,h3.ext k,h4⟩
set_option maxHeartbeats 4000000 in
theorem Kq (w:World) (hL:je w) :
  Calls Tryz.prog 10 #[] w (Ret fun v w'=>v = .bool true∧Ext w w'):=by
 refine T.enter (vs:=[]) func10 rfl ntmps10 rfl ?_
 refine T.q (L.a rfl (L.nil (T.q (L.o (O.call (xs:=[]) call11 rfl rfl (oO w) (fun v12 w12 hq=>?_))))))
 obtain ⟨r1,rfl,hr1,hst1,fP⟩:=hq
 refine L.o (O.buildSlice (el:=3) (parts:=[(0,.const (.int .i64 0)),(1,.const (.int .i64 1)),(2,.const (.int .i64 0))]) (vs:=[(0,_),(1,_),(2,_)]) (cs:=([0,1,0].map (Value.int .i64))) rfl (fun w=>by kernel_rfl) (fun b13 w13 ada UW dB xM=>?_))
 refine L.o (O.call (xs:=[.tmp 12,.tmp 13]) call12 rfl rfl (GK w.heap.size r1 _ [0,1,0] w13 (hr1.ext dB) (Ints.aA xM rfl (by decide) (Nat.zero_le _)) (hL.ext (fP.trans dB))) (fun v14 w14 hq=>?_))
 obtain ⟨rfl,eX⟩:=hq
 rw [TU,hst1,WI]
 have ZV:=(fP.trans dB).trans eX
 refine L.m rfl (L.o (O.extract rfl rfl (L.o (O.extract rfl rfl (L.a rfl (L.a rfl (L.nil (T.q (L.o (O.call (xs:=[]) call11 rfl rfl (oO w14) (fun v18 w18 hq=>?_)))))))))))
 obtain ⟨r2,rfl,hr2,hst2,kV⟩:=hq
 refine L.o (O.buildSlice (el:=3) (parts:=[(0,.const (.int .i64 0)),(1,.const (.int .i64 1)),(2,.const (.int .i64 0))]) (vs:=[(0,_),(1,_),(2,_)]) (cs:=([0,1,0].map (Value.int .i64))) rfl (fun w=>by kernel_rfl) (fun b19 w19 aiT aiU OY Fz=>?_))
 refine L.o (O.call (xs:=[.tmp 18,.tmp 19,_]) call14 rfl rfl (DZ w14.heap.size r2 _ [0,1,0] [117,110,105,116,44,100,105,115,116,114,105,99,116,10,99,44,50,10] w19 (hr2.ext OY) (Ints.aA Fz rfl (by decide) (Nat.zero_le _)) (hL.ext (ZV.trans (kV.trans OY))) (by decide)) (fun v20 w20 hq=>?_))
 obtain ⟨pv,rfl,hpv,Ug⟩:=hq
 rw [BQ,hst2,TW] at hpv
 rw [BQ,hst2,TW]
 have hE20:=ZV.trans ((kV.trans OY).trans Ug)
 refine L.m rfl (L.o (O.extract rfl rfl (L.o (O.extract rfl rfl (L.o (O.extract rfl rfl (L.a rfl (L.a rfl (L.a rfl (L.nil (T.q (L.o (O.call (xs:=[]) call20 rfl rfl (o7 w20) (fun v25 w25 hq=>?_))))))))))))))
 obtain ⟨c1,t1,rfl,hc1,ht1,hs1,wW⟩:=hq
 refine L.o (O.call (xs:=[.tmp 25]) call19 rfl rfl (Bz w20.heap.size c1 t1 w25 hc1 ht1 (hL.ext (hE20.trans wW)) Eo) (fun v26 w26 hq=>?_))
 obtain ⟨rfl,Zy⟩:=hq
 rw [WR hs1 ZF (by rw [MG];decide),MG]
 have Zz:=hE20.trans (wW.trans Zy)
 refine L.m rfl (L.o (O.extract rfl rfl (L.o (O.extract rfl rfl (L.a rfl (L.a rfl (L.nil (T.q (L.o (O.call (xs:=[_]) call21 rfl rfl (qg H8 w26 (hL.ext Zz) (by decide)) (fun v30 w30 hq=>?_)))))))))))
 obtain ⟨Ns,XB⟩:=hq
 rw [nT,TV] at XB
 obtain ⟨c2,t2,rfl,hc2,ht2,hs2⟩:=XB
 refine L.m rfl (L.o (O.extract rfl rfl (L.o (O.extract rfl rfl (L.o (O.extract rfl rfl (L.o (O.alloc zeroValue48 (fun b8 w8 hb8 hz8 he8 hB8=>?_)))))))))
 refine L.o (O.aF sizeOf48 rfl rfl rfl hB8 (Nat.le_refl _) (nS hc2 ht2) (fun w31 qj VF=>?_))
 replace qj:Upd b8 w8 w31:=qj
 have alc:Blk w31 b8 (fG c2 t2) 48:=VF
 have Ij:Ext w30 w31:=he8.upd qj (.inr (by omega))
 have ahN:=(Zz.trans Ns).trans Ij
 have hc31:=hc2.ext Ij
 have ald:=ht2.ext Ij
 have af8:=hpv.ext (((wW.trans Zy).trans Ns).trans Ij)
 have hL31:=hL.ext ahN
 have hsm:∀ f∈c2.fs,f.hs.length≤100000:=OH hs2 (by decide)
 refine L.a rfl (L.a rfl (L.nil (T.seq (?_))))
 refine T.fM mixed 30 [1,2,3,4,5,6,7,8] rfl [.is _,.is _,.is _,.is _,.is _,.is _,.is _,.is _,.such (D5 [0,1,1]),.is (.bool true),.is _,.is _,.is _,.is _,.is _,.is _,.is _,.is _,.is _,.is _,.is _,.is _,.is _,.is _,.is _,.is _,.is _,.is _,.is _,.such acy] [[],[0],[1],[2],[3,2],[2,4],[5],[6],[6],[7,8,6],[6,9],[10],[11],[12,11],[11,13],[14],[15],[16,15],[15,17],[18],[19],[20,19],[19,21],[22],[23],[24,23],[23,25],[26],[27],[27]] ([] :: [0] :: [0,1] :: [0,1,2] :: [0,1,2,3] :: [0,1,2,3,4] :: [0,1,2,3,4,5] :: [0,1,2,3,4,5,6] :: [0,1,2,3,4,5,6] :: [0,1,2,3,4,5,6,7,8] :: [0,1,2,3,4,5,6,7,8,9] :: [0,1,2,3,4,5,6,7,8,9,10] :: [0,1,2,3,4,5,6,7,8,9,10,11] :: [0,1,2,3,4,5,6,7,8,9,10,11,12] :: [0,1,2,3,4,5,6,7,8,9,10,11,12,13] :: [0,1,2,3,4,5,6,7,8,9,10,11,12,13,14] :: [0,1,2,3,4,5,6,7,8,9,10,11,12,13,14,15] :: [0,1,2,3,4,5,6,7,8,9,10,11,12,13,14,15,16] :: [0,1,2,3,4,5,6,7,8,9,10,11,12,13,14,15,16,17] :: [0,1,2,3,4,5,6,7,8,9,10,11,12,13,14,15,16,17,18] :: [0,1,2,3,4,5,6,7,8,9,10,11,12,13,14,15,16,17,18,19] :: [0,1,2,3,4,5,6,7,8,9,10,11,12,13,14,15,16,17,18,19,20] :: [0,1,2,3,4,5,6,7,8,9,10,11,12,13,14,15,16,17,18,19,20,21] :: [0,1,2,3,4,5,6,7,8,9,10,11,12,13,14,15,16,17,18,19,20,21,22] :: [0,1,2,3,4,5,6,7,8,9,10,11,12,13,14,15,16,17,18,19,20,21,22,23] :: [0,1,2,3,4,5,6,7,8,9,10,11,12,13,14,15,16,17,18,19,20,21,22,23,24] :: [0,1,2,3,4,5,6,7,8,9,10,11,12,13,14,15,16,17,18,19,20,21,22,23,24,25] :: [0,1,2,3,4,5,6,7,8,9,10,11,12,13,14,15,16,17,18,19,20,21,22,23,24,25,26] :: [0,1,2,3,4,5,6,7,8,9,10,11,12,13,14,15,16,17,18,19,20,21,22,23,24,25,26,27] :: [0,1,2,3,4,5,6,7,8,9,10,11,12,13,14,15,16,17,18,19,20,21,22,23,24,25,26,27] :: [0,1,2,3,4,5,6,7,8,9,10,11,12,13,14,15,16,17,18,19,20,21,22,23,24,25,26,27,28,29]::(0::1::2::3::4::5::6::7::8::9::10::11::12::13::14::15::16::17::18::19::20::21::22::23::24::25::26::27::28::29::30 :: [])::(0::1::2::3::4::5::6::7::8::9::10::11::12::13::14::15::16::17::18::19::20::21::22::23::24::25::26::27::28::29::30::31 :: [])::(0::1::2::3::4::5::6::7::8::9::10::11::12::13::14::15::16::17::18::19::20::21::22::23::24::25::26::27::28::29::30::31::32 :: [])::(0::1::2::3::4::5::6::7::8::9::10::11::12::13::14::15::16::17::18::19::20::21::22::23::24::25::26::27::28::29::30::31::32::33 :: [])::(0::1::2::3::4::5::6::7::8::9::10::11::12::13::14::15::16::17::18::19::20::21::22::23::24::25::26::27::28::29::30::31::32::33::34 :: [])::(0::1::2::3::4::5::6::7::8::9::10::11::12::13::14::15::16::17::18::19::20::21::22::23::24::25::26::27::28::29::30::31::32::33::34::35 :: [])::(0::1::2::3::4::5::6::7::8::9::10::11::12::13::14::15::16::17::18::19::20::21::22::23::24::25::26::27::28::29::30::31::32::33::34::35::36 :: [])::(0::1::2::3::4::5::6::7::8::9::10::11::12::13::14::15::16::17::18::19::20::21::22::23::24::25::26::27::28::29::30::31::32::33::34::35::36::37 :: [])::(0::1::2::3::4::5::6::7::8::9::10::11::12::13::14::15::16::17::18::19::20::21::22::23::24::25::26::27::28::29::30::31::32::33::34::35::36::37::38 :: [])::(0::1::2::3::4::5::6::7::8::9::10::11::12::13::14::15::16::17::18::19::20::21::22::23::24::25::26::27::28::29::30::31::32::33::34::35::36::37::38::39 :: [])::(0::1::2::3::4::5::6::7::8::9::10::11::12::13::14::15::16::17::18::19::20::21::22::23::24::25::26::27::28::29::30::31::32::33::34::35::36::37::38::39::40 :: [])::(0::1::2::3::4::5::6::7::8::9::10::11::12::13::14::15::16::17::18::19::20::21::22::23::24::25::26::27::28::29::30::31::32::33::34::35::36::37::38::39::40::41 :: [])::(0::1::2::3::4::5::6::7::8::9::10::11::12::13::14::15::16::17::18::19::20::21::22::23::24::25::26::27::28::29::30::31::32::33::34::35::36::37::38::39::40::41::42 :: [])::(0::1::2::3::4::5::6::7::8::9::10::11::12::13::14::15::16::17::18::19::20::21::22::23::24::25::26::27::28::29::30::31::32::33::34::35::36::37::38::39::40::41::42::43 :: [])::(0::1::2::3::4::5::6::7::8::9::10::11::12::13::14::15::16::17::18::19::20::21::22::23::24::25::26::27::28::29::30::31::32::33::34::35::36::37::38::39::40::41::42::43::44 :: [])::(0::1::2::3::4::5::6::7::8::9::10::11::12::13::14::15::16::17::18::19::20::21::22::23::24::25::26::27::28::29::30::31::32::33::34::35::36::37::38::39::40::41::42::43::44::45 :: [])::(0::1::2::3::4::5::6::7::8::9::10::11::12::13::14::15::16::17::18::19::20::21::22::23::24::25::26::27::28::29::30::31::32::33::34::35::36::37::38::39::40::41::42::43::44::45::46 :: [])::(0::1::2::3::4::5::6::7::8::9::10::11::12::13::14::15::16::17::18::19::20::21::22::23::24::25::26::27::28::29::30::31::32::33::34::35::36::37::38::39::40::41::42::43::44::45::46::47 :: [])::(0::1::2::3::4::5::6::7::8::9::10::11::12::13::14::15::16::17::18::19::20::21::22::23::24::25::26::27::28::29::30::31::32::33::34::35::36::37::38::39::40::41::42::43::44::45::46::47::48 :: [])::(0::1::2::3::4::5::6::7::8::9::10::11::12::13::14::15::16::17::18::19::20::21::22::23::24::25::26::27::28::29::30::31::32::33::34::35::36::37::38::39::40::41::42::43::44::45::46::47::48::49 :: [])::(0::1::2::3::4::5::6::7::8::9::10::11::12::13::14::15::16::17::18::19::20::21::22::23::24::25::26::27::28::29::30::31::32::33::34::35::36::37::38::39::40::41::42::43::44::45::46::47::48::49::50 :: [])::(0::1::2::3::4::5::6::7::8::9::10::11::12::13::14::15::16::17::18::19::20::21::22::23::24::25::26::27::28::29::30::31::32::33::34::35::36::37::38::39::40::41::42::43::44::45::46::47::48::49::50::51 :: [])::(0::1::2::3::4::5::6::7::8::9::10::11::12::13::14::15::16::17::18::19::20::21::22::23::24::25::26::27::28::29::30::31::32::33::34::35::36::37::38::39::40::41::42::43::44::45::46::47::48::49::50::51::52 :: [])::(0::1::2::3::4::5::6::7::8::9::10::11::12::13::14::15::16::17::18::19::20::21::22::23::24::25::26::27::28::29::30::31::32::33::34::35::36::37::38::39::40::41::42::43::44::45::46::47::48::49::50::51::52::53 :: [])::(0::1::2::3::4::5::6::7::8::9::10::11::12::13::14::15::16::17::18::19::20::21::22::23::24::25::26::27::28::29::30::31::32::33::34::35::36::37::38::39::40::41::42::43::44::45::46::47::48::49::50::51::52::53::54 :: [])::(0::1::2::3::4::5::6::7::8::9::10::11::12::13::14::15::16::17::18::19::20::21::22::23::24::25::26::27::28::29::30::31::32::33::34::35::36::37::38::39::40::41::42::43::44::45::46::47::48::49::50::51::52::53::54::55 :: [])::(0::1::2::3::4::5::6::7::8::9::10::11::12::13::14::15::16::17::18::19::20::21::22::23::24::25::26::27::28::29::30::31::32::33::34::35::36::37::38::39::40::41::42::43::44::45::46::47::48::49::50::51::52::53::54::55::56 :: [])::(0::1::2::3::4::5::6::7::8::9::10::11::12::13::14::15::16::17::18::19::20::21::22::23::24::25::26::27::28::29::30::31::32::33::34::35::36::37::38::39::40::41::42::43::44::45::46::47::48::49::50::51::52::53::54::55::56::57 :: [])::(0::1::2::3::4::5::6::7::8::9::10::11::12::13::14::15::16::17::18::19::20::21::22::23::24::25::26::27::28::29::30::31::32::33::34::35::36::37::38::39::40::41::42::43::44::45::46::47::48::49::50::51::52::53::54::55::56::57::58 :: [])::(0::1::2::3::4::5::6::7::8::9::10::11::12::13::14::15::16::17::18::19::20::21::22::23::24::25::26::27::28::29::30::31::32::33::34::35::36::37::38::39::40::41::42::43::44::45::46::47::48::49::50::51::52::53::54::55::56::57::58::59 :: [])::(0::1::2::3::4::5::6::7::8::9::10::11::12::13::14::15::16::17::18::19::20::21::22::23::24::25::26::27::28::29::30::31::32::33::34::35::36::37::38::39::40::41::42::43::44::45::46::47::48::49::50::51::52::53::54::55::56::57::58::59::60 :: []) :: []) (by kernel_rfl) (by kernel_rfl) rfl (by kernel_rfl) ⟨D5.st,acy.st,trivial⟩ ⟨fun wx hx=>Ob.o (O.move rfl kR),
   fun wx hx=>Ob.o (O.bf runUnderlying9 rfl rfl rfl kR),
   fun wx hx=>Ob.o (O.move rfl kR),
   fun wx hx=>Ob.o (O.move rfl kR),
   fun wx hx=>Ob.o (O.jk rfl rfl rfl kR),
   fun wx hx=>Ob.o (O.ah rfl rfl kR),
   fun wx hx=>Ob.o (O.move rfl kR),
   fun wx hx=>Ob.o (O.move rfl kR),
   fun wx hx=>Ob.o (O.buildSlice (el:=3) (parts:=[(0,.const (.int .i64 0)),(1,.const (.int .i64 1)),(2,.const (.int .i64 1))]) (vs:=[(0,_),(1,_),(2,_)]) (cs:=([0,1,1].map (Value.int .i64))) rfl (fun w=>by kernel_rfl) (fun b42 w42 amR amS ZN ale=>⟨ZN,Ints.aA ale rfl (by decide) (Nat.zero_le _)⟩)),
   fun wx hx v42 ahO=>Ob.o (O.call (xs:=[.tmp 41,.tmp 42]) call46 rfl rfl (rO 0 0 pv _ [0,1,1] [0,1,1] wx (af8.ext hx) ahO) (fun v wy h=>⟨h.2,h.1.trans (congrArg Value.bool (decide_eq_true rfl))⟩)),
   fun wx hx=>Ob.o (O.ah rfl rfl kR),
   fun wx hx=>Ob.o (O.move rfl kR),
   fun wx hx=>Ob.o (O.move rfl kR),
   fun wx hx=>Ob.o (O.jk rfl rfl rfl kR),
   fun wx hx=>Ob.o (O.ah rfl rfl kR),
   fun wx hx=>Ob.o (O.move rfl kR),
   fun wx hx=>Ob.o (O.move rfl kR),
   fun wx hx=>Ob.o (O.jk rfl rfl rfl kR),
   fun wx hx=>Ob.o (O.ah rfl rfl kR),
   fun wx hx=>Ob.o (O.move rfl kR),
   fun wx hx=>Ob.o (O.move rfl kR),
   fun wx hx=>Ob.o (O.bf runUnderlying9 rfl rfl rfl kR),
   fun wx hx=>Ob.o (O.ah rfl rfl kR),
   fun wx hx=>Ob.o (O.move rfl kR),
   fun wx hx=>Ob.o (O.move rfl kR),
   fun wx hx=>Ob.o (O.jk rfl rfl rfl kR),
   fun wx hx=>Ob.o (O.ah rfl rfl kR),
   fun wx hx=>Ob.o (O.move rfl kR),
   fun wx hx=>Ob.o (O.ak isAgg48 sizeOf48 rfl rfl (Row.aA (Blk.ext alc hx)) kR),
   fun wx hx=>Ob.o (O.call (xs:=[]) call20 rfl rfl (o7 wx) (fun v wy h=>(by obtain ⟨c,r,h1,h2,h3,h4,h5⟩:=h;exact ⟨h5,c,r,h1,h2.mono (Nat.zero_le _),h3.mono (Nat.zero_le _),h4⟩))),
   trivial⟩ (fun w5 he5 v42 ahO v63 alf=>?_)
 obtain ⟨c3,t3,rfl,hc3,ht3,hs3⟩:=alf
 refine L.o (O.call (xs:=[.tmp 62,.tmp 63]) call28 rfl rfl (MF _ 0 c2 c3 t2 t3 ZE w5 (hc31.ext he5) (ald.ext he5) hc3 ht3 hs2 hs3 hsm) (fun v64 w64 hq=>?_))
 obtain ⟨rfl,adv⟩:=hq
 refine L.o (O.ah rfl rfl (L.m rfl (L.m rfl (L.o (O.jk rfl rfl rfl (L.o (O.ah rfl rfl (L.m rfl (L.m rfl (L.o (O.jk rfl rfl rfl (?_))))))))))))
 have alg:=ahN.trans (he5.trans adv)
 refine L.o (O.ah rfl rfl (L.m rfl (L.o (O.buildSlice (el:=3) (parts:=[(0,.const (.int .i64 0)),(1,.const (.int .i64 1)),(2,.const (.int .i64 0))]) (vs:=[(0,_),(1,_),(2,_)]) (cs:=([0,1,0].map (Value.int .i64))) rfl (fun w=>by kernel_rfl) (fun b75 w75 amT ahG aae alh=>?_)))))
 have ahP:=alg.trans aae
 refine L.o (O.call (xs:=[_,.tmp 75]) call51 rfl rfl (TT 0 ([117,110,105,116,44,100,105,115,116,114,105,99,116,10,98,44,50,10,97,44,49,10,99,44,49,10]) _ [0,1,0] w75 (hL.ext ahP) (by decide) (Ints.aA alh rfl (by decide) (Nat.zero_le _)) ZG) (fun v76 w76 hq=>?_))
 obtain ⟨rfl,ali⟩:=hq
 have ahQ:=ahP.trans ali
 refine L.o (O.ah rfl rfl (L.m rfl (L.o (O.call (xs:=[_,.const (.int .i64 0),.const (.int .i64 4)]) call16 rfl rfl (rQ ([117,110,105,116,44,100,105,115,116,114,105,99,116,10,97,44,49,10,99,44,49,10]) 0 4 w76 (hL.ext ahQ) (by decide) WJ) (fun amU alj hq=>?_)))))
 obtain ⟨rfl,af9⟩:=hq
 have acz:=ahQ.trans af9
 refine L.o (O.ah rfl rfl (L.m rfl (L.o (O.call (xs:=[_,.const (.int .i64 2),.const (.int .i64 5)]) call16 rfl rfl (rQ ([117,110,105,116,44,100,105,115,116,114,105,99,116,10,97,44,57,10,98,44,50,10,99,44,49,10]) 2 5 alj (hL.ext acz) (by decide) WL) (fun amV alk hq=>?_)))))
 obtain ⟨rfl,aga⟩:=hq
 have acA:=acz.trans aga
 refine L.o (O.ah rfl rfl (L.m rfl (L.o (O.call (xs:=[_,.const (.int .i64 5),.const (.int .i64 5)]) call16 rfl rfl (rQ ([117,110,105,116,44,100,105,115,116,114,105,99,116,10,97,44,49,10,98,44,50,10,99,44,49,10,97,44,49,10]) 5 5 alk (hL.ext acA) (by decide) WM) (fun amW alm hq=>?_)))))
 obtain ⟨rfl,agb⟩:=hq
 have acB:=acA.trans agb
 refine L.o (O.ah rfl rfl (L.m rfl (L.o (O.o9 runUnderlying9 rfl rfl (by decide) (by decide) (L.o (O.call (xs:=[.tmp 88,.const (.int .i64 4),.const (.int .i64 5)]) call16 rfl rfl (rQ ([117,110,105,116,44,100,105,115,116,114,105,99,116,10,97,44,49,10,98,44,50,10,99,44,49]) 4 5 alm (hL.ext acB) (by decide) WO) (fun amX aln hq=>?_)))))))
 obtain ⟨rfl,agc⟩:=hq
 have acC:=acB.trans agc
 refine L.o (O.ah rfl rfl (L.m rfl (L.o (O.o9 runUnderlying9 rfl rfl (by decide) (by decide) (L.o (O.call (xs:=[.tmp 92,.const (.int .i64 0),.const (.int .i64 5)]) call17 rfl rfl (lZ (H8.take 61) 0 5 aln (hL.ext acC) (by decide) WQ) (fun amY amZ hq=>?_)))))))
 obtain ⟨rfl,agd⟩:=hq
 refine L.o (O.ah rfl rfl (L.a rfl (L.nil (T.aU results10 rfl ⟨rfl,acC.trans agd⟩))))
end Go.Proofs.YtnlonpcbgjbbaaaGreatDoor
