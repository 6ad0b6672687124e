/-
  BlocksBack, part 19 of its proof: that it returns true for every input, and each argument reads behind the call as it read before. Conditions: the listed variables read as the program's text lays them (tied by the card).
-/
import Derived.Test.YtnlonpcbgjbbaaaGreatDoorWBlocksBack18
import Derived.Test.YtnlonpcbgjbbaaaGreatDoorWBlocksBack13
set_option linter.unusedVariables false
set_option linter.unusedSimpArgs false
set_option maxRecDepth 20000
set_option linter.unusedVariables false
set_option linter.unusedSimpArgs false
set_option maxRecDepth 20000
namespace Go.Proofs.YtnlonpcbgjbbaaaGreatDoor
open Go.Proofs.Tryz (call11 call12 call13 call130 call131 call132 call14 call16 call17 call19 call20 call21 call28 call37 call46 call51 call74 func10 func11 func130 func132 func16 func17 func20 func28 func46 func51 func74 isAgg124 isAgg127 isAgg23 isAgg25 isAgg3 isAgg30 isAgg43 isAgg44 isAgg46 isAgg48 ntmps10 ntmps11 ntmps130 ntmps132 ntmps16 ntmps17 ntmps20 ntmps28 ntmps46 ntmps51 ntmps74 results10 results11 results130 results132 results16 results17 results20 results28 results46 results51 results74 runUnderlying125 runUnderlying23 runUnderlying237 runUnderlying25 runUnderlying30 runUnderlying31 runUnderlying43 runUnderlying44 runUnderlying46 runUnderlying48 runUnderlying9 sizeOf124 sizeOf127 sizeOf23 sizeOf25 sizeOf3 sizeOf30 sizeOf43 sizeOf44 sizeOf46 sizeOf48 zeroValue25 zeroValue48)
open Go Go.E RowKit
attribute [local irreducible] Go.E.T Go.E.L Go.E.O Go.E.Ob
attribute [local irreducible] Go.E.ObX Go.E.ObG Go.E.ObK
theorem O.ZN {C:Cx} {e:Env} {w:World} {K:Value→World→Prop} {d:Option Tmp} {ty:TypeId} {pos:String} {aft:Array Edge} {g:Option (Nat × Bool)} {x y:Operand} {p:Pt} (hP:C.P=Tryz.prog) (hx:ev e x=some (pV p)) (hy:ev e y=some (pV p)) (h:K (.bool false) w):O C e ⟨d,.binOp .neq 124 x y 124,ty,pos,aft,g⟩ w K :=
 O.of_run (by simp) (fun ac hq=>by
  rw [hP]
  have h1:=eqPt p p w
  unfold pV at hx hy h1
  simp only [execOp,hq.eval hx,hq.eval hy,Sem.run_bind,run_eqGuard_agg w _ _ _ _ _ _ AZ,Result.andThen_ok,run_neq_struct,h1,decide_true]
  rfl) h
def RiS (f:FaV) (v:Value) (W:World):Prop:=Sl 0 W v f.ri.length 1 (aJ f.ri)
theorem RiS.st {f:FaV} : ∀ v w w',Ext w w'→RiS f v w→RiS f v w':=fun _ _ _ k h=>Sl.ext h k
theorem TT {f g:FaV} (h:jK f=jK g):f.ri.length=g.ri.length∧∀ k,(f.ri.getD k r0).xs=(g.ri.getD k r0).xs:=by
 have h1:f.o.xs=g.o.xs:=congrArg Prod.fst h
 have h2:f.hs.map (·.xs)=g.hs.map (·.xs):=congrArg Prod.snd h
 have h3:f.ri.map (·.xs)=g.ri.map (·.xs):=by simp only [FaV.ri,List.map_cons,h1,h2]
 refine ⟨by simpa using congrArg List.length h3,fun k=>?_⟩
 have e1:=getD_map' (f:=fun x:RiV=>x.xs) (d:=r0) (e:=[]) rfl f.ri k
 have e2:=getD_map' (f:=fun x:RiV=>x.xs) (d:=r0) (e:=[]) rfl g.ri k
 rw [← e1,← e2,h3]
theorem OO (lo lo2:Nat) (p q:Value) (ps:List Pt) (w:World) (hp:Pts lo w p ps) (hq:Pts lo2 w q ps) :
  Calls Tryz.prog 130 #[p,q] w (Ret fun v w'=>v = .bool true∧Ext w w'):=by
 have hle:=Sl.le hp
 refine T.enter (vs:=[p,q]) func130 rfl ntmps130 rfl ?_
 refine T.q (L.a rfl (L.nil (T.seq (T.q (L.m rfl (L.o (O.len runUnderlying237 rfl (Sl.val hp) (L.m rfl (L.o (O.len runUnderlying237 rfl (Sl.val hq) (L.o (O.kZ rfl rfl (by omega) (L.nil (T.cf (T.skip (T.seq (T.q (L.a rfl (L.nil (T.block (?_)))))))))))))))))))))
 refine T.loop (σ:=Nat) (fun i=>[(0,p),(1,q),(5,.int .i64 i)]) (fun i w'=>i≤ps.length∧Ext w w') (fun i=>ps.length-i) (0) ⟨rfl,rfl,rfl,trivial⟩ ⟨Nat.zero_le _,Keep.refl _ _⟩ ?_
 rintro i w1 ⟨hi,he1⟩
 have hp1:=hp.ext he1
 have hq1:=hq.ext he1
 refine T.seq (T.q (L.m rfl (L.m rfl (L.o (O.len runUnderlying237 rfl (Sl.val hp1) (L.o (O.bF rfl rfl (fun hlt=>?_) (fun hlt=>?_))))))))
 ·refine L.nil (?_)
  have hlt':i<ps.length:=by omega
  refine T.ct (T.skip (T.seq (T.block (T.seq (?_)))))
  refine T.fJ mixed 8 [0,5,1] rfl [.is _,.is _,.is _,.is _,.is _,.is _,.is _,.is _] [[],[],[0,1],[2],[],[],[4,5],[6]] [[],[],[0,1],[0,1,2],[],[],[4,5],[4,5,6],[0,1,2,3,4,5,6,7]] (by kernel_rfl) (by kernel_rfl) rfl (by kernel_rfl) trivial ⟨fun wx hx=>Ob.o (O.move rfl kR),
    fun wx hx=>Ob.o (O.move rfl kR),
    fun wx hx=>Ob.o (O.indexAddr runUnderlying237 sizeOf124 rfl rfl (hp1.ext hx) (by omega) (by omega) kR),
    fun wx hx=>Ob.o (O.ak isAgg124 sizeOf124 rfl rfl ((hp1.ext hx).row hlt') kR),
    fun wx hx=>Ob.o (O.move rfl kR),
    fun wx hx=>Ob.o (O.move rfl kR),
    fun wx hx=>Ob.o (O.indexAddr runUnderlying237 sizeOf124 rfl rfl (hq1.ext hx) (by omega) (by omega) kR),
    fun wx hx=>Ob.o (O.ak isAgg124 sizeOf124 rfl rfl ((hq1.ext hx).row hlt') kR),
    trivial⟩ (fun w2 he2=>?_)
  refine L.o (O.ZN (p:=ps.getD i (0,0)) rfl rfl rfl (L.nil (T.cf (T.skip (T.blk (T.region (L.m rfl (L.o (O.aI rfl rfl (by omega) (L.a rfl (L.nil (T.again (i+1) (by omega) ⟨rfl,rfl,rfl,trivial⟩ ⟨hlt',he1.trans he2⟩))))))))))))
 refine L.nil (T.cf (T.exit rfl (T.q (L.a rfl (L.nil (T.aU results130 rfl ⟨rfl,he1⟩))))))
theorem Kt (lo lo2:Nat) (p q:Value) (xs ys:List Int) (w:World) (hp:Ints .i64 lo w p xs) (hq:Ints .i64 lo2 w q ys) (hxy:xs=ys) :
  Calls Tryz.prog 132 #[p,q] w (Ret fun v w'=>v = .bool true∧Ext w w'):=by
 subst hxy
 have hle:=Sl.le hp
 refine T.enter (vs:=[p,q]) func132 rfl ntmps132 rfl ?_
 refine T.q (L.a rfl (L.nil (T.seq (T.q (L.m rfl (L.o (O.len runUnderlying30 rfl (Sl.val hp) (L.m rfl (L.o (O.len runUnderlying30 rfl (Sl.val hq) (L.o (O.kZ rfl rfl (by omega) (L.nil (T.cf (T.skip (T.seq (T.q (L.a rfl (L.nil (T.block (?_)))))))))))))))))))))
 refine T.loop (σ:=Nat) (fun i=>[(0,p),(1,q),(5,.int .i64 i)]) (fun i w'=>i≤xs.length∧Ext w w') (fun i=>xs.length-i) (0) ⟨rfl,rfl,rfl,trivial⟩ ⟨Nat.zero_le _,Keep.refl _ _⟩ ?_
 rintro i w1 ⟨hi,he1⟩
 have hp1:=hp.ext he1
 have hq1:=hq.ext he1
 refine T.seq (T.q (L.m rfl (L.m rfl (L.o (O.len runUnderlying30 rfl (Sl.val hp1) (L.o (O.bF rfl rfl (fun hlt=>?_) (fun hlt=>?_))))))))
 ·refine L.nil (?_)
  have hlt':i<xs.length:=by omega
  refine T.ct (T.skip (T.seq (T.block (T.seq (?_)))))
  refine T.fJ mixed 8 [0,5,1] rfl [.is _,.is _,.is _,.is _,.is _,.is _,.is _,.is _] [[],[],[0,1],[2],[],[],[4,5],[6]] [[],[],[0,1],[0,1,2],[],[],[4,5],[4,5,6],[0,1,2,3,4,5,6,7]] (by kernel_rfl) (by kernel_rfl) rfl (by kernel_rfl) trivial ⟨fun wx hx=>Ob.o (O.move rfl kR),
    fun wx hx=>Ob.o (O.move rfl kR),
    fun wx hx=>Ob.o (O.indexAddr runUnderlying30 sizeOf3 rfl rfl (hp1.ext hx) (by omega) (by omega) kR),
    fun wx hx=>Ob.o (O.load isAgg3 rfl (Ints.at (hp1.ext hx) hlt') kR),
    fun wx hx=>Ob.o (O.move rfl kR),
    fun wx hx=>Ob.o (O.move rfl kR),
    fun wx hx=>Ob.o (O.indexAddr runUnderlying30 sizeOf3 rfl rfl (hq1.ext hx) (by omega) (by omega) kR),
    fun wx hx=>Ob.o (O.load isAgg3 rfl (Ints.at (hq1.ext hx) hlt') kR),
    trivial⟩ (fun w2 he2=>?_)
  refine L.o (O.kZ rfl rfl (by simp) (L.nil (T.cf (T.skip (T.blk (T.region (L.m rfl (L.o (O.aI rfl rfl (by omega) (L.a rfl (L.nil (T.again (i+1) (by omega) ⟨rfl,rfl,rfl,trivial⟩ ⟨hlt',he1.trans he2⟩))))))))))))
 refine L.nil (T.cf (T.exit rfl (T.q (L.a rfl (L.nil (T.aU results132 rfl ⟨rfl,he1⟩))))))
set_option maxHeartbeats 1000000 in
theorem OQ (lo lo2:Nat) (c c':CxV) (w:World) (hc:c.ok lo w) (hc':c'.ok lo2 w) (hps:c.ps=c'.ps) (hfs:c.fs.map jK=c'.fs.map jK) (hn:∀ f∈c.fs,f.hs.length≤100000) :
  Calls Tryz.prog 74 #[c.val,c'.val] w (Ret fun v w'=>v = .bool true∧Ext w w'):=by
 have hl:c.fs.length=c'.fs.length:=by simpa using congrArg List.length hfs
 have hfi:∀ i,i<c.fs.length→jK (c.fs.getD i f0)=jK (c'.fs.getD i f0):=fun i hi ↦ by
  have e1:=getD_map' (f:=jK) (d:=f0) (e:=jK f0) rfl c.fs i
  have e2:=getD_map' (f:=jK) (d:=f0) (e:=jK f0) rfl c'.fs i
  rw [← e1,← e2,hfs]
 have hn2:∀ f∈c'.fs,f.hs.length≤100000:=fun f hf ↦ by
  obtain ⟨i,hi,rfl⟩:=List.getElem_of_mem hf
  have h1:=hfi i (by omega)
  rw [au (show i<c'.fs.length from hi),au (show i<c.fs.length by omega)] at h1
  have h2:=congrArg (fun x=>(Prod.snd x).length) h1
  simp only [jK,List.length_map] at h2
  rw [← h2]
  exact hn _ (List.getElem_mem _)
 refine T.enter (vs:=[c.val,c'.val]) func74 rfl ntmps74 rfl ?_
 refine T.q (L.o (O.box rfl (fun b2 w2 hb2 hz2 he2 hB2=>?_)))
 refine L.o (O.box rfl (fun b3 w3 hb3 hz3 he3 hB3=>?_))
 have he:=he2.trans he3
 have hC1:Blk w3 b2 c.cells 46:=Blk.ext (cs:=c.cells) hB2 he3
 have hC2:Blk w3 b3 c'.cells 46:=hB3
 have hc3:=hc.ext he
 have agn:=hc'.ext he
 have hla:=Sl.le hc3.sl
 refine L.a rfl (L.nil (T.seq (T.q (L.o (O.fieldAddr runUnderlying46 rfl sizeOf43 rfl (L.o (O.load isAgg43 rfl (hC1.cell rfl) (L.o (O.fieldAddr runUnderlying46 rfl sizeOf43 rfl (L.o (O.load isAgg43 rfl (hC2.cell rfl) (L.o (O.call (xs:=[.tmp 10,.tmp 12]) call130 rfl rfl (OO lo lo2 c.pv c'.pv c.ps w3 hc3.p (by rw [hps];exact agn.p)) (fun v13 w13 hq=>?_))))))))))))))
 obtain ⟨rfl,dn⟩:=hq
 refine L.o (O.not rfl (L.m rfl (L.o (O.fieldAddr runUnderlying46 rfl sizeOf44 rfl (L.o (O.load isAgg44 rfl ((Blk.ext (cs:=c.cells) hC1 dn).cell rfl) (L.o (O.len runUnderlying44 rfl (Sl.val ((hc3.ext dn).sl)) (L.o (O.fieldAddr runUnderlying46 rfl sizeOf44 rfl (L.o (O.load isAgg44 rfl ((Blk.ext (cs:=c'.cells) hC2 dn).cell rfl) (L.o (O.len runUnderlying44 rfl (Sl.val ((agn.ext dn).sl)) (L.o (O.kZ rfl rfl (by omega) (L.o (O.aj rfl rfl (L.nil (T.cf (T.skip (T.seq (T.q (L.a rfl (L.nil (T.block (?_)))))))))))))))))))))))))))
 refine T.loop (σ:=Nat) (fun i=>[(2,.pointer (some ⟨b2,0,none⟩)),(3,.pointer (some ⟨b3,0,none⟩)),(5,.int .i64 i)]) (fun i w'=>i≤c.fs.length∧Ext w3 w') (fun i=>c.fs.length-i) (0) ⟨rfl,rfl,rfl,trivial⟩ ⟨Nat.zero_le _,dn⟩ ?_
 rintro i w14 ⟨hi,eX⟩
 have hD1:=Blk.ext (cs:=c.cells) hC1 eX
 have hD2:=Blk.ext (cs:=c'.cells) hC2 eX
 have acO:=hc3.ext eX
 have WX:=agn.ext eX
 refine T.seq (T.q (L.m rfl (L.o (O.fieldAddr runUnderlying46 rfl sizeOf44 rfl (L.o (O.load isAgg44 rfl (hD1.cell rfl) (L.o (O.len runUnderlying44 rfl (Sl.val acO.sl) (L.o (O.bF rfl rfl (fun hlt=>?_) (fun hlt=>?_)))))))))))
 ·refine L.nil (?_)
  have hlt':i<c.fs.length:=by omega
  have hfe:=TT (hfi i hlt')
  have hm1:c.fs.getD i f0∈c.fs:=by rw [au hlt'];exact List.getElem_mem hlt'
  have hm2:c'.fs.getD i f0∈c'.fs:=by rw [au (show i<c'.fs.length by omega)];exact List.getElem_mem _
  refine T.ct (T.skip (T.seq (T.block (T.seq (?_)))))
  refine T.fJ mixed 11 [2,5,3] rfl [.is _,.is _,.is _,.is _,.is _,.such (RiS (c.fs.getD i f0)),.is _,.is _,.is _,.is _,.is _] [[],[0],[],[1,2],[3],[4],[],[6],[],[7,8],[9]] [[],[0],[],[0,1,2],[0,1,2,3],[0,1,2,3,4],[],[6],[],[6,7,8],[6,7,8,9],[0,1,2,3,4,5,6,7,8,9,10],[0,1,2,3,4,5,6,7,8,9,10,11],[0,1,2,3,4,5,6,7,8,9,10,11,12]] (by kernel_rfl) (by kernel_rfl) rfl (by kernel_rfl) ⟨RiS.st,trivial⟩ ⟨fun wx hx=>Ob.o (O.fieldAddr runUnderlying46 rfl sizeOf44 rfl kR),
    fun wx hx=>Ob.o (O.load isAgg44 rfl ((Blk.ext (cs:=c.cells) hD1 hx).cell rfl) kR),
    fun wx hx=>Ob.o (O.move rfl kR),
    fun wx hx=>Ob.o (O.indexAddr runUnderlying44 sizeOf127 rfl rfl ((acO.ext hx).sl) (by omega) (by omega) kR),
    fun wx hx=>Ob.o (O.ak isAgg127 sizeOf127 rfl rfl ((acO.ext hx).row hlt') kR),
    fun wx hx=>Ob.o (O.call (xs:=[.tmp 35]) call131 rfl rfl (uX lo (c.fs.getD i f0) wx ((acO.ext hx).at hlt') (hn _ hm1)) (fun v wy h=>⟨h.1,Sl.mono h.2.1 (Nat.zero_le _)⟩)),
    fun wx hx=>Ob.o (O.fieldAddr runUnderlying46 rfl sizeOf44 rfl kR),
    fun wx hx=>Ob.o (O.load isAgg44 rfl ((Blk.ext (cs:=c'.cells) hD2 hx).cell rfl) kR),
    fun wx hx=>Ob.o (O.move rfl kR),
    fun wx hx=>Ob.o (O.indexAddr runUnderlying44 sizeOf127 rfl rfl ((WX.ext hx).sl) (by omega) (by omega) kR),
    fun wx hx=>Ob.o (O.ak isAgg127 sizeOf127 rfl rfl ((WX.ext hx).row (by omega)) kR),
    trivial⟩ (fun w6 he6 v36 aly=>?_)
  refine L.o (O.call (xs:=[.tmp 41]) call131 rfl rfl (uX lo2 (c'.fs.getD i f0) w6 ((WX.ext he6).at (by omega)) (hn2 _ hm2)) (fun v42 w42 hq=>?_))
  obtain ⟨aac,alz,_⟩:=hq
  have hR1:RiS (c.fs.getD i f0) v36 w42:=RiS.st _ _ _ aac aly
  have hR2:RiS (c'.fs.getD i f0) v42 w42:=Sl.mono alz (Nat.zero_le _)
  have ZO:=he6.trans aac
  obtain ⟨oa,ca,rfl,_,hca⟩:=Sl.val hR1
  obtain ⟨ob,cb,rfl,_,hcb⟩:=Sl.val hR2
  refine L.a rfl (L.a rfl (L.nil (T.seq (T.q (L.m rfl (L.o (O.len runUnderlying125 rfl (Sl.val hR1) (L.m rfl (L.o (O.len runUnderlying125 rfl (Sl.val hR2) (L.o (O.kZ rfl rfl (by have:=hfe.1;omega) (L.nil (T.cf (T.skip (T.q (L.a rfl (L.nil (T.block (?_))))))))))))))))))))
  refine T.loop (σ:=Nat) (fun k=>[(2,.pointer (some ⟨b2,0,none⟩)),(3,.pointer (some ⟨b3,0,none⟩)),(5,.int .i64 i),(6,.slice oa (c.fs.getD i f0).ri.length ca),(7,.slice ob (c'.fs.getD i f0).ri.length cb),(8,.int .i64 k)]) (fun k w'=>k≤(c.fs.getD i f0).ri.length∧Ext w42 w') (fun k=>(c.fs.getD i f0).ri.length-k) (0) ⟨rfl,rfl,rfl,rfl,rfl,rfl,trivial⟩ ⟨Nat.zero_le _,Keep.refl _ _⟩ ?_
  rintro k w15 ⟨hk,jq⟩
  have hS1:Sl 0 w15 (.slice oa (c.fs.getD i f0).ri.length ca) (c.fs.getD i f0).ri.length 1 (aJ (c.fs.getD i f0).ri):=Sl.ext hR1 jq
  have hS2:Sl 0 w15 (.slice ob (c'.fs.getD i f0).ri.length cb) (c'.fs.getD i f0).ri.length 1 (aJ (c'.fs.getD i f0).ri):=Sl.ext hR2 jq
  have ano:=Sl.le hS1
  refine T.seq (T.q (L.m rfl (L.m rfl (L.o (O.len runUnderlying125 rfl (Sl.val hS1) (L.o (O.bF rfl rfl (fun hkl=>?_) (fun hkl=>?_))))))))
  ·refine L.nil (?_)
   have hk1:k<(c.fs.getD i f0).ri.length:=by omega
   have hk2:k<(c'.fs.getD i f0).ri.length:=by omega
   have hO1:=((acO.ext (ZO.trans jq)).at hlt').ri _ (show (c.fs.getD i f0).ri.getD k r0∈_ by rw [au hk1];exact List.getElem_mem hk1)
   have hO2:=((WX.ext (ZO.trans jq)).at (show i<c'.fs.length by omega)).ri _ (show (c'.fs.getD i f0).ri.getD k r0∈_ by rw [au hk2];exact List.getElem_mem hk2)
   refine T.ct (T.skip (T.seq (T.block (T.seq (?_)))))
   refine T.fJ mixed 8 [6,8,7] rfl [.is _,.is _,.is _,.is _,.is _,.is _,.is _,.is _] [[],[],[0,1],[2],[],[],[4,5],[6]] [[],[],[0,1],[0,1,2],[],[],[4,5],[4,5,6],[0,1,2,3,4,5,6,7],[0,1,2,3,4,5,6,7,8]] (by kernel_rfl) (by kernel_rfl) rfl (by kernel_rfl) trivial ⟨fun wx hx=>Ob.o (O.move rfl kR),
     fun wx hx=>Ob.o (O.move rfl kR),
     fun wx hx=>Ob.o (O.indexAddr runUnderlying125 sizeOf30 rfl rfl (Sl.ext hS1 hx) (by omega) (by omega) kR),
     fun wx hx=>Ob.o (O.load isAgg30 rfl (Sl.at1 (Sl.ext hS1 hx) (FP hk1)) kR),
     fun wx hx=>Ob.o (O.move rfl kR),
     fun wx hx=>Ob.o (O.move rfl kR),
     fun wx hx=>Ob.o (O.indexAddr runUnderlying125 sizeOf30 rfl rfl (Sl.ext hS2 hx) (by omega) (by omega) kR),
     fun wx hx=>Ob.o (O.load isAgg30 rfl (Sl.at1 (Sl.ext hS2 hx) (FP hk2)) kR),
     trivial⟩ (fun w12 fQ=>?_)
   refine L.o (O.call (xs:=[.tmp 57,.tmp 61]) call132 rfl rfl (Kt lo lo2 _ _ _ _ w12 (hO1.ext fQ) (hO2.ext fQ) (hfe.2 k)) (fun v62 w62 hq=>?_))
   obtain ⟨rfl,Ee⟩:=hq
   refine L.o (O.not rfl (L.nil (T.cf (T.skip (T.blk (T.region (L.m rfl (L.o (O.aI rfl rfl (by omega) (L.a rfl (L.nil (T.again (k+1) (by omega) ⟨rfl,rfl,rfl,rfl,rfl,rfl,trivial⟩ ⟨hk1,jq.trans (fQ.trans Ee)⟩))))))))))))
  refine L.nil (T.cf (T.exit rfl (T.blk (T.region (L.m rfl (L.o (O.aI rfl rfl (by omega) (L.a rfl (L.nil (T.again (i+1) (by omega) ⟨rfl,rfl,rfl,trivial⟩ ⟨hlt',eX.trans (ZO.trans jq)⟩))))))))))
 refine L.nil (T.cf (T.exit rfl (T.q (L.a rfl (L.nil (T.aU results74 rfl ⟨rfl,he.trans eX⟩))))))
open Go Go.E RowKit
def Et (r:RoV):Bool:=(zZ r).all id && (List.range r.us.length).all fun j=>bU r (r.us.getD j u0) && ((List.range j).all fun k=>!decide ((r.us.getD k u0).nm=(r.us.getD j u0).nm) && (!(r.us.getD k u0).wt || (r.us.getD j u0).wt)) && (!decide (j=0) || !(r.us.getD j u0).wt)
theorem iV (r:RoV):Et r=true↔bG r:=by
 unfold Et
 rw [Bool.and_eq_true]
 constructor
 ·rintro ⟨h1,h2⟩
  refine ⟨h1,fun j hj=>?_⟩
  have:=List.all_eq_true.1 h2 j (List.mem_range.2 hj)
  simp only [Bool.and_eq_true,List.all_eq_true,List.mem_range,Bool.or_eq_true,Bool.not_eq_true',decide_eq_false_iff_not] at this
  obtain ⟨⟨a,b⟩,c⟩:=this
  exact ⟨a,fun k hk=>(b k hk).1,fun k hk hw=>(b k hk).2.resolve_left (by rw [hw];decide),fun h0=>c.resolve_left (fun h=>h h0)⟩
 rintro ⟨h1,h2⟩
 refine ⟨h1,List.all_eq_true.2 fun j hj=>?_⟩
 obtain ⟨a,b,c,d⟩:=h2 j (List.mem_range.1 hj)
 simp only [Bool.and_eq_true,List.all_eq_true,List.mem_range,Bool.or_eq_true,Bool.not_eq_true',decide_eq_false_iff_not]
 refine ⟨⟨a,fun k hk=>⟨b k hk,?_⟩⟩,?_⟩
 ·cases hw:(r.us.getD k u0).wt
  ·exact .inl rfl
  exact .inr (c k hk hw)
 by_cases h0:j=0
 ·exact .inr (d h0)
 exact .inl h0
theorem OT (r:RoV):fG r=if Et r then 0 else 161:=by
 cases h:Et r
 ·exact dA (fun hk=>by rw [(iV r).2 hk] at h;cases h)
 exact eu ((iV r).1 h)
theorem zF (us:List UnV):nmA (us.map kV)=nmA us:=by
 funext i
 unfold nmA
 rw [zB];rfl
theorem jQ:∀ us:List UnV,aN (us.map kV)=aN us
 | []=>rfl
 | u::r=>by
  simp only [List.map_cons,aN]
  rw [jQ r];rfl
def Ar (r:RoV) (t:Str):List Int × Nat × Int:=if Et r then vC (nmA r.us) (aN r.us) t else ([],0,161)
theorem oO (r:RoV) (t:Str):cZ r t=Ar (stripR r) t:=by
 by_cases h:bG r
 ·rw [kP h,Ar,(iV _).2 ((dS r).2 h),if_pos rfl]
  show _=vC (nmA (r.us.map kV)) (aN (r.us.map kV)) t
  rw [zF,jQ]
 rw [yS h,Ar,if_neg (fun k=>h ((dS r).1 ((iV _).1 k)))]
def WY (r:RoV) (xs:List Int) (t:Str):List Int × Nat × Int:=if Et r then (if ng xs (aN r.us)=true then cO (nmA r.us) xs t else ([],0,2)) else ([],0,161)
theorem BR (r:RoV) (xs:List Int) (t:Str):jE r xs t=WY (stripR r) xs t:=by
 by_cases h:bG r
 ·rw [tY h,WY,(iV _).2 ((dS r).2 h),if_pos rfl]
  show _=if ng xs (aN (r.us.map kV))=true then cO (nmA (r.us.map kV)) xs t else _
  rw [zF,jQ]
 rw [yR h,WY,if_neg (fun k=>h ((dS r).1 ((iV _).1 k)))]
def adW (s:PS):Int:=if cu s.cx then 150 else if Et s.ro then (if s.ro.us.length≠s.cx.fs.length then 160 else 0) else 161
theorem TU (s:PS):TG s=adW s:=by
 unfold TG adW dN
 rw [OT]
 cases cu s.cx <;> cases Et s.ro <;> rfl
def BU (t:Str):PS ⊕ (Int × Int) :=
 if 40000<t.length then .inr (0,3) else match sD (fun s l=>jJ s (bH [] l)) PS0 (aS 10 t) 1 with
 | .inr n=>.inr ((n:Int),5)
 | .inl s=>if s.last=fA then (if adW s=0 then .inl s else .inr (0,adW s)) else .inr (0,5)
theorem zG (t:Str):iU t=BU t:=by
 have e:iw=fun s l=>jJ s (bH [] l):=by funext s l;exact MH s l
 unfold iU BU
 rw [e]
 simp only [TU]
 rfl
def uH:RoV:=⟨1,2,1,undef,[⟨[97],10,.slice none 0 0,[4],.slice none 0 0,[3,5],.slice none 0 0,[7],false⟩,⟨[98],20,.slice none 0 0,[0],.slice none 0 0,[9,1],.slice none 0 0,[2],false⟩,⟨[99],5,.slice none 0 0,[5],.slice none 0 0,[0,0],.slice none 0 0,[7],false⟩,⟨[119],0,.slice none 0 0,[0],.slice none 0 0,[0,0],.slice none 0 0,[0],true⟩]⟩
def uK (nm:Str) (pp:Int) (bg bv bp:Nat) (gs vs ps:List Int) (wt:Bool):UnV:=⟨nm,pp,.slice (some ⟨bg,0,none⟩) gs.length gs.length,gs,.slice (some ⟨bv,0,none⟩) vs.length vs.length,vs,.slice (some ⟨bp,0,none⟩) ps.length ps.length,ps,wt⟩
theorem WZ {lo:Nat} {w:World} {nm:Str} {pp:Int} {bg bv bp:Nat} {gs vs ps:List Int} {wt:Bool} (hn:nm.length≤9223372036854775807) (hg:Blk w bg (gs.map (.int .i64)) 3) (hv:Blk w bv (vs.map (.int .i64)) 3) (hp:Blk w bp (ps.map (.int .i64)) 3) (lg:lo≤bg) (lv:lo≤bv) (lp:lo≤bp) (mg:gs.length≤maxLen) (mv:vs.length≤maxLen) (mp:ps.length≤maxLen):(uK nm pp bg bv bp gs vs ps wt).ok lo w :=
 ⟨Ints.ay hg rfl mg lg,Ints.ay hv rfl mv lv,Ints.ay hp rfl mp lp,hn⟩
theorem TV (r:RoV) (h:r.uv.oneCell'=true):∀ c∈r.cells,c.oneCell'=true:=fun c hc=>by
 simp only [RoV.cells,List.mem_cons,List.not_mem_nil,or_false] at hc
 rcases hc with rfl|rfl|rfl|rfl
 ·rfl
 ·rfl
 ·rfl
 exact h
def ZP:PS:=⟨[(0,0),(4,0),(0,4)],[([0,1,2],[])],0,0,0,[⟨[97],3,[],[],[],false⟩],fA⟩
def acP (b:Nat):FaV:=⟨⟨.slice (some ⟨b,0,none⟩) 3 3,[0,1,2]⟩,.slice none 0 0,[]⟩
def aaw (b4 b5 b7:Nat):CxV:=⟨.slice (some ⟨b4,0,none⟩) 3 3,[(0,0),(4,0),(0,4)],.slice (some ⟨b7,0,none⟩) 1 1,[acP b5]⟩
def acQ:UnV:=⟨[97],3,.slice none 0 0,[],.slice none 0 0,[],.slice none 0 0,[],false⟩
def aax (b10:Nat):RoV:=⟨0,0,0,.slice (some ⟨b10,0,none⟩) 1 1,[acQ]⟩
theorem TW {lo b4 b5 b7:Nat} {w:World} (h4:Blk w b4 (pcs [(0,0),(4,0),(0,4)]) 124) (h5:Blk w b5 ([0,1,2].map (Value.int .i64)) 3) (h7:Blk w b7 (bP [acP b5]) 127) (l4:lo≤b4) (l5:lo≤b5) (l7:lo≤b7):(aaw b4 b5 b7).ok lo w:=by
 refine ⟨Sl.ay (n:=3) (sz:=2) h4 rfl (Nat.le_refl _) (by decide) l4,Sl.ay (n:=1) (sz:=2) h7 rfl (Nat.le_refl _) (by decide) l7,fun f hf=>?_⟩
 rw [List.mem_singleton.1 hf]
 exact ⟨Ints.ay h5 rfl (by decide) l5,Sl.nil _ _ _,fun h hh=>by cases hh⟩
theorem TY {lo b10:Nat} {w:World} (h:Blk w b10 (fF [acQ]) 51) (l:lo≤b10):(aax b10).ok lo w:=by
 refine ⟨Sl.ay (n:=1) (sz:=6) h rfl (Nat.le_refl _) (by decide) l,fun u hu=>?_⟩
 rw [List.mem_singleton.1 hu]
 exact ⟨Sl.nil _ _ _,Sl.nil _ _ _,Sl.nil _ _ _,by decide⟩
theorem zH (w:World) :
  Calls Tryz.prog 20 #[] w (Ret fun v w'=>∃ b4 b5 b7 b10,v = .agg (eY (aaw b4 b5 b7) (aax b10)).toArray∧(w.heap.size≤b4∧w.heap.size≤b5∧w.heap.size≤b7∧w.heap.size≤b10)∧Blk w' b4 (pcs [(0,0),(4,0),(0,4)]) 124∧Blk w' b5 ([0,1,2].map (Value.int .i64)) 3∧Blk w' b7 (bP [acP b5]) 127∧Blk w' b10 (fF [acQ]) 51∧Ext w w'):=by
 refine T.enter (vs:=[]) func20 rfl ntmps20 rfl ?_
 refine T.q (L.o (O.alloc zeroValue48 (fun b0 w0 hb0 hz0 he0 hB0=>?_)))
 refine L.nil (T.q (L.o (O.build (v:=(pV (0,0))) (parts:=[]) (vs:=[]) rfl (fun w=>by kernel_rfl) (L.o (O.build (v:=(pV (4,0))) (parts:=[(0,.const (.int .i64 4))]) (vs:=[(0,_)]) rfl (fun w=>by kernel_rfl) (L.o (O.build (v:=(pV (0,4))) (parts:=[(1,.const (.int .i64 4))]) (vs:=[(1,_)]) rfl (fun w=>by kernel_rfl) (L.o (O.buildSlice (el:=124) (parts:=[(0,.tmp 1),(1,.tmp 2),(2,.tmp 3)]) (vs:=[(0,_),(1,_),(2,_)]) (cs:=(pcs [(0,0),(4,0),(0,4)])) rfl (fun w=>by kernel_rfl) (fun b4 w4 hb4 hz4 he4 hB4=>?_))))))))))
 refine L.o (O.buildSlice (el:=3) (parts:=[(0,.const (.int .i64 0)),(1,.const (.int .i64 1)),(2,.const (.int .i64 2))]) (vs:=[(0,_),(1,_),(2,_)]) (cs:=([0,1,2].map (Value.int .i64))) rfl (fun w=>by kernel_rfl) (fun b5 w5 hb5 hz5 he5 hB5=>?_))
 refine L.o (O.build (v:=(acP b5).val) (parts:=[(0,.tmp 5)]) (vs:=[(0,_)]) rfl (fun w=>by kernel_rfl) (L.o (O.buildSlice (el:=127) (parts:=[(0,.tmp 6)]) (vs:=[(0,_)]) (cs:=(bP [acP b5])) rfl (fun w=>by kernel_rfl) (fun b7 w7 hb7 hz7 he7 hB7=>?_))))
 refine L.o (O.build (v:=(aaw b4 b5 b7).val) (parts:=[(0,.tmp 4),(1,.tmp 7)]) (vs:=[(0,_),(1,_)]) rfl (fun w=>by kernel_rfl) (L.o (O.build (v:=acQ.val) (parts:=[(0,_),(1,.const (.int .i64 3))]) (vs:=[(0,_),(1,_)]) rfl (fun w=>by kernel_rfl) (L.o (O.buildSlice (el:=51) (parts:=[(0,.tmp 9)]) (vs:=[(0,_)]) (cs:=(fF [acQ])) rfl (fun w=>by kernel_rfl) (fun b10 w10 aep Z9 gI Ii=>?_))))))
 refine L.o (O.build (v:=(aax b10).val) (parts:=[(3,.tmp 10)]) (vs:=[(3,_)]) rfl (fun w=>by kernel_rfl) (L.o (O.build (v:=.agg (eY (aaw b4 b5 b7) (aax b10)).toArray) (parts:=[(0,.tmp 8),(1,.tmp 11)]) (vs:=[(0,_),(1,_)]) rfl (fun w=>by kernel_rfl) (?_))))
 have hE0:Ext w0 w10:=((he4.trans he5).trans he7).trans gI
 have h4:=Blk.ext hB4 ((he5.trans he7).trans gI)
 have h5:=Blk.ext hB5 (he7.trans gI)
 have h7:=Blk.ext hB7 gI
 have l5:=he4.size
 have l7:=(he4.trans he5).size
 have l10:=((he4.trans he5).trans he7).size
 have hc:(aaw b4 b5 b7).ok w0.heap.size w10:=TW h4 h5 h7 (by omega) (by omega) (by omega)
 have hr:(aax b10).ok w0.heap.size w10:=TY Ii (by omega)
 refine L.o (O.aC sizeOf48 rfl rfl rfl (Blk.ext hB0 hE0) (Nat.le_refl _) (nN hc hr) (fun w18 xZ uT=>?_))
 replace xZ:Upd b0 w10 w18:=xZ
 have agp:Blk w18 b0 (eY (aaw b4 b5 b7) (aax b10)) 48:=uT
 refine L.nil (T.retA results20 isAgg48 sizeOf48 rfl rfl (Row.ay agp) ⟨b4,b5,b7,b10,rfl,⟨by omega,by omega,by omega,by omega⟩,Blk.upd h4 xZ (by omega),Blk.upd h5 xZ (by omega),Blk.upd h7 xZ (by omega),Blk.upd Ii xZ (by omega),(he0.trans hE0).upd xZ (.inr (by omega))⟩)
theorem o7 (w:World):Calls Tryz.prog 20 #[] w (Ret fun v w'=>∃ c r,v = .agg (eY c r).toArray∧c.ok w.heap.size w'∧r.ok w.heap.size w'∧Says c r ZP∧Ext w w'):=by
 refine (zH w).mono ?_
 rintro (v|_|_) w' h
 ·obtain ⟨b4,b5,b7,b10,h1,⟨l4,l5,l7,l10⟩,h4,h5,h7,h10,he⟩:=h
  exact ⟨_,_,h1,TW h4 h5 h7 l4 l5 l7,TY h10 l10,⟨rfl,rfl,rfl,rfl,rfl,rfl⟩,he⟩
 ·exact h
 exact h
set_option maxHeartbeats 1000000 in
theorem oP (w:World) :
  Calls Tryz.prog 11 #[] w (Ret fun v w'=>∃ r:RoV,v=r.val∧r.ok w.heap.size w'∧stripR r=uH∧Ext w w'):=by
 refine T.enter (vs:=[]) func11 rfl ntmps11 rfl ?_
 refine T.q (L.o (O.alloc zeroValue25 (fun b0 w0 hb0 hz0 he0 hB0=>?_)))
 refine L.nil (T.q (L.o (O.buildSlice (el:=3) (parts:=[(0,.const (.int .i64 4))]) (vs:=[(0,_)]) (cs:=([4].map (Value.int .i64))) rfl (fun w=>by kernel_rfl) (fun b1 w1 hb1 hz1 he1 hB1=>?_))))
 refine L.o (O.buildSlice (el:=3) (parts:=[(0,.const (.int .i64 3)),(1,.const (.int .i64 5))]) (vs:=[(0,_),(1,_)]) (cs:=([3,5].map (Value.int .i64))) rfl (fun w=>by kernel_rfl) (fun b2 w2 hb2 hz2 he2 hB2=>?_))
 refine L.o (O.buildSlice (el:=3) (parts:=[(0,.const (.int .i64 7))]) (vs:=[(0,_)]) (cs:=([7].map (Value.int .i64))) rfl (fun w=>by kernel_rfl) (fun b3 w3 hb3 hz3 he3 hB3=>?_))
 refine L.o (O.build (v:=(uK [97] 10 b1 b2 b3 [4] [3,5] [7] false).val) (parts:=[(0,_),(1,.const (.int .i64 10)),(2,.tmp 1),(3,.tmp 2),(4,.tmp 3)]) (vs:=[(0,_),(1,_),(2,_),(3,_),(4,_)]) rfl (fun w=>by kernel_rfl) (L.o (O.buildSlice (el:=3) (parts:=[(0,.const (.int .i64 0))]) (vs:=[(0,_)]) (cs:=([0].map (Value.int .i64))) rfl (fun w=>by kernel_rfl) (fun b5 w5 hb5 hz5 he5 hB5=>?_))))
 refine L.o (O.buildSlice (el:=3) (parts:=[(0,.const (.int .i64 9)),(1,.const (.int .i64 1))]) (vs:=[(0,_),(1,_)]) (cs:=([9,1].map (Value.int .i64))) rfl (fun w=>by kernel_rfl) (fun b6 w6 hb6 hz6 he6 hB6=>?_))
 refine L.o (O.buildSlice (el:=3) (parts:=[(0,.const (.int .i64 2))]) (vs:=[(0,_)]) (cs:=([2].map (Value.int .i64))) rfl (fun w=>by kernel_rfl) (fun b7 w7 hb7 hz7 he7 hB7=>?_))
 refine L.o (O.build (v:=(uK [98] 20 b5 b6 b7 [0] [9,1] [2] false).val) (parts:=[(0,_),(1,.const (.int .i64 20)),(2,.tmp 5),(3,.tmp 6),(4,.tmp 7)]) (vs:=[(0,_),(1,_),(2,_),(3,_),(4,_)]) rfl (fun w=>by kernel_rfl) (L.o (O.buildSlice (el:=3) (parts:=[(0,.const (.int .i64 5))]) (vs:=[(0,_)]) (cs:=([5].map (Value.int .i64))) rfl (fun w=>by kernel_rfl) (fun b9 w9 hb9 hz9 he9 hB9=>?_))))
 refine L.o (O.buildSlice (el:=3) (parts:=[(0,.const (.int .i64 0)),(1,.const (.int .i64 0))]) (vs:=[(0,_),(1,_)]) (cs:=([0,0].map (Value.int .i64))) rfl (fun w=>by kernel_rfl) (fun b10 w10 aep Z9 gI Ii=>?_))
 refine L.o (O.buildSlice (el:=3) (parts:=[(0,.const (.int .i64 7))]) (vs:=[(0,_)]) (cs:=([7].map (Value.int .i64))) rfl (fun w=>by kernel_rfl) (fun b11 w11 adK Xw eH oV=>?_))
 refine L.o (O.build (v:=(uK [99] 5 b9 b10 b11 [5] [0,0] [7] false).val) (parts:=[(0,_),(1,.const (.int .i64 5)),(2,.tmp 9),(3,.tmp 10),(4,.tmp 11)]) (vs:=[(0,_),(1,_),(2,_),(3,_),(4,_)]) rfl (fun w=>by kernel_rfl) (L.o (O.buildSlice (el:=3) (parts:=[(0,.const (.int .i64 0))]) (vs:=[(0,_)]) (cs:=([0].map (Value.int .i64))) rfl (fun w=>by kernel_rfl) (fun b13 w13 adz U8 dn xQ=>?_))))
 refine L.o (O.buildSlice (el:=3) (parts:=[(0,.const (.int .i64 0)),(1,.const (.int .i64 0))]) (vs:=[(0,_),(1,_)]) (cs:=([0,0].map (Value.int .i64))) rfl (fun w=>by kernel_rfl) (fun b14 w14 anp aey eX Vb=>?_))
 refine L.o (O.buildSlice (el:=3) (parts:=[(0,.const (.int .i64 0))]) (vs:=[(0,_)]) (cs:=([0].map (Value.int .i64))) rfl (fun w=>by kernel_rfl) (fun b15 w15 ajQ aah jq Dl=>?_))
 refine L.o (O.build (v:=(uK [119] 0 b13 b14 b15 [0] [0,0] [0] true).val) (parts:=[(0,_),(2,.tmp 13),(3,.tmp 14),(4,.tmp 15),(5,.const (.bool true))]) (vs:=[(0,_),(2,_),(3,_),(4,_),(5,_)]) rfl (fun w=>by kernel_rfl) (L.o (O.buildSlice (el:=51) (parts:=[(0,.tmp 4),(1,.tmp 8),(2,.tmp 12),(3,.tmp 16)]) (vs:=[(0,_),(1,_),(2,_),(3,_)]) (cs:=(fF [uK [97] 10 b1 b2 b3 [4] [3,5] [7] false,uK [98] 20 b5 b6 b7 [0] [9,1] [2] false,uK [99] 5 b9 b10 b11 [5] [0,0] [7] false,uK [119] 0 b13 b14 b15 [0] [0,0] [0] true])) rfl (fun w=>by kernel_rfl) (fun b17 w17 anq aeG Ku FK=>?_))))
 have alA:Blk w17 b1 ([4].map (Value.int .i64)) 3:=Blk.ext hB1 ((((((((((((he2).trans he3).trans he5).trans he6).trans he7).trans he9).trans gI).trans eH).trans dn).trans eX).trans jq).trans Ku)
 have alB:Blk w17 b2 ([3,5].map (Value.int .i64)) 3:=Blk.ext hB2 (((((((((((he3).trans he5).trans he6).trans he7).trans he9).trans gI).trans eH).trans dn).trans eX).trans jq).trans Ku)
 have alC:Blk w17 b3 ([7].map (Value.int .i64)) 3:=Blk.ext hB3 ((((((((((he5).trans he6).trans he7).trans he9).trans gI).trans eH).trans dn).trans eX).trans jq).trans Ku)
 have alD:Blk w17 b5 ([0].map (Value.int .i64)) 3:=Blk.ext hB5 (((((((((he6).trans he7).trans he9).trans gI).trans eH).trans dn).trans eX).trans jq).trans Ku)
 have alE:Blk w17 b6 ([9,1].map (Value.int .i64)) 3:=Blk.ext hB6 ((((((((he7).trans he9).trans gI).trans eH).trans dn).trans eX).trans jq).trans Ku)
 have alF:Blk w17 b7 ([2].map (Value.int .i64)) 3:=Blk.ext hB7 (((((((he9).trans gI).trans eH).trans dn).trans eX).trans jq).trans Ku)
 have alG:Blk w17 b9 ([5].map (Value.int .i64)) 3:=Blk.ext hB9 ((((((gI).trans eH).trans dn).trans eX).trans jq).trans Ku)
 have agq:Blk w17 b10 ([0,0].map (Value.int .i64)) 3:=Blk.ext Ii (((((eH).trans dn).trans eX).trans jq).trans Ku)
 have agr:Blk w17 b11 ([7].map (Value.int .i64)) 3:=Blk.ext oV ((((dn).trans eX).trans jq).trans Ku)
 have ags:Blk w17 b13 ([0].map (Value.int .i64)) 3:=Blk.ext xQ (((eX).trans jq).trans Ku)
 have agt:Blk w17 b14 ([0,0].map (Value.int .i64)) 3:=Blk.ext Vb ((jq).trans Ku)
 have agu:Blk w17 b15 ([0].map (Value.int .i64)) 3:=Blk.ext Dl (Ku)
 have alH:w0.heap.size≤b1:=by omega
 have alI:w0.heap.size≤b2:=by have:=(he1).size;omega
 have alJ:w0.heap.size≤b3:=by have:=((he1).trans he2).size;omega
 have alK:w0.heap.size≤b5:=by have:=(((he1).trans he2).trans he3).size;omega
 have alL:w0.heap.size≤b6:=by have:=((((he1).trans he2).trans he3).trans he5).size;omega
 have alM:w0.heap.size≤b7:=by have:=(((((he1).trans he2).trans he3).trans he5).trans he6).size;omega
 have alN:w0.heap.size≤b9:=by have:=((((((he1).trans he2).trans he3).trans he5).trans he6).trans he7).size;omega
 have agv:w0.heap.size≤b10:=by have:=(((((((he1).trans he2).trans he3).trans he5).trans he6).trans he7).trans he9).size;omega
 have agw:w0.heap.size≤b11:=by have:=((((((((he1).trans he2).trans he3).trans he5).trans he6).trans he7).trans he9).trans gI).size;omega
 have agx:w0.heap.size≤b13:=by have:=(((((((((he1).trans he2).trans he3).trans he5).trans he6).trans he7).trans he9).trans gI).trans eH).size;omega
 have agy:w0.heap.size≤b14:=by have:=((((((((((he1).trans he2).trans he3).trans he5).trans he6).trans he7).trans he9).trans gI).trans eH).trans dn).size;omega
 have agz:w0.heap.size≤b15:=by have:=(((((((((((he1).trans he2).trans he3).trans he5).trans he6).trans he7).trans he9).trans gI).trans eH).trans dn).trans eX).size;omega
 have agA:w0.heap.size≤b17:=by have:=((((((((((((he1).trans he2).trans he3).trans he5).trans he6).trans he7).trans he9).trans gI).trans eH).trans dn).trans eX).trans jq).size;omega
 have hE0:Ext w0 w17:=((((((((((((he1).trans he2).trans he3).trans he5).trans he6).trans he7).trans he9).trans gI).trans eH).trans dn).trans eX).trans jq).trans Ku
 have hE:Ext w w17:=he0.trans hE0
 have hro:Units w0.heap.size w17 (.slice (some ⟨b17,0,none⟩) 4 4) [uK [97] 10 b1 b2 b3 [4] [3,5] [7] false,uK [98] 20 b5 b6 b7 [0] [9,1] [2] false,uK [99] 5 b9 b10 b11 [5] [0,0] [7] false,uK [119] 0 b13 b14 b15 [0] [0,0] [0] true]:=by
  refine ⟨Sl.ay (n:=4) (sz:=6) FK rfl (Nat.le_refl _) (by decide) agA,fun u hu=>?_⟩
  simp only [List.mem_cons,List.not_mem_nil,or_false] at hu
  rcases hu with rfl|rfl|rfl|rfl
  ·exact WZ (by decide) alA alB alC alH alI alJ (by decide) (by decide) (by decide)
  ·exact WZ (by decide) alD alE alF alK alL alM (by decide) (by decide) (by decide)
  ·exact WZ (by decide) alG agq agr alN agv agw (by decide) (by decide) (by decide)
  exact WZ (by decide) ags agt agu agx agy agz (by decide) (by decide) (by decide)
 refine L.o (O.build (v:=(⟨1,2,1,.slice (some ⟨b17,0,none⟩) 4 4,[uK [97] 10 b1 b2 b3 [4] [3,5] [7] false,uK [98] 20 b5 b6 b7 [0] [9,1] [2] false,uK [99] 5 b9 b10 b11 [5] [0,0] [7] false,uK [119] 0 b13 b14 b15 [0] [0,0] [0] true]⟩:RoV).val) (parts:=[(0,.const (.int .i64 1)),(1,.const (.int .i64 2)),(2,.const (.int .i64 1)),(3,.tmp 17)]) (vs:=[(0,_),(1,_),(2,_),(3,_)]) rfl (fun w=>by kernel_rfl) (L.o (O.aC sizeOf25 rfl rfl rfl (Blk.ext hB0 hE0) (Nat.le_refl _) (TV (⟨1,2,1,.slice (some ⟨b17,0,none⟩) 4 4,[uK [97] 10 b1 b2 b3 [4] [3,5] [7] false,uK [98] 20 b5 b6 b7 [0] [9,1] [2] false,uK [99] 5 b9 b10 b11 [5] [0,0] [7] false,uK [119] 0 b13 b14 b15 [0] [0,0] [0] true]⟩:RoV) rfl) (fun w18 xZ uT=>?_))))
 replace xZ:Upd b0 w17 w18:=xZ
 have agp:Blk w18 b0 (⟨1,2,1,.slice (some ⟨b17,0,none⟩) 4 4,[uK [97] 10 b1 b2 b3 [4] [3,5] [7] false,uK [98] 20 b5 b6 b7 [0] [9,1] [2] false,uK [99] 5 b9 b10 b11 [5] [0,0] [7] false,uK [119] 0 b13 b14 b15 [0] [0,0] [0] true]⟩:RoV).cells 25:=uT
 refine L.nil (T.retA results11 isAgg25 sizeOf25 rfl rfl (Row.ay agp) ⟨_,rfl,(Units.keep (lo:=w0.heap.size) hro ((Keep.refl _ _).upd xZ (.inl (by omega)))).mono (by omega),rfl,hE.upd xZ (.inr (by omega))⟩)
open Go Go.E RowKit
theorem Ua {c c':CxV} {r r':RoV} {s:PS} (h:Says c r s) (h':Says c' r' s):vW r r'=true:=by
 have e:r.us.map iC=r'.us.map iC:=h.us.trans h'.us.symm
 refine RP (h.G.trans h'.G.symm) (h.P.trans h'.P.symm) (h.L.trans h'.L.symm) ⟨by simpa using congrArg List.length e,fun i _=>?_⟩
 have e1:=getD_map' (f:=iC) (d:=u0) (e:=iC u0) rfl r.us i
 have e2:=getD_map' (f:=iC) (d:=u0) (e:=iC u0) rfl r'.us i
 have e3:iC (r.us.getD i u0)=iC (r'.us.getD i u0):=by rw [← e1,← e2,e]
 simp only [iC,PU.mk.injEq] at e3
 exact dL.2 ⟨e3.1,e3.2.1,e3.2.2.2.2.2,e3.2.2.1,e3.2.2.2.1,e3.2.2.2.2.1⟩
theorem lS (lo lo':Nat) (p q:Value) (xs ys:List Int) (w:World) (hp:Ints .i64 lo w p xs) (hq:Ints .i64 lo' w q ys) :
  Calls Tryz.prog 46 #[p,q] w (Ret fun v w'=>v = .bool (decide (xs=ys))∧Ext w w'):=by
 have hle:=Sl.le hp
 refine T.enter (vs:=[p,q]) func46 rfl ntmps46 rfl ?_
 refine T.q (L.a rfl (L.nil (T.seq (T.q (L.m rfl (L.o (O.len runUnderlying31 rfl (Sl.val hp) (L.m rfl (L.o (O.len runUnderlying31 rfl (Sl.val hq) (L.o (O.jT rfl rfl (fun hl=>?_) (fun hl=>?_)))))))))))))
 ·refine L.nil (T.ct (T.q (L.a rfl (L.nil (T.aU results46 rfl ⟨by rw [decide_eq_false (fun h=>hl (by rw [h]))],Keep.refl _ _⟩)))))
 refine L.nil (?_)
 have hlen:xs.length=ys.length:=by omega
 refine T.cf (T.skip (T.seq (T.q (L.m rfl (L.o (O.len runUnderlying31 rfl (Sl.val hp) (L.m rfl (L.nil (T.block (?_))))))))))
 refine T.loop (σ:=Nat) (fun i=>[(0,p),(1,q),(12,.int .i64 xs.length),(13,.int .i64 i)]) (fun i w'=>i≤xs.length∧Ext w w'∧∀ j,j<i→xs.getD j 0=ys.getD j 0) (fun i=>xs.length-i) (0) ⟨rfl,rfl,rfl,rfl,trivial⟩ ⟨Nat.zero_le _,Keep.refl _ _,fun j hj=>absurd hj (Nat.not_lt_zero _)⟩ ?_
 rintro i w1 ⟨hi,he1,hall⟩
 have hp1:=hp.keep (he1.mono (Nat.zero_le lo))
 have hq1:=hq.keep (he1.mono (Nat.zero_le lo'))
 refine T.q (L.o (O.bF rfl rfl (fun hlt=>?_) (fun hlt=>?_)))
 ·refine L.nil (?_)
  have hlt':i<xs.length:=by omega
  by_cases heq:xs.getD i 0=ys.getD i 0
  ·refine T.seq (T.ct (T.skip (T.seq (T.block (T.q (L.m rfl (L.a rfl (L.nil (T.seq (?_))))))))))
   refine T.fJ mixed 8 [0,5,1] rfl [.is _,.is _,.is _,.is _,.is _,.is _,.is _,.is _] [[],[],[0,1],[2],[],[],[4,5],[6]] [[],[],[0,1],[0,1,2],[],[],[4,5],[4,5,6],[0,1,2,3,4,5,6,7]] (by kernel_rfl) (by kernel_rfl) rfl (by kernel_rfl) trivial ⟨fun wx hx=>Ob.o (O.move rfl kR),
     fun wx hx=>Ob.o (O.move rfl kR),
     fun wx hx=>Ob.o (O.indexAddr runUnderlying31 sizeOf3 rfl rfl hp1 (by omega) (by omega) kR),
     fun wx hx=>Ob.o (O.load isAgg3 rfl (Ints.at (hp1.keep (hx.mono (Nat.zero_le _))) hlt') kR),
     fun wx hx=>Ob.o (O.move rfl kR),
     fun wx hx=>Ob.o (O.move rfl kR),
     fun wx hx=>Ob.o (O.indexAddr runUnderlying31 sizeOf3 rfl rfl hq1 (by omega) (by omega) kR),
     fun wx hx=>Ob.o (O.load isAgg3 rfl (Ints.at (hq1.keep (hx.mono (Nat.zero_le _))) (by omega)) kR),
     trivial⟩ (fun w2 he2=>?_)
   refine L.o (O.kZ rfl rfl heq (L.nil (T.cf (T.skip (T.blk (T.region (L.o (O.aI rfl rfl (by omega) (L.m rfl (L.nil (T.again (i+1) (by omega) ⟨rfl,rfl,rfl,rfl,trivial⟩ ⟨hlt',he1.trans he2,fun j hj=>?_⟩)))))))))))
   ·by_cases hji:j=i
    ·subst hji;exact heq
    exact hall j (by omega)
  refine T.seq (T.ct (T.skip (T.seq (T.block (T.q (L.m rfl (L.a rfl (L.nil (T.seq (?_))))))))))
  refine T.fJ mixed 8 [0,5,1] rfl [.is _,.is _,.is _,.is _,.is _,.is _,.is _,.is _] [[],[],[0,1],[2],[],[],[4,5],[6]] [[],[],[0,1],[0,1,2],[],[],[4,5],[4,5,6],[0,1,2,3,4,5,6,7]] (by kernel_rfl) (by kernel_rfl) rfl (by kernel_rfl) trivial ⟨fun wx hx=>Ob.o (O.move rfl kR),
    fun wx hx=>Ob.o (O.move rfl kR),
    fun wx hx=>Ob.o (O.indexAddr runUnderlying31 sizeOf3 rfl rfl hp1 (by omega) (by omega) kR),
    fun wx hx=>Ob.o (O.load isAgg3 rfl (Ints.at (hp1.keep (hx.mono (Nat.zero_le _))) hlt') kR),
    fun wx hx=>Ob.o (O.move rfl kR),
    fun wx hx=>Ob.o (O.move rfl kR),
    fun wx hx=>Ob.o (O.indexAddr runUnderlying31 sizeOf3 rfl rfl hq1 (by omega) (by omega) kR),
    fun wx hx=>Ob.o (O.load isAgg3 rfl (Ints.at (hq1.keep (hx.mono (Nat.zero_le _))) (by omega)) kR),
    trivial⟩ (fun w2 he2=>?_)
  refine L.o (O.IG rfl rfl heq (L.nil (T.ct (T.q (L.a rfl (L.nil (T.aU results46 rfl ⟨by rw [decide_eq_false (fun h=>heq (by rw [h]))],he1.trans he2⟩)))))))
 refine L.nil (T.seq (T.cf (T.exit rfl (T.q (L.a rfl (L.nil (T.aU results46 rfl ⟨by rw [decide_eq_true (Nh (d:=0) hlen (fun j hj=>hall j (by omega)))],he1⟩)))))))
theorem MK (lo lo2:Nat) (c c':CxV) (r r':RoV) (s:PS) (w:World) (hc:c.ok lo w) (hr:r.ok lo w) (hc':c'.ok lo2 w) (hr':r'.ok lo2 w) (hs:Says c r s) (hs':Says c' r' s) (hn:∀ f∈c.fs,f.hs.length≤100000) :
  Calls Tryz.prog 28 #[.agg (eY c r).toArray,.agg (eY c' r').toArray] w (Ret fun v w'=>v = .bool true∧Ext w w'):=by
 refine T.enter (vs:=[.agg (eY c r).toArray,.agg (eY c' r').toArray]) func28 rfl ntmps28 rfl ?_
 refine T.q (L.o (O.box rfl (fun b2 w2 hb2 hz2 he2 hB2=>?_)))
 refine L.o (O.box rfl (fun b3 w3 hb3 hz3 he3 hB3=>?_))
 have he:=he2.trans he3
 have hC1:Blk w3 b2 (eY c r) 48:=Blk.ext (cs:=eY c r) hB2 he3
 have hC2:Blk w3 b3 (eY c' r') 48:=hB3
 refine L.a rfl (L.nil (T.q (L.o (O.fieldAddr runUnderlying48 rfl sizeOf46 rfl (L.o (O.ak isAgg46 sizeOf46 rfl rfl ((Row.ay hC1).part 0 2) (L.o (O.fieldAddr runUnderlying48 rfl sizeOf46 rfl (L.o (O.ak isAgg46 sizeOf46 rfl rfl ((Row.ay hC2).part 0 2) (L.o (O.call (xs:=[.tmp 6,.tmp 8]) call74 rfl rfl (OQ lo lo2 c c' w3 (hc.ext he) (hc'.ext he) (hs.ps.trans hs'.ps.symm) (hs.fs.trans hs'.fs.symm) hn) (fun v9 w9 hq=>?_)))))))))))))
 obtain ⟨rfl,he9⟩:=hq
 refine L.m rfl (L.o (O.fieldAddr runUnderlying48 rfl sizeOf25 rfl (L.o (O.ak isAgg25 sizeOf25 rfl rfl ((Row.ay (Blk.ext hC1 he9)).part 2 4) (L.o (O.fieldAddr runUnderlying48 rfl sizeOf25 rfl (L.o (O.ak isAgg25 sizeOf25 rfl rfl ((Row.ay (Blk.ext hC2 he9)).part 2 4) (L.o (O.call (xs:=[.tmp 12,.tmp 14]) call37 rfl rfl (yD lo lo2 r r' w9 (hr.ext (he.trans he9)) (hr'.ext (he.trans he9))) (fun v15 w15 hq=>?_)))))))))))
 obtain ⟨aij,jq⟩:=hq
 rw [Ua hs hs'] at aij
 subst aij
 refine L.o (O.ah rfl rfl (L.a rfl (L.nil (T.aU results28 rfl ⟨rfl,(he.trans he9).trans jq⟩))))
theorem rQ (t:Str) (n:Nat) (e:Int) (w:World) (hL:jc w) (ht:t.length≤1000000) (hr:Ar uH t=([],n,e)) :
  Calls Tryz.prog 16 #[str t,.int .i64 n,.int .i64 e] w (Ret fun v w'=>v = .bool true∧Ext w w'):=by
 refine T.enter (vs:=[str t,.int .i64 n,.int .i64 e]) func16 rfl ntmps16 rfl ?_
 refine T.q (L.a rfl (L.nil (T.q (L.o (O.call (xs:=[]) call11 rfl rfl (oP w) (fun v11 w11 hq=>?_))))))
 obtain ⟨r,rfl,hro,hst,eH⟩:=hq
 refine L.m rfl (L.o (O.call (xs:=[.tmp 11,.tmp 12]) call13 rfl rfl (oK w.heap.size r t w11 hro (hL.ext eH) ht) (fun v13 w13 hq=>?_)))
 obtain ⟨pv,rfl,hpv,dn⟩:=hq
 rw [oO,hst,hr] at hpv
 rw [oO,hst,hr]
 refine L.m rfl (L.o (O.extract rfl rfl (L.o (O.extract rfl rfl (L.o (O.extract rfl rfl (L.a rfl (L.a rfl (L.a rfl (L.nil (T.q (L.m rfl (L.o (O.len runUnderlying31 rfl (Sl.val hpv) (L.o (O.iF rfl rfl rfl (L.m rfl (L.m rfl (L.m rfl (L.o (O.iF rfl rfl rfl (L.o (O.ah rfl rfl (L.m rfl (L.m rfl (L.m rfl (L.o (O.eql rfl rfl (L.o (O.ah rfl rfl (L.a rfl (?_))))))))))))))))))))))))))))))))
 refine L.nil (T.aU results16 rfl ⟨congrArg Value.bool (decide_eq_true rfl),eH.trans dn⟩)
theorem Kv (t:Str) (n e:Int) (w:World) (hL:jc w) (ht:t.length≤1000000) (hp:BU t = .inr (n,e)) :
  Calls Tryz.prog 17 #[str t,.int .i64 n,.int .i64 e] w (Ret fun v w'=>v = .bool true∧Ext w w'):=by
 refine T.enter (vs:=[str t,.int .i64 n,.int .i64 e]) func17 rfl ntmps17 rfl ?_
 refine T.q (L.a rfl (L.nil (T.q (L.m rfl (L.o (O.call (xs:=[.tmp 11]) call21 rfl rfl (lQ t w hL (by omega)) (fun v12 w12 hq=>?_)))))))
 obtain ⟨fQ,NH⟩:=hq
 rw [zG,hp] at NH
 replace NH:v12 = .tuple #[.agg eU.toArray,.int .i64 n,.int .i64 e]:=NH
 subst NH
 refine L.m rfl (L.o (O.extract rfl rfl (L.o (O.extract rfl rfl (L.o (O.extract rfl rfl (L.o (O.alloc zeroValue48 (fun b7 w7 hb7 hz7 he7 hB7=>?_)))))))))
 refine L.o (O.aC sizeOf48 rfl rfl rfl hB7 (Nat.le_refl _) gJ (fun w13 wR xQ=>?_))
 replace wR:Upd b7 w7 w13:=wR
 have hR:Blk w13 b7 eU 48:=xQ
 refine L.a rfl (L.a rfl (L.nil (T.q (L.o (O.fieldAddr runUnderlying48 rfl sizeOf46 rfl (L.o (O.fieldAddr runUnderlying46 rfl sizeOf43 rfl (L.o (O.load isAgg43 rfl (hR.cell rfl) (L.o (O.len runUnderlying43 rfl (Sl.val (Sl.nil 0 w13 1)) (L.o (O.iF rfl rfl rfl (L.m rfl (L.o (O.fieldAddr runUnderlying48 rfl sizeOf25 rfl (L.o (O.fieldAddr runUnderlying25 rfl sizeOf23 rfl (L.o (O.load isAgg23 rfl (hR.cell rfl) (L.o (O.len runUnderlying23 rfl (Sl.val (Sl.nil 0 w13 1)) (L.o (O.iF rfl rfl rfl (L.o (O.ah rfl rfl (L.m rfl (L.m rfl (L.m rfl (L.o (O.iF rfl rfl rfl (L.o (O.ah rfl rfl (L.m rfl (L.m rfl (?_))))))))))))))))))))))))))))))))))))
 refine L.m rfl (L.o (O.eql rfl rfl (L.o (O.ah rfl rfl (L.a rfl (L.nil (T.aU results17 rfl ⟨congrArg Value.bool (decide_eq_true rfl),fQ.trans (he7.upd wR (.inr (by omega)))⟩)))))))
theorem Ub (lo:Nat) (t:Str) (p:Value) (xs:List Int) (w:World) (hL:jc w) (ht:t.length≤1000000) (hp:Ints .i64 lo w p xs) (hr:Ar uH t=(xs,0,0)) :
  Calls Tryz.prog 51 #[str t,p] w (Ret fun v w'=>v = .bool true∧Ext w w'):=by
 refine T.enter (vs:=[str t,p]) func51 rfl ntmps51 rfl ?_
 refine T.q (L.a rfl (L.nil (T.q (L.o (O.call (xs:=[]) call11 rfl rfl (oP w) (fun v11 w11 hq=>?_))))))
 obtain ⟨r,rfl,hro,hst,eH⟩:=hq
 refine L.m rfl (L.o (O.call (xs:=[.tmp 9,.tmp 10]) call13 rfl rfl (oK w.heap.size r t w11 hro (hL.ext eH) ht) (fun v13 w13 hq=>?_)))
 obtain ⟨pv,rfl,hpv,dn⟩:=hq
 rw [oO,hst,hr] at hpv
 rw [oO,hst,hr]
 refine L.m rfl (L.o (O.extract rfl rfl (L.o (O.extract rfl rfl (L.o (O.extract rfl rfl (L.a rfl (L.a rfl (L.a rfl (L.nil (T.q (L.m rfl (L.m rfl (L.o (O.call (xs:=[.tmp 15,.tmp 16]) call46 rfl rfl (lS 0 lo pv p xs xs w13 hpv (hp.ext (eH.trans dn))) (fun v17 w17 hq=>?_))))))))))))))))
 obtain ⟨adM,Ku⟩:=hq
 rw [decide_eq_true rfl] at adM
 subst adM
 refine L.m rfl (L.m rfl (L.o (O.iF rfl rfl rfl (L.o (O.ah rfl rfl (L.m rfl (L.m rfl (L.o (O.eql rfl rfl (L.o (O.ah rfl rfl (L.a rfl (L.nil (T.aU results51 rfl ⟨congrArg Value.bool (decide_eq_true rfl),(eH.trans dn).trans Ku⟩))))))))))))))
open Go Go.E RowKit
def alO:Str:=[117,110,105,116,44,100,105,115,116,114,105,99,116,10,97,44,49,10,98,44,50,10,99,44,49,10]
def Ia:Str:=108::97::110::100::32::48::32::48::32::48::10::112::111::105::110::116::32::48::32::48::10::112::111::105::110::116::32::52::32::48::10::112::111::105::110::116::32::48::32::52::10::102::97::99::101::32::48::32::49::32::50::10::117::110::105::116::32::97::32::51::10::101::110::100::10 :: []
def acR (r:RoV) (xs:List Int):Str × Int:=if Et r then (if ng xs (aN r.us)=true then (aF (jD (nmA r.us) xs xs.length),0) else ([],2)) else ([],161)
theorem Uc (r:RoV) (xs:List Int):vk r xs=acR (stripR r) xs:=by
 by_cases h:bG r
 ·rw [rE h,acR,(iV _).2 ((dS r).2 h),if_pos rfl]
  show _=if ng xs (aN (r.us.map kV))=true then (aF (jD (nmA (r.us.map kV)) xs xs.length),0) else _
  rw [zF,jQ]
 rw [BA h,acR,if_neg (fun k=>h ((dS r).1 ((iV _).1 k)))]
theorem rU {d:Nat} (h:d<10):Lib.itoa (d:Int) = [UInt8.ofNat (48+d)]:=by
 rw [Lib.itoa_nonneg,Lib.decDigits_one h]
theorem W9:acR uH [0,1,0]=(alO,0):=by
 unfold acR
 rw [if_pos (by kernel_rfl),if_pos (by kernel_rfl)]
 have e1:Lib.itoa (([0,1,0]:List Int).getD 0 0+1) = [49]:=rG (d:=0) (by decide)
 have e2:Lib.itoa (([0,1,0]:List Int).getD 1 0+1) = [50]:=rG (d:=1) (by decide)
 have e3:Lib.itoa (([0,1,0]:List Int).getD 2 0+1) = [49]:=rG (d:=0) (by decide)
 show (aF [oI,fZ (nmA uH.us) [0,1,0] 0,fZ (nmA uH.us) [0,1,0] 1,fZ (nmA uH.us) [0,1,0] 2],(0:Int))=_
 unfold fZ
 rw [e1,e2,e3]
 rfl
theorem ML:aF (fM ZP.cx ZP.ro)=Ia:=by
 have e0:Lib.itoa 0 = [48]:=rU (d:=0) (by decide)
 have e1:Lib.itoa 1 = [49]:=rU (d:=1) (by decide)
 have e2:Lib.itoa 2 = [50]:=rU (d:=2) (by decide)
 have e3:Lib.itoa 3 = [51]:=rU (d:=3) (by decide)
 have e4:Lib.itoa 4 = [52]:=rU (d:=4) (by decide)
 have h1:spell [0,0,0] = [32,48,32,48,32,48]:=by simp only [spell,List.flatMap_cons,List.flatMap_nil,e0];rfl
 have h2:spell [0,0] = [32,48,32,48]:=by simp only [spell,List.flatMap_cons,List.flatMap_nil,e0];rfl
 have h3:spell [4,0] = [32,52,32,48]:=by simp only [spell,List.flatMap_cons,List.flatMap_nil,e0,e4];rfl
 have h4:spell [0,4] = [32,48,32,52]:=by simp only [spell,List.flatMap_cons,List.flatMap_nil,e0,e4];rfl
 have h5:spell [0,1,2] = [32,48,32,49,32,50]:=by simp only [spell,List.flatMap_cons,List.flatMap_nil,e0,e1,e2];rfl
 have h6:spell [3] = [32,51]:=by simp only [spell,List.flatMap_cons,List.flatMap_nil,e3];rfl
 show aF ([bn++spell [0,0,0]] ++ [aK++spell [0,0],aK++spell [4,0],aK++spell [0,4]] ++ [aY++spell [0,1,2]] ++ [Sr ++ [97]++spell [3] ++ []] ++ [fA])=_
 rw [h1,h2,h3,h4,h5,h6]
 rfl
theorem ZQ:TG ZP=0:=by rw [TU];kernel_rfl
theorem Ud:BU Ia = .inl ZP:=by kernel_rfl
theorem Ue:WY uH [0,1,0] [117,110,105,116,44,100,105,115,116,114,105,99,116,10,99,44,50,10]=([0,1,1],0,0):=by kernel_rfl
theorem ZR:Ar uH ([117,110,105,116,44,100,105,115,116,114,105,99,116,10,98,44,50,10,97,44,49,10,99,44,49,10])=([0,1,0],0,0):=by kernel_rfl
theorem Xa:Ar uH ([117,110,105,116,44,100,105,115,116,114,105,99,116,10,97,44,49,10,99,44,49,10])=([],0,4):=by kernel_rfl
theorem Xb:Ar uH ([117,110,105,116,44,100,105,115,116,114,105,99,116,10,97,44,57,10,98,44,50,10,99,44,49,10])=([],2,5):=by kernel_rfl
theorem Xc:Ar uH ([117,110,105,116,44,100,105,115,116,114,105,99,116,10,97,44,49,10,98,44,50,10,99,44,49,10,97,44,49,10])=([],5,5):=by kernel_rfl
theorem Xd:Ar uH ([117,110,105,116,44,100,105,115,116,114,105,99,116,10,97,44,49,10,98,44,50,10,99,44,49])=([],4,5):=by kernel_rfl
theorem Xe:BU (Ia.take 61) = .inr (0,5):=by kernel_rfl
theorem Says.text_eq {c:CxV} {r:RoV} {s:PS} (h:Says c r s):fM c r=fM s.cx s.ro:=by rw [h.cx,h.ro,pY]
theorem Xf {c:CxV} {r:RoV} {s:PS} (h:Says c r s) (he:TG s=0) (hl:(aF (fM s.cx s.ro)).length≤40000):iM c r (dN c r (cu c))=(aF (fM s.cx s.ro),0):=by
 rw [h.err,he,iM,if_neg (fun x=>x rfl),h.text_eq,if_neg (by omega)]
theorem OU {c:CxV} {r:RoV} {s:PS} (h:Says c r s) (hs:∀ f∈s.fs,f.2.length≤100000):∀ f∈c.fs,f.hs.length≤100000:=fun f hf=>by
 have:=hs (jK f) (by rw [← h.fs];exact List.mem_map_of_mem hf)
 simpa [jK] using this
def acS (v:Value) (w:World):Prop:=∃ c r,v = .agg (eY c r).toArray∧c.ok 0 w∧r.ok 0 w∧Says c r ZP
theorem acS.st:∀ v w w',Ext w w'→acS v w→acS v w':=fun _ _ _ k ⟨c,r,h1,h2,h3,h4⟩=>⟨c,r,h1,h2.ext k,h3.ext k,h4⟩
set_option maxHeartbeats 4000000 in
theorem Kw (w:World) (hL:jc w) :
  Calls Tryz.prog 10 #[] w (Ret fun v w'=>v = .bool true∧Ext w w'):=by
 refine T.enter (vs:=[]) func10 rfl ntmps10 rfl ?_
 refine T.q (L.a rfl (L.nil (T.q (L.o (O.call (xs:=[]) call11 rfl rfl (oP w) (fun v12 w12 hq=>?_))))))
 obtain ⟨r1,rfl,hr1,hst1,fQ⟩:=hq
 refine L.o (O.buildSlice (el:=3) (parts:=[(0,.const (.int .i64 0)),(1,.const (.int .i64 1)),(2,.const (.int .i64 0))]) (vs:=[(0,_),(1,_),(2,_)]) (cs:=([0,1,0].map (Value.int .i64))) rfl (fun w=>by kernel_rfl) (fun b13 w13 adz U8 dn xQ=>?_))
 refine L.o (O.call (xs:=[.tmp 12,.tmp 13]) call12 rfl rfl (vw w.heap.size r1 _ [0,1,0] w13 (hr1.ext dn) (Ints.ay xQ rfl (by decide) (Nat.zero_le _)) (hL.ext (fQ.trans dn))) (fun v14 w14 hq=>?_))
 obtain ⟨rfl,eX⟩:=hq
 rw [Uc,hst1,W9]
 have aak:=(fQ.trans dn).trans eX
 refine L.m rfl (L.o (O.extract rfl rfl (L.o (O.extract rfl rfl (L.a rfl (L.a rfl (L.nil (T.q (L.o (O.call (xs:=[]) call11 rfl rfl (oP w14) (fun v18 w18 hq=>?_)))))))))))
 obtain ⟨r2,rfl,hr2,hst2,lZ⟩:=hq
 refine L.o (O.buildSlice (el:=3) (parts:=[(0,.const (.int .i64 0)),(1,.const (.int .i64 1)),(2,.const (.int .i64 0))]) (vs:=[(0,_),(1,_),(2,_)]) (cs:=([0,1,0].map (Value.int .i64))) rfl (fun w=>by kernel_rfl) (fun b19 w19 ajs ajt Gi Ba=>?_))
 refine L.o (O.call (xs:=[.tmp 18,.tmp 19,_]) call14 rfl rfl (D9 w14.heap.size r2 _ [0,1,0] [117,110,105,116,44,100,105,115,116,114,105,99,116,10,99,44,50,10] w19 (hr2.ext Gi) (Ints.ay Ba rfl (by decide) (Nat.zero_le _)) (hL.ext (aak.trans (lZ.trans Gi))) (by decide)) (fun v20 w20 hq=>?_))
 obtain ⟨pv,rfl,hpv,Uu⟩:=hq
 rw [BR,hst2,Ue] at hpv
 rw [BR,hst2,Ue]
 have hE20:=aak.trans ((lZ.trans Gi).trans Uu)
 refine L.m rfl (L.o (O.extract rfl rfl (L.o (O.extract rfl rfl (L.o (O.extract rfl rfl (L.a rfl (L.a rfl (L.a rfl (L.nil (T.q (L.o (O.call (xs:=[]) call20 rfl rfl (o7 w20) (fun v25 w25 hq=>?_))))))))))))))
 obtain ⟨c1,t1,rfl,hc1,ht1,hs1,y5⟩:=hq
 refine L.o (O.call (xs:=[.tmp 25]) call19 rfl rfl (ug w20.heap.size c1 t1 w25 hc1 ht1 (hL.ext (hE20.trans y5)) Es) (fun v26 w26 hq=>?_))
 obtain ⟨rfl,ZK⟩:=hq
 rw [Xf hs1 ZQ (by rw [ML];decide),ML]
 have ZL:=hE20.trans (y5.trans ZK)
 refine L.m rfl (L.o (O.extract rfl rfl (L.o (O.extract rfl rfl (L.a rfl (L.a rfl (L.nil (T.q (L.o (O.call (xs:=[_]) call21 rfl rfl (lQ Ia w26 (hL.ext ZL) (by decide)) (fun v30 w30 hq=>?_)))))))))))
 obtain ⟨Nz,XQ⟩:=hq
 rw [zG,Ud] at XQ
 obtain ⟨c2,t2,rfl,hc2,ht2,hs2⟩:=XQ
 refine L.m rfl (L.o (O.extract rfl rfl (L.o (O.extract rfl rfl (L.o (O.extract rfl rfl (L.o (O.alloc zeroValue48 (fun b8 w8 hb8 hz8 he8 hB8=>?_)))))))))
 refine L.o (O.aC sizeOf48 rfl rfl rfl hB8 (Nat.le_refl _) (nN hc2 ht2) (fun w31 qh VR=>?_))
 replace qh:Upd b8 w8 w31:=qh
 have alP:Blk w31 b8 (eY c2 t2) 48:=VR
 have Ij:Ext w30 w31:=he8.upd qh (.inr (by omega))
 have aik:=(ZL.trans Nz).trans Ij
 have hc31:=hc2.ext Ij
 have alQ:=ht2.ext Ij
 have agB:=hpv.ext (((y5.trans ZK).trans Nz).trans Ij)
 have hL31:=hL.ext aik
 have hsm:∀ f∈c2.fs,f.hs.length≤100000:=OU hs2 (by decide)
 refine L.a rfl (L.a rfl (L.nil (T.seq (?_))))
 refine T.fJ mixed 30 [1,2,3,4,5,6,7,8] rfl [.is _,.is _,.is _,.is _,.is _,.is _,.is _,.is _,.such (tZ [0,1,1]),.is (.bool true),.is _,.is _,.is _,.is _,.is _,.is _,.is _,.is _,.is _,.is _,.is _,.is _,.is _,.is _,.is _,.is _,.is _,.is _,.is _,.such acS] [[],[0],[1],[2],[3,2],[2,4],[5],[6],[6],[7,8,6],[6,9],[10],[11],[12,11],[11,13],[14],[15],[16,15],[15,17],[18],[19],[20,19],[19,21],[22],[23],[24,23],[23,25],[26],[27],[27]] ([] :: [0] :: [0,1] :: [0,1,2] :: [0,1,2,3] :: [0,1,2,3,4] :: [0,1,2,3,4,5] :: [0,1,2,3,4,5,6] :: [0,1,2,3,4,5,6] :: [0,1,2,3,4,5,6,7,8] :: [0,1,2,3,4,5,6,7,8,9] :: [0,1,2,3,4,5,6,7,8,9,10] :: [0,1,2,3,4,5,6,7,8,9,10,11] :: [0,1,2,3,4,5,6,7,8,9,10,11,12] :: [0,1,2,3,4,5,6,7,8,9,10,11,12,13] :: [0,1,2,3,4,5,6,7,8,9,10,11,12,13,14] :: [0,1,2,3,4,5,6,7,8,9,10,11,12,13,14,15] :: [0,1,2,3,4,5,6,7,8,9,10,11,12,13,14,15,16] :: [0,1,2,3,4,5,6,7,8,9,10,11,12,13,14,15,16,17] :: [0,1,2,3,4,5,6,7,8,9,10,11,12,13,14,15,16,17,18] :: [0,1,2,3,4,5,6,7,8,9,10,11,12,13,14,15,16,17,18,19] :: [0,1,2,3,4,5,6,7,8,9,10,11,12,13,14,15,16,17,18,19,20] :: [0,1,2,3,4,5,6,7,8,9,10,11,12,13,14,15,16,17,18,19,20,21] :: [0,1,2,3,4,5,6,7,8,9,10,11,12,13,14,15,16,17,18,19,20,21,22] :: [0,1,2,3,4,5,6,7,8,9,10,11,12,13,14,15,16,17,18,19,20,21,22,23] :: [0,1,2,3,4,5,6,7,8,9,10,11,12,13,14,15,16,17,18,19,20,21,22,23,24] :: [0,1,2,3,4,5,6,7,8,9,10,11,12,13,14,15,16,17,18,19,20,21,22,23,24,25] :: [0,1,2,3,4,5,6,7,8,9,10,11,12,13,14,15,16,17,18,19,20,21,22,23,24,25,26] :: [0,1,2,3,4,5,6,7,8,9,10,11,12,13,14,15,16,17,18,19,20,21,22,23,24,25,26,27] :: [0,1,2,3,4,5,6,7,8,9,10,11,12,13,14,15,16,17,18,19,20,21,22,23,24,25,26,27] :: [0,1,2,3,4,5,6,7,8,9,10,11,12,13,14,15,16,17,18,19,20,21,22,23,24,25,26,27,28,29]::(0::1::2::3::4::5::6::7::8::9::10::11::12::13::14::15::16::17::18::19::20::21::22::23::24::25::26::27::28::29::30 :: [])::(0::1::2::3::4::5::6::7::8::9::10::11::12::13::14::15::16::17::18::19::20::21::22::23::24::25::26::27::28::29::30::31 :: [])::(0::1::2::3::4::5::6::7::8::9::10::11::12::13::14::15::16::17::18::19::20::21::22::23::24::25::26::27::28::29::30::31::32 :: [])::(0::1::2::3::4::5::6::7::8::9::10::11::12::13::14::15::16::17::18::19::20::21::22::23::24::25::26::27::28::29::30::31::32::33 :: [])::(0::1::2::3::4::5::6::7::8::9::10::11::12::13::14::15::16::17::18::19::20::21::22::23::24::25::26::27::28::29::30::31::32::33::34 :: [])::(0::1::2::3::4::5::6::7::8::9::10::11::12::13::14::15::16::17::18::19::20::21::22::23::24::25::26::27::28::29::30::31::32::33::34::35 :: [])::(0::1::2::3::4::5::6::7::8::9::10::11::12::13::14::15::16::17::18::19::20::21::22::23::24::25::26::27::28::29::30::31::32::33::34::35::36 :: [])::(0::1::2::3::4::5::6::7::8::9::10::11::12::13::14::15::16::17::18::19::20::21::22::23::24::25::26::27::28::29::30::31::32::33::34::35::36::37 :: [])::(0::1::2::3::4::5::6::7::8::9::10::11::12::13::14::15::16::17::18::19::20::21::22::23::24::25::26::27::28::29::30::31::32::33::34::35::36::37::38 :: [])::(0::1::2::3::4::5::6::7::8::9::10::11::12::13::14::15::16::17::18::19::20::21::22::23::24::25::26::27::28::29::30::31::32::33::34::35::36::37::38::39 :: [])::(0::1::2::3::4::5::6::7::8::9::10::11::12::13::14::15::16::17::18::19::20::21::22::23::24::25::26::27::28::29::30::31::32::33::34::35::36::37::38::39::40 :: [])::(0::1::2::3::4::5::6::7::8::9::10::11::12::13::14::15::16::17::18::19::20::21::22::23::24::25::26::27::28::29::30::31::32::33::34::35::36::37::38::39::40::41 :: [])::(0::1::2::3::4::5::6::7::8::9::10::11::12::13::14::15::16::17::18::19::20::21::22::23::24::25::26::27::28::29::30::31::32::33::34::35::36::37::38::39::40::41::42 :: [])::(0::1::2::3::4::5::6::7::8::9::10::11::12::13::14::15::16::17::18::19::20::21::22::23::24::25::26::27::28::29::30::31::32::33::34::35::36::37::38::39::40::41::42::43 :: [])::(0::1::2::3::4::5::6::7::8::9::10::11::12::13::14::15::16::17::18::19::20::21::22::23::24::25::26::27::28::29::30::31::32::33::34::35::36::37::38::39::40::41::42::43::44 :: [])::(0::1::2::3::4::5::6::7::8::9::10::11::12::13::14::15::16::17::18::19::20::21::22::23::24::25::26::27::28::29::30::31::32::33::34::35::36::37::38::39::40::41::42::43::44::45 :: [])::(0::1::2::3::4::5::6::7::8::9::10::11::12::13::14::15::16::17::18::19::20::21::22::23::24::25::26::27::28::29::30::31::32::33::34::35::36::37::38::39::40::41::42::43::44::45::46 :: [])::(0::1::2::3::4::5::6::7::8::9::10::11::12::13::14::15::16::17::18::19::20::21::22::23::24::25::26::27::28::29::30::31::32::33::34::35::36::37::38::39::40::41::42::43::44::45::46::47 :: [])::(0::1::2::3::4::5::6::7::8::9::10::11::12::13::14::15::16::17::18::19::20::21::22::23::24::25::26::27::28::29::30::31::32::33::34::35::36::37::38::39::40::41::42::43::44::45::46::47::48 :: [])::(0::1::2::3::4::5::6::7::8::9::10::11::12::13::14::15::16::17::18::19::20::21::22::23::24::25::26::27::28::29::30::31::32::33::34::35::36::37::38::39::40::41::42::43::44::45::46::47::48::49 :: [])::(0::1::2::3::4::5::6::7::8::9::10::11::12::13::14::15::16::17::18::19::20::21::22::23::24::25::26::27::28::29::30::31::32::33::34::35::36::37::38::39::40::41::42::43::44::45::46::47::48::49::50 :: [])::(0::1::2::3::4::5::6::7::8::9::10::11::12::13::14::15::16::17::18::19::20::21::22::23::24::25::26::27::28::29::30::31::32::33::34::35::36::37::38::39::40::41::42::43::44::45::46::47::48::49::50::51 :: [])::(0::1::2::3::4::5::6::7::8::9::10::11::12::13::14::15::16::17::18::19::20::21::22::23::24::25::26::27::28::29::30::31::32::33::34::35::36::37::38::39::40::41::42::43::44::45::46::47::48::49::50::51::52 :: [])::(0::1::2::3::4::5::6::7::8::9::10::11::12::13::14::15::16::17::18::19::20::21::22::23::24::25::26::27::28::29::30::31::32::33::34::35::36::37::38::39::40::41::42::43::44::45::46::47::48::49::50::51::52::53 :: [])::(0::1::2::3::4::5::6::7::8::9::10::11::12::13::14::15::16::17::18::19::20::21::22::23::24::25::26::27::28::29::30::31::32::33::34::35::36::37::38::39::40::41::42::43::44::45::46::47::48::49::50::51::52::53::54 :: [])::(0::1::2::3::4::5::6::7::8::9::10::11::12::13::14::15::16::17::18::19::20::21::22::23::24::25::26::27::28::29::30::31::32::33::34::35::36::37::38::39::40::41::42::43::44::45::46::47::48::49::50::51::52::53::54::55 :: [])::(0::1::2::3::4::5::6::7::8::9::10::11::12::13::14::15::16::17::18::19::20::21::22::23::24::25::26::27::28::29::30::31::32::33::34::35::36::37::38::39::40::41::42::43::44::45::46::47::48::49::50::51::52::53::54::55::56 :: [])::(0::1::2::3::4::5::6::7::8::9::10::11::12::13::14::15::16::17::18::19::20::21::22::23::24::25::26::27::28::29::30::31::32::33::34::35::36::37::38::39::40::41::42::43::44::45::46::47::48::49::50::51::52::53::54::55::56::57 :: [])::(0::1::2::3::4::5::6::7::8::9::10::11::12::13::14::15::16::17::18::19::20::21::22::23::24::25::26::27::28::29::30::31::32::33::34::35::36::37::38::39::40::41::42::43::44::45::46::47::48::49::50::51::52::53::54::55::56::57::58 :: [])::(0::1::2::3::4::5::6::7::8::9::10::11::12::13::14::15::16::17::18::19::20::21::22::23::24::25::26::27::28::29::30::31::32::33::34::35::36::37::38::39::40::41::42::43::44::45::46::47::48::49::50::51::52::53::54::55::56::57::58::59 :: [])::(0::1::2::3::4::5::6::7::8::9::10::11::12::13::14::15::16::17::18::19::20::21::22::23::24::25::26::27::28::29::30::31::32::33::34::35::36::37::38::39::40::41::42::43::44::45::46::47::48::49::50::51::52::53::54::55::56::57::58::59::60 :: []) :: []) (by kernel_rfl) (by kernel_rfl) rfl (by kernel_rfl) ⟨tZ.st,acS.st,trivial⟩ ⟨fun wx hx=>Ob.o (O.move rfl kR),
   fun wx hx=>Ob.o (O.aX runUnderlying9 rfl rfl rfl kR),
   fun wx hx=>Ob.o (O.move rfl kR),
   fun wx hx=>Ob.o (O.move rfl kR),
   fun wx hx=>Ob.o (O.iF rfl rfl rfl kR),
   fun wx hx=>Ob.o (O.ah rfl rfl kR),
   fun wx hx=>Ob.o (O.move rfl kR),
   fun wx hx=>Ob.o (O.move rfl kR),
   fun wx hx=>Ob.o (O.buildSlice (el:=3) (parts:=[(0,.const (.int .i64 0)),(1,.const (.int .i64 1)),(2,.const (.int .i64 1))]) (vs:=[(0,_),(1,_),(2,_)]) (cs:=([0,1,1].map (Value.int .i64))) rfl (fun w=>by kernel_rfl) (fun b42 w42 anr ant aac alR=>⟨aac,Ints.ay alR rfl (by decide) (Nat.zero_le _)⟩)),
   fun wx hx v42 ail=>Ob.o (O.call (xs:=[.tmp 41,.tmp 42]) call46 rfl rfl (lS 0 0 pv _ [0,1,1] [0,1,1] wx (agB.ext hx) ail) (fun v wy h=>⟨h.2,h.1.trans (congrArg Value.bool (decide_eq_true rfl))⟩)),
   fun wx hx=>Ob.o (O.ah rfl rfl kR),
   fun wx hx=>Ob.o (O.move rfl kR),
   fun wx hx=>Ob.o (O.move rfl kR),
   fun wx hx=>Ob.o (O.iF rfl rfl rfl kR),
   fun wx hx=>Ob.o (O.ah rfl rfl kR),
   fun wx hx=>Ob.o (O.move rfl kR),
   fun wx hx=>Ob.o (O.move rfl kR),
   fun wx hx=>Ob.o (O.iF rfl rfl rfl kR),
   fun wx hx=>Ob.o (O.ah rfl rfl kR),
   fun wx hx=>Ob.o (O.move rfl kR),
   fun wx hx=>Ob.o (O.move rfl kR),
   fun wx hx=>Ob.o (O.aX runUnderlying9 rfl rfl rfl kR),
   fun wx hx=>Ob.o (O.ah rfl rfl kR),
   fun wx hx=>Ob.o (O.move rfl kR),
   fun wx hx=>Ob.o (O.move rfl kR),
   fun wx hx=>Ob.o (O.iF rfl rfl rfl kR),
   fun wx hx=>Ob.o (O.ah rfl rfl kR),
   fun wx hx=>Ob.o (O.move rfl kR),
   fun wx hx=>Ob.o (O.ak isAgg48 sizeOf48 rfl rfl (Row.ay (Blk.ext alP hx)) kR),
   fun wx hx=>Ob.o (O.call (xs:=[]) call20 rfl rfl (o7 wx) (fun v wy h=>(by obtain ⟨c,r,h1,h2,h3,h4,h5⟩:=h;exact ⟨h5,c,r,h1,h2.mono (Nat.zero_le _),h3.mono (Nat.zero_le _),h4⟩))),
   trivial⟩ (fun w5 he5 v42 ail v63 alS=>?_)
 obtain ⟨c3,t3,rfl,hc3,ht3,hs3⟩:=alS
 refine L.o (O.call (xs:=[.tmp 62,.tmp 63]) call28 rfl rfl (MK _ 0 c2 c3 t2 t3 ZP w5 (hc31.ext he5) (alQ.ext he5) hc3 ht3 hs2 hs3 hsm) (fun v64 w64 hq=>?_))
 obtain ⟨rfl,adR⟩:=hq
 refine L.o (O.ah rfl rfl (L.m rfl (L.m rfl (L.o (O.iF rfl rfl rfl (L.o (O.ah rfl rfl (L.m rfl (L.m rfl (L.o (O.iF rfl rfl rfl (?_))))))))))))
 have alT:=aik.trans (he5.trans adR)
 refine L.o (O.ah rfl rfl (L.m rfl (L.o (O.buildSlice (el:=3) (parts:=[(0,.const (.int .i64 0)),(1,.const (.int .i64 1)),(2,.const (.int .i64 0))]) (vs:=[(0,_),(1,_),(2,_)]) (cs:=([0,1,0].map (Value.int .i64))) rfl (fun w=>by kernel_rfl) (fun b75 w75 anu aia aav alU=>?_)))))
 have ain:=alT.trans aav
 refine L.o (O.call (xs:=[_,.tmp 75]) call51 rfl rfl (Ub 0 ([117,110,105,116,44,100,105,115,116,114,105,99,116,10,98,44,50,10,97,44,49,10,99,44,49,10]) _ [0,1,0] w75 (hL.ext ain) (by decide) (Ints.ay alU rfl (by decide) (Nat.zero_le _)) ZR) (fun v76 w76 hq=>?_))
 obtain ⟨rfl,alV⟩:=hq
 have aio:=ain.trans alV
 refine L.o (O.ah rfl rfl (L.m rfl (L.o (O.call (xs:=[_,.const (.int .i64 0),.const (.int .i64 4)]) call16 rfl rfl (rQ ([117,110,105,116,44,100,105,115,116,114,105,99,116,10,97,44,49,10,99,44,49,10]) 0 4 w76 (hL.ext aio) (by decide) Xa) (fun anv alW hq=>?_)))))
 obtain ⟨rfl,agC⟩:=hq
 have acT:=aio.trans agC
 refine L.o (O.ah rfl rfl (L.m rfl (L.o (O.call (xs:=[_,.const (.int .i64 2),.const (.int .i64 5)]) call16 rfl rfl (rQ ([117,110,105,116,44,100,105,115,116,114,105,99,116,10,97,44,57,10,98,44,50,10,99,44,49,10]) 2 5 alW (hL.ext acT) (by decide) Xb) (fun anw alX hq=>?_)))))
 obtain ⟨rfl,agD⟩:=hq
 have acU:=acT.trans agD
 refine L.o (O.ah rfl rfl (L.m rfl (L.o (O.call (xs:=[_,.const (.int .i64 5),.const (.int .i64 5)]) call16 rfl rfl (rQ ([117,110,105,116,44,100,105,115,116,114,105,99,116,10,97,44,49,10,98,44,50,10,99,44,49,10,97,44,49,10]) 5 5 alX (hL.ext acU) (by decide) Xc) (fun anx alY hq=>?_)))))
 obtain ⟨rfl,agE⟩:=hq
 have acV:=acU.trans agE
 refine L.o (O.ah rfl rfl (L.m rfl (L.o (O.o8 runUnderlying9 rfl rfl (by decide) (by decide) (L.o (O.call (xs:=[.tmp 88,.const (.int .i64 4),.const (.int .i64 5)]) call16 rfl rfl (rQ ([117,110,105,116,44,100,105,115,116,114,105,99,116,10,97,44,49,10,98,44,50,10,99,44,49]) 4 5 alY (hL.ext acV) (by decide) Xd) (fun anz alZ hq=>?_)))))))
 obtain ⟨rfl,agF⟩:=hq
 have acW:=acV.trans agF
 refine L.o (O.ah rfl rfl (L.m rfl (L.o (O.o8 runUnderlying9 rfl rfl (by decide) (by decide) (L.o (O.call (xs:=[.tmp 92,.const (.int .i64 0),.const (.int .i64 5)]) call17 rfl rfl (Kv (Ia.take 61) 0 5 alZ (hL.ext acW) (by decide) Xe) (fun anA anB hq=>?_)))))))
 obtain ⟨rfl,agG⟩:=hq
 refine L.o (O.ah rfl rfl (L.a rfl (L.nil (T.aU results10 rfl ⟨rfl,acW.trans agG⟩))))
end Go.Proofs.YtnlonpcbgjbbaaaGreatDoor
