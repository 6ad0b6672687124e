/-
  BlocksOver, part 18 of its proof: that it returns true for every input, and each argument reads behind the call as it read before. Conditions: the listed variables read as the program's text lays them (tied by the card).
-/
import Derived.Test.YtnlonpcbgjbbaaaGreatDoorWBlocksOver17
import Derived.Test.YtnlonpcbgjbbaaaGreatDoorWBlocksOver12
set_option linter.unusedVariables false
set_option linter.unusedSimpArgs false
set_option maxRecDepth 20000
set_option linter.unusedVariables false
set_option linter.unusedSimpArgs false
set_option maxRecDepth 20000
namespace Go.Proofs.YtnlonpcbgjbbaaaGreatDoor
open Go.Proofs.Tryz (call11 call12 call13 call130 call131 call132 call14 call16 call17 call19 call20 call21 call28 call37 call46 call51 call74 func10 func11 func130 func132 func16 func17 func20 func28 func46 func51 func74 isAgg124 isAgg127 isAgg23 isAgg25 isAgg3 isAgg30 isAgg43 isAgg44 isAgg46 isAgg48 ntmps10 ntmps11 ntmps130 ntmps132 ntmps16 ntmps17 ntmps20 ntmps28 ntmps46 ntmps51 ntmps74 results10 results11 results130 results132 results16 results17 results20 results28 results46 results51 results74 runUnderlying125 runUnderlying23 runUnderlying237 runUnderlying25 runUnderlying30 runUnderlying31 runUnderlying43 runUnderlying44 runUnderlying46 runUnderlying48 runUnderlying9 sizeOf124 sizeOf127 sizeOf23 sizeOf25 sizeOf3 sizeOf30 sizeOf43 sizeOf44 sizeOf46 sizeOf48 zeroValue25 zeroValue48)
open Go Go.E RowKit
attribute [local irreducible] Go.E.T Go.E.L Go.E.O Go.E.Ob

attribute [local irreducible] Go.E.ObX Go.E.ObG Go.E.ObK
theorem O.neqPt_f {C:Cx} {e:Env} {w:World} {K:Value→World→Prop} {d:Option Tmp} {ty:TypeId} {pos:String} {aft:Array Edge} {g:Option (Nat × Bool)} {x y:Operand} {p:Pt} (hP:C.P=Tryz.prog) (hx:ev e x=some (pV p)) (hy:ev e y=some (pV p)) (h:K (.bool false) w):O C e ⟨d,.binOp .neq 124 x y 124,ty,pos,aft,g⟩ w K :=
 O.of_run (by simp) (fun ac hq=>by
  rw [hP]
  have h1:=eqPt p p w
  unfold pV at hx hy h1
  simp only [execOp,hq.eval hx,hq.eval hy,Sem.run_bind,run_eqGuard_agg w _ _ _ _ _ _ eqPt_guard,Result.andThen_ok,run_neq_struct,h1,decide_true]
  rfl) h
def RiS (f:FaV) (v:Value) (W:World):Prop:=Sl 0 W v f.ri.length 1 (riCells f.ri)
theorem RiS.st {f:FaV} : ∀ v w w',Ext w w'→RiS f v w→RiS f v w':=fun _ _ _ k h=>Sl.ext h k
theorem face_same {f g:FaV} (h:faceP f=faceP g):f.ri.length=g.ri.length∧∀ k,(f.ri.getD k r0).xs=(g.ri.getD k r0).xs:=by
 have h1:f.o.xs=g.o.xs:=congrArg Prod.fst h
 have h2:f.hs.map (·.xs)=g.hs.map (·.xs):=congrArg Prod.snd h
 have h3:f.ri.map (·.xs)=g.ri.map (·.xs):=by simp only [FaV.ri,List.map_cons,h1,h2]
 refine ⟨by simpa using congrArg List.length h3,fun k=>?_⟩
 have e1:=getD_map' (f:=fun x:RiV=>x.xs) (d:=r0) (e:=[]) rfl f.ri k
 have e2:=getD_map' (f:=fun x:RiV=>x.xs) (d:=r0) (e:=[]) rfl g.ri k
 rw [← e1,← e2,h3]
theorem same14_yes (lo lo2:Nat) (p q:Value) (ps:List Pt) (w:World) (hp:Pts lo w p ps) (hq:Pts lo2 w q ps) :
  Calls Tryz.prog 130 #[p,q] w (Ret fun v w'=>v = .bool true∧Ext w w'):=by
 have hle:=Sl.le hp
 refine T.enter (vs:=[p,q]) func130 rfl ntmps130 rfl ?_
 refine T.q (L.a rfl (L.nil (T.seq (T.q (L.m rfl (L.o (O.len runUnderlying237 rfl (Sl.val hp) (L.m rfl (L.o (O.len runUnderlying237 rfl (Sl.val hq) (L.o (O.neq_f rfl rfl (by omega) (L.nil (T.cf (T.skip (T.seq (T.q (L.a rfl (L.nil (T.block (?_)))))))))))))))))))))
 refine T.loop (σ:=Nat) (fun i=>[(0,p),(1,q),(5,.int .i64 i)]) (fun i w'=>i≤ps.length∧Ext w w') (fun i=>ps.length-i) (0) ⟨rfl,rfl,rfl,trivial⟩ ⟨Nat.zero_le _,Keep.refl _ _⟩ ?_
 rintro i w1 ⟨hi,he1⟩
 have hp1:=hp.ext he1
 have hq1:=hq.ext he1
 refine T.seq (T.q (L.m rfl (L.m rfl (L.o (O.len runUnderlying237 rfl (Sl.val hp1) (L.o (O.lss_s rfl rfl (fun hlt=>?_) (fun hlt=>?_))))))))
 ·refine L.nil (?_)
  have hlt':i<ps.length:=by omega
  refine T.ct (T.skip (T.seq (T.block (T.seq (?_)))))
  refine T.anyE mixed 8 [0,5,1] rfl [.is _,.is _,.is _,.is _,.is _,.is _,.is _,.is _] [[],[],[0,1],[2],[],[],[4,5],[6]] [[],[],[0,1],[0,1,2],[],[],[4,5],[4,5,6],[0,1,2,3,4,5,6,7]] (by kernel_rfl) (by kernel_rfl) rfl (by kernel_rfl) trivial ⟨fun wx hx=>Ob.o (O.move rfl kR),
    fun wx hx=>Ob.o (O.move rfl kR),
    fun wx hx=>Ob.o (O.indexAddr runUnderlying237 sizeOf124 rfl rfl (hp1.ext hx) (by omega) (by omega) kR),
    fun wx hx=>Ob.o (O.loadAgg isAgg124 sizeOf124 rfl rfl ((hp1.ext hx).row hlt') kR),
    fun wx hx=>Ob.o (O.move rfl kR),
    fun wx hx=>Ob.o (O.move rfl kR),
    fun wx hx=>Ob.o (O.indexAddr runUnderlying237 sizeOf124 rfl rfl (hq1.ext hx) (by omega) (by omega) kR),
    fun wx hx=>Ob.o (O.loadAgg isAgg124 sizeOf124 rfl rfl ((hq1.ext hx).row hlt') kR),
    trivial⟩ (fun w2 he2=>?_)
  refine L.o (O.neqPt_f (p:=ps.getD i (0,0)) rfl rfl rfl (L.nil (T.cf (T.skip (T.blk (T.region (L.m rfl (L.o (O.add64 rfl rfl (by omega) (L.a rfl (L.nil (T.again (i+1) (by omega) ⟨rfl,rfl,rfl,trivial⟩ ⟨hlt',he1.trans he2⟩))))))))))))
 ·refine L.nil (T.cf (T.exit rfl (T.q (L.a rfl (L.nil (T.ret1 results130 rfl ⟨rfl,he1⟩))))))

theorem alike15_yes (lo lo2:Nat) (p q:Value) (xs ys:List Int) (w:World) (hp:Ints .i64 lo w p xs) (hq:Ints .i64 lo2 w q ys) (hxy:xs=ys) :
  Calls Tryz.prog 132 #[p,q] w (Ret fun v w'=>v = .bool true∧Ext w w'):=by
 subst hxy
 have hle:=Sl.le hp
 refine T.enter (vs:=[p,q]) func132 rfl ntmps132 rfl ?_
 refine T.q (L.a rfl (L.nil (T.seq (T.q (L.m rfl (L.o (O.len runUnderlying30 rfl (Sl.val hp) (L.m rfl (L.o (O.len runUnderlying30 rfl (Sl.val hq) (L.o (O.neq_f rfl rfl (by omega) (L.nil (T.cf (T.skip (T.seq (T.q (L.a rfl (L.nil (T.block (?_)))))))))))))))))))))
 refine T.loop (σ:=Nat) (fun i=>[(0,p),(1,q),(5,.int .i64 i)]) (fun i w'=>i≤xs.length∧Ext w w') (fun i=>xs.length-i) (0) ⟨rfl,rfl,rfl,trivial⟩ ⟨Nat.zero_le _,Keep.refl _ _⟩ ?_
 rintro i w1 ⟨hi,he1⟩
 have hp1:=hp.ext he1
 have hq1:=hq.ext he1
 refine T.seq (T.q (L.m rfl (L.m rfl (L.o (O.len runUnderlying30 rfl (Sl.val hp1) (L.o (O.lss_s rfl rfl (fun hlt=>?_) (fun hlt=>?_))))))))
 ·refine L.nil (?_)
  have hlt':i<xs.length:=by omega
  refine T.ct (T.skip (T.seq (T.block (T.seq (?_)))))
  refine T.anyE mixed 8 [0,5,1] rfl [.is _,.is _,.is _,.is _,.is _,.is _,.is _,.is _] [[],[],[0,1],[2],[],[],[4,5],[6]] [[],[],[0,1],[0,1,2],[],[],[4,5],[4,5,6],[0,1,2,3,4,5,6,7]] (by kernel_rfl) (by kernel_rfl) rfl (by kernel_rfl) trivial ⟨fun wx hx=>Ob.o (O.move rfl kR),
    fun wx hx=>Ob.o (O.move rfl kR),
    fun wx hx=>Ob.o (O.indexAddr runUnderlying30 sizeOf3 rfl rfl (hp1.ext hx) (by omega) (by omega) kR),
    fun wx hx=>Ob.o (O.load isAgg3 rfl (Ints.at (hp1.ext hx) hlt') kR),
    fun wx hx=>Ob.o (O.move rfl kR),
    fun wx hx=>Ob.o (O.move rfl kR),
    fun wx hx=>Ob.o (O.indexAddr runUnderlying30 sizeOf3 rfl rfl (hq1.ext hx) (by omega) (by omega) kR),
    fun wx hx=>Ob.o (O.load isAgg3 rfl (Ints.at (hq1.ext hx) hlt') kR),
    trivial⟩ (fun w2 he2=>?_)
  refine L.o (O.neq_f rfl rfl (by simp) (L.nil (T.cf (T.skip (T.blk (T.region (L.m rfl (L.o (O.add64 rfl rfl (by omega) (L.a rfl (L.nil (T.again (i+1) (by omega) ⟨rfl,rfl,rfl,trivial⟩ ⟨hlt',he1.trans he2⟩))))))))))))
 ·refine L.nil (T.cf (T.exit rfl (T.q (L.a rfl (L.nil (T.ret1 results132 rfl ⟨rfl,he1⟩))))))

set_option maxHeartbeats 1000000 in
theorem same15_yes (lo lo2:Nat) (c c':CxV) (w:World) (hc:c.ok lo w) (hc':c'.ok lo2 w) (hps:c.ps=c'.ps) (hfs:c.fs.map faceP=c'.fs.map faceP) (hn:∀ f∈c.fs,f.hs.length≤100000) :
  Calls Tryz.prog 74 #[c.val,c'.val] w (Ret fun v w'=>v = .bool true∧Ext w w'):=by
 have hl:c.fs.length=c'.fs.length:=by simpa using congrArg List.length hfs
 have hfi:∀ i,i<c.fs.length→faceP (c.fs.getD i f0)=faceP (c'.fs.getD i f0):=fun i hi ↦ by
  have e1:=getD_map' (f:=faceP) (d:=f0) (e:=faceP f0) rfl c.fs i
  have e2:=getD_map' (f:=faceP) (d:=f0) (e:=faceP f0) rfl c'.fs i
  rw [← e1,← e2,hfs]
 have hn2:∀ f∈c'.fs,f.hs.length≤100000:=fun f hf ↦ by
  obtain ⟨i,hi,rfl⟩:=List.getElem_of_mem hf
  have h1:=hfi i (by omega)
  rw [getD_get (show i<c'.fs.length from hi),getD_get (show i<c.fs.length by omega)] at h1
  have h2:=congrArg (fun x=>(Prod.snd x).length) h1
  simp only [faceP,List.length_map] at h2
  rw [← h2]
  exact hn _ (List.getElem_mem _)
 refine T.enter (vs:=[c.val,c'.val]) func74 rfl ntmps74 rfl ?_
 refine T.q (L.o (O.box rfl (fun b2 w2 hb2 hz2 he2 hB2=>?_)))
 refine L.o (O.box rfl (fun b3 w3 hb3 hz3 he3 hB3=>?_))
 have he:=he2.trans he3
 have hC1:Blk w3 b2 c.cells 46:=Blk.ext (cs:=c.cells) hB2 he3
 have hC2:Blk w3 b3 c'.cells 46:=hB3
 have hc3:=hc.ext he
 have hc3':=hc'.ext he
 have hla:=Sl.le hc3.sl
 refine L.a rfl (L.nil (T.seq (T.q (L.o (O.fieldAddr runUnderlying46 rfl sizeOf43 rfl (L.o (O.load isAgg43 rfl (hC1.cell rfl) (L.o (O.fieldAddr runUnderlying46 rfl sizeOf43 rfl (L.o (O.load isAgg43 rfl (hC2.cell rfl) (L.o (O.call (xs:=[.tmp 10,.tmp 12]) call130 rfl rfl (same14_yes lo lo2 c.pv c'.pv c.ps w3 hc3.p (by rw [hps];exact hc3'.p)) (fun v13 w13 hq=>?_))))))))))))))
 obtain ⟨rfl,he13⟩:=hq
 refine L.o (O.not rfl (L.m rfl (L.o (O.fieldAddr runUnderlying46 rfl sizeOf44 rfl (L.o (O.load isAgg44 rfl ((Blk.ext (cs:=c.cells) hC1 he13).cell rfl) (L.o (O.len runUnderlying44 rfl (Sl.val ((hc3.ext he13).sl)) (L.o (O.fieldAddr runUnderlying46 rfl sizeOf44 rfl (L.o (O.load isAgg44 rfl ((Blk.ext (cs:=c'.cells) hC2 he13).cell rfl) (L.o (O.len runUnderlying44 rfl (Sl.val ((hc3'.ext he13).sl)) (L.o (O.neq_f rfl rfl (by omega) (L.o (O.pick_false rfl rfl (L.nil (T.cf (T.skip (T.seq (T.q (L.a rfl (L.nil (T.block (?_)))))))))))))))))))))))))))
 refine T.loop (σ:=Nat) (fun i=>[(2,.pointer (some ⟨b2,0,none⟩)),(3,.pointer (some ⟨b3,0,none⟩)),(5,.int .i64 i)]) (fun i w'=>i≤c.fs.length∧Ext w3 w') (fun i=>c.fs.length-i) (0) ⟨rfl,rfl,rfl,trivial⟩ ⟨Nat.zero_le _,he13⟩ ?_
 rintro i w14 ⟨hi,he14⟩
 have hD1:=Blk.ext (cs:=c.cells) hC1 he14
 have hD2:=Blk.ext (cs:=c'.cells) hC2 he14
 have hc14:=hc3.ext he14
 have hc14':=hc3'.ext he14
 refine T.seq (T.q (L.m rfl (L.o (O.fieldAddr runUnderlying46 rfl sizeOf44 rfl (L.o (O.load isAgg44 rfl (hD1.cell rfl) (L.o (O.len runUnderlying44 rfl (Sl.val hc14.sl) (L.o (O.lss_s rfl rfl (fun hlt=>?_) (fun hlt=>?_)))))))))))
 ·refine L.nil (?_)
  have hlt':i<c.fs.length:=by omega
  have hfe:=face_same (hfi i hlt')
  have hm1:c.fs.getD i f0∈c.fs:=by rw [getD_get hlt'];exact List.getElem_mem hlt'
  have hm2:c'.fs.getD i f0∈c'.fs:=by rw [getD_get (show i<c'.fs.length by omega)];exact List.getElem_mem _
  refine T.ct (T.skip (T.seq (T.block (T.seq (?_)))))
  refine T.anyE mixed 11 [2,5,3] rfl [.is _,.is _,.is _,.is _,.is _,.such (RiS (c.fs.getD i f0)),.is _,.is _,.is _,.is _,.is _] [[],[0],[],[1,2],[3],[4],[],[6],[],[7,8],[9]] [[],[0],[],[0,1,2],[0,1,2,3],[0,1,2,3,4],[],[6],[],[6,7,8],[6,7,8,9],[0,1,2,3,4,5,6,7,8,9,10],[0,1,2,3,4,5,6,7,8,9,10,11],[0,1,2,3,4,5,6,7,8,9,10,11,12]] (by kernel_rfl) (by kernel_rfl) rfl (by kernel_rfl) ⟨RiS.st,trivial⟩ ⟨fun wx hx=>Ob.o (O.fieldAddr runUnderlying46 rfl sizeOf44 rfl kR),
    fun wx hx=>Ob.o (O.load isAgg44 rfl ((Blk.ext (cs:=c.cells) hD1 hx).cell rfl) kR),
    fun wx hx=>Ob.o (O.move rfl kR),
    fun wx hx=>Ob.o (O.indexAddr runUnderlying44 sizeOf127 rfl rfl ((hc14.ext hx).sl) (by omega) (by omega) kR),
    fun wx hx=>Ob.o (O.loadAgg isAgg127 sizeOf127 rfl rfl ((hc14.ext hx).row hlt') kR),
    fun wx hx=>Ob.o (O.call (xs:=[.tmp 35]) call131 rfl rfl (rRings_calls lo (c.fs.getD i f0) wx ((hc14.ext hx).at hlt') (hn _ hm1)) (fun v wy h=>⟨h.1,Sl.mono h.2.1 (Nat.zero_le _)⟩)),
    fun wx hx=>Ob.o (O.fieldAddr runUnderlying46 rfl sizeOf44 rfl kR),
    fun wx hx=>Ob.o (O.load isAgg44 rfl ((Blk.ext (cs:=c'.cells) hD2 hx).cell rfl) kR),
    fun wx hx=>Ob.o (O.move rfl kR),
    fun wx hx=>Ob.o (O.indexAddr runUnderlying44 sizeOf127 rfl rfl ((hc14'.ext hx).sl) (by omega) (by omega) kR),
    fun wx hx=>Ob.o (O.loadAgg isAgg127 sizeOf127 rfl rfl ((hc14'.ext hx).row (by omega)) kR),
    trivial⟩ (fun w6 he6 v36 hv36=>?_)
  refine L.o (O.call (xs:=[.tmp 41]) call131 rfl rfl (rRings_calls lo2 (c'.fs.getD i f0) w6 ((hc14'.ext he6).at (by omega)) (hn2 _ hm2)) (fun v42 w42 hq=>?_))
  obtain ⟨he42,hS42,_⟩:=hq
  have hR1:RiS (c.fs.getD i f0) v36 w42:=RiS.st _ _ _ he42 hv36
  have hR2:RiS (c'.fs.getD i f0) v42 w42:=Sl.mono hS42 (Nat.zero_le _)
  have he642:=he6.trans he42
  obtain ⟨oa,ca,rfl,_,hca⟩:=Sl.val hR1
  obtain ⟨ob,cb,rfl,_,hcb⟩:=Sl.val hR2
  refine L.a rfl (L.a rfl (L.nil (T.seq (T.q (L.m rfl (L.o (O.len runUnderlying125 rfl (Sl.val hR1) (L.m rfl (L.o (O.len runUnderlying125 rfl (Sl.val hR2) (L.o (O.neq_f rfl rfl (by have:=hfe.1;omega) (L.nil (T.cf (T.skip (T.q (L.a rfl (L.nil (T.block (?_))))))))))))))))))))
  refine T.loop (σ:=Nat) (fun k=>[(2,.pointer (some ⟨b2,0,none⟩)),(3,.pointer (some ⟨b3,0,none⟩)),(5,.int .i64 i),(6,.slice oa (c.fs.getD i f0).ri.length ca),(7,.slice ob (c'.fs.getD i f0).ri.length cb),(8,.int .i64 k)]) (fun k w'=>k≤(c.fs.getD i f0).ri.length∧Ext w42 w') (fun k=>(c.fs.getD i f0).ri.length-k) (0) ⟨rfl,rfl,rfl,rfl,rfl,rfl,trivial⟩ ⟨Nat.zero_le _,Keep.refl _ _⟩ ?_
  rintro k w15 ⟨hk,he15⟩
  have hS1:Sl 0 w15 (.slice oa (c.fs.getD i f0).ri.length ca) (c.fs.getD i f0).ri.length 1 (riCells (c.fs.getD i f0).ri):=Sl.ext hR1 he15
  have hS2:Sl 0 w15 (.slice ob (c'.fs.getD i f0).ri.length cb) (c'.fs.getD i f0).ri.length 1 (riCells (c'.fs.getD i f0).ri):=Sl.ext hR2 he15
  have hla2:=Sl.le hS1
  refine T.seq (T.q (L.m rfl (L.m rfl (L.o (O.len runUnderlying125 rfl (Sl.val hS1) (L.o (O.lss_s rfl rfl (fun hkl=>?_) (fun hkl=>?_))))))))
  ·refine L.nil (?_)
   have hk1:k<(c.fs.getD i f0).ri.length:=by omega
   have hk2:k<(c'.fs.getD i f0).ri.length:=by omega
   have hO1:=((hc14.ext (he642.trans he15)).at hlt').ri _ (show (c.fs.getD i f0).ri.getD k r0∈_ by rw [getD_get hk1];exact List.getElem_mem hk1)
   have hO2:=((hc14'.ext (he642.trans he15)).at (show i<c'.fs.length by omega)).ri _ (show (c'.fs.getD i f0).ri.getD k r0∈_ by rw [getD_get hk2];exact List.getElem_mem hk2)
   refine T.ct (T.skip (T.seq (T.block (T.seq (?_)))))
   refine T.anyE mixed 8 [6,8,7] rfl [.is _,.is _,.is _,.is _,.is _,.is _,.is _,.is _] [[],[],[0,1],[2],[],[],[4,5],[6]] [[],[],[0,1],[0,1,2],[],[],[4,5],[4,5,6],[0,1,2,3,4,5,6,7],[0,1,2,3,4,5,6,7,8]] (by kernel_rfl) (by kernel_rfl) rfl (by kernel_rfl) trivial ⟨fun wx hx=>Ob.o (O.move rfl kR),
     fun wx hx=>Ob.o (O.move rfl kR),
     fun wx hx=>Ob.o (O.indexAddr runUnderlying125 sizeOf30 rfl rfl (Sl.ext hS1 hx) (by omega) (by omega) kR),
     fun wx hx=>Ob.o (O.load isAgg30 rfl (Sl.at1 (Sl.ext hS1 hx) (ri_get hk1)) kR),
     fun wx hx=>Ob.o (O.move rfl kR),
     fun wx hx=>Ob.o (O.move rfl kR),
     fun wx hx=>Ob.o (O.indexAddr runUnderlying125 sizeOf30 rfl rfl (Sl.ext hS2 hx) (by omega) (by omega) kR),
     fun wx hx=>Ob.o (O.load isAgg30 rfl (Sl.at1 (Sl.ext hS2 hx) (ri_get hk2)) kR),
     trivial⟩ (fun w12 he12=>?_)
   refine L.o (O.call (xs:=[.tmp 57,.tmp 61]) call132 rfl rfl (alike15_yes lo lo2 _ _ _ _ w12 (hO1.ext he12) (hO2.ext he12) (hfe.2 k)) (fun v62 w62 hq=>?_))
   obtain ⟨rfl,he62⟩:=hq
   refine L.o (O.not rfl (L.nil (T.cf (T.skip (T.blk (T.region (L.m rfl (L.o (O.add64 rfl rfl (by omega) (L.a rfl (L.nil (T.again (k+1) (by omega) ⟨rfl,rfl,rfl,rfl,rfl,rfl,trivial⟩ ⟨hk1,he15.trans (he12.trans he62)⟩))))))))))))
  ·refine L.nil (T.cf (T.exit rfl (T.blk (T.region (L.m rfl (L.o (O.add64 rfl rfl (by omega) (L.a rfl (L.nil (T.again (i+1) (by omega) ⟨rfl,rfl,rfl,trivial⟩ ⟨hlt',he14.trans (he642.trans he15)⟩))))))))))
 ·refine L.nil (T.cf (T.exit rfl (T.q (L.a rfl (L.nil (T.ret1 results74 rfl ⟨rfl,he.trans he14⟩))))))

open Go Go.E RowKit

/-- Whether a roll is valid, worked out. -/
def rollB (r:RoV):Bool:=(bndBs r).all id && (List.range r.us.length).all fun j=>rightOk r (r.us.getD j u0) && ((List.range j).all fun k=>!decide ((r.us.getD k u0).nm=(r.us.getD j u0).nm) && (!(r.us.getD k u0).wt || (r.us.getD j u0).wt)) && (!decide (j=0) || !(r.us.getD j u0).wt)
theorem rollB_iff (r:RoV):rollB r=true↔RollOk r:=by
 unfold rollB
 rw [Bool.and_eq_true]
 constructor
 ·rintro ⟨h1,h2⟩
  refine ⟨h1,fun j hj=>?_⟩
  have:=List.all_eq_true.1 h2 j (List.mem_range.2 hj)
  simp only [Bool.and_eq_true,List.all_eq_true,List.mem_range,Bool.or_eq_true,Bool.not_eq_true',decide_eq_false_iff_not] at this
  obtain ⟨⟨a,b⟩,c⟩:=this
  exact ⟨a,fun k hk=>(b k hk).1,fun k hk hw=>(b k hk).2.resolve_left (by rw [hw];decide),fun h0=>c.resolve_left (fun h=>h h0)⟩
 ·rintro ⟨h1,h2⟩
  refine ⟨h1,List.all_eq_true.2 fun j hj=>?_⟩
  obtain ⟨a,b,c,d⟩:=h2 j (List.mem_range.1 hj)
  simp only [Bool.and_eq_true,List.all_eq_true,List.mem_range,Bool.or_eq_true,Bool.not_eq_true',decide_eq_false_iff_not]
  refine ⟨⟨a,fun k hk=>⟨b k hk,?_⟩⟩,?_⟩
  ·cases hw:(r.us.getD k u0).wt
   ·exact .inl rfl
   ·exact .inr (c k hk hw)
  ·by_cases h0:j=0
   ·exact .inr (d h0)
   ·exact .inl h0
theorem rollErr_eq (r:RoV):rollErr r=if rollB r then 0 else 161:=by
 cases h:rollB r
 ·exact rollErr_no (fun hk=>by rw [(rollB_iff r).2 hk] at h;cases h)
 ·exact rollErr_ok ((rollB_iff r).1 h)
theorem nmA_strip (us:List UnV):nmA (us.map stripU)=nmA us:=by
 funext i
 unfold nmA
 rw [getD_stripU];rfl
theorem landsN_strip:∀ us:List UnV,landsN (us.map stripU)=landsN us
 | []=>rfl
 | u::r=>by
  simp only [List.map_cons,landsN]
  rw [landsN_strip r];rfl
/-- What Read gives, worked out. -/
def readC (r:RoV) (t:Str):List Int × Nat × Int:=if rollB r then readOk (nmA r.us) (landsN r.us) t else ([],0,161)
theorem readRes_eq (r:RoV) (t:Str):readRes r t=readC (stripR r) t:=by
 by_cases h:RollOk r
 ·rw [readRes_ok h,readC,(rollB_iff _).2 ((rollOk_strip r).2 h),if_pos rfl]
  show _=readOk (nmA (r.us.map stripU)) (landsN (r.us.map stripU)) t
  rw [nmA_strip,landsN_strip]
 ·rw [readRes_bad h,readC,if_neg (fun k=>h ((rollOk_strip r).1 ((rollB_iff _).1 k)))]
def overC (r:RoV) (xs:List Int) (t:Str):List Int × Nat × Int:=if rollB r then (if fitsB xs (landsN r.us)=true then asgRes (nmA r.us) xs t else ([],0,2)) else ([],0,161)
theorem overRes_eq (r:RoV) (xs:List Int) (t:Str):overRes r xs t=overC (stripR r) xs t:=by
 by_cases h:RollOk r
 ·rw [overRes_ok h,overC,(rollB_iff _).2 ((rollOk_strip r).2 h),if_pos rfl]
  show _=if fitsB xs (landsN (r.us.map stripU))=true then asgRes (nmA (r.us.map stripU)) xs t else _
  rw [nmA_strip,landsN_strip]
 ·rw [overRes_bad h,overC,if_neg (fun k=>h ((rollOk_strip r).1 ((rollB_iff _).1 k)))]
def errC (s:PS):Int:=if cxBad s.cx then 150 else if rollB s.ro then (if s.ro.us.length≠s.cx.fs.length then 160 else 0) else 161
theorem errP_eq (s:PS):errP s=errC s:=by
 unfold errP errC landErr
 rw [rollErr_eq]
 cases cxBad s.cx <;> cases rollB s.ro <;> rfl
/-- What Parse gives, worked out. -/
def parseC (t:Str):PS ⊕ (Int × Int) :=
 if 40000<t.length then .inr (0,3) else match runL (fun s l=>stepQ s (wordsR [] l)) PS0 (wordsL 10 t) 1 with
 | .inr n=>.inr ((n:Int),5)
 | .inl s=>if s.last=kEnd then (if errC s=0 then .inl s else .inr (0,errC s)) else .inr (0,5)
theorem parseP_eq (t:Str):parseP t=parseC t:=by
 have e:stepP=fun s l=>stepQ s (wordsR [] l):=by funext s l;exact stepP_eq s l
 unfold parseP parseC
 rw [e]
 simp only [errP_eq]
 rfl
def rollP:RoV:=⟨1,2,1,undef,[⟨[97],10,.slice none 0 0,[4],.slice none 0 0,[3,5],.slice none 0 0,[7],false⟩,⟨[98],20,.slice none 0 0,[0],.slice none 0 0,[9,1],.slice none 0 0,[2],false⟩,⟨[99],5,.slice none 0 0,[5],.slice none 0 0,[0,0],.slice none 0 0,[7],false⟩,⟨[119],0,.slice none 0 0,[0],.slice none 0 0,[0,0],.slice none 0 0,[0],true⟩]⟩
/-- A unit of the examples. -/
def uK (nm:Str) (pp:Int) (bg bv bp:Nat) (gs vs ps:List Int) (wt:Bool):UnV:=⟨nm,pp,.slice (some ⟨bg,0,none⟩) gs.length gs.length,gs,.slice (some ⟨bv,0,none⟩) vs.length vs.length,vs,.slice (some ⟨bp,0,none⟩) ps.length ps.length,ps,wt⟩
theorem uK_ok {lo:Nat} {w:World} {nm:Str} {pp:Int} {bg bv bp:Nat} {gs vs ps:List Int} {wt:Bool} (hn:nm.length≤9223372036854775807) (hg:Blk w bg (gs.map (.int .i64)) 3) (hv:Blk w bv (vs.map (.int .i64)) 3) (hp:Blk w bp (ps.map (.int .i64)) 3) (lg:lo≤bg) (lv:lo≤bv) (lp:lo≤bp) (mg:gs.length≤maxLen) (mv:vs.length≤maxLen) (mp:ps.length≤maxLen):(uK nm pp bg bv bp gs vs ps wt).ok lo w :=
 ⟨Ints.of_blk hg rfl mg lg,Ints.of_blk hv rfl mv lv,Ints.of_blk hp rfl mp lp,hn⟩
theorem rollK_one (r:RoV) (h:r.uv.oneCell'=true):∀ c∈r.cells,c.oneCell'=true:=fun c hc=>by
 simp only [RoV.cells,List.mem_cons,List.not_mem_nil,or_false] at hc
 rcases hc with rfl|rfl|rfl|rfl
 ·rfl
 ·rfl
 ·rfl
 ·exact h
def triS:PS:=⟨[(0,0),(4,0),(0,4)],[([0,1,2],[])],0,0,0,[⟨[97],3,[],[],[],false⟩],kEnd⟩
def triF (b:Nat):FaV:=⟨⟨.slice (some ⟨b,0,none⟩) 3 3,[0,1,2]⟩,.slice none 0 0,[]⟩
def triC (b4 b5 b7:Nat):CxV:=⟨.slice (some ⟨b4,0,none⟩) 3 3,[(0,0),(4,0),(0,4)],.slice (some ⟨b7,0,none⟩) 1 1,[triF b5]⟩
def triU:UnV:=⟨[97],3,.slice none 0 0,[],.slice none 0 0,[],.slice none 0 0,[],false⟩
def triR (b10:Nat):RoV:=⟨0,0,0,.slice (some ⟨b10,0,none⟩) 1 1,[triU]⟩
theorem triC_ok {lo b4 b5 b7:Nat} {w:World} (h4:Blk w b4 (pcs [(0,0),(4,0),(0,4)]) 124) (h5:Blk w b5 ([0,1,2].map (Value.int .i64)) 3) (h7:Blk w b7 (fcells [triF b5]) 127) (l4:lo≤b4) (l5:lo≤b5) (l7:lo≤b7):(triC b4 b5 b7).ok lo w:=by
 refine ⟨Sl.of_blk (n:=3) (sz:=2) h4 rfl (Nat.le_refl _) (by decide) l4,Sl.of_blk (n:=1) (sz:=2) h7 rfl (Nat.le_refl _) (by decide) l7,fun f hf=>?_⟩
 rw [List.mem_singleton.1 hf]
 exact ⟨Ints.of_blk h5 rfl (by decide) l5,Sl.nil _ _ _,fun h hh=>by cases hh⟩
theorem triR_ok {lo b10:Nat} {w:World} (h:Blk w b10 (ucells [triU]) 51) (l:lo≤b10):(triR b10).ok lo w:=by
 refine ⟨Sl.of_blk (n:=1) (sz:=6) h rfl (Nat.le_refl _) (by decide) l,fun u hu=>?_⟩
 rw [List.mem_singleton.1 hu]
 exact ⟨Sl.nil _ _ _,Sl.nil _ _ _,Sl.nil _ _ _,by decide⟩
theorem triangleB_calls (w:World) :
  Calls Tryz.prog 20 #[] w (Ret fun v w'=>∃ b4 b5 b7 b10,v = .agg (landC (triC b4 b5 b7) (triR b10)).toArray∧(w.heap.size≤b4∧w.heap.size≤b5∧w.heap.size≤b7∧w.heap.size≤b10)∧Blk w' b4 (pcs [(0,0),(4,0),(0,4)]) 124∧Blk w' b5 ([0,1,2].map (Value.int .i64)) 3∧Blk w' b7 (fcells [triF b5]) 127∧Blk w' b10 (ucells [triU]) 51∧Ext w w'):=by
 refine T.enter (vs:=[]) func20 rfl ntmps20 rfl ?_
 refine T.q (L.o (O.alloc zeroValue48 (fun b0 w0 hb0 hz0 he0 hB0=>?_)))
 refine L.nil (T.q (L.o (O.build (v:=(pV (0,0))) (parts:=[]) (vs:=[]) rfl (fun w=>by kernel_rfl) (L.o (O.build (v:=(pV (4,0))) (parts:=[(0,.const (.int .i64 4))]) (vs:=[(0,_)]) rfl (fun w=>by kernel_rfl) (L.o (O.build (v:=(pV (0,4))) (parts:=[(1,.const (.int .i64 4))]) (vs:=[(1,_)]) rfl (fun w=>by kernel_rfl) (L.o (O.buildSlice (el:=124) (parts:=[(0,.tmp 1),(1,.tmp 2),(2,.tmp 3)]) (vs:=[(0,_),(1,_),(2,_)]) (cs:=(pcs [(0,0),(4,0),(0,4)])) rfl (fun w=>by kernel_rfl) (fun b4 w4 hb4 hz4 he4 hB4=>?_))))))))))
 refine L.o (O.buildSlice (el:=3) (parts:=[(0,.const (.int .i64 0)),(1,.const (.int .i64 1)),(2,.const (.int .i64 2))]) (vs:=[(0,_),(1,_),(2,_)]) (cs:=([0,1,2].map (Value.int .i64))) rfl (fun w=>by kernel_rfl) (fun b5 w5 hb5 hz5 he5 hB5=>?_))
 refine L.o (O.build (v:=(triF b5).val) (parts:=[(0,.tmp 5)]) (vs:=[(0,_)]) rfl (fun w=>by kernel_rfl) (L.o (O.buildSlice (el:=127) (parts:=[(0,.tmp 6)]) (vs:=[(0,_)]) (cs:=(fcells [triF b5])) rfl (fun w=>by kernel_rfl) (fun b7 w7 hb7 hz7 he7 hB7=>?_))))
 refine L.o (O.build (v:=(triC b4 b5 b7).val) (parts:=[(0,.tmp 4),(1,.tmp 7)]) (vs:=[(0,_),(1,_)]) rfl (fun w=>by kernel_rfl) (L.o (O.build (v:=triU.val) (parts:=[(0,_),(1,.const (.int .i64 3))]) (vs:=[(0,_),(1,_)]) rfl (fun w=>by kernel_rfl) (L.o (O.buildSlice (el:=51) (parts:=[(0,.tmp 9)]) (vs:=[(0,_)]) (cs:=(ucells [triU])) rfl (fun w=>by kernel_rfl) (fun b10 w10 hb10 hz10 he10 hB10=>?_))))))
 refine L.o (O.build (v:=(triR b10).val) (parts:=[(3,.tmp 10)]) (vs:=[(3,_)]) rfl (fun w=>by kernel_rfl) (L.o (O.build (v:=.agg (landC (triC b4 b5 b7) (triR b10)).toArray) (parts:=[(0,.tmp 8),(1,.tmp 11)]) (vs:=[(0,_),(1,_)]) rfl (fun w=>by kernel_rfl) (?_))))
 have hE0:Ext w0 w10:=((he4.trans he5).trans he7).trans he10
 have h4:=Blk.ext hB4 ((he5.trans he7).trans he10)
 have h5:=Blk.ext hB5 (he7.trans he10)
 have h7:=Blk.ext hB7 he10
 have l5:=he4.size
 have l7:=(he4.trans he5).size
 have l10:=((he4.trans he5).trans he7).size
 have hc:(triC b4 b5 b7).ok w0.heap.size w10:=triC_ok h4 h5 h7 (by omega) (by omega) (by omega)
 have hr:(triR b10).ok w0.heap.size w10:=triR_ok hB10 (by omega)
 refine L.o (O.storeAgg sizeOf48 rfl rfl rfl (Blk.ext hB0 hE0) (Nat.le_refl _) (landC_one hc hr) (fun w18 hu18 hB18=>?_))
 replace hu18:Upd b0 w10 w18:=hu18
 have hR18:Blk w18 b0 (landC (triC b4 b5 b7) (triR b10)) 48:=hB18
 refine L.nil (T.retA results20 isAgg48 sizeOf48 rfl rfl (Row.of_blk hR18) ⟨b4,b5,b7,b10,rfl,⟨by omega,by omega,by omega,by omega⟩,Blk.upd h4 hu18 (by omega),Blk.upd h5 hu18 (by omega),Blk.upd h7 hu18 (by omega),Blk.upd hB10 hu18 (by omega),(he0.trans hE0).upd hu18 (.inr (by omega))⟩)

theorem triangle_calls (w:World):Calls Tryz.prog 20 #[] w (Ret fun v w'=>∃ c r,v = .agg (landC c r).toArray∧c.ok w.heap.size w'∧r.ok w.heap.size w'∧Says c r triS∧Ext w w'):=by
 refine (triangleB_calls w).mono ?_
 rintro (v|_|_) w' h
 ·obtain ⟨b4,b5,b7,b10,h1,⟨l4,l5,l7,l10⟩,h4,h5,h7,h10,he⟩:=h
  exact ⟨_,_,h1,triC_ok h4 h5 h7 l4 l5 l7,triR_ok h10 l10,⟨rfl,rfl,rfl,rfl,rfl,rfl⟩,he⟩
 ·exact h
 ·exact h
set_option maxHeartbeats 1000000 in
theorem roll_calls (w:World) :
  Calls Tryz.prog 11 #[] w (Ret fun v w'=>∃ r:RoV,v=r.val∧r.ok w.heap.size w'∧stripR r=rollP∧Ext w w'):=by
 refine T.enter (vs:=[]) func11 rfl ntmps11 rfl ?_
 refine T.q (L.o (O.alloc zeroValue25 (fun b0 w0 hb0 hz0 he0 hB0=>?_)))
 refine L.nil (T.q (L.o (O.buildSlice (el:=3) (parts:=[(0,.const (.int .i64 4))]) (vs:=[(0,_)]) (cs:=([4].map (Value.int .i64))) rfl (fun w=>by kernel_rfl) (fun b1 w1 hb1 hz1 he1 hB1=>?_))))
 refine L.o (O.buildSlice (el:=3) (parts:=[(0,.const (.int .i64 3)),(1,.const (.int .i64 5))]) (vs:=[(0,_),(1,_)]) (cs:=([3,5].map (Value.int .i64))) rfl (fun w=>by kernel_rfl) (fun b2 w2 hb2 hz2 he2 hB2=>?_))
 refine L.o (O.buildSlice (el:=3) (parts:=[(0,.const (.int .i64 7))]) (vs:=[(0,_)]) (cs:=([7].map (Value.int .i64))) rfl (fun w=>by kernel_rfl) (fun b3 w3 hb3 hz3 he3 hB3=>?_))
 refine L.o (O.build (v:=(uK [97] 10 b1 b2 b3 [4] [3,5] [7] false).val) (parts:=[(0,_),(1,.const (.int .i64 10)),(2,.tmp 1),(3,.tmp 2),(4,.tmp 3)]) (vs:=[(0,_),(1,_),(2,_),(3,_),(4,_)]) rfl (fun w=>by kernel_rfl) (L.o (O.buildSlice (el:=3) (parts:=[(0,.const (.int .i64 0))]) (vs:=[(0,_)]) (cs:=([0].map (Value.int .i64))) rfl (fun w=>by kernel_rfl) (fun b5 w5 hb5 hz5 he5 hB5=>?_))))
 refine L.o (O.buildSlice (el:=3) (parts:=[(0,.const (.int .i64 9)),(1,.const (.int .i64 1))]) (vs:=[(0,_),(1,_)]) (cs:=([9,1].map (Value.int .i64))) rfl (fun w=>by kernel_rfl) (fun b6 w6 hb6 hz6 he6 hB6=>?_))
 refine L.o (O.buildSlice (el:=3) (parts:=[(0,.const (.int .i64 2))]) (vs:=[(0,_)]) (cs:=([2].map (Value.int .i64))) rfl (fun w=>by kernel_rfl) (fun b7 w7 hb7 hz7 he7 hB7=>?_))
 refine L.o (O.build (v:=(uK [98] 20 b5 b6 b7 [0] [9,1] [2] false).val) (parts:=[(0,_),(1,.const (.int .i64 20)),(2,.tmp 5),(3,.tmp 6),(4,.tmp 7)]) (vs:=[(0,_),(1,_),(2,_),(3,_),(4,_)]) rfl (fun w=>by kernel_rfl) (L.o (O.buildSlice (el:=3) (parts:=[(0,.const (.int .i64 5))]) (vs:=[(0,_)]) (cs:=([5].map (Value.int .i64))) rfl (fun w=>by kernel_rfl) (fun b9 w9 hb9 hz9 he9 hB9=>?_))))
 refine L.o (O.buildSlice (el:=3) (parts:=[(0,.const (.int .i64 0)),(1,.const (.int .i64 0))]) (vs:=[(0,_),(1,_)]) (cs:=([0,0].map (Value.int .i64))) rfl (fun w=>by kernel_rfl) (fun b10 w10 hb10 hz10 he10 hB10=>?_))
 refine L.o (O.buildSlice (el:=3) (parts:=[(0,.const (.int .i64 7))]) (vs:=[(0,_)]) (cs:=([7].map (Value.int .i64))) rfl (fun w=>by kernel_rfl) (fun b11 w11 hb11 hz11 he11 hB11=>?_))
 refine L.o (O.build (v:=(uK [99] 5 b9 b10 b11 [5] [0,0] [7] false).val) (parts:=[(0,_),(1,.const (.int .i64 5)),(2,.tmp 9),(3,.tmp 10),(4,.tmp 11)]) (vs:=[(0,_),(1,_),(2,_),(3,_),(4,_)]) rfl (fun w=>by kernel_rfl) (L.o (O.buildSlice (el:=3) (parts:=[(0,.const (.int .i64 0))]) (vs:=[(0,_)]) (cs:=([0].map (Value.int .i64))) rfl (fun w=>by kernel_rfl) (fun b13 w13 hb13 hz13 he13 hB13=>?_))))
 refine L.o (O.buildSlice (el:=3) (parts:=[(0,.const (.int .i64 0)),(1,.const (.int .i64 0))]) (vs:=[(0,_),(1,_)]) (cs:=([0,0].map (Value.int .i64))) rfl (fun w=>by kernel_rfl) (fun b14 w14 hb14 hz14 he14 hB14=>?_))
 refine L.o (O.buildSlice (el:=3) (parts:=[(0,.const (.int .i64 0))]) (vs:=[(0,_)]) (cs:=([0].map (Value.int .i64))) rfl (fun w=>by kernel_rfl) (fun b15 w15 hb15 hz15 he15 hB15=>?_))
 refine L.o (O.build (v:=(uK [119] 0 b13 b14 b15 [0] [0,0] [0] true).val) (parts:=[(0,_),(2,.tmp 13),(3,.tmp 14),(4,.tmp 15),(5,.const (.bool true))]) (vs:=[(0,_),(2,_),(3,_),(4,_),(5,_)]) rfl (fun w=>by kernel_rfl) (L.o (O.buildSlice (el:=51) (parts:=[(0,.tmp 4),(1,.tmp 8),(2,.tmp 12),(3,.tmp 16)]) (vs:=[(0,_),(1,_),(2,_),(3,_)]) (cs:=(ucells [uK [97] 10 b1 b2 b3 [4] [3,5] [7] false,uK [98] 20 b5 b6 b7 [0] [9,1] [2] false,uK [99] 5 b9 b10 b11 [5] [0,0] [7] false,uK [119] 0 b13 b14 b15 [0] [0,0] [0] true])) rfl (fun w=>by kernel_rfl) (fun b17 w17 hb17 hz17 he17 hB17=>?_))))
 have hb_1:Blk w17 b1 ([4].map (Value.int .i64)) 3:=Blk.ext hB1 ((((((((((((he2).trans he3).trans he5).trans he6).trans he7).trans he9).trans he10).trans he11).trans he13).trans he14).trans he15).trans he17)
 have hb_2:Blk w17 b2 ([3,5].map (Value.int .i64)) 3:=Blk.ext hB2 (((((((((((he3).trans he5).trans he6).trans he7).trans he9).trans he10).trans he11).trans he13).trans he14).trans he15).trans he17)
 have hb_3:Blk w17 b3 ([7].map (Value.int .i64)) 3:=Blk.ext hB3 ((((((((((he5).trans he6).trans he7).trans he9).trans he10).trans he11).trans he13).trans he14).trans he15).trans he17)
 have hb_5:Blk w17 b5 ([0].map (Value.int .i64)) 3:=Blk.ext hB5 (((((((((he6).trans he7).trans he9).trans he10).trans he11).trans he13).trans he14).trans he15).trans he17)
 have hb_6:Blk w17 b6 ([9,1].map (Value.int .i64)) 3:=Blk.ext hB6 ((((((((he7).trans he9).trans he10).trans he11).trans he13).trans he14).trans he15).trans he17)
 have hb_7:Blk w17 b7 ([2].map (Value.int .i64)) 3:=Blk.ext hB7 (((((((he9).trans he10).trans he11).trans he13).trans he14).trans he15).trans he17)
 have hb_9:Blk w17 b9 ([5].map (Value.int .i64)) 3:=Blk.ext hB9 ((((((he10).trans he11).trans he13).trans he14).trans he15).trans he17)
 have hb_10:Blk w17 b10 ([0,0].map (Value.int .i64)) 3:=Blk.ext hB10 (((((he11).trans he13).trans he14).trans he15).trans he17)
 have hb_11:Blk w17 b11 ([7].map (Value.int .i64)) 3:=Blk.ext hB11 ((((he13).trans he14).trans he15).trans he17)
 have hb_13:Blk w17 b13 ([0].map (Value.int .i64)) 3:=Blk.ext hB13 (((he14).trans he15).trans he17)
 have hb_14:Blk w17 b14 ([0,0].map (Value.int .i64)) 3:=Blk.ext hB14 ((he15).trans he17)
 have hb_15:Blk w17 b15 ([0].map (Value.int .i64)) 3:=Blk.ext hB15 (he17)
 have hz_1:w0.heap.size≤b1:=by omega
 have hz_2:w0.heap.size≤b2:=by have:=(he1).size;omega
 have hz_3:w0.heap.size≤b3:=by have:=((he1).trans he2).size;omega
 have hz_5:w0.heap.size≤b5:=by have:=(((he1).trans he2).trans he3).size;omega
 have hz_6:w0.heap.size≤b6:=by have:=((((he1).trans he2).trans he3).trans he5).size;omega
 have hz_7:w0.heap.size≤b7:=by have:=(((((he1).trans he2).trans he3).trans he5).trans he6).size;omega
 have hz_9:w0.heap.size≤b9:=by have:=((((((he1).trans he2).trans he3).trans he5).trans he6).trans he7).size;omega
 have hz_10:w0.heap.size≤b10:=by have:=(((((((he1).trans he2).trans he3).trans he5).trans he6).trans he7).trans he9).size;omega
 have hz_11:w0.heap.size≤b11:=by have:=((((((((he1).trans he2).trans he3).trans he5).trans he6).trans he7).trans he9).trans he10).size;omega
 have hz_13:w0.heap.size≤b13:=by have:=(((((((((he1).trans he2).trans he3).trans he5).trans he6).trans he7).trans he9).trans he10).trans he11).size;omega
 have hz_14:w0.heap.size≤b14:=by have:=((((((((((he1).trans he2).trans he3).trans he5).trans he6).trans he7).trans he9).trans he10).trans he11).trans he13).size;omega
 have hz_15:w0.heap.size≤b15:=by have:=(((((((((((he1).trans he2).trans he3).trans he5).trans he6).trans he7).trans he9).trans he10).trans he11).trans he13).trans he14).size;omega
 have hz_17:w0.heap.size≤b17:=by have:=((((((((((((he1).trans he2).trans he3).trans he5).trans he6).trans he7).trans he9).trans he10).trans he11).trans he13).trans he14).trans he15).size;omega
 have hE0:Ext w0 w17:=((((((((((((he1).trans he2).trans he3).trans he5).trans he6).trans he7).trans he9).trans he10).trans he11).trans he13).trans he14).trans he15).trans he17
 have hE:Ext w w17:=he0.trans hE0
 have hro:Units w0.heap.size w17 (.slice (some ⟨b17,0,none⟩) 4 4) [uK [97] 10 b1 b2 b3 [4] [3,5] [7] false,uK [98] 20 b5 b6 b7 [0] [9,1] [2] false,uK [99] 5 b9 b10 b11 [5] [0,0] [7] false,uK [119] 0 b13 b14 b15 [0] [0,0] [0] true]:=by
  refine ⟨Sl.of_blk (n:=4) (sz:=6) hB17 rfl (Nat.le_refl _) (by decide) hz_17,fun u hu=>?_⟩
  simp only [List.mem_cons,List.not_mem_nil,or_false] at hu
  rcases hu with rfl|rfl|rfl|rfl
  ·exact uK_ok (by decide) hb_1 hb_2 hb_3 hz_1 hz_2 hz_3 (by decide) (by decide) (by decide)
  ·exact uK_ok (by decide) hb_5 hb_6 hb_7 hz_5 hz_6 hz_7 (by decide) (by decide) (by decide)
  ·exact uK_ok (by decide) hb_9 hb_10 hb_11 hz_9 hz_10 hz_11 (by decide) (by decide) (by decide)
  ·exact uK_ok (by decide) hb_13 hb_14 hb_15 hz_13 hz_14 hz_15 (by decide) (by decide) (by decide)
 refine L.o (O.build (v:=(⟨1,2,1,.slice (some ⟨b17,0,none⟩) 4 4,[uK [97] 10 b1 b2 b3 [4] [3,5] [7] false,uK [98] 20 b5 b6 b7 [0] [9,1] [2] false,uK [99] 5 b9 b10 b11 [5] [0,0] [7] false,uK [119] 0 b13 b14 b15 [0] [0,0] [0] true]⟩:RoV).val) (parts:=[(0,.const (.int .i64 1)),(1,.const (.int .i64 2)),(2,.const (.int .i64 1)),(3,.tmp 17)]) (vs:=[(0,_),(1,_),(2,_),(3,_)]) rfl (fun w=>by kernel_rfl) (L.o (O.storeAgg sizeOf25 rfl rfl rfl (Blk.ext hB0 hE0) (Nat.le_refl _) (rollK_one (⟨1,2,1,.slice (some ⟨b17,0,none⟩) 4 4,[uK [97] 10 b1 b2 b3 [4] [3,5] [7] false,uK [98] 20 b5 b6 b7 [0] [9,1] [2] false,uK [99] 5 b9 b10 b11 [5] [0,0] [7] false,uK [119] 0 b13 b14 b15 [0] [0,0] [0] true]⟩:RoV) rfl) (fun w18 hu18 hB18=>?_))))
 replace hu18:Upd b0 w17 w18:=hu18
 have hR18:Blk w18 b0 (⟨1,2,1,.slice (some ⟨b17,0,none⟩) 4 4,[uK [97] 10 b1 b2 b3 [4] [3,5] [7] false,uK [98] 20 b5 b6 b7 [0] [9,1] [2] false,uK [99] 5 b9 b10 b11 [5] [0,0] [7] false,uK [119] 0 b13 b14 b15 [0] [0,0] [0] true]⟩:RoV).cells 25:=hB18
 refine L.nil (T.retA results11 isAgg25 sizeOf25 rfl rfl (Row.of_blk hR18) ⟨_,rfl,(Units.keep (lo:=w0.heap.size) hro ((Keep.refl _ _).upd hu18 (.inl (by omega)))).mono (by omega),rfl,hE.upd hu18 (.inr (by omega))⟩)

open Go Go.E RowKit

theorem says_roll {c c':CxV} {r r':RoV} {s:PS} (h:Says c r s) (h':Says c' r' s):sameB r r'=true:=by
 have e:r.us.map unitPU=r'.us.map unitPU:=h.us.trans h'.us.symm
 refine sameB_t (h.G.trans h'.G.symm) (h.P.trans h'.P.symm) (h.L.trans h'.L.symm) ⟨by simpa using congrArg List.length e,fun i _=>?_⟩
 have e1:=getD_map' (f:=unitPU) (d:=u0) (e:=unitPU u0) rfl r.us i
 have e2:=getD_map' (f:=unitPU) (d:=u0) (e:=unitPU u0) rfl r'.us i
 have e3:unitPU (r.us.getD i u0)=unitPU (r'.us.getD i u0):=by rw [← e1,← e2,e]
 simp only [unitPU,PU.mk.injEq] at e3
 exact sameU_iff.2 ⟨e3.1,e3.2.1,e3.2.2.2.2.2,e3.2.2.1,e3.2.2.2.1,e3.2.2.2.2.1⟩
theorem equalPl_calls (lo lo':Nat) (p q:Value) (xs ys:List Int) (w:World) (hp:Ints .i64 lo w p xs) (hq:Ints .i64 lo' w q ys) :
  Calls Tryz.prog 46 #[p,q] w (Ret fun v w'=>v = .bool (decide (xs=ys))∧Ext w w'):=by
 have hle:=Sl.le hp
 refine T.enter (vs:=[p,q]) func46 rfl ntmps46 rfl ?_
 refine T.q (L.a rfl (L.nil (T.seq (T.q (L.m rfl (L.o (O.len runUnderlying31 rfl (Sl.val hp) (L.m rfl (L.o (O.len runUnderlying31 rfl (Sl.val hq) (L.o (O.neq_s rfl rfl (fun hl=>?_) (fun hl=>?_)))))))))))))
 ·refine L.nil (T.ct (T.q (L.a rfl (L.nil (T.ret1 results46 rfl ⟨by rw [decide_eq_false (fun h=>hl (by rw [h]))],Keep.refl _ _⟩)))))
 ·refine L.nil (?_)
  have hlen:xs.length=ys.length:=by omega
  refine T.cf (T.skip (T.seq (T.q (L.m rfl (L.o (O.len runUnderlying31 rfl (Sl.val hp) (L.m rfl (L.nil (T.block (?_))))))))))
  refine T.loop (σ:=Nat) (fun i=>[(0,p),(1,q),(12,.int .i64 xs.length),(13,.int .i64 i)]) (fun i w'=>i≤xs.length∧Ext w w'∧∀ j,j<i→xs.getD j 0=ys.getD j 0) (fun i=>xs.length-i) (0) ⟨rfl,rfl,rfl,rfl,trivial⟩ ⟨Nat.zero_le _,Keep.refl _ _,fun j hj=>absurd hj (Nat.not_lt_zero _)⟩ ?_
  rintro i w1 ⟨hi,he1,hall⟩
  have hp1:=hp.keep (he1.mono (Nat.zero_le lo))
  have hq1:=hq.keep (he1.mono (Nat.zero_le lo'))
  refine T.q (L.o (O.lss_s rfl rfl (fun hlt=>?_) (fun hlt=>?_)))
  ·refine L.nil (?_)
   have hlt':i<xs.length:=by omega
   by_cases heq:xs.getD i 0=ys.getD i 0
   ·refine T.seq (T.ct (T.skip (T.seq (T.block (T.q (L.m rfl (L.a rfl (L.nil (T.seq (?_))))))))))
    refine T.anyE mixed 8 [0,5,1] rfl [.is _,.is _,.is _,.is _,.is _,.is _,.is _,.is _] [[],[],[0,1],[2],[],[],[4,5],[6]] [[],[],[0,1],[0,1,2],[],[],[4,5],[4,5,6],[0,1,2,3,4,5,6,7]] (by kernel_rfl) (by kernel_rfl) rfl (by kernel_rfl) trivial ⟨fun wx hx=>Ob.o (O.move rfl kR),
      fun wx hx=>Ob.o (O.move rfl kR),
      fun wx hx=>Ob.o (O.indexAddr runUnderlying31 sizeOf3 rfl rfl hp1 (by omega) (by omega) kR),
      fun wx hx=>Ob.o (O.load isAgg3 rfl (Ints.at (hp1.keep (hx.mono (Nat.zero_le _))) hlt') kR),
      fun wx hx=>Ob.o (O.move rfl kR),
      fun wx hx=>Ob.o (O.move rfl kR),
      fun wx hx=>Ob.o (O.indexAddr runUnderlying31 sizeOf3 rfl rfl hq1 (by omega) (by omega) kR),
      fun wx hx=>Ob.o (O.load isAgg3 rfl (Ints.at (hq1.keep (hx.mono (Nat.zero_le _))) (by omega)) kR),
      trivial⟩ (fun w2 he2=>?_)
    refine L.o (O.neq_f rfl rfl heq (L.nil (T.cf (T.skip (T.blk (T.region (L.o (O.add64 rfl rfl (by omega) (L.m rfl (L.nil (T.again (i+1) (by omega) ⟨rfl,rfl,rfl,rfl,trivial⟩ ⟨hlt',he1.trans he2,fun j hj=>?_⟩)))))))))))
    ·by_cases hji:j=i
     ·subst hji;exact heq
     ·exact hall j (by omega)
   ·refine T.seq (T.ct (T.skip (T.seq (T.block (T.q (L.m rfl (L.a rfl (L.nil (T.seq (?_))))))))))
    refine T.anyE mixed 8 [0,5,1] rfl [.is _,.is _,.is _,.is _,.is _,.is _,.is _,.is _] [[],[],[0,1],[2],[],[],[4,5],[6]] [[],[],[0,1],[0,1,2],[],[],[4,5],[4,5,6],[0,1,2,3,4,5,6,7]] (by kernel_rfl) (by kernel_rfl) rfl (by kernel_rfl) trivial ⟨fun wx hx=>Ob.o (O.move rfl kR),
      fun wx hx=>Ob.o (O.move rfl kR),
      fun wx hx=>Ob.o (O.indexAddr runUnderlying31 sizeOf3 rfl rfl hp1 (by omega) (by omega) kR),
      fun wx hx=>Ob.o (O.load isAgg3 rfl (Ints.at (hp1.keep (hx.mono (Nat.zero_le _))) hlt') kR),
      fun wx hx=>Ob.o (O.move rfl kR),
      fun wx hx=>Ob.o (O.move rfl kR),
      fun wx hx=>Ob.o (O.indexAddr runUnderlying31 sizeOf3 rfl rfl hq1 (by omega) (by omega) kR),
      fun wx hx=>Ob.o (O.load isAgg3 rfl (Ints.at (hq1.keep (hx.mono (Nat.zero_le _))) (by omega)) kR),
      trivial⟩ (fun w2 he2=>?_)
    refine L.o (O.neq_t rfl rfl heq (L.nil (T.ct (T.q (L.a rfl (L.nil (T.ret1 results46 rfl ⟨by rw [decide_eq_false (fun h=>heq (by rw [h]))],he1.trans he2⟩)))))))
  ·refine L.nil (T.seq (T.cf (T.exit rfl (T.q (L.a rfl (L.nil (T.ret1 results46 rfl ⟨by rw [decide_eq_true (list_eq_of (d:=0) hlen (fun j hj=>hall j (by omega)))],he1⟩)))))))

theorem same_yes (lo lo2:Nat) (c c':CxV) (r r':RoV) (s:PS) (w:World) (hc:c.ok lo w) (hr:r.ok lo w) (hc':c'.ok lo2 w) (hr':r'.ok lo2 w) (hs:Says c r s) (hs':Says c' r' s) (hn:∀ f∈c.fs,f.hs.length≤100000) :
  Calls Tryz.prog 28 #[.agg (landC c r).toArray,.agg (landC c' r').toArray] w (Ret fun v w'=>v = .bool true∧Ext w w'):=by
 refine T.enter (vs:=[.agg (landC c r).toArray,.agg (landC c' r').toArray]) func28 rfl ntmps28 rfl ?_
 refine T.q (L.o (O.box rfl (fun b2 w2 hb2 hz2 he2 hB2=>?_)))
 refine L.o (O.box rfl (fun b3 w3 hb3 hz3 he3 hB3=>?_))
 have he:=he2.trans he3
 have hC1:Blk w3 b2 (landC c r) 48:=Blk.ext (cs:=landC c r) hB2 he3
 have hC2:Blk w3 b3 (landC c' r') 48:=hB3
 refine L.a rfl (L.nil (T.q (L.o (O.fieldAddr runUnderlying48 rfl sizeOf46 rfl (L.o (O.loadAgg isAgg46 sizeOf46 rfl rfl ((Row.of_blk hC1).part 0 2) (L.o (O.fieldAddr runUnderlying48 rfl sizeOf46 rfl (L.o (O.loadAgg isAgg46 sizeOf46 rfl rfl ((Row.of_blk hC2).part 0 2) (L.o (O.call (xs:=[.tmp 6,.tmp 8]) call74 rfl rfl (same15_yes lo lo2 c c' w3 (hc.ext he) (hc'.ext he) (hs.ps.trans hs'.ps.symm) (hs.fs.trans hs'.fs.symm) hn) (fun v9 w9 hq=>?_)))))))))))))
 obtain ⟨rfl,he9⟩:=hq
 refine L.m rfl (L.o (O.fieldAddr runUnderlying48 rfl sizeOf25 rfl (L.o (O.loadAgg isAgg25 sizeOf25 rfl rfl ((Row.of_blk (Blk.ext hC1 he9)).part 2 4) (L.o (O.fieldAddr runUnderlying48 rfl sizeOf25 rfl (L.o (O.loadAgg isAgg25 sizeOf25 rfl rfl ((Row.of_blk (Blk.ext hC2 he9)).part 2 4) (L.o (O.call (xs:=[.tmp 12,.tmp 14]) call37 rfl rfl (rSameRoll_calls lo lo2 r r' w9 (hr.ext (he.trans he9)) (hr'.ext (he.trans he9))) (fun v15 w15 hq=>?_)))))))))))
 obtain ⟨hv15,he15⟩:=hq
 rw [says_roll hs hs'] at hv15
 subst hv15
 refine L.o (O.pick_true rfl rfl (L.a rfl (L.nil (T.ret1 results28 rfl ⟨rfl,(he.trans he9).trans he15⟩))))

theorem stops_yes (t:Str) (n:Nat) (e:Int) (w:World) (hL:LibM w) (ht:t.length≤1000000) (hr:readC rollP t=([],n,e)) :
  Calls Tryz.prog 16 #[str t,.int .i64 n,.int .i64 e] w (Ret fun v w'=>v = .bool true∧Ext w w'):=by
 refine T.enter (vs:=[str t,.int .i64 n,.int .i64 e]) func16 rfl ntmps16 rfl ?_
 refine T.q (L.a rfl (L.nil (T.q (L.o (O.call (xs:=[]) call11 rfl rfl (roll_calls w) (fun v11 w11 hq=>?_))))))
 obtain ⟨r,rfl,hro,hst,he11⟩:=hq
 refine L.m rfl (L.o (O.call (xs:=[.tmp 11,.tmp 12]) call13 rfl rfl (Read_calls w.heap.size r t w11 hro (hL.ext he11) ht) (fun v13 w13 hq=>?_)))
 obtain ⟨pv,rfl,hpv,he13⟩:=hq
 rw [readRes_eq,hst,hr] at hpv
 rw [readRes_eq,hst,hr]
 refine L.m rfl (L.o (O.extract rfl rfl (L.o (O.extract rfl rfl (L.o (O.extract rfl rfl (L.a rfl (L.a rfl (L.a rfl (L.nil (T.q (L.m rfl (L.o (O.len runUnderlying31 rfl (Sl.val hpv) (L.o (O.eql_t rfl rfl rfl (L.m rfl (L.m rfl (L.m rfl (L.o (O.eql_t rfl rfl rfl (L.o (O.pick_true rfl rfl (L.m rfl (L.m rfl (L.m rfl (L.o (O.eql rfl rfl (L.o (O.pick_true rfl rfl (L.a rfl (?_))))))))))))))))))))))))))))))))
 refine L.nil (T.ret1 results16 rfl ⟨congrArg Value.bool (decide_eq_true rfl),he11.trans he13⟩)

theorem refused_yes (t:Str) (n e:Int) (w:World) (hL:LibM w) (ht:t.length≤1000000) (hp:parseC t = .inr (n,e)) :
  Calls Tryz.prog 17 #[str t,.int .i64 n,.int .i64 e] w (Ret fun v w'=>v = .bool true∧Ext w w'):=by
 refine T.enter (vs:=[str t,.int .i64 n,.int .i64 e]) func17 rfl ntmps17 rfl ?_
 refine T.q (L.a rfl (L.nil (T.q (L.m rfl (L.o (O.call (xs:=[.tmp 11]) call21 rfl rfl (Parse_calls t w hL (by omega)) (fun v12 w12 hq=>?_)))))))
 obtain ⟨he12,hv12⟩:=hq
 rw [parseP_eq,hp] at hv12
 replace hv12:v12 = .tuple #[.agg zeroLand.toArray,.int .i64 n,.int .i64 e]:=hv12
 subst hv12
 refine L.m rfl (L.o (O.extract rfl rfl (L.o (O.extract rfl rfl (L.o (O.extract rfl rfl (L.o (O.alloc zeroValue48 (fun b7 w7 hb7 hz7 he7 hB7=>?_)))))))))
 refine L.o (O.storeAgg sizeOf48 rfl rfl rfl hB7 (Nat.le_refl _) zeroLand_one (fun w13 hu13 hB13=>?_))
 replace hu13:Upd b7 w7 w13:=hu13
 have hR:Blk w13 b7 zeroLand 48:=hB13
 refine L.a rfl (L.a rfl (L.nil (T.q (L.o (O.fieldAddr runUnderlying48 rfl sizeOf46 rfl (L.o (O.fieldAddr runUnderlying46 rfl sizeOf43 rfl (L.o (O.load isAgg43 rfl (hR.cell rfl) (L.o (O.len runUnderlying43 rfl (Sl.val (Sl.nil 0 w13 1)) (L.o (O.eql_t rfl rfl rfl (L.m rfl (L.o (O.fieldAddr runUnderlying48 rfl sizeOf25 rfl (L.o (O.fieldAddr runUnderlying25 rfl sizeOf23 rfl (L.o (O.load isAgg23 rfl (hR.cell rfl) (L.o (O.len runUnderlying23 rfl (Sl.val (Sl.nil 0 w13 1)) (L.o (O.eql_t rfl rfl rfl (L.o (O.pick_true rfl rfl (L.m rfl (L.m rfl (L.m rfl (L.o (O.eql_t rfl rfl rfl (L.o (O.pick_true rfl rfl (L.m rfl (L.m rfl (?_))))))))))))))))))))))))))))))))))))
 refine L.m rfl (L.o (O.eql rfl rfl (L.o (O.pick_true rfl rfl (L.a rfl (L.nil (T.ret1 results17 rfl ⟨congrArg Value.bool (decide_eq_true rfl),he12.trans (he7.upd hu13 (.inr (by omega)))⟩)))))))

theorem reads_yes (lo:Nat) (t:Str) (p:Value) (xs:List Int) (w:World) (hL:LibM w) (ht:t.length≤1000000) (hp:Ints .i64 lo w p xs) (hr:readC rollP t=(xs,0,0)) :
  Calls Tryz.prog 51 #[str t,p] w (Ret fun v w'=>v = .bool true∧Ext w w'):=by
 refine T.enter (vs:=[str t,p]) func51 rfl ntmps51 rfl ?_
 refine T.q (L.a rfl (L.nil (T.q (L.o (O.call (xs:=[]) call11 rfl rfl (roll_calls w) (fun v11 w11 hq=>?_))))))
 obtain ⟨r,rfl,hro,hst,he11⟩:=hq
 refine L.m rfl (L.o (O.call (xs:=[.tmp 9,.tmp 10]) call13 rfl rfl (Read_calls w.heap.size r t w11 hro (hL.ext he11) ht) (fun v13 w13 hq=>?_)))
 obtain ⟨pv,rfl,hpv,he13⟩:=hq
 rw [readRes_eq,hst,hr] at hpv
 rw [readRes_eq,hst,hr]
 refine L.m rfl (L.o (O.extract rfl rfl (L.o (O.extract rfl rfl (L.o (O.extract rfl rfl (L.a rfl (L.a rfl (L.a rfl (L.nil (T.q (L.m rfl (L.m rfl (L.o (O.call (xs:=[.tmp 15,.tmp 16]) call46 rfl rfl (equalPl_calls 0 lo pv p xs xs w13 hpv (hp.ext (he11.trans he13))) (fun v17 w17 hq=>?_))))))))))))))))
 obtain ⟨hv17,he17⟩:=hq
 rw [decide_eq_true rfl] at hv17
 subst hv17
 refine L.m rfl (L.m rfl (L.o (O.eql_t rfl rfl rfl (L.o (O.pick_true rfl rfl (L.m rfl (L.m rfl (L.o (O.eql rfl rfl (L.o (O.pick_true rfl rfl (L.a rfl (L.nil (T.ret1 results51 rfl ⟨congrArg Value.bool (decide_eq_true rfl),(he11.trans he13).trans he17⟩))))))))))))))

open Go Go.E RowKit

def assL:Str:=[117,110,105,116,44,100,105,115,116,114,105,99,116,10,97,44,49,10,98,44,50,10,99,44,49,10]
def shapeL:Str:=108::97::110::100::32::48::32::48::32::48::10::112::111::105::110::116::32::48::32::48::10::112::111::105::110::116::32::52::32::48::10::112::111::105::110::116::32::48::32::52::10::102::97::99::101::32::48::32::49::32::50::10::117::110::105::116::32::97::32::51::10::101::110::100::10 :: []
def asnC (r:RoV) (xs:List Int):Str × Int:=if rollB r then (if fitsB xs (landsN r.us)=true then (joinedL (linesA (nmA r.us) xs xs.length),0) else ([],2)) else ([],161)
theorem asnRes_eq (r:RoV) (xs:List Int):asnRes r xs=asnC (stripR r) xs:=by
 by_cases h:RollOk r
 ·rw [asnRes_ok h,asnC,(rollB_iff _).2 ((rollOk_strip r).2 h),if_pos rfl]
  show _=if fitsB xs (landsN (r.us.map stripU))=true then (joinedL (linesA (nmA (r.us.map stripU)) xs xs.length),0) else _
  rw [nmA_strip,landsN_strip]
 ·rw [asnRes_bad h,asnC,if_neg (fun k=>h ((rollOk_strip r).1 ((rollB_iff _).1 k)))]
theorem itoa_dig {d:Nat} (h:d<10):Lib.itoa (d:Int) = [UInt8.ofNat (48+d)]:=by
 rw [Lib.itoa_nonneg,Lib.decDigits_one h]
theorem asn_roll:asnC rollP [0,1,0]=(assL,0):=by
 unfold asnC
 rw [if_pos (by kernel_rfl),if_pos (by kernel_rfl)]
 have e1:Lib.itoa (([0,1,0]:List Int).getD 0 0+1) = [49]:=itoa_one (d:=0) (by decide)
 have e2:Lib.itoa (([0,1,0]:List Int).getD 1 0+1) = [50]:=itoa_one (d:=1) (by decide)
 have e3:Lib.itoa (([0,1,0]:List Int).getD 2 0+1) = [49]:=itoa_one (d:=0) (by decide)
 show (joinedL [hdrL,lineA (nmA rollP.us) [0,1,0] 0,lineA (nmA rollP.us) [0,1,0] 1,lineA (nmA rollP.us) [0,1,0] 2],(0:Int))=_
 unfold lineA
 rw [e1,e2,e3]
 rfl
theorem tri_text:joinedL (textL triS.cx triS.ro)=shapeL:=by
 have e0:Lib.itoa 0 = [48]:=itoa_dig (d:=0) (by decide)
 have e1:Lib.itoa 1 = [49]:=itoa_dig (d:=1) (by decide)
 have e2:Lib.itoa 2 = [50]:=itoa_dig (d:=2) (by decide)
 have e3:Lib.itoa 3 = [51]:=itoa_dig (d:=3) (by decide)
 have e4:Lib.itoa 4 = [52]:=itoa_dig (d:=4) (by decide)
 have h1:spell [0,0,0] = [32,48,32,48,32,48]:=by simp only [spell,List.flatMap_cons,List.flatMap_nil,e0];rfl
 have h2:spell [0,0] = [32,48,32,48]:=by simp only [spell,List.flatMap_cons,List.flatMap_nil,e0];rfl
 have h3:spell [4,0] = [32,52,32,48]:=by simp only [spell,List.flatMap_cons,List.flatMap_nil,e0,e4];rfl
 have h4:spell [0,4] = [32,48,32,52]:=by simp only [spell,List.flatMap_cons,List.flatMap_nil,e0,e4];rfl
 have h5:spell [0,1,2] = [32,48,32,49,32,50]:=by simp only [spell,List.flatMap_cons,List.flatMap_nil,e0,e1,e2];rfl
 have h6:spell [3] = [32,51]:=by simp only [spell,List.flatMap_cons,List.flatMap_nil,e3];rfl
 show joinedL ([kLand++spell [0,0,0]] ++ [kPoint++spell [0,0],kPoint++spell [4,0],kPoint++spell [0,4]] ++ [kFace++spell [0,1,2]] ++ [kUnit ++ [97]++spell [3] ++ []] ++ [kEnd])=_
 rw [h1,h2,h3,h4,h5,h6]
 rfl
theorem tri_err:errP triS=0:=by rw [errP_eq];kernel_rfl
theorem tri_parse:parseC shapeL = .inl triS:=by kernel_rfl
theorem ov_roll:overC rollP [0,1,0] [117,110,105,116,44,100,105,115,116,114,105,99,116,10,99,44,50,10]=([0,1,1],0,0):=by kernel_rfl
theorem rd_roll:readC rollP ([117,110,105,116,44,100,105,115,116,114,105,99,116,10,98,44,50,10,97,44,49,10,99,44,49,10])=([0,1,0],0,0):=by kernel_rfl
theorem st_roll0:readC rollP ([117,110,105,116,44,100,105,115,116,114,105,99,116,10,97,44,49,10,99,44,49,10])=([],0,4):=by kernel_rfl
theorem st_roll1:readC rollP ([117,110,105,116,44,100,105,115,116,114,105,99,116,10,97,44,57,10,98,44,50,10,99,44,49,10])=([],2,5):=by kernel_rfl
theorem st_roll2:readC rollP ([117,110,105,116,44,100,105,115,116,114,105,99,116,10,97,44,49,10,98,44,50,10,99,44,49,10,97,44,49,10])=([],5,5):=by kernel_rfl
theorem st_roll3:readC rollP ([117,110,105,116,44,100,105,115,116,114,105,99,116,10,97,44,49,10,98,44,50,10,99,44,49])=([],4,5):=by kernel_rfl
theorem rf_shape:parseC (shapeL.take 61) = .inr (0,5):=by kernel_rfl
theorem Says.text_eq {c:CxV} {r:RoV} {s:PS} (h:Says c r s):textL c r=textL s.cx s.ro:=by rw [h.cx,h.ro,textL_strip]
theorem text_res {c:CxV} {r:RoV} {s:PS} (h:Says c r s) (he:errP s=0) (hl:(joinedL (textL s.cx s.ro)).length≤40000):textRes c r (landErr c r (cxBad c))=(joinedL (textL s.cx s.ro),0):=by
 rw [h.err,he,textRes,if_neg (fun x=>x rfl),h.text_eq,if_neg (by omega)]
theorem says_small {c:CxV} {r:RoV} {s:PS} (h:Says c r s) (hs:∀ f∈s.fs,f.2.length≤100000):∀ f∈c.fs,f.hs.length≤100000:=fun f hf=>by
 have:=hs (faceP f) (by rw [← h.fs];exact List.mem_map_of_mem hf)
 simpa [faceP] using this
def TriV (v:Value) (w:World):Prop:=∃ c r,v = .agg (landC c r).toArray∧c.ok 0 w∧r.ok 0 w∧Says c r triS
theorem TriV.st:∀ v w w',Ext w w'→TriV v w→TriV v w':=fun _ _ _ k ⟨c,r,h1,h2,h3,h4⟩=>⟨c,r,h1,h2.ext k,h3.ext k,h4⟩
set_option maxHeartbeats 4000000 in
theorem wakes_calls (w:World) (hL:LibM w) :
  Calls Tryz.prog 10 #[] w (Ret fun v w'=>v = .bool true∧Ext w w'):=by
 refine T.enter (vs:=[]) func10 rfl ntmps10 rfl ?_
 refine T.q (L.a rfl (L.nil (T.q (L.o (O.call (xs:=[]) call11 rfl rfl (roll_calls w) (fun v12 w12 hq=>?_))))))
 obtain ⟨r1,rfl,hr1,hst1,he12⟩:=hq
 refine L.o (O.buildSlice (el:=3) (parts:=[(0,.const (.int .i64 0)),(1,.const (.int .i64 1)),(2,.const (.int .i64 0))]) (vs:=[(0,_),(1,_),(2,_)]) (cs:=([0,1,0].map (Value.int .i64))) rfl (fun w=>by kernel_rfl) (fun b13 w13 hb13 hz13 he13 hB13=>?_))
 refine L.o (O.call (xs:=[.tmp 12,.tmp 13]) call12 rfl rfl (Assign_calls w.heap.size r1 _ [0,1,0] w13 (hr1.ext he13) (Ints.of_blk hB13 rfl (by decide) (Nat.zero_le _)) (hL.ext (he12.trans he13))) (fun v14 w14 hq=>?_))
 obtain ⟨rfl,he14⟩:=hq
 rw [asnRes_eq,hst1,asn_roll]
 have hE14:=(he12.trans he13).trans he14
 refine L.m rfl (L.o (O.extract rfl rfl (L.o (O.extract rfl rfl (L.a rfl (L.a rfl (L.nil (T.q (L.o (O.call (xs:=[]) call11 rfl rfl (roll_calls w14) (fun v18 w18 hq=>?_)))))))))))
 obtain ⟨r2,rfl,hr2,hst2,he18⟩:=hq
 refine L.o (O.buildSlice (el:=3) (parts:=[(0,.const (.int .i64 0)),(1,.const (.int .i64 1)),(2,.const (.int .i64 0))]) (vs:=[(0,_),(1,_),(2,_)]) (cs:=([0,1,0].map (Value.int .i64))) rfl (fun w=>by kernel_rfl) (fun b19 w19 hb19 hz19 he19 hB19=>?_))
 refine L.o (O.call (xs:=[.tmp 18,.tmp 19,_]) call14 rfl rfl (Overlay_calls w14.heap.size r2 _ [0,1,0] [117,110,105,116,44,100,105,115,116,114,105,99,116,10,99,44,50,10] w19 (hr2.ext he19) (Ints.of_blk hB19 rfl (by decide) (Nat.zero_le _)) (hL.ext (hE14.trans (he18.trans he19))) (by decide)) (fun v20 w20 hq=>?_))
 obtain ⟨pv,rfl,hpv,he20⟩:=hq
 rw [overRes_eq,hst2,ov_roll] at hpv
 rw [overRes_eq,hst2,ov_roll]
 have hE20:=hE14.trans ((he18.trans he19).trans he20)
 refine L.m rfl (L.o (O.extract rfl rfl (L.o (O.extract rfl rfl (L.o (O.extract rfl rfl (L.a rfl (L.a rfl (L.a rfl (L.nil (T.q (L.o (O.call (xs:=[]) call20 rfl rfl (triangle_calls w20) (fun v25 w25 hq=>?_))))))))))))))
 obtain ⟨c1,t1,rfl,hc1,ht1,hs1,he25⟩:=hq
 refine L.o (O.call (xs:=[.tmp 25]) call19 rfl rfl (Text_calls w20.heap.size c1 t1 w25 hc1 ht1 (hL.ext (hE20.trans he25)) ok_small) (fun v26 w26 hq=>?_))
 obtain ⟨rfl,he26⟩:=hq
 rw [text_res hs1 tri_err (by rw [tri_text];decide),tri_text]
 have hE26:=hE20.trans (he25.trans he26)
 refine L.m rfl (L.o (O.extract rfl rfl (L.o (O.extract rfl rfl (L.a rfl (L.a rfl (L.nil (T.q (L.o (O.call (xs:=[_]) call21 rfl rfl (Parse_calls shapeL w26 (hL.ext hE26) (by decide)) (fun v30 w30 hq=>?_)))))))))))
 obtain ⟨he30,hv30⟩:=hq
 rw [parseP_eq,tri_parse] at hv30
 obtain ⟨c2,t2,rfl,hc2,ht2,hs2⟩:=hv30
 refine L.m rfl (L.o (O.extract rfl rfl (L.o (O.extract rfl rfl (L.o (O.extract rfl rfl (L.o (O.alloc zeroValue48 (fun b8 w8 hb8 hz8 he8 hB8=>?_)))))))))
 refine L.o (O.storeAgg sizeOf48 rfl rfl rfl hB8 (Nat.le_refl _) (landC_one hc2 ht2) (fun w31 hu31 hB31=>?_))
 replace hu31:Upd b8 w8 w31:=hu31
 have hR31:Blk w31 b8 (landC c2 t2) 48:=hB31
 have he31:Ext w30 w31:=he8.upd hu31 (.inr (by omega))
 have hE31:=(hE26.trans he30).trans he31
 have hc31:=hc2.ext he31
 have ht31:=ht2.ext he31
 have hpv31:=hpv.ext (((he25.trans he26).trans he30).trans he31)
 have hL31:=hL.ext hE31
 have hsm:∀ f∈c2.fs,f.hs.length≤100000:=says_small hs2 (by decide)
 refine L.a rfl (L.a rfl (L.nil (T.seq (?_))))
 refine T.anyE mixed 30 [1,2,3,4,5,6,7,8] rfl [.is _,.is _,.is _,.is _,.is _,.is _,.is _,.is _,.such (IntsP [0,1,1]),.is (.bool true),.is _,.is _,.is _,.is _,.is _,.is _,.is _,.is _,.is _,.is _,.is _,.is _,.is _,.is _,.is _,.is _,.is _,.is _,.is _,.such TriV] [[],[0],[1],[2],[3,2],[2,4],[5],[6],[6],[7,8,6],[6,9],[10],[11],[12,11],[11,13],[14],[15],[16,15],[15,17],[18],[19],[20,19],[19,21],[22],[23],[24,23],[23,25],[26],[27],[27]] ([] :: [0] :: [0,1] :: [0,1,2] :: [0,1,2,3] :: [0,1,2,3,4] :: [0,1,2,3,4,5] :: [0,1,2,3,4,5,6] :: [0,1,2,3,4,5,6] :: [0,1,2,3,4,5,6,7,8] :: [0,1,2,3,4,5,6,7,8,9] :: [0,1,2,3,4,5,6,7,8,9,10] :: [0,1,2,3,4,5,6,7,8,9,10,11] :: [0,1,2,3,4,5,6,7,8,9,10,11,12] :: [0,1,2,3,4,5,6,7,8,9,10,11,12,13] :: [0,1,2,3,4,5,6,7,8,9,10,11,12,13,14] :: [0,1,2,3,4,5,6,7,8,9,10,11,12,13,14,15] :: [0,1,2,3,4,5,6,7,8,9,10,11,12,13,14,15,16] :: [0,1,2,3,4,5,6,7,8,9,10,11,12,13,14,15,16,17] :: [0,1,2,3,4,5,6,7,8,9,10,11,12,13,14,15,16,17,18] :: [0,1,2,3,4,5,6,7,8,9,10,11,12,13,14,15,16,17,18,19] :: [0,1,2,3,4,5,6,7,8,9,10,11,12,13,14,15,16,17,18,19,20] :: [0,1,2,3,4,5,6,7,8,9,10,11,12,13,14,15,16,17,18,19,20,21] :: [0,1,2,3,4,5,6,7,8,9,10,11,12,13,14,15,16,17,18,19,20,21,22] :: [0,1,2,3,4,5,6,7,8,9,10,11,12,13,14,15,16,17,18,19,20,21,22,23] :: [0,1,2,3,4,5,6,7,8,9,10,11,12,13,14,15,16,17,18,19,20,21,22,23,24] :: [0,1,2,3,4,5,6,7,8,9,10,11,12,13,14,15,16,17,18,19,20,21,22,23,24,25] :: [0,1,2,3,4,5,6,7,8,9,10,11,12,13,14,15,16,17,18,19,20,21,22,23,24,25,26] :: [0,1,2,3,4,5,6,7,8,9,10,11,12,13,14,15,16,17,18,19,20,21,22,23,24,25,26,27] :: [0,1,2,3,4,5,6,7,8,9,10,11,12,13,14,15,16,17,18,19,20,21,22,23,24,25,26,27] :: [0,1,2,3,4,5,6,7,8,9,10,11,12,13,14,15,16,17,18,19,20,21,22,23,24,25,26,27,28,29]::(0::1::2::3::4::5::6::7::8::9::10::11::12::13::14::15::16::17::18::19::20::21::22::23::24::25::26::27::28::29::30 :: [])::(0::1::2::3::4::5::6::7::8::9::10::11::12::13::14::15::16::17::18::19::20::21::22::23::24::25::26::27::28::29::30::31 :: [])::(0::1::2::3::4::5::6::7::8::9::10::11::12::13::14::15::16::17::18::19::20::21::22::23::24::25::26::27::28::29::30::31::32 :: [])::(0::1::2::3::4::5::6::7::8::9::10::11::12::13::14::15::16::17::18::19::20::21::22::23::24::25::26::27::28::29::30::31::32::33 :: [])::(0::1::2::3::4::5::6::7::8::9::10::11::12::13::14::15::16::17::18::19::20::21::22::23::24::25::26::27::28::29::30::31::32::33::34 :: [])::(0::1::2::3::4::5::6::7::8::9::10::11::12::13::14::15::16::17::18::19::20::21::22::23::24::25::26::27::28::29::30::31::32::33::34::35 :: [])::(0::1::2::3::4::5::6::7::8::9::10::11::12::13::14::15::16::17::18::19::20::21::22::23::24::25::26::27::28::29::30::31::32::33::34::35::36 :: [])::(0::1::2::3::4::5::6::7::8::9::10::11::12::13::14::15::16::17::18::19::20::21::22::23::24::25::26::27::28::29::30::31::32::33::34::35::36::37 :: [])::(0::1::2::3::4::5::6::7::8::9::10::11::12::13::14::15::16::17::18::19::20::21::22::23::24::25::26::27::28::29::30::31::32::33::34::35::36::37::38 :: [])::(0::1::2::3::4::5::6::7::8::9::10::11::12::13::14::15::16::17::18::19::20::21::22::23::24::25::26::27::28::29::30::31::32::33::34::35::36::37::38::39 :: [])::(0::1::2::3::4::5::6::7::8::9::10::11::12::13::14::15::16::17::18::19::20::21::22::23::24::25::26::27::28::29::30::31::32::33::34::35::36::37::38::39::40 :: [])::(0::1::2::3::4::5::6::7::8::9::10::11::12::13::14::15::16::17::18::19::20::21::22::23::24::25::26::27::28::29::30::31::32::33::34::35::36::37::38::39::40::41 :: [])::(0::1::2::3::4::5::6::7::8::9::10::11::12::13::14::15::16::17::18::19::20::21::22::23::24::25::26::27::28::29::30::31::32::33::34::35::36::37::38::39::40::41::42 :: [])::(0::1::2::3::4::5::6::7::8::9::10::11::12::13::14::15::16::17::18::19::20::21::22::23::24::25::26::27::28::29::30::31::32::33::34::35::36::37::38::39::40::41::42::43 :: [])::(0::1::2::3::4::5::6::7::8::9::10::11::12::13::14::15::16::17::18::19::20::21::22::23::24::25::26::27::28::29::30::31::32::33::34::35::36::37::38::39::40::41::42::43::44 :: [])::(0::1::2::3::4::5::6::7::8::9::10::11::12::13::14::15::16::17::18::19::20::21::22::23::24::25::26::27::28::29::30::31::32::33::34::35::36::37::38::39::40::41::42::43::44::45 :: [])::(0::1::2::3::4::5::6::7::8::9::10::11::12::13::14::15::16::17::18::19::20::21::22::23::24::25::26::27::28::29::30::31::32::33::34::35::36::37::38::39::40::41::42::43::44::45::46 :: [])::(0::1::2::3::4::5::6::7::8::9::10::11::12::13::14::15::16::17::18::19::20::21::22::23::24::25::26::27::28::29::30::31::32::33::34::35::36::37::38::39::40::41::42::43::44::45::46::47 :: [])::(0::1::2::3::4::5::6::7::8::9::10::11::12::13::14::15::16::17::18::19::20::21::22::23::24::25::26::27::28::29::30::31::32::33::34::35::36::37::38::39::40::41::42::43::44::45::46::47::48 :: [])::(0::1::2::3::4::5::6::7::8::9::10::11::12::13::14::15::16::17::18::19::20::21::22::23::24::25::26::27::28::29::30::31::32::33::34::35::36::37::38::39::40::41::42::43::44::45::46::47::48::49 :: [])::(0::1::2::3::4::5::6::7::8::9::10::11::12::13::14::15::16::17::18::19::20::21::22::23::24::25::26::27::28::29::30::31::32::33::34::35::36::37::38::39::40::41::42::43::44::45::46::47::48::49::50 :: [])::(0::1::2::3::4::5::6::7::8::9::10::11::12::13::14::15::16::17::18::19::20::21::22::23::24::25::26::27::28::29::30::31::32::33::34::35::36::37::38::39::40::41::42::43::44::45::46::47::48::49::50::51 :: [])::(0::1::2::3::4::5::6::7::8::9::10::11::12::13::14::15::16::17::18::19::20::21::22::23::24::25::26::27::28::29::30::31::32::33::34::35::36::37::38::39::40::41::42::43::44::45::46::47::48::49::50::51::52 :: [])::(0::1::2::3::4::5::6::7::8::9::10::11::12::13::14::15::16::17::18::19::20::21::22::23::24::25::26::27::28::29::30::31::32::33::34::35::36::37::38::39::40::41::42::43::44::45::46::47::48::49::50::51::52::53 :: [])::(0::1::2::3::4::5::6::7::8::9::10::11::12::13::14::15::16::17::18::19::20::21::22::23::24::25::26::27::28::29::30::31::32::33::34::35::36::37::38::39::40::41::42::43::44::45::46::47::48::49::50::51::52::53::54 :: [])::(0::1::2::3::4::5::6::7::8::9::10::11::12::13::14::15::16::17::18::19::20::21::22::23::24::25::26::27::28::29::30::31::32::33::34::35::36::37::38::39::40::41::42::43::44::45::46::47::48::49::50::51::52::53::54::55 :: [])::(0::1::2::3::4::5::6::7::8::9::10::11::12::13::14::15::16::17::18::19::20::21::22::23::24::25::26::27::28::29::30::31::32::33::34::35::36::37::38::39::40::41::42::43::44::45::46::47::48::49::50::51::52::53::54::55::56 :: [])::(0::1::2::3::4::5::6::7::8::9::10::11::12::13::14::15::16::17::18::19::20::21::22::23::24::25::26::27::28::29::30::31::32::33::34::35::36::37::38::39::40::41::42::43::44::45::46::47::48::49::50::51::52::53::54::55::56::57 :: [])::(0::1::2::3::4::5::6::7::8::9::10::11::12::13::14::15::16::17::18::19::20::21::22::23::24::25::26::27::28::29::30::31::32::33::34::35::36::37::38::39::40::41::42::43::44::45::46::47::48::49::50::51::52::53::54::55::56::57::58 :: [])::(0::1::2::3::4::5::6::7::8::9::10::11::12::13::14::15::16::17::18::19::20::21::22::23::24::25::26::27::28::29::30::31::32::33::34::35::36::37::38::39::40::41::42::43::44::45::46::47::48::49::50::51::52::53::54::55::56::57::58::59 :: [])::(0::1::2::3::4::5::6::7::8::9::10::11::12::13::14::15::16::17::18::19::20::21::22::23::24::25::26::27::28::29::30::31::32::33::34::35::36::37::38::39::40::41::42::43::44::45::46::47::48::49::50::51::52::53::54::55::56::57::58::59::60 :: []) :: []) (by kernel_rfl) (by kernel_rfl) rfl (by kernel_rfl) ⟨IntsP.st,TriV.st,trivial⟩ ⟨fun wx hx=>Ob.o (O.move rfl kR),
   fun wx hx=>Ob.o (O.eql_str_t runUnderlying9 rfl rfl rfl kR),
   fun wx hx=>Ob.o (O.move rfl kR),
   fun wx hx=>Ob.o (O.move rfl kR),
   fun wx hx=>Ob.o (O.eql_t rfl rfl rfl kR),
   fun wx hx=>Ob.o (O.pick_true rfl rfl kR),
   fun wx hx=>Ob.o (O.move rfl kR),
   fun wx hx=>Ob.o (O.move rfl kR),
   fun wx hx=>Ob.o (O.buildSlice (el:=3) (parts:=[(0,.const (.int .i64 0)),(1,.const (.int .i64 1)),(2,.const (.int .i64 1))]) (vs:=[(0,_),(1,_),(2,_)]) (cs:=([0,1,1].map (Value.int .i64))) rfl (fun w=>by kernel_rfl) (fun b42 w42 hb42 hz42 he42 hB42=>⟨he42,Ints.of_blk hB42 rfl (by decide) (Nat.zero_le _)⟩)),
   fun wx hx v42 hv42=>Ob.o (O.call (xs:=[.tmp 41,.tmp 42]) call46 rfl rfl (equalPl_calls 0 0 pv _ [0,1,1] [0,1,1] wx (hpv31.ext hx) hv42) (fun v wy h=>⟨h.2,h.1.trans (congrArg Value.bool (decide_eq_true rfl))⟩)),
   fun wx hx=>Ob.o (O.pick_true rfl rfl kR),
   fun wx hx=>Ob.o (O.move rfl kR),
   fun wx hx=>Ob.o (O.move rfl kR),
   fun wx hx=>Ob.o (O.eql_t rfl rfl rfl kR),
   fun wx hx=>Ob.o (O.pick_true rfl rfl kR),
   fun wx hx=>Ob.o (O.move rfl kR),
   fun wx hx=>Ob.o (O.move rfl kR),
   fun wx hx=>Ob.o (O.eql_t rfl rfl rfl kR),
   fun wx hx=>Ob.o (O.pick_true rfl rfl kR),
   fun wx hx=>Ob.o (O.move rfl kR),
   fun wx hx=>Ob.o (O.move rfl kR),
   fun wx hx=>Ob.o (O.eql_str_t runUnderlying9 rfl rfl rfl kR),
   fun wx hx=>Ob.o (O.pick_true rfl rfl kR),
   fun wx hx=>Ob.o (O.move rfl kR),
   fun wx hx=>Ob.o (O.move rfl kR),
   fun wx hx=>Ob.o (O.eql_t rfl rfl rfl kR),
   fun wx hx=>Ob.o (O.pick_true rfl rfl kR),
   fun wx hx=>Ob.o (O.move rfl kR),
   fun wx hx=>Ob.o (O.loadAgg isAgg48 sizeOf48 rfl rfl (Row.of_blk (Blk.ext hR31 hx)) kR),
   fun wx hx=>Ob.o (O.call (xs:=[]) call20 rfl rfl (triangle_calls wx) (fun v wy h=>(by obtain ⟨c,r,h1,h2,h3,h4,h5⟩:=h;exact ⟨h5,c,r,h1,h2.mono (Nat.zero_le _),h3.mono (Nat.zero_le _),h4⟩))),
   trivial⟩ (fun w5 he5 v42 hv42 v63 hv63=>?_)
 obtain ⟨c3,t3,rfl,hc3,ht3,hs3⟩:=hv63
 refine L.o (O.call (xs:=[.tmp 62,.tmp 63]) call28 rfl rfl (same_yes _ 0 c2 c3 t2 t3 triS w5 (hc31.ext he5) (ht31.ext he5) hc3 ht3 hs2 hs3 hsm) (fun v64 w64 hq=>?_))
 obtain ⟨rfl,he64⟩:=hq
 refine L.o (O.pick_true rfl rfl (L.m rfl (L.m rfl (L.o (O.eql_t rfl rfl rfl (L.o (O.pick_true rfl rfl (L.m rfl (L.m rfl (L.o (O.eql_t rfl rfl rfl (?_))))))))))))
 have hA64:=hE31.trans (he5.trans he64)
 refine L.o (O.pick_true rfl rfl (L.m rfl (L.o (O.buildSlice (el:=3) (parts:=[(0,.const (.int .i64 0)),(1,.const (.int .i64 1)),(2,.const (.int .i64 0))]) (vs:=[(0,_),(1,_),(2,_)]) (cs:=([0,1,0].map (Value.int .i64))) rfl (fun w=>by kernel_rfl) (fun b75 w75 hb75 hz75 he75 hB75=>?_)))))
 have hA75:=hA64.trans he75
 refine L.o (O.call (xs:=[_,.tmp 75]) call51 rfl rfl (reads_yes 0 ([117,110,105,116,44,100,105,115,116,114,105,99,116,10,98,44,50,10,97,44,49,10,99,44,49,10]) _ [0,1,0] w75 (hL.ext hA75) (by decide) (Ints.of_blk hB75 rfl (by decide) (Nat.zero_le _)) rd_roll) (fun v76 w76 hq=>?_))
 obtain ⟨rfl,he76⟩:=hq
 have hA76:=hA75.trans he76
 refine L.o (O.pick_true rfl rfl (L.m rfl (L.o (O.call (xs:=[_,.const (.int .i64 0),.const (.int .i64 4)]) call16 rfl rfl (stops_yes ([117,110,105,116,44,100,105,115,116,114,105,99,116,10,97,44,49,10,99,44,49,10]) 0 4 w76 (hL.ext hA76) (by decide) st_roll0) (fun v900 w900 hq=>?_)))))
 obtain ⟨rfl,he900⟩:=hq
 have hA900:=hA76.trans he900
 refine L.o (O.pick_true rfl rfl (L.m rfl (L.o (O.call (xs:=[_,.const (.int .i64 2),.const (.int .i64 5)]) call16 rfl rfl (stops_yes ([117,110,105,116,44,100,105,115,116,114,105,99,116,10,97,44,57,10,98,44,50,10,99,44,49,10]) 2 5 w900 (hL.ext hA900) (by decide) st_roll1) (fun v901 w901 hq=>?_)))))
 obtain ⟨rfl,he901⟩:=hq
 have hA901:=hA900.trans he901
 refine L.o (O.pick_true rfl rfl (L.m rfl (L.o (O.call (xs:=[_,.const (.int .i64 5),.const (.int .i64 5)]) call16 rfl rfl (stops_yes ([117,110,105,116,44,100,105,115,116,114,105,99,116,10,97,44,49,10,98,44,50,10,99,44,49,10,97,44,49,10]) 5 5 w901 (hL.ext hA901) (by decide) st_roll2) (fun v902 w902 hq=>?_)))))
 obtain ⟨rfl,he902⟩:=hq
 have hA902:=hA901.trans he902
 refine L.o (O.pick_true rfl rfl (L.m rfl (L.o (O.slice_str_h runUnderlying9 rfl rfl (by decide) (by decide) (L.o (O.call (xs:=[.tmp 88,.const (.int .i64 4),.const (.int .i64 5)]) call16 rfl rfl (stops_yes ([117,110,105,116,44,100,105,115,116,114,105,99,116,10,97,44,49,10,98,44,50,10,99,44,49]) 4 5 w902 (hL.ext hA902) (by decide) st_roll3) (fun v903 w903 hq=>?_)))))))
 obtain ⟨rfl,he903⟩:=hq
 have hA903:=hA902.trans he903
 refine L.o (O.pick_true rfl rfl (L.m rfl (L.o (O.slice_str_h runUnderlying9 rfl rfl (by decide) (by decide) (L.o (O.call (xs:=[.tmp 92,.const (.int .i64 0),.const (.int .i64 5)]) call17 rfl rfl (refused_yes (shapeL.take 61) 0 5 w903 (hL.ext hA903) (by decide) rf_shape) (fun v950 w950 hq=>?_)))))))
 obtain ⟨rfl,he950⟩:=hq
 refine L.o (O.pick_true rfl rfl (L.a rfl (L.nil (T.ret1 results10 rfl ⟨rfl,hA903.trans he950⟩))))

end Go.Proofs.YtnlonpcbgjbbaaaGreatDoor
