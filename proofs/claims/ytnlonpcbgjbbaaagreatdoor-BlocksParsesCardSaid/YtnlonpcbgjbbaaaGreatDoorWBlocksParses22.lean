/-
  BlocksParses, part 22 of its proof: that it returns true for every input, and each argument reads behind the call as it read before. Conditions: the listed variables read as the program's text lays them (tied by the card).
-/
import Derived.Test.YtnlonpcbgjbbaaaGreatDoorWBlocksParses21
import Derived.Test.YtnlonpcbgjbbaaaGreatDoorWBlocksParses16
set_option linter.unusedVariables false
set_option linter.unusedSimpArgs false
set_option maxRecDepth 20000
namespace Go.Proofs.YtnlonpcbgjbbaaaGreatDoor
open Go.Proofs.Tryz
open Go Go.E RowKit
attribute [local irreducible] Go.E.T Go.E.L Go.E.O Go.E.Ob
attribute [local irreducible] Go.E.ObX Go.E.ObG Go.E.ObK
variable {c:CxV} {s:PS} {r:RoV} {w:World}
theorem NT {C:Cx} {e:Env} {K:Value→World→Prop} {d:Option Tmp} {ty:TypeId} {pos:String} {aft:Array Edge} {g:Option (Nat × Bool)} {x y:Operand} {p:Pt} (hP:C.P=Tryz.prog) (hx:ev e x=some (pV p)) (hy:ev e y=some (pV p)) (h:K (.bool false) w):O C e ⟨d,.binOp .neq 124 x y 124,ty,pos,aft,g⟩ w K :=
 bD spX (fun ac a=>by
  rw [hP]
  have b:=eqPt p p w
  unfold pV at hx hy b
  simp only [execOp,a.eval hx,a.eval hy,Sem.run_bind,run_eqGuard_agg w _ _ _ _ _ _ Gp,Result.andThen_ok,run_neq_struct,b,decide_true]
  rfl) h
def RiS (f:FaV) (v:Value) (W:World):Prop:=Sl 0 W v f.ri.length 1 (dw f.ri)
theorem RiS.st {f:FaV} : ∀ v w w',Ext w w'→RiS f v w→RiS f v w':=fun _ _ _ k h=>Sl.ext h k
theorem X3 {f g:FaV} (h:sN f=sN g):f.ri.length=g.ri.length∧∀ k,(f.ri.getD k r0).xs=(g.ri.getD k r0).xs:=by
 have b:f.o.xs=g.o.xs:=congrArg Prod.fst h
 have c:f.hs.map (·.xs)=g.hs.map (·.xs):=congrArg Prod.snd h
 have a:f.ri.map (·.xs)=g.ri.map (·.xs):=by simp only [FaV.ri,List.map_cons,b,c]
 refine ⟨by simpa using congrArg List.length a,fun k=>?_⟩
 have e1:=getD_map' (f:=fun x:RiV=>x.xs) (d:=r0) (e:=[]) rfl f.ri k
 have i:=getD_map' (f:=fun x:RiV=>x.xs) (d:=r0) (e:=[]) rfl g.ri k
 rw [← e1,← i,a]
theorem UF (lo lo2:Nat) (p q:Value) (ps:List Pt) (w:World) (f:Pts lo w p ps) (j:Pts lo2 w q ps) :
  Calls Tryz.prog 130 #[p,q] w (Ret fun v w'=>v = .bool true∧Ext w w'):=by
 have k:=Sl.le f
 refine aJ (vs:=[p,q]) func130 Z ntmps130 Z ?_
 refine au (ah Z (aj (aQ Z (L.le Z (Sl.val f) (L.m Z (L.le Z (Sl.val j) (L.o (fP Z Z omX (aU (T.skip (aj (au (ah Z (T.block (?_)))))))))))))))
 refine bf (σ:=Nat) (fun i=>[(0,p),(1,q),(5,.int .i64 i)]) (fun i w'=>i≤ps.length∧Ext w w') (fun i=>ps.length-i) (0) ⟨rfl,rfl,rfl,trivial⟩ ⟨Nat.zero_le _,Keep.refl _ _⟩ ?_
 rintro i w1 ⟨hi,b⟩
 have c:=f.ext b
 have e:=j.ext b
 refine aj (au (aN Z Z (L.le Z (Sl.val c) (bH Z Z (fun g=>?_) (fun g=>?_)))))
 ·refine ak (?_)
  have a:i<ps.length:=by omega
  refine aZ (T.skip (aj (T.block (aj (?_)))))
  refine dn mixed 8 [0,5,1] Z [.is _,.is _,.is _,.is _,.is _,.is _,.is _,.is _] [[],[],[0,1],[2],[],[],[4,5],[6]] trivial ⟨fun d hx=>aF rfl,
    fun d hx=>aF rfl,
    fun d hx=>bQ rfl rfl (c.ext hx),
    fun d hx=>bJ rfl rfl ((c.ext hx).row a),
    fun d hx=>aF rfl,
    fun d hx=>aF rfl,
    fun d hx=>bQ rfl rfl (e.ext hx),
    fun d hx=>bJ rfl rfl ((e.ext hx).row a),
    trivial⟩ (fun l h=>?_)
  refine L.o (NT (p:=ps.getD i (0,0)) Z Z Z (aU (T.skip (T.blk (aA (L.m Z (bF Z Z (ah Z (aP (i+1) omX ⟨rfl,rfl,rfl,trivial⟩ ⟨a,b.trans h⟩)))))))))
 refine aU (aY Z (au (ah Z (aB results130 Z ⟨rfl,b⟩))))
theorem Qn (lo lo2:Nat) (p q:Value) (xs ys:List Int) (w:World) (f:Ints .i64 lo w p xs) (k:Ints .i64 lo2 w q ys) (g:xs=ys) :
  Calls Tryz.prog 132 #[p,q] w (Ret fun v w'=>v = .bool true∧Ext w w'):=by
 subst g
 have l:=Sl.le f
 refine aJ (vs:=[p,q]) func132 Z ntmps132 Z ?_
 refine au (ah Z (aj (aQ Z (L.le Z (Sl.val f) (L.m Z (L.le Z (Sl.val k) (L.o (fP Z Z omX (aU (T.skip (aj (au (ah Z (T.block (?_)))))))))))))))
 refine bf (σ:=Nat) (fun i=>[(0,p),(1,q),(5,.int .i64 i)]) (fun i w'=>i≤xs.length∧Ext w w') (fun i=>xs.length-i) (0) ⟨rfl,rfl,rfl,trivial⟩ ⟨Nat.zero_le _,Keep.refl _ _⟩ ?_
 rintro i w1 ⟨hi,b⟩
 have c:=f.ext b
 have e:=k.ext b
 refine aj (au (aN Z Z (L.le Z (Sl.val c) (bH Z Z (fun h=>?_) (fun h=>?_)))))
 ·refine ak (?_)
  have a:i<xs.length:=by omega
  refine aZ (T.skip (aj (T.block (aj (?_)))))
  refine dn mixed 8 [0,5,1] Z [.is _,.is _,.is _,.is _,.is _,.is _,.is _,.is _] [[],[],[0,1],[2],[],[],[4,5],[6]] trivial ⟨fun d hx=>aF rfl,
    fun d hx=>aF rfl,
    fun d hx=>bQ rfl rfl (c.ext hx),
    fun d hx=>aS rfl (Ints.at (c.ext hx) a),
    fun d hx=>aF rfl,
    fun d hx=>aF rfl,
    fun d hx=>bQ rfl rfl (e.ext hx),
    fun d hx=>aS rfl (Ints.at (e.ext hx) a),
    trivial⟩ (fun n j=>?_)
  refine L.o (fP Z Z spX (aU (T.skip (T.blk (aA (L.m Z (bF Z Z (ah Z (aP (i+1) omX ⟨rfl,rfl,rfl,trivial⟩ ⟨a,b.trans j⟩)))))))))
 refine aU (aY Z (au (ah Z (aB results132 Z ⟨rfl,b⟩))))
set_option maxHeartbeats 1000000 in
theorem UG (lo lo2:Nat) (c c':CxV) (w:World) (W:c.ok lo w) (F:c'.ok lo2 w) (G:c.ps=c'.ps) (u:c.fs.map sN=c'.fs.map sN) (hn:∀ f∈c.fs,f.hs.length≤100000) :
  Calls Tryz.prog 74 #[c.val,c'.val] w (Ret fun v w'=>v = .bool true∧Ext w w'):=by
 have hl:c.fs.length=c'.fs.length:=by simpa using congrArg List.length u
 have y:∀ i,i<c.fs.length→sN (c.fs.getD i f0)=sN (c'.fs.getD i f0):=fun i hi ↦ by
  have e1:=getD_map' (f:=sN) (d:=f0) (e:=sN f0) rfl c.fs i
  have X:=getD_map' (f:=sN) (d:=f0) (e:=sN f0) rfl c'.fs i
  rw [← e1,← X,u]
 have H:∀ f∈c'.fs,f.hs.length≤100000:=fun f hf ↦ by
  obtain ⟨i,hi,rfl⟩:=List.getElem_of_mem hf
  have U:=y i omX
  rw [aX (show i<c'.fs.length from hi),aX (show i<c.fs.length by omega)] at U
  have V:=congrArg (fun x=>(Prod.snd x).length) U
  simp only [sN,List.length_map] at V
  rw [← V]
  exact hn _ (List.getElem_mem _)
 refine aJ (vs:=[c.val,c'.val]) func74 Z ntmps74 Z ?_
 refine au (bM Z (fun b2 w2 Y aa I hB2=>?_))
 refine bM Z (fun b3 E ab ac z hB3=>?_)
 have J:=I.trans z
 have n:Blk E b2 c.cells 46:=Blk.ext (cs:=c.cells) hB2 z
 have hC2:Blk E b3 c'.cells 46:=hB3
 have j:=W.ext J
 have akc:=F.ext J
 have ad:=Sl.le j.sl
 refine ah Z (aj (au (aC Z (n.cell Z) (aC Z (hC2.cell Z) (L.o (ay (xs:=[.tmp 10,.tmp 12]) call130 Z Z (UF lo lo2 c.pv c'.pv c.ps E j.p (by rw [G];exact akc.p)) (fun ae af A=>?_)))))))
 obtain ⟨rfl,iH⟩:=A
 refine bT Z (L.m Z (aC Z ((Blk.ext (cs:=c.cells) n iH).cell Z) (L.le Z (Sl.val ((j.ext iH).sl)) (aC Z ((Blk.ext (cs:=c'.cells) hC2 iH).cell Z) (L.le Z (Sl.val ((akc.ext iH).sl)) (L.o (fP Z Z omX (aI Z (aU (T.skip (aj (au (ah Z (T.block (?_)))))))))))))))
 refine bf (σ:=Nat) (fun i=>[(2,.pointer (some ⟨b2,0,none⟩)),(3,.pointer (some ⟨b3,0,none⟩)),(5,.int .i64 i)]) (fun i w'=>i≤c.fs.length∧Ext E w') (fun i=>c.fs.length-i) (0) ⟨rfl,rfl,rfl,trivial⟩ ⟨Nat.zero_le _,iH⟩ ?_
 rintro i ag ⟨hi,je⟩
 have hD1:=Blk.ext (cs:=c.cells) n je
 have hD2:=Blk.ext (cs:=c'.cells) hC2 je
 have agc:=j.ext je
 have aas:=akc.ext je
 refine aj (aQ Z (aC Z (hD1.cell Z) (L.le Z (Sl.val agc.sl) (bH Z Z (fun K=>?_) (fun K=>?_)))))
 ·refine ak (?_)
  have b:i<c.fs.length:=by omega
  have B:=X3 (y i b)
  have M:c.fs.getD i f0∈c.fs:=by rw [aX b];exact List.getElem_mem b
  have N:c'.fs.getD i f0∈c'.fs:=by rw [aX (show i<c'.fs.length by omega)];exact List.getElem_mem _
  refine aZ (T.skip (aj (T.block (aj (?_)))))
  refine dn mixed 11 [2,5,3] Z [.is _,.is _,.is _,.is _,.is _,.such (RiS (c.fs.getD i f0)),.is _,.is _,.is _,.is _,.is _] [[],[0],[],[1,2],[3],[4],[],[6],[],[7,8],[9]] ⟨RiS.st,trivial⟩ ⟨fun g hx=>Ob.fa rfl,
    fun g hx=>aS rfl ((Blk.ext (cs:=c.cells) hD1 hx).cell rfl),
    fun g hx=>aF rfl,
    fun g hx=>bQ rfl rfl ((agc.ext hx).sl),
    fun g hx=>bJ rfl rfl ((agc.ext hx).row b),
    fun g hx=>Ob.o (ay (xs:=[.tmp 35]) call131 Z Z (jm lo (c.fs.getD i f0) g ((agc.ext hx).at b) (hn _ M)) (fun v wy h=>⟨h.1,Sl.mono h.2.1 lzX⟩)),
    fun g hx=>Ob.fa rfl,
    fun g hx=>aS rfl ((Blk.ext (cs:=c'.cells) hD2 hx).cell rfl),
    fun g hx=>aF rfl,
    fun g hx=>bQ rfl rfl ((aas.ext hx).sl),
    fun g hx=>bJ rfl rfl ((aas.ext hx).row omX),
    trivial⟩ (fun w6 C O ara=>?_)
  refine L.o (ay (xs:=[.tmp 41]) call131 Z Z (jm lo2 (c'.fs.getD i f0) w6 ((aas.ext C).at omX) (H _ N)) (fun P q A=>?_))
  obtain ⟨adU,arb,_⟩:=A
  have r:RiS (c.fs.getD i f0) O q:=RiS.st _ _ _ adU ara
  have s:RiS (c'.fs.getD i f0) P q:=Sl.mono arb lzX
  have adu:=C.trans adU
  obtain ⟨oa,ca,rfl,_,ai⟩:=Sl.val r
  obtain ⟨ob,cb,rfl,_,al⟩:=Sl.val s
  refine L.a Z (ah Z (aj (aQ Z (L.le Z (Sl.val r) (L.m Z (L.le Z (Sl.val s) (L.o (fP Z Z (by have:=B.1;omega) (aU (T.skip (au (ah Z (T.block (?_))))))))))))))
  refine bf (σ:=Nat) (fun k=>[(2,.pointer (some ⟨b2,0,none⟩)),(3,.pointer (some ⟨b3,0,none⟩)),(5,.int .i64 i),(6,.slice oa (c.fs.getD i f0).ri.length ca),(7,.slice ob (c'.fs.getD i f0).ri.length cb),(8,.int .i64 k)]) (fun k w'=>k≤(c.fs.getD i f0).ri.length∧Ext q w') (fun k=>(c.fs.getD i f0).ri.length-k) (0) ⟨rfl,rfl,rfl,rfl,rfl,rfl,trivial⟩ ⟨Nat.zero_le _,Keep.refl _ _⟩ ?_
  rintro k D ⟨hk,nY⟩
  have hS1:Sl 0 D (.slice oa (c.fs.getD i f0).ri.length ca) (c.fs.getD i f0).ri.length 1 (dw (c.fs.getD i f0).ri):=Sl.ext r nY
  have hS2:Sl 0 D (.slice ob (c'.fs.getD i f0).ri.length cb) (c'.fs.getD i f0).ri.length 1 (dw (c'.fs.getD i f0).ri):=Sl.ext s nY
  have aus:=Sl.le hS1
  refine aj (au (aN Z Z (L.le Z (Sl.val hS1) (bH Z Z (fun Q=>?_) (fun Q=>?_)))))
  ·refine ak (?_)
   have l:k<(c.fs.getD i f0).ri.length:=by omega
   have t:k<(c'.fs.getD i f0).ri.length:=by omega
   have R:=((agc.ext (adu.trans nY)).at b).ri _ (show (c.fs.getD i f0).ri.getD k r0∈_ by rw [aX l];exact List.getElem_mem l)
   have hO2:=((aas.ext (adu.trans nY)).at (show i<c'.fs.length by omega)).ri _ (show (c'.fs.getD i f0).ri.getD k r0∈_ by rw [aX t];exact List.getElem_mem t)
   refine aZ (T.skip (aj (T.block (aj (?_)))))
   refine dn mixed 8 [6,8,7] Z [.is _,.is _,.is _,.is _,.is _,.is _,.is _,.is _] [[],[],[0,1],[2],[],[],[4,5],[6]] trivial ⟨fun g hx=>aF rfl,
     fun g hx=>aF rfl,
     fun g hx=>bQ rfl rfl (Sl.ext hS1 hx),
     fun g hx=>aS rfl (Sl.at1 (Sl.ext hS1 hx) (lK l)),
     fun g hx=>aF rfl,
     fun g hx=>aF rfl,
     fun g hx=>bQ rfl rfl (Sl.ext hS2 hx),
     fun g hx=>aS rfl (Sl.at1 (Sl.ext hS2 hx) (lK t)),
     trivial⟩ (fun S jD=>?_)
   refine L.o (ay (xs:=[.tmp 57,.tmp 61]) call132 Z Z (Qn lo lo2 _ _ _ _ S (R.ext jD) (hO2.ext jD) (B.2 k)) (fun am an A=>?_))
   obtain ⟨rfl,aak⟩:=A
   refine bT Z (aU (T.skip (T.blk (aA (L.m Z (bF Z Z (ah Z (aP (k+1) omX ⟨rfl,rfl,rfl,rfl,rfl,rfl,trivial⟩ ⟨l,nY.trans (jD.trans aak)⟩))))))))
  refine aU (aY Z (T.blk (aA (L.m Z (bF Z Z (ah Z (aP (i+1) omX ⟨rfl,rfl,rfl,trivial⟩ ⟨b,je.trans (adu.trans nY)⟩)))))))
 refine aU (aY Z (au (ah Z (aB results74 Z ⟨rfl,J.trans je⟩))))
def JU (r:RoV):Bool:=(Fp r).all id && (List.range r.us.length).all fun j=>gK r (r.us.getD j u0) && ((List.range j).all fun k=>!decide ((r.us.getD k u0).nm=(r.us.getD j u0).nm) && (!(r.us.getD k u0).wt || (r.us.getD j u0).wt)) && (!decide (j=0) || !(r.us.getD j u0).wt)
theorem nR (r:RoV):JU r=true↔gG r:=by
 unfold JU
 rw [Bool.and_eq_true]
 constructor
 ·rintro ⟨f,g⟩
  refine ⟨f,fun j i=>?_⟩
  have:=List.all_eq_true.1 g j (List.mem_range.2 i)
  simp only [Bool.and_eq_true,List.all_eq_true,List.mem_range,Bool.or_eq_true,Bool.not_eq_true',decide_eq_false_iff_not] at this
  obtain ⟨⟨a,b⟩,c⟩:=this
  exact ⟨a,fun k e=>(b k e).1,fun k e l=>(b k e).2.resolve_left (by rw [l];decide),fun h0=>c.resolve_left (fun h=>h h0)⟩
 rintro ⟨f,g⟩
 refine ⟨f,List.all_eq_true.2 fun j i=>?_⟩
 obtain ⟨a,b,c,d⟩:=g j (List.mem_range.1 i)
 simp only [Bool.and_eq_true,List.all_eq_true,List.mem_range,Bool.or_eq_true,Bool.not_eq_true',decide_eq_false_iff_not]
 refine ⟨⟨a,fun k e=>⟨b k e,?_⟩⟩,?_⟩
 ·cases l:(r.us.getD k u0).wt
  ·exact .inl rfl
  exact .inr (c k e l)
 by_cases h0:j=0
 ·exact .inr (d h0)
 exact .inl h0
theorem UH (r:RoV):ji r=if JU r then 0 else 161:=by
 cases h:JU r
 ·exact gY (fun a=>by rw [(nR r).2 a] at h;cases h)
 exact jy ((nR r).1 h)
theorem ED (us:List UnV):nmA (us.map qZ)=nmA us:=by
 funext i
 unfold nmA
 rw [Ew];rfl
theorem qo:∀ us:List UnV,eF (us.map qZ)=eF us
 | []=>rfl
 | u::r=>by
  simp only [List.map_cons,eF]
  rw [qo r];rfl
def FY (r:RoV) (t:Str):List Int × Nat × Int:=if JU r then Ei (nmA r.us) (eF r.us) t else ([],0,161)
theorem vO (r:RoV) (t:Str):nX r t=FY (stripR r) t:=by
 by_cases h:gG r
 ·rw [vJ h,FY,(nR _).2 ((jq r).2 h),if_pos rfl]
  show _=Ei (nmA (r.us.map qZ)) (eF (r.us.map qZ)) t
  rw [ED,qo]
 rw [Ej h,FY,if_neg (fun k=>h ((jq r).1 ((nR _).1 k)))]
def aat (r:RoV) (xs:List Int) (t:Str):List Int × Nat × Int:=if JU r then (if wW xs (eF r.us)=true then iU (nmA r.us) xs t else ([],0,2)) else ([],0,161)
theorem HY (r:RoV) (xs:List Int) (t:Str):pI r xs t=aat (stripR r) xs t:=by
 by_cases h:gG r
 ·rw [zQ h,aat,(nR _).2 ((jq r).2 h),if_pos rfl]
  show _=if wW xs (eF (r.us.map qZ))=true then iU (nmA (r.us.map qZ)) xs t else _
  rw [ED,qo]
 rw [Eh h,aat,if_neg (fun k=>h ((jq r).1 ((nR _).1 k)))]
def ahD (s:PS):Int:=if iq s.cx then 150 else if JU s.ro then (if s.ro.us.length≠s.cx.fs.length then 160 else 0) else 161
theorem X4 (s:PS):XH s=ahD s:=by
 unfold XH ahD gQ
 rw [UH]
 cases iq s.cx <;> cases JU s.ro <;> rfl
def NU (t:Str):PS ⊕ (Int × Int) :=
 if 40000<t.length then .inr (0,3) else match BH (fun s l=>aae s (jo [] l)) PS0 (dM 10 t) 1 with
 | .inr n=>.inr ((n:Int),5)
 | .inl s=>if s.last=lU then (if ahD s=0 then .inl s else .inr (0,ahD s)) else .inr (0,5)
theorem NV (t:Str):iW t=NU t:=by
 have e:iE=fun s l=>aae s (jo [] l):=by funext s l;exact aaf s l
 unfold iW NU
 rw [e]
 simp only [X4]
 rfl
def Ad:RoV:=⟨1,2,1,undef,[⟨[97],10,.slice none 0 0,[4],.slice none 0 0,[3,5],.slice none 0 0,[7],false⟩,⟨[98],20,.slice none 0 0,[0],.slice none 0 0,[9,1],.slice none 0 0,[2],false⟩,⟨[99],5,.slice none 0 0,[5],.slice none 0 0,[0,0],.slice none 0 0,[7],false⟩,⟨[119],0,.slice none 0 0,[0],.slice none 0 0,[0,0],.slice none 0 0,[0],true⟩]⟩
def uK (nm:Str) (pp:Int) (bg bv bp:Nat) (gs vs ps:List Int) (wt:Bool):UnV:=⟨nm,pp,.slice (some ⟨bg,0,none⟩) gs.length gs.length,gs,.slice (some ⟨bv,0,none⟩) vs.length vs.length,vs,.slice (some ⟨bp,0,none⟩) ps.length ps.length,ps,wt⟩
theorem aau {lo:Nat} {nm:Str} {pp:Int} {bg bv bp:Nat} {gs vs ps:List Int} {wt:Bool} (hn:nm.length≤9223372036854775807) (a:Blk w bg (gs.map (.int .i64)) 3) (hv:Blk w bv (vs.map (.int .i64)) 3) (b:Blk w bp (ps.map (.int .i64)) 3) (lg:lo≤bg) (lv:lo≤bv) (lp:lo≤bp) (mg:gs.length≤maxLen) (mv:vs.length≤maxLen) (mp:ps.length≤maxLen):(uK nm pp bg bv bp gs vs ps wt).ok lo w :=
 ⟨Ints.bI a rfl mg lg,Ints.bI hv rfl mv lv,Ints.bI b rfl mp lp,hn⟩
theorem EG (r:RoV) (h:r.uv.oneCell'=true):∀ c∈r.cells,c.oneCell'=true:=fun c a=>by
 simp only [RoV.cells,List.mem_cons,List.not_mem_nil,or_false] at a
 rcases a with rfl|rfl|rfl|rfl
 ·rfl
 ·rfl
 ·rfl
 exact h
def adv:PS:=⟨[(0,0),(4,0),(0,4)],[([0,1,2],[])],0,0,0,[⟨[97],3,[],[],[],false⟩],lU⟩
def agd (b:Nat):FaV:=⟨⟨.slice (some ⟨b,0,none⟩) 3 3,[0,1,2]⟩,.slice none 0 0,[]⟩
def ael (b4 b5 b7:Nat):CxV:=⟨.slice (some ⟨b4,0,none⟩) 3 3,[(0,0),(4,0),(0,4)],.slice (some ⟨b7,0,none⟩) 1 1,[agd b5]⟩
def agf:UnV:=⟨[97],3,.slice none 0 0,[],.slice none 0 0,[],.slice none 0 0,[],false⟩
def aem (b10:Nat):RoV:=⟨0,0,0,.slice (some ⟨b10,0,none⟩) 1 1,[agf]⟩
theorem X5 {lo b4 b5 b7:Nat} (a:Blk w b4 (pcs [(0,0),(4,0),(0,4)]) 124) (b:Blk w b5 ([0,1,2].map (Value.int .i64)) 3) (c:Blk w b7 (fO [agd b5]) 127) (d:lo≤b4) (e:lo≤b5) (g:lo≤b7):(ael b4 b5 b7).ok lo w:=by
 refine ⟨Sl.bI (n:=3) (sz:=2) a rfl leX dcX d,Sl.bI (n:=1) (sz:=2) c rfl leX dcX g,fun f hf=>?_⟩
 rw [List.mem_singleton.1 hf]
 exact ⟨Ints.bI b rfl dcX e,Sl.nil _ _ _,fun h i=>by cases i⟩
theorem X6 {lo a:Nat} (h:Blk w a (iR [agf]) 51) (l:lo≤a):(aem a).ok lo w:=by
 refine ⟨Sl.bI (n:=1) (sz:=6) h rfl leX dcX l,fun u b=>?_⟩
 rw [List.mem_singleton.1 b]
 exact ⟨Sl.nil _ _ _,Sl.nil _ _ _,Sl.nil _ _ _,dcX⟩
theorem EH (w:World) :
  Calls Tryz.prog 20 #[] w (Ret fun v w'=>∃ b4 b5 b7 a,v = .agg (fA (ael b4 b5 b7) (aem a)).toArray∧(w.heap.size≤b4∧w.heap.size≤b5∧w.heap.size≤b7∧w.heap.size≤a)∧Blk w' b4 (pcs [(0,0),(4,0),(0,4)]) 124∧Blk w' b5 ([0,1,2].map (Value.int .i64)) 3∧Blk w' b7 (fO [agd b5]) 127∧Blk w' a (iR [agf]) 51∧Ext w w'):=by
 refine aJ (vs:=[]) func20 Z ntmps20 Z ?_
 refine au (L.o (O.alloc zeroValue48 (fun b0 w0 n p g hB0=>?_)))
 refine ak (au (L.o (bU (v:=(pV (0,0))) (parts:=[]) (vs:=[]) Z (fun w=>by kernel_rfl) (L.o (bU (v:=(pV (4,0))) (parts:=[(0,.const (.int .i64 4))]) (vs:=[(0,_)]) Z (fun w=>by kernel_rfl) (L.o (bU (v:=(pV (0,4))) (parts:=[(1,.const (.int .i64 4))]) (vs:=[(1,_)]) Z (fun w=>by kernel_rfl) (L.o (aH (el:=124) (parts:=[(0,.tmp 1),(1,.tmp 2),(2,.tmp 3)]) (vs:=[(0,_),(1,_),(2,_)]) (cs:=(pcs [(0,0),(4,0),(0,4)])) Z (fun w=>by kernel_rfl) (fun b4 A q r b h=>?_))))))))))
 refine L.o (aH (el:=3) (parts:=[(0,.const (.int .i64 0)),(1,.const (.int .i64 1)),(2,.const (.int .i64 2))]) (vs:=[(0,_),(1,_),(2,_)]) (cs:=([0,1,2].map (Value.int .i64))) Z (fun w=>by kernel_rfl) (fun b5 B s t c i=>?_))
 refine L.o (bU (v:=(agd b5).val) (parts:=[(0,.tmp 5)]) (vs:=[(0,_)]) Z (fun w=>by kernel_rfl) (L.o (aH (el:=127) (parts:=[(0,.tmp 6)]) (vs:=[(0,_)]) (cs:=(fO [agd b5])) Z (fun w=>by kernel_rfl) (fun b7 w7 u x d j=>?_))))
 refine L.o (bU (v:=(ael b4 b5 b7).val) (parts:=[(0,.tmp 4),(1,.tmp 7)]) (vs:=[(0,_),(1,_)]) Z (fun w=>by kernel_rfl) (L.o (bU (v:=agf.val) (parts:=[(0,_),(1,.const (.int .i64 3))]) (vs:=[(0,_),(1,_)]) Z (fun w=>by kernel_rfl) (L.o (aH (el:=51) (parts:=[(0,.tmp 9)]) (vs:=[(0,_)]) (cs:=(iR [agf])) Z (fun w=>by kernel_rfl) (fun a e aeO aaQ jf EP=>?_))))))
 refine L.o (bU (v:=(aem a).val) (parts:=[(3,.tmp 10)]) (vs:=[(3,_)]) Z (fun w=>by kernel_rfl) (L.o (bU (v:=.agg (fA (ael b4 b5 b7) (aem a)).toArray) (parts:=[(0,.tmp 8),(1,.tmp 11)]) (vs:=[(0,_),(1,_)]) Z (fun w=>by kernel_rfl) (?_))))
 have hE0:Ext w0 e:=((b.trans c).trans d).trans jf
 have k:=Blk.ext h ((c.trans d).trans jf)
 have l:=Blk.ext i (d.trans jf)
 have m:=Blk.ext j jf
 have C:=b.size
 have D:=(b.trans c).size
 have l10:=((b.trans c).trans d).size
 have y:(ael b4 b5 b7).ok w0.heap.size e:=X5 k l m omX omX omX
 have z:(aem a).ok w0.heap.size e:=X6 EP omX
 refine L.o (aK sizeOf48 Z Z Z (Blk.ext hB0 hE0) leX (lV y z) (fun f Dq ET=>?_))
 replace Dq:Upd b0 e f:=Dq
 have akd:Blk f b0 (fA (ael b4 b5 b7) (aem a)) 48:=ET
 refine ak (jZ results20 isAgg48 sizeOf48 Z Z (Row.bI akd) ⟨b4,b5,b7,a,rfl,⟨omX,omX,omX,omX⟩,Blk.upd k Dq omX,Blk.upd l Dq omX,Blk.upd m Dq omX,Blk.upd EP Dq omX,(g.trans hE0).upd Dq (.inr omX)⟩)
theorem wE (w:World):Calls Tryz.prog 20 #[] w (Ret fun v w'=>∃ c r,v = .agg (fA c r).toArray∧c.ok w.heap.size w'∧r.ok w.heap.size w'∧Says c r adv∧Ext w w'):=by
 refine (EH w).mono ?_
 rintro (v|_|_) w' h
 ·obtain ⟨b4,b5,b7,b,d,⟨e,f,g,l10⟩,i,j,k,a,l⟩:=h
  exact ⟨_,_,d,X5 i j k e f g,X6 a l10,⟨rfl,rfl,rfl,rfl,rfl,rfl⟩,l⟩
 ·exact h
 exact h
set_option maxHeartbeats 1000000 in
theorem vP (w:World) :
  Calls Tryz.prog 11 #[] w (Ret fun v w'=>∃ r:RoV,v=r.val∧r.ok w.heap.size w'∧stripR r=Ad∧Ext w w'):=by
 refine aJ (vs:=[]) func11 Z ntmps11 Z ?_
 refine au (L.o (O.alloc zeroValue25 (fun b0 w0 E F x hB0=>?_)))
 refine ak (au (L.o (aH (el:=3) (parts:=[(0,.const (.int .i64 4))]) (vs:=[(0,_)]) (cs:=([4].map (Value.int .i64))) Z (fun w=>by kernel_rfl) (fun b1 w1 G H b hB1=>?_))))
 refine L.o (aH (el:=3) (parts:=[(0,.const (.int .i64 3)),(1,.const (.int .i64 5))]) (vs:=[(0,_),(1,_)]) (cs:=([3,5].map (Value.int .i64))) Z (fun w=>by kernel_rfl) (fun b2 w2 I J c hB2=>?_))
 refine L.o (aH (el:=3) (parts:=[(0,.const (.int .i64 7))]) (vs:=[(0,_)]) (cs:=([7].map (Value.int .i64))) Z (fun w=>by kernel_rfl) (fun b3 w3 K M d hB3=>?_))
 refine L.o (bU (v:=(uK [97] 10 b1 b2 b3 [4] [3,5] [7] false).val) (parts:=[(0,_),(1,.const (.int .i64 10)),(2,.tmp 1),(3,.tmp 2),(4,.tmp 3)]) (vs:=[(0,_),(1,_),(2,_),(3,_),(4,_)]) Z (fun w=>by kernel_rfl) (L.o (aH (el:=3) (parts:=[(0,.const (.int .i64 0))]) (vs:=[(0,_)]) (cs:=([0].map (Value.int .i64))) Z (fun w=>by kernel_rfl) (fun b5 w5 N P e y=>?_))))
 refine L.o (aH (el:=3) (parts:=[(0,.const (.int .i64 9)),(1,.const (.int .i64 1))]) (vs:=[(0,_),(1,_)]) (cs:=([9,1].map (Value.int .i64))) Z (fun w=>by kernel_rfl) (fun q w6 Q R f z=>?_))
 refine L.o (aH (el:=3) (parts:=[(0,.const (.int .i64 2))]) (vs:=[(0,_)]) (cs:=([2].map (Value.int .i64))) Z (fun w=>by kernel_rfl) (fun b7 w7 S T g A=>?_))
 refine L.o (bU (v:=(uK [98] 20 b5 q b7 [0] [9,1] [2] false).val) (parts:=[(0,_),(1,.const (.int .i64 20)),(2,.tmp 5),(3,.tmp 6),(4,.tmp 7)]) (vs:=[(0,_),(1,_),(2,_),(3,_),(4,_)]) Z (fun w=>by kernel_rfl) (L.o (aH (el:=3) (parts:=[(0,.const (.int .i64 5))]) (vs:=[(0,_)]) (cs:=([5].map (Value.int .i64))) Z (fun w=>by kernel_rfl) (fun s w9 U V h B=>?_))))
 refine L.o (aH (el:=3) (parts:=[(0,.const (.int .i64 0)),(1,.const (.int .i64 0))]) (vs:=[(0,_),(1,_)]) (cs:=([0,0].map (Value.int .i64))) Z (fun w=>by kernel_rfl) (fun i W aeO aaQ jf EP=>?_))
 refine L.o (aH (el:=3) (parts:=[(0,.const (.int .i64 7))]) (vs:=[(0,_)]) (cs:=([7].map (Value.int .i64))) Z (fun w=>by kernel_rfl) (fun j X aea Yy iK rD=>?_))
 refine L.o (bU (v:=(uK [99] 5 s i j [5] [0,0] [7] false).val) (parts:=[(0,_),(1,.const (.int .i64 5)),(2,.tmp 9),(3,.tmp 10),(4,.tmp 11)]) (vs:=[(0,_),(1,_),(2,_),(3,_),(4,_)]) Z (fun w=>by kernel_rfl) (L.o (aH (el:=3) (parts:=[(0,.const (.int .i64 0))]) (vs:=[(0,_)]) (cs:=([0].map (Value.int .i64))) Z (fun w=>by kernel_rfl) (fun k Y ahd Y8 iH Df=>?_))))
 refine L.o (aH (el:=3) (parts:=[(0,.const (.int .i64 0)),(1,.const (.int .i64 0))]) (vs:=[(0,_),(1,_)]) (cs:=([0,0].map (Value.int .i64))) Z (fun w=>by kernel_rfl) (fun l aa aut ab je Ou=>?_))
 refine L.o (aH (el:=3) (parts:=[(0,.const (.int .i64 0))]) (vs:=[(0,_)]) (cs:=([0].map (Value.int .i64))) Z (fun w=>by kernel_rfl) (fun m ac apB ad nY IK=>?_))
 refine L.o (bU (v:=(uK [119] 0 k l m [0] [0,0] [0] true).val) (parts:=[(0,_),(2,.tmp 13),(3,.tmp 14),(4,.tmp 15),(5,.const (.bool true))]) (vs:=[(0,_),(2,_),(3,_),(4,_),(5,_)]) Z (fun w=>by kernel_rfl) (L.o (aH (el:=51) (parts:=[(0,.tmp 4),(1,.tmp 8),(2,.tmp 12),(3,.tmp 16)]) (vs:=[(0,_),(1,_),(2,_),(3,_)]) (cs:=(iR [uK [97] 10 b1 b2 b3 [4] [3,5] [7] false,uK [98] 20 b5 q b7 [0] [9,1] [2] false,uK [99] 5 s i j [5] [0,0] [7] false,uK [119] 0 k l m [0] [0,0] [0] true])) Z (fun w=>by kernel_rfl) (fun p a auu aiq NW Ll=>?_))))
 have ard:Blk a b1 ([4].map (Value.int .i64)) 3:=Blk.ext hB1 ((((((((((((c).trans d).trans e).trans f).trans g).trans h).trans jf).trans iK).trans iH).trans je).trans nY).trans NW)
 have arf:Blk a b2 ([3,5].map (Value.int .i64)) 3:=Blk.ext hB2 (((((((((((d).trans e).trans f).trans g).trans h).trans jf).trans iK).trans iH).trans je).trans nY).trans NW)
 have arh:Blk a b3 ([7].map (Value.int .i64)) 3:=Blk.ext hB3 ((((((((((e).trans f).trans g).trans h).trans jf).trans iK).trans iH).trans je).trans nY).trans NW)
 have ari:Blk a b5 ([0].map (Value.int .i64)) 3:=Blk.ext y (((((((((f).trans g).trans h).trans jf).trans iK).trans iH).trans je).trans nY).trans NW)
 have arj:Blk a q ([9,1].map (Value.int .i64)) 3:=Blk.ext z ((((((((g).trans h).trans jf).trans iK).trans iH).trans je).trans nY).trans NW)
 have ark:Blk a b7 ([2].map (Value.int .i64)) 3:=Blk.ext A (((((((h).trans jf).trans iK).trans iH).trans je).trans nY).trans NW)
 have arl:Blk a s ([5].map (Value.int .i64)) 3:=Blk.ext B ((((((jf).trans iK).trans iH).trans je).trans nY).trans NW)
 have ake:Blk a i ([0,0].map (Value.int .i64)) 3:=Blk.ext EP (((((iK).trans iH).trans je).trans nY).trans NW)
 have akf:Blk a j ([7].map (Value.int .i64)) 3:=Blk.ext rD ((((iH).trans je).trans nY).trans NW)
 have akg:Blk a k ([0].map (Value.int .i64)) 3:=Blk.ext Df (((je).trans nY).trans NW)
 have akh:Blk a l ([0,0].map (Value.int .i64)) 3:=Blk.ext Ou ((nY).trans NW)
 have aki:Blk a m ([0].map (Value.int .i64)) 3:=Blk.ext IK (NW)
 have arn:w0.heap.size≤b1:=by omega
 have aro:w0.heap.size≤b2:=by have:=(b).size;omega
 have arp:w0.heap.size≤b3:=by have:=((b).trans c).size;omega
 have arq:w0.heap.size≤b5:=by have:=(((b).trans c).trans d).size;omega
 have ars:w0.heap.size≤q:=by have:=((((b).trans c).trans d).trans e).size;omega
 have aru:w0.heap.size≤b7:=by have:=(((((b).trans c).trans d).trans e).trans f).size;omega
 have arv:w0.heap.size≤s:=by have:=((((((b).trans c).trans d).trans e).trans f).trans g).size;omega
 have akj:w0.heap.size≤i:=by have:=(((((((b).trans c).trans d).trans e).trans f).trans g).trans h).size;omega
 have akk:w0.heap.size≤j:=by have:=((((((((b).trans c).trans d).trans e).trans f).trans g).trans h).trans jf).size;omega
 have akl:w0.heap.size≤k:=by have:=(((((((((b).trans c).trans d).trans e).trans f).trans g).trans h).trans jf).trans iK).size;omega
 have akm:w0.heap.size≤l:=by have:=((((((((((b).trans c).trans d).trans e).trans f).trans g).trans h).trans jf).trans iK).trans iH).size;omega
 have akn:w0.heap.size≤m:=by have:=(((((((((((b).trans c).trans d).trans e).trans f).trans g).trans h).trans jf).trans iK).trans iH).trans je).size;omega
 have ako:w0.heap.size≤p:=by have:=((((((((((((b).trans c).trans d).trans e).trans f).trans g).trans h).trans jf).trans iK).trans iH).trans je).trans nY).size;omega
 have hE0:Ext w0 a:=((((((((((((b).trans c).trans d).trans e).trans f).trans g).trans h).trans jf).trans iK).trans iH).trans je).trans nY).trans NW
 have hE:Ext w a:=x.trans hE0
 have C:Units w0.heap.size a (.slice (some ⟨p,0,none⟩) 4 4) [uK [97] 10 b1 b2 b3 [4] [3,5] [7] false,uK [98] 20 b5 q b7 [0] [9,1] [2] false,uK [99] 5 s i j [5] [0,0] [7] false,uK [119] 0 k l m [0] [0,0] [0] true]:=by
  refine ⟨Sl.bI (n:=4) (sz:=6) Ll rfl leX dcX ako,fun u D=>?_⟩
  simp only [List.mem_cons,List.not_mem_nil,or_false] at D
  rcases D with rfl|rfl|rfl|rfl
  ·exact aau dcX ard arf arh arn aro arp dcX dcX dcX
  ·exact aau dcX ari arj ark arq ars aru dcX dcX dcX
  ·exact aau dcX arl ake akf arv akj akk dcX dcX dcX
  exact aau dcX akg akh aki akl akm akn dcX dcX dcX
 refine L.o (bU (v:=(⟨1,2,1,.slice (some ⟨p,0,none⟩) 4 4,[uK [97] 10 b1 b2 b3 [4] [3,5] [7] false,uK [98] 20 b5 q b7 [0] [9,1] [2] false,uK [99] 5 s i j [5] [0,0] [7] false,uK [119] 0 k l m [0] [0,0] [0] true]⟩:RoV).val) (parts:=[(0,.const (.int .i64 1)),(1,.const (.int .i64 2)),(2,.const (.int .i64 1)),(3,.tmp 17)]) (vs:=[(0,_),(1,_),(2,_),(3,_)]) Z (fun w=>by kernel_rfl) (L.o (aK sizeOf25 Z Z Z (Blk.ext hB0 hE0) leX (EG (⟨1,2,1,.slice (some ⟨p,0,none⟩) 4 4,[uK [97] 10 b1 b2 b3 [4] [3,5] [7] false,uK [98] 20 b5 q b7 [0] [9,1] [2] false,uK [99] 5 s i j [5] [0,0] [7] false,uK [119] 0 k l m [0] [0,0] [0] true]⟩:RoV) Z) (fun t Dq ET=>?_))))
 replace Dq:Upd b0 a t:=Dq
 have akd:Blk t b0 (⟨1,2,1,.slice (some ⟨p,0,none⟩) 4 4,[uK [97] 10 b1 b2 b3 [4] [3,5] [7] false,uK [98] 20 b5 q b7 [0] [9,1] [2] false,uK [99] 5 s i j [5] [0,0] [7] false,uK [119] 0 k l m [0] [0,0] [0] true]⟩:RoV).cells 25:=ET
 refine ak (jZ results11 isAgg25 sizeOf25 Z Z (Row.bI akd) ⟨_,rfl,(Units.keep (lo:=w0.heap.size) C ((Keep.refl _ _).upd Dq (.inl omX))).mono omX,rfl,hE.upd Dq (.inr omX)⟩)
theorem X7 {c':CxV} {r':RoV} (h:Says c r s) (b:Says c' r' s):Ba r r'=true:=by
 have e:r.us.map qm=r'.us.map qm:=h.us.trans b.us.symm
 refine Xa (h.G.trans b.G.symm) (h.P.trans b.P.symm) (h.L.trans b.L.symm) ⟨by simpa using congrArg List.length e,fun i _=>?_⟩
 have e1:=getD_map' (f:=qm) (d:=u0) (e:=qm u0) rfl r.us i
 have g:=getD_map' (f:=qm) (d:=u0) (e:=qm u0) rfl r'.us i
 have a:qm (r.us.getD i u0)=qm (r'.us.getD i u0):=by rw [← e1,← g,e]
 simp only [qm,PU.mk.injEq] at a
 exact jk.2 ⟨a.1,a.2.1,a.2.2.2.2.2,a.2.2.1,a.2.2.2.1,a.2.2.2.2.1⟩
theorem yU (lo n:Nat) (p q:Value) (xs ys:List Int) (w:World) (s:Ints .i64 lo w p xs) (y:Ints .i64 n w q ys) :
  Calls Tryz.prog 46 #[p,q] w (Ret fun v w'=>v = .bool (decide (xs=ys))∧Ext w w'):=by
 have A:=Sl.le s
 refine aJ (vs:=[p,q]) func46 Z ntmps46 Z ?_
 refine au (ah Z (aj (aQ Z (L.le Z (Sl.val s) (L.m Z (L.le Z (Sl.val y) (L.ne Z Z (fun z=>?_) (fun z=>?_))))))))
 ·refine aW (au (ah Z (aB results46 Z ⟨by rw [decide_eq_false (fun h=>z (by rw [h]))],Keep.refl _ _⟩)))
 refine ak (?_)
 have r:xs.length=ys.length:=by omega
 refine bn (T.skip (aj (aQ Z (L.le Z (Sl.val s) (L.m Z (ak (T.block (?_))))))))
 refine bf (σ:=Nat) (fun i=>[(0,p),(1,q),(12,.int .i64 xs.length),(13,.int .i64 i)]) (fun i w'=>i≤xs.length∧Ext w w'∧∀ j,j<i→xs.getD j 0=ys.getD j 0) (fun i=>xs.length-i) (0) ⟨rfl,rfl,rfl,rfl,trivial⟩ ⟨Nat.zero_le _,Keep.refl _ _,fun j t=>absurd t (Nat.not_lt_zero _)⟩ ?_
 rintro i w1 ⟨hi,b,k⟩
 have e:=s.keep (b.mono (Nat.zero_le lo))
 have f:=y.keep (b.mono (Nat.zero_le n))
 refine au (bH Z Z (fun u=>?_) (fun u=>?_))
 ·refine ak (?_)
  have c:i<xs.length:=by omega
  by_cases g:xs.getD i 0=ys.getD i 0
  ·refine aj (aZ (T.skip (aj (T.block (aQ Z (ah Z (aj (?_))))))))
   refine dn mixed 8 [0,5,1] Z [.is _,.is _,.is _,.is _,.is _,.is _,.is _,.is _] [[],[],[0,1],[2],[],[],[4,5],[6]] trivial ⟨fun a hx=>aF rfl,
     fun a hx=>aF rfl,
     fun a hx=>bQ rfl rfl e,
     fun a hx=>aS rfl (Ints.at (e.keep (hx.mono lzX)) c),
     fun a hx=>aF rfl,
     fun a hx=>aF rfl,
     fun a hx=>bQ rfl rfl f,
     fun a hx=>aS rfl (Ints.at (f.keep (hx.mono lzX)) omX),
     trivial⟩ (fun B l=>?_)
   refine L.o (fP Z Z g (aU (T.skip (T.blk (aA (bF Z Z (L.m Z (ak (aP (i+1) omX ⟨rfl,rfl,rfl,rfl,trivial⟩ ⟨c,b.trans l,fun j t=>?_⟩)))))))))
   ·by_cases x:j=i
    ·subst x;exact g
    exact k j omX
  refine aj (aZ (T.skip (aj (T.block (aQ Z (ah Z (aj (?_))))))))
  refine dn mixed 8 [0,5,1] Z [.is _,.is _,.is _,.is _,.is _,.is _,.is _,.is _] [[],[],[0,1],[2],[],[],[4,5],[6]] trivial ⟨fun a hx=>aF rfl,
    fun a hx=>aF rfl,
    fun a hx=>bQ rfl rfl e,
    fun a hx=>aS rfl (Ints.at (e.keep (hx.mono lzX)) c),
    fun a hx=>aF rfl,
    fun a hx=>aF rfl,
    fun a hx=>bQ rfl rfl f,
    fun a hx=>aS rfl (Ints.at (f.keep (hx.mono lzX)) omX),
    trivial⟩ (fun B l=>?_)
  refine L.o (kT Z Z g (aW (au (ah Z (aB results46 Z ⟨by rw [decide_eq_false (fun h=>g (by rw [h]))],b.trans l⟩)))))
 refine ak (aj (bn (aY Z (au (ah Z (aB results46 Z ⟨by rw [decide_eq_true (S9 (d:=0) r (fun j t=>k j omX))],b⟩))))))
theorem Sm (lo lo2:Nat) (c c':CxV) (r r':RoV) (s:PS) (w:World) (p:c.ok lo w) (q:r.ok lo w) (i:c'.ok lo2 w) (j:r'.ok lo2 w) (hs:Says c r s) (b:Says c' r' s) (hn:∀ f∈c.fs,f.hs.length≤100000) :
  Calls Tryz.prog 28 #[.agg (fA c r).toArray,.agg (fA c' r').toArray] w (Ret fun v w'=>v = .bool true∧Ext w w'):=by
 refine aJ (vs:=[.agg (fA c r).toArray,.agg (fA c' r').toArray]) func28 Z ntmps28 Z ?_
 refine au (bM Z (fun b2 C t u k hB2=>?_))
 refine bM Z (fun b3 l x y d hB3=>?_)
 have e:=k.trans d
 have g:Blk l b2 (fA c r) 48:=Blk.ext (cs:=fA c r) hB2 d
 have hC2:Blk l b3 (fA c' r') 48:=hB3
 refine ah Z (au (L.fa Z (aT Z Z ((Row.bI g).part 0 2) (L.fa Z (aT Z Z ((Row.bI hC2).part 0 2) (L.o (ay (xs:=[.tmp 6,.tmp 8]) call74 Z Z (UG lo lo2 c c' l (p.ext e) (i.ext e) (hs.ps.trans b.ps.symm) (hs.fs.trans b.fs.symm) hn) (fun v9 z n=>?_))))))))
 obtain ⟨rfl,a⟩:=n
 refine L.m Z (L.fa Z (aT Z Z ((Row.bI (Blk.ext g a)).part 2 4) (L.fa Z (aT Z Z ((Row.bI (Blk.ext hC2 a)).part 2 4) (L.o (ay (xs:=[.tmp 12,.tmp 14]) call37 Z Z (DR lo lo2 r r' z (q.ext (e.trans a)) (j.ext (e.trans a))) (fun A B n=>?_)))))))
 obtain ⟨h,nY⟩:=n
 rw [X7 hs b] at h
 subst h
 refine aG Z (ah Z (aB results28 Z ⟨rfl,(e.trans a).trans nY⟩))
theorem yV (t:Str) (n:Nat) (e:Int) (w:World) (hL:sF w) (i:t.length≤1000000) (h:FY Ad t=([],n,e)) :
  Calls Tryz.prog 16 #[str t,.int .i64 n,.int .i64 e] w (Ret fun v w'=>v = .bool true∧Ext w w'):=by
 refine aJ (vs:=[str t,.int .i64 n,.int .i64 e]) func16 Z ntmps16 Z ?_
 refine au (ah Z (au (L.o (ay (xs:=[]) call11 Z Z (vP w) (fun j d f=>?_)))))
 obtain ⟨r,rfl,g,b,iK⟩:=f
 refine aO Z (ay (xs:=[.tmp 11,.tmp 12]) call13 Z Z (G5 w.heap.size r t d g (hL.ext iK) i) (fun k l f=>?_))
 obtain ⟨pv,rfl,c,iH⟩:=f
 rw [vO,b,h] at c
 rw [vO,b,h]
 refine L.m Z (bK Z Z (bK Z Z (bK Z Z (L.a Z (L.a Z (ah Z (aQ Z (L.le Z (Sl.val c) (L.o (eU Z Z Z (aN Z Z (aO Z (eU Z Z Z (aG Z (aN Z Z (aO Z (oh Z Z (aG Z (L.a Z (?_))))))))))))))))))))
 refine ak (aB results16 Z ⟨congrArg Value.bool (decide_eq_true Z),iK.trans iH⟩)
theorem Qo (t:Str) (n e:Int) (w:World) (hL:sF w) (l:t.length≤1000000) (g:NU t = .inr (n,e)) :
  Calls Tryz.prog 17 #[str t,.int .i64 n,.int .i64 e] w (Ret fun v w'=>v = .bool true∧Ext w w'):=by
 refine aJ (vs:=[str t,.int .i64 n,.int .i64 e]) func17 Z ntmps17 Z ?_
 refine au (ah Z (au (aO Z (ay (xs:=[.tmp 11]) call21 Z Z (wZ t w hL omX) (fun c h i=>?_)))))
 obtain ⟨jD,TF⟩:=i
 rw [NV,g] at TF
 replace TF:c = .tuple #[.agg dX.toArray,.int .i64 n,.int .i64 e]:=TF
 subst TF
 refine L.m Z (bK Z Z (bK Z Z (bK Z Z (L.o (O.alloc zeroValue48 (fun b7 w7 j k d f=>?_))))))
 refine L.o (aK sizeOf48 Z Z Z f leX iC (fun b BK Df=>?_))
 replace BK:Upd b7 w7 b:=BK
 have hR:Blk b b7 dX 48:=Df
 refine L.a Z (ah Z (au (L.fa Z (aC Z (hR.cell Z) (L.le Z (Sl.val (Sl.nil 0 b 1)) (L.o (eU Z Z Z (L.m Z (L.fa Z (aC Z (hR.cell Z) (L.le Z (Sl.val (Sl.nil 0 b 1)) (L.o (eU Z Z Z (aG Z (aN Z Z (aO Z (eU Z Z Z (aG Z (aN Z Z (?_))))))))))))))))))))
 refine aO Z (oh Z Z (aG Z (ah Z (aB results17 Z ⟨congrArg Value.bool (decide_eq_true Z),jD.trans (d.upd BK (.inr omX))⟩))))
theorem X8 (lo:Nat) (t:Str) (p:Value) (xs:List Int) (w:World) (hL:sF w) (i:t.length≤1000000) (j:Ints .i64 lo w p xs) (h:FY Ad t=(xs,0,0)) :
  Calls Tryz.prog 51 #[str t,p] w (Ret fun v w'=>v = .bool true∧Ext w w'):=by
 refine aJ (vs:=[str t,p]) func51 Z ntmps51 Z ?_
 refine au (ah Z (au (L.o (ay (xs:=[]) call11 Z Z (vP w) (fun k e b=>?_)))))
 obtain ⟨r,rfl,f,c,iK⟩:=b
 refine aO Z (ay (xs:=[.tmp 9,.tmp 10]) call13 Z Z (G5 w.heap.size r t e f (hL.ext iK) i) (fun l g b=>?_))
 obtain ⟨pv,rfl,d,iH⟩:=b
 rw [vO,c,h] at d
 rw [vO,c,h]
 refine L.m Z (bK Z Z (bK Z Z (bK Z Z (L.a Z (L.a Z (ah Z (au (aN Z Z (L.o (ay (xs:=[.tmp 15,.tmp 16]) call46 Z Z (yU 0 lo pv p xs xs g d (j.ext (iK.trans iH))) (fun n q b=>?_)))))))))))
 obtain ⟨ahv,NW⟩:=b
 rw [decide_eq_true rfl] at ahv
 subst ahv
 refine aN Z Z (L.o (eU Z Z Z (aG Z (aN Z Z (L.o (oh Z Z (aG Z (ah Z (aB results51 Z ⟨congrArg Value.bool (decide_eq_true Z),(iK.trans iH).trans NW⟩)))))))))
def arw:Str:=[117,110,105,116,44,100,105,115,116,114,105,99,116,10,97,44,49,10,98,44,50,10,99,44,49,10]
def NY:Str:=108::97::110::100::32::48::32::48::32::48::10::112::111::105::110::116::32::48::32::48::10::112::111::105::110::116::32::52::32::48::10::112::111::105::110::116::32::48::32::52::10::102::97::99::101::32::48::32::49::32::50::10::117::110::105::116::32::97::32::51::10::101::110::100::10 :: []
def agh (r:RoV) (xs:List Int):Str × Int:=if JU r then (if wW xs (eF r.us)=true then (bZ (ql (nmA r.us) xs xs.length),0) else ([],2)) else ([],161)
theorem X9 (r:RoV) (xs:List Int):Ed r xs=agh (stripR r) xs:=by
 by_cases h:gG r
 ·rw [Ee h,agh,(nR _).2 ((jq r).2 h),if_pos rfl]
  show _=if wW xs (eF (r.us.map qZ))=true then (bZ (ql (nmA (r.us.map qZ)) xs xs.length),0) else _
  rw [ED,qo]
 rw [GZ h,agh,if_neg (fun k=>h ((jq r).1 ((nR _).1 k)))]
theorem yX {d:Nat} (h:d<10):Lib.itoa (d:Int) = [UInt8.ofNat (48+d)]:=by
 rw [Lib.itoa_nonneg,Lib.decDigits_one h]
theorem aav:agh Ad [0,1,0]=(arw,0):=by
 unfold agh
 rw [if_pos krX,if_pos krX]
 have e1:Lib.itoa (([0,1,0]:List Int).getD 0 0+1) = [49]:=JA (d:=0) dcX
 have a:Lib.itoa (([0,1,0]:List Int).getD 1 0+1) = [50]:=JA (d:=1) dcX
 have b:Lib.itoa (([0,1,0]:List Int).getD 2 0+1) = [49]:=JA (d:=0) dcX
 show (bZ [abo,Ec (nmA Ad.us) [0,1,0] 0,Ec (nmA Ad.us) [0,1,0] 1,Ec (nmA Ad.us) [0,1,0] 2],(0:Int))=_
 unfold Ec
 rw [e1,a,b]
 rfl
theorem Sr:bZ (kY adv.cx adv.ro)=NY:=by
 have a:Lib.itoa 0 = [48]:=yX (d:=0) dcX
 have e1:Lib.itoa 1 = [49]:=yX (d:=1) dcX
 have c:Lib.itoa 2 = [50]:=yX (d:=2) dcX
 have e:Lib.itoa 3 = [51]:=yX (d:=3) dcX
 have b:Lib.itoa 4 = [52]:=yX (d:=4) dcX
 have f:spell [0,0,0] = [32,48,32,48,32,48]:=by simp only [spell,List.flatMap_cons,List.flatMap_nil,a];rfl
 have g:spell [0,0] = [32,48,32,48]:=by simp only [spell,List.flatMap_cons,List.flatMap_nil,a];rfl
 have h:spell [4,0] = [32,52,32,48]:=by simp only [spell,List.flatMap_cons,List.flatMap_nil,a,b];rfl
 have i:spell [0,4] = [32,48,32,52]:=by simp only [spell,List.flatMap_cons,List.flatMap_nil,a,b];rfl
 have j:spell [0,1,2] = [32,48,32,49,32,50]:=by simp only [spell,List.flatMap_cons,List.flatMap_nil,a,e1,c];rfl
 have k:spell [3] = [32,51]:=by simp only [spell,List.flatMap_cons,List.flatMap_nil,e];rfl
 show bZ ([iI++spell [0,0,0]] ++ [fC++spell [0,0],fC++spell [4,0],fC++spell [0,4]] ++ [gq++spell [0,1,2]] ++ [PO ++ [97]++spell [3] ++ []] ++ [lU])=_
 rw [f,g,h,i,j,k]
 rfl
theorem adw:XH adv=0:=by rw [X4];kernel_rfl
theorem Ya:NU NY = .inl adv:=by kernel_rfl
theorem Yb:aat Ad [0,1,0] [117,110,105,116,44,100,105,115,116,114,105,99,116,10,99,44,50,10]=([0,1,1],0,0):=by kernel_rfl
theorem adx:FY Ad ([117,110,105,116,44,100,105,115,116,114,105,99,116,10,98,44,50,10,97,44,49,10,99,44,49,10])=([0,1,0],0,0):=by kernel_rfl
theorem aaw:FY Ad ([117,110,105,116,44,100,105,115,116,114,105,99,116,10,97,44,49,10,99,44,49,10])=([],0,4):=by kernel_rfl
theorem aax:FY Ad ([117,110,105,116,44,100,105,115,116,114,105,99,116,10,97,44,57,10,98,44,50,10,99,44,49,10])=([],2,5):=by kernel_rfl
theorem aay:FY Ad ([117,110,105,116,44,100,105,115,116,114,105,99,116,10,97,44,49,10,98,44,50,10,99,44,49,10,97,44,49,10])=([],5,5):=by kernel_rfl
theorem aaz:FY Ad ([117,110,105,116,44,100,105,115,116,114,105,99,116,10,97,44,49,10,98,44,50,10,99,44,49])=([],4,5):=by kernel_rfl
theorem aaA:NU (NY.take 61) = .inr (0,5):=by kernel_rfl
theorem Says.text_eq (h:Says c r s):kY c r=kY s.cx s.ro:=by rw [h.cx,h.ro,Qg]
theorem aaB (h:Says c r s) (a:XH s=0) (b:(bZ (kY s.cx s.ro)).length≤40000):kN c r (gQ c r (iq c))=(bZ (kY s.cx s.ro),0):=by
 rw [h.err,a,kN,if_neg (fun x=>x rfl),h.text_eq,if_neg omX]
theorem UJ (h:Says c r s) (hs:∀ f∈s.fs,f.2.length≤100000):∀ f∈c.fs,f.hs.length≤100000:=fun f hf=>by
 have:=hs (sN f) (by rw [← h.fs];exact List.mem_map_of_mem hf)
 simpa [sN] using this
def agi (v:Value) (w:World):Prop:=∃ c r,v = .agg (fA c r).toArray∧c.ok 0 w∧r.ok 0 w∧Says c r adv
theorem agi.st:∀ v w w',Ext w w'→agi v w→agi v w':=fun _ _ _ k ⟨c,r,a,b,d,e⟩=>⟨c,r,a,b.ext k,d.ext k,e⟩
set_option maxHeartbeats 4000000 in
theorem Qq (w:World) (hL:sF w) :
  Calls Tryz.prog 10 #[] w (Ret fun v w'=>v = .bool true∧Ext w w'):=by
 refine aJ (vs:=[]) func10 Z ntmps10 Z ?_
 refine au (ah Z (au (L.o (ay (xs:=[]) call11 Z Z (vP w) (fun T U d=>?_)))))
 obtain ⟨V,rfl,x,j,jD⟩:=d
 refine L.o (aH (el:=3) (parts:=[(0,.const (.int .i64 0)),(1,.const (.int .i64 1)),(2,.const (.int .i64 0))]) (vs:=[(0,_),(1,_),(2,_)]) (cs:=([0,1,0].map (Value.int .i64))) Z (fun w=>by kernel_rfl) (fun W y ahd Y8 iH Df=>?_))
 refine L.o (ay (xs:=[.tmp 12,.tmp 13]) call12 Z Z (Nj w.heap.size V _ [0,1,0] y (x.ext iH) (Ints.bI Df Z dcX lzX) (hL.ext (jD.trans iH))) (fun X k d=>?_))
 obtain ⟨rfl,je⟩:=d
 rw [X9,j,aav]
 have YD:=(jD.trans iH).trans je
 refine L.m Z (bK Z Z (bK Z Z (L.a Z (ah Z (au (L.o (ay (xs:=[]) call11 Z Z (vP k) (fun Y aa d=>?_))))))))
 obtain ⟨r2,rfl,z,e,xw⟩:=d
 refine L.o (aH (el:=3) (parts:=[(0,.const (.int .i64 0)),(1,.const (.int .i64 1)),(2,.const (.int .i64 0))]) (vs:=[(0,_),(1,_),(2,_)]) (cs:=([0,1,0].map (Value.int .i64))) Z (fun w=>by kernel_rfl) (fun ab A aoO aoP Zk Lm=>?_))
 refine L.o (ay (xs:=[.tmp 18,.tmp 19,_]) call14 Z Z (Jw k.heap.size r2 _ [0,1,0] [117,110,105,116,44,100,105,115,116,114,105,99,116,10,99,44,50,10] A (z.ext Zk) (Ints.bI Lm Z dcX lzX) (hL.ext (YD.trans (xw.trans Zk))) dcX) (fun v20 l d=>?_))
 obtain ⟨pv,rfl,n,jG⟩:=d
 rw [HY,e,Yb] at n
 rw [HY,e,Yb]
 have hE20:=YD.trans ((xw.trans Zk).trans jG)
 refine L.m Z (bK Z Z (bK Z Z (bK Z Z (L.a Z (L.a Z (ah Z (au (L.o (ay (xs:=[]) call20 Z Z (wE l) (fun ac B d=>?_))))))))))
 obtain ⟨c1,t1,rfl,C,D,E,Qj⟩:=d
 refine L.o (ay (xs:=[.tmp 25]) call19 Z Z (G8 l.heap.size c1 t1 B C D (hL.ext (hE20.trans Qj)) BR) (fun ad F d=>?_))
 obtain ⟨rfl,GV⟩:=d
 rw [aaB E adw (by rw [Sr];decide),Sr]
 have YL:=hE20.trans (Qj.trans GV)
 refine L.m Z (bK Z Z (bK Z Z (L.a Z (ah Z (au (L.o (ay (xs:=[_]) call21 Z Z (wZ NY F (hL.ext YL) dcX) (fun ae G d=>?_))))))))
 obtain ⟨ER,YI⟩:=d
 rw [NV,Ya] at YI
 obtain ⟨c2,t2,rfl,p,q,s⟩:=YI
 refine L.m Z (bK Z Z (bK Z Z (bK Z Z (L.o (O.alloc zeroValue48 (fun S w8 af ag H I=>?_))))))
 refine L.o (aK sizeOf48 Z Z Z I leX (lV p q) (fun g sD Ue=>?_))
 replace sD:Upd S w8 g:=sD
 have arx:Blk g S (fA c2 t2) 48:=Ue
 have u:Ext G g:=H.upd sD (.inr omX)
 have ana:=(YL.trans ER).trans u
 have t:=p.ext u
 have arz:=q.ext u
 have akp:=n.ext (((Qj.trans GV).trans ER).trans u)
 have hL31:=hL.ext ana
 have J:∀ f∈c2.fs,f.hs.length≤100000:=UJ s dcX
 refine L.a Z (ah Z (aj (?_)))
 refine uh mixed 30 [1,2,3,4,5,6,7,8] Z [.is _,.is _,.is _,.is _,.is _,.is _,.is _,.is _,.such (zS [0,1,1]),.is (.bool true),.is _,.is _,.is _,.is _,.is _,.is _,.is _,.is _,.is _,.is _,.is _,.is _,.is _,.is _,.is _,.is _,.is _,.is _,.is _,.such agi] [[],[0],[1],[2],[3,2],[2,4],[5],[6],[6],[7,8,6],[6,9],[10],[11],[12,11],[11,13],[14],[15],[16,15],[15,17],[18],[19],[20,19],[19,21],[22],[23],[24,23],[23,25],[26],[27],[27]] ([] :: [0] :: [0,1] :: [0,1,2] :: [0,1,2,3] :: [0,1,2,3,4] :: [0,1,2,3,4,5] :: [0,1,2,3,4,5,6] :: [0,1,2,3,4,5,6] :: [0,1,2,3,4,5,6,7,8] :: [0,1,2,3,4,5,6,7,8,9] :: [0,1,2,3,4,5,6,7,8,9,10] :: [0,1,2,3,4,5,6,7,8,9,10,11] :: [0,1,2,3,4,5,6,7,8,9,10,11,12] :: [0,1,2,3,4,5,6,7,8,9,10,11,12,13] :: [0,1,2,3,4,5,6,7,8,9,10,11,12,13,14] :: [0,1,2,3,4,5,6,7,8,9,10,11,12,13,14,15] :: [0,1,2,3,4,5,6,7,8,9,10,11,12,13,14,15,16] :: [0,1,2,3,4,5,6,7,8,9,10,11,12,13,14,15,16,17] :: [0,1,2,3,4,5,6,7,8,9,10,11,12,13,14,15,16,17,18] :: [0,1,2,3,4,5,6,7,8,9,10,11,12,13,14,15,16,17,18,19] :: [0,1,2,3,4,5,6,7,8,9,10,11,12,13,14,15,16,17,18,19,20] :: [0,1,2,3,4,5,6,7,8,9,10,11,12,13,14,15,16,17,18,19,20,21] :: [0,1,2,3,4,5,6,7,8,9,10,11,12,13,14,15,16,17,18,19,20,21,22] :: [0,1,2,3,4,5,6,7,8,9,10,11,12,13,14,15,16,17,18,19,20,21,22,23] :: [0,1,2,3,4,5,6,7,8,9,10,11,12,13,14,15,16,17,18,19,20,21,22,23,24] :: [0,1,2,3,4,5,6,7,8,9,10,11,12,13,14,15,16,17,18,19,20,21,22,23,24,25] :: [0,1,2,3,4,5,6,7,8,9,10,11,12,13,14,15,16,17,18,19,20,21,22,23,24,25,26] :: [0,1,2,3,4,5,6,7,8,9,10,11,12,13,14,15,16,17,18,19,20,21,22,23,24,25,26,27] :: [0,1,2,3,4,5,6,7,8,9,10,11,12,13,14,15,16,17,18,19,20,21,22,23,24,25,26,27] :: [0,1,2,3,4,5,6,7,8,9,10,11,12,13,14,15,16,17,18,19,20,21,22,23,24,25,26,27,28,29]::(0::1::2::3::4::5::6::7::8::9::10::11::12::13::14::15::16::17::18::19::20::21::22::23::24::25::26::27::28::29::30 :: [])::(0::1::2::3::4::5::6::7::8::9::10::11::12::13::14::15::16::17::18::19::20::21::22::23::24::25::26::27::28::29::30::31 :: [])::(0::1::2::3::4::5::6::7::8::9::10::11::12::13::14::15::16::17::18::19::20::21::22::23::24::25::26::27::28::29::30::31::32 :: [])::(0::1::2::3::4::5::6::7::8::9::10::11::12::13::14::15::16::17::18::19::20::21::22::23::24::25::26::27::28::29::30::31::32::33 :: [])::(0::1::2::3::4::5::6::7::8::9::10::11::12::13::14::15::16::17::18::19::20::21::22::23::24::25::26::27::28::29::30::31::32::33::34 :: [])::(0::1::2::3::4::5::6::7::8::9::10::11::12::13::14::15::16::17::18::19::20::21::22::23::24::25::26::27::28::29::30::31::32::33::34::35 :: [])::(0::1::2::3::4::5::6::7::8::9::10::11::12::13::14::15::16::17::18::19::20::21::22::23::24::25::26::27::28::29::30::31::32::33::34::35::36 :: [])::(0::1::2::3::4::5::6::7::8::9::10::11::12::13::14::15::16::17::18::19::20::21::22::23::24::25::26::27::28::29::30::31::32::33::34::35::36::37 :: [])::(0::1::2::3::4::5::6::7::8::9::10::11::12::13::14::15::16::17::18::19::20::21::22::23::24::25::26::27::28::29::30::31::32::33::34::35::36::37::38 :: [])::(0::1::2::3::4::5::6::7::8::9::10::11::12::13::14::15::16::17::18::19::20::21::22::23::24::25::26::27::28::29::30::31::32::33::34::35::36::37::38::39 :: [])::(0::1::2::3::4::5::6::7::8::9::10::11::12::13::14::15::16::17::18::19::20::21::22::23::24::25::26::27::28::29::30::31::32::33::34::35::36::37::38::39::40 :: [])::(0::1::2::3::4::5::6::7::8::9::10::11::12::13::14::15::16::17::18::19::20::21::22::23::24::25::26::27::28::29::30::31::32::33::34::35::36::37::38::39::40::41 :: [])::(0::1::2::3::4::5::6::7::8::9::10::11::12::13::14::15::16::17::18::19::20::21::22::23::24::25::26::27::28::29::30::31::32::33::34::35::36::37::38::39::40::41::42 :: [])::(0::1::2::3::4::5::6::7::8::9::10::11::12::13::14::15::16::17::18::19::20::21::22::23::24::25::26::27::28::29::30::31::32::33::34::35::36::37::38::39::40::41::42::43 :: [])::(0::1::2::3::4::5::6::7::8::9::10::11::12::13::14::15::16::17::18::19::20::21::22::23::24::25::26::27::28::29::30::31::32::33::34::35::36::37::38::39::40::41::42::43::44 :: [])::(0::1::2::3::4::5::6::7::8::9::10::11::12::13::14::15::16::17::18::19::20::21::22::23::24::25::26::27::28::29::30::31::32::33::34::35::36::37::38::39::40::41::42::43::44::45 :: [])::(0::1::2::3::4::5::6::7::8::9::10::11::12::13::14::15::16::17::18::19::20::21::22::23::24::25::26::27::28::29::30::31::32::33::34::35::36::37::38::39::40::41::42::43::44::45::46 :: [])::(0::1::2::3::4::5::6::7::8::9::10::11::12::13::14::15::16::17::18::19::20::21::22::23::24::25::26::27::28::29::30::31::32::33::34::35::36::37::38::39::40::41::42::43::44::45::46::47 :: [])::(0::1::2::3::4::5::6::7::8::9::10::11::12::13::14::15::16::17::18::19::20::21::22::23::24::25::26::27::28::29::30::31::32::33::34::35::36::37::38::39::40::41::42::43::44::45::46::47::48 :: [])::(0::1::2::3::4::5::6::7::8::9::10::11::12::13::14::15::16::17::18::19::20::21::22::23::24::25::26::27::28::29::30::31::32::33::34::35::36::37::38::39::40::41::42::43::44::45::46::47::48::49 :: [])::(0::1::2::3::4::5::6::7::8::9::10::11::12::13::14::15::16::17::18::19::20::21::22::23::24::25::26::27::28::29::30::31::32::33::34::35::36::37::38::39::40::41::42::43::44::45::46::47::48::49::50 :: [])::(0::1::2::3::4::5::6::7::8::9::10::11::12::13::14::15::16::17::18::19::20::21::22::23::24::25::26::27::28::29::30::31::32::33::34::35::36::37::38::39::40::41::42::43::44::45::46::47::48::49::50::51 :: [])::(0::1::2::3::4::5::6::7::8::9::10::11::12::13::14::15::16::17::18::19::20::21::22::23::24::25::26::27::28::29::30::31::32::33::34::35::36::37::38::39::40::41::42::43::44::45::46::47::48::49::50::51::52 :: [])::(0::1::2::3::4::5::6::7::8::9::10::11::12::13::14::15::16::17::18::19::20::21::22::23::24::25::26::27::28::29::30::31::32::33::34::35::36::37::38::39::40::41::42::43::44::45::46::47::48::49::50::51::52::53 :: [])::(0::1::2::3::4::5::6::7::8::9::10::11::12::13::14::15::16::17::18::19::20::21::22::23::24::25::26::27::28::29::30::31::32::33::34::35::36::37::38::39::40::41::42::43::44::45::46::47::48::49::50::51::52::53::54 :: [])::(0::1::2::3::4::5::6::7::8::9::10::11::12::13::14::15::16::17::18::19::20::21::22::23::24::25::26::27::28::29::30::31::32::33::34::35::36::37::38::39::40::41::42::43::44::45::46::47::48::49::50::51::52::53::54::55 :: [])::(0::1::2::3::4::5::6::7::8::9::10::11::12::13::14::15::16::17::18::19::20::21::22::23::24::25::26::27::28::29::30::31::32::33::34::35::36::37::38::39::40::41::42::43::44::45::46::47::48::49::50::51::52::53::54::55::56 :: [])::(0::1::2::3::4::5::6::7::8::9::10::11::12::13::14::15::16::17::18::19::20::21::22::23::24::25::26::27::28::29::30::31::32::33::34::35::36::37::38::39::40::41::42::43::44::45::46::47::48::49::50::51::52::53::54::55::56::57 :: [])::(0::1::2::3::4::5::6::7::8::9::10::11::12::13::14::15::16::17::18::19::20::21::22::23::24::25::26::27::28::29::30::31::32::33::34::35::36::37::38::39::40::41::42::43::44::45::46::47::48::49::50::51::52::53::54::55::56::57::58 :: [])::(0::1::2::3::4::5::6::7::8::9::10::11::12::13::14::15::16::17::18::19::20::21::22::23::24::25::26::27::28::29::30::31::32::33::34::35::36::37::38::39::40::41::42::43::44::45::46::47::48::49::50::51::52::53::54::55::56::57::58::59 :: [])::(0::1::2::3::4::5::6::7::8::9::10::11::12::13::14::15::16::17::18::19::20::21::22::23::24::25::26::27::28::29::30::31::32::33::34::35::36::37::38::39::40::41::42::43::44::45::46::47::48::49::50::51::52::53::54::55::56::57::58::59::60 :: []) :: []) krX krX Z krX ⟨zS.st,agi.st,trivial⟩ ⟨fun b hx=>aF rfl,
   fun b hx=>Ob.o (fD runUnderlying9 Z Z Z kR),
   fun b hx=>aF rfl,
   fun b hx=>aF rfl,
   fun b hx=>Ob.o (eU Z Z Z kR),
   fun b hx=>jU rfl,
   fun b hx=>aF rfl,
   fun b hx=>aF rfl,
   fun b hx=>Ob.o (aH (el:=3) (parts:=[(0,.const (.int .i64 0)),(1,.const (.int .i64 1)),(2,.const (.int .i64 1))]) (vs:=[(0,_),(1,_),(2,_)]) (cs:=([0,1,1].map (Value.int .i64))) Z (fun w=>by kernel_rfl) (fun ai ak auv auw adU akq=>⟨adU,Ints.bI akq Z dcX lzX⟩)),
   fun b hx K anb=>Ob.o (ay (xs:=[.tmp 41,.tmp 42]) call46 Z Z (yU 0 0 pv _ [0,1,1] [0,1,1] b (akp.ext hx) anb) (fun v wy h=>⟨h.2,h.1.trans (congrArg Value.bool (decide_eq_true Z))⟩)),
   fun b hx=>jU rfl,
   fun b hx=>aF rfl,
   fun b hx=>aF rfl,
   fun b hx=>Ob.o (eU Z Z Z kR),
   fun b hx=>jU rfl,
   fun b hx=>aF rfl,
   fun b hx=>aF rfl,
   fun b hx=>Ob.o (eU Z Z Z kR),
   fun b hx=>jU rfl,
   fun b hx=>aF rfl,
   fun b hx=>aF rfl,
   fun b hx=>Ob.o (fD runUnderlying9 Z Z Z kR),
   fun b hx=>jU rfl,
   fun b hx=>aF rfl,
   fun b hx=>aF rfl,
   fun b hx=>Ob.o (eU Z Z Z kR),
   fun b hx=>jU rfl,
   fun b hx=>aF rfl,
   fun b hx=>bJ rfl rfl (Row.bI (Blk.ext arx hx)),
   fun b hx=>Ob.o (ay (xs:=[]) call20 Z Z (wE b) (fun v wy h=>(by obtain ⟨c,r,h1,h2,h3,h4,h5⟩:=h;exact ⟨h5,c,r,h1,h2.mono lzX,h3.mono lzX,h4⟩))),
   trivial⟩ (fun w5 i K anb al arA=>?_)
 obtain ⟨c3,t3,rfl,M,N,P⟩:=arA
 refine L.o (ay (xs:=[.tmp 62,.tmp 63]) call28 Z Z (Sm _ 0 c2 c3 t2 t3 adv w5 (t.ext i) (arz.ext i) M N s P J) (fun am an d=>?_))
 obtain ⟨rfl,ahz⟩:=d
 refine aG Z (aN Z Z (L.o (eU Z Z Z (aG Z (aN Z Z (L.o (eU Z Z Z (?_))))))))
 have arB:=ana.trans (i.trans ahz)
 refine aG Z (aO Z (aH (el:=3) (parts:=[(0,.const (.int .i64 0)),(1,.const (.int .i64 1)),(2,.const (.int .i64 0))]) (vs:=[(0,_),(1,_),(2,_)]) (cs:=([0,1,0].map (Value.int .i64))) Z (fun w=>by kernel_rfl) (fun ao Q auy amS aej arC=>?_)))
 have anc:=arB.trans aej
 refine L.o (ay (xs:=[_,.tmp 75]) call51 Z Z (X8 0 ([117,110,105,116,44,100,105,115,116,114,105,99,116,10,98,44,50,10,97,44,49,10,99,44,49,10]) _ [0,1,0] Q (hL.ext anc) dcX (Ints.bI arC Z dcX lzX) adx) (fun v76 R d=>?_))
 obtain ⟨rfl,ahE⟩:=d
 have ane:=anc.trans ahE
 refine aG Z (aO Z (ay (xs:=[_,.const (.int .i64 0),.const (.int .i64 4)]) call16 Z Z (yV ([117,110,105,116,44,100,105,115,116,114,105,99,116,10,97,44,49,10,99,44,49,10]) 0 4 R (hL.ext ane) dcX aaw) (fun auz arD d=>?_)))
 obtain ⟨rfl,akr⟩:=d
 have agj:=ane.trans akr
 refine aG Z (aO Z (ay (xs:=[_,.const (.int .i64 2),.const (.int .i64 5)]) call16 Z Z (yV ([117,110,105,116,44,100,105,115,116,114,105,99,116,10,97,44,57,10,98,44,50,10,99,44,49,10]) 2 5 arD (hL.ext agj) dcX aax) (fun auA arE d=>?_)))
 obtain ⟨rfl,aks⟩:=d
 have agk:=agj.trans aks
 refine aG Z (aO Z (ay (xs:=[_,.const (.int .i64 5),.const (.int .i64 5)]) call16 Z Z (yV ([117,110,105,116,44,100,105,115,116,114,105,99,116,10,97,44,49,10,98,44,50,10,99,44,49,10,97,44,49,10]) 5 5 arE (hL.ext agk) dcX aay) (fun auB arF d=>?_)))
 obtain ⟨rfl,akt⟩:=d
 have agl:=agk.trans akt
 refine aG Z (aO Z (iO runUnderlying9 Z Z dcX dcX (L.o (ay (xs:=[.tmp 88,.const (.int .i64 4),.const (.int .i64 5)]) call16 Z Z (yV ([117,110,105,116,44,100,105,115,116,114,105,99,116,10,97,44,49,10,98,44,50,10,99,44,49]) 4 5 arF (hL.ext agl) dcX aaz) (fun auC arG d=>?_)))))
 obtain ⟨rfl,aku⟩:=d
 have agm:=agl.trans aku
 refine aG Z (aO Z (iO runUnderlying9 Z Z dcX dcX (L.o (ay (xs:=[.tmp 92,.const (.int .i64 0),.const (.int .i64 5)]) call17 Z Z (Qo (NY.take 61) 0 5 arG (hL.ext agm) dcX aaA) (fun auD auE d=>?_)))))
 obtain ⟨rfl,akv⟩:=d
 refine aG Z (ah Z (aB results10 Z ⟨rfl,agm.trans akv⟩))
structure EdV where
 a:Int
 o:Int
 p:Str
 l:Bool
def EdV.cells (x:EdV):List Value:=[.int .u16 x.a,.int .u8 x.o,str x.p,.bool x.l]
def EdV.val (x:EdV):Value:=.agg x.cells.toArray
structure EdV.ok (x:EdV):Prop where
 a:0≤x.a∧x.a≤65535
 o:0≤x.o∧x.o≤255
 p:x.p.length≤9223372036854775807
theorem vS (x:EdV) (s:Str) (w:World) (hx:x.ok) (hs:s.length≤1000000) :
  Calls Tryz.prog 43 #[x.val,str s] w (Ret fun v w'=>(∃ z:Str,v=str z∧z.length≤2*s.length+40)∧Ext w w'):=by
 refine aJ (vs:=[x.val,str s]) func43 Z ntmps43 Z ?_
 refine au (bM Z (fun b2 e y A f hB2=>?_))
 have hX:Blk e b2 x.cells 89:=hB2
 have B:=hx.a
 have C:=hx.o
 obtain ⟨i0,g⟩:∃ i0:Nat,x.a % ((s.length:Int)+1)=(i0:Int):=⟨(x.a % ((s.length:Int)+1)).toNat,by rw [Int.toNat_of_nonneg (Int.emod_nonneg _ omX)]⟩
 have anf:i0≤s.length:=by have:=Int.emod_lt_of_pos x.a (show (0:Int)<(s.length:Int)+1 by omega);omega
 refine ah Z (au (aC Z (hX.cell Z) (L.o (dO Z (fun w=>⟨_,runUnderlying87 w⟩) runUnderlying3 (IntWalk.i64_in _ ⟨omX,omX⟩) (aO Z (dB runUnderlying9 Z (bF Z Z (L.o (fG Z Z omX omX (?_))))))))))
 rw [g]
 refine ah Z (aj (?_))
 refine dS (σ:=Nat) (fun i=>[(1,str s),(2,.pointer (some ⟨b2,0,none⟩)),(5,.int .i64 i)]) (fun i w'=>w'=e∧i≤s.length) ?_ ?_
 ·refine au (aC Z (hX.cell Z) (?_))
  rcases h:x.l with _|_
  ·refine aU (T.skip (bC (i0) ⟨rfl,rfl,rfl,trivial⟩ ⟨rfl,anf⟩))
  refine aW (T.block (?_))
  refine bf (σ:=Nat) (fun i=>[(1,str s),(2,.pointer (some ⟨b2,0,none⟩)),(5,.int .i64 i)]) (fun i w'=>w'=e∧i≤s.length) (fun i=>i) (i0) ⟨rfl,rfl,rfl,trivial⟩ ⟨rfl,anf⟩ ?_
  rintro i n ⟨rfl,hi⟩
  refine aj (aQ Z (dY Z Z (fun r=>?_) (fun r=>?_)))
  ·obtain ⟨j,rfl⟩:∃ j,i=j+1:=⟨i-1,omX⟩
   refine aN Z Z (aO Z (dh Z Z omX (?_)))
   rw [show (((j+1:Nat):Int)-1)=((j:Nat):Int) by omega]
   refine L.o (eX runUnderlying9 Z Z omX (L.ne Z Z (fun t=>?_) (fun t=>?_)))
   ·refine aG Z (aW (T.skip (T.block (aA (aO Z (dh Z Z omX (ah Z (T.blk (aP (j) omX ⟨rfl,rfl,?_,trivial⟩ ⟨rfl,omX⟩)))))))))
    ·show _=some (Value.int .i64 ((j:Nat):Int));rw [← show (((j+1:Nat):Int)-1)=((j:Nat):Int) by omega];rfl
   refine aG Z (aU (aY Z (bC (j+1) ⟨rfl,rfl,rfl,trivial⟩ ⟨rfl,hi⟩)))
  refine L.m Z (L.pp (L.pp (L.p (aI Z (aU (aY Z (bC (i) ⟨rfl,rfl,rfl,trivial⟩ ⟨rfl,hi⟩)))))))
 rintro i n ⟨rfl,hi⟩
 refine aQ Z (aC Z (hX.cell Z) (L.o (fG Z Z omX dcX (L.o (dO Z (fun w=>⟨_,runUnderlying5 w⟩) runUnderlying3 (IntWalk.i64_in _ ⟨omX,omX⟩) (bF Z Z (?_)))))))
 obtain ⟨c,d,ang⟩:∃ c:Nat,(if ((s.length:Nat):Int)<(i:Int)+x.o % 4 then ((s.length:Nat):Int) else (i:Int)+x.o % 4)=(c:Int)∧i≤c∧c≤s.length:=by
  have G:0≤x.o % 4:=Int.emod_nonneg _ dcX
  refine ⟨(if ((s.length:Nat):Int)<(i:Int)+x.o % 4 then ((s.length:Nat):Int) else (i:Int)+x.o % 4).toNat,?_,?_⟩
  ·split <;> omega
  split <;> omega
 refine aO Z (dB runUnderlying9 Z (L.o (iP Z Z (ah Z (aj (?_))))))
 refine dS (σ:=Nat) (fun k=>[(1,str s),(2,.pointer (some ⟨b2,0,none⟩)),(5,.int .i64 i),(6,.int .i64 k)]) (fun k w'=>w'=n∧k≤s.length) ?_ ?_
 ·refine au (aC Z (hX.cell Z) (?_))
  rcases h:x.l with _|_
  ·refine aU (T.skip (bC (c) ⟨rfl,rfl,rfl,?_,trivial⟩ ⟨rfl,ang.2⟩))
   ·exact congrArg (fun z=>some (Value.int .i64 z)) d
  refine aW (aj (T.block (?_)))
  refine bf (σ:=Nat) (fun k=>[(1,str s),(2,.pointer (some ⟨b2,0,none⟩)),(5,.int .i64 i),(6,.int .i64 k)]) (fun k w'=>w'=n∧k≤s.length) (fun k=>s.length-k) (c) ⟨rfl,rfl,rfl,?_,trivial⟩ ⟨rfl,ang.2⟩ ?_
  ·exact congrArg (fun z=>some (Value.int .i64 z)) d
  rintro k D ⟨rfl,E⟩
  refine aj (au (aN Z Z (L.o (dB runUnderlying9 Z (bH Z Z (fun r=>?_) (fun r=>?_))))))
  ·refine aN Z Z (aO Z (eX runUnderlying9 Z Z omX (L.ne Z Z (fun t=>?_) (fun t=>?_))))
   ·refine aG Z (aW (T.skip (T.block (aA (L.m Z (bF Z Z (ah Z (T.blk (aP (k+1) omX ⟨rfl,rfl,rfl,rfl,trivial⟩ ⟨rfl,omX⟩)))))))))
   refine aG Z (aU (aY Z (aA (L.m Z (bF Z Z (aO Z (dB runUnderlying9 Z (L.o (iP Z Z (ah Z (bC (min (k+1) s.length) ⟨rfl,rfl,rfl,?_,trivial⟩ ⟨rfl,omX⟩)))))))))))
   ·exact congrArg (fun z=>some (Value.int .i64 z)) (show (if ((s.length:Nat):Int)<((k:Nat):Int)+1 then ((s.length:Nat):Int) else ((k:Nat):Int)+1)=((min (k+1) s.length:Nat):Int) by split <;> omega)
  refine L.m Z (L.pp (L.pp (aI Z (aU (aY Z (aA (L.m Z (bF Z Z (aO Z (dB runUnderlying9 Z (L.o (iP Z Z (ah Z (bC (min (k+1) s.length) ⟨rfl,rfl,rfl,?_,trivial⟩ ⟨rfl,omX⟩))))))))))))))
  ·exact congrArg (fun z=>some (Value.int .i64 z)) (show (if ((s.length:Nat):Int)<((k:Nat):Int)+1 then ((s.length:Nat):Int) else ((k:Nat):Int)+1)=((min (k+1) s.length:Nat):Int) by split <;> omega)
 rintro k D ⟨rfl,E⟩
 obtain ⟨q,F⟩:∃ q,q=min x.p.length 40:=⟨_,rfl⟩
 refine aj (?_)
 refine dn mixed 14 [1,5,2,6] Z [.is _,.is _,.is (str (s.take i)),.is _,.is _,.is _,.is _,.is _,.is (.int .i64 (q:Int)),.is (str (x.p.take q)),.is _,.is _,.is _,.is (str (s.drop k))] [[],[],[0,1],[],[3],[],[5],[6],[7],[4,8],[2,9],[],[],[11,12]] trivial ⟨fun b hx=>aF rfl,
   fun b hx=>aF rfl,
   fun b hx=>Ob.o (iO runUnderlying9 Z Z omX omX kR),
   fun b hx=>Ob.fa rfl,
   fun b hx=>aS rfl ((Blk.ext (cs:=x.cells) hX hx).cell rfl),
   fun b hx=>Ob.fa rfl,
   fun b hx=>aS rfl ((Blk.ext (cs:=x.cells) hX hx).cell rfl),
   fun b hx=>Ob.o (dB runUnderlying9 Z kR),
   fun b hx=>Ob.o (KW (k:=40) Z Z ⟨Keep.refl _ _,by rw [F];rfl⟩),
   fun b hx=>Ob.o (iO runUnderlying9 Z Z omX omX kR),
   fun b hx=>Ob.o (bW Z Z (by rw [List.length_take,List.length_take];omega) kR),
   fun b hx=>aF rfl,
   fun b hx=>aF rfl,
   fun b hx=>Ob.o (nS runUnderlying9 Z Z omX omX kR),
   trivial⟩ (fun H u=>?_)
 refine L.o (bW Z Z (by rw [List.length_append,List.length_take,List.length_take,List.length_drop];omega) (ah Z (aB results43 Z ⟨⟨_,rfl,by rw [List.length_append,List.length_append,List.length_take,List.length_take,List.length_drop];omega⟩,f.trans u⟩)))
end Go.Proofs.YtnlonpcbgjbbaaaGreatDoor
