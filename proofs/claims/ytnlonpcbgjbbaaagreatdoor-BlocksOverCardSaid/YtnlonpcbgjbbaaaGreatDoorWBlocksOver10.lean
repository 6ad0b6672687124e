/-
  BlocksOver, part 10 of its proof: that it returns true for every input, and each argument reads behind the call as it read before. Conditions: the listed variables read as the program's text lays them (tied by the card).
-/
import Derived.Test.YtnlonpcbgjbbaaaGreatDoorWBlocksOver9
import Derived.Test.YtnlonpcbgjbbaaaGreatDoorWBlocksOver5
set_option linter.unusedVariables false
set_option linter.unusedSimpArgs false
set_option maxRecDepth 20000
set_option linter.unusedVariables false
set_option linter.unusedSimpArgs false
set_option maxRecDepth 20000
namespace Go.Proofs.YtnlonpcbgjbbaaaGreatDoor
open Go.Proofs.Tryz (call140 call173 call174 call175 call176 call177 call178 call179 call180 call181 call182 call183 call186 call187 call189 call209 call210 call211 call213 call214 call215 call216 call245 func140 func173 func175 func177 func178 func179 func182 func186 func189 func210 func214 func215 func82 isAgg124 isAgg125 isAgg127 isAgg251 isAgg272 isAgg277 isAgg280 isAgg284 isAgg3 isAgg30 isAgg43 isAgg44 isAgg46 ntmps140 ntmps173 ntmps175 ntmps177 ntmps178 ntmps179 ntmps182 ntmps186 ntmps189 ntmps210 ntmps214 ntmps215 ntmps82 results140 results173 results175 results177 results178 results179 results182 results186 results189 results210 results214 results215 results82 runUnderlying125 runUnderlying127 runUnderlying249 runUnderlying272 runUnderlying277 runUnderlying280 runUnderlying30 runUnderlying43 runUnderlying44 runUnderlying46 sizeOf124 sizeOf125 sizeOf127 sizeOf251 sizeOf272 sizeOf277 sizeOf280 sizeOf284 sizeOf3 sizeOf30 sizeOf43 sizeOf44 sizeOf46 zeroValue124 zeroValue127 zeroValue251 zeroValue272 zeroValue277 zeroValue280 zeroValue284 zeroValue3 zeroValue30 zeroValue4)
open Go Go.E
attribute [local irreducible] Go.E.T Go.E.L Go.E.O Go.E.Ob

attribute [local irreducible] Go.E.ObX
/-- Numbers of a ring that are no indices, or too few or too many. -/
def idxBad (n:Nat) (_:Int) (l:List Int):Bool:=decide (l.length<3) || (decide (40<l.length) || (decide (mnTo l (l.length-1)<0) || decide ((n:Int)≤mxTo l (l.length-1))))
theorem idx_good {n:Nat} {k:Int} {l:List Int} (h:idxBad n k l=false):IxL n l∧3≤l.length∧l.length≤40:=by
 simp only [idxBad,Bool.or_eq_false_iff,decide_eq_false_iff_not] at h
 obtain ⟨h1,h2,h3,h4⟩:=h
 rw [mnTo_lt] at h3
 rw [le_mxTo] at h4
 refine ⟨fun i hi=>⟨?_,?_⟩,by omega,by omega⟩
 ·rcases Int.lt_or_le (l.getD i 0) 0 with h|h
  ·exact absurd ⟨i,by omega,h⟩ h3
  ·exact h
 ·rcases Int.lt_or_le (l.getD i 0) n with h|h
  ·exact h
  ·exact absurd ⟨i,by omega,h⟩ h4
def faceIdx (n:Nat) (f:FaV):Bool:=decide (8<f.hs.length) || anyB f.ri (idxBad n)
theorem any_none {ri:List RiV} {bad:Int→List Int→Bool} (h:anyB ri bad=false) {k:Nat} (hk:k<ri.length):bad k (ri.getD k r0).xs=false:=by
 rw [anyB,decide_eq_false_iff_not] at h
 cases hb:bad k (ri.getD k r0).xs
 ·rfl
 ·exact absurd ⟨k,hk,hb⟩ h
theorem face_good {n:Nat} {f:FaV} (h:faceIdx n f=false):f.hs.length≤8∧∀ x∈f.ri,RiOk n x:=by
 simp only [faceIdx,Bool.or_eq_false_iff,decide_eq_false_iff_not] at h
 refine ⟨by omega,fun x hx=>?_⟩
 obtain ⟨k,hk,rfl⟩:=List.getElem_of_mem hx
 have:=idx_good (any_none h.2 hk)
 rw [getD_get hk] at this
 exact ⟨this.1,by omega⟩
theorem allG_calls (lo2:Nat) (f:FaV) (gf:FuncId) (ca:Array Value) (bad:Int→List Int→Bool) (w:World) (hfo:f.ok lo2 w) (hn:f.hs.length≤100000) (hcl:∀ args w,(callFunc gf args).run Tryz.prog w = .ok (.enter gf args) w) (hcall:∀ (k:Nat) (h:RiV) (W:World),h∈f.ri→Ext w W→Calls Tryz.prog gf (#[] ++ [.int .i64 k,h.v].toArray++ca) W (Ret fun v W'=>v = .bool (bad k h.xs)∧Ext W W')) :
  Calls Tryz.prog 175 #[f.val,.func (.func gf) #[] ca] w (Ret fun v w'=>v = .bool (anyB f.ri bad)∧Ext w w'):=by
 refine T.enter (vs:=[f.val,.func (.func gf) #[] ca]) func175 rfl ntmps175 rfl ?_
 refine T.q (L.o (O.box rfl (fun b2 w2 hb2 hz2 he2 hB2=>?_)))
 have hF2:Blk w2 b2 f.cells 127:=hB2
 refine L.a rfl (L.nil (T.seq (T.q (L.o (O.loadAgg isAgg127 sizeOf127 rfl rfl hF2.row (L.o (O.call (xs:=[.tmp 7]) call176 rfl rfl (rings_calls lo2 f w2 (hfo.ext he2) hn) (fun v3 w3 hq=>?_))))))))
 obtain ⟨he3,hS3⟩:=hq
 have he03:=he2.trans he3
 have hle:=Sl.le hS3
 refine L.o (O.len runUnderlying125 rfl (Sl.val hS3) (L.m rfl (L.nil (T.block (?_)))))
 refine T.loop (σ:=Nat) (fun i=>[(1,.func (.func gf) #[] ca),(8,v3),(9,.int .i64 f.ri.length),(10,.int .i64 i)]) (fun i w'=>i≤f.ri.length∧Ext w3 w'∧∀ k,k<i→bad (k:Nat) (f.ri.getD k r0).xs=false) (fun i=>f.ri.length-i) (0) ⟨rfl,rfl,rfl,rfl,trivial⟩ ⟨Nat.zero_le _,Keep.refl _ _,fun k hk=>absurd hk (Nat.not_lt_zero _)⟩ ?_
 rintro i w4 ⟨hi,he4,hall⟩
 refine T.q (L.o (O.lss_s rfl rfl (fun hlt=>?_) (fun hlt=>?_)))
 ·refine L.nil (?_)
  have hlt':i<f.ri.length:=by omega
  have hm:f.ri.getD i r0∈f.ri:=by rw [getD_get hlt'];exact List.getElem_mem hlt'
  have he04:=he03.trans he4
  have hS4:Sl w2.heap.size w4 v3 f.ri.length 1 (riCells f.ri):=Sl.ext hS3 he4
  refine T.seq (T.ct (T.skip (T.seq (T.block (T.q (L.m rfl (L.o (O.indexAddr runUnderlying125 sizeOf30 rfl rfl hS4 (by omega) (by omega) (L.o (O.load isAgg30 rfl (by rw [Int.toNat_natCast,Nat.mul_one];exact Sl.cell hS4 (ri_get hlt')) (L.a rfl (L.a rfl (L.nil (T.q (L.m rfl (L.m rfl (L.m rfl (L.o (O.call (xs:=[.tmp 16,.tmp 17]) hcl rfl rfl (hcall i (f.ri.getD i r0) w4 hm he04) (fun v5 w5 hq=>?_))))))))))))))))))))
  obtain ⟨hv5,he5⟩:=hq
  rcases hb:bad (i:Nat) (f.ri.getD i r0).xs with _|_
  ·refine L.nil (?_)
   rw [hb] at hv5
   subst hv5
   refine T.cf (T.skip (T.blk (T.region (L.o (O.add64 rfl rfl (by omega) (L.m rfl (L.nil (T.again (i+1) (by omega) ⟨rfl,rfl,rfl,rfl,trivial⟩ ⟨hlt',he4.trans he5,fun k hk=>?_⟩))))))))
   ·by_cases e:k=i
    ·subst e;exact hb
    ·exact hall k (by omega)
  ·refine L.nil (?_)
   rw [hb] at hv5
   subst hv5
   refine T.ct (T.q (L.a rfl (L.nil (T.ret1 results175 rfl ⟨by rw [anyB,decide_eq_true ⟨i,hlt',hb⟩],he04.trans he5⟩))))
 ·refine L.nil (T.seq (T.cf (T.exit rfl (T.q (L.a rfl (L.nil (T.ret1 results175 rfl ⟨by rw [anyB,decide_eq_false (fun ⟨k,h1,h2⟩=>by rw [hall k (by omega)] at h2;cases h2)],he03.trans he4⟩)))))))

theorem flaw21_calls (lo2 b:Nat) (c:CxV) (k:Int) (h:RiV) (w:World) (hB:Blk w b c.cells 46) (hp:∃ lo,Pts lo w c.pv c.ps) (hh:Ints .i64 lo2 w h.v h.xs) :
  Calls Tryz.prog 179 #[.int .i64 k,h.v,.pointer (some ⟨b,0,none⟩)] w (Ret fun v w'=>v = .bool (idxBad c.ps.length k h.xs)∧Ext w w'):=by
 have hle:=Sl.le hh
 obtain ⟨lo,hp⟩:=hp
 have hlp:=Sl.le hp
 refine T.enter (vs:=[.int .i64 k,h.v,.pointer (some ⟨b,0,none⟩)]) func179 rfl ntmps179 rfl ?_
 by_cases h3:h.xs.length<3
 ·refine T.q (L.a rfl (L.nil (T.seq (?_))))
  refine T.anyE mixed 19 [1,2] rfl [.is _,.is _,.is _,.is _,.is undef,.is undef,.is undef,.is _,.is _,.is undef,.is undef,.is undef,.is _,.is _,.is undef,.is undef,.is undef,.is undef,.is undef] [[],[0],[1],[2],[3],[4,3],[5,3],[3,6],[7],[8],[9,8],[10,8],[8,11],[12],[13],[14,13],[13],[16,13],[17,13]] [[],[0],[0,1],[0,1,2],[0,1,2,3],[0,1,2,3,4],[0,1,2,3,4,5],[0,1,2,3,4,5,6],[0,1,2,3,4,5,6,7],[0,1,2,3,4,5,6,7,8],[0,1,2,3,4,5,6,7,8,9],[0,1,2,3,4,5,6,7,8,9,10],[0,1,2,3,4,5,6,7,8,9,10,11],[0,1,2,3,4,5,6,7,8,9,10,11,12],[0,1,2,3,4,5,6,7,8,9,10,11,12,13],[0,1,2,3,4,5,6,7,8,9,10,11,12,13,14],[0,1,2,3,4,5,6,7,8,9,10,11,12,13],[0,1,2,3,4,5,6,7,8,9,10,11,12,13,16],[0,1,2,3,4,5,6,7,8,9,10,11,12,13,16,17],[0,1,2,3,4,5,6,7,8,9,10,11,12,13,14,15,16,17,18],[0,1,2,3,4,5,6,7,8,9,10,11,12,13,14,15,16,17,18,19],[0,1,2,3,4,5,6,7,8,9,10,11,12,13,14,15,16,17,18,19,20]] (by kernel_rfl) (by kernel_rfl) rfl (by kernel_rfl) trivial ⟨fun wx hx=>Ob.o (O.move rfl kR),
    fun wx hx=>Ob.o (O.len runUnderlying30 rfl (Sl.val (hh.ext hx)) kR),
    fun wx hx=>Ob.o (O.lss_t rfl rfl (by omega) kR),
    fun wx hx=>Ob.o (O.move rfl kR),
    fun wx hx=>Ob.pass rfl rfl,
    fun wx hx=>Ob.pass rfl rfl,
    fun wx hx=>Ob.pass rfl rfl,
    fun wx hx=>Ob.o (O.pick_true rfl rfl kR),
    fun wx hx=>Ob.o (O.move rfl kR),
    fun wx hx=>Ob.pass rfl rfl,
    fun wx hx=>Ob.pass rfl rfl,
    fun wx hx=>Ob.pass rfl rfl,
    fun wx hx=>Ob.o (O.pick_true rfl rfl kR),
    fun wx hx=>Ob.o (O.move rfl kR),
    fun wx hx=>Ob.pass rfl rfl,
    fun wx hx=>Ob.pass rfl rfl,
    fun wx hx=>Ob.pass rfl rfl,
    fun wx hx=>Ob.pass rfl rfl,
    fun wx hx=>Ob.pass rfl rfl,
    trivial⟩ (fun w6 he6=>?_)
  refine L.p (L.o (O.pick_true rfl rfl (L.a rfl (L.nil (T.ret1 results179 rfl ⟨by rw [idxBad,decide_eq_true h3,Bool.true_or],he6⟩)))))
 ·by_cases h40:40<h.xs.length
  ·refine T.q (L.a rfl (L.nil (T.seq (?_))))
   refine T.anyE mixed 19 [1,2] rfl [.is _,.is _,.is _,.is _,.is _,.is _,.is _,.is _,.is _,.is undef,.is undef,.is undef,.is _,.is _,.is undef,.is undef,.is undef,.is undef,.is undef] [[],[0],[1],[2],[3],[4,3],[5,3],[3,6],[7],[8],[9,8],[10,8],[8,11],[12],[13],[14,13],[13],[16,13],[17,13]] [[],[0],[0,1],[0,1,2],[0,1,2,3],[0,1,2,3,4],[0,1,2,3,4,5],[0,1,2,3,4,5,6],[0,1,2,3,4,5,6,7],[0,1,2,3,4,5,6,7,8],[0,1,2,3,4,5,6,7,8,9],[0,1,2,3,4,5,6,7,8,9,10],[0,1,2,3,4,5,6,7,8,9,10,11],[0,1,2,3,4,5,6,7,8,9,10,11,12],[0,1,2,3,4,5,6,7,8,9,10,11,12,13],[0,1,2,3,4,5,6,7,8,9,10,11,12,13,14],[0,1,2,3,4,5,6,7,8,9,10,11,12,13],[0,1,2,3,4,5,6,7,8,9,10,11,12,13,16],[0,1,2,3,4,5,6,7,8,9,10,11,12,13,16,17],[0,1,2,3,4,5,6,7,8,9,10,11,12,13,14,15,16,17,18],[0,1,2,3,4,5,6,7,8,9,10,11,12,13,14,15,16,17,18,19],[0,1,2,3,4,5,6,7,8,9,10,11,12,13,14,15,16,17,18,19,20]] (by kernel_rfl) (by kernel_rfl) rfl (by kernel_rfl) trivial ⟨fun wx hx=>Ob.o (O.move rfl kR),
     fun wx hx=>Ob.o (O.len runUnderlying30 rfl (Sl.val (hh.ext hx)) kR),
     fun wx hx=>Ob.o (O.lss_f rfl rfl (by omega) kR),
     fun wx hx=>Ob.o (O.move rfl kR),
     fun wx hx=>Ob.o (O.move rfl kR),
     fun wx hx=>Ob.o (O.len runUnderlying30 rfl (Sl.val (hh.ext hx)) kR),
     fun wx hx=>Ob.o (O.gtr_t rfl rfl (by omega) kR),
     fun wx hx=>Ob.o (O.pick_false rfl rfl kR),
     fun wx hx=>Ob.o (O.move rfl kR),
     fun wx hx=>Ob.pass rfl rfl,
     fun wx hx=>Ob.pass rfl rfl,
     fun wx hx=>Ob.pass rfl rfl,
     fun wx hx=>Ob.o (O.pick_true rfl rfl kR),
     fun wx hx=>Ob.o (O.move rfl kR),
     fun wx hx=>Ob.pass rfl rfl,
     fun wx hx=>Ob.pass rfl rfl,
     fun wx hx=>Ob.pass rfl rfl,
     fun wx hx=>Ob.pass rfl rfl,
     fun wx hx=>Ob.pass rfl rfl,
     trivial⟩ (fun w6 he6=>?_)
   refine L.p (L.o (O.pick_true rfl rfl (L.a rfl (L.nil (T.ret1 results179 rfl ⟨by rw [idxBad,decide_eq_false h3,decide_eq_true h40,Bool.true_or,Bool.false_or],he6⟩)))))
  ·by_cases hmin:mnTo h.xs (h.xs.length-1)<0
   ·refine T.q (L.a rfl (L.nil (T.seq (?_))))
    refine T.anyE mixed 19 [1,2] rfl [.is _,.is _,.is _,.is _,.is _,.is _,.is _,.is _,.is _,.is _,.is (.int .i64 (mnTo h.xs (h.xs.length-1))),.is _,.is _,.is _,.is undef,.is undef,.is undef,.is undef,.is undef] [[],[0],[1],[2],[3],[4,3],[5,3],[3,6],[7],[8],[9,8],[10,8],[8,11],[12],[13],[14,13],[13],[16,13],[17,13]] [[],[0],[0,1],[0,1,2],[0,1,2,3],[0,1,2,3,4],[0,1,2,3,4,5],[0,1,2,3,4,5,6],[0,1,2,3,4,5,6,7],[0,1,2,3,4,5,6,7,8],[0,1,2,3,4,5,6,7,8,9],[0,1,2,3,4,5,6,7,8,9,10],[0,1,2,3,4,5,6,7,8,9,10,11],[0,1,2,3,4,5,6,7,8,9,10,11,12],[0,1,2,3,4,5,6,7,8,9,10,11,12,13],[0,1,2,3,4,5,6,7,8,9,10,11,12,13,14],[0,1,2,3,4,5,6,7,8,9,10,11,12,13],[0,1,2,3,4,5,6,7,8,9,10,11,12,13,16],[0,1,2,3,4,5,6,7,8,9,10,11,12,13,16,17],[0,1,2,3,4,5,6,7,8,9,10,11,12,13,14,15,16,17,18],[0,1,2,3,4,5,6,7,8,9,10,11,12,13,14,15,16,17,18,19],[0,1,2,3,4,5,6,7,8,9,10,11,12,13,14,15,16,17,18,19,20]] (by kernel_rfl) (by kernel_rfl) rfl (by kernel_rfl) trivial ⟨fun wx hx=>Ob.o (O.move rfl kR),
      fun wx hx=>Ob.o (O.len runUnderlying30 rfl (Sl.val (hh.ext hx)) kR),
      fun wx hx=>Ob.o (O.lss_f rfl rfl (by omega) kR),
      fun wx hx=>Ob.o (O.move rfl kR),
      fun wx hx=>Ob.o (O.move rfl kR),
      fun wx hx=>Ob.o (O.len runUnderlying30 rfl (Sl.val (hh.ext hx)) kR),
      fun wx hx=>Ob.o (O.gtr_f rfl rfl (by omega) kR),
      fun wx hx=>Ob.o (O.pick_false rfl rfl kR),
      fun wx hx=>Ob.o (O.move rfl kR),
      fun wx hx=>Ob.o (O.move rfl kR),
      fun wx hx=>Ob.o (O.call (xs:=[.tmp 15]) call180 rfl rfl (minL_calls lo2 h.v h.xs wx (hh.ext hx) (by omega)) (fun v wy h=>⟨Keep.of_eq h.2,h.1⟩)),
      fun wx hx=>Ob.o (O.lss_t rfl rfl hmin kR),
      fun wx hx=>Ob.o (O.pick_false rfl rfl kR),
      fun wx hx=>Ob.o (O.move rfl kR),
      fun wx hx=>Ob.pass rfl rfl,
      fun wx hx=>Ob.pass rfl rfl,
      fun wx hx=>Ob.pass rfl rfl,
      fun wx hx=>Ob.pass rfl rfl,
      fun wx hx=>Ob.pass rfl rfl,
      trivial⟩ (fun w6 he6=>?_)
    refine L.p (L.o (O.pick_true rfl rfl (L.a rfl (L.nil (T.ret1 results179 rfl ⟨by rw [idxBad,decide_eq_false h3,decide_eq_false h40,decide_eq_true hmin,Bool.true_or,Bool.false_or,Bool.false_or],he6⟩)))))
   ·refine T.q (L.a rfl (L.nil (T.seq (?_))))
    refine T.anyE mixed 19 [1,2] rfl [.is _,.is _,.is _,.is _,.is _,.is _,.is _,.is _,.is _,.is _,.is (.int .i64 (mnTo h.xs (h.xs.length-1))),.is _,.is _,.is _,.is _,.is (.int .i64 (mxTo h.xs (h.xs.length-1))),.is _,.is _,.is _] [[],[0],[1],[2],[3],[4,3],[5,3],[3,6],[7],[8],[9,8],[10,8],[8,11],[12],[13],[14,13],[13],[16,13],[17,13]] [[],[0],[0,1],[0,1,2],[0,1,2,3],[0,1,2,3,4],[0,1,2,3,4,5],[0,1,2,3,4,5,6],[0,1,2,3,4,5,6,7],[0,1,2,3,4,5,6,7,8],[0,1,2,3,4,5,6,7,8,9],[0,1,2,3,4,5,6,7,8,9,10],[0,1,2,3,4,5,6,7,8,9,10,11],[0,1,2,3,4,5,6,7,8,9,10,11,12],[0,1,2,3,4,5,6,7,8,9,10,11,12,13],[0,1,2,3,4,5,6,7,8,9,10,11,12,13,14],[0,1,2,3,4,5,6,7,8,9,10,11,12,13],[0,1,2,3,4,5,6,7,8,9,10,11,12,13,16],[0,1,2,3,4,5,6,7,8,9,10,11,12,13,16,17],[0,1,2,3,4,5,6,7,8,9,10,11,12,13,14,15,16,17,18],[0,1,2,3,4,5,6,7,8,9,10,11,12,13,14,15,16,17,18,19],[0,1,2,3,4,5,6,7,8,9,10,11,12,13,14,15,16,17,18,19,20]] (by kernel_rfl) (by kernel_rfl) rfl (by kernel_rfl) trivial ⟨fun wx hx=>Ob.o (O.move rfl kR),
      fun wx hx=>Ob.o (O.len runUnderlying30 rfl (Sl.val (hh.ext hx)) kR),
      fun wx hx=>Ob.o (O.lss_f rfl rfl (by omega) kR),
      fun wx hx=>Ob.o (O.move rfl kR),
      fun wx hx=>Ob.o (O.move rfl kR),
      fun wx hx=>Ob.o (O.len runUnderlying30 rfl (Sl.val (hh.ext hx)) kR),
      fun wx hx=>Ob.o (O.gtr_f rfl rfl (by omega) kR),
      fun wx hx=>Ob.o (O.pick_false rfl rfl kR),
      fun wx hx=>Ob.o (O.move rfl kR),
      fun wx hx=>Ob.o (O.move rfl kR),
      fun wx hx=>Ob.o (O.call (xs:=[.tmp 15]) call180 rfl rfl (minL_calls lo2 h.v h.xs wx (hh.ext hx) (by omega)) (fun v wy h=>⟨Keep.of_eq h.2,h.1⟩)),
      fun wx hx=>Ob.o (O.lss_f rfl rfl hmin kR),
      fun wx hx=>Ob.o (O.pick_false rfl rfl kR),
      fun wx hx=>Ob.o (O.move rfl kR),
      fun wx hx=>Ob.o (O.move rfl kR),
      fun wx hx=>Ob.o (O.call (xs:=[.tmp 20]) call181 rfl rfl (maxL_calls lo2 h.v h.xs wx (hh.ext hx) (by omega)) (fun v wy h=>⟨Keep.of_eq h.2,h.1⟩)),
      fun wx hx=>Ob.o (O.fieldAddr runUnderlying46 rfl sizeOf43 rfl kR),
      fun wx hx=>Ob.o (O.load isAgg43 rfl ((Blk.ext (cs:=c.cells) hB hx).cell rfl) kR),
      fun wx hx=>Ob.o (O.len runUnderlying43 rfl (Sl.val (hp.ext hx)) kR),
      trivial⟩ (fun w6 he6=>?_)
    refine L.o (O.geq rfl rfl (L.o (O.pick_false rfl rfl (L.a rfl (L.nil (T.ret1 results179 rfl ⟨by rw [idxBad,decide_eq_false h3,decide_eq_false h40,decide_eq_false hmin,Bool.false_or,Bool.false_or,Bool.false_or],he6⟩))))))

theorem flaw2_calls (lo2 b9 b:Nat) (tb:TypeId) (c:CxV) (f:FaV) (w:World) (hB9:Blk w b9 [.func (.func 175) #[] #[]] tb) (hB:Blk w b c.cells 46) (hp:∃ lo,Pts lo w c.pv c.ps) (hfo:f.ok lo2 w) :
  Calls Tryz.prog 178 #[f.val,.pointer (some ⟨b9,0,none⟩),.pointer (some ⟨b,0,none⟩)] w (Ret fun v w'=>v = .bool (faceIdx c.ps.length f)∧Ext w w'):=by
 refine T.enter (vs:=[f.val,.pointer (some ⟨b9,0,none⟩),.pointer (some ⟨b,0,none⟩)]) func178 rfl ntmps178 rfl ?_
 refine T.q (L.o (O.box rfl (fun b3 w3 hb3 hz3 he3 hB3=>?_)))
 have hF3:Blk w3 b3 f.cells 127:=hB3
 obtain ⟨lo,hp⟩:=hp
 refine L.a rfl (L.nil (T.q (L.o (O.fieldAddr runUnderlying127 rfl sizeOf125 rfl (L.o (O.load isAgg125 rfl (hF3.cell rfl) (L.o (O.len runUnderlying125 rfl (Sl.val ((hfo.ext he3).sl)) (L.o (O.gtr_s rfl rfl (fun h8=>?_) (fun h8=>?_)))))))))))
 ·refine L.m rfl (L.p (L.p (L.p (L.p (L.o (O.pick_true rfl rfl (L.a rfl (L.nil (T.ret1 results178 rfl ⟨by rw [faceIdx,decide_eq_true (by omega),Bool.true_or],he3⟩)))))))))
 ·refine L.m rfl (L.o (O.load isAgg251 rfl ((Blk.ext (cs:=[.func (.func 175) #[] #[]]) hB9 he3).cell rfl) (L.o (O.loadAgg isAgg127 sizeOf127 rfl rfl hF3.row (L.o (O.makeFunc (fi:=[]) (ca:=[.tmp 2]) rfl rfl (L.o (O.call (xs:=[.tmp 11,.tmp 12]) call175 rfl rfl (allG_calls lo2 f 179 #[.pointer (some ⟨b,0,none⟩)] (idxBad c.ps.length) w3 (hfo.ext he3) (by omega) call179 (fun k h W hm hW ↦ flaw21_calls lo2 b c k h W (Blk.ext (cs:=c.cells) hB (he3.trans hW)) ⟨lo,hp.ext (he3.trans hW)⟩ ((hfo.ext (he3.trans hW)).ri h hm))) (fun v4 w4 hq=>?_)))))))))
  obtain ⟨rfl,he4⟩:=hq
  refine L.o (O.pick_false rfl rfl (L.a rfl (L.nil (T.ret1 results178 rfl ⟨by rw [faceIdx,decide_eq_false (by omega),Bool.false_or],he3.trans he4⟩))))

theorem flaw3_calls (lo lo2 b9 b:Nat) (tb:TypeId) (c:CxV) (f:FaV) (w:World) (hB9:Blk w b9 [.func (.func 175) #[] #[]] tb) (hB:Blk w b c.cells 46) (hc:Pts lo w c.pv c.ps) (hfo:f.ok lo2 w) (hn:f.hs.length≤100000) (hf:NfL c.ps) (hl:∀ h∈f.ri,RiOk c.ps.length h) :
  Calls Tryz.prog 182 #[f.val,.pointer (some ⟨b9,0,none⟩),.pointer (some ⟨b,0,none⟩)] w (Ret fun v w'=>v = .bool (anyB f.ri (badR c.ps))∧Ext w w'):=by
 refine T.enter (vs:=[f.val,.pointer (some ⟨b9,0,none⟩),.pointer (some ⟨b,0,none⟩)]) func182 rfl ntmps182 rfl ?_
 refine T.q (L.o (O.box rfl (fun b3 w3 hb3 hz3 he3 hB3=>?_)))
 have hF3:Blk w3 b3 f.cells 127:=hB3
 refine L.a rfl (L.nil (T.q (L.o (O.load isAgg251 rfl ((Blk.ext (cs:=[.func (.func 175) #[] #[]]) hB9 he3).cell rfl) (L.o (O.loadAgg isAgg127 sizeOf127 rfl rfl hF3.row (L.o (O.makeFunc (fi:=[]) (ca:=[.tmp 2]) rfl rfl (L.o (O.call (xs:=[.tmp 6,.tmp 7]) call175 rfl rfl (allG_calls lo2 f 183 #[.pointer (some ⟨b,0,none⟩)] (badR c.ps) w3 (hfo.ext he3) hn call183 (fun k h W hm hW ↦ flaw31_calls lo lo2 b c k h W (Blk.ext (cs:=c.cells) hB (he3.trans hW)) (hc.ext (he3.trans hW)) ((hfo.ext (he3.trans hW)).ri h hm) hf (hl h hm))) (fun v4 w4 hq=>?_)))))))))))
 obtain ⟨rfl,he4⟩:=hq
 refine L.a rfl (L.nil (T.ret1 results182 rfl ⟨rfl,he3.trans he4⟩))

theorem flaw4_calls (lo lo2 b9 b:Nat) (tb:TypeId) (c:CxV) (f:FaV) (w:World) (hB9:Blk w b9 [.func (.func 175) #[] #[]] tb) (hB:Blk w b c.cells 46) (hc:Pts lo w c.pv c.ps) (hfo:f.ok lo2 w) (hn:f.hs.length≤100000) (hf:NfL c.ps) (hl:∀ h∈f.ri,RiOk c.ps.length h) :
  Calls Tryz.prog 186 #[f.val,.pointer (some ⟨b9,0,none⟩),.pointer (some ⟨b,0,none⟩)] w (Ret fun v w'=>v = .bool (anyB f.ri (turnBad c.ps))∧Ext w w'):=by
 refine T.enter (vs:=[f.val,.pointer (some ⟨b9,0,none⟩),.pointer (some ⟨b,0,none⟩)]) func186 rfl ntmps186 rfl ?_
 refine T.q (L.o (O.box rfl (fun b3 w3 hb3 hz3 he3 hB3=>?_)))
 have hF3:Blk w3 b3 f.cells 127:=hB3
 refine L.a rfl (L.nil (T.q (L.o (O.load isAgg251 rfl ((Blk.ext (cs:=[.func (.func 175) #[] #[]]) hB9 he3).cell rfl) (L.o (O.loadAgg isAgg127 sizeOf127 rfl rfl hF3.row (L.o (O.makeFunc (fi:=[]) (ca:=[.tmp 2]) rfl rfl (L.o (O.call (xs:=[.tmp 6,.tmp 7]) call175 rfl rfl (allG_calls lo2 f 187 #[.pointer (some ⟨b,0,none⟩)] (turnBad c.ps) w3 (hfo.ext he3) hn call187 (fun k h W hm hW ↦ flaw41_calls lo lo2 b c k h W (Blk.ext (cs:=c.cells) hB (he3.trans hW)) (hc.ext (he3.trans hW)) ((hfo.ext (he3.trans hW)).ri h hm) hf (hl h hm))) (fun v4 w4 hq=>?_)))))))))))
 obtain ⟨rfl,he4⟩:=hq
 refine L.a rfl (L.nil (T.ret1 results186 rfl ⟨rfl,he3.trans he4⟩))

theorem firstP_calls (lo:Nat) (q:Value) (ps:List Pt) (w:World) (hq:Pts lo w q ps) :
  Calls Tryz.prog 173 #[q,.func (.func 174) #[] #[]] w (Ret fun v w'=>∃ r:Int,v = .int .i64 r∧decide (0≤r)=ps.any farB∧Ext w w'):=by
 have hle:=Sl.le hq
 refine T.enter (vs:=[q,.func (.func 174) #[] #[]]) func173 rfl ntmps173 rfl ?_
 refine T.q (L.a rfl (L.nil (T.seq (T.q (L.m rfl (L.o (O.len runUnderlying43 rfl (Sl.val hq) (L.m rfl (L.nil (T.block (?_)))))))))))
 refine T.loop (σ:=Nat) (fun i=>[(1,.func (.func 174) #[] #[]),(7,q),(8,.int .i64 ps.length),(9,.int .i64 i)]) (fun i w'=>i≤ps.length∧Ext w w'∧∀ k,k<i→farB (ps.getD k (0,0))=false) (fun i=>ps.length-i) (0) ⟨rfl,rfl,rfl,rfl,trivial⟩ ⟨Nat.zero_le _,Keep.refl _ _,fun k hk=>absurd hk (Nat.not_lt_zero _)⟩ ?_
 rintro i w1 ⟨hi,he1,hall⟩
 refine T.q (L.o (O.lss_s rfl rfl (fun hlt=>?_) (fun hlt=>?_)))
 ·refine L.nil (?_)
  have hlt':i<ps.length:=by omega
  have hm:ps.getD i (0,0)∈ps:=by rw [getD_get hlt'];exact List.getElem_mem hlt'
  refine T.seq (T.ct (T.skip (T.seq (T.block (T.q (L.m rfl (L.o (O.indexAddr runUnderlying43 sizeOf124 rfl rfl (hq.ext he1) (by omega) (by omega) (L.o (O.loadAgg isAgg124 sizeOf124 rfl rfl ((hq.ext he1).row hlt') (L.o (O.alloc zeroValue124 (fun b2 w2 hb2 hz2 he2 hB2=>?_)))))))))))))
  refine L.a rfl (L.o (O.storeAgg sizeOf124 rfl rfl rfl hB2 (Nat.le_refl _) (pC_one _) (fun w3 hu3 hB3=>?_)))
  have hX3:Blk w3 b2 (pC (ps.getD i (0,0))) 124:=hB3
  have he13:Ext w1 w3:=he2.upd hu3 (.inr (by omega))
  refine L.nil (T.q (L.m rfl (L.o (O.loadAgg isAgg124 sizeOf124 rfl rfl hX3.row (L.o (O.call (xs:=[.tmp 15]) call174 rfl rfl (cfar_calls (ps.getD i (0,0)) w3) (fun v4 w4 hq=>?_)))))))
  obtain ⟨hv4,he4⟩:=hq
  rcases hb:farB (ps.getD i (0,0)) with _|_
  ·refine L.nil (?_)
   rw [hb] at hv4
   subst hv4
   refine T.cf (T.skip (T.blk (T.region (L.o (O.add64 rfl rfl (by omega) (L.m rfl (L.nil (T.again (i+1) (by omega) ⟨rfl,rfl,rfl,rfl,trivial⟩ ⟨hlt',he1.trans (he13.trans he4),fun k hk=>?_⟩))))))))
   ·by_cases e:k=i
    ·subst e;exact hb
    ·exact hall k (by omega)
  ·refine L.nil (?_)
   rw [hb] at hv4
   subst hv4
   refine T.ct (T.q (L.m rfl (L.a rfl (L.nil (T.ret1 results173 rfl ⟨_,rfl,?_,he1.trans (he13.trans he4)⟩)))))
   rw [decide_eq_true (by omega),eq_comm,List.any_eq_true]
   exact ⟨_,hm,hb⟩
 ·refine L.nil (T.seq (T.cf (T.exit rfl (T.q (L.a rfl (L.nil (T.ret1 results173 rfl ⟨_,rfl,?_,he1⟩)))))))
  rw [decide_eq_false (by decide),eq_comm,List.any_eq_false]
  intro h hm
  obtain ⟨k,hk,rfl⟩:=List.getElem_of_mem hm
  have:=hall k (by omega)
  rw [getD_get hk] at this
  rw [this];decide

theorem firstF_calls (lo:Nat) (q:Value) (fs:List FaV) (gf:FuncId) (ca:Array Value) (pb:FaV→Bool) (w:World) (hq:Sl lo w q fs.length 2 (fcells fs)) (hfs:∀ f∈fs,f.ok lo w) (hcl:∀ args w,(callFunc gf args).run Tryz.prog w = .ok (.enter gf args) w) (hcall:∀ (f:FaV) (W:World),f∈fs→Ext w W→Calls Tryz.prog gf (#[] ++ [f.val].toArray++ca) W (Ret fun v W'=>v = .bool (pb f)∧Ext W W')) :
  Calls Tryz.prog 177 #[q,.func (.func gf) #[] ca] w (Ret fun v w'=>∃ r:Int,v = .int .i64 r∧decide (0≤r)=fs.any pb∧Ext w w'):=by
 have hle:=Sl.le hq
 refine T.enter (vs:=[q,.func (.func gf) #[] ca]) func177 rfl ntmps177 rfl ?_
 refine T.q (L.a rfl (L.nil (T.seq (T.q (L.m rfl (L.o (O.len runUnderlying44 rfl (Sl.val hq) (L.m rfl (L.nil (T.block (?_)))))))))))
 refine T.loop (σ:=Nat) (fun i=>[(1,.func (.func gf) #[] ca),(7,q),(8,.int .i64 fs.length),(9,.int .i64 i)]) (fun i w'=>i≤fs.length∧Ext w w'∧∀ k,k<i→pb (fs.getD k f0)=false) (fun i=>fs.length-i) (0) ⟨rfl,rfl,rfl,rfl,trivial⟩ ⟨Nat.zero_le _,Keep.refl _ _,fun k hk=>absurd hk (Nat.not_lt_zero _)⟩ ?_
 rintro i w1 ⟨hi,he1,hall⟩
 refine T.q (L.o (O.lss_s rfl rfl (fun hlt=>?_) (fun hlt=>?_)))
 ·refine L.nil (?_)
  have hlt':i<fs.length:=by omega
  have hm:fs.getD i f0∈fs:=by rw [getD_get hlt'];exact List.getElem_mem hlt'
  have hq1:Sl lo w1 q fs.length 2 (fcells fs):=Sl.ext hq he1
  refine T.seq (T.ct (T.skip (T.seq (T.block (T.q (L.m rfl (L.o (O.indexAddr runUnderlying44 sizeOf127 rfl rfl hq1 (by omega) (by omega) (L.o (O.loadAgg isAgg127 sizeOf127 rfl rfl (show Row w1 ((sAddr q).add ((i:Int).toNat*2)) (fs.getD i f0).cells by rw [Int.toNat_natCast,← fcells_get fs i hlt'];obtain ⟨_,_,_,_,hr⟩:=Sl.there hq1 (by omega);exact hr.part (i*2) 2) (L.o (O.alloc zeroValue127 (fun b2 w2 hb2 hz2 he2 hB2=>?_)))))))))))))
  refine L.a rfl (L.o (O.storeAgg sizeOf127 rfl rfl rfl hB2 (Nat.le_refl _) (fa_one ((hfs _ hm).ext he1)) (fun w3 hu3 hB3=>?_)))
  have hX3:Blk w3 b2 (fs.getD i f0).cells 127:=hB3
  have he13:Ext w1 w3:=he2.upd hu3 (.inr (by omega))
  refine L.nil (T.q (L.m rfl (L.o (O.loadAgg isAgg127 sizeOf127 rfl rfl hX3.row (L.o (O.call (xs:=[.tmp 15]) hcl rfl rfl (hcall (fs.getD i f0) w3 hm (he1.trans he13)) (fun v4 w4 hq=>?_)))))))
  obtain ⟨hv4,he4⟩:=hq
  rcases hb:pb (fs.getD i f0) with _|_
  ·refine L.nil (?_)
   rw [hb] at hv4
   subst hv4
   refine T.cf (T.skip (T.blk (T.region (L.o (O.add64 rfl rfl (by omega) (L.m rfl (L.nil (T.again (i+1) (by omega) ⟨rfl,rfl,rfl,rfl,trivial⟩ ⟨hlt',he1.trans (he13.trans he4),fun k hk=>?_⟩))))))))
   ·by_cases e:k=i
    ·subst e;exact hb
    ·exact hall k (by omega)
  ·refine L.nil (?_)
   rw [hb] at hv4
   subst hv4
   refine T.ct (T.q (L.m rfl (L.a rfl (L.nil (T.ret1 results177 rfl ⟨_,rfl,?_,he1.trans (he13.trans he4)⟩)))))
   rw [decide_eq_true (by omega),eq_comm,List.any_eq_true]
   exact ⟨_,hm,hb⟩
 ·refine L.nil (T.seq (T.cf (T.exit rfl (T.q (L.a rfl (L.nil (T.ret1 results177 rfl ⟨_,rfl,?_,he1⟩)))))))
  rw [decide_eq_false (by decide),eq_comm,List.any_eq_false]
  intro h hm
  obtain ⟨k,hk,rfl⟩:=List.getElem_of_mem hm
  have:=hall k (by omega)
  rw [getD_get hk] at this
  rw [this];decide

def scells (l:List St):List Value:=l.flatMap St.cells
theorem scells_get:∀ (r:List St) (i:Nat),i<r.length→((scells r).drop (i*4)).take 4=(r.getD i st0).cells
 | [],i,h=>by simp at h
 | p::r,0,_=>rfl
 | p::r,i+1,h=>by
  have ih:=scells_get r i (by simpa using h)
  have e:scells (p::r) = .int .i64 p.a :: .int .i64 p.b :: .int .i64 p.f :: .int .i64 p.r::scells r:=rfl
  rw [e,show (i+1)*4=i*4+1+1+1+1 by omega,List.drop_succ_cons,List.drop_succ_cons,List.drop_succ_cons,List.drop_succ_cons,ih]
  rfl
theorem st_one (s:St):∀ u∈s.cells,u.oneCell'=true:=by intro u hu;simp [St.cells] at hu;rcases hu with (rfl|rfl|rfl|rfl) <;> rfl
theorem firstS_calls (lo lo2 b1 b2:Nat) (c:CxV) (s:St) (q:Value) (l:List St) (w:World) (hB1:Blk w b1 c.cells 46) (hB2:Blk w b2 s.cells 277) (hc:Pts lo w c.pv c.ps) (hf:NfL c.ps) (hs:s.ok c.ps) (hl:∀ t∈l,t.ok c.ps) (hq:Sl lo2 w q l.length 4 (scells l)) :
  Calls Tryz.prog 210 #[q,.func (.func 211) #[] #[.pointer (some ⟨b1,0,none⟩),.pointer (some ⟨b2,0,none⟩)]] w (Ret fun v w'=>∃ r:Int,v = .int .i64 r∧decide (0≤r)=l.any (clashB c.ps s)∧Ext w w'):=by
 have hle:=Sl.le hq
 refine T.enter (vs:=[q,.func (.func 211) #[] #[.pointer (some ⟨b1,0,none⟩),.pointer (some ⟨b2,0,none⟩)]]) func210 rfl ntmps210 rfl ?_
 refine T.q (L.a rfl (L.nil (T.seq (T.q (L.m rfl (L.o (O.len runUnderlying280 rfl (Sl.val hq) (L.m rfl (L.nil (T.block (?_)))))))))))
 refine T.loop (σ:=Nat) (fun i=>[(1,.func (.func 211) #[] #[.pointer (some ⟨b1,0,none⟩),.pointer (some ⟨b2,0,none⟩)]),(7,q),(8,.int .i64 l.length),(9,.int .i64 i)]) (fun i w'=>i≤l.length∧Ext w w'∧∀ k,k<i→clashB c.ps s (l.getD k st0)=false) (fun i=>l.length-i) (0) ⟨rfl,rfl,rfl,rfl,trivial⟩ ⟨Nat.zero_le _,Keep.refl _ _,fun k hk=>absurd hk (Nat.not_lt_zero _)⟩ ?_
 rintro i w1 ⟨hi,he1,hall⟩
 refine T.q (L.o (O.lss_s rfl rfl (fun hlt=>?_) (fun hlt=>?_)))
 ·refine L.nil (?_)
  have hlt':i<l.length:=by omega
  have hm:l.getD i st0∈l:=by rw [getD_get hlt'];exact List.getElem_mem hlt'
  have hq1:Sl lo2 w1 q l.length 4 (scells l):=Sl.ext hq he1
  refine T.seq (T.ct (T.skip (T.seq (T.block (T.q (L.m rfl (L.o (O.indexAddr runUnderlying280 sizeOf277 rfl rfl hq1 (by omega) (by omega) (L.o (O.loadAgg isAgg277 sizeOf277 rfl rfl (show Row w1 ((sAddr q).add ((i:Int).toNat*4)) (l.getD i st0).cells by rw [Int.toNat_natCast,← scells_get l i hlt'];obtain ⟨_,_,_,_,hr⟩:=Sl.there hq1 (by omega);exact hr.part (i*4) 4) (L.o (O.alloc zeroValue277 (fun b5 w5 hb5 hz5 he5 hB5=>?_)))))))))))))
  refine L.a rfl (L.o (O.storeAgg sizeOf277 rfl rfl rfl hB5 (Nat.le_refl _) (st_one _) (fun w3 hu3 hB3=>?_)))
  have hX3:Blk w3 b5 (l.getD i st0).cells 277:=hB3
  have he13:Ext w1 w3:=he5.upd hu3 (.inr (by omega))
  refine L.nil (T.q (L.m rfl (L.o (O.loadAgg isAgg277 sizeOf277 rfl rfl hX3.row (L.o (O.call (xs:=[.tmp 15]) call211 rfl rfl (edged1_calls lo b1 b2 c s (l.getD i st0) w3 (Blk.ext (cs:=c.cells) hB1 (he1.trans he13)) (Blk.ext (cs:=s.cells) hB2 (he1.trans he13)) (hc.ext (he1.trans he13)) hf hs (hl _ hm)) (fun v4 w4 hq=>?_)))))))
  obtain ⟨hv4,he4⟩:=hq
  rcases hb:clashB c.ps s (l.getD i st0) with _|_
  ·refine L.nil (?_)
   rw [hb] at hv4
   subst hv4
   refine T.cf (T.skip (T.blk (T.region (L.o (O.add64 rfl rfl (by omega) (L.m rfl (L.nil (T.again (i+1) (by omega) ⟨rfl,rfl,rfl,rfl,trivial⟩ ⟨hlt',he1.trans (he13.trans he4),fun k hk=>?_⟩))))))))
   ·by_cases e:k=i
    ·subst e;exact hb
    ·exact hall k (by omega)
  ·refine L.nil (?_)
   rw [hb] at hv4
   subst hv4
   refine T.ct (T.q (L.m rfl (L.a rfl (L.nil (T.ret1 results210 rfl ⟨_,rfl,?_,he1.trans (he13.trans he4)⟩)))))
   rw [decide_eq_true (by omega),eq_comm,List.any_eq_true]
   exact ⟨_,hm,hb⟩
 ·refine L.nil (T.seq (T.cf (T.exit rfl (T.q (L.a rfl (L.nil (T.ret1 results210 rfl ⟨_,rfl,?_,he1⟩)))))))
  rw [decide_eq_false (by decide),eq_comm,List.any_eq_false]
  intro h hm
  obtain ⟨k,hk,rfl⟩:=List.getElem_of_mem hm
  have:=hall k (by omega)
  rw [getD_get hk] at this
  rw [this];decide

open Go Go.E

def SlW1 (n:Nat) (cs:List Value) (v:Value) (w:World):Prop:=Sl 0 w v n 1 cs
theorem SlW1.st {n:Nat} {cs:List Value} : ∀ v w w',Ext w w'→SlW1 n cs v w→SlW1 n cs v w':=fun _ _ _ he h=>Sl.ext h he
def OwnR (base:Nat) (cs:List Value) (v:Value) (w:World):Prop:=w.ownsRow base 30 1 v cs.length cs
theorem OwnR.st {base:Nat} {cs:List Value} : ∀ v w w',Ext w w'→OwnR base cs v w→OwnR base cs v w':=fun _ _ _ he h=>owns_keep h he (Nat.zero_le _)
theorem OwnR.mono {base base':Nat} {cs:List Value} {v:Value} {w:World} (h:OwnR base cs v w) (hb:base'≤base):OwnR base' cs v w :=
 ⟨h.1,h.2.imp id fun ⟨g,cap,cur,e,h1,rest⟩=>⟨g,cap,cur,e,Nat.le_trans hb h1,rest⟩⟩
theorem own1_blk {base n:Nat} {w:World} {el:TypeId} {v:Value} {cs:List Value} (h:w.ownsRow base el 1 v n cs) (hne:0<n):∃ b cap cur,v = .slice (some ⟨b,0,none⟩) n cap∧base≤b∧Blk w b cur el∧n≤cap∧cap≤maxLen∧cur.length=cap*1∧cur.take (n*1)=cs:=by
 have hl:=h.1
 rcases h.2 with ⟨_,h0⟩|⟨g,cap,cur,rfl,hbase,hg,hn,hm,hsz,htk⟩
 ·subst h0;simp at hl;omega
 ·exact ⟨g,cap,cur.toList,rfl,hbase,by unfold Blk;simpa using hg,hn,hm,by simpa using hsz,htk⟩
theorem own1_row {base b n cap:Nat} {w:World} {el:TypeId} {cur cs:List Value} (hb:base≤b) (hB:Blk w b cur el) (hn:n≤cap) (hm:cap≤maxLen) (hl:cur.length=cap*1) (ht:cur.take (n*1)=cs) (hc:cs.length=n*1):w.ownsRow base el 1 (.slice (some ⟨b,0,none⟩) n cap) n cs :=
 ⟨hc,.inr ⟨b,cap,cur.toArray,rfl,hb,hB,hn,hm,by simpa using hl,by simpa using ht⟩⟩
theorem cloneR_calls (lo:Nat) (p:Value) (cs:List Value) (w:World) (hp:Sl lo w p cs.length 1 cs) (hone:∀ c∈cs,c.oneCell'=true) (hlen:cs.length≤100000) :
  Calls Tryz.prog 215 #[p] w (Ret fun v w'=>Ext w w'∧OwnR w.heap.size cs v w'):=by
 refine T.enter (vs:=[p]) func215 rfl ntmps215 rfl ?_
 refine T.q (L.a rfl (L.nil (T.seq (T.q (L.m rfl (L.o (O.eql_nil_s runUnderlying125 rfl rfl hp (fun hn=>?_) (fun hn=>?_))))))))
 ·refine L.nil (T.ct (T.q (L.a rfl (L.nil (T.ret1 results215 rfl ⟨Keep.refl _ _,?_⟩)))))
  have:cs = []:=List.length_eq_zero_iff.1 hn
  subst this
  exact owns_nil _ _ _ _
 ·refine L.nil (T.cf (T.skip (T.q (L.o (O.buildSlice (el:=30) (parts:=[]) (vs:=[]) (cs:=[]) rfl (fun w=>by kernel_rfl) (fun b5 w5 hb5 hz5 he5 hB5=>?_))))))
  have hO5:w5.ownsRow w.heap.size 30 1 (.slice (some ⟨b5,0,none⟩) 0 0) 0 []:=owns_blk (n:=0) hB5 (by omega) (Nat.le_refl _) (by decide) rfl
  refine L.m rfl (L.o (O.append (size:=1) (bytes:=24) runUnderlying125 Tryz.infoOf30 rfl rfl rfl rfl (by decide) rfl rfl hO5 (show Sl lo w5 p cs.length 1 cs from Sl.ext hp he5) hone (by omega) (by simp only [maxLen];omega) (by omega) (fun v7 w7 hO7 hG7=>?_)))
  refine L.a rfl (L.nil (T.ret1 results215 rfl ⟨he5.grown0 hO5 hG7 (by omega),?_⟩))
  have:0+cs.length=cs.length:=Nat.zero_add _
  rw [this] at hO7
  simpa [OwnR] using hO7

theorem deleteR_calls (base i:Nat) (m k:Int) (v:Value) (cs:List Value) (w:World) (hO:OwnR base cs v w) (hone:∀ c∈cs,c.oneCell'=true) (hi:i<cs.length) (hlen:cs.length≤100000) (hm:m=i) (hk:k=(i:Int)+1) :
  Calls Tryz.prog 214 #[v,.int .i64 m,.int .i64 k] w (Ret fun v' w'=>Loc v w w'∧w'.ownsRow base 30 1 v' (cs.length-1) (cs.take i++cs.drop (i+1))):=by
 have hone':∀ c∈cs.drop (i+1),c.oneCell'=true:=fun c hc=>hone c (List.mem_of_mem_drop hc)
 have hSl:Sl 0 w v cs.length 1 cs:=(Sl.of_owns hO).mono (Nat.zero_le _)
 refine T.enter (vs:=[v,.int .i64 m,.int .i64 k]) func214 rfl ntmps214 rfl ?_
 refine T.q (L.a rfl (L.nil (T.q (L.m rfl (L.m rfl (L.m rfl (L.m rfl (L.o (O.len runUnderlying125 rfl (Sl.val hSl) (?_))))))))))
 subst hm
 subst hk
 obtain ⟨b,cap,cur,rfl,hb,hB,hnc,hcm,hcl,hct⟩:=own1_blk hO (by omega)
 refine L.o (O.slice3 (l:=i) (h:=i+1) (m:=cs.length) runUnderlying125 sizeOf30 rfl rfl rfl rfl (by omega) (by omega) (by omega) (fun v13=>?_))
 refine L.nil (T.seq (T.q (L.m rfl (L.m rfl (L.o (O.eql_f rfl rfl (by omega) (L.nil (T.cf (T.skip (T.q (L.m rfl (L.o (O.len runUnderlying125 rfl (Sl.val hSl) (L.a rfl (L.nil (T.seq (?_)))))))))))))))))
 refine T.anyE mixed 6 [0,1,2] rfl [.is _,.is _,.is _,.is _,.is _,.such (SlW1 (cs.length-(i+1)) (cs.drop (i+1)))] [[],[],[0,1],[],[],[3,4]] [[],[],[0,1],[],[],[3,4],[0,1,2,3,4,5],[0,1,2,3,4,5,6]] (by kernel_rfl) (by kernel_rfl) rfl (by kernel_rfl) ⟨SlW1.st,trivial⟩ ⟨fun wx hx=>Ob.o (O.move rfl kR),
   fun wx hx=>Ob.o (O.move rfl kR),
   fun wx hx=>Ob.o (O.slice_to runUnderlying125 sizeOf30 rfl rfl (by omega) (by omega) kR),
   fun wx hx=>Ob.o (O.move rfl kR),
   fun wx hx=>Ob.o (O.move rfl kR),
   fun wx hx=>Ob.o (O.cut_l runUnderlying125 sizeOf30 rfl rfl (hSl.ext hx) (by omega) (by omega) (fun v25 hs25=>⟨Keep.refl _ _,by rw [show ((i:Int)+1).toNat=i+1 by omega,Nat.mul_one] at hs25;exact hs25⟩)),
   trivial⟩ (fun w14 he14 v25 hv25=>?_)
 refine L.o (O.appendRoom (size:=1) runUnderlying125 Tryz.infoOf30 rfl rfl rfl (hB.ext he14) hv25 hone' (by omega) hcl (fun w15 hu15 hB15=>?_))
 have hi':(i:Int).toNat=i:=Int.toNat_natCast i
 rw [hi'] at hB15
 obtain ⟨ds,hds⟩:∃ ds,ds=cs.take i++cs.drop (i+1):=⟨_,rfl⟩
 have hl':ds.length=i+(cs.length-(i+1)):=by rw [hds,List.length_append,List.length_take,List.length_drop];omega
 have hti:cur.take (i*1)=cs.take i:=by rw [← hct,List.take_take,Nat.mul_one,Nat.mul_one,Nat.min_eq_left (by omega)]
 obtain ⟨es,hes⟩:∃ es,es=cur.take (i*1)++cs.drop (i+1)++cur.drop (i*1+(cs.drop (i+1)).length):=⟨_,rfl⟩
 rw [← hes] at hB15
 have hl15:es.length=cap*1:=by rw [hes];simp only [List.length_append,List.length_take,List.length_drop];omega
 have ht15:es.take (ds.length*1)=ds:=by
  rw [hes,hti,← hds,Nat.mul_one,List.take_left]
 rw [hi']
 rw [← hl']
 have hrow15:=own1_row (n:=ds.length) hb hB15 (by omega) hcm hl15 ht15 (by omega)
 refine L.a rfl (L.nil (T.q (L.m rfl (L.m rfl (L.o (O.len runUnderlying125 rfl (Sl.val (Sl.of_owns hrow15)) (L.m rfl (L.o (O.sliceCap runUnderlying125 sizeOf30 rfl rfl rfl (by omega) (by omega) (by omega) (L.o (O.clearAt runUnderlying125 zeroValue30 (by intro u hu;simp [Value.cells] at hu;rcases hu with (rfl|rfl|rfl|rfl|rfl|rfl) <;> rfl) rfl (by omega) hB15 (by rw [hl15];show ds.length*1+(cs.length-ds.length)*1≤cap*1;omega) (fun w16 hu16 ⟨es',hel,het,hB16⟩=>?_))))))))))))
 have hrow16:=own1_row (n:=ds.length) (cs:=ds) hb hB16 (by omega) hcm (by omega) (by rw [het,ht15]) (by omega)
 have hloc:Loc (.slice (some ⟨b,0,none⟩) cs.length cap) w w16:=((Loc.of_ext he14).trans (Loc.of_upd hu15 rfl)).trans (Loc.of_upd hu16 rfl)
 refine L.nil (T.q (L.m rfl (L.a rfl (L.nil (T.ret1 results214 rfl ⟨hloc,by rw [← hds,show cs.length-1=ds.length by omega];exact hrow16⟩)))))

open Go Go.E

def keyS (s:St):Pt:=((s.a:Int),(s.b:Int))
def lessH (f:FaV) (r:Nat):FaV:=⟨f.o,undef,f.hs.eraseIdx (r-1)⟩
def holeBad (ps:List Pt) (fs:List FaV) (s:St):Bool:=decide (s.r≠0) && !withinB ps 2 (lessH (fs.getD s.f f0) s.r) (midP ps s)
def overOne (ps:List Pt) (fs:List FaV) (s:St) (i:Nat):Bool:=decide (i≠s.f) && withinB ps 2 (fs.getD i f0) (midP ps s)
def overBad (ps:List Pt) (fs:List FaV) (s:St):Bool:=(List.range fs.length).any (overOne ps fs s)
def crossBad (ps:List Pt) (L:List St) (i:Nat):Bool:=(L.take i).any (clashB ps (L.getD i st0))
def edgedBad (ps:List Pt) (fs:List FaV):Bool:=!decide ((stL fs).map keyS).Nodup || ((List.range (stL fs).length).any (crossBad ps (stL fs)) || ((stL fs).any (holeBad ps fs) || (stL fs).any (overBad ps fs)))
theorem bad1 {ps:List Pt} {fs:List FaV} (h:¬ ((stL fs).map keyS).Nodup):edgedBad ps fs=true:=by
 rw [edgedBad,decide_eq_false h];rfl
theorem any_at {α:Type} {L:List α} {d:α} {p:α→Bool} {i:Nat} (hi:i<L.length) (h:p (L.getD i d)=true):L.any p=true :=
 List.any_eq_true.2 ⟨_,by rw [getD_get hi];exact List.getElem_mem hi,h⟩
theorem any_not {α:Type} {L:List α} {d:α} {p:α→Bool} (h:∀ k,k<L.length→p (L.getD k d)=false):L.any p=false :=
 List.any_eq_false.2 fun x hx=>by
  obtain ⟨k,hk,rfl⟩:=List.getElem_of_mem hx
  have:=h k hk
  rw [getD_get hk] at this
  rw [this];decide
theorem range_at {p:Nat→Bool} {n i:Nat} (hi:i<n) (h:p i=true):(List.range n).any p=true:=List.any_eq_true.2 ⟨i,List.mem_range.2 hi,h⟩
theorem range_not {p:Nat→Bool} {n:Nat} (h:∀ k,k<n→p k=false):(List.range n).any p=false:=List.any_eq_false.2 fun x hx=>by rw [h x (List.mem_range.1 hx)];decide
theorem bad2 {ps:List Pt} {fs:List FaV} {i:Nat} (hi:i<(stL fs).length) (h:crossBad ps (stL fs) i=true):edgedBad ps fs=true:=by
 rw [edgedBad,range_at hi h,Bool.true_or,Bool.or_true]
theorem bad3 {ps:List Pt} {fs:List FaV} {i:Nat} (hi:i<(stL fs).length) (h:holeBad ps fs ((stL fs).getD i st0)=true):edgedBad ps fs=true:=by
 rw [edgedBad,any_at (p:=holeBad ps fs) hi h,Bool.true_or,Bool.or_true,Bool.or_true]
theorem bad4 {ps:List Pt} {fs:List FaV} {i:Nat} (hi:i<(stL fs).length) (h:overBad ps fs ((stL fs).getD i st0)=true):edgedBad ps fs=true:=by
 rw [edgedBad,any_at (p:=overBad ps fs) hi h,Bool.or_true,Bool.or_true,Bool.or_true]
theorem good4 {ps:List Pt} {fs:List FaV} (h1:((stL fs).map keyS).Nodup) (h2:∀ k,k<(stL fs).length→crossBad ps (stL fs) k=false) (h3:∀ k,k<(stL fs).length→holeBad ps fs ((stL fs).getD k st0)=false) (h4:∀ k,k<(stL fs).length→overBad ps fs ((stL fs).getD k st0)=false):edgedBad ps fs=false:=by
 rw [edgedBad,decide_eq_true h1,range_not h2,any_not h3,any_not h4];rfl
def FlawQ (bad:Bool) (w:World) (v:Value) (w':World):Prop:=∃ k a:Int,v = .tuple #[.int .i64 k,.int .i64 a]∧decide (0<k)=bad∧Ext w w'
theorem st_inj {s t:St} (h:s.val=t.val):t=s:=by
 obtain ⟨a,b,f,r⟩:=s
 obtain ⟨a',b',f',r'⟩:=t
 have h:=congrArg Value.cells h
 simp [St.val,Value.cells] at h
 obtain ⟨h1,h2,h3,h4⟩:=h
 obtain rfl:a=a':=by omega
 obtain rfl:b=b':=by omega
 obtain rfl:f=f':=by omega
 obtain rfl:r=r':=by omega
 rfl
/-- What stays while the edges are looked at. -/
structure EF (w0:World) (c:CxV) (b1 b2 b3 bi:Nat) (ds:List Nat) (W:World):Prop where
 e:Ext w0 W
 c1:Blk W b1 c.cells 46
 c2:Blk W b2 [.int .i64 0] 3
 c3:Blk W b3 [.int .i64 0] 3
 ci:Blk W bi c.cells 46
 o:Opn ds W
section
variable {w0:World} {c:CxV} {b1 b2 b3 bi b m:Nat} {ds:List Nat} {w W W':World} {S:Nat→Prop} {B:Prop} {kd:Int}
theorem EF.ext (h:EF w0 c b1 b2 b3 bi ds W) (k:Ext W W'):EF w0 c b1 b2 b3 bi ds W' :=
 ⟨h.e.trans k,Blk.ext (cs:=c.cells) h.c1 k,Blk.ext (cs:=[.int .i64 0]) h.c2 k,Blk.ext (cs:=[.int .i64 0]) h.c3 k,Blk.ext (cs:=c.cells) h.ci k,h.o.ext k⟩
theorem EF.upd (h:EF w0 c b1 b2 b3 bi ds W) (k:Upd b W W') (h0:w0.heap.size≤b) (n1:b1≠b) (n2:b2≠b) (n3:b3≠b) (ni:bi≠b) (no:∀ r∈ds,r≠b):EF w0 c b1 b2 b3 bi ds W' :=
 ⟨h.e.upd k (.inr h0),Blk.upd h.c1 k n1,Blk.upd h.c2 k n2,Blk.upd h.c3 k n3,Blk.upd h.ci k ni,h.o.upd k no⟩
theorem Blk.grownN {cs:List Value} {t:TypeId} {row:Option Nat} (h:Blk W b cs t) (hG:W.grownBy W' row) (hn:∀ j,row=some j→j≠b):Blk W' b cs t:=(hG.block b h.lt (fun e=>hn b e.symm rfl)).trans h
theorem EF.grown {el:TypeId} {sz n:Nat} {q:Value} {xs:List Value} (h:EF w0 c b1 b2 b3 bi ds W) (hO:W.ownsRow m el sz q n xs) (hG:W.grownBy W' q.ownBlock) (h0:w0.heap.size≤m) (n1:b1<m) (n2:b2<m) (n3:b3<m) (ni:bi<m) (no:∀ r∈ds,r<m):EF w0 c b1 b2 b3 bi ds W' :=
 have hj:∀ j,q.ownBlock=some j→m≤j:=fun j hj=>(own_at hO hj).1
 ⟨Keep.grown h.e hG (fun j e=>.inr (Nat.le_trans h0 (hj j e))),Blk.grownN h.c1 hG (fun j e=>by have:=hj j e;omega),Blk.grownN h.c2 hG (fun j e=>by have:=hj j e;omega),Blk.grownN h.c3 hG (fun j e=>by have:=hj j e;omega),Blk.grownN h.ci hG (fun j e=>by have:=hj j e;omega),
  ⟨h.o.1,fun r hr=>(hG.block r (h.o.lt r hr) (fun e=>by have:=hj r e.symm;have:=no r hr;omega)).trans (h.o.2 r hr)⟩⟩
/-- An invariant of a range over a function: the blocks that a round keeps lie from 'm' on. -/
def LJ {σ:Type} (m:Nat) (A:σ→(Nat→Prop)→World→Prop) (i:σ) (S:Nat→Prop) (W:World):Prop:=(∀ k,S k→m≤k∧k<W.heap.size)∧m≤W.heap.size∧A i S W
theorem LJ.stab {σ:Type} {A:σ→(Nat→Prop)→World→Prop} (h1:∀ i S S' W W',(∀ k,S k→k<W.heap.size)→A i S W→Ext W W'→(∀ k,S' k→S k∨W.heap.size≤k∧k<W'.heap.size)→A i S' W') (h2:∀ i S W W' b,A i S W→S b→m≤b→Upd b W W'→A i S W'):Stab (LJ m A):=by
 refine ⟨?_,?_⟩
 ·rintro i S S' W W' ⟨a1,a2,a3⟩ he hS
  refine ⟨fun k hk=>?_,Nat.le_trans a2 he.size,h1 i S S' W W' (fun k hk=>(a1 k hk).2) a3 he hS⟩
  rcases hS _ hk with h|h
  ·exact ⟨(a1 k h).1,Nat.lt_of_lt_of_le (a1 k h).2 he.size⟩
  ·exact ⟨Nat.le_trans a2 h.1,h.2⟩
 ·rintro i S W W' b ⟨a1,a2,a3⟩ hb hu
  exact ⟨fun k hk=>by rw [hu.size];exact a1 k hk,by rw [hu.size];exact a2,h2 i S W W' b a3 hb (a1 b hb).1 hu⟩
theorem LJ.start {σ:Type} {A:σ→(Nat→Prop)→World→Prop} {i:σ} (h:A i (fun _=>False) W):LJ W.heap.size A i (fun _=>False) W:=⟨fun _ h=>h.elim,Nat.le_refl _,h⟩
/-- A way out with both results written. -/
def EX (B:Prop) (w0:World) (b2 b3:Nat) (kd:Int) (m:Nat) (ds:List Nat) (S:Nat→Prop) (W:World):Prop :=
 B∧(∀ k,S k→m≤k∧k<W.heap.size)∧Opn ds W∧∃ a:Int,Done2 b2 b3 3 3 (.int .i64 kd) (.int .i64 a) w0 W
theorem EX.upd (h:EX B w0 b2 b3 kd m ds S W) (hb:S b) (hu:Upd b W W') (h0:w0.heap.size≤m) (n2:b2<m) (n3:b3<m) (no:∀ r∈ds,r<m):EX B w0 b2 b3 kd m ds S W':=by
 obtain ⟨h1,hS,ho,a,hd⟩:=h
 have hmb:=(hS b hb).1
 exact ⟨h1,fun k hk=>by rw [hu.size];exact hS k hk,ho.upd hu (fun r hr=>by have:=no r hr;omega),a,
  ⟨hu.os.trans hd.os,hu.tape.trans hd.tape,hu.output.trans hd.output,by rw [hu.size];exact hd.size,fun k hk e2 e3=>by rw [hu.block k (by omega),hd.block k hk e2 e3],Blk.upd hd.c2 hu (by omega),Blk.upd hd.c3 hu (by omega)⟩⟩
theorem EX.of {a:Int} (hB:B) (hE:EF w0 c b1 b2 b3 bi ds w) (hS:∀ k,S k→m≤k∧k<w.heap.size) (hd:Done2 b2 b3 3 3 (.int .i64 kd) (.int .i64 a) w W):EX B w0 b2 b3 kd m ds S W :=
 ⟨hB,fun k hk=>⟨(hS k hk).1,Nat.lt_of_lt_of_le (hS k hk).2 hd.size⟩,Opn.done hE.o hd hE.c2 hE.c3,a,hd.from hE.e⟩
theorem Done2.keepS {a:Int} (hd:Done2 b2 b3 3 3 (.int .i64 kd) (.int .i64 a) w W) (hS:∀ k,S k→m≤k∧k<w.heap.size) (n2:b2<m) (n3:b3<m):∀ k,S k→W.heap[k]?=w.heap[k]?:=fun k hk=>by
 have:=hS k hk
 exact hd.block k this.2 (by omega) (by omega)
end
def KeyS (kvs:List (Pt × Bool)) (ks:List Pt):Prop:=∀ p,(getG kvs p).getD false=decide (p∈ks)
theorem KeyS.put {kvs:List (Pt × Bool)} {ks:List Pt} {k:Pt} (h:KeyS kvs ks):KeyS (putG kvs k true) (ks ++ [k]):=fun p=>by
 rw [getG_put]
 by_cases e:p=k
 ·simp [e]
 ·rw [if_neg e,h p];simp [e]
theorem KeyS.nil:KeyS [] []:=fun p=>by simp [getG_nil]
theorem nodup_snoc {α:Type} {ks:List α} {k:α} (h:ks.Nodup) (hk:k∉ks):(ks ++ [k]).Nodup:=by
 rw [List.nodup_append]
 exact ⟨h,by simp,fun a ha b hb=>by rw [List.mem_singleton] at hb;subst hb;exact fun e=>hk (e▸ha)⟩
theorem take_map {α β:Type} {L:List α} {d:α} (f:α→β) {i:Nat} (hi:i<L.length):(L.take (i+1)).map f=(L.take i).map f ++ [f (L.getD i d)]:=by
 rw [getD_get hi,List.take_succ_eq_append_getElem hi,List.map_append];rfl
theorem dup_not {α β:Type} {L:List α} {d:α} (f:α→β) {i:Nat} (hi:i<L.length) (h:f (L.getD i d)∈(L.take i).map f):¬ (L.map f).Nodup:=fun hn=>by
 have h1:(L.map f).take (i+1)=(L.take i).map f ++ [f (L.getD i d)]:=by rw [← take_map f hi,List.map_take]
 have h2:=hn.sublist (List.take_sublist (i+1) (L.map f))
 rw [h1,List.nodup_append] at h2
 exact h2.2.2 _ h _ (by simp) rfl
theorem stL_mem {fs:List FaV} {s:St} (h:s∈stL fs):s.f<fs.length∧s.r<(fs.getD s.f f0).ri.length:=by
 simp only [stL,pre,gF,stF,gR,stR,List.mem_flatMap,List.mem_range,List.mem_map] at h
 obtain ⟨f,hf,r,hr,i,hi,rfl⟩:=h
 exact ⟨hf,hr⟩
theorem scells_snoc (l:List St) (s:St):scells (l ++ [s])=scells l++s.cells:=by simp [scells]
theorem take_snoc {L:List St} {i:Nat} (hi:i<L.length):L.take (i+1)=L.take i ++ [L.getD i st0]:=by
 rw [getD_get hi,List.take_succ_eq_append_getElem hi]
theorem ri_erase (hs:List RiV) (i:Nat):riCells (hs.eraseIdx i)=(riCells hs).take i++(riCells hs).drop (i+1):=by
 rw [List.eraseIdx_eq_take_drop_succ,riCells,riCells,List.map_append,List.map_take,List.map_drop]
theorem ri_len (hs:List RiV):(riCells hs).length=hs.length:=by simp [riCells]
set_option maxHeartbeats 2000000 in
theorem edged_calls (lo:Nat) (c:CxV) (w:World) (hc:c.ok lo w) (hf:NfL c.ps) (hx:IxC c) (hst:∀ s∈stL c.fs,s.ok c.ps) (hlen:(stL c.fs).length≤100000) :
  Calls Tryz.prog 189 #[c.val] w (Ret fun v w'=>FlawQ (edgedBad c.ps c.fs) w v w'):=by
 refine T.enterM (vs:=[c.val]) func189 rfl ntmps189 rfl ?_
 refine T.q (L.o (O.box rfl (fun b1 w1 hb1 hz1 he1 hB1=>?_)))
 refine L.o (O.alloc zeroValue3 (fun b2 w2 hb2 hz2 he2 hB2=>?_))
 refine L.o (O.alloc zeroValue3 (fun b3 w3 hb3 hz3 he3 hB3=>?_))
 refine L.nil (T.q (L.o (O.makeMapG (kf:=pV) (vf:=Value.bool) (fun b4 w4 hb4 hz4 he4 hM4=>?_))))
 refine L.o (O.alloc zeroValue272 (fun b5 w5 hb5 hz5 he5 hB5=>?_))
 refine L.o (O.store1 sizeOf272 rfl rfl rfl hB5 (by simp [Value.cells]) (fun w6 hu6 hB6=>?_))
 have he13:Ext w1 w3:=he2.trans he3
 have he15:Ext w1 w5:=he13.trans (he4.trans he5)
 have hE6:EF w c b1 b2 b3 b1 [] w6:=EF.upd ⟨he1.trans he15,Blk.ext (cs:=c.cells) hB1 he15,Blk.ext (cs:=[.int .i64 0]) hB2 (he3.trans (he4.trans he5)),Blk.ext (cs:=[.int .i64 0]) hB3 (he4.trans he5),Blk.ext (cs:=c.cells) hB1 he15,Opn.nil _⟩ hu6 (by omega) (by omega) (by omega) (by omega) (by omega) (fun r hr=>by cases hr)
 have hM6:MapG pV Value.bool w6 b4 []:=(hM4.keep he5 (Nat.zero_le _)).upd hu6 (by omega)
 obtain ⟨tm,hB6⟩:∃ t,Blk w6 b5 [.map (some b4)] t:=⟨_,hB6⟩
 have hz6:w6.heap.size=b5+1:=by rw [hu6.size,hz5]
 refine L.nil (T.seq (T.q (L.o (O.loadAgg isAgg46 sizeOf46 rfl rfl hE6.c1.row (L.o (O.call (xs:=[.tmp 15]) call209 rfl rfl (steps_calls c w6) (fun v7 w7 hq=>?_)))))))
 obtain ⟨rfl,he7,hBe7⟩:=hq
 have hz7:w7.heap.size≤w7.heap.size:=Nat.le_refl _
 have hlt7:=hBe7.lt
 have hE7:EF w c b1 b2 b3 w6.heap.size [] w7:=⟨(hE6.ext he7).e,(hE6.ext he7).c1,(hE6.ext he7).c2,(hE6.ext he7).c3,hBe7,Opn.nil _⟩
 have h57:=Blk.ext (cs:=[.map (some b4)]) hB6 he7
 have hM7:=hM6.keep he7 (Nat.zero_le _)
 refine L.nil (T.block (?_))
 refine T.rangeFuncM (e1:=fun v x=>[(1,.pointer (some ⟨b1,0,none⟩)),(2,.pointer (some ⟨b2,0,none⟩)),(3,.pointer (some ⟨b3,0,none⟩)),(4,.pointer (some ⟨b5,0,none⟩)),(5,.pointer (some ⟨x,0,none⟩))]) (LJ w7.heap.size (fun i _ W=>EF w c b1 b2 b3 w6.heap.size [] W∧Blk W b5 [.map (some b4)] tm∧(∃ kvs,MapG pV Value.bool W b4 kvs∧KeyS kvs (((stL c.fs).take i).map keyS))∧(((stL c.fs).take i).map keyS).Nodup)) (fun c' S w'=>c' = .ret∧EX (¬ ((stL c.fs).map keyS).Nodup) w b2 b3 7 w7.heap.size [] S w') (fun v x w'=>∃ s:St,v=s.val∧Blk w' x s.cells 277) rfl call245 rfl (steps_seq w6.heap.size lo c hx) ?_ ?_ ?_ ?_ ?_ ?_ ?_ ?_ ?_ ?_ ?_
 ·refine LJ.stab ?_ ?_
  ·rintro i S S' W W' _ ⟨h1,h2,⟨kvs,h3,h4⟩,h5⟩ he _
   exact ⟨h1.ext he,Blk.ext (cs:=[.map (some b4)]) h2 he,⟨kvs,h3.keep he (Nat.zero_le _),h4⟩,h5⟩
  ·rintro i S W W' b ⟨h1,h2,⟨kvs,h3,h4⟩,h5⟩ _ hmb hu
   exact ⟨h1.upd hu (by omega) (by omega) (by omega) (by omega) (by omega) (fun r hr=>by cases hr),Blk.upd h2 hu (by omega),⟨kvs,h3.upd hu (by omega),h4⟩,h5⟩
 ·exact fun c' S W W' b h hb hu=>⟨h.1,h.2.upd hb hu (by omega) (by omega) (by omega) (by simp;try omega)⟩
 ·exact fun i S W h=>⟨hc.ext h.2.2.1.e,h.2.2.1.ci⟩
 ·exact LJ.start ⟨hE7,h57,⟨[],hM7,KeyS.nil⟩,by simp⟩
 ·exact fun k hk=>hk.elim
 ·exact fun W hW=>trivial
 ·rintro v x W W' b' ⟨s,h1,h2⟩ hne hu
  exact ⟨s,h1,h2.upd hu (Ne.symm hne)⟩
 ·intro l Q i j v k W hn hK
  obtain ⟨hi,rfl,_⟩:=hn
  refine T.region (L.o (O.alloc zeroValue277 (fun b58 w58 hb58 hz58 he58 hB58=>?_)))
  refine L.o (O.storeAgg sizeOf277 rfl rfl rfl hB58 (Nat.le_refl _) (st_one _) (fun w59 hu59 hB59=>?_))
  refine L.nil (T.sub ?_ (hK b58 _ (by omega) (he58.upd hu59 (.inr (by omega))) ⟨_,rfl,hB59⟩))
  exact ⟨rfl,rfl,rfl,rfl,rfl,trivial⟩
 ·rintro l i v x j S w8 ⟨hi,rfl,rfl⟩ ⟨hS8,hm8,hE8,h58,⟨kvs,hM8,hk8⟩,hn8⟩ ⟨s',hv,hBx⟩
  obtain ⟨s,hs⟩:∃ s,(stL c.fs).getD i st0=s:=⟨_,rfl⟩
  rw [hs] at hv
  have hss:=st_inj hv
  subst hss
  refine T.block (T.seq (T.q (L.o (O.load isAgg272 rfl (h58.cell rfl) (L.o (O.fieldAddr runUnderlying277 rfl sizeOf3 rfl (L.o (O.load isAgg3 rfl (hBx.cell rfl) (L.o (O.fieldAddr runUnderlying277 rfl sizeOf3 rfl (L.o (O.load isAgg3 rfl (hBx.cell rfl) (L.o (O.build (v:=pV (keyS s')) (parts:=[(0,.tmp 20),(1,.tmp 22)]) (vs:=[(0,_),(1,_)]) rfl (fun w=>by kernel_rfl) (L.o (O.lookupP (kf:=pV) (vf:=Value.bool) (z0:=false) key_pair runUnderlying272 zeroValue4 rfl rfl hM8 (?_)))))))))))))))))
  cases hb:(getG kvs (keyS s')).getD false
  ·refine L.nil (T.cf (T.skip (T.region (L.o (O.load isAgg272 rfl (h58.cell rfl) (L.o (O.fieldAddr runUnderlying277 rfl sizeOf3 rfl (L.o (O.load isAgg3 rfl (hBx.cell rfl) (L.o (O.fieldAddr runUnderlying277 rfl sizeOf3 rfl (L.o (O.load isAgg3 rfl (hBx.cell rfl) (L.o (O.build (v:=pV (keyS s')) (parts:=[(0,.tmp 29),(1,.tmp 31)]) (vs:=[(0,_),(1,_)]) rfl (fun w=>by kernel_rfl) (L.o (O.mapUpdateP (kf:=pV) (vf:=Value.bool) (v:=_) key_pair runUnderlying272 rfl rfl rfl hM8 (fun w9 hu9 hM9=>?_))))))))))))))))))
   have hnk:keyS s'∉((stL c.fs).take i).map keyS:=by rw [hk8,decide_eq_false_iff_not] at hb;exact hb
   refine L.nil (T.blk (T.roundEnd ⟨⟨fun k hk=>⟨(hS8 k hk).1,by rw [hu9.size];exact (hS8 k hk).2⟩,by rw [hu9.size];exact hm8,hE8.upd hu9 (by omega) (by omega) (by omega) (by omega) (by omega) (fun r hr=>by cases hr),Blk.upd h58 hu9 (by omega),⟨_,hM9,?_⟩,?_⟩,fun k hk=>hu9.block k (by have:=(hS8 k hk).1;omega)⟩))
   ·rw [take_map (d:=st0) keyS hi,hs];exact hk8.put
   ·rw [take_map (d:=st0) keyS hi,hs];exact nodup_snoc hn8 hnk
  ·refine L.nil (?_)
   have hbad:¬ ((stL c.fs).map keyS).Nodup:=dup_not (d:=st0) keyS hi (by rw [hs];rw [hk8,decide_eq_true_eq] at hb;exact hb)
   refine T.ct (T.seq (?_))
   refine T.any mixed 3 1 [5,2] rfl [.is _,.is _,.is undef] [[],[0],[]] [none,none,some 0] [[],[0],[],[0,1,2]] (PutI w8 b2 (.int .i64 7)) (fun _ _=>True) (by kernel_rfl) (by kernel_rfl) (by kernel_rfl) rfl trivial (Keep.drew _ _) ⟨fun c wx hx=>ObK.op rfl (O.fieldAddr runUnderlying277 rfl sizeOf3 rfl ⟨⟨trivial,hx⟩,rfl⟩),
     fun c wx hx=>ObK.op rfl (O.load isAgg3 rfl ((hx.blk hBx (gblk_ne hBx hE8.c2 (by decide))).cell rfl) ⟨⟨trivial,hx⟩,rfl⟩),
     fun wx hx=>ObK.op rfl (O.store1 sizeOf3 rfl rfl rfl (Blk.ext (cs:=[.int .i64 0]) hE8.c2 hx) (by simp [Value.cells]) (fun w11 hu11 hB11=>⟨⟨trivial,_,hx,hu11,hB11⟩,rfl⟩)),
     trivial⟩ (fun w10 hI10=>?_)
   obtain ⟨W1,hE,hU,hC⟩:=hI10
   refine L.o (O.store1 sizeOf3 rfl rfl rfl (Blk.upd (cs:=[.int .i64 0]) (Blk.ext (cs:=[.int .i64 0]) hE8.c3 hE) hU (by omega)) (by simp [Value.cells]) (fun w11 hu11 hB11=>?_))
   have hd:=Done2.of hE hU hC hu11 hB11 (by omega)
   refine L.nil (T.roundRet ⟨⟨rfl,EX.of hbad hE8 hS8 hd⟩,fun k hk=>(hd.keepS hS8 (by omega) (by omega) k hk).trans (rfl)⟩)
 ·rintro S D w8 hD hS0 hSD ⟨hS8,hm8,hE8,h58,⟨kvs,hM8,hk8⟩,hn8⟩ hD8
  rw [List.take_length] at hn8
  have ho8:Opn [D] w8:=hE8.o.cons hD8 (by simp)
  have hDl:=ho8.lt D (by simp)
  refine T.blk (T.q (L.o (O.alloc zeroValue280 (fun b9 w9 hb9 hz9 he9 hB9=>?_))))
  have hE9:=hE8.ext he9
  have ho9:=ho8.ext he9
  obtain ⟨tq,hB9⟩:∃ t,Blk w9 b9 [.slice none 0 0] t:=⟨_,hB9⟩
  refine L.nil (T.seq (T.q (L.o (O.loadAgg isAgg46 sizeOf46 rfl rfl hE9.c1.row (L.o (O.call (xs:=[.tmp 33]) call209 rfl rfl (steps_calls c w9) (fun v10 w10 hq=>?_)))))))
  obtain ⟨rfl,he10,hBe10⟩:=hq
  have hz10:=hBe10.lt
  have hE10:EF w c b1 b2 b3 w9.heap.size [D] w10:=⟨(hE9.ext he10).e,(hE9.ext he10).c1,(hE9.ext he10).c2,(hE9.ext he10).c3,hBe10,ho9.ext he10⟩
  have h90:=Blk.ext (cs:=[.slice none 0 0]) hB9 he10
  refine L.nil (T.block (?_))
  refine T.rangeFuncM (e1:=fun v x=>[(1,.pointer (some ⟨b1,0,none⟩)),(2,.pointer (some ⟨b2,0,none⟩)),(3,.pointer (some ⟨b3,0,none⟩)),(6,.pointer (some ⟨b9,0,none⟩)),(7,.pointer (some ⟨x,0,none⟩))]) (LJ w10.heap.size (fun i S W=>EF w c b1 b2 b3 w9.heap.size [D] W∧(∃ q,Blk W b9 [q] tq∧W.ownsRow w10.heap.size 277 4 q ((stL c.fs).take i).length (scells ((stL c.fs).take i))∧∀ b,q.ownBlock=some b→¬ S b)∧∀ k,k<i→crossBad c.ps (stL c.fs) k=false)) (fun c' S w'=>c' = .ret∧EX (∃ i,i<(stL c.fs).length∧crossBad c.ps (stL c.fs) i=true) w b2 b3 8 w10.heap.size [D] S w') (fun v x w'=>∃ s:St,v=s.val∧Blk w' x s.cells 277) rfl call245 rfl (steps_seq w9.heap.size lo c hx) ?_ ?_ ?_ ?_ ?_ ?_ ?_ ?_ ?_ ?_ ?_
  ·refine LJ.stab ?_ ?_
   ·rintro i S S' W W' hb ⟨h1,⟨q,h2,h3,h4⟩,h5⟩ he hS
    refine ⟨h1.ext he,⟨q,Blk.ext (cs:=[q]) h2 he,owns_keep h3 he (Nat.zero_le _),fun b hqb hSb=>?_⟩,h5⟩
    rcases hS b hSb with h|h
    ·exact h4 b hqb h
    ·have:=(own_at h3 hqb).2;omega
   ·rintro i S W W' b ⟨h1,⟨q,h2,h3,h4⟩,h5⟩ hSb hmb hu
    refine ⟨h1.upd hu (by omega) (by omega) (by omega) (by omega) (by omega) (by simp;omega),⟨q,Blk.upd h2 hu (by omega),?_,h4⟩,h5⟩
    exact owns_loc (q:=.slice (some ⟨b,0,none⟩) 0 0) h3 (Loc.of_upd hu rfl) (fun j hj e=>by cases e;exact h4 b hj hSb)
  ·exact fun c' S W W' b h hb hu=>⟨h.1,h.2.upd hb hu (by omega) (by omega) (by omega) (by simp;try omega)⟩
  ·exact fun i S W h=>⟨hc.ext h.2.2.1.e,h.2.2.1.ci⟩
  ·exact LJ.start ⟨hE10,⟨_,h90,owns_nil _ _ _ _,fun b hb=>by cases hb⟩,fun k hk=>absurd hk (Nat.not_lt_zero _)⟩
  ·exact fun k hk=>hk.elim
  ·exact fun W hW=>trivial
  ·rintro v x W W' b' ⟨s,h1,h2⟩ hne hu
   exact ⟨s,h1,h2.upd hu (Ne.symm hne)⟩
  ·intro l Q i j v k W hn hK
   obtain ⟨hi,rfl,_⟩:=hn
   refine T.region (L.o (O.alloc zeroValue277 (fun b58 w58 hb58 hz58 he58 hB58=>?_)))
   refine L.o (O.storeAgg sizeOf277 rfl rfl rfl hB58 (Nat.le_refl _) (st_one _) (fun w59 hu59 hB59=>?_))
   refine L.nil (T.sub ?_ (hK b58 _ (by omega) (he58.upd hu59 (.inr (by omega))) ⟨_,rfl,hB59⟩))
   exact ⟨rfl,rfl,rfl,rfl,rfl,trivial⟩
  ·rintro l i v x j S w11 ⟨hi,rfl,rfl⟩ ⟨hS11,hm11,hE11,⟨q,h911,hO11,hq11⟩,hk11⟩ ⟨s',hv,hBx⟩
   obtain ⟨s,hs⟩:∃ s,(stL c.fs).getD i st0=s:=⟨_,rfl⟩
   rw [hs] at hv
   have hss:=st_inj hv
   subst hss
   have hsm:s'∈stL c.fs:=by rw [← hs,getD_get hi];exact List.getElem_mem hi
   have hc11:=hc.ext hE11.e
   refine T.block (T.seq (T.q (L.o (O.load isAgg280 rfl (h911.cell rfl) (L.o (O.makeFunc (fi:=[]) (ca:=[.tmp 1,.tmp 7]) rfl rfl (L.o (O.call (xs:=[.tmp 36,.tmp 37]) call210 rfl rfl (firstS_calls lo w10.heap.size b1 x c s' q ((stL c.fs).take i) w11 hE11.c1 hBx hc11.p hf (hst _ hsm) (fun t ht ↦ hst t (List.mem_of_mem_take ht)) (Sl.of_owns hO11)) (fun v12 w12 hq=>?_)))))))))
   obtain ⟨r,rfl,hr,he12⟩:=hq
   have hE12:=hE11.ext he12
   have hBx12:=Blk.ext (cs:=s'.cells) hBx he12
   have hS12:∀ k,S k→w10.heap.size≤k∧k<w12.heap.size:=fun k hk=>⟨(hS11 k hk).1,Nat.lt_of_lt_of_le (hS11 k hk).2 he12.size⟩
   have hK12:∀ k,S k→w12.heap[k]?=w11.heap[k]?:=fun k hk=>he12.block k (Nat.zero_le _) (hS11 k hk).2
   have hcb:crossBad c.ps (stL c.fs) i=decide (0≤r):=by rw [crossBad,hs,hr]
   refine L.o (O.geq_s rfl rfl (fun hge=>?_) (fun hge=>?_))
   ·refine L.nil (T.ct (T.seq (?_)))
    refine T.any mixed 3 1 [7,2] rfl [.is _,.is _,.is undef] [[],[0],[]] [none,none,some 0] [[],[0],[],[0,1,2]] (PutI w12 b2 (.int .i64 8)) (fun _ _=>True) (by kernel_rfl) (by kernel_rfl) (by kernel_rfl) rfl trivial (Keep.drew _ _) ⟨fun c wx hx=>ObK.op rfl (O.fieldAddr runUnderlying277 rfl sizeOf3 rfl ⟨⟨trivial,hx⟩,rfl⟩),
      fun c wx hx=>ObK.op rfl (O.load isAgg3 rfl ((hx.blk hBx12 (gblk_ne hBx12 hE12.c2 (by decide))).cell rfl) ⟨⟨trivial,hx⟩,rfl⟩),
      fun wx hx=>ObK.op rfl (O.store1 sizeOf3 rfl rfl rfl (Blk.ext (cs:=[.int .i64 0]) hE12.c2 hx) (by simp [Value.cells]) (fun w14 hu14 hB14=>⟨⟨trivial,_,hx,hu14,hB14⟩,rfl⟩)),
      trivial⟩ (fun w13 hI13=>?_)
    obtain ⟨W1,hE,hU,hC⟩:=hI13
    refine L.o (O.store1 sizeOf3 rfl rfl rfl (Blk.upd (cs:=[.int .i64 0]) (Blk.ext (cs:=[.int .i64 0]) hE12.c3 hE) hU (by omega)) (by simp [Value.cells]) (fun w14 hu14 hB14=>?_))
    have hd:=Done2.of hE hU hC hu14 hB14 (by omega)
    refine L.nil (T.roundRet ⟨⟨rfl,EX.of ⟨i,hi,by rw [hcb,decide_eq_true (by omega)]⟩ hE12 hS12 hd⟩,fun k hk=>(hd.keepS hS12 (by omega) (by omega) k hk).trans (hK12 k hk)⟩)
   ·refine L.nil (?_)
    have hz12:=he12.size
    have hO12:=owns_keep hO11 he12 (Nat.zero_le _)
    refine T.cf (T.skip (T.region (L.o (O.load isAgg280 rfl ((Blk.ext (cs:=[q]) h911 he12).cell rfl) (L.o (O.loadAgg isAgg277 sizeOf277 rfl rfl hBx12.row (L.o (O.buildSlice (el:=277) (parts:=[(0,.tmp 43)]) (vs:=[(0,_)]) (cs:=s'.cells) rfl (fun w=>by kernel_rfl) (fun b13 w13 hb13 hz13 he13 hB13=>?_)))))))))
    have hO13:=owns_keep hO12 he13 (Nat.zero_le _)
    have hl:((stL c.fs).take i).length=i:=by rw [List.length_take];omega
    refine L.o (O.appendF (size:=4) (bytes:=32) runUnderlying280 Tryz.infoOf277 rfl rfl rfl rfl (by decide) rfl rfl hO13 (show s'.cells.length=1*4 from rfl) hB13.row (st_one _) (by omega) (by simp only [maxLen];omega) (by have:=he13.size;omega) (fun v14 w14 hO14 hG14 hF14=>?_))
    have hown:=fun j hj=>own_at hO13 (j:=j) hj
    have h914:Blk w14 b9 [q] tq:=Blk.grownN (Blk.ext (cs:=[q]) h911 (he12.trans he13)) hG14 (fun j hj=>by have:=(hown j hj).1;omega)
    have hE14:EF w c b1 b2 b3 w9.heap.size [D] w14:=(hE12.ext he13).grown hO13 hG14 (by omega) (by omega) (by omega) (by omega) (by omega) (by simp;omega)
    have hone14:v14.oneCell'=true:=Sl.one (Sl.of_owns hO14)
    refine L.o (O.store1 sizeOf280 hone14 rfl rfl h914 (by simp [Value.cells]) (fun w15 hu15 hB15=>?_))
    have hz13:=he13.size
    have hz14:=hG14.size
    have hz15:=hu15.size
    have hnx:∀ b,v14.ownBlock=some b→¬ S b:=fun b hb hSb=>by
     rcases hF14 b hb with h|h
     ·exact hq11 b h hSb
     ·have:=(hS12 b hSb).2;omega
    refine L.nil (T.blk (T.roundEnd ⟨⟨fun k hk=>⟨(hS11 k hk).1,by have:=(hS12 k hk).2;omega⟩,by omega,hE14.upd hu15 (by omega) (by omega) (by omega) (by omega) (by omega) (by simp;omega),⟨v14,hB15,?_,hnx⟩,fun k hk=>?_⟩,fun k hk=>?_⟩))
    ·rw [take_snoc hi,hs,scells_snoc,List.length_append]
     exact owns_loc (q:=.slice (some ⟨b9,0,none⟩) 0 0) hO14 (Loc.of_upd hu15 rfl) (fun j hj e=>by have e':b9=j:=Option.some.inj e;have:=(own_at hO14 hj).1;omega)
    ·by_cases e:k=i
     ·subst e;rw [hcb,decide_eq_false (by omega)]
     ·exact hk11 k (by omega)
    ·rw [hu15.block k (by have:=(hS11 k hk).1;omega),hG14.block k (by have:=(hS12 k hk).2;omega) (fun e=>hq11 k e.symm hk),he13.block k (Nat.zero_le _) (hS12 k hk).2,hK12 k hk]
  ·rintro S2 D2 w11 hD2 hS02 hSD2 ⟨hS11,hm11,hE11,_,hcr⟩ hD11
   have ho11:Opn [D2,D] w11:=hE11.o.cons hD11 (by simp;omega)
   have hD2l:=ho11.lt D2 (by simp)
   refine T.blk (T.q (L.o (O.makeFunc (fi:=[]) (ca:=[.tmp 1]) rfl rfl (L.o (O.alloc zeroValue284 (fun b12 w12 hb12 hz12 he12 hB12=>?_))))))
   refine L.o (O.store1 sizeOf284 rfl rfl rfl hB12 (by simp [Value.cells]) (fun w13 hu13 hB13=>?_))
   have hE12:EF w c b1 b2 b3 w9.heap.size [D2,D] w12:=EF.ext ⟨hE11.e,hE11.c1,hE11.c2,hE11.c3,hE11.ci,ho11⟩ he12
   have hE13:=hE12.upd hu13 (by omega) (by omega) (by omega) (by omega) (by omega) (by simp;omega)
   obtain ⟨tf,hB13⟩:∃ t,Blk w13 b12 [.func (.func 213) #[] #[.pointer (some ⟨b1,0,none⟩)]] t:=⟨_,hB13⟩
   have hz13:=hu13.size
   refine L.nil (T.seq (T.q (L.o (O.loadAgg isAgg46 sizeOf46 rfl rfl hE13.c1.row (L.o (O.call (xs:=[.tmp 47]) call209 rfl rfl (steps_calls c w13) (fun v14 w14 hq=>?_)))))))
   obtain ⟨rfl,he14,hBe14⟩:=hq
   have hz14:=hBe14.lt
   have hE14:EF w c b1 b2 b3 w13.heap.size [D2,D] w14:=⟨(hE13.ext he14).e,(hE13.ext he14).c1,(hE13.ext he14).c2,(hE13.ext he14).c3,hBe14,hE13.o.ext he14⟩
   have h12:=Blk.ext (cs:=[.func (.func 213) #[] #[.pointer (some ⟨b1,0,none⟩)]]) hB13 he14
   refine L.nil (T.block (?_))
   refine T.rangeFuncM (e1:=fun v x=>[(1,.pointer (some ⟨b1,0,none⟩)),(2,.pointer (some ⟨b2,0,none⟩)),(3,.pointer (some ⟨b3,0,none⟩)),(8,.pointer (some ⟨b12,0,none⟩)),(9,.pointer (some ⟨x,0,none⟩))]) (LJ w14.heap.size (fun i _ W=>EF w c b1 b2 b3 w13.heap.size [D2,D] W∧Blk W b12 [.func (.func 213) #[] #[.pointer (some ⟨b1,0,none⟩)]] tf∧∀ k,k<i→holeBad c.ps c.fs ((stL c.fs).getD k st0)=false)) (fun c' S w'=>c' = .ret∧EX (∃ i,i<(stL c.fs).length∧holeBad c.ps c.fs ((stL c.fs).getD i st0)=true) w b2 b3 9 w14.heap.size [D2,D] S w') (fun v x w'=>∃ s:St,v=s.val∧Blk w' x s.cells 277) rfl call245 rfl (steps_seq w13.heap.size lo c hx) ?_ ?_ ?_ ?_ ?_ ?_ ?_ ?_ ?_ ?_ ?_
   ·refine LJ.stab ?_ ?_
    ·rintro i S S' W W' _ ⟨h1,h2,h3⟩ he _
     exact ⟨h1.ext he,Blk.ext (cs:=[.func (.func 213) #[] #[.pointer (some ⟨b1,0,none⟩)]]) h2 he,h3⟩
    ·rintro i S W W' b ⟨h1,h2,h3⟩ _ hmb hu
     exact ⟨h1.upd hu (by omega) (by omega) (by omega) (by omega) (by omega) (by simp;omega),Blk.upd h2 hu (by omega),h3⟩
   ·exact fun c' S W W' b h hb hu=>⟨h.1,h.2.upd hb hu (by omega) (by omega) (by omega) (by simp;try omega)⟩
   ·exact fun i S W h=>⟨hc.ext h.2.2.1.e,h.2.2.1.ci⟩
   ·exact LJ.start ⟨hE14,h12,fun k hk=>absurd hk (Nat.not_lt_zero _)⟩
   ·exact fun k hk=>hk.elim
   ·exact fun W hW=>trivial
   ·rintro v x W W' b' ⟨s,h1,h2⟩ hne hu
    exact ⟨s,h1,h2.upd hu (Ne.symm hne)⟩
   ·intro l Q i j v k W hn hK
    obtain ⟨hi,rfl,_⟩:=hn
    refine T.region (L.o (O.alloc zeroValue277 (fun b58 w58 hb58 hz58 he58 hB58=>?_)))
    refine L.o (O.storeAgg sizeOf277 rfl rfl rfl hB58 (Nat.le_refl _) (st_one _) (fun w59 hu59 hB59=>?_))
    refine L.nil (T.sub ?_ (hK b58 _ (by omega) (he58.upd hu59 (.inr (by omega))) ⟨_,rfl,hB59⟩))
    exact ⟨rfl,rfl,rfl,rfl,rfl,trivial⟩
   ·rintro l i v x j S w15 ⟨hi,rfl,rfl⟩ ⟨hS15,hm15,hE15,h125,hk15⟩ ⟨s',hv,hBx⟩
    obtain ⟨s,hs⟩:∃ s,(stL c.fs).getD i st0=s:=⟨_,rfl⟩
    rw [hs] at hv
    have hss:=st_inj hv
    subst hss
    have hsm:s'∈stL c.fs:=by rw [← hs,getD_get hi];exact List.getElem_mem hi
    obtain ⟨hsf,hsr⟩:=stL_mem hsm
    have hc15:=hc.ext hE15.e
    refine T.block (T.seq (T.q (L.o (O.fieldAddr runUnderlying277 rfl sizeOf3 rfl (L.o (O.load isAgg3 rfl (hBx.cell rfl) (L.o (O.eql_s rfl rfl (fun hr0=>?_) (fun hr0=>?_)))))))))
    ·refine L.nil (T.ct (T.exit rfl (T.roundEnd ⟨⟨hS15,hm15,hE15,h125,fun k hk=>?_⟩,fun k hk=>rfl⟩)))
     ·by_cases e:k=i
      ·subst e;rw [hs,holeBad,decide_eq_false (by omega),Bool.false_and]
      ·exact hk15 k (by omega)
    ·refine L.nil (?_)
     have hfm:c.fs.getD s'.f f0∈c.fs:=by rw [getD_get hsf];exact List.getElem_mem hsf
     have hfo:=hc15.at hsf
     obtain ⟨hn,hri⟩:=hx _ hfm
     have hrl:(c.fs.getD s'.f f0).ri.length=(c.fs.getD s'.f f0).hs.length+1:=rfl
     refine T.cf (T.skip (T.q (L.o (O.fieldAddr runUnderlying46 rfl sizeOf44 rfl (L.o (O.load isAgg44 rfl (hE15.c1.cell rfl) (L.o (O.fieldAddr runUnderlying277 rfl sizeOf3 rfl (L.o (O.load isAgg3 rfl (hBx.cell rfl) (L.o (O.indexAddr runUnderlying44 sizeOf127 rfl rfl hc15.sl (by omega) (by omega) (L.o (O.loadAgg isAgg127 sizeOf127 rfl rfl (hc15.row hsf) (L.o (O.alloc zeroValue127 (fun b16 w16 hb16 hz16 he16 hB16=>?_)))))))))))))))))
     refine L.o (O.storeAgg sizeOf127 rfl rfl rfl hB16 (Nat.le_refl _) (fa_one hfo) (fun w17 hu17 hB17=>?_))
     have hF17:Blk w17 b16 (c.fs.getD s'.f f0).cells 127:=hB17
     have he1517:Ext w15 w17:=he16.upd hu17 (.inr (by omega))
     have hfo17:=hfo.ext he1517
     have hBx17:=Blk.ext (cs:=s'.cells) hBx he1517
     have hz17:=hu17.size
     refine L.nil (T.seq (?_))
     refine T.anyE mixed 8 [10,9] rfl [.is _,.is _,.such (OwnR w17.heap.size (riCells (c.fs.getD s'.f f0).hs)),.is _,.is _,.is _,.is _,.is _] [[],[0],[1],[],[3],[4],[],[6]] [[],[0],[0,1],[],[3],[3,4],[],[6],[0,1,2,3,4,5,6,7],[0,1,2,3,4,5,6,7,8],[0,1,2,3,4,5,6,7,8,9]] (by kernel_rfl) (by kernel_rfl) rfl (by kernel_rfl) ⟨OwnR.st,trivial⟩ ⟨fun wx hx=>Ob.o (O.fieldAddr runUnderlying127 rfl sizeOf125 rfl kR),
       fun wx hx=>Ob.o (O.load isAgg125 rfl ((Blk.ext (cs:=(c.fs.getD s'.f f0).cells) hF17 hx).cell rfl) kR),
       fun wx hx=>Ob.o (O.call (xs:=[.tmp 60]) call215 rfl rfl (cloneR_calls lo (c.fs.getD s'.f f0).hv (riCells (c.fs.getD s'.f f0).hs) wx (by rw [ri_len];exact (hfo17.ext hx).sl) (fun u hu ↦ by rw [riCells,List.mem_map] at hu;obtain ⟨y,hy,rfl⟩:=hu;exact Sl.one (hfo17.hs y hy)) (by rw [ri_len];exact hn)) (fun v wy h=>⟨h.1,h.2.mono hx.size⟩)),
       fun wx hx=>Ob.o (O.fieldAddr runUnderlying277 rfl sizeOf3 rfl kR),
       fun wx hx=>Ob.o (O.load isAgg3 rfl ((Blk.ext (cs:=s'.cells) hBx17 hx).cell rfl) kR),
       fun wx hx=>Ob.o (O.sub64 rfl rfl (by omega) kR),
       fun wx hx=>Ob.o (O.fieldAddr runUnderlying277 rfl sizeOf3 rfl kR),
       fun wx hx=>Ob.o (O.load isAgg3 rfl ((Blk.ext (cs:=s'.cells) hBx17 hx).cell rfl) kR),
       trivial⟩ (fun w18 he18 v61 hv61=>?_)
     refine L.o (O.call (xs:=[.tmp 61,.tmp 64,.tmp 66]) call214 rfl rfl (deleteR_calls w17.heap.size (s'.r-1) _ _ v61 (riCells (c.fs.getD s'.f f0).hs) w18 hv61 (fun u hu ↦ by rw [riCells,List.mem_map] at hu;obtain ⟨y,hy,rfl⟩:=hu;exact Sl.one (hfo17.hs y hy)) (by rw [ri_len];omega) (by rw [ri_len];exact hn) (by omega) (by omega)) (fun v19 w19 hq=>?_))
     obtain ⟨hL19,hO19⟩:=hq
     have hown:∀ b,v61.ownBlock=some b→w17.heap.size≤b:=fun b hb=>(own_at hv61 hb).1
     have he1719:Ext w17 w19:=hL19.keep he18 hown
     obtain ⟨f',hf'⟩:∃ f':FaV,f'=⟨(c.fs.getD s'.f f0).o,v19,(c.fs.getD s'.f f0).hs.eraseIdx (s'.r-1)⟩:=⟨_,rfl⟩
     refine L.o (O.fieldAddr runUnderlying127 rfl sizeOf125 rfl (L.o (O.store1_at sizeOf125 (Sl.one (Sl.of_owns hO19)) rfl rfl (Blk.ext (cs:=(c.fs.getD s'.f f0).cells) hF17 he1719) (by show 0+1<2;omega) (fun w20 hu20 hB20=>?_))))
     have hF20:Blk w20 b16 f'.cells 127:=by rw [hf'];exact hB20
     have hz1719:=he1719.size
     have hu20':Ext w15 w20:=(he1517.trans he1719).upd hu20 (.inr (by omega))
     have hlen19:(c.fs.getD s'.f f0).hs.length-1=((c.fs.getD s'.f f0).hs.eraseIdx (s'.r-1)).length:=by rw [List.length_eraseIdx,if_pos (by omega)]
     have hO20:=owns_loc (q:=.slice (some ⟨b16,0,none⟩) 0 0) hO19 (Loc.of_upd hu20 rfl) (fun j hj e=>by have e':b16=j:=Option.some.inj e;have:=(own_at hO19 hj).1;omega)
     have hfok:f'.ok 0 w20:=by
      subst hf'
      refine ⟨((hfo.ext hu20').o).mono (Nat.zero_le _),?_,fun y hy=>((hfo.ext hu20').hs y (List.mem_of_mem_eraseIdx hy)).mono (Nat.zero_le _)⟩
      have h:=(Sl.of_owns hO20).mono (Nat.zero_le _)
      rw [ri_len,hlen19,← ri_erase] at h
      exact h
     have hE20:=hE15.ext hu20'
     have hBx20:=Blk.ext (cs:=s'.cells) hBx hu20'
     have h1220:=Blk.ext (cs:=[.func (.func 213) #[] #[.pointer (some ⟨b1,0,none⟩)]]) h125 hu20'
     have hc20:=hc.ext hE20.e
     refine L.nil (T.seq (?_))
     refine T.anyE mixed 5 [1,10,8,9] rfl [.is _,.is _,.is _,.is _,.is (pV (midP c.ps s'))] [[],[],[],[],[2,3]] [[],[],[],[],[2,3],[0,1,2,3,4],[0,1,2,3,4,5]] (by kernel_rfl) (by kernel_rfl) rfl (by kernel_rfl) trivial ⟨fun wx hx=>Ob.o (O.loadAgg isAgg46 sizeOf46 rfl rfl ((Blk.ext (cs:=c.cells) hE20.c1 hx).row) kR),
       fun wx hx=>Ob.o (O.loadAgg isAgg127 sizeOf127 rfl rfl ((Blk.ext (cs:=f'.cells) hF20 hx).row) kR),
       fun wx hx=>Ob.o (O.load isAgg284 rfl ((Blk.ext (cs:=[.func (.func 213) #[] #[.pointer (some ⟨b1,0,none⟩)]]) h1220 hx).cell rfl) kR),
       fun wx hx=>Ob.o (O.loadAgg isAgg277 sizeOf277 rfl rfl ((Blk.ext (cs:=s'.cells) hBx20 hx).row) kR),
       fun wx hx=>Ob.o (O.call (xs:=[.tmp 72]) call213 rfl rfl (middle_calls lo b1 c s' wx (Blk.ext (cs:=c.cells) hE20.c1 hx) (hc20.p.ext hx) hf (hst _ hsm)) (fun v wy h=>⟨h.2,h.1⟩)),
       trivial⟩ (fun w21 he21=>?_)
     have hro:RiOk c.ps.length f'.o:=by subst hf';exact hri _ (by simp [FaV.ri])
     have hrh:∀ h∈f'.hs,RiOk c.ps.length h:=by subst hf';exact fun y hy=>hri y (by simp only [FaV.ri,List.mem_cons];exact .inr (List.mem_of_mem_eraseIdx hy))
     refine L.o (O.call (xs:=[.tmp 69,.tmp 70,.tmp 73,.const (.int .i64 2)]) call216 rfl rfl (within3_calls lo 0 c f' (midP c.ps s') 2 w21 (hc20.p.ext he21) (hfok.ext he21) hf (.inr rfl) hro hrh (mid_nr hf (hst _ hsm))) (fun v22 w22 hq=>?_))
     obtain ⟨hv22,he22⟩:=hq
     have heA:Ext w15 w22:=hu20'.trans (he21.trans he22)
     have hE22:=hE15.ext heA
     have hBx22:=Blk.ext (cs:=s'.cells) hBx heA
     have hS22:∀ k,S k→w14.heap.size≤k∧k<w22.heap.size:=fun k hk=>⟨(hS15 k hk).1,Nat.lt_of_lt_of_le (hS15 k hk).2 heA.size⟩
     have hK22:∀ k,S k→w22.heap[k]?=w15.heap[k]?:=fun k hk=>heA.block k (Nat.zero_le _) (hS15 k hk).2
     have hhb:holeBad c.ps c.fs s' = !withinB c.ps 2 f' (midP c.ps s'):=by
      subst hf'
      rw [holeBad,decide_eq_true (by omega),Bool.true_and];rfl
     rcases hw:withinB c.ps 2 f' (midP c.ps s') with _|_
     ·rw [hw] at hv22
      subst hv22
      refine L.o (O.not rfl (L.nil (T.ct (T.seq (?_)))))
      refine T.any mixed 3 1 [9,2] rfl [.is _,.is _,.is undef] [[],[0],[]] [none,none,some 0] [[],[0],[],[0,1,2]] (PutI w22 b2 (.int .i64 9)) (fun _ _=>True) (by kernel_rfl) (by kernel_rfl) (by kernel_rfl) rfl trivial (Keep.drew _ _) ⟨fun c wx hx=>ObK.op rfl (O.fieldAddr runUnderlying277 rfl sizeOf3 rfl ⟨⟨trivial,hx⟩,rfl⟩),
        fun c wx hx=>ObK.op rfl (O.load isAgg3 rfl ((hx.blk hBx22 (gblk_ne hBx22 hE22.c2 (by decide))).cell rfl) ⟨⟨trivial,hx⟩,rfl⟩),
        fun wx hx=>ObK.op rfl (O.store1 sizeOf3 rfl rfl rfl (Blk.ext (cs:=[.int .i64 0]) hE22.c2 hx) (by simp [Value.cells]) (fun w24 hu24 hB24=>⟨⟨trivial,_,hx,hu24,hB24⟩,rfl⟩)),
        trivial⟩ (fun w23 hI23=>?_)
      obtain ⟨W1,hE,hU,hC⟩:=hI23
      refine L.o (O.store1 sizeOf3 rfl rfl rfl (Blk.upd (cs:=[.int .i64 0]) (Blk.ext (cs:=[.int .i64 0]) hE22.c3 hE) hU (by omega)) (by simp [Value.cells]) (fun w24 hu24 hB24=>?_))
      have hd:=Done2.of hE hU hC hu24 hB24 (by omega)
      refine L.nil (T.roundRet ⟨⟨rfl,EX.of ⟨i,hi,by rw [hs,hhb,hw];rfl⟩ hE22 hS22 hd⟩,fun k hk=>(hd.keepS hS22 (by omega) (by omega) k hk).trans (hK22 k hk)⟩)
     ·rw [hw] at hv22
      subst hv22
      refine L.o (O.not rfl (L.nil (T.cf (T.skip (T.blk (T.roundEnd ⟨⟨hS22,Nat.le_trans hm15 heA.size,hE22,Blk.ext (cs:=[.func (.func 213) #[] #[.pointer (some ⟨b1,0,none⟩)]]) h125 heA,fun k hk=>?_⟩,hK22⟩))))))
      ·by_cases e:k=i
       ·subst e;rw [hs,hhb,hw];rfl
       ·exact hk15 k (by omega)
   ·rintro S3 D3 w15 hD3 hS03 hSD3 ⟨hS15,hm15,hE15,h125,hho⟩ hD15
    have ho15:Opn [D3,D2,D] w15:=hE15.o.cons hD15 (by simp;omega)
    have hD3l:=ho15.lt D3 (by simp)
    refine T.blk (T.seq (T.q (L.o (O.loadAgg isAgg46 sizeOf46 rfl rfl hE15.c1.row (L.o (O.call (xs:=[.tmp 78]) call209 rfl rfl (steps_calls c w15) (fun v16 w16 hq=>?_)))))))
    obtain ⟨rfl,he16,hBe16⟩:=hq
    have hz16:=hBe16.lt
    have hE16:EF w c b1 b2 b3 w15.heap.size [D3,D2,D] w16:=⟨(hE15.ext he16).e,(hE15.ext he16).c1,(hE15.ext he16).c2,(hE15.ext he16).c3,hBe16,ho15.ext he16⟩
    have h126:=Blk.ext (cs:=[.func (.func 213) #[] #[.pointer (some ⟨b1,0,none⟩)]]) h125 he16
    refine L.nil (T.block (?_))
    refine T.rangeFuncM (e1:=fun v x=>[(1,.pointer (some ⟨b1,0,none⟩)),(2,.pointer (some ⟨b2,0,none⟩)),(3,.pointer (some ⟨b3,0,none⟩)),(8,.pointer (some ⟨b12,0,none⟩)),(11,.pointer (some ⟨x,0,none⟩))]) (LJ w16.heap.size (fun i _ W=>EF w c b1 b2 b3 w15.heap.size [D3,D2,D] W∧Blk W b12 [.func (.func 213) #[] #[.pointer (some ⟨b1,0,none⟩)]] tf∧∀ k,k<i→overBad c.ps c.fs ((stL c.fs).getD k st0)=false)) (fun c' S w'=>c' = .ret∧EX (∃ i,i<(stL c.fs).length∧overBad c.ps c.fs ((stL c.fs).getD i st0)=true) w b2 b3 10 w16.heap.size [D3,D2,D] S w') (fun v x w'=>∃ s:St,v=s.val∧Blk w' x s.cells 277) rfl call245 rfl (steps_seq w15.heap.size lo c hx) ?_ ?_ ?_ ?_ ?_ ?_ ?_ ?_ ?_ ?_ ?_
    ·refine LJ.stab ?_ ?_
     ·rintro i S S' W W' _ ⟨h1,h2,h3⟩ he _
      exact ⟨h1.ext he,Blk.ext (cs:=[.func (.func 213) #[] #[.pointer (some ⟨b1,0,none⟩)]]) h2 he,h3⟩
     ·rintro i S W W' b ⟨h1,h2,h3⟩ _ hmb hu
      exact ⟨h1.upd hu (by omega) (by omega) (by omega) (by omega) (by omega) (by simp;omega),Blk.upd h2 hu (by omega),h3⟩
    ·exact fun c' S W W' b h hb hu=>⟨h.1,h.2.upd hb hu (by omega) (by omega) (by omega) (by simp;try omega)⟩
    ·exact fun i S W h=>⟨hc.ext h.2.2.1.e,h.2.2.1.ci⟩
    ·exact LJ.start ⟨hE16,h126,fun k hk=>absurd hk (Nat.not_lt_zero _)⟩
    ·exact fun k hk=>hk.elim
    ·exact fun W hW=>trivial
    ·rintro v x W W' b' ⟨s,h1,h2⟩ hne hu
     exact ⟨s,h1,h2.upd hu (Ne.symm hne)⟩
    ·intro l Q i j v k W hn hK
     obtain ⟨hi,rfl,_⟩:=hn
     refine T.region (L.o (O.alloc zeroValue277 (fun b58 w58 hb58 hz58 he58 hB58=>?_)))
     refine L.o (O.storeAgg sizeOf277 rfl rfl rfl hB58 (Nat.le_refl _) (st_one _) (fun w59 hu59 hB59=>?_))
     refine L.nil (T.sub ?_ (hK b58 _ (by omega) (he58.upd hu59 (.inr (by omega))) ⟨_,rfl,hB59⟩))
     exact ⟨rfl,rfl,rfl,rfl,rfl,trivial⟩
    ·rintro l i v x j S w17 ⟨hi,rfl,rfl⟩ ⟨hS17,hm17,hE17,h127,hk17⟩ ⟨s',hv,hBx⟩
     obtain ⟨s,hs⟩:∃ s,(stL c.fs).getD i st0=s:=⟨_,rfl⟩
     rw [hs] at hv
     have hss:=st_inj hv
     subst hss
     have hsm:s'∈stL c.fs:=by rw [← hs,getD_get hi];exact List.getElem_mem hi
     have hc17:=hc.ext hE17.e
     have hle:=Sl.le hc17.sl
     refine T.block (T.q (L.o (O.fieldAddr runUnderlying46 rfl sizeOf44 rfl (L.o (O.load isAgg44 rfl (hE17.c1.cell rfl) (L.o (O.len runUnderlying44 rfl (Sl.val hc17.sl) (L.m rfl (L.nil (T.block (?_)))))))))))
     refine T.loop (σ:=Nat) (fun n=>[(1,.pointer (some ⟨b1,0,none⟩)),(2,.pointer (some ⟨b2,0,none⟩)),(3,.pointer (some ⟨b3,0,none⟩)),(8,.pointer (some ⟨b12,0,none⟩)),(11,.pointer (some ⟨x,0,none⟩)),(82,c.fv),(83,.int .i64 c.fs.length),(84,.int .i64 n)]) (fun n w'=>n≤c.fs.length∧Ext w17 w'∧∀ k,k<n→overOne c.ps c.fs s' k=false) (fun n=>c.fs.length-n) (0) ⟨rfl,rfl,rfl,rfl,rfl,rfl,rfl,rfl,trivial⟩ ⟨Nat.zero_le _,Keep.refl _ _,fun k hk=>absurd hk (Nat.not_lt_zero _)⟩ ?_
     rintro n w18 ⟨hn,he18,hov⟩
     have hE18:=hE17.ext he18
     have hBx18:=Blk.ext (cs:=s'.cells) hBx he18
     have h1218:=Blk.ext (cs:=[.func (.func 213) #[] #[.pointer (some ⟨b1,0,none⟩)]]) h127 he18
     have hc18:=hc.ext hE18.e
     refine T.q (L.o (O.lss_s rfl rfl (fun hlt=>?_) (fun hlt=>?_)))
     ·refine L.nil (?_)
      have hlt':n<c.fs.length:=by omega
      have hfm:c.fs.getD n f0∈c.fs:=by rw [getD_get hlt'];exact List.getElem_mem hlt'
      have hfo:=hc18.at hlt'
      obtain ⟨_,hri⟩:=hx _ hfm
      refine T.seq (T.ct (T.skip (T.seq (T.block (T.q (L.m rfl (L.o (O.indexAddr runUnderlying44 sizeOf127 rfl rfl hc18.sl (by omega) (by omega) (L.o (O.loadAgg isAgg127 sizeOf127 rfl rfl (hc18.row hlt') (L.o (O.alloc zeroValue127 (fun b19 w19 hb19 hz19 he19 hB19=>?_)))))))))))))
      refine L.a rfl (L.o (O.storeAgg sizeOf127 rfl rfl rfl hB19 (Nat.le_refl _) (fa_one hfo) (fun w20 hu20 hB20=>?_)))
      have hF20:Blk w20 b19 (c.fs.getD n f0).cells 127:=hB20
      have he1820:Ext w18 w20:=he19.upd hu20 (.inr (by omega))
      have hE20:=hE18.ext he1820
      have hBx20:=Blk.ext (cs:=s'.cells) hBx18 he1820
      have h1220:=Blk.ext (cs:=[.func (.func 213) #[] #[.pointer (some ⟨b1,0,none⟩)]]) h1218 he1820
      have hc20:=hc.ext hE20.e
      have hfo20:=hfo.ext he1820
      by_cases hne:n=s'.f
      ·refine L.nil (T.seq (?_))
       refine T.anyE mixed 10 [12,11,1,13,8] rfl [.is _,.is _,.is _,.is _,.is _,.is undef,.is undef,.is undef,.is undef,.is undef] [[],[],[1],[0,2],[3],[4],[4],[4],[4],[7,8,4]] [[],[],[1],[0,1,2],[0,1,2,3],[0,1,2,3,4],[0,1,2,3,4],[0,1,2,3,4],[0,1,2,3,4],[0,1,2,3,4,7,8],[0,1,2,3,4,5,6,7,8,9],[0,1,2,3,4,5,6,7,8,9,10]] (by kernel_rfl) (by kernel_rfl) rfl (by kernel_rfl) trivial ⟨fun wx hx=>Ob.o (O.move rfl kR),
         fun wx hx=>Ob.o (O.fieldAddr runUnderlying277 rfl sizeOf3 rfl kR),
         fun wx hx=>Ob.o (O.load isAgg3 rfl ((Blk.ext (cs:=s'.cells) hBx20 hx).cell rfl) kR),
         fun wx hx=>Ob.o (O.neq_f rfl rfl (by omega) kR),
         fun wx hx=>Ob.o (O.move rfl kR),
         fun wx hx=>Ob.pass rfl rfl,
         fun wx hx=>Ob.pass rfl rfl,
         fun wx hx=>Ob.pass rfl rfl,
         fun wx hx=>Ob.pass rfl rfl,
         fun wx hx=>Ob.pass rfl rfl,
         trivial⟩ (fun w21 he21=>?_)
       have heA:Ext w17 w21:=he18.trans (he1820.trans he21)
       refine L.p (L.o (O.pick_false rfl rfl (L.nil (T.cf (T.skip (T.blk (T.region (L.o (O.add64 rfl rfl (by omega) (L.m rfl (L.nil (T.again (n+1) (by omega) ⟨rfl,rfl,rfl,rfl,rfl,rfl,rfl,rfl,trivial⟩ ⟨hlt',heA,fun k hk=>?_⟩))))))))))))
       ·by_cases e:k=n
        ·subst e;rw [overOne,decide_eq_false (by omega),Bool.false_and]
        ·exact hov k (by omega)
      ·refine L.nil (T.seq (?_))
       refine T.anyE mixed 10 [12,11,1,13,8] rfl [.is _,.is _,.is _,.is _,.is _,.is _,.is _,.is _,.is _,.is (pV (midP c.ps s'))] [[],[],[1],[0,2],[3],[4],[4],[4],[4],[7,8,4]] [[],[],[1],[0,1,2],[0,1,2,3],[0,1,2,3,4],[0,1,2,3,4],[0,1,2,3,4],[0,1,2,3,4],[0,1,2,3,4,7,8],[0,1,2,3,4,5,6,7,8,9],[0,1,2,3,4,5,6,7,8,9,10]] (by kernel_rfl) (by kernel_rfl) rfl (by kernel_rfl) trivial ⟨fun wx hx=>Ob.o (O.move rfl kR),
         fun wx hx=>Ob.o (O.fieldAddr runUnderlying277 rfl sizeOf3 rfl kR),
         fun wx hx=>Ob.o (O.load isAgg3 rfl ((Blk.ext (cs:=s'.cells) hBx20 hx).cell rfl) kR),
         fun wx hx=>Ob.o (O.neq_t rfl rfl (by omega) kR),
         fun wx hx=>Ob.o (O.move rfl kR),
         fun wx hx=>Ob.o (O.loadAgg isAgg46 sizeOf46 rfl rfl ((Blk.ext (cs:=c.cells) hE20.c1 hx).row) kR),
         fun wx hx=>Ob.o (O.loadAgg isAgg127 sizeOf127 rfl rfl ((Blk.ext (cs:=(c.fs.getD n f0).cells) hF20 hx).row) kR),
         fun wx hx=>Ob.o (O.load isAgg284 rfl ((Blk.ext (cs:=[.func (.func 213) #[] #[.pointer (some ⟨b1,0,none⟩)]]) h1220 hx).cell rfl) kR),
         fun wx hx=>Ob.o (O.loadAgg isAgg277 sizeOf277 rfl rfl ((Blk.ext (cs:=s'.cells) hBx20 hx).row) kR),
         fun wx hx=>Ob.o (O.call (xs:=[.tmp 97]) call213 rfl rfl (middle_calls lo b1 c s' wx (Blk.ext (cs:=c.cells) hE20.c1 hx) (hc20.p.ext hx) hf (hst _ hsm)) (fun v wy h=>⟨h.2,h.1⟩)),
         trivial⟩ (fun w21 he21=>?_)
       have hro:RiOk c.ps.length (c.fs.getD n f0).o:=hri _ (by simp [FaV.ri])
       have hrh:∀ h∈(c.fs.getD n f0).hs,RiOk c.ps.length h:=fun y hy=>hri y (by simp only [FaV.ri,List.mem_cons];exact .inr hy)
       refine L.o (O.call (xs:=[.tmp 94,.tmp 95,.tmp 98,.const (.int .i64 2)]) call216 rfl rfl (within3_calls lo lo c (c.fs.getD n f0) (midP c.ps s') 2 w21 (hc20.p.ext he21) (hfo20.ext he21) hf (.inr rfl) hro hrh (mid_nr hf (hst _ hsm))) (fun v22 w22 hq=>?_))
       obtain ⟨hv22,he22⟩:=hq
       have heA:Ext w17 w22:=he18.trans (he1820.trans (he21.trans he22))
       have hE22:=hE17.ext heA
       have hBx22:=Blk.ext (cs:=s'.cells) hBx heA
       have hS22:∀ k,S k→w16.heap.size≤k∧k<w22.heap.size:=fun k hk=>⟨(hS17 k hk).1,Nat.lt_of_lt_of_le (hS17 k hk).2 heA.size⟩
       have hK22:∀ k,S k→w22.heap[k]?=w17.heap[k]?:=fun k hk=>heA.block k (Nat.zero_le _) (hS17 k hk).2
       have hov1:overOne c.ps c.fs s' n=withinB c.ps 2 (c.fs.getD n f0) (midP c.ps s'):=by rw [overOne,decide_eq_true hne,Bool.true_and]
       rcases hw:withinB c.ps 2 (c.fs.getD n f0) (midP c.ps s') with _|_
       ·rw [hw] at hv22
        subst hv22
        refine L.o (O.pick_true rfl rfl (L.nil (T.cf (T.skip (T.blk (T.region (L.o (O.add64 rfl rfl (by omega) (L.m rfl (L.nil (T.again (n+1) (by omega) ⟨rfl,rfl,rfl,rfl,rfl,rfl,rfl,rfl,trivial⟩ ⟨hlt',heA,fun k hk=>?_⟩)))))))))))
        ·by_cases e:k=n
         ·subst e;rw [hov1,hw]
         ·exact hov k (by omega)
       ·rw [hw] at hv22
        subst hv22
        refine L.o (O.pick_true rfl rfl (L.nil (T.ct (T.seq (?_)))))
        refine T.any mixed 3 1 [11,2] rfl [.is _,.is _,.is undef] [[],[0],[]] [none,none,some 0] [[],[0],[],[0,1,2]] (PutI w22 b2 (.int .i64 10)) (fun _ _=>True) (by kernel_rfl) (by kernel_rfl) (by kernel_rfl) rfl trivial (Keep.drew _ _) ⟨fun c wx hx=>ObK.op rfl (O.fieldAddr runUnderlying277 rfl sizeOf3 rfl ⟨⟨trivial,hx⟩,rfl⟩),
          fun c wx hx=>ObK.op rfl (O.load isAgg3 rfl ((hx.blk hBx22 (gblk_ne hBx22 hE22.c2 (by decide))).cell rfl) ⟨⟨trivial,hx⟩,rfl⟩),
          fun wx hx=>ObK.op rfl (O.store1 sizeOf3 rfl rfl rfl (Blk.ext (cs:=[.int .i64 0]) hE22.c2 hx) (by simp [Value.cells]) (fun w24 hu24 hB24=>⟨⟨trivial,_,hx,hu24,hB24⟩,rfl⟩)),
          trivial⟩ (fun w23 hI23=>?_)
        obtain ⟨W1,hE,hU,hC⟩:=hI23
        refine L.o (O.store1 sizeOf3 rfl rfl rfl (Blk.upd (cs:=[.int .i64 0]) (Blk.ext (cs:=[.int .i64 0]) hE22.c3 hE) hU (by omega)) (by simp [Value.cells]) (fun w24 hu24 hB24=>?_))
        have hd:=Done2.of hE hU hC hu24 hB24 (by omega)
        refine L.nil (T.roundRet ⟨⟨rfl,EX.of ⟨i,hi,by rw [hs];exact range_at hlt' (by rw [hov1,hw])⟩ hE22 hS22 hd⟩,fun k hk=>(hd.keepS hS22 (by omega) (by omega) k hk).trans (hK22 k hk)⟩)
     ·refine L.nil (?_)
      obtain rfl:n=c.fs.length:=by omega
      refine T.seq (T.cf (T.exit rfl (T.blk (T.roundEnd ⟨⟨fun k hk=>⟨(hS17 k hk).1,Nat.lt_of_lt_of_le (hS17 k hk).2 he18.size⟩,Nat.le_trans hm17 he18.size,hE18,h1218,fun k hk=>?_⟩,fun k hk=>he18.block k (Nat.zero_le _) (hS17 k hk).2⟩))))
      ·by_cases e:k=i
       ·subst e;rw [hs];exact range_not hov
       ·exact hk17 k (by omega)
    ·rintro S4 D4 w17 hD4 hS04 hSD4 ⟨hS17,hm17,hE17,h127,hov⟩ hD17
     have ho17:Opn [D4,D3,D2,D] w17:=hE17.o.cons hD17 (by simp;omega)
     refine T.blk (T.q (L.o (O.store1 sizeOf3 rfl rfl rfl hE17.c2 (by simp [Value.cells]) (fun w18 hu18 hB18=>?_))))
     refine L.o (O.store1 sizeOf3 rfl rfl rfl (Blk.upd (cs:=[.int .i64 0]) hE17.c3 hu18 (by omega)) (by simp [Value.cells]) (fun w19 hu19 hB19=>?_))
     have hd:=Done2.of (Keep.refl 0 w17) hu18 hB18 hu19 hB19 (by omega)
     have ho19:Opn [D4,D3,D2,D] w19:=Opn.done ho17 hd hE17.c2 hE17.c3
     have hd0:=hd.from hE17.e
     refine L.nil (T.retC2 results189 isAgg3 isAgg3 rfl rfl ho19 (fun w' hs=>hd0.cells ho19 hs) (fun w' hs=>⟨0,0,rfl,by rw [good4 hn8 hcr hho hov];rfl,(hd0.ext (Keep.refl 0 w) (by omega) (by omega)).shut hs (fun r hr=>.inr (by simp at hr;omega))⟩))
    ·rintro c' SD4 D4 w17 hD4' hSD4 ⟨rfl,hB,hSS,hoS,a,hd⟩ hDS
     have ho:Opn (D4 :: [D3,D2,D]) w17:=hoS.cons hDS (by simp;try omega)
     refine T.retC2 results189 isAgg3 isAgg3 rfl rfl ho (fun w' hs=>hd.cells ho hs) (fun w' hs=>⟨10,a,rfl,by obtain ⟨i,h1,h2⟩:=hB;rw [bad4 h1 h2];rfl,(hd.ext (Keep.refl 0 w) (by omega) (by omega)).shut hs (fun r hr=>.inr (by simp at hr;omega))⟩)
   ·rintro c' SD3 D3 w15 hD3' hSD3 ⟨rfl,hB,hSS,hoS,a,hd⟩ hDS
    have ho:Opn (D3 :: [D2,D]) w15:=hoS.cons hDS (by simp;try omega)
    refine T.retC2 results189 isAgg3 isAgg3 rfl rfl ho (fun w' hs=>hd.cells ho hs) (fun w' hs=>⟨9,a,rfl,by obtain ⟨i,h1,h2⟩:=hB;rw [bad3 h1 h2];rfl,(hd.ext (Keep.refl 0 w) (by omega) (by omega)).shut hs (fun r hr=>.inr (by simp at hr;omega))⟩)
  ·rintro c' SD2 D2 w11 hD2' hSD2 ⟨rfl,hB,hSS,hoS,a,hd⟩ hDS
   have ho:Opn (D2 :: [D]) w11:=hoS.cons hDS (by simp;try omega)
   refine T.retC2 results189 isAgg3 isAgg3 rfl rfl ho (fun w' hs=>hd.cells ho hs) (fun w' hs=>⟨8,a,rfl,by obtain ⟨i,h1,h2⟩:=hB;rw [bad2 h1 h2];rfl,(hd.ext (Keep.refl 0 w) (by omega) (by omega)).shut hs (fun r hr=>.inr (by simp at hr;omega))⟩)
 ·rintro c' SD D w8 hD' hSD ⟨rfl,hB,hSS,hoS,a,hd⟩ hDS
  have ho:Opn (D :: []) w8:=hoS.cons hDS (by simp;try omega)
  refine T.retC2 results189 isAgg3 isAgg3 rfl rfl ho (fun w' hs=>hd.cells ho hs) (fun w' hs=>⟨7,a,rfl,by rw [bad1 hB];rfl,(hd.ext (Keep.refl 0 w) (by omega) (by omega)).shut hs (fun r hr=>.inr (by simp at hr;omega))⟩)

open Go Go.E

def cntBad (c:CxV):Bool:=decide (c.ps.length<3) || (decide (120<c.ps.length) || (decide (c.fs.length<1) || decide (64<c.fs.length)))
/-- Whether a complex has a flaw. -/
def cxBad (c:CxV):Bool :=
 cntBad c || (c.ps.any farB || (!decide c.ps.Nodup || (c.fs.any (faceIdx c.ps.length) || (c.fs.any (fun f=>anyB f.ri (badR c.ps)) || (c.fs.any (fun f=>anyB f.ri (turnBad c.ps)) || edgedBad c.ps c.fs)))))
theorem ring_still {r:List Pt} (h:¬ 0<ringK r):∀ i,i<r.length→¬ stillI r i:=fun i hi hs=>h (by
 rw [ringK]
 split
 ·decide
 ·rw [if_pos ⟨i,hi,hs⟩];decide)
theorem pre_bound {α:Type} (g:Nat→List α) (B:Nat):∀ n,(∀ k,k<n→(g k).length≤B)→(pre g n).length≤n*B
 | 0,_=>by simp [pre]
 | n+1,h=>by
  have ih:=pre_bound g B n (fun k hk=>h k (by omega))
  have:=h n (by omega)
  rw [pre_len,Nat.add_mul];omega
theorem stL_get {fs:List FaV} {s:St} (h:s∈stL fs):s.f<fs.length∧s.r<(fs.getD s.f f0).ri.length∧∃ i,i<((fs.getD s.f f0).ri.getD s.r r0).xs.length∧s.a=nI ((fs.getD s.f f0).ri.getD s.r r0).xs i∧s.b=nI ((fs.getD s.f f0).ri.getD s.r r0).xs ((i+1) % ((fs.getD s.f f0).ri.getD s.r r0).xs.length):=by
 simp only [stL,pre,gF,stF,gR,stR,List.mem_flatMap,List.mem_range,List.mem_map] at h
 obtain ⟨f,hf,r,hr,i,hi,rfl⟩:=h
 exact ⟨hf,hr,i,hi,rfl,rfl⟩
theorem cor_one {ps:List Pt} {l:List Int} {i:Nat} (hi:i<l.length):(cor ps 1 l).getD i (0,0)=gP ps (nI l i):=by
 rw [cor_get hi];simp only [corP,Int.one_mul,gP,nI]
structure FaceGood (ps:List Pt) (f:FaV):Prop where
 hn:f.hs.length≤8
 ix:∀ x∈f.ri,IxL ps.length x.xs∧3≤x.xs.length∧x.xs.length≤40
 rg:∀ x∈f.ri,ringBad ps x.xs=false
theorem FaceGood.ri {ps:List Pt} {f:FaV} (h:FaceGood ps f):∀ x∈f.ri,RiOk ps.length x:=fun x hx=>⟨(h.ix x hx).1,by have:=(h.ix x hx).2.2;omega⟩
theorem face_ix {n:Nat} {f:FaV} (h:faceIdx n f=false):f.hs.length≤8∧∀ x∈f.ri,IxL n x.xs∧3≤x.xs.length∧x.xs.length≤40:=by
 simp only [faceIdx,Bool.or_eq_false_iff,decide_eq_false_iff_not] at h
 refine ⟨by omega,fun x hx=>?_⟩
 obtain ⟨k,hk,rfl⟩:=List.getElem_of_mem hx
 have:=idx_good (any_none h.2 hk)
 rw [getD_get hk] at this
 exact this
theorem any_all {α:Type} {L:List α} {p:α→Bool} (h:L.any p=false):∀ x∈L,p x=false:=fun x hx=>by
 have:=List.any_eq_false.1 h x hx
 simpa using this
theorem good_of {ps:List Pt} {fs:List FaV} (h1:fs.any (faceIdx ps.length)=false) (h2:fs.any (fun f=>anyB f.ri (badR ps))=false):∀ f∈fs,FaceGood ps f:=fun f hf=>by
 obtain ⟨a,b⟩:=face_ix (any_all h1 f hf)
 refine ⟨a,b,fun x hx=>?_⟩
 obtain ⟨k,hk,rfl⟩:=List.getElem_of_mem hx
 have:=any_none (any_all h2 f hf) hk
 rw [getD_get hk] at this
 exact this
theorem st_ok {ps:List Pt} {fs:List FaV} (h:∀ f∈fs,FaceGood ps f):∀ s∈stL fs,s.ok ps:=fun s hs=>by
 obtain ⟨hf,hr,i,hi,ha,hb⟩:=stL_get hs
 have hfm:fs.getD s.f f0∈fs:=by rw [getD_get hf];exact List.getElem_mem hf
 have hxm:(fs.getD s.f f0).ri.getD s.r r0∈(fs.getD s.f f0).ri:=by rw [getD_get hr];exact List.getElem_mem hr
 have hg:=h _ hfm
 obtain ⟨hix,h3,_⟩:=hg.ix _ hxm
 have hrb:=hg.rg _ hxm
 have hm:(i+1) % ((fs.getD s.f f0).ri.getD s.r r0).xs.length<((fs.getD s.f f0).ri.getD s.r r0).xs.length:=Nat.mod_lt _ (by omega)
 have x1:=hix i hi
 have x2:=hix _ hm
 refine ⟨by rw [ha,nI];omega,by rw [hb,nI];omega,fun e=>?_⟩
 rw [ringBad,decide_eq_false_iff_not] at hrb
 refine ring_still hrb i (by rw [cor_len];exact hi) ?_
 show (cor ps 1 _).getD i (0,0)=(cor ps 1 _).getD ((i+1) % (cor ps 1 _).length) (0,0)
 rw [cor_len,cor_one hi,cor_one hm,← ha,← hb];exact e
theorem st_many {ps:List Pt} {fs:List FaV} (hn:fs.length≤64) (h:∀ f∈fs,FaceGood ps f):(stL fs).length≤100000:=by
 have h1:(stL fs).length≤fs.length*360:=pre_bound _ _ _ fun f hf=>by
  have hfm:fs.getD f f0∈fs:=by rw [getD_get hf];exact List.getElem_mem hf
  have hg:=h _ hfm
  have h2:(gF fs f).length≤(fs.getD f f0).ri.length*40:=pre_bound _ _ _ fun r hr=>by
   have hxm:(fs.getD f f0).ri.getD r r0∈(fs.getD f f0).ri:=by rw [getD_get hr];exact List.getElem_mem hr
   rw [gR,stR_len];exact (hg.ix _ hxm).2.2
  have h3:(fs.getD f f0).ri.length=(fs.getD f f0).hs.length+1:=rfl
  have:=hg.hn
  omega
 omega
theorem ixc_of {c:CxV} (h:∀ f∈c.fs,FaceGood c.ps f):IxC c:=fun f hf=>⟨by have:=(h f hf).hn;omega,(h f hf).ri⟩
theorem far_all {ps:List Pt} (h:ps.any farB=false):NfL ps:=fun i hi=>any_all h _ (by rw [getD_get hi];exact List.getElem_mem hi)
section
variable {c:CxV}
theorem cx1 (h:cntBad c=true):cxBad c=true:=by rw [cxBad,h,Bool.true_or]
theorem cx2 (h:c.ps.any farB=true):cxBad c=true:=by rw [cxBad,h,Bool.true_or,Bool.or_true]
theorem cx3 (h:¬ c.ps.Nodup):cxBad c=true:=by rw [cxBad,decide_eq_false h,Bool.not_false,Bool.true_or,Bool.or_true,Bool.or_true]
theorem cx4 (h:c.fs.any (faceIdx c.ps.length)=true):cxBad c=true:=by rw [cxBad,h,Bool.true_or,Bool.or_true,Bool.or_true,Bool.or_true]
theorem cx5 (h:c.fs.any (fun f=>anyB f.ri (badR c.ps))=true):cxBad c=true:=by rw [cxBad,h,Bool.true_or,Bool.or_true,Bool.or_true,Bool.or_true,Bool.or_true]
theorem cx6 (h:c.fs.any (fun f=>anyB f.ri (turnBad c.ps))=true):cxBad c=true:=by rw [cxBad,h,Bool.true_or,Bool.or_true,Bool.or_true,Bool.or_true,Bool.or_true,Bool.or_true]
theorem cx7 (h1:cntBad c=false) (h2:c.ps.any farB=false) (h3:c.ps.Nodup) (h4:c.fs.any (faceIdx c.ps.length)=false) (h5:c.fs.any (fun f=>anyB f.ri (badR c.ps))=false) (h6:c.fs.any (fun f=>anyB f.ri (turnBad c.ps))=false):cxBad c=edgedBad c.ps c.fs:=by
 rw [cxBad,h1,h2,decide_eq_true h3,h4,h5,h6];rfl
theorem cnt_t (h:c.ps.length<3∨120<c.ps.length∨c.fs.length<1∨64<c.fs.length):cntBad c=true:=by
 simp only [cntBad,Bool.or_eq_true,decide_eq_true_eq];exact h
theorem cnt_f (h:¬ (c.ps.length<3∨120<c.ps.length∨c.fs.length<1∨64<c.fs.length)):cntBad c=false:=by
 simp only [cntBad,Bool.or_eq_false_iff,decide_eq_false_iff_not];omega
end
theorem hr_t {r:Int} {b:Bool} (h:decide (0≤r)=b) (h0:0≤r):b=true:=by rw [← h,decide_eq_true h0]
theorem hr_f {r:Int} {b:Bool} (h:decide (0≤r)=b) (h0:¬ 0≤r):b=false:=by rw [← h,decide_eq_false h0]
set_option maxHeartbeats 2000000 in
theorem flaw_calls (lo:Nat) (c:CxV) (w:World) (hc:c.ok lo w) :
  Calls Tryz.prog 140 #[c.val] w (Ret fun v w'=>FlawQ (cxBad c) w v w'):=by
 refine T.enter (vs:=[c.val]) func140 rfl ntmps140 rfl ?_
 refine T.q (L.o (O.box rfl (fun b1 w1 hb1 hz1 he1 hB1=>?_)))
 have hC:Blk w1 b1 c.cells 46:=hB1
 have hc1:=hc.ext he1
 have hle1:=Sl.le hc1.p
 have hle2:=Sl.le hc1.sl
 refine L.a rfl (L.a rfl (L.nil (T.seq (T.q (L.o (O.fieldAddr runUnderlying46 rfl sizeOf43 rfl (L.o (O.load isAgg43 rfl (hC.cell rfl) (L.o (O.len runUnderlying43 rfl (Sl.val hc1.p) (L.a rfl (L.nil (T.q (L.m rfl (L.o (O.lss_s rfl rfl (fun h3=>?_) (fun h3=>?_)))))))))))))))))
 ·refine L.m rfl (L.p (L.p (L.o (O.pick_true rfl rfl (L.m rfl (L.p (L.p (L.p (L.p (L.o (O.pick_true rfl rfl (L.m rfl (L.p (L.p (L.p (L.p (L.o (O.pick_true rfl rfl (L.nil (T.ct (T.q (L.a rfl (L.a rfl (L.nil (T.ret2 results140 rfl rfl ⟨1,0,rfl,by rw [cx1 (cnt_t (.inl (by omega)))];rfl,he1⟩)))))))))))))))))))))))))
 ·refine L.m rfl (L.m rfl (L.o (O.gtr_s rfl rfl (fun h120=>?_) (fun h120=>?_))))
  ·refine L.o (O.pick_false rfl rfl (L.m rfl (L.p (L.p (L.p (L.p (L.o (O.pick_true rfl rfl (L.m rfl (L.p (L.p (L.p (L.p (L.o (O.pick_true rfl rfl (L.nil (T.ct (T.q (L.a rfl (L.a rfl (L.nil (T.ret2 results140 rfl rfl ⟨1,0,rfl,by rw [cx1 (cnt_t (.inr (.inl (by omega))))];rfl,he1⟩))))))))))))))))))))))
  ·refine L.o (O.pick_false rfl rfl (L.m rfl (L.o (O.fieldAddr runUnderlying46 rfl sizeOf44 rfl (L.o (O.load isAgg44 rfl (hC.cell rfl) (L.o (O.len runUnderlying44 rfl (Sl.val hc1.sl) (L.o (O.lss_s rfl rfl (fun hf1=>?_) (fun hf1=>?_)))))))))))
   ·refine L.o (O.pick_false rfl rfl (L.m rfl (L.p (L.p (L.p (L.p (L.o (O.pick_true rfl rfl (L.nil (T.ct (T.q (L.a rfl (L.a rfl (L.nil (T.ret2 results140 rfl rfl ⟨1,0,rfl,by rw [cx1 (cnt_t (.inr (.inr (.inl (by omega)))))];rfl,he1⟩)))))))))))))))
   ·refine L.o (O.pick_false rfl rfl (L.m rfl (L.o (O.fieldAddr runUnderlying46 rfl sizeOf44 rfl (L.o (O.load isAgg44 rfl (hC.cell rfl) (L.o (O.len runUnderlying44 rfl (Sl.val hc1.sl) (L.o (O.gtr_s rfl rfl (fun hf64=>?_) (fun hf64=>?_)))))))))))
    ·refine L.o (O.pick_false rfl rfl (L.nil (T.ct (T.q (L.a rfl (L.a rfl (L.nil (T.ret2 results140 rfl rfl ⟨1,0,rfl,by rw [cx1 (cnt_t (.inr (.inr (.inr (by omega)))))];rfl,he1⟩))))))))
    ·have hcnt:cntBad c=false:=cnt_f (by omega)
     refine L.o (O.pick_false rfl rfl (L.nil (T.cf (T.skip (T.seq (T.q (L.o (O.fieldAddr runUnderlying46 rfl sizeOf43 rfl (L.o (O.load isAgg43 rfl (hC.cell rfl) (L.o (O.call (xs:=[.tmp 35,.func 174]) call173 rfl rfl (firstP_calls lo c.pv c.ps w1 hc1.p) (fun v2 w2 hq=>?_)))))))))))))
     obtain ⟨r,rfl,hr,he2⟩:=hq
     have hC2:=Blk.ext (cs:=c.cells) hC he2
     have hc2:=hc1.ext he2
     have he02:=he1.trans he2
     refine L.a rfl (L.nil (T.q (L.m rfl (L.o (O.geq_s rfl rfl (fun hr0=>?_) (fun hr0=>?_))))))
     ·refine L.nil (T.ct (T.q (L.m rfl (L.a rfl (L.a rfl (L.nil (T.ret2 results140 rfl rfl ⟨2,r,rfl,by rw [cx2 (hr_t hr (by omega))];rfl,he02⟩)))))))
     ·refine L.nil (?_)
      have hfa:c.ps.any farB=false:=hr_f hr (by omega)
      have hf:=far_all hfa
      refine T.cf (T.skip (T.q (L.o (O.makeMapG (kf:=pV) (vf:=Value.bool) (fun b3 w3 hb3 hz3 he3 hM3=>?_)))))
      refine L.a rfl (L.nil (T.seq (T.q (L.o (O.fieldAddr runUnderlying46 rfl sizeOf43 rfl (L.o (O.load isAgg43 rfl ((Blk.ext (cs:=c.cells) hC2 he3).cell rfl) (L.o (O.len runUnderlying43 rfl (Sl.val (hc2.p.ext he3)) (L.m rfl (L.nil (T.block (?_)))))))))))))
      refine T.loop (σ:=Nat) (fun i=>[(1,.pointer (some ⟨b1,0,none⟩)),(6,.map (some b3)),(42,c.pv),(43,.int .i64 c.ps.length),(44,.int .i64 i)]) (fun i w'=>i≤c.ps.length∧Ext w2 w'∧(∃ kvs,MapG pV Value.bool w' b3 kvs∧KeyS kvs (c.ps.take i))∧(c.ps.take i).Nodup) (fun i=>c.ps.length-i) (0) ⟨rfl,rfl,rfl,rfl,rfl,trivial⟩ ⟨Nat.zero_le _,he3,⟨[],hM3,KeyS.nil⟩,by simp⟩ ?_
      rintro i w4 ⟨hi,he4,⟨kvs,hM4,hk4⟩,hn4⟩
      have hC4:=Blk.ext (cs:=c.cells) hC2 he4
      have hc4:=hc2.ext he4
      refine T.q (L.o (O.lss_s rfl rfl (fun hlt=>?_) (fun hlt=>?_)))
      ·refine L.nil (?_)
       have hlt':i<c.ps.length:=by omega
       refine T.seq (T.ct (T.skip (T.seq (T.block (T.q (L.m rfl (L.o (O.indexAddr runUnderlying43 sizeOf124 rfl rfl hc4.p (by omega) (by omega) (L.o (O.loadAgg isAgg124 sizeOf124 rfl rfl (hc4.p.row hlt') (L.o (O.alloc zeroValue124 (fun b5 w5 hb5 hz5 he5 hB5=>?_)))))))))))))
       refine L.a rfl (L.o (O.storeAgg sizeOf124 rfl rfl rfl hB5 (Nat.le_refl _) (pC_one _) (fun w6 hu6 hB6=>?_)))
       have hX6:Blk w6 b5 (pC (c.ps.getD i (0,0))) 124:=hB6
       have he46:Ext w4 w6:=he5.upd hu6 (.inr (by omega))
       have hM6:=hM4.keep he46 (Nat.zero_le _)
       have hlm:=hM4.lt
       refine L.nil (T.seq (T.q (L.m rfl (L.o (O.loadAgg isAgg124 sizeOf124 rfl rfl hX6.row (L.o (O.lookupP (kf:=pV) (vf:=Value.bool) (z0:=false) key_pt runUnderlying249 zeroValue4 rfl rfl hM6 (?_))))))))
       cases hb:(getG kvs (c.ps.getD i (0,0))).getD false
       ·refine L.nil (T.cf (T.skip (T.region (L.m rfl (L.o (O.loadAgg isAgg124 sizeOf124 rfl rfl hX6.row (L.o (O.mapUpdateP (kf:=pV) (vf:=Value.bool) (v:=_) key_pt runUnderlying249 rfl rfl rfl hM6 (fun w7 hu7 hM7=>?_)))))))))
        have hnk:c.ps.getD i (0,0)∉c.ps.take i:=by rw [hk4,decide_eq_false_iff_not] at hb;exact hb
        have hts:c.ps.take (i+1)=c.ps.take i ++ [c.ps.getD i (0,0)]:=by rw [getD_get hlt',List.take_succ_eq_append_getElem hlt']
        refine L.nil (T.blk (T.region (L.o (O.add64 rfl rfl (by omega) (L.m rfl (L.nil (T.again (i+1) (by omega) ⟨rfl,rfl,rfl,rfl,rfl,trivial⟩ ⟨hlt',(he4.trans he46).upd hu7 (.inr (by omega)),⟨_,hM7,by rw [hts];exact hk4.put⟩,by rw [hts];exact nodup_snoc hn4 hnk⟩)))))))
       ·refine L.nil (T.ct (T.q (L.m rfl (L.a rfl (L.a rfl (L.nil (T.ret2 results140 rfl rfl ⟨3,i,rfl,?_,he02.trans (he4.trans he46)⟩)))))))
        rw [cx3 (fun h=>dup_not (d:=(0,0)) id hlt' (by rw [hk4,decide_eq_true_eq] at hb;rw [List.map_id];exact hb) (by rw [List.map_id];exact h))];rfl
      ·refine L.nil (?_)
       obtain rfl:i=c.ps.length:=by omega
       rw [List.take_length] at hn4
       refine T.seq (T.cf (T.exit rfl (T.q (L.o (O.alloc zeroValue251 (fun b8 w8 hb8 hz8 he8 hB8=>?_))))))
       refine L.o (O.store1 sizeOf251 rfl rfl rfl hB8 (by simp [Value.cells]) (fun w9 hu9 hB9=>?_))
       obtain ⟨tb,hB9⟩:∃ t,Blk w9 b8 [.func (.func 175) #[] #[]] t:=⟨_,hB9⟩
       have he49:Ext w4 w9:=he8.upd hu9 (.inr (by omega))
       have hC9:=Blk.ext (cs:=c.cells) hC4 he49
       have hc9:=hc4.ext he49
       have he09:=he02.trans (he4.trans he49)
       refine L.nil (T.seq (T.q (L.o (O.fieldAddr runUnderlying46 rfl sizeOf44 rfl (L.o (O.load isAgg44 rfl (hC9.cell rfl) (L.o (O.makeFunc (fi:=[]) (ca:=[.tmp 9,.tmp 1]) rfl rfl (L.o (O.call (xs:=[.tmp 57,.tmp 58]) call177 rfl rfl (firstF_calls lo c.fv c.fs 178 #[.pointer (some ⟨b8,0,none⟩),.pointer (some ⟨b1,0,none⟩)] (faceIdx c.ps.length) w9 hc9.sl hc9.fs call178 (fun f W hfm hW ↦ flaw2_calls lo b8 b1 tb c f W (Blk.ext (cs:=[.func (.func 175) #[] #[]]) hB9 hW) (Blk.ext (cs:=c.cells) hC9 hW) ⟨lo,hc9.p.ext hW⟩ ((hc9.fs f hfm).ext hW))) (fun v10 w10 hq=>?_)))))))))))
       obtain ⟨r2,rfl,hr2,he10⟩:=hq
       refine L.a rfl (L.nil (T.q (L.m rfl (L.o (O.geq_s rfl rfl (fun hr20=>?_) (fun hr20=>?_))))))
       ·refine L.nil (T.ct (T.q (L.m rfl (L.a rfl (L.a rfl (L.nil (T.ret2 results140 rfl rfl ⟨4,r2,rfl,by rw [cx4 (hr_t hr2 (by omega))];rfl,he09.trans he10⟩)))))))
       ·refine L.nil (?_)
        have h4:=hr_f hr2 (by omega)
        have hC10:=Blk.ext (cs:=c.cells) hC9 he10
        have hc10:=hc9.ext he10
        have hF10:=Blk.ext (cs:=[.func (.func 175) #[] #[]]) hB9 he10
        refine T.cf (T.skip (T.seq (T.q (L.o (O.fieldAddr runUnderlying46 rfl sizeOf44 rfl (L.o (O.load isAgg44 rfl (hC10.cell rfl) (L.o (O.makeFunc (fi:=[]) (ca:=[.tmp 9,.tmp 1]) rfl rfl (L.o (O.call (xs:=[.tmp 64,.tmp 65]) call177 rfl rfl (firstF_calls lo c.fv c.fs 182 #[.pointer (some ⟨b8,0,none⟩),.pointer (some ⟨b1,0,none⟩)] (fun f ↦ anyB f.ri (badR c.ps)) w10 hc10.sl hc10.fs call182 (fun f W hfm hW ↦ flaw3_calls lo lo b8 b1 tb c f W (Blk.ext (cs:=[.func (.func 175) #[] #[]]) hF10 hW) (Blk.ext (cs:=c.cells) hC10 hW) (hc10.p.ext hW) ((hc10.fs f hfm).ext hW) (by have:=(face_good (any_all h4 f hfm)).1;omega) hf (face_good (any_all h4 f hfm)).2)) (fun v11 w11 hq=>?_))))))))))))
        obtain ⟨r3,rfl,hr3,he11⟩:=hq
        refine L.a rfl (L.nil (T.q (L.m rfl (L.o (O.geq_s rfl rfl (fun hr30=>?_) (fun hr30=>?_))))))
        ·refine L.nil (T.ct (T.q (L.m rfl (L.a rfl (L.a rfl (L.nil (T.ret2 results140 rfl rfl ⟨5,r3,rfl,by rw [cx5 (hr_t hr3 (by omega))];rfl,he09.trans (he10.trans he11)⟩)))))))
        ·refine L.nil (?_)
         have h5:=hr_f hr3 (by omega)
         have hC11:=Blk.ext (cs:=c.cells) hC10 he11
         have hc11:=hc10.ext he11
         have hF11:=Blk.ext (cs:=[.func (.func 175) #[] #[]]) hF10 he11
         refine T.cf (T.skip (T.seq (T.q (L.o (O.fieldAddr runUnderlying46 rfl sizeOf44 rfl (L.o (O.load isAgg44 rfl (hC11.cell rfl) (L.o (O.makeFunc (fi:=[]) (ca:=[.tmp 9,.tmp 1]) rfl rfl (L.o (O.call (xs:=[.tmp 71,.tmp 72]) call177 rfl rfl (firstF_calls lo c.fv c.fs 186 #[.pointer (some ⟨b8,0,none⟩),.pointer (some ⟨b1,0,none⟩)] (fun f ↦ anyB f.ri (turnBad c.ps)) w11 hc11.sl hc11.fs call186 (fun f W hfm hW ↦ flaw4_calls lo lo b8 b1 tb c f W (Blk.ext (cs:=[.func (.func 175) #[] #[]]) hF11 hW) (Blk.ext (cs:=c.cells) hC11 hW) (hc11.p.ext hW) ((hc11.fs f hfm).ext hW) (by have:=(face_good (any_all h4 f hfm)).1;omega) hf (face_good (any_all h4 f hfm)).2)) (fun v12 w12 hq=>?_))))))))))))
         obtain ⟨r4,rfl,hr4,he12⟩:=hq
         refine L.a rfl (L.nil (T.q (L.m rfl (L.o (O.geq_s rfl rfl (fun hr40=>?_) (fun hr40=>?_))))))
         ·refine L.nil (T.ct (T.q (L.m rfl (L.a rfl (L.a rfl (L.nil (T.ret2 results140 rfl rfl ⟨6,r4,rfl,by rw [cx6 (hr_t hr4 (by omega))];rfl,he09.trans (he10.trans (he11.trans he12))⟩)))))))
         ·refine L.nil (?_)
          have h6:=hr_f hr4 (by omega)
          have hg:=good_of h4 h5
          refine T.cf (T.skip (T.q (L.o (O.loadAgg isAgg46 sizeOf46 rfl rfl ((Blk.ext (cs:=c.cells) hC11 he12).row) (L.o (O.call (xs:=[.tmp 77]) call189 rfl rfl (edged_calls lo c w12 (hc11.ext he12) hf (ixc_of hg) (st_ok hg) (st_many (by omega) hg)) (fun v13 w13 hq=>?_)))))))
          obtain ⟨kd,a,rfl,hka,he13⟩:=hq
          refine L.o (O.extract rfl rfl (L.o (O.extract rfl rfl (L.a rfl (L.a rfl (L.nil (T.ret2 results140 rfl rfl ⟨kd,a,rfl,by rw [cx7 hcnt hfa hn4 h4 h5 h6];exact hka,he09.trans (he10.trans (he11.trans (he12.trans he13)))⟩)))))))

theorem check_calls (lo:Nat) (c:CxV) (w:World) (hc:c.ok lo w) :
  Calls Tryz.prog 82 #[c.val] w (Ret fun v w'=>v = .int .i64 (if cxBad c then 150 else 0)∧Ext w w'):=by
 refine T.enter (vs:=[c.val]) func82 rfl ntmps82 rfl ?_
 refine T.q (L.o (O.box rfl (fun b1 w1 hb1 hz1 he1 hB1=>?_)))
 have hC:Blk w1 b1 c.cells 46:=hB1
 refine L.a rfl (L.nil (T.seq (T.q (L.o (O.loadAgg isAgg46 sizeOf46 rfl rfl hC.row (L.o (O.call (xs:=[.tmp 6]) call140 rfl rfl (flaw_calls lo c w1 (hc.ext he1)) (fun v2 w2 hq=>?_))))))))
 obtain ⟨k,a,rfl,hk,he2⟩:=hq
 refine L.m rfl (L.o (O.extract rfl rfl (L.o (O.extract rfl rfl (L.a rfl (L.a rfl (L.nil (T.q (L.m rfl (L.o (O.gtr_s rfl rfl (fun h0=>?_) (fun h0=>?_))))))))))))
 ·refine L.nil (T.ct (T.q (L.a rfl (L.nil (T.ret1 results82 rfl ⟨by rw [← hk,decide_eq_true h0];rfl,he1.trans he2⟩)))))
 ·refine L.nil (T.cf (T.skip (T.q (L.a rfl (L.nil (T.ret1 results82 rfl ⟨by rw [← hk,decide_eq_false h0];rfl,he1.trans he2⟩))))))

end Go.Proofs.YtnlonpcbgjbbaaaGreatDoor
