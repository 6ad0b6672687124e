/-
  BlocksBack, part 10 of its proof: that it returns true for every input, and each argument reads behind the call as it read before. Conditions: the listed variables read as the program's text lays them (tied by the card).
-/
import Derived.Test.YtnlonpcbgjbbaaaGreatDoorWBlocksBack9
import Derived.Test.YtnlonpcbgjbbaaaGreatDoorWBlocksBack5
set_option linter.unusedVariables false
set_option linter.unusedSimpArgs false
set_option maxRecDepth 20000
set_option linter.unusedVariables false
set_option linter.unusedSimpArgs false
set_option maxRecDepth 20000
namespace Go.Proofs.YtnlonpcbgjbbaaaGreatDoor
open Go.Proofs.Tryz (call140 call173 call174 call175 call176 call177 call178 call179 call180 call181 call182 call183 call186 call187 call189 call209 call210 call211 call213 call214 call215 call216 call245 func140 func173 func175 func177 func178 func179 func182 func186 func189 func210 func214 func215 func82 isAgg124 isAgg125 isAgg127 isAgg251 isAgg272 isAgg277 isAgg280 isAgg284 isAgg3 isAgg30 isAgg43 isAgg44 isAgg46 ntmps140 ntmps173 ntmps175 ntmps177 ntmps178 ntmps179 ntmps182 ntmps186 ntmps189 ntmps210 ntmps214 ntmps215 ntmps82 results140 results173 results175 results177 results178 results179 results182 results186 results189 results210 results214 results215 results82 runUnderlying125 runUnderlying127 runUnderlying249 runUnderlying272 runUnderlying277 runUnderlying280 runUnderlying30 runUnderlying43 runUnderlying44 runUnderlying46 sizeOf124 sizeOf125 sizeOf127 sizeOf251 sizeOf272 sizeOf277 sizeOf280 sizeOf284 sizeOf3 sizeOf30 sizeOf43 sizeOf44 sizeOf46 zeroValue124 zeroValue127 zeroValue251 zeroValue272 zeroValue277 zeroValue280 zeroValue284 zeroValue3 zeroValue30 zeroValue4)
open Go Go.E
attribute [local irreducible] Go.E.T Go.E.L Go.E.O Go.E.Ob
attribute [local irreducible] Go.E.ObX
def mW (n:Nat) (_:Int) (l:List Int):Bool:=decide (l.length<3) || (decide (40<l.length) || (decide (Pg l (l.length-1)<0) || decide ((n:Int)≤Uy l (l.length-1))))
theorem qN {n:Nat} {k:Int} {l:List Int} (h:mW n k l=false):IxL n l∧3≤l.length∧l.length≤40:=by
 simp only [mW,Bool.or_eq_false_iff,decide_eq_false_iff_not] at h
 obtain ⟨h1,h2,h3,h4⟩:=h
 rw [QI] at h3
 rw [QJ] at h4
 refine ⟨fun i hi=>⟨?_,?_⟩,by omega,by omega⟩
 ·rcases Int.lt_or_le (l.getD i 0) 0 with h|h
  ·exact absurd ⟨i,by omega,h⟩ h3
  exact h
 rcases Int.lt_or_le (l.getD i 0) n with h|h
 ·exact h
 exact absurd ⟨i,by omega,h⟩ h4
def dU (n:Nat) (f:FaV):Bool:=decide (8<f.hs.length) || rW f.ri (mW n)
theorem any_none {ri:List RiV} {bad:Int→List Int→Bool} (h:rW ri bad=false) {k:Nat} (hk:k<ri.length):bad k (ri.getD k r0).xs=false:=by
 rw [rW,decide_eq_false_iff_not] at h
 cases hb:bad k (ri.getD k r0).xs
 ·rfl
 exact absurd ⟨k,hk,hb⟩ h
theorem qO {n:Nat} {f:FaV} (h:dU n f=false):f.hs.length≤8∧∀ x∈f.ri,Jl n x:=by
 simp only [dU,Bool.or_eq_false_iff,decide_eq_false_iff_not] at h
 refine ⟨by omega,fun x hx=>?_⟩
 obtain ⟨k,hk,rfl⟩:=List.getElem_of_mem hx
 have:=qN (any_none h.2 hk)
 rw [au hk] at this
 exact ⟨this.1,by omega⟩
theorem sZ (lo2:Nat) (f:FaV) (gf:FuncId) (ca:Array Value) (bad:Int→List Int→Bool) (w:World) (hfo:f.ok lo2 w) (hn:f.hs.length≤100000) (hcl:∀ args w,(callFunc gf args).run Tryz.prog w = .ok (.enter gf args) w) (hcall:∀ (k:Nat) (h:RiV) (W:World),h∈f.ri→Ext w W→Calls Tryz.prog gf (#[] ++ [.int .i64 k,h.v].toArray++ca) W (Ret fun v W'=>v = .bool (bad k h.xs)∧Ext W W')) :
  Calls Tryz.prog 175 #[f.val,.func (.func gf) #[] ca] w (Ret fun v w'=>v = .bool (rW f.ri bad)∧Ext w w'):=by
 refine T.enter (vs:=[f.val,.func (.func gf) #[] ca]) func175 rfl ntmps175 rfl ?_
 refine T.q (L.o (O.box rfl (fun b2 w2 hb2 hz2 he2 hB2=>?_)))
 have hF2:Blk w2 b2 f.cells 127:=hB2
 refine L.a rfl (L.nil (T.seq (T.q (L.o (O.ak isAgg127 sizeOf127 rfl rfl hF2.row (L.o (O.call (xs:=[.tmp 7]) call176 rfl rfl (xY lo2 f w2 (hfo.ext he2) hn) (fun v3 w3 hq=>?_))))))))
 obtain ⟨he3,hS3⟩:=hq
 have mQ:=he2.trans he3
 have hle:=Sl.le hS3
 refine L.o (O.len runUnderlying125 rfl (Sl.val hS3) (L.m rfl (L.nil (T.block (?_)))))
 refine T.loop (σ:=Nat) (fun i=>[(1,.func (.func gf) #[] ca),(8,v3),(9,.int .i64 f.ri.length),(10,.int .i64 i)]) (fun i w'=>i≤f.ri.length∧Ext w3 w'∧∀ k,k<i→bad (k:Nat) (f.ri.getD k r0).xs=false) (fun i=>f.ri.length-i) (0) ⟨rfl,rfl,rfl,rfl,trivial⟩ ⟨Nat.zero_le _,Keep.refl _ _,fun k hk=>absurd hk (Nat.not_lt_zero _)⟩ ?_
 rintro i w4 ⟨hi,he4,hall⟩
 refine T.q (L.o (O.bF rfl rfl (fun hlt=>?_) (fun hlt=>?_)))
 ·refine L.nil (?_)
  have hlt':i<f.ri.length:=by omega
  have hm:f.ri.getD i r0∈f.ri:=by rw [au hlt'];exact List.getElem_mem hlt'
  have uP:=mQ.trans he4
  have hS4:Sl w2.heap.size w4 v3 f.ri.length 1 (aJ f.ri):=Sl.ext hS3 he4
  refine T.seq (T.ct (T.skip (T.seq (T.block (T.q (L.m rfl (L.o (O.indexAddr runUnderlying125 sizeOf30 rfl rfl hS4 (by omega) (by omega) (L.o (O.load isAgg30 rfl (by rw [Int.toNat_natCast,Nat.mul_one];exact Sl.cell hS4 (FP hlt')) (L.a rfl (L.a rfl (L.nil (T.q (L.m rfl (L.m rfl (L.m rfl (L.o (O.call (xs:=[.tmp 16,.tmp 17]) hcl rfl rfl (hcall i (f.ri.getD i r0) w4 hm uP) (fun v5 w5 hq=>?_))))))))))))))))))))
  obtain ⟨hv5,he5⟩:=hq
  rcases hb:bad (i:Nat) (f.ri.getD i r0).xs with _|_
  ·refine L.nil (?_)
   rw [hb] at hv5
   subst hv5
   refine T.cf (T.skip (T.blk (T.region (L.o (O.aI rfl rfl (by omega) (L.m rfl (L.nil (T.again (i+1) (by omega) ⟨rfl,rfl,rfl,rfl,trivial⟩ ⟨hlt',he4.trans he5,fun k hk=>?_⟩))))))))
   ·by_cases e:k=i
    ·subst e;exact hb
    exact hall k (by omega)
  refine L.nil (?_)
  rw [hb] at hv5
  subst hv5
  refine T.ct (T.q (L.a rfl (L.nil (T.aU results175 rfl ⟨by rw [rW,decide_eq_true ⟨i,hlt',hb⟩],uP.trans he5⟩))))
 refine L.nil (T.seq (T.cf (T.exit rfl (T.q (L.a rfl (L.nil (T.aU results175 rfl ⟨by rw [rW,decide_eq_false (fun ⟨k,h1,h2⟩=>by rw [hall k (by omega)] at h2;cases h2)],mQ.trans he4⟩)))))))
theorem F6 (lo2 b:Nat) (c:CxV) (k:Int) (h:RiV) (w:World) (hB:Blk w b c.cells 46) (hp:∃ lo,Pts lo w c.pv c.ps) (hh:Ints .i64 lo2 w h.v h.xs) :
  Calls Tryz.prog 179 #[.int .i64 k,h.v,.pointer (some ⟨b,0,none⟩)] w (Ret fun v w'=>v = .bool (mW c.ps.length k h.xs)∧Ext w w'):=by
 have hle:=Sl.le hh
 obtain ⟨lo,hp⟩:=hp
 have hlp:=Sl.le hp
 refine T.enter (vs:=[.int .i64 k,h.v,.pointer (some ⟨b,0,none⟩)]) func179 rfl ntmps179 rfl ?_
 by_cases h3:h.xs.length<3
 ·refine T.q (L.a rfl (L.nil (T.seq (?_))))
  refine T.fJ mixed 19 [1,2] rfl [.is _,.is _,.is _,.is _,.is undef,.is undef,.is undef,.is _,.is _,.is undef,.is undef,.is undef,.is _,.is _,.is undef,.is undef,.is undef,.is undef,.is undef] [[],[0],[1],[2],[3],[4,3],[5,3],[3,6],[7],[8],[9,8],[10,8],[8,11],[12],[13],[14,13],[13],[16,13],[17,13]] [[],[0],[0,1],[0,1,2],[0,1,2,3],[0,1,2,3,4],[0,1,2,3,4,5],[0,1,2,3,4,5,6],[0,1,2,3,4,5,6,7],[0,1,2,3,4,5,6,7,8],[0,1,2,3,4,5,6,7,8,9],[0,1,2,3,4,5,6,7,8,9,10],[0,1,2,3,4,5,6,7,8,9,10,11],[0,1,2,3,4,5,6,7,8,9,10,11,12],[0,1,2,3,4,5,6,7,8,9,10,11,12,13],[0,1,2,3,4,5,6,7,8,9,10,11,12,13,14],[0,1,2,3,4,5,6,7,8,9,10,11,12,13],[0,1,2,3,4,5,6,7,8,9,10,11,12,13,16],[0,1,2,3,4,5,6,7,8,9,10,11,12,13,16,17],[0,1,2,3,4,5,6,7,8,9,10,11,12,13,14,15,16,17,18],[0,1,2,3,4,5,6,7,8,9,10,11,12,13,14,15,16,17,18,19],[0,1,2,3,4,5,6,7,8,9,10,11,12,13,14,15,16,17,18,19,20]] (by kernel_rfl) (by kernel_rfl) rfl (by kernel_rfl) trivial ⟨fun wx hx=>Ob.o (O.move rfl kR),
    fun wx hx=>Ob.o (O.len runUnderlying30 rfl (Sl.val (hh.ext hx)) kR),
    fun wx hx=>Ob.o (O.X5 rfl rfl (by omega) kR),
    fun wx hx=>Ob.o (O.move rfl kR),
    fun wx hx=>Ob.pass rfl rfl,
    fun wx hx=>Ob.pass rfl rfl,
    fun wx hx=>Ob.pass rfl rfl,
    fun wx hx=>Ob.o (O.ah rfl rfl kR),
    fun wx hx=>Ob.o (O.move rfl kR),
    fun wx hx=>Ob.pass rfl rfl,
    fun wx hx=>Ob.pass rfl rfl,
    fun wx hx=>Ob.pass rfl rfl,
    fun wx hx=>Ob.o (O.ah rfl rfl kR),
    fun wx hx=>Ob.o (O.move rfl kR),
    fun wx hx=>Ob.pass rfl rfl,
    fun wx hx=>Ob.pass rfl rfl,
    fun wx hx=>Ob.pass rfl rfl,
    fun wx hx=>Ob.pass rfl rfl,
    fun wx hx=>Ob.pass rfl rfl,
    trivial⟩ (fun w6 he6=>?_)
  refine L.p (L.o (O.ah rfl rfl (L.a rfl (L.nil (T.aU results179 rfl ⟨by rw [mW,decide_eq_true h3,Bool.true_or],he6⟩)))))
 by_cases h40:40<h.xs.length
 ·refine T.q (L.a rfl (L.nil (T.seq (?_))))
  refine T.fJ mixed 19 [1,2] rfl [.is _,.is _,.is _,.is _,.is _,.is _,.is _,.is _,.is _,.is undef,.is undef,.is undef,.is _,.is _,.is undef,.is undef,.is undef,.is undef,.is undef] [[],[0],[1],[2],[3],[4,3],[5,3],[3,6],[7],[8],[9,8],[10,8],[8,11],[12],[13],[14,13],[13],[16,13],[17,13]] [[],[0],[0,1],[0,1,2],[0,1,2,3],[0,1,2,3,4],[0,1,2,3,4,5],[0,1,2,3,4,5,6],[0,1,2,3,4,5,6,7],[0,1,2,3,4,5,6,7,8],[0,1,2,3,4,5,6,7,8,9],[0,1,2,3,4,5,6,7,8,9,10],[0,1,2,3,4,5,6,7,8,9,10,11],[0,1,2,3,4,5,6,7,8,9,10,11,12],[0,1,2,3,4,5,6,7,8,9,10,11,12,13],[0,1,2,3,4,5,6,7,8,9,10,11,12,13,14],[0,1,2,3,4,5,6,7,8,9,10,11,12,13],[0,1,2,3,4,5,6,7,8,9,10,11,12,13,16],[0,1,2,3,4,5,6,7,8,9,10,11,12,13,16,17],[0,1,2,3,4,5,6,7,8,9,10,11,12,13,14,15,16,17,18],[0,1,2,3,4,5,6,7,8,9,10,11,12,13,14,15,16,17,18,19],[0,1,2,3,4,5,6,7,8,9,10,11,12,13,14,15,16,17,18,19,20]] (by kernel_rfl) (by kernel_rfl) rfl (by kernel_rfl) trivial ⟨fun wx hx=>Ob.o (O.move rfl kR),
    fun wx hx=>Ob.o (O.len runUnderlying30 rfl (Sl.val (hh.ext hx)) kR),
    fun wx hx=>Ob.o (O.xk rfl rfl (by omega) kR),
    fun wx hx=>Ob.o (O.move rfl kR),
    fun wx hx=>Ob.o (O.move rfl kR),
    fun wx hx=>Ob.o (O.len runUnderlying30 rfl (Sl.val (hh.ext hx)) kR),
    fun wx hx=>Ob.o (O.Cm rfl rfl (by omega) kR),
    fun wx hx=>Ob.o (O.aj rfl rfl kR),
    fun wx hx=>Ob.o (O.move rfl kR),
    fun wx hx=>Ob.pass rfl rfl,
    fun wx hx=>Ob.pass rfl rfl,
    fun wx hx=>Ob.pass rfl rfl,
    fun wx hx=>Ob.o (O.ah rfl rfl kR),
    fun wx hx=>Ob.o (O.move rfl kR),
    fun wx hx=>Ob.pass rfl rfl,
    fun wx hx=>Ob.pass rfl rfl,
    fun wx hx=>Ob.pass rfl rfl,
    fun wx hx=>Ob.pass rfl rfl,
    fun wx hx=>Ob.pass rfl rfl,
    trivial⟩ (fun w6 he6=>?_)
  refine L.p (L.o (O.ah rfl rfl (L.a rfl (L.nil (T.aU results179 rfl ⟨by rw [mW,decide_eq_false h3,decide_eq_true h40,Bool.true_or,Bool.false_or],he6⟩)))))
 by_cases hmin:Pg h.xs (h.xs.length-1)<0
 ·refine T.q (L.a rfl (L.nil (T.seq (?_))))
  refine T.fJ mixed 19 [1,2] rfl [.is _,.is _,.is _,.is _,.is _,.is _,.is _,.is _,.is _,.is _,.is (.int .i64 (Pg h.xs (h.xs.length-1))),.is _,.is _,.is _,.is undef,.is undef,.is undef,.is undef,.is undef] [[],[0],[1],[2],[3],[4,3],[5,3],[3,6],[7],[8],[9,8],[10,8],[8,11],[12],[13],[14,13],[13],[16,13],[17,13]] [[],[0],[0,1],[0,1,2],[0,1,2,3],[0,1,2,3,4],[0,1,2,3,4,5],[0,1,2,3,4,5,6],[0,1,2,3,4,5,6,7],[0,1,2,3,4,5,6,7,8],[0,1,2,3,4,5,6,7,8,9],[0,1,2,3,4,5,6,7,8,9,10],[0,1,2,3,4,5,6,7,8,9,10,11],[0,1,2,3,4,5,6,7,8,9,10,11,12],[0,1,2,3,4,5,6,7,8,9,10,11,12,13],[0,1,2,3,4,5,6,7,8,9,10,11,12,13,14],[0,1,2,3,4,5,6,7,8,9,10,11,12,13],[0,1,2,3,4,5,6,7,8,9,10,11,12,13,16],[0,1,2,3,4,5,6,7,8,9,10,11,12,13,16,17],[0,1,2,3,4,5,6,7,8,9,10,11,12,13,14,15,16,17,18],[0,1,2,3,4,5,6,7,8,9,10,11,12,13,14,15,16,17,18,19],[0,1,2,3,4,5,6,7,8,9,10,11,12,13,14,15,16,17,18,19,20]] (by kernel_rfl) (by kernel_rfl) rfl (by kernel_rfl) trivial ⟨fun wx hx=>Ob.o (O.move rfl kR),
    fun wx hx=>Ob.o (O.len runUnderlying30 rfl (Sl.val (hh.ext hx)) kR),
    fun wx hx=>Ob.o (O.xk rfl rfl (by omega) kR),
    fun wx hx=>Ob.o (O.move rfl kR),
    fun wx hx=>Ob.o (O.move rfl kR),
    fun wx hx=>Ob.o (O.len runUnderlying30 rfl (Sl.val (hh.ext hx)) kR),
    fun wx hx=>Ob.o (O.zS rfl rfl (by omega) kR),
    fun wx hx=>Ob.o (O.aj rfl rfl kR),
    fun wx hx=>Ob.o (O.move rfl kR),
    fun wx hx=>Ob.o (O.move rfl kR),
    fun wx hx=>Ob.o (O.call (xs:=[.tmp 15]) call180 rfl rfl (Bc lo2 h.v h.xs wx (hh.ext hx) (by omega)) (fun v wy h=>⟨Keep.of_eq h.2,h.1⟩)),
    fun wx hx=>Ob.o (O.X5 rfl rfl hmin kR),
    fun wx hx=>Ob.o (O.aj rfl rfl kR),
    fun wx hx=>Ob.o (O.move rfl kR),
    fun wx hx=>Ob.pass rfl rfl,
    fun wx hx=>Ob.pass rfl rfl,
    fun wx hx=>Ob.pass rfl rfl,
    fun wx hx=>Ob.pass rfl rfl,
    fun wx hx=>Ob.pass rfl rfl,
    trivial⟩ (fun w6 he6=>?_)
  refine L.p (L.o (O.ah rfl rfl (L.a rfl (L.nil (T.aU results179 rfl ⟨by rw [mW,decide_eq_false h3,decide_eq_false h40,decide_eq_true hmin,Bool.true_or,Bool.false_or,Bool.false_or],he6⟩)))))
 refine T.q (L.a rfl (L.nil (T.seq (?_))))
 refine T.fJ mixed 19 [1,2] rfl [.is _,.is _,.is _,.is _,.is _,.is _,.is _,.is _,.is _,.is _,.is (.int .i64 (Pg h.xs (h.xs.length-1))),.is _,.is _,.is _,.is _,.is (.int .i64 (Uy h.xs (h.xs.length-1))),.is _,.is _,.is _] [[],[0],[1],[2],[3],[4,3],[5,3],[3,6],[7],[8],[9,8],[10,8],[8,11],[12],[13],[14,13],[13],[16,13],[17,13]] [[],[0],[0,1],[0,1,2],[0,1,2,3],[0,1,2,3,4],[0,1,2,3,4,5],[0,1,2,3,4,5,6],[0,1,2,3,4,5,6,7],[0,1,2,3,4,5,6,7,8],[0,1,2,3,4,5,6,7,8,9],[0,1,2,3,4,5,6,7,8,9,10],[0,1,2,3,4,5,6,7,8,9,10,11],[0,1,2,3,4,5,6,7,8,9,10,11,12],[0,1,2,3,4,5,6,7,8,9,10,11,12,13],[0,1,2,3,4,5,6,7,8,9,10,11,12,13,14],[0,1,2,3,4,5,6,7,8,9,10,11,12,13],[0,1,2,3,4,5,6,7,8,9,10,11,12,13,16],[0,1,2,3,4,5,6,7,8,9,10,11,12,13,16,17],[0,1,2,3,4,5,6,7,8,9,10,11,12,13,14,15,16,17,18],[0,1,2,3,4,5,6,7,8,9,10,11,12,13,14,15,16,17,18,19],[0,1,2,3,4,5,6,7,8,9,10,11,12,13,14,15,16,17,18,19,20]] (by kernel_rfl) (by kernel_rfl) rfl (by kernel_rfl) trivial ⟨fun wx hx=>Ob.o (O.move rfl kR),
   fun wx hx=>Ob.o (O.len runUnderlying30 rfl (Sl.val (hh.ext hx)) kR),
   fun wx hx=>Ob.o (O.xk rfl rfl (by omega) kR),
   fun wx hx=>Ob.o (O.move rfl kR),
   fun wx hx=>Ob.o (O.move rfl kR),
   fun wx hx=>Ob.o (O.len runUnderlying30 rfl (Sl.val (hh.ext hx)) kR),
   fun wx hx=>Ob.o (O.zS rfl rfl (by omega) kR),
   fun wx hx=>Ob.o (O.aj rfl rfl kR),
   fun wx hx=>Ob.o (O.move rfl kR),
   fun wx hx=>Ob.o (O.move rfl kR),
   fun wx hx=>Ob.o (O.call (xs:=[.tmp 15]) call180 rfl rfl (Bc lo2 h.v h.xs wx (hh.ext hx) (by omega)) (fun v wy h=>⟨Keep.of_eq h.2,h.1⟩)),
   fun wx hx=>Ob.o (O.xk rfl rfl hmin kR),
   fun wx hx=>Ob.o (O.aj rfl rfl kR),
   fun wx hx=>Ob.o (O.move rfl kR),
   fun wx hx=>Ob.o (O.move rfl kR),
   fun wx hx=>Ob.o (O.call (xs:=[.tmp 20]) call181 rfl rfl (NP lo2 h.v h.xs wx (hh.ext hx) (by omega)) (fun v wy h=>⟨Keep.of_eq h.2,h.1⟩)),
   fun wx hx=>Ob.o (O.fieldAddr runUnderlying46 rfl sizeOf43 rfl kR),
   fun wx hx=>Ob.o (O.load isAgg43 rfl ((Blk.ext (cs:=c.cells) hB hx).cell rfl) kR),
   fun wx hx=>Ob.o (O.len runUnderlying43 rfl (Sl.val (hp.ext hx)) kR),
   trivial⟩ (fun w6 he6=>?_)
 refine L.o (O.geq rfl rfl (L.o (O.aj rfl rfl (L.a rfl (L.nil (T.aU results179 rfl ⟨by rw [mW,decide_eq_false h3,decide_eq_false h40,decide_eq_false hmin,Bool.false_or,Bool.false_or,Bool.false_or],he6⟩))))))
theorem Jo (lo2 b9 b:Nat) (tb:TypeId) (c:CxV) (f:FaV) (w:World) (hB9:Blk w b9 [.func (.func 175) #[] #[]] tb) (hB:Blk w b c.cells 46) (hp:∃ lo,Pts lo w c.pv c.ps) (hfo:f.ok lo2 w) :
  Calls Tryz.prog 178 #[f.val,.pointer (some ⟨b9,0,none⟩),.pointer (some ⟨b,0,none⟩)] w (Ret fun v w'=>v = .bool (dU c.ps.length f)∧Ext w w'):=by
 refine T.enter (vs:=[f.val,.pointer (some ⟨b9,0,none⟩),.pointer (some ⟨b,0,none⟩)]) func178 rfl ntmps178 rfl ?_
 refine T.q (L.o (O.box rfl (fun b3 w3 hb3 hz3 he3 hB3=>?_)))
 have hF3:Blk w3 b3 f.cells 127:=hB3
 obtain ⟨lo,hp⟩:=hp
 refine L.a rfl (L.nil (T.q (L.o (O.fieldAddr runUnderlying127 rfl sizeOf125 rfl (L.o (O.load isAgg125 rfl (hF3.cell rfl) (L.o (O.len runUnderlying125 rfl (Sl.val ((hfo.ext he3).sl)) (L.o (O.jS rfl rfl (fun h8=>?_) (fun h8=>?_)))))))))))
 ·refine L.m rfl (L.p (L.p (L.p (L.p (L.o (O.ah rfl rfl (L.a rfl (L.nil (T.aU results178 rfl ⟨by rw [dU,decide_eq_true (by omega),Bool.true_or],he3⟩)))))))))
 refine L.m rfl (L.o (O.load isAgg251 rfl ((Blk.ext (cs:=[.func (.func 175) #[] #[]]) hB9 he3).cell rfl) (L.o (O.ak isAgg127 sizeOf127 rfl rfl hF3.row (L.o (O.makeFunc (fi:=[]) (ca:=[.tmp 2]) rfl rfl (L.o (O.call (xs:=[.tmp 11,.tmp 12]) call175 rfl rfl (sZ lo2 f 179 #[.pointer (some ⟨b,0,none⟩)] (mW c.ps.length) w3 (hfo.ext he3) (by omega) call179 (fun k h W hm hW ↦ F6 lo2 b c k h W (Blk.ext (cs:=c.cells) hB (he3.trans hW)) ⟨lo,hp.ext (he3.trans hW)⟩ ((hfo.ext (he3.trans hW)).ri h hm))) (fun v4 w4 hq=>?_)))))))))
 obtain ⟨rfl,he4⟩:=hq
 refine L.o (O.aj rfl rfl (L.a rfl (L.nil (T.aU results178 rfl ⟨by rw [dU,decide_eq_false (by omega),Bool.false_or],he3.trans he4⟩))))
theorem Jp (lo lo2 b9 b:Nat) (tb:TypeId) (c:CxV) (f:FaV) (w:World) (hB9:Blk w b9 [.func (.func 175) #[] #[]] tb) (hB:Blk w b c.cells 46) (hc:Pts lo w c.pv c.ps) (hfo:f.ok lo2 w) (hn:f.hs.length≤100000) (hf:NfL c.ps) (hl:∀ h∈f.ri,Jl c.ps.length h) :
  Calls Tryz.prog 182 #[f.val,.pointer (some ⟨b9,0,none⟩),.pointer (some ⟨b,0,none⟩)] w (Ret fun v w'=>v = .bool (rW f.ri (badR c.ps))∧Ext w w'):=by
 refine T.enter (vs:=[f.val,.pointer (some ⟨b9,0,none⟩),.pointer (some ⟨b,0,none⟩)]) func182 rfl ntmps182 rfl ?_
 refine T.q (L.o (O.box rfl (fun b3 w3 hb3 hz3 he3 hB3=>?_)))
 have hF3:Blk w3 b3 f.cells 127:=hB3
 refine L.a rfl (L.nil (T.q (L.o (O.load isAgg251 rfl ((Blk.ext (cs:=[.func (.func 175) #[] #[]]) hB9 he3).cell rfl) (L.o (O.ak isAgg127 sizeOf127 rfl rfl hF3.row (L.o (O.makeFunc (fi:=[]) (ca:=[.tmp 2]) rfl rfl (L.o (O.call (xs:=[.tmp 6,.tmp 7]) call175 rfl rfl (sZ lo2 f 183 #[.pointer (some ⟨b,0,none⟩)] (badR c.ps) w3 (hfo.ext he3) hn call183 (fun k h W hm hW ↦ FV lo lo2 b c k h W (Blk.ext (cs:=c.cells) hB (he3.trans hW)) (hc.ext (he3.trans hW)) ((hfo.ext (he3.trans hW)).ri h hm) hf (hl h hm))) (fun v4 w4 hq=>?_)))))))))))
 obtain ⟨rfl,he4⟩:=hq
 refine L.a rfl (L.nil (T.aU results182 rfl ⟨rfl,he3.trans he4⟩))
theorem Jq (lo lo2 b9 b:Nat) (tb:TypeId) (c:CxV) (f:FaV) (w:World) (hB9:Blk w b9 [.func (.func 175) #[] #[]] tb) (hB:Blk w b c.cells 46) (hc:Pts lo w c.pv c.ps) (hfo:f.ok lo2 w) (hn:f.hs.length≤100000) (hf:NfL c.ps) (hl:∀ h∈f.ri,Jl c.ps.length h) :
  Calls Tryz.prog 186 #[f.val,.pointer (some ⟨b9,0,none⟩),.pointer (some ⟨b,0,none⟩)] w (Ret fun v w'=>v = .bool (rW f.ri (iK c.ps))∧Ext w w'):=by
 refine T.enter (vs:=[f.val,.pointer (some ⟨b9,0,none⟩),.pointer (some ⟨b,0,none⟩)]) func186 rfl ntmps186 rfl ?_
 refine T.q (L.o (O.box rfl (fun b3 w3 hb3 hz3 he3 hB3=>?_)))
 have hF3:Blk w3 b3 f.cells 127:=hB3
 refine L.a rfl (L.nil (T.q (L.o (O.load isAgg251 rfl ((Blk.ext (cs:=[.func (.func 175) #[] #[]]) hB9 he3).cell rfl) (L.o (O.ak isAgg127 sizeOf127 rfl rfl hF3.row (L.o (O.makeFunc (fi:=[]) (ca:=[.tmp 2]) rfl rfl (L.o (O.call (xs:=[.tmp 6,.tmp 7]) call175 rfl rfl (sZ lo2 f 187 #[.pointer (some ⟨b,0,none⟩)] (iK c.ps) w3 (hfo.ext he3) hn call187 (fun k h W hm hW ↦ FX lo lo2 b c k h W (Blk.ext (cs:=c.cells) hB (he3.trans hW)) (hc.ext (he3.trans hW)) ((hfo.ext (he3.trans hW)).ri h hm) hf (hl h hm))) (fun v4 w4 hq=>?_)))))))))))
 obtain ⟨rfl,he4⟩:=hq
 refine L.a rfl (L.nil (T.aU results186 rfl ⟨rfl,he3.trans he4⟩))
theorem F7 (lo:Nat) (q:Value) (ps:List Pt) (w:World) (hq:Pts lo w q ps) :
  Calls Tryz.prog 173 #[q,.func (.func 174) #[] #[]] w (Ret fun v w'=>∃ r:Int,v = .int .i64 r∧decide (0≤r)=ps.any og∧Ext w w'):=by
 have hle:=Sl.le hq
 refine T.enter (vs:=[q,.func (.func 174) #[] #[]]) func173 rfl ntmps173 rfl ?_
 refine T.q (L.a rfl (L.nil (T.seq (T.q (L.m rfl (L.o (O.len runUnderlying43 rfl (Sl.val hq) (L.m rfl (L.nil (T.block (?_)))))))))))
 refine T.loop (σ:=Nat) (fun i=>[(1,.func (.func 174) #[] #[]),(7,q),(8,.int .i64 ps.length),(9,.int .i64 i)]) (fun i w'=>i≤ps.length∧Ext w w'∧∀ k,k<i→og (ps.getD k (0,0))=false) (fun i=>ps.length-i) (0) ⟨rfl,rfl,rfl,rfl,trivial⟩ ⟨Nat.zero_le _,Keep.refl _ _,fun k hk=>absurd hk (Nat.not_lt_zero _)⟩ ?_
 rintro i w1 ⟨hi,he1,hall⟩
 refine T.q (L.o (O.bF rfl rfl (fun hlt=>?_) (fun hlt=>?_)))
 ·refine L.nil (?_)
  have hlt':i<ps.length:=by omega
  have hm:ps.getD i (0,0)∈ps:=by rw [au hlt'];exact List.getElem_mem hlt'
  refine T.seq (T.ct (T.skip (T.seq (T.block (T.q (L.m rfl (L.o (O.indexAddr runUnderlying43 sizeOf124 rfl rfl (hq.ext he1) (by omega) (by omega) (L.o (O.ak isAgg124 sizeOf124 rfl rfl ((hq.ext he1).row hlt') (L.o (O.alloc zeroValue124 (fun b2 w2 hb2 hz2 he2 hB2=>?_)))))))))))))
  refine L.a rfl (L.o (O.aC sizeOf124 rfl rfl rfl hB2 (Nat.le_refl _) (gY _) (fun w3 hu3 hB3=>?_)))
  have hX3:Blk w3 b2 (pC (ps.getD i (0,0))) 124:=hB3
  have dn:Ext w1 w3:=he2.upd hu3 (.inr (by omega))
  refine L.nil (T.q (L.m rfl (L.o (O.ak isAgg124 sizeOf124 rfl rfl hX3.row (L.o (O.call (xs:=[.tmp 15]) call174 rfl rfl (ND (ps.getD i (0,0)) w3) (fun v4 w4 hq=>?_)))))))
  obtain ⟨hv4,he4⟩:=hq
  rcases hb:og (ps.getD i (0,0)) with _|_
  ·refine L.nil (?_)
   rw [hb] at hv4
   subst hv4
   refine T.cf (T.skip (T.blk (T.region (L.o (O.aI rfl rfl (by omega) (L.m rfl (L.nil (T.again (i+1) (by omega) ⟨rfl,rfl,rfl,rfl,trivial⟩ ⟨hlt',he1.trans (dn.trans he4),fun k hk=>?_⟩))))))))
   ·by_cases e:k=i
    ·subst e;exact hb
    exact hall k (by omega)
  refine L.nil (?_)
  rw [hb] at hv4
  subst hv4
  refine T.ct (T.q (L.m rfl (L.a rfl (L.nil (T.aU results173 rfl ⟨_,rfl,?_,he1.trans (dn.trans he4)⟩)))))
  rw [decide_eq_true (by omega),eq_comm,List.any_eq_true]
  exact ⟨_,hm,hb⟩
 refine L.nil (T.seq (T.cf (T.exit rfl (T.q (L.a rfl (L.nil (T.aU results173 rfl ⟨_,rfl,?_,he1⟩)))))))
 rw [decide_eq_false (by decide),eq_comm,List.any_eq_false]
 intro h hm
 obtain ⟨k,hk,rfl⟩:=List.getElem_of_mem hm
 have:=hall k (by omega)
 rw [au hk] at this
 rw [this];decide
theorem mX (lo:Nat) (q:Value) (fs:List FaV) (gf:FuncId) (ca:Array Value) (pb:FaV→Bool) (w:World) (hq:Sl lo w q fs.length 2 (bP fs)) (hfs:∀ f∈fs,f.ok lo w) (hcl:∀ args w,(callFunc gf args).run Tryz.prog w = .ok (.enter gf args) w) (hcall:∀ (f:FaV) (W:World),f∈fs→Ext w W→Calls Tryz.prog gf (#[] ++ [f.val].toArray++ca) W (Ret fun v W'=>v = .bool (pb f)∧Ext W W')) :
  Calls Tryz.prog 177 #[q,.func (.func gf) #[] ca] w (Ret fun v w'=>∃ r:Int,v = .int .i64 r∧decide (0≤r)=fs.any pb∧Ext w w'):=by
 have hle:=Sl.le hq
 refine T.enter (vs:=[q,.func (.func gf) #[] ca]) func177 rfl ntmps177 rfl ?_
 refine T.q (L.a rfl (L.nil (T.seq (T.q (L.m rfl (L.o (O.len runUnderlying44 rfl (Sl.val hq) (L.m rfl (L.nil (T.block (?_)))))))))))
 refine T.loop (σ:=Nat) (fun i=>[(1,.func (.func gf) #[] ca),(7,q),(8,.int .i64 fs.length),(9,.int .i64 i)]) (fun i w'=>i≤fs.length∧Ext w w'∧∀ k,k<i→pb (fs.getD k f0)=false) (fun i=>fs.length-i) (0) ⟨rfl,rfl,rfl,rfl,trivial⟩ ⟨Nat.zero_le _,Keep.refl _ _,fun k hk=>absurd hk (Nat.not_lt_zero _)⟩ ?_
 rintro i w1 ⟨hi,he1,hall⟩
 refine T.q (L.o (O.bF rfl rfl (fun hlt=>?_) (fun hlt=>?_)))
 ·refine L.nil (?_)
  have hlt':i<fs.length:=by omega
  have hm:fs.getD i f0∈fs:=by rw [au hlt'];exact List.getElem_mem hlt'
  have hq1:Sl lo w1 q fs.length 2 (bP fs):=Sl.ext hq he1
  refine T.seq (T.ct (T.skip (T.seq (T.block (T.q (L.m rfl (L.o (O.indexAddr runUnderlying44 sizeOf127 rfl rfl hq1 (by omega) (by omega) (L.o (O.ak isAgg127 sizeOf127 rfl rfl (show Row w1 ((jd q).add ((i:Int).toNat*2)) (fs.getD i f0).cells by rw [Int.toNat_natCast,← sS fs i hlt'];obtain ⟨_,_,_,_,hr⟩:=Sl.there hq1 (by omega);exact hr.part (i*2) 2) (L.o (O.alloc zeroValue127 (fun b2 w2 hb2 hz2 he2 hB2=>?_)))))))))))))
  refine L.a rfl (L.o (O.aC sizeOf127 rfl rfl rfl hB2 (Nat.le_refl _) (FZ ((hfs _ hm).ext he1)) (fun w3 hu3 hB3=>?_)))
  have hX3:Blk w3 b2 (fs.getD i f0).cells 127:=hB3
  have dn:Ext w1 w3:=he2.upd hu3 (.inr (by omega))
  refine L.nil (T.q (L.m rfl (L.o (O.ak isAgg127 sizeOf127 rfl rfl hX3.row (L.o (O.call (xs:=[.tmp 15]) hcl rfl rfl (hcall (fs.getD i f0) w3 hm (he1.trans dn)) (fun v4 w4 hq=>?_)))))))
  obtain ⟨hv4,he4⟩:=hq
  rcases hb:pb (fs.getD i f0) with _|_
  ·refine L.nil (?_)
   rw [hb] at hv4
   subst hv4
   refine T.cf (T.skip (T.blk (T.region (L.o (O.aI rfl rfl (by omega) (L.m rfl (L.nil (T.again (i+1) (by omega) ⟨rfl,rfl,rfl,rfl,trivial⟩ ⟨hlt',he1.trans (dn.trans he4),fun k hk=>?_⟩))))))))
   ·by_cases e:k=i
    ·subst e;exact hb
    exact hall k (by omega)
  refine L.nil (?_)
  rw [hb] at hv4
  subst hv4
  refine T.ct (T.q (L.m rfl (L.a rfl (L.nil (T.aU results177 rfl ⟨_,rfl,?_,he1.trans (dn.trans he4)⟩)))))
  rw [decide_eq_true (by omega),eq_comm,List.any_eq_true]
  exact ⟨_,hm,hb⟩
 refine L.nil (T.seq (T.cf (T.exit rfl (T.q (L.a rfl (L.nil (T.aU results177 rfl ⟨_,rfl,?_,he1⟩)))))))
 rw [decide_eq_false (by decide),eq_comm,List.any_eq_false]
 intro h hm
 obtain ⟨k,hk,rfl⟩:=List.getElem_of_mem hm
 have:=hall k (by omega)
 rw [au hk] at this
 rw [this];decide
def qP (l:List St):List Value:=l.flatMap St.cells
theorem Bd:∀ (r:List St) (i:Nat),i<r.length→((qP r).drop (i*4)).take 4=(r.getD i st0).cells
 | [],i,h=>by simp at h
 | p::r,0,_=>rfl
 | p::r,i+1,h=>by
  have ih:=Bd r i (by simpa using h)
  have e:qP (p::r) = .int .i64 p.a :: .int .i64 p.b :: .int .i64 p.f :: .int .i64 p.r::qP r:=rfl
  rw [e,show (i+1)*4=i*4+1+1+1+1 by omega,List.drop_succ_cons,List.drop_succ_cons,List.drop_succ_cons,List.drop_succ_cons,ih]
  rfl
theorem Bf (s:St):∀ u∈s.cells,u.oneCell'=true:=by intro u hu;simp [St.cells] at hu;rcases hu with (rfl|rfl|rfl|rfl) <;> rfl
theorem F8 (lo lo2 b1 b2:Nat) (c:CxV) (s:St) (q:Value) (l:List St) (w:World) (hB1:Blk w b1 c.cells 46) (hB2:Blk w b2 s.cells 277) (hc:Pts lo w c.pv c.ps) (hf:NfL c.ps) (hs:s.ok c.ps) (hl:∀ t∈l,t.ok c.ps) (hq:Sl lo2 w q l.length 4 (qP l)) :
  Calls Tryz.prog 210 #[q,.func (.func 211) #[] #[.pointer (some ⟨b1,0,none⟩),.pointer (some ⟨b2,0,none⟩)]] w (Ret fun v w'=>∃ r:Int,v = .int .i64 r∧decide (0≤r)=l.any (iT c.ps s)∧Ext w w'):=by
 have hle:=Sl.le hq
 refine T.enter (vs:=[q,.func (.func 211) #[] #[.pointer (some ⟨b1,0,none⟩),.pointer (some ⟨b2,0,none⟩)]]) func210 rfl ntmps210 rfl ?_
 refine T.q (L.a rfl (L.nil (T.seq (T.q (L.m rfl (L.o (O.len runUnderlying280 rfl (Sl.val hq) (L.m rfl (L.nil (T.block (?_)))))))))))
 refine T.loop (σ:=Nat) (fun i=>[(1,.func (.func 211) #[] #[.pointer (some ⟨b1,0,none⟩),.pointer (some ⟨b2,0,none⟩)]),(7,q),(8,.int .i64 l.length),(9,.int .i64 i)]) (fun i w'=>i≤l.length∧Ext w w'∧∀ k,k<i→iT c.ps s (l.getD k st0)=false) (fun i=>l.length-i) (0) ⟨rfl,rfl,rfl,rfl,trivial⟩ ⟨Nat.zero_le _,Keep.refl _ _,fun k hk=>absurd hk (Nat.not_lt_zero _)⟩ ?_
 rintro i w1 ⟨hi,he1,hall⟩
 refine T.q (L.o (O.bF rfl rfl (fun hlt=>?_) (fun hlt=>?_)))
 ·refine L.nil (?_)
  have hlt':i<l.length:=by omega
  have hm:l.getD i st0∈l:=by rw [au hlt'];exact List.getElem_mem hlt'
  have hq1:Sl lo2 w1 q l.length 4 (qP l):=Sl.ext hq he1
  refine T.seq (T.ct (T.skip (T.seq (T.block (T.q (L.m rfl (L.o (O.indexAddr runUnderlying280 sizeOf277 rfl rfl hq1 (by omega) (by omega) (L.o (O.ak isAgg277 sizeOf277 rfl rfl (show Row w1 ((jd q).add ((i:Int).toNat*4)) (l.getD i st0).cells by rw [Int.toNat_natCast,← Bd l i hlt'];obtain ⟨_,_,_,_,hr⟩:=Sl.there hq1 (by omega);exact hr.part (i*4) 4) (L.o (O.alloc zeroValue277 (fun b5 w5 hb5 hz5 he5 hB5=>?_)))))))))))))
  refine L.a rfl (L.o (O.aC sizeOf277 rfl rfl rfl hB5 (Nat.le_refl _) (Bf _) (fun w3 hu3 hB3=>?_)))
  have hX3:Blk w3 b5 (l.getD i st0).cells 277:=hB3
  have dn:Ext w1 w3:=he5.upd hu3 (.inr (by omega))
  refine L.nil (T.q (L.m rfl (L.o (O.ak isAgg277 sizeOf277 rfl rfl hX3.row (L.o (O.call (xs:=[.tmp 15]) call211 rfl rfl (FN lo b1 b2 c s (l.getD i st0) w3 (Blk.ext (cs:=c.cells) hB1 (he1.trans dn)) (Blk.ext (cs:=s.cells) hB2 (he1.trans dn)) (hc.ext (he1.trans dn)) hf hs (hl _ hm)) (fun v4 w4 hq=>?_)))))))
  obtain ⟨hv4,he4⟩:=hq
  rcases hb:iT c.ps s (l.getD i st0) with _|_
  ·refine L.nil (?_)
   rw [hb] at hv4
   subst hv4
   refine T.cf (T.skip (T.blk (T.region (L.o (O.aI rfl rfl (by omega) (L.m rfl (L.nil (T.again (i+1) (by omega) ⟨rfl,rfl,rfl,rfl,trivial⟩ ⟨hlt',he1.trans (dn.trans he4),fun k hk=>?_⟩))))))))
   ·by_cases e:k=i
    ·subst e;exact hb
    exact hall k (by omega)
  refine L.nil (?_)
  rw [hb] at hv4
  subst hv4
  refine T.ct (T.q (L.m rfl (L.a rfl (L.nil (T.aU results210 rfl ⟨_,rfl,?_,he1.trans (dn.trans he4)⟩)))))
  rw [decide_eq_true (by omega),eq_comm,List.any_eq_true]
  exact ⟨_,hm,hb⟩
 refine L.nil (T.seq (T.cf (T.exit rfl (T.q (L.a rfl (L.nil (T.aU results210 rfl ⟨_,rfl,?_,he1⟩)))))))
 rw [decide_eq_false (by decide),eq_comm,List.any_eq_false]
 intro h hm
 obtain ⟨k,hk,rfl⟩:=List.getElem_of_mem hm
 have:=hall k (by omega)
 rw [au hk] at this
 rw [this];decide
open Go Go.E
def abe (n:Nat) (cs:List Value) (v:Value) (w:World):Prop:=Sl 0 w v n 1 cs
theorem abe.st {n:Nat} {cs:List Value} : ∀ v w w',Ext w w'→abe n cs v w→abe n cs v w':=fun _ _ _ he h=>Sl.ext h he
def QM (base:Nat) (cs:List Value) (v:Value) (w:World):Prop:=w.ownsRow base 30 1 v cs.length cs
theorem QM.st {base:Nat} {cs:List Value} : ∀ v w w',Ext w w'→QM base cs v w→QM base cs v w':=fun _ _ _ he h=>aG h he (Nat.zero_le _)
theorem QM.mono {base base':Nat} {cs:List Value} {v:Value} {w:World} (h:QM base cs v w) (hb:base'≤base):QM base' cs v w :=
 ⟨h.1,h.2.imp id fun ⟨g,cap,cur,e,h1,rest⟩=>⟨g,cap,cur,e,Nat.le_trans hb h1,rest⟩⟩
theorem Vh {base n:Nat} {w:World} {el:TypeId} {v:Value} {cs:List Value} (h:w.ownsRow base el 1 v n cs) (hne:0<n):∃ b cap cur,v = .slice (some ⟨b,0,none⟩) n cap∧base≤b∧Blk w b cur el∧n≤cap∧cap≤maxLen∧cur.length=cap*1∧cur.take (n*1)=cs:=by
 have hl:=h.1
 rcases h.2 with ⟨_,h0⟩|⟨g,cap,cur,rfl,hbase,hg,hn,hm,hsz,htk⟩
 ·subst h0;simp at hl;omega
 exact ⟨g,cap,cur.toList,rfl,hbase,by unfold Blk;simpa using hg,hn,hm,by simpa using hsz,htk⟩
theorem Lc {base b n cap:Nat} {w:World} {el:TypeId} {cur cs:List Value} (hb:base≤b) (hB:Blk w b cur el) (hn:n≤cap) (hm:cap≤maxLen) (hl:cur.length=cap*1) (ht:cur.take (n*1)=cs) (hc:cs.length=n*1):w.ownsRow base el 1 (.slice (some ⟨b,0,none⟩) n cap) n cs :=
 ⟨hc,.inr ⟨b,cap,cur.toArray,rfl,hb,hB,hn,hm,by simpa using hl,by simpa using ht⟩⟩
theorem F9 (lo:Nat) (p:Value) (cs:List Value) (w:World) (hp:Sl lo w p cs.length 1 cs) (hone:∀ c∈cs,c.oneCell'=true) (hlen:cs.length≤100000) :
  Calls Tryz.prog 215 #[p] w (Ret fun v w'=>Ext w w'∧QM w.heap.size cs v w'):=by
 refine T.enter (vs:=[p]) func215 rfl ntmps215 rfl ?_
 refine T.q (L.a rfl (L.nil (T.seq (T.q (L.m rfl (L.o (O.E8 runUnderlying125 rfl rfl hp (fun hn=>?_) (fun hn=>?_))))))))
 ·refine L.nil (T.ct (T.q (L.a rfl (L.nil (T.aU results215 rfl ⟨Keep.refl _ _,?_⟩)))))
  have:cs = []:=List.length_eq_zero_iff.1 hn
  subst this
  exact eG _ _ _ _
 refine L.nil (T.cf (T.skip (T.q (L.o (O.buildSlice (el:=30) (parts:=[]) (vs:=[]) (cs:=[]) rfl (fun w=>by kernel_rfl) (fun b5 w5 hb5 hz5 he5 hB5=>?_))))))
 have hO5:w5.ownsRow w.heap.size 30 1 (.slice (some ⟨b5,0,none⟩) 0 0) 0 []:=kX (n:=0) hB5 (by omega) (Nat.le_refl _) (by decide) rfl
 refine L.m rfl (L.o (O.append (size:=1) (bytes:=24) runUnderlying125 Tryz.nT rfl rfl rfl rfl (by decide) rfl rfl hO5 (show Sl lo w5 p cs.length 1 cs from Sl.ext hp he5) hone (by omega) (by simp only [maxLen];omega) (by omega) (fun v7 w7 hO7 hG7=>?_)))
 refine L.a rfl (L.nil (T.aU results215 rfl ⟨he5.fO hO5 hG7 (by omega),?_⟩))
 have:0+cs.length=cs.length:=Nat.zero_add _
 rw [this] at hO7
 simpa [QM] using hO7
theorem Du (base i:Nat) (m k:Int) (v:Value) (cs:List Value) (w:World) (hO:QM base cs v w) (hone:∀ c∈cs,c.oneCell'=true) (hi:i<cs.length) (hlen:cs.length≤100000) (hm:m=i) (hk:k=(i:Int)+1) :
  Calls Tryz.prog 214 #[v,.int .i64 m,.int .i64 k] w (Ret fun v' w'=>Loc v w w'∧w'.ownsRow base 30 1 v' (cs.length-1) (cs.take i++cs.drop (i+1))):=by
 have hone':∀ c∈cs.drop (i+1),c.oneCell'=true:=fun c hc=>hone c (List.mem_of_mem_drop hc)
 have hSl:Sl 0 w v cs.length 1 cs:=(Sl.aT hO).mono (Nat.zero_le _)
 refine T.enter (vs:=[v,.int .i64 m,.int .i64 k]) func214 rfl ntmps214 rfl ?_
 refine T.q (L.a rfl (L.nil (T.q (L.m rfl (L.m rfl (L.m rfl (L.m rfl (L.o (O.len runUnderlying125 rfl (Sl.val hSl) (?_))))))))))
 subst hm
 subst hk
 obtain ⟨b,cap,cur,rfl,hb,hB,hnc,hcm,hcl,hct⟩:=Vh hO (by omega)
 refine L.o (O.slice3 (l:=i) (h:=i+1) (m:=cs.length) runUnderlying125 sizeOf30 rfl rfl rfl rfl (by omega) (by omega) (by omega) (fun v13=>?_))
 refine L.nil (T.seq (T.q (L.m rfl (L.m rfl (L.o (O.gX rfl rfl (by omega) (L.nil (T.cf (T.skip (T.q (L.m rfl (L.o (O.len runUnderlying125 rfl (Sl.val hSl) (L.a rfl (L.nil (T.seq (?_)))))))))))))))))
 refine T.fJ mixed 6 [0,1,2] rfl [.is _,.is _,.is _,.is _,.is _,.such (abe (cs.length-(i+1)) (cs.drop (i+1)))] [[],[],[0,1],[],[],[3,4]] [[],[],[0,1],[],[],[3,4],[0,1,2,3,4,5],[0,1,2,3,4,5,6]] (by kernel_rfl) (by kernel_rfl) rfl (by kernel_rfl) ⟨abe.st,trivial⟩ ⟨fun wx hx=>Ob.o (O.move rfl kR),
   fun wx hx=>Ob.o (O.move rfl kR),
   fun wx hx=>Ob.o (O.lq runUnderlying125 sizeOf30 rfl rfl (by omega) (by omega) kR),
   fun wx hx=>Ob.o (O.move rfl kR),
   fun wx hx=>Ob.o (O.move rfl kR),
   fun wx hx=>Ob.o (O.ad4 runUnderlying125 sizeOf30 rfl rfl (hSl.ext hx) (by omega) (by omega) (fun v25 ahj=>⟨Keep.refl _ _,by rw [show ((i:Int)+1).toNat=i+1 by omega,Nat.mul_one] at ahj;exact ahj⟩)),
   trivial⟩ (fun w14 eX v25 hv25=>?_)
 refine L.o (O.Nv (size:=1) runUnderlying125 Tryz.nT rfl rfl rfl (hB.ext eX) hv25 hone' (by omega) hcl (fun w15 aaj Dl=>?_))
 have hi':(i:Int).toNat=i:=Int.toNat_natCast i
 rw [hi'] at Dl
 obtain ⟨ds,hds⟩:∃ ds,ds=cs.take i++cs.drop (i+1):=⟨_,rfl⟩
 have hl':ds.length=i+(cs.length-(i+1)):=by rw [hds,List.length_append,List.length_take,List.length_drop];omega
 have hti:cur.take (i*1)=cs.take i:=by rw [← hct,List.take_take,Nat.mul_one,Nat.mul_one,Nat.min_eq_left (by omega)]
 obtain ⟨es,hes⟩:∃ es,es=cur.take (i*1)++cs.drop (i+1)++cur.drop (i*1+(cs.drop (i+1)).length):=⟨_,rfl⟩
 rw [← hes] at Dl
 have adx:es.length=cap*1:=by rw [hes];simp only [List.length_append,List.length_take,List.length_drop];omega
 have ahk:es.take (ds.length*1)=ds:=by
  rw [hes,hti,← hds,Nat.mul_one,List.take_left]
 rw [hi']
 rw [← hl']
 have abf:=Lc (n:=ds.length) hb Dl (by omega) hcm adx ahk (by omega)
 refine L.a rfl (L.nil (T.q (L.m rfl (L.m rfl (L.o (O.len runUnderlying125 rfl (Sl.val (Sl.aT abf)) (L.m rfl (L.o (O.UW runUnderlying125 sizeOf30 rfl rfl rfl (by omega) (by omega) (by omega) (L.o (O.Yh runUnderlying125 zeroValue30 (by intro u hu;simp [Value.cells] at hu;rcases hu with (rfl|rfl|rfl|rfl|rfl|rfl) <;> rfl) rfl (by omega) Dl (by rw [adx];show ds.length*1+(cs.length-ds.length)*1≤cap*1;omega) (fun w16 Dn ⟨es',hel,het,Io⟩=>?_))))))))))))
 have abg:=Lc (n:=ds.length) (cs:=ds) hb Io (by omega) hcm (by omega) (by rw [het,ahk]) (by omega)
 have hloc:Loc (.slice (some ⟨b,0,none⟩) cs.length cap) w w16:=((Loc.aV eX).trans (Loc.kJ aaj rfl)).trans (Loc.kJ Dn rfl)
 refine L.nil (T.q (L.m rfl (L.a rfl (L.nil (T.aU results214 rfl ⟨hloc,by rw [← hds,show cs.length-1=ds.length by omega];exact abg⟩)))))
open Go Go.E
def keyS (s:St):Pt:=((s.a:Int),(s.b:Int))
def NQ (f:FaV) (r:Nat):FaV:=⟨f.o,undef,f.hs.eraseIdx (r-1)⟩
def dM (ps:List Pt) (fs:List FaV) (s:St):Bool:=decide (s.r≠0) && !dF ps 2 (NQ (fs.getD s.f f0) s.r) (oQ ps s)
def jC (ps:List Pt) (fs:List FaV) (s:St) (i:Nat):Bool:=decide (i≠s.f) && dF ps 2 (fs.getD i f0) (oQ ps s)
def fV (ps:List Pt) (fs:List FaV) (s:St):Bool:=(List.range fs.length).any (jC ps fs s)
def ig (ps:List Pt) (L:List St) (i:Nat):Bool:=(L.take i).any (iT ps (L.getD i st0))
def bV (ps:List Pt) (fs:List FaV):Bool:=!decide ((stL fs).map keyS).Nodup || ((List.range (stL fs).length).any (ig ps (stL fs)) || ((stL fs).any (dM ps fs) || (stL fs).any (fV ps fs)))
theorem aje {ps:List Pt} {fs:List FaV} (h:¬ ((stL fs).map keyS).Nodup):bV ps fs=true:=by
 rw [bV,decide_eq_false h];rfl
theorem XF {α:Type} {L:List α} {d:α} {p:α→Bool} {i:Nat} (hi:i<L.length) (h:p (L.getD i d)=true):L.any p=true :=
 List.any_eq_true.2 ⟨_,by rw [au hi];exact List.getElem_mem hi,h⟩
theorem QN {α:Type} {L:List α} {d:α} {p:α→Bool} (h:∀ k,k<L.length→p (L.getD k d)=false):L.any p=false :=
 List.any_eq_false.2 fun x hx=>by
  obtain ⟨k,hk,rfl⟩:=List.getElem_of_mem hx
  have:=h k hk
  rw [au hk] at this
  rw [this];decide
theorem Ld {p:Nat→Bool} {n i:Nat} (hi:i<n) (h:p i=true):(List.range n).any p=true:=List.any_eq_true.2 ⟨i,List.mem_range.2 hi,h⟩
theorem Gf {p:Nat→Bool} {n:Nat} (h:∀ k,k<n→p k=false):(List.range n).any p=false:=List.any_eq_false.2 fun x hx=>by rw [h x (List.mem_range.1 hx)];decide
theorem ajf {ps:List Pt} {fs:List FaV} {i:Nat} (hi:i<(stL fs).length) (h:ig ps (stL fs) i=true):bV ps fs=true:=by
 rw [bV,Ld hi h,Bool.true_or,Bool.or_true]
theorem ajg {ps:List Pt} {fs:List FaV} {i:Nat} (hi:i<(stL fs).length) (h:dM ps fs ((stL fs).getD i st0)=true):bV ps fs=true:=by
 rw [bV,XF (p:=dM ps fs) hi h,Bool.true_or,Bool.or_true,Bool.or_true]
theorem ajh {ps:List Pt} {fs:List FaV} {i:Nat} (hi:i<(stL fs).length) (h:fV ps fs ((stL fs).getD i st0)=true):bV ps fs=true:=by
 rw [bV,XF (p:=fV ps fs) hi h,Bool.or_true,Bool.or_true,Bool.or_true]
theorem aeQ {ps:List Pt} {fs:List FaV} (h1:((stL fs).map keyS).Nodup) (h2:∀ k,k<(stL fs).length→ig ps (stL fs) k=false) (h3:∀ k,k<(stL fs).length→dM ps fs ((stL fs).getD k st0)=false) (h4:∀ k,k<(stL fs).length→fV ps fs ((stL fs).getD k st0)=false):bV ps fs=false:=by
 rw [bV,decide_eq_true h1,Gf h2,QN h3,QN h4];rfl
def abh (bad:Bool) (w:World) (v:Value) (w':World):Prop:=∃ k a:Int,v = .tuple #[.int .i64 k,.int .i64 a]∧decide (0<k)=bad∧Ext w w'
theorem Le {s t:St} (h:s.val=t.val):t=s:=by
 obtain ⟨a,b,f,r⟩:=s
 obtain ⟨a',b',f',r'⟩:=t
 have h:=congrArg Value.cells h
 simp [St.val,Value.cells] at h
 obtain ⟨h1,h2,h3,h4⟩:=h
 obtain rfl:a=a':=by omega
 obtain rfl:b=b':=by omega
 obtain rfl:f=f':=by omega
 obtain rfl:r=r':=by omega
 rfl
structure EF (w0:World) (c:CxV) (b1 b2 b3 bi:Nat) (ds:List Nat) (W:World):Prop where
 e:Ext w0 W
 c1:Blk W b1 c.cells 46
 c2:Blk W b2 [.int .i64 0] 3
 c3:Blk W b3 [.int .i64 0] 3
 ci:Blk W bi c.cells 46
 o:Opn ds W
section
variable {w0:World} {c:CxV} {b1 b2 b3 bi b m:Nat} {ds:List Nat} {w W W':World} {S:Nat→Prop} {B:Prop} {kd:Int}
theorem EF.ext (h:EF w0 c b1 b2 b3 bi ds W) (k:Ext W W'):EF w0 c b1 b2 b3 bi ds W' :=
 ⟨h.e.trans k,Blk.ext (cs:=c.cells) h.c1 k,Blk.ext (cs:=[.int .i64 0]) h.c2 k,Blk.ext (cs:=[.int .i64 0]) h.c3 k,Blk.ext (cs:=c.cells) h.ci k,h.o.ext k⟩
theorem EF.upd (h:EF w0 c b1 b2 b3 bi ds W) (k:Upd b W W') (h0:w0.heap.size≤b) (n1:b1≠b) (n2:b2≠b) (n3:b3≠b) (ni:bi≠b) (no:∀ r∈ds,r≠b):EF w0 c b1 b2 b3 bi ds W' :=
 ⟨h.e.upd k (.inr h0),Blk.upd h.c1 k n1,Blk.upd h.c2 k n2,Blk.upd h.c3 k n3,Blk.upd h.ci k ni,h.o.upd k no⟩
theorem Blk.Gg {cs:List Value} {t:TypeId} {row:Option Nat} (h:Blk W b cs t) (hG:W.grownBy W' row) (hn:∀ j,row=some j→j≠b):Blk W' b cs t:=(hG.block b h.lt (fun e=>hn b e.symm rfl)).trans h
theorem EF.grown {el:TypeId} {sz n:Nat} {q:Value} {xs:List Value} (h:EF w0 c b1 b2 b3 bi ds W) (hO:W.ownsRow m el sz q n xs) (hG:W.grownBy W' q.ownBlock) (h0:w0.heap.size≤m) (n1:b1<m) (n2:b2<m) (n3:b3<m) (ni:bi<m) (no:∀ r∈ds,r<m):EF w0 c b1 b2 b3 bi ds W' :=
 have hj:∀ j,q.ownBlock=some j→m≤j:=fun j hj=>(kC hO hj).1
 ⟨Keep.grown h.e hG (fun j e=>.inr (Nat.le_trans h0 (hj j e))),Blk.Gg h.c1 hG (fun j e=>by have:=hj j e;omega),Blk.Gg h.c2 hG (fun j e=>by have:=hj j e;omega),Blk.Gg h.c3 hG (fun j e=>by have:=hj j e;omega),Blk.Gg h.ci hG (fun j e=>by have:=hj j e;omega),
  ⟨h.o.1,fun r hr=>(hG.block r (h.o.lt r hr) (fun e=>by have:=hj r e.symm;have:=no r hr;omega)).trans (h.o.2 r hr)⟩⟩
def LJ {σ:Type} (m:Nat) (A:σ→(Nat→Prop)→World→Prop) (i:σ) (S:Nat→Prop) (W:World):Prop:=(∀ k,S k→m≤k∧k<W.heap.size)∧m≤W.heap.size∧A i S W
theorem LJ.FH {σ:Type} {A:σ→(Nat→Prop)→World→Prop} (h1:∀ i S S' W W',(∀ k,S k→k<W.heap.size)→A i S W→Ext W W'→(∀ k,S' k→S k∨W.heap.size≤k∧k<W'.heap.size)→A i S' W') (h2:∀ i S W W' b,A i S W→S b→m≤b→Upd b W W'→A i S W'):zU (LJ m A):=by
 refine ⟨?_,?_⟩
 ·rintro i S S' W W' ⟨a1,a2,a3⟩ he hS
  refine ⟨fun k hk=>?_,Nat.le_trans a2 he.size,h1 i S S' W W' (fun k hk=>(a1 k hk).2) a3 he hS⟩
  rcases hS _ hk with h|h
  ·exact ⟨(a1 k h).1,Nat.lt_of_lt_of_le (a1 k h).2 he.size⟩
  exact ⟨Nat.le_trans a2 h.1,h.2⟩
 rintro i S W W' b ⟨a1,a2,a3⟩ hb hu
 exact ⟨fun k hk=>by rw [hu.size];exact a1 k hk,by rw [hu.size];exact a2,h2 i S W W' b a3 hb (a1 b hb).1 hu⟩
theorem LJ.start {σ:Type} {A:σ→(Nat→Prop)→World→Prop} {i:σ} (h:A i (fun _=>False) W):LJ W.heap.size A i (fun _=>False) W:=⟨fun _ h=>h.elim,Nat.le_refl _,h⟩
def EX (B:Prop) (w0:World) (b2 b3:Nat) (kd:Int) (m:Nat) (ds:List Nat) (S:Nat→Prop) (W:World):Prop :=
 B∧(∀ k,S k→m≤k∧k<W.heap.size)∧Opn ds W∧∃ a:Int,gV b2 b3 3 3 (.int .i64 kd) (.int .i64 a) w0 W
theorem EX.upd (h:EX B w0 b2 b3 kd m ds S W) (hb:S b) (hu:Upd b W W') (h0:w0.heap.size≤m) (n2:b2<m) (n3:b3<m) (no:∀ r∈ds,r<m):EX B w0 b2 b3 kd m ds S W':=by
 obtain ⟨h1,hS,ho,a,hd⟩:=h
 have hmb:=(hS b hb).1
 exact ⟨h1,fun k hk=>by rw [hu.size];exact hS k hk,ho.upd hu (fun r hr=>by have:=no r hr;omega),a,
  ⟨hu.os.trans hd.os,hu.tape.trans hd.tape,hu.output.trans hd.output,by rw [hu.size];exact hd.size,fun k hk e2 e3=>by rw [hu.block k (by omega),hd.block k hk e2 e3],Blk.upd hd.c2 hu (by omega),Blk.upd hd.c3 hu (by omega)⟩⟩
theorem EX.of {a:Int} (hB:B) (hE:EF w0 c b1 b2 b3 bi ds w) (hS:∀ k,S k→m≤k∧k<w.heap.size) (hd:gV b2 b3 3 3 (.int .i64 kd) (.int .i64 a) w W):EX B w0 b2 b3 kd m ds S W :=
 ⟨hB,fun k hk=>⟨(hS k hk).1,Nat.lt_of_lt_of_le (hS k hk).2 hd.size⟩,Opn.done hE.o hd hE.c2 hE.c3,a,hd.from hE.e⟩
theorem gV.Vj {a:Int} (hd:gV b2 b3 3 3 (.int .i64 kd) (.int .i64 a) w W) (hS:∀ k,S k→m≤k∧k<w.heap.size) (n2:b2<m) (n3:b3<m):∀ k,S k→W.heap[k]?=w.heap[k]?:=fun k hk=>by
 have:=hS k hk
 exact hd.block k this.2 (by omega) (by omega)
end
def Vk (kvs:List (Pt × Bool)) (ks:List Pt):Prop:=∀ p,(iG kvs p).getD false=decide (p∈ks)
theorem Vk.put {kvs:List (Pt × Bool)} {ks:List Pt} {k:Pt} (h:Vk kvs ks):Vk (vT kvs k true) (ks ++ [k]):=fun p=>by
 rw [KF]
 by_cases e:p=k
 ·simp [e]
 rw [if_neg e,h p];simp [e]
theorem Vk.nil:Vk [] []:=fun p=>by simp [KG]
theorem Bg {α:Type} {ks:List α} {k:α} (h:ks.Nodup) (hk:k∉ks):(ks ++ [k]).Nodup:=by
 rw [List.nodup_append]
 exact ⟨h,by simp,fun a ha b hb=>by rw [List.mem_singleton] at hb;subst hb;exact fun e=>hk (e▸ha)⟩
theorem Dv {α β:Type} {L:List α} {d:α} (f:α→β) {i:Nat} (hi:i<L.length):(L.take (i+1)).map f=(L.take i).map f ++ [f (L.getD i d)]:=by
 rw [au hi,List.take_succ_eq_append_getElem hi,List.map_append];rfl
theorem QO {α β:Type} {L:List α} {d:α} (f:α→β) {i:Nat} (hi:i<L.length) (h:f (L.getD i d)∈(L.take i).map f):¬ (L.map f).Nodup:=fun hn=>by
 have h1:(L.map f).take (i+1)=(L.take i).map f ++ [f (L.getD i d)]:=by rw [← Dv f hi,List.map_take]
 have h2:=hn.sublist (List.take_sublist (i+1) (L.map f))
 rw [h1,List.nodup_append] at h2
 exact h2.2.2 _ h _ (by simp) rfl
theorem Jr {fs:List FaV} {s:St} (h:s∈stL fs):s.f<fs.length∧s.r<(fs.getD s.f f0).ri.length:=by
 simp only [stL,pre,gF,stF,gR,stR,List.mem_flatMap,List.mem_range,List.mem_map] at h
 obtain ⟨f,hf,r,hr,i,hi,rfl⟩:=h
 exact ⟨hf,hr⟩
theorem Js (l:List St) (s:St):qP (l ++ [s])=qP l++s.cells:=by simp [qP]
theorem take_snoc {L:List St} {i:Nat} (hi:i<L.length):L.take (i+1)=L.take i ++ [L.getD i st0]:=by
 rw [au hi,List.take_succ_eq_append_getElem hi]
theorem Vl (hs:List RiV) (i:Nat):aJ (hs.eraseIdx i)=(aJ hs).take i++(aJ hs).drop (i+1):=by
 rw [List.eraseIdx_eq_take_drop_succ,aJ,aJ,List.map_append,List.map_take,List.map_drop]
theorem Gh (hs:List RiV):(aJ hs).length=hs.length:=by simp [aJ]
set_option maxHeartbeats 2000000 in
theorem Jt (lo:Nat) (c:CxV) (w:World) (hc:c.ok lo w) (hf:NfL c.ps) (hx:IxC c) (hst:∀ s∈stL c.fs,s.ok c.ps) (hlen:(stL c.fs).length≤100000) :
  Calls Tryz.prog 189 #[c.val] w (Ret fun v w'=>abh (bV c.ps c.fs) w v w'):=by
 refine T.Pz (vs:=[c.val]) func189 rfl ntmps189 rfl ?_
 refine T.q (L.o (O.box rfl (fun b1 w1 hb1 hz1 he1 hB1=>?_)))
 refine L.o (O.alloc zeroValue3 (fun b2 w2 hb2 hz2 he2 hB2=>?_))
 refine L.o (O.alloc zeroValue3 (fun b3 w3 hb3 hz3 he3 hB3=>?_))
 refine L.nil (T.q (L.o (O.qC (kf:=pV) (vf:=Value.bool) (fun b4 w4 hb4 hz4 he4 hM4=>?_))))
 refine L.o (O.alloc zeroValue272 (fun b5 w5 hb5 hz5 he5 hB5=>?_))
 refine L.o (O.store1 sizeOf272 rfl rfl rfl hB5 (by simp [Value.cells]) (fun w6 hu6 hB6=>?_))
 have dn:Ext w1 w3:=he2.trans he3
 have jq:Ext w1 w5:=dn.trans (he4.trans he5)
 have hE6:EF w c b1 b2 b3 b1 [] w6:=EF.upd ⟨he1.trans jq,Blk.ext (cs:=c.cells) hB1 jq,Blk.ext (cs:=[.int .i64 0]) hB2 (he3.trans (he4.trans he5)),Blk.ext (cs:=[.int .i64 0]) hB3 (he4.trans he5),Blk.ext (cs:=c.cells) hB1 jq,Opn.nil _⟩ hu6 (by omega) (by omega) (by omega) (by omega) (by omega) (fun r hr=>by cases hr)
 have hM6:o9 pV Value.bool w6 b4 []:=(hM4.keep he5 (Nat.zero_le _)).upd hu6 (by omega)
 obtain ⟨tm,hB6⟩:∃ t,Blk w6 b5 [.map (some b4)] t:=⟨_,hB6⟩
 have hz6:w6.heap.size=b5+1:=by rw [hu6.size,hz5]
 refine L.nil (T.seq (T.q (L.o (O.ak isAgg46 sizeOf46 rfl rfl hE6.c1.row (L.o (O.call (xs:=[.tmp 15]) call209 rfl rfl (lK c w6) (fun v7 w7 hq=>?_)))))))
 obtain ⟨rfl,he7,adk⟩:=hq
 have hz7:w7.heap.size≤w7.heap.size:=Nat.le_refl _
 have amr:=adk.lt
 have hE7:EF w c b1 b2 b3 w6.heap.size [] w7:=⟨(hE6.ext he7).e,(hE6.ext he7).c1,(hE6.ext he7).c2,(hE6.ext he7).c3,adk,Opn.nil _⟩
 have h57:=Blk.ext (cs:=[.map (some b4)]) hB6 he7
 have hM7:=hM6.keep he7 (Nat.zero_le _)
 refine L.nil (T.block (?_))
 refine T.jm (e1:=fun v x=>[(1,.pointer (some ⟨b1,0,none⟩)),(2,.pointer (some ⟨b2,0,none⟩)),(3,.pointer (some ⟨b3,0,none⟩)),(4,.pointer (some ⟨b5,0,none⟩)),(5,.pointer (some ⟨x,0,none⟩))]) (LJ w7.heap.size (fun i _ W=>EF w c b1 b2 b3 w6.heap.size [] W∧Blk W b5 [.map (some b4)] tm∧(∃ kvs,o9 pV Value.bool W b4 kvs∧Vk kvs (((stL c.fs).take i).map keyS))∧(((stL c.fs).take i).map keyS).Nodup)) (fun c' S w'=>c' = .ret∧EX (¬ ((stL c.fs).map keyS).Nodup) w b2 b3 7 w7.heap.size [] S w') (fun v x w'=>∃ s:St,v=s.val∧Blk w' x s.cells 277) rfl call245 rfl (qM w6.heap.size lo c hx) ?_ ?_ ?_ ?_ ?_ ?_ ?_ ?_ ?_ ?_ ?_
 ·refine LJ.FH ?_ ?_
  ·rintro i S S' W W' _ ⟨h1,h2,⟨kvs,h3,h4⟩,h5⟩ he _
   exact ⟨h1.ext he,Blk.ext (cs:=[.map (some b4)]) h2 he,⟨kvs,h3.keep he (Nat.zero_le _),h4⟩,h5⟩
  rintro i S W W' b ⟨h1,h2,⟨kvs,h3,h4⟩,h5⟩ _ hmb hu
  exact ⟨h1.upd hu (by omega) (by omega) (by omega) (by omega) (by omega) (fun r hr=>by cases hr),Blk.upd h2 hu (by omega),⟨kvs,h3.upd hu (by omega),h4⟩,h5⟩
 ·exact fun c' S W W' b h hb hu=>⟨h.1,h.2.upd hb hu (by omega) (by omega) (by omega) (by simp;try omega)⟩
 ·exact fun i S W h=>⟨hc.ext h.2.2.1.e,h.2.2.1.ci⟩
 ·exact LJ.start ⟨hE7,h57,⟨[],hM7,Vk.nil⟩,by simp⟩
 ·exact fun k hk=>hk.elim
 ·exact fun W hW=>trivial
 ·rintro v x W W' b' ⟨s,h1,h2⟩ hne hu
  exact ⟨s,h1,h2.upd hu (Ne.symm hne)⟩
 ·intro l Q i j v k W hn hK
  obtain ⟨hi,rfl,_⟩:=hn
  refine T.region (L.o (O.alloc zeroValue277 (fun b58 w58 aeR aeS Uz Vm=>?_)))
  refine L.o (O.aC sizeOf277 rfl rfl rfl Vm (Nat.le_refl _) (Bf _) (fun w59 YA YB=>?_))
  refine L.nil (T.sub ?_ (hK b58 _ (by omega) (Uz.upd YA (.inr (by omega))) ⟨_,rfl,YB⟩))
  exact ⟨rfl,rfl,rfl,rfl,rfl,trivial⟩
 ·rintro l i v x j S w8 ⟨hi,rfl,rfl⟩ ⟨hS8,hm8,hE8,h58,⟨kvs,hM8,hk8⟩,hn8⟩ ⟨s',hv,hBx⟩
  obtain ⟨s,hs⟩:∃ s,(stL c.fs).getD i st0=s:=⟨_,rfl⟩
  rw [hs] at hv
  have hss:=Le hv
  subst hss
  refine T.block (T.seq (T.q (L.o (O.load isAgg272 rfl (h58.cell rfl) (L.o (O.fieldAddr runUnderlying277 rfl sizeOf3 rfl (L.o (O.load isAgg3 rfl (hBx.cell rfl) (L.o (O.fieldAddr runUnderlying277 rfl sizeOf3 rfl (L.o (O.load isAgg3 rfl (hBx.cell rfl) (L.o (O.build (v:=pV (keyS s')) (parts:=[(0,.tmp 20),(1,.tmp 22)]) (vs:=[(0,_),(1,_)]) rfl (fun w=>by kernel_rfl) (L.o (O.Qu (kf:=pV) (vf:=Value.bool) (z0:=false) KT runUnderlying272 zeroValue4 rfl rfl hM8 (?_)))))))))))))))))
  cases hb:(iG kvs (keyS s')).getD false
  ·refine L.nil (T.cf (T.skip (T.region (L.o (O.load isAgg272 rfl (h58.cell rfl) (L.o (O.fieldAddr runUnderlying277 rfl sizeOf3 rfl (L.o (O.load isAgg3 rfl (hBx.cell rfl) (L.o (O.fieldAddr runUnderlying277 rfl sizeOf3 rfl (L.o (O.load isAgg3 rfl (hBx.cell rfl) (L.o (O.build (v:=pV (keyS s')) (parts:=[(0,.tmp 29),(1,.tmp 31)]) (vs:=[(0,_),(1,_)]) rfl (fun w=>by kernel_rfl) (L.o (O.sQ (kf:=pV) (vf:=Value.bool) (v:=_) KT runUnderlying272 rfl rfl rfl hM8 (fun w9 hu9 hM9=>?_))))))))))))))))))
   have hnk:keyS s'∉((stL c.fs).take i).map keyS:=by rw [hk8,decide_eq_false_iff_not] at hb;exact hb
   refine L.nil (T.blk (T.roundEnd ⟨⟨fun k hk=>⟨(hS8 k hk).1,by rw [hu9.size];exact (hS8 k hk).2⟩,by rw [hu9.size];exact hm8,hE8.upd hu9 (by omega) (by omega) (by omega) (by omega) (by omega) (fun r hr=>by cases hr),Blk.upd h58 hu9 (by omega),⟨_,hM9,?_⟩,?_⟩,fun k hk=>hu9.block k (by have:=(hS8 k hk).1;omega)⟩))
   ·rw [Dv (d:=st0) keyS hi,hs];exact hk8.put
   rw [Dv (d:=st0) keyS hi,hs];exact Bg hn8 hnk
  refine L.nil (?_)
  have hbad:¬ ((stL c.fs).map keyS).Nodup:=QO (d:=st0) keyS hi (by rw [hs];rw [hk8,decide_eq_true_eq] at hb;exact hb)
  refine T.ct (T.seq (?_))
  refine T.any mixed 3 1 [5,2] rfl [.is _,.is _,.is undef] [[],[0],[]] [none,none,some 0] [[],[0],[],[0,1,2]] (Ux w8 b2 (.int .i64 7)) (fun _ _=>True) (by kernel_rfl) (by kernel_rfl) (by kernel_rfl) rfl trivial (Keep.drew _ _) ⟨fun c wx hx=>ObK.op rfl (O.fieldAddr runUnderlying277 rfl sizeOf3 rfl ⟨⟨trivial,hx⟩,rfl⟩),
    fun c wx hx=>ObK.op rfl (O.load isAgg3 rfl ((hx.blk hBx (mP hBx hE8.c2 (by decide))).cell rfl) ⟨⟨trivial,hx⟩,rfl⟩),
    fun wx hx=>ObK.op rfl (O.store1 sizeOf3 rfl rfl rfl (Blk.ext (cs:=[.int .i64 0]) hE8.c2 hx) (by simp [Value.cells]) (fun w11 jg oV=>⟨⟨trivial,_,hx,jg,oV⟩,rfl⟩)),
    trivial⟩ (fun w10 aew=>?_)
  obtain ⟨W1,hE,hU,hC⟩:=aew
  refine L.o (O.store1 sizeOf3 rfl rfl rfl (Blk.upd (cs:=[.int .i64 0]) (Blk.ext (cs:=[.int .i64 0]) hE8.c3 hE) hU (by omega)) (by simp [Value.cells]) (fun w11 jg oV=>?_))
  have hd:=gV.of hE hU hC jg oV (by omega)
  refine L.nil (T.je ⟨⟨rfl,EX.of hbad hE8 hS8 hd⟩,fun k hk=>(hd.Vj hS8 (by omega) (by omega) k hk).trans (rfl)⟩)
 ·rintro S D w8 hD hS0 hSD ⟨hS8,hm8,hE8,h58,⟨kvs,hM8,hk8⟩,hn8⟩ hD8
  rw [List.take_length] at hn8
  have ho8:Opn [D] w8:=hE8.o.cons hD8 (by simp)
  have hDl:=ho8.lt D (by simp)
  refine T.blk (T.q (L.o (O.alloc zeroValue280 (fun b9 w9 hb9 hz9 he9 hB9=>?_))))
  have hE9:=hE8.ext he9
  have ho9:=ho8.ext he9
  obtain ⟨tq,hB9⟩:∃ t,Blk w9 b9 [.slice none 0 0] t:=⟨_,hB9⟩
  refine L.nil (T.seq (T.q (L.o (O.ak isAgg46 sizeOf46 rfl rfl hE9.c1.row (L.o (O.call (xs:=[.tmp 33]) call209 rfl rfl (lK c w9) (fun v10 w10 hq=>?_)))))))
  obtain ⟨rfl,gI,abj⟩:=hq
  have Z9:=abj.lt
  have aeT:EF w c b1 b2 b3 w9.heap.size [D] w10:=⟨(hE9.ext gI).e,(hE9.ext gI).c1,(hE9.ext gI).c2,(hE9.ext gI).c3,abj,ho9.ext gI⟩
  have h90:=Blk.ext (cs:=[.slice none 0 0]) hB9 gI
  refine L.nil (T.block (?_))
  refine T.jm (e1:=fun v x=>[(1,.pointer (some ⟨b1,0,none⟩)),(2,.pointer (some ⟨b2,0,none⟩)),(3,.pointer (some ⟨b3,0,none⟩)),(6,.pointer (some ⟨b9,0,none⟩)),(7,.pointer (some ⟨x,0,none⟩))]) (LJ w10.heap.size (fun i S W=>EF w c b1 b2 b3 w9.heap.size [D] W∧(∃ q,Blk W b9 [q] tq∧W.ownsRow w10.heap.size 277 4 q ((stL c.fs).take i).length (qP ((stL c.fs).take i))∧∀ b,q.ownBlock=some b→¬ S b)∧∀ k,k<i→ig c.ps (stL c.fs) k=false)) (fun c' S w'=>c' = .ret∧EX (∃ i,i<(stL c.fs).length∧ig c.ps (stL c.fs) i=true) w b2 b3 8 w10.heap.size [D] S w') (fun v x w'=>∃ s:St,v=s.val∧Blk w' x s.cells 277) rfl call245 rfl (qM w9.heap.size lo c hx) ?_ ?_ ?_ ?_ ?_ ?_ ?_ ?_ ?_ ?_ ?_
  ·refine LJ.FH ?_ ?_
   ·rintro i S S' W W' hb ⟨h1,⟨q,h2,h3,h4⟩,h5⟩ he hS
    refine ⟨h1.ext he,⟨q,Blk.ext (cs:=[q]) h2 he,aG h3 he (Nat.zero_le _),fun b hqb hSb=>?_⟩,h5⟩
    rcases hS b hSb with h|h
    ·exact h4 b hqb h
    have:=(kC h3 hqb).2;omega
   rintro i S W W' b ⟨h1,⟨q,h2,h3,h4⟩,h5⟩ hSb hmb hu
   refine ⟨h1.upd hu (by omega) (by omega) (by omega) (by omega) (by omega) (by simp;omega),⟨q,Blk.upd h2 hu (by omega),?_,h4⟩,h5⟩
   exact wQ (q:=.slice (some ⟨b,0,none⟩) 0 0) h3 (Loc.kJ hu rfl) (fun j hj e=>by cases e;exact h4 b hj hSb)
  ·exact fun c' S W W' b h hb hu=>⟨h.1,h.2.upd hb hu (by omega) (by omega) (by omega) (by simp;try omega)⟩
  ·exact fun i S W h=>⟨hc.ext h.2.2.1.e,h.2.2.1.ci⟩
  ·exact LJ.start ⟨aeT,⟨_,h90,eG _ _ _ _,fun b hb=>by cases hb⟩,fun k hk=>absurd hk (Nat.not_lt_zero _)⟩
  ·exact fun k hk=>hk.elim
  ·exact fun W hW=>trivial
  ·rintro v x W W' b' ⟨s,h1,h2⟩ hne hu
   exact ⟨s,h1,h2.upd hu (Ne.symm hne)⟩
  ·intro l Q i j v k W hn hK
   obtain ⟨hi,rfl,_⟩:=hn
   refine T.region (L.o (O.alloc zeroValue277 (fun b58 w58 aeR aeS Uz Vm=>?_)))
   refine L.o (O.aC sizeOf277 rfl rfl rfl Vm (Nat.le_refl _) (Bf _) (fun w59 YA YB=>?_))
   refine L.nil (T.sub ?_ (hK b58 _ (by omega) (Uz.upd YA (.inr (by omega))) ⟨_,rfl,YB⟩))
   exact ⟨rfl,rfl,rfl,rfl,rfl,trivial⟩
  ·rintro l i v x j S w11 ⟨hi,rfl,rfl⟩ ⟨Yi,aji,EL,⟨q,aeU,ahl,hq11⟩,ajj⟩ ⟨s',hv,hBx⟩
   obtain ⟨s,hs⟩:∃ s,(stL c.fs).getD i st0=s:=⟨_,rfl⟩
   rw [hs] at hv
   have hss:=Le hv
   subst hss
   have hsm:s'∈stL c.fs:=by rw [← hs,au hi];exact List.getElem_mem hi
   have YC:=hc.ext EL.e
   refine T.block (T.seq (T.q (L.o (O.load isAgg280 rfl (aeU.cell rfl) (L.o (O.makeFunc (fi:=[]) (ca:=[.tmp 1,.tmp 7]) rfl rfl (L.o (O.call (xs:=[.tmp 36,.tmp 37]) call210 rfl rfl (F8 lo w10.heap.size b1 x c s' q ((stL c.fs).take i) w11 EL.c1 hBx YC.p hf (hst _ hsm) (fun t ht ↦ hst t (List.mem_of_mem_take ht)) (Sl.aT ahl)) (fun v12 w12 hq=>?_)))))))))
   obtain ⟨r,rfl,hr,fQ⟩:=hq
   have UA:=EL.ext fQ
   have YD:=Blk.ext (cs:=s'.cells) hBx fQ
   have EN:∀ k,S k→w10.heap.size≤k∧k<w12.heap.size:=fun k hk=>⟨(Yi k hk).1,Nat.lt_of_lt_of_le (Yi k hk).2 fQ.size⟩
   have ahm:∀ k,S k→w12.heap[k]?=w11.heap[k]?:=fun k hk=>fQ.block k (Nat.zero_le _) (Yi k hk).2
   have hcb:ig c.ps (stL c.fs) i=decide (0≤r):=by rw [ig,hs,hr]
   refine L.o (O.zT rfl rfl (fun hge=>?_) (fun hge=>?_))
   ·refine L.nil (T.ct (T.seq (?_)))
    refine T.any mixed 3 1 [7,2] rfl [.is _,.is _,.is undef] [[],[0],[]] [none,none,some 0] [[],[0],[],[0,1,2]] (Ux w12 b2 (.int .i64 8)) (fun _ _=>True) (by kernel_rfl) (by kernel_rfl) (by kernel_rfl) rfl trivial (Keep.drew _ _) ⟨fun c wx hx=>ObK.op rfl (O.fieldAddr runUnderlying277 rfl sizeOf3 rfl ⟨⟨trivial,hx⟩,rfl⟩),
      fun c wx hx=>ObK.op rfl (O.load isAgg3 rfl ((hx.blk YD (mP YD UA.c2 (by decide))).cell rfl) ⟨⟨trivial,hx⟩,rfl⟩),
      fun wx hx=>ObK.op rfl (O.store1 sizeOf3 rfl rfl rfl (Blk.ext (cs:=[.int .i64 0]) UA.c2 hx) (by simp [Value.cells]) (fun w14 O9 Vb=>⟨⟨trivial,_,hx,O9,Vb⟩,rfl⟩)),
      trivial⟩ (fun w13 abk=>?_)
    obtain ⟨W1,hE,hU,hC⟩:=abk
    refine L.o (O.store1 sizeOf3 rfl rfl rfl (Blk.upd (cs:=[.int .i64 0]) (Blk.ext (cs:=[.int .i64 0]) UA.c3 hE) hU (by omega)) (by simp [Value.cells]) (fun w14 O9 Vb=>?_))
    have hd:=gV.of hE hU hC O9 Vb (by omega)
    refine L.nil (T.je ⟨⟨rfl,EX.of ⟨i,hi,by rw [hcb,decide_eq_true (by omega)]⟩ UA EN hd⟩,fun k hk=>(hd.Vj EN (by omega) (by omega) k hk).trans (ahm k hk)⟩)
   refine L.nil (?_)
   have aa0:=fQ.size
   have ady:=aG ahl fQ (Nat.zero_le _)
   refine T.cf (T.skip (T.region (L.o (O.load isAgg280 rfl ((Blk.ext (cs:=[q]) aeU fQ).cell rfl) (L.o (O.ak isAgg277 sizeOf277 rfl rfl YD.row (L.o (O.buildSlice (el:=277) (parts:=[(0,.tmp 43)]) (vs:=[(0,_)]) (cs:=s'.cells) rfl (fun w=>by kernel_rfl) (fun b13 w13 adz U8 dn xQ=>?_)))))))))
   have aeV:=aG ady dn (Nat.zero_le _)
   have hl:((stL c.fs).take i).length=i:=by rw [List.length_take];omega
   refine L.o (O.xw (size:=4) (bytes:=32) runUnderlying280 Tryz.Pv rfl rfl rfl rfl (by decide) rfl rfl aeV (show s'.cells.length=1*4 from rfl) xQ.row (Bf _) (by omega) (by simp only [maxLen];omega) (by have:=dn.size;omega) (fun v14 w14 aeW adA ajk=>?_))
   have hown:=fun j hj=>kC aeV (j:=j) hj
   have ajl:Blk w14 b9 [q] tq:=Blk.Gg (Blk.ext (cs:=[q]) aeU (fQ.trans dn)) adA (fun j hj=>by have:=(hown j hj).1;omega)
   have aak:EF w c b1 b2 b3 w9.heap.size [D] w14:=(UA.ext dn).grown aeV adA (by omega) (by omega) (by omega) (by omega) (by omega) (by simp;omega)
   have abl:v14.oneCell'=true:=Sl.one (Sl.aT aeW)
   refine L.o (O.store1 sizeOf280 abl rfl rfl ajl (by simp [Value.cells]) (fun w15 aaj Dl=>?_))
   have U8:=dn.size
   have aey:=adA.size
   have aah:=aaj.size
   have hnx:∀ b,v14.ownBlock=some b→¬ S b:=fun b hb hSb=>by
    rcases ajk b hb with h|h
    ·exact hq11 b h hSb
    have:=(EN b hSb).2;omega
   refine L.nil (T.blk (T.roundEnd ⟨⟨fun k hk=>⟨(Yi k hk).1,by have:=(EN k hk).2;omega⟩,by omega,aak.upd aaj (by omega) (by omega) (by omega) (by omega) (by omega) (by simp;omega),⟨v14,Dl,?_,hnx⟩,fun k hk=>?_⟩,fun k hk=>?_⟩))
   ·rw [take_snoc hi,hs,Js,List.length_append]
    exact wQ (q:=.slice (some ⟨b9,0,none⟩) 0 0) aeW (Loc.kJ aaj rfl) (fun j hj e=>by have e':b9=j:=Option.some.inj e;have:=(kC aeW hj).1;omega)
   ·by_cases e:k=i
    ·subst e;rw [hcb,decide_eq_false (by omega)]
    exact ajj k (by omega)
   rw [aaj.block k (by have:=(Yi k hk).1;omega),adA.block k (by have:=(EN k hk).2;omega) (fun e=>hq11 k e.symm hk),dn.block k (Nat.zero_le _) (EN k hk).2,ahm k hk]
  ·rintro S2 D2 w11 hD2 ai4 aez ⟨Yi,aji,EL,_,hcr⟩ adB
   have Va:Opn [D2,D] w11:=EL.o.cons adB (by simp;omega)
   have ams:=Va.lt D2 (by simp)
   refine T.blk (T.q (L.o (O.makeFunc (fi:=[]) (ca:=[.tmp 1]) rfl rfl (L.o (O.alloc zeroValue284 (fun b12 w12 aa4 aa0 fQ Ji=>?_))))))
   refine L.o (O.store1 sizeOf284 rfl rfl rfl Ji (by simp [Value.cells]) (fun w13 wR xQ=>?_))
   have UA:EF w c b1 b2 b3 w9.heap.size [D2,D] w12:=EF.ext ⟨EL.e,EL.c1,EL.c2,EL.c3,EL.ci,Va⟩ fQ
   have UC:=UA.upd wR (by omega) (by omega) (by omega) (by omega) (by omega) (by simp;omega)
   obtain ⟨tf,xQ⟩:∃ t,Blk w13 b12 [.func (.func 213) #[] #[.pointer (some ⟨b1,0,none⟩)]] t:=⟨_,xQ⟩
   have U8:=wR.size
   refine L.nil (T.seq (T.q (L.o (O.ak isAgg46 sizeOf46 rfl rfl UC.c1.row (L.o (O.call (xs:=[.tmp 47]) call209 rfl rfl (lK c w13) (fun v14 w14 hq=>?_)))))))
   obtain ⟨rfl,eX,abm⟩:=hq
   have aey:=abm.lt
   have aak:EF w c b1 b2 b3 w13.heap.size [D2,D] w14:=⟨(UC.ext eX).e,(UC.ext eX).c1,(UC.ext eX).c2,(UC.ext eX).c3,abm,UC.o.ext eX⟩
   have h12:=Blk.ext (cs:=[.func (.func 213) #[] #[.pointer (some ⟨b1,0,none⟩)]]) xQ eX
   refine L.nil (T.block (?_))
   refine T.jm (e1:=fun v x=>[(1,.pointer (some ⟨b1,0,none⟩)),(2,.pointer (some ⟨b2,0,none⟩)),(3,.pointer (some ⟨b3,0,none⟩)),(8,.pointer (some ⟨b12,0,none⟩)),(9,.pointer (some ⟨x,0,none⟩))]) (LJ w14.heap.size (fun i _ W=>EF w c b1 b2 b3 w13.heap.size [D2,D] W∧Blk W b12 [.func (.func 213) #[] #[.pointer (some ⟨b1,0,none⟩)]] tf∧∀ k,k<i→dM c.ps c.fs ((stL c.fs).getD k st0)=false)) (fun c' S w'=>c' = .ret∧EX (∃ i,i<(stL c.fs).length∧dM c.ps c.fs ((stL c.fs).getD i st0)=true) w b2 b3 9 w14.heap.size [D2,D] S w') (fun v x w'=>∃ s:St,v=s.val∧Blk w' x s.cells 277) rfl call245 rfl (qM w13.heap.size lo c hx) ?_ ?_ ?_ ?_ ?_ ?_ ?_ ?_ ?_ ?_ ?_
   ·refine LJ.FH ?_ ?_
    ·rintro i S S' W W' _ ⟨h1,h2,h3⟩ he _
     exact ⟨h1.ext he,Blk.ext (cs:=[.func (.func 213) #[] #[.pointer (some ⟨b1,0,none⟩)]]) h2 he,h3⟩
    rintro i S W W' b ⟨h1,h2,h3⟩ _ hmb hu
    exact ⟨h1.upd hu (by omega) (by omega) (by omega) (by omega) (by omega) (by simp;omega),Blk.upd h2 hu (by omega),h3⟩
   ·exact fun c' S W W' b h hb hu=>⟨h.1,h.2.upd hb hu (by omega) (by omega) (by omega) (by simp;try omega)⟩
   ·exact fun i S W h=>⟨hc.ext h.2.2.1.e,h.2.2.1.ci⟩
   ·exact LJ.start ⟨aak,h12,fun k hk=>absurd hk (Nat.not_lt_zero _)⟩
   ·exact fun k hk=>hk.elim
   ·exact fun W hW=>trivial
   ·rintro v x W W' b' ⟨s,h1,h2⟩ hne hu
    exact ⟨s,h1,h2.upd hu (Ne.symm hne)⟩
   ·intro l Q i j v k W hn hK
    obtain ⟨hi,rfl,_⟩:=hn
    refine T.region (L.o (O.alloc zeroValue277 (fun b58 w58 aeR aeS Uz Vm=>?_)))
    refine L.o (O.aC sizeOf277 rfl rfl rfl Vm (Nat.le_refl _) (Bf _) (fun w59 YA YB=>?_))
    refine L.nil (T.sub ?_ (hK b58 _ (by omega) (Uz.upd YA (.inr (by omega))) ⟨_,rfl,YB⟩))
    exact ⟨rfl,rfl,rfl,rfl,rfl,trivial⟩
   ·rintro l i v x j S w15 ⟨hi,rfl,rfl⟩ ⟨abn,aeX,Lh,abo,ahn⟩ ⟨s',hv,hBx⟩
    obtain ⟨s,hs⟩:∃ s,(stL c.fs).getD i st0=s:=⟨_,rfl⟩
    rw [hs] at hv
    have hss:=Le hv
    subst hss
    have hsm:s'∈stL c.fs:=by rw [← hs,au hi];exact List.getElem_mem hi
    obtain ⟨hsf,hsr⟩:=Jr hsm
    have aeY:=hc.ext Lh.e
    refine T.block (T.seq (T.q (L.o (O.fieldAddr runUnderlying277 rfl sizeOf3 rfl (L.o (O.load isAgg3 rfl (hBx.cell rfl) (L.o (O.jw rfl rfl (fun hr0=>?_) (fun hr0=>?_)))))))))
    ·refine L.nil (T.ct (T.exit rfl (T.roundEnd ⟨⟨abn,aeX,Lh,abo,fun k hk=>?_⟩,fun k hk=>rfl⟩)))
     ·by_cases e:k=i
      ·subst e;rw [hs,dM,decide_eq_false (by omega),Bool.false_and]
      exact ahn k (by omega)
    refine L.nil (?_)
    have hfm:c.fs.getD s'.f f0∈c.fs:=by rw [au hsf];exact List.getElem_mem hsf
    have hfo:=aeY.at hsf
    obtain ⟨hn,hri⟩:=hx _ hfm
    have hrl:(c.fs.getD s'.f f0).ri.length=(c.fs.getD s'.f f0).hs.length+1:=rfl
    refine T.cf (T.skip (T.q (L.o (O.fieldAddr runUnderlying46 rfl sizeOf44 rfl (L.o (O.load isAgg44 rfl (Lh.c1.cell rfl) (L.o (O.fieldAddr runUnderlying277 rfl sizeOf3 rfl (L.o (O.load isAgg3 rfl (hBx.cell rfl) (L.o (O.indexAddr runUnderlying44 sizeOf127 rfl rfl aeY.sl (by omega) (by omega) (L.o (O.ak isAgg127 sizeOf127 rfl rfl (aeY.row hsf) (L.o (O.alloc zeroValue127 (fun b16 w16 hb16 aai Ad Io=>?_)))))))))))))))))
    refine L.o (O.aC sizeOf127 rfl rfl rfl Io (Nat.le_refl _) (FZ hfo) (fun w17 KW FK=>?_))
    have adC:Blk w17 b16 (c.fs.getD s'.f f0).cells 127:=FK
    have QS:Ext w15 w17:=Ad.upd KW (.inr (by omega))
    have YE:=hfo.ext QS
    have abp:=Blk.ext (cs:=s'.cells) hBx QS
    have aeG:=KW.size
    refine L.nil (T.seq (?_))
    refine T.fJ mixed 8 [10,9] rfl [.is _,.is _,.such (QM w17.heap.size (aJ (c.fs.getD s'.f f0).hs)),.is _,.is _,.is _,.is _,.is _] [[],[0],[1],[],[3],[4],[],[6]] [[],[0],[0,1],[],[3],[3,4],[],[6],[0,1,2,3,4,5,6,7],[0,1,2,3,4,5,6,7,8],[0,1,2,3,4,5,6,7,8,9]] (by kernel_rfl) (by kernel_rfl) rfl (by kernel_rfl) ⟨QM.st,trivial⟩ ⟨fun wx hx=>Ob.o (O.fieldAddr runUnderlying127 rfl sizeOf125 rfl kR),
      fun wx hx=>Ob.o (O.load isAgg125 rfl ((Blk.ext (cs:=(c.fs.getD s'.f f0).cells) adC hx).cell rfl) kR),
      fun wx hx=>Ob.o (O.call (xs:=[.tmp 60]) call215 rfl rfl (F9 lo (c.fs.getD s'.f f0).hv (aJ (c.fs.getD s'.f f0).hs) wx (by rw [Gh];exact (YE.ext hx).sl) (fun u hu ↦ by rw [aJ,List.mem_map] at hu;obtain ⟨y,hy,rfl⟩:=hu;exact Sl.one (YE.hs y hy)) (by rw [Gh];exact hn)) (fun v wy h=>⟨h.1,h.2.mono hx.size⟩)),
      fun wx hx=>Ob.o (O.fieldAddr runUnderlying277 rfl sizeOf3 rfl kR),
      fun wx hx=>Ob.o (O.load isAgg3 rfl ((Blk.ext (cs:=s'.cells) abp hx).cell rfl) kR),
      fun wx hx=>Ob.o (O.gq rfl rfl (by omega) kR),
      fun wx hx=>Ob.o (O.fieldAddr runUnderlying277 rfl sizeOf3 rfl kR),
      fun wx hx=>Ob.o (O.load isAgg3 rfl ((Blk.ext (cs:=s'.cells) abp hx).cell rfl) kR),
      trivial⟩ (fun w18 lZ v61 aho=>?_)
    refine L.o (O.call (xs:=[.tmp 61,.tmp 64,.tmp 66]) call214 rfl rfl (Du w17.heap.size (s'.r-1) _ _ v61 (aJ (c.fs.getD s'.f f0).hs) w18 aho (fun u hu ↦ by rw [aJ,List.mem_map] at hu;obtain ⟨y,hy,rfl⟩:=hu;exact Sl.one (YE.hs y hy)) (by rw [Gh];omega) (by rw [Gh];exact hn) (by omega) (by omega)) (fun v19 w19 hq=>?_))
    obtain ⟨ajm,YF⟩:=hq
    have hown:∀ b,v61.ownBlock=some b→w17.heap.size≤b:=fun b hb=>(kC aho hb).1
    have QT:Ext w17 w19:=ajm.keep lZ hown
    obtain ⟨f',hf'⟩:∃ f':FaV,f'=⟨(c.fs.getD s'.f f0).o,v19,(c.fs.getD s'.f f0).hs.eraseIdx (s'.r-1)⟩:=⟨_,rfl⟩
    refine L.o (O.fieldAddr runUnderlying127 rfl sizeOf125 rfl (L.o (O.bD sizeOf125 (Sl.one (Sl.aT YF)) rfl rfl (Blk.ext (cs:=(c.fs.getD s'.f f0).cells) adC QT) (by show 0+1<2;omega) (fun w20 adD U3=>?_))))
    have aeZ:Blk w20 b16 f'.cells 127:=by rw [hf'];exact U3
    have ahp:=QT.size
    have NR:Ext w15 w20:=(QS.trans QT).upd adD (.inr (by omega))
    have abq:(c.fs.getD s'.f f0).hs.length-1=((c.fs.getD s'.f f0).hs.eraseIdx (s'.r-1)).length:=by rw [List.length_eraseIdx,if_pos (by omega)]
    have Xt:=wQ (q:=.slice (some ⟨b16,0,none⟩) 0 0) YF (Loc.kJ adD rfl) (fun j hj e=>by have e':b16=j:=Option.some.inj e;have:=(kC YF hj).1;omega)
    have ajn:f'.ok 0 w20:=by
     subst hf'
     refine ⟨((hfo.ext NR).o).mono (Nat.zero_le _),?_,fun y hy=>((hfo.ext NR).hs y (List.mem_of_mem_eraseIdx hy)).mono (Nat.zero_le _)⟩
     have h:=(Sl.aT Xt).mono (Nat.zero_le _)
     rw [Gh,abq,← Vl] at h
     exact h
    have hE20:=Lh.ext NR
    have QU:=Blk.ext (cs:=s'.cells) hBx NR
    have YG:=Blk.ext (cs:=[.func (.func 213) #[] #[.pointer (some ⟨b1,0,none⟩)]]) abo NR
    have abr:=hc.ext hE20.e
    refine L.nil (T.seq (?_))
    refine T.fJ mixed 5 [1,10,8,9] rfl [.is _,.is _,.is _,.is _,.is (pV (oQ c.ps s'))] [[],[],[],[],[2,3]] [[],[],[],[],[2,3],[0,1,2,3,4],[0,1,2,3,4,5]] (by kernel_rfl) (by kernel_rfl) rfl (by kernel_rfl) trivial ⟨fun wx hx=>Ob.o (O.ak isAgg46 sizeOf46 rfl rfl ((Blk.ext (cs:=c.cells) hE20.c1 hx).row) kR),
      fun wx hx=>Ob.o (O.ak isAgg127 sizeOf127 rfl rfl ((Blk.ext (cs:=f'.cells) aeZ hx).row) kR),
      fun wx hx=>Ob.o (O.load isAgg284 rfl ((Blk.ext (cs:=[.func (.func 213) #[] #[.pointer (some ⟨b1,0,none⟩)]]) YG hx).cell rfl) kR),
      fun wx hx=>Ob.o (O.ak isAgg277 sizeOf277 rfl rfl ((Blk.ext (cs:=s'.cells) QU hx).row) kR),
      fun wx hx=>Ob.o (O.call (xs:=[.tmp 72]) call213 rfl rfl (uS lo b1 c s' wx (Blk.ext (cs:=c.cells) hE20.c1 hx) (abr.p.ext hx) hf (hst _ hsm)) (fun v wy h=>⟨h.2,h.1⟩)),
      trivial⟩ (fun w21 EK=>?_)
    have hro:Jl c.ps.length f'.o:=by subst hf';exact hri _ (by simp [FaV.ri])
    have hrh:∀ h∈f'.hs,Jl c.ps.length h:=by subst hf';exact fun y hy=>hri y (by simp only [FaV.ri,List.mem_cons];exact .inr (List.mem_of_mem_eraseIdx hy))
    refine L.o (O.call (xs:=[.tmp 69,.tmp 70,.tmp 73,.const (.int .i64 2)]) call216 rfl rfl (qL lo 0 c f' (oQ c.ps s') 2 w21 (abr.p.ext EK) (ajn.ext EK) hf (.inr rfl) hro hrh (XD hf (hst _ hsm))) (fun v22 w22 hq=>?_))
    obtain ⟨Ph,aal⟩:=hq
    have heA:Ext w15 w22:=NR.trans (EK.trans aal)
    have UD:=Lh.ext heA
    have QV:=Blk.ext (cs:=s'.cells) hBx heA
    have aam:∀ k,S k→w14.heap.size≤k∧k<w22.heap.size:=fun k hk=>⟨(abn k hk).1,Nat.lt_of_lt_of_le (abn k hk).2 heA.size⟩
    have adE:∀ k,S k→w22.heap[k]?=w15.heap[k]?:=fun k hk=>heA.block k (Nat.zero_le _) (abn k hk).2
    have hhb:dM c.ps c.fs s' = !dF c.ps 2 f' (oQ c.ps s'):=by
     subst hf'
     rw [dM,decide_eq_true (by omega),Bool.true_and];rfl
    rcases hw:dF c.ps 2 f' (oQ c.ps s') with _|_
    ·rw [hw] at Ph
     subst Ph
     refine L.o (O.not rfl (L.nil (T.ct (T.seq (?_)))))
     refine T.any mixed 3 1 [9,2] rfl [.is _,.is _,.is undef] [[],[0],[]] [none,none,some 0] [[],[0],[],[0,1,2]] (Ux w22 b2 (.int .i64 9)) (fun _ _=>True) (by kernel_rfl) (by kernel_rfl) (by kernel_rfl) rfl trivial (Keep.drew _ _) ⟨fun c wx hx=>ObK.op rfl (O.fieldAddr runUnderlying277 rfl sizeOf3 rfl ⟨⟨trivial,hx⟩,rfl⟩),
       fun c wx hx=>ObK.op rfl (O.load isAgg3 rfl ((hx.blk QV (mP QV UD.c2 (by decide))).cell rfl) ⟨⟨trivial,hx⟩,rfl⟩),
       fun wx hx=>ObK.op rfl (O.store1 sizeOf3 rfl rfl rfl (Blk.ext (cs:=[.int .i64 0]) UD.c2 hx) (by simp [Value.cells]) (fun w24 YH Vo=>⟨⟨trivial,_,hx,YH,Vo⟩,rfl⟩)),
       trivial⟩ (fun w23 ae0=>?_)
     obtain ⟨W1,hE,hU,hC⟩:=ae0
     refine L.o (O.store1 sizeOf3 rfl rfl rfl (Blk.upd (cs:=[.int .i64 0]) (Blk.ext (cs:=[.int .i64 0]) UD.c3 hE) hU (by omega)) (by simp [Value.cells]) (fun w24 YH Vo=>?_))
     have hd:=gV.of hE hU hC YH Vo (by omega)
     refine L.nil (T.je ⟨⟨rfl,EX.of ⟨i,hi,by rw [hs,hhb,hw];rfl⟩ UD aam hd⟩,fun k hk=>(hd.Vj aam (by omega) (by omega) k hk).trans (adE k hk)⟩)
    rw [hw] at Ph
    subst Ph
    refine L.o (O.not rfl (L.nil (T.cf (T.skip (T.blk (T.roundEnd ⟨⟨aam,Nat.le_trans aeX heA.size,UD,Blk.ext (cs:=[.func (.func 213) #[] #[.pointer (some ⟨b1,0,none⟩)]]) abo heA,fun k hk=>?_⟩,adE⟩))))))
    ·by_cases e:k=i
     ·subst e;rw [hs,hhb,hw];rfl
     exact ahn k (by omega)
   ·rintro S3 D3 w15 hD3 ahe aeH ⟨abn,aeX,Lh,abo,hho⟩ ajo
    have ahq:Opn [D3,D2,D] w15:=Lh.o.cons ajo (by simp;omega)
    have amu:=ahq.lt D3 (by simp)
    refine T.blk (T.seq (T.q (L.o (O.ak isAgg46 sizeOf46 rfl rfl Lh.c1.row (L.o (O.call (xs:=[.tmp 78]) call209 rfl rfl (lK c w15) (fun v16 w16 hq=>?_)))))))
    obtain ⟨rfl,Ad,abt⟩:=hq
    have aai:=abt.lt
    have ajp:EF w c b1 b2 b3 w15.heap.size [D3,D2,D] w16:=⟨(Lh.ext Ad).e,(Lh.ext Ad).c1,(Lh.ext Ad).c2,(Lh.ext Ad).c3,abt,ahq.ext Ad⟩
    have ajq:=Blk.ext (cs:=[.func (.func 213) #[] #[.pointer (some ⟨b1,0,none⟩)]]) abo Ad
    refine L.nil (T.block (?_))
    refine T.jm (e1:=fun v x=>[(1,.pointer (some ⟨b1,0,none⟩)),(2,.pointer (some ⟨b2,0,none⟩)),(3,.pointer (some ⟨b3,0,none⟩)),(8,.pointer (some ⟨b12,0,none⟩)),(11,.pointer (some ⟨x,0,none⟩))]) (LJ w16.heap.size (fun i _ W=>EF w c b1 b2 b3 w15.heap.size [D3,D2,D] W∧Blk W b12 [.func (.func 213) #[] #[.pointer (some ⟨b1,0,none⟩)]] tf∧∀ k,k<i→fV c.ps c.fs ((stL c.fs).getD k st0)=false)) (fun c' S w'=>c' = .ret∧EX (∃ i,i<(stL c.fs).length∧fV c.ps c.fs ((stL c.fs).getD i st0)=true) w b2 b3 10 w16.heap.size [D3,D2,D] S w') (fun v x w'=>∃ s:St,v=s.val∧Blk w' x s.cells 277) rfl call245 rfl (qM w15.heap.size lo c hx) ?_ ?_ ?_ ?_ ?_ ?_ ?_ ?_ ?_ ?_ ?_
    ·refine LJ.FH ?_ ?_
     ·rintro i S S' W W' _ ⟨h1,h2,h3⟩ he _
      exact ⟨h1.ext he,Blk.ext (cs:=[.func (.func 213) #[] #[.pointer (some ⟨b1,0,none⟩)]]) h2 he,h3⟩
     rintro i S W W' b ⟨h1,h2,h3⟩ _ hmb hu
     exact ⟨h1.upd hu (by omega) (by omega) (by omega) (by omega) (by omega) (by simp;omega),Blk.upd h2 hu (by omega),h3⟩
    ·exact fun c' S W W' b h hb hu=>⟨h.1,h.2.upd hb hu (by omega) (by omega) (by omega) (by simp;try omega)⟩
    ·exact fun i S W h=>⟨hc.ext h.2.2.1.e,h.2.2.1.ci⟩
    ·exact LJ.start ⟨ajp,ajq,fun k hk=>absurd hk (Nat.not_lt_zero _)⟩
    ·exact fun k hk=>hk.elim
    ·exact fun W hW=>trivial
    ·rintro v x W W' b' ⟨s,h1,h2⟩ hne hu
     exact ⟨s,h1,h2.upd hu (Ne.symm hne)⟩
    ·intro l Q i j v k W hn hK
     obtain ⟨hi,rfl,_⟩:=hn
     refine T.region (L.o (O.alloc zeroValue277 (fun b58 w58 aeR aeS Uz Vm=>?_)))
     refine L.o (O.aC sizeOf277 rfl rfl rfl Vm (Nat.le_refl _) (Bf _) (fun w59 YA YB=>?_))
     refine L.nil (T.sub ?_ (hK b58 _ (by omega) (Uz.upd YA (.inr (by omega))) ⟨_,rfl,YB⟩))
     exact ⟨rfl,rfl,rfl,rfl,rfl,trivial⟩
    ·rintro l i v x j S w17 ⟨hi,rfl,rfl⟩ ⟨YI,ahr,NS,h127,ajr⟩ ⟨s',hv,hBx⟩
     obtain ⟨s,hs⟩:∃ s,(stL c.fs).getD i st0=s:=⟨_,rfl⟩
     rw [hs] at hv
     have hss:=Le hv
     subst hss
     have hsm:s'∈stL c.fs:=by rw [← hs,au hi];exact List.getElem_mem hi
     have hc17:=hc.ext NS.e
     have hle:=Sl.le hc17.sl
     refine T.block (T.q (L.o (O.fieldAddr runUnderlying46 rfl sizeOf44 rfl (L.o (O.load isAgg44 rfl (NS.c1.cell rfl) (L.o (O.len runUnderlying44 rfl (Sl.val hc17.sl) (L.m rfl (L.nil (T.block (?_)))))))))))
     refine T.loop (σ:=Nat) (fun n=>[(1,.pointer (some ⟨b1,0,none⟩)),(2,.pointer (some ⟨b2,0,none⟩)),(3,.pointer (some ⟨b3,0,none⟩)),(8,.pointer (some ⟨b12,0,none⟩)),(11,.pointer (some ⟨x,0,none⟩)),(82,c.fv),(83,.int .i64 c.fs.length),(84,.int .i64 n)]) (fun n w'=>n≤c.fs.length∧Ext w17 w'∧∀ k,k<n→jC c.ps c.fs s' k=false) (fun n=>c.fs.length-n) (0) ⟨rfl,rfl,rfl,rfl,rfl,rfl,rfl,rfl,trivial⟩ ⟨Nat.zero_le _,Keep.refl _ _,fun k hk=>absurd hk (Nat.not_lt_zero _)⟩ ?_
     rintro n w18 ⟨hn,lZ,hov⟩
     have ae1:=NS.ext lZ
     have ae2:=Blk.ext (cs:=s'.cells) hBx lZ
     have abu:=Blk.ext (cs:=[.func (.func 213) #[] #[.pointer (some ⟨b1,0,none⟩)]]) h127 lZ
     have hc18:=hc.ext ae1.e
     refine T.q (L.o (O.bF rfl rfl (fun hlt=>?_) (fun hlt=>?_)))
     ·refine L.nil (?_)
      have hlt':n<c.fs.length:=by omega
      have hfm:c.fs.getD n f0∈c.fs:=by rw [au hlt'];exact List.getElem_mem hlt'
      have hfo:=hc18.at hlt'
      obtain ⟨_,hri⟩:=hx _ hfm
      refine T.seq (T.ct (T.skip (T.seq (T.block (T.q (L.m rfl (L.o (O.indexAddr runUnderlying44 sizeOf127 rfl rfl hc18.sl (by omega) (by omega) (L.o (O.ak isAgg127 sizeOf127 rfl rfl (hc18.row hlt') (L.o (O.alloc zeroValue127 (fun b19 w19 ajs ajt Gi Ba=>?_)))))))))))))
      refine L.a rfl (L.o (O.aC sizeOf127 rfl rfl rfl Ba (Nat.le_refl _) (FZ hfo) (fun w20 adD U3=>?_)))
      have aeZ:Blk w20 b19 (c.fs.getD n f0).cells 127:=U3
      have Bh:Ext w18 w20:=Gi.upd adD (.inr (by omega))
      have hE20:=ae1.ext Bh
      have QU:=Blk.ext (cs:=s'.cells) ae2 Bh
      have YG:=Blk.ext (cs:=[.func (.func 213) #[] #[.pointer (some ⟨b1,0,none⟩)]]) abu Bh
      have abr:=hc.ext hE20.e
      have ae3:=hfo.ext Bh
      by_cases hne:n=s'.f
      ·refine L.nil (T.seq (?_))
       refine T.fJ mixed 10 [12,11,1,13,8] rfl [.is _,.is _,.is _,.is _,.is _,.is undef,.is undef,.is undef,.is undef,.is undef] [[],[],[1],[0,2],[3],[4],[4],[4],[4],[7,8,4]] [[],[],[1],[0,1,2],[0,1,2,3],[0,1,2,3,4],[0,1,2,3,4],[0,1,2,3,4],[0,1,2,3,4],[0,1,2,3,4,7,8],[0,1,2,3,4,5,6,7,8,9],[0,1,2,3,4,5,6,7,8,9,10]] (by kernel_rfl) (by kernel_rfl) rfl (by kernel_rfl) trivial ⟨fun wx hx=>Ob.o (O.move rfl kR),
         fun wx hx=>Ob.o (O.fieldAddr runUnderlying277 rfl sizeOf3 rfl kR),
         fun wx hx=>Ob.o (O.load isAgg3 rfl ((Blk.ext (cs:=s'.cells) QU hx).cell rfl) kR),
         fun wx hx=>Ob.o (O.kZ rfl rfl (by omega) kR),
         fun wx hx=>Ob.o (O.move rfl kR),
         fun wx hx=>Ob.pass rfl rfl,
         fun wx hx=>Ob.pass rfl rfl,
         fun wx hx=>Ob.pass rfl rfl,
         fun wx hx=>Ob.pass rfl rfl,
         fun wx hx=>Ob.pass rfl rfl,
         trivial⟩ (fun w21 EK=>?_)
       have heA:Ext w17 w21:=lZ.trans (Bh.trans EK)
       refine L.p (L.o (O.aj rfl rfl (L.nil (T.cf (T.skip (T.blk (T.region (L.o (O.aI rfl rfl (by omega) (L.m rfl (L.nil (T.again (n+1) (by omega) ⟨rfl,rfl,rfl,rfl,rfl,rfl,rfl,rfl,trivial⟩ ⟨hlt',heA,fun k hk=>?_⟩))))))))))))
       ·by_cases e:k=n
        ·subst e;rw [jC,decide_eq_false (by omega),Bool.false_and]
        exact hov k (by omega)
      refine L.nil (T.seq (?_))
      refine T.fJ mixed 10 [12,11,1,13,8] rfl [.is _,.is _,.is _,.is _,.is _,.is _,.is _,.is _,.is _,.is (pV (oQ c.ps s'))] [[],[],[1],[0,2],[3],[4],[4],[4],[4],[7,8,4]] [[],[],[1],[0,1,2],[0,1,2,3],[0,1,2,3,4],[0,1,2,3,4],[0,1,2,3,4],[0,1,2,3,4],[0,1,2,3,4,7,8],[0,1,2,3,4,5,6,7,8,9],[0,1,2,3,4,5,6,7,8,9,10]] (by kernel_rfl) (by kernel_rfl) rfl (by kernel_rfl) trivial ⟨fun wx hx=>Ob.o (O.move rfl kR),
        fun wx hx=>Ob.o (O.fieldAddr runUnderlying277 rfl sizeOf3 rfl kR),
        fun wx hx=>Ob.o (O.load isAgg3 rfl ((Blk.ext (cs:=s'.cells) QU hx).cell rfl) kR),
        fun wx hx=>Ob.o (O.IG rfl rfl (by omega) kR),
        fun wx hx=>Ob.o (O.move rfl kR),
        fun wx hx=>Ob.o (O.ak isAgg46 sizeOf46 rfl rfl ((Blk.ext (cs:=c.cells) hE20.c1 hx).row) kR),
        fun wx hx=>Ob.o (O.ak isAgg127 sizeOf127 rfl rfl ((Blk.ext (cs:=(c.fs.getD n f0).cells) aeZ hx).row) kR),
        fun wx hx=>Ob.o (O.load isAgg284 rfl ((Blk.ext (cs:=[.func (.func 213) #[] #[.pointer (some ⟨b1,0,none⟩)]]) YG hx).cell rfl) kR),
        fun wx hx=>Ob.o (O.ak isAgg277 sizeOf277 rfl rfl ((Blk.ext (cs:=s'.cells) QU hx).row) kR),
        fun wx hx=>Ob.o (O.call (xs:=[.tmp 97]) call213 rfl rfl (uS lo b1 c s' wx (Blk.ext (cs:=c.cells) hE20.c1 hx) (abr.p.ext hx) hf (hst _ hsm)) (fun v wy h=>⟨h.2,h.1⟩)),
        trivial⟩ (fun w21 EK=>?_)
      have hro:Jl c.ps.length (c.fs.getD n f0).o:=hri _ (by simp [FaV.ri])
      have hrh:∀ h∈(c.fs.getD n f0).hs,Jl c.ps.length h:=fun y hy=>hri y (by simp only [FaV.ri,List.mem_cons];exact .inr hy)
      refine L.o (O.call (xs:=[.tmp 94,.tmp 95,.tmp 98,.const (.int .i64 2)]) call216 rfl rfl (qL lo lo c (c.fs.getD n f0) (oQ c.ps s') 2 w21 (abr.p.ext EK) (ae3.ext EK) hf (.inr rfl) hro hrh (XD hf (hst _ hsm))) (fun v22 w22 hq=>?_))
      obtain ⟨Ph,aal⟩:=hq
      have heA:Ext w17 w22:=lZ.trans (Bh.trans (EK.trans aal))
      have UD:=NS.ext heA
      have QV:=Blk.ext (cs:=s'.cells) hBx heA
      have aam:∀ k,S k→w16.heap.size≤k∧k<w22.heap.size:=fun k hk=>⟨(YI k hk).1,Nat.lt_of_lt_of_le (YI k hk).2 heA.size⟩
      have adE:∀ k,S k→w22.heap[k]?=w17.heap[k]?:=fun k hk=>heA.block k (Nat.zero_le _) (YI k hk).2
      have ahs:jC c.ps c.fs s' n=dF c.ps 2 (c.fs.getD n f0) (oQ c.ps s'):=by rw [jC,decide_eq_true hne,Bool.true_and]
      rcases hw:dF c.ps 2 (c.fs.getD n f0) (oQ c.ps s') with _|_
      ·rw [hw] at Ph
       subst Ph
       refine L.o (O.ah rfl rfl (L.nil (T.cf (T.skip (T.blk (T.region (L.o (O.aI rfl rfl (by omega) (L.m rfl (L.nil (T.again (n+1) (by omega) ⟨rfl,rfl,rfl,rfl,rfl,rfl,rfl,rfl,trivial⟩ ⟨hlt',heA,fun k hk=>?_⟩)))))))))))
       ·by_cases e:k=n
        ·subst e;rw [ahs,hw]
        exact hov k (by omega)
      rw [hw] at Ph
      subst Ph
      refine L.o (O.ah rfl rfl (L.nil (T.ct (T.seq (?_)))))
      refine T.any mixed 3 1 [11,2] rfl [.is _,.is _,.is undef] [[],[0],[]] [none,none,some 0] [[],[0],[],[0,1,2]] (Ux w22 b2 (.int .i64 10)) (fun _ _=>True) (by kernel_rfl) (by kernel_rfl) (by kernel_rfl) rfl trivial (Keep.drew _ _) ⟨fun c wx hx=>ObK.op rfl (O.fieldAddr runUnderlying277 rfl sizeOf3 rfl ⟨⟨trivial,hx⟩,rfl⟩),
        fun c wx hx=>ObK.op rfl (O.load isAgg3 rfl ((hx.blk QV (mP QV UD.c2 (by decide))).cell rfl) ⟨⟨trivial,hx⟩,rfl⟩),
        fun wx hx=>ObK.op rfl (O.store1 sizeOf3 rfl rfl rfl (Blk.ext (cs:=[.int .i64 0]) UD.c2 hx) (by simp [Value.cells]) (fun w24 YH Vo=>⟨⟨trivial,_,hx,YH,Vo⟩,rfl⟩)),
        trivial⟩ (fun w23 ae0=>?_)
      obtain ⟨W1,hE,hU,hC⟩:=ae0
      refine L.o (O.store1 sizeOf3 rfl rfl rfl (Blk.upd (cs:=[.int .i64 0]) (Blk.ext (cs:=[.int .i64 0]) UD.c3 hE) hU (by omega)) (by simp [Value.cells]) (fun w24 YH Vo=>?_))
      have hd:=gV.of hE hU hC YH Vo (by omega)
      refine L.nil (T.je ⟨⟨rfl,EX.of ⟨i,hi,by rw [hs];exact Ld hlt' (by rw [ahs,hw])⟩ UD aam hd⟩,fun k hk=>(hd.Vj aam (by omega) (by omega) k hk).trans (adE k hk)⟩)
     refine L.nil (?_)
     obtain rfl:n=c.fs.length:=by omega
     refine T.seq (T.cf (T.exit rfl (T.blk (T.roundEnd ⟨⟨fun k hk=>⟨(YI k hk).1,Nat.lt_of_lt_of_le (YI k hk).2 lZ.size⟩,Nat.le_trans ahr lZ.size,ae1,abu,fun k hk=>?_⟩,fun k hk=>lZ.block k (Nat.zero_le _) (YI k hk).2⟩))))
     ·by_cases e:k=i
      ·subst e;rw [hs];exact Gf hov
      exact ajr k (by omega)
    ·rintro S4 D4 w17 hD4 amv aju ⟨YI,ahr,NS,h127,hov⟩ ajv
     have ajw:Opn [D4,D3,D2,D] w17:=NS.o.cons ajv (by simp;omega)
     refine T.blk (T.q (L.o (O.store1 sizeOf3 rfl rfl rfl NS.c2 (by simp [Value.cells]) (fun w18 xZ uT=>?_))))
     refine L.o (O.store1 sizeOf3 rfl rfl rfl (Blk.upd (cs:=[.int .i64 0]) NS.c3 xZ (by omega)) (by simp [Value.cells]) (fun w19 Vp Ba=>?_))
     have hd:=gV.of (Keep.refl 0 w17) xZ uT Vp Ba (by omega)
     have aht:Opn [D4,D3,D2,D] w19:=Opn.done ajw hd NS.c2 NS.c3
     have hd0:=hd.from NS.e
     refine L.nil (T.xu results189 isAgg3 isAgg3 rfl rfl aht (fun w' hs=>hd0.cells aht hs) (fun w' hs=>⟨0,0,rfl,by rw [aeQ hn8 hcr hho hov];rfl,(hd0.ext (Keep.refl 0 w) (by omega) (by omega)).shut hs (fun r hr=>.inr (by simp at hr;omega))⟩))
    rintro c' SD4 D4 w17 amw aju ⟨rfl,hB,hSS,hoS,a,hd⟩ hDS
    have ho:Opn (D4 :: [D3,D2,D]) w17:=hoS.cons hDS (by simp;try omega)
    refine T.xu results189 isAgg3 isAgg3 rfl rfl ho (fun w' hs=>hd.cells ho hs) (fun w' hs=>⟨10,a,rfl,by obtain ⟨i,h1,h2⟩:=hB;rw [ajh h1 h2];rfl,(hd.ext (Keep.refl 0 w) (by omega) (by omega)).shut hs (fun r hr=>.inr (by simp at hr;omega))⟩)
   rintro c' SD3 D3 w15 amx aeH ⟨rfl,hB,hSS,hoS,a,hd⟩ hDS
   have ho:Opn (D3 :: [D2,D]) w15:=hoS.cons hDS (by simp;try omega)
   refine T.xu results189 isAgg3 isAgg3 rfl rfl ho (fun w' hs=>hd.cells ho hs) (fun w' hs=>⟨9,a,rfl,by obtain ⟨i,h1,h2⟩:=hB;rw [ajg h1 h2];rfl,(hd.ext (Keep.refl 0 w) (by omega) (by omega)).shut hs (fun r hr=>.inr (by simp at hr;omega))⟩)
  rintro c' SD2 D2 w11 amy aez ⟨rfl,hB,hSS,hoS,a,hd⟩ hDS
  have ho:Opn (D2 :: [D]) w11:=hoS.cons hDS (by simp;try omega)
  refine T.xu results189 isAgg3 isAgg3 rfl rfl ho (fun w' hs=>hd.cells ho hs) (fun w' hs=>⟨8,a,rfl,by obtain ⟨i,h1,h2⟩:=hB;rw [ajf h1 h2];rfl,(hd.ext (Keep.refl 0 w) (by omega) (by omega)).shut hs (fun r hr=>.inr (by simp at hr;omega))⟩)
 rintro c' SD D w8 hD' hSD ⟨rfl,hB,hSS,hoS,a,hd⟩ hDS
 have ho:Opn (D :: []) w8:=hoS.cons hDS (by simp;try omega)
 refine T.xu results189 isAgg3 isAgg3 rfl rfl ho (fun w' hs=>hd.cells ho hs) (fun w' hs=>⟨7,a,rfl,by rw [aje hB];rfl,(hd.ext (Keep.refl 0 w) (by omega) (by omega)).shut hs (fun r hr=>.inr (by simp at hr;omega))⟩)
open Go Go.E
def jM (c:CxV):Bool:=decide (c.ps.length<3) || (decide (120<c.ps.length) || (decide (c.fs.length<1) || decide (64<c.fs.length)))
def cu (c:CxV):Bool :=
 jM c || (c.ps.any og || (!decide c.ps.Nodup || (c.fs.any (dU c.ps.length) || (c.fs.any (fun f=>rW f.ri (badR c.ps)) || (c.fs.any (fun f=>rW f.ri (iK c.ps)) || bV c.ps c.fs)))))
theorem NT {r:List Pt} (h:¬ 0<iJ r):∀ i,i<r.length→¬ jB r i:=fun i hi hs=>h (by
 rw [iJ]
 split
 ·decide
 rw [if_pos ⟨i,hi,hs⟩];decide)
theorem yc {α:Type} (g:Nat→List α) (B:Nat):∀ n,(∀ k,k<n→(g k).length≤B)→(pre g n).length≤n*B
 | 0,_=>by simp [pre]
 | n+1,h=>by
  have ih:=yc g B n (fun k hk=>h k (by omega))
  have:=h n (by omega)
  rw [sW,Nat.add_mul];omega
theorem YJ {fs:List FaV} {s:St} (h:s∈stL fs):s.f<fs.length∧s.r<(fs.getD s.f f0).ri.length∧∃ i,i<((fs.getD s.f f0).ri.getD s.r r0).xs.length∧s.a=nI ((fs.getD s.f f0).ri.getD s.r r0).xs i∧s.b=nI ((fs.getD s.f f0).ri.getD s.r r0).xs ((i+1) % ((fs.getD s.f f0).ri.getD s.r r0).xs.length):=by
 simp only [stL,pre,gF,stF,gR,stR,List.mem_flatMap,List.mem_range,List.mem_map] at h
 obtain ⟨f,hf,r,hr,i,hi,rfl⟩:=h
 exact ⟨hf,hr,i,hi,rfl,rfl⟩
theorem QW {ps:List Pt} {l:List Int} {i:Nat} (hi:i<l.length):(cor ps 1 l).getD i (0,0)=gP ps (nI l i):=by
 rw [Jj hi];simp only [Ip,Int.one_mul,gP,nI]
structure ou (ps:List Pt) (f:FaV):Prop where
 hn:f.hs.length≤8
 ix:∀ x∈f.ri,IxL ps.length x.xs∧3≤x.xs.length∧x.xs.length≤40
 rg:∀ x∈f.ri,jW ps x.xs=false
theorem ou.ri {ps:List Pt} {f:FaV} (h:ou ps f):∀ x∈f.ri,Jl ps.length x:=fun x hx=>⟨(h.ix x hx).1,by have:=(h.ix x hx).2.2;omega⟩
theorem QX {n:Nat} {f:FaV} (h:dU n f=false):f.hs.length≤8∧∀ x∈f.ri,IxL n x.xs∧3≤x.xs.length∧x.xs.length≤40:=by
 simp only [dU,Bool.or_eq_false_iff,decide_eq_false_iff_not] at h
 refine ⟨by omega,fun x hx=>?_⟩
 obtain ⟨k,hk,rfl⟩:=List.getElem_of_mem hx
 have:=qN (any_none h.2 hk)
 rw [au hk] at this
 exact this
theorem lM {α:Type} {L:List α} {p:α→Bool} (h:L.any p=false):∀ x∈L,p x=false:=fun x hx=>by
 have:=List.any_eq_false.1 h x hx
 simpa using this
theorem YK {ps:List Pt} {fs:List FaV} (h1:fs.any (dU ps.length)=false) (h2:fs.any (fun f=>rW f.ri (badR ps))=false):∀ f∈fs,ou ps f:=fun f hf=>by
 obtain ⟨a,b⟩:=QX (lM h1 f hf)
 refine ⟨a,b,fun x hx=>?_⟩
 obtain ⟨k,hk,rfl⟩:=List.getElem_of_mem hx
 have:=any_none (lM h2 f hf) hk
 rw [au hk] at this
 exact this
theorem ae4 {ps:List Pt} {fs:List FaV} (h:∀ f∈fs,ou ps f):∀ s∈stL fs,s.ok ps:=fun s hs=>by
 obtain ⟨hf,hr,i,hi,ha,hb⟩:=YJ hs
 have hfm:fs.getD s.f f0∈fs:=by rw [au hf];exact List.getElem_mem hf
 have hxm:(fs.getD s.f f0).ri.getD s.r r0∈(fs.getD s.f f0).ri:=by rw [au hr];exact List.getElem_mem hr
 have hg:=h _ hfm
 obtain ⟨hix,h3,_⟩:=hg.ix _ hxm
 have hrb:=hg.rg _ hxm
 have hm:(i+1) % ((fs.getD s.f f0).ri.getD s.r r0).xs.length<((fs.getD s.f f0).ri.getD s.r r0).xs.length:=Nat.mod_lt _ (by omega)
 have x1:=hix i hi
 have x2:=hix _ hm
 refine ⟨by rw [ha,nI];omega,by rw [hb,nI];omega,fun e=>?_⟩
 rw [jW,decide_eq_false_iff_not] at hrb
 refine NT hrb i (by rw [lJ];exact hi) ?_
 show (cor ps 1 _).getD i (0,0)=(cor ps 1 _).getD ((i+1) % (cor ps 1 _).length) (0,0)
 rw [lJ,QW hi,QW hm,← ha,← hb];exact e
theorem YL {ps:List Pt} {fs:List FaV} (hn:fs.length≤64) (h:∀ f∈fs,ou ps f):(stL fs).length≤100000:=by
 have h1:(stL fs).length≤fs.length*360:=yc _ _ _ fun f hf=>by
  have hfm:fs.getD f f0∈fs:=by rw [au hf];exact List.getElem_mem hf
  have hg:=h _ hfm
  have h2:(gF fs f).length≤(fs.getD f f0).ri.length*40:=yc _ _ _ fun r hr=>by
   have hxm:(fs.getD f f0).ri.getD r r0∈(fs.getD f f0).ri:=by rw [au hr];exact List.getElem_mem hr
   rw [gR,Dq];exact (hg.ix _ hxm).2.2
  have h3:(fs.getD f f0).ri.length=(fs.getD f f0).hs.length+1:=rfl
  have:=hg.hn
  omega
 omega
theorem abv {c:CxV} (h:∀ f∈c.fs,ou c.ps f):IxC c:=fun f hf=>⟨by have:=(h f hf).hn;omega,(h f hf).ri⟩
theorem YM {ps:List Pt} (h:ps.any og=false):NfL ps:=fun i hi=>lM h _ (by rw [au hi];exact List.getElem_mem hi)
section
variable {c:CxV}
theorem cx1 (h:jM c=true):cu c=true:=by rw [cu,h,Bool.true_or]
theorem cx2 (h:c.ps.any og=true):cu c=true:=by rw [cu,h,Bool.true_or,Bool.or_true]
theorem cx3 (h:¬ c.ps.Nodup):cu c=true:=by rw [cu,decide_eq_false h,Bool.not_false,Bool.true_or,Bool.or_true,Bool.or_true]
theorem cx4 (h:c.fs.any (dU c.ps.length)=true):cu c=true:=by rw [cu,h,Bool.true_or,Bool.or_true,Bool.or_true,Bool.or_true]
theorem cx5 (h:c.fs.any (fun f=>rW f.ri (badR c.ps))=true):cu c=true:=by rw [cu,h,Bool.true_or,Bool.or_true,Bool.or_true,Bool.or_true,Bool.or_true]
theorem cx6 (h:c.fs.any (fun f=>rW f.ri (iK c.ps))=true):cu c=true:=by rw [cu,h,Bool.true_or,Bool.or_true,Bool.or_true,Bool.or_true,Bool.or_true,Bool.or_true]
theorem cx7 (h1:jM c=false) (h2:c.ps.any og=false) (h3:c.ps.Nodup) (h4:c.fs.any (dU c.ps.length)=false) (h5:c.fs.any (fun f=>rW f.ri (badR c.ps))=false) (h6:c.fs.any (fun f=>rW f.ri (iK c.ps))=false):cu c=bV c.ps c.fs:=by
 rw [cu,h1,h2,decide_eq_true h3,h4,h5,h6];rfl
theorem Vq (h:c.ps.length<3∨120<c.ps.length∨c.fs.length<1∨64<c.fs.length):jM c=true:=by
 simp only [jM,Bool.or_eq_true,decide_eq_true_eq];exact h
theorem ae5 (h:¬ (c.ps.length<3∨120<c.ps.length∨c.fs.length<1∨64<c.fs.length)):jM c=false:=by
 simp only [jM,Bool.or_eq_false_iff,decide_eq_false_iff_not];omega
end
theorem adF {r:Int} {b:Bool} (h:decide (0≤r)=b) (h0:0≤r):b=true:=by rw [← h,decide_eq_true h0]
theorem adG {r:Int} {b:Bool} (h:decide (0≤r)=b) (h0:¬ 0≤r):b=false:=by rw [← h,decide_eq_false h0]
set_option maxHeartbeats 2000000 in
theorem NU (lo:Nat) (c:CxV) (w:World) (hc:c.ok lo w) :
  Calls Tryz.prog 140 #[c.val] w (Ret fun v w'=>abh (cu c) w v w'):=by
 refine T.enter (vs:=[c.val]) func140 rfl ntmps140 rfl ?_
 refine T.q (L.o (O.box rfl (fun b1 w1 hb1 hz1 he1 hB1=>?_)))
 have hC:Blk w1 b1 c.cells 46:=hB1
 have hc1:=hc.ext he1
 have hle1:=Sl.le hc1.p
 have hle2:=Sl.le hc1.sl
 refine L.a rfl (L.a rfl (L.nil (T.seq (T.q (L.o (O.fieldAddr runUnderlying46 rfl sizeOf43 rfl (L.o (O.load isAgg43 rfl (hC.cell rfl) (L.o (O.len runUnderlying43 rfl (Sl.val hc1.p) (L.a rfl (L.nil (T.q (L.m rfl (L.o (O.bF rfl rfl (fun h3=>?_) (fun h3=>?_)))))))))))))))))
 ·refine L.m rfl (L.p (L.p (L.o (O.ah rfl rfl (L.m rfl (L.p (L.p (L.p (L.p (L.o (O.ah rfl rfl (L.m rfl (L.p (L.p (L.p (L.p (L.o (O.ah rfl rfl (L.nil (T.ct (T.q (L.a rfl (L.a rfl (L.nil (T.Cj results140 rfl rfl ⟨1,0,rfl,by rw [cx1 (Vq (.inl (by omega)))];rfl,he1⟩)))))))))))))))))))))))))
 refine L.m rfl (L.m rfl (L.o (O.jS rfl rfl (fun adH=>?_) (fun adH=>?_))))
 ·refine L.o (O.aj rfl rfl (L.m rfl (L.p (L.p (L.p (L.p (L.o (O.ah rfl rfl (L.m rfl (L.p (L.p (L.p (L.p (L.o (O.ah rfl rfl (L.nil (T.ct (T.q (L.a rfl (L.a rfl (L.nil (T.Cj results140 rfl rfl ⟨1,0,rfl,by rw [cx1 (Vq (.inr (.inl (by omega))))];rfl,he1⟩))))))))))))))))))))))
 refine L.o (O.aj rfl rfl (L.m rfl (L.o (O.fieldAddr runUnderlying46 rfl sizeOf44 rfl (L.o (O.load isAgg44 rfl (hC.cell rfl) (L.o (O.len runUnderlying44 rfl (Sl.val hc1.sl) (L.o (O.bF rfl rfl (fun hf1=>?_) (fun hf1=>?_)))))))))))
 ·refine L.o (O.aj rfl rfl (L.m rfl (L.p (L.p (L.p (L.p (L.o (O.ah rfl rfl (L.nil (T.ct (T.q (L.a rfl (L.a rfl (L.nil (T.Cj results140 rfl rfl ⟨1,0,rfl,by rw [cx1 (Vq (.inr (.inr (.inl (by omega)))))];rfl,he1⟩)))))))))))))))
 refine L.o (O.aj rfl rfl (L.m rfl (L.o (O.fieldAddr runUnderlying46 rfl sizeOf44 rfl (L.o (O.load isAgg44 rfl (hC.cell rfl) (L.o (O.len runUnderlying44 rfl (Sl.val hc1.sl) (L.o (O.jS rfl rfl (fun ajx=>?_) (fun ajx=>?_)))))))))))
 ·refine L.o (O.aj rfl rfl (L.nil (T.ct (T.q (L.a rfl (L.a rfl (L.nil (T.Cj results140 rfl rfl ⟨1,0,rfl,by rw [cx1 (Vq (.inr (.inr (.inr (by omega)))))];rfl,he1⟩))))))))
 have hcnt:jM c=false:=ae5 (by omega)
 refine L.o (O.aj rfl rfl (L.nil (T.cf (T.skip (T.seq (T.q (L.o (O.fieldAddr runUnderlying46 rfl sizeOf43 rfl (L.o (O.load isAgg43 rfl (hC.cell rfl) (L.o (O.call (xs:=[.tmp 35,.func 174]) call173 rfl rfl (F7 lo c.pv c.ps w1 hc1.p) (fun v2 w2 hq=>?_)))))))))))))
 obtain ⟨r,rfl,hr,he2⟩:=hq
 have hC2:=Blk.ext (cs:=c.cells) hC he2
 have hc2:=hc1.ext he2
 have zY:=he1.trans he2
 refine L.a rfl (L.nil (T.q (L.m rfl (L.o (O.zT rfl rfl (fun hr0=>?_) (fun hr0=>?_))))))
 ·refine L.nil (T.ct (T.q (L.m rfl (L.a rfl (L.a rfl (L.nil (T.Cj results140 rfl rfl ⟨2,r,rfl,by rw [cx2 (adF hr (by omega))];rfl,zY⟩)))))))
 refine L.nil (?_)
 have hfa:c.ps.any og=false:=adG hr (by omega)
 have hf:=YM hfa
 refine T.cf (T.skip (T.q (L.o (O.qC (kf:=pV) (vf:=Value.bool) (fun b3 w3 hb3 hz3 he3 hM3=>?_)))))
 refine L.a rfl (L.nil (T.seq (T.q (L.o (O.fieldAddr runUnderlying46 rfl sizeOf43 rfl (L.o (O.load isAgg43 rfl ((Blk.ext (cs:=c.cells) hC2 he3).cell rfl) (L.o (O.len runUnderlying43 rfl (Sl.val (hc2.p.ext he3)) (L.m rfl (L.nil (T.block (?_)))))))))))))
 refine T.loop (σ:=Nat) (fun i=>[(1,.pointer (some ⟨b1,0,none⟩)),(6,.map (some b3)),(42,c.pv),(43,.int .i64 c.ps.length),(44,.int .i64 i)]) (fun i w'=>i≤c.ps.length∧Ext w2 w'∧(∃ kvs,o9 pV Value.bool w' b3 kvs∧Vk kvs (c.ps.take i))∧(c.ps.take i).Nodup) (fun i=>c.ps.length-i) (0) ⟨rfl,rfl,rfl,rfl,rfl,trivial⟩ ⟨Nat.zero_le _,he3,⟨[],hM3,Vk.nil⟩,by simp⟩ ?_
 rintro i w4 ⟨hi,he4,⟨kvs,hM4,hk4⟩,hn4⟩
 have hC4:=Blk.ext (cs:=c.cells) hC2 he4
 have hc4:=hc2.ext he4
 refine T.q (L.o (O.bF rfl rfl (fun hlt=>?_) (fun hlt=>?_)))
 ·refine L.nil (?_)
  have hlt':i<c.ps.length:=by omega
  refine T.seq (T.ct (T.skip (T.seq (T.block (T.q (L.m rfl (L.o (O.indexAddr runUnderlying43 sizeOf124 rfl rfl hc4.p (by omega) (by omega) (L.o (O.ak isAgg124 sizeOf124 rfl rfl (hc4.p.row hlt') (L.o (O.alloc zeroValue124 (fun b5 w5 hb5 hz5 he5 hB5=>?_)))))))))))))
  refine L.a rfl (L.o (O.aC sizeOf124 rfl rfl rfl hB5 (Nat.le_refl _) (gY _) (fun w6 hu6 hB6=>?_)))
  have hX6:Blk w6 b5 (pC (c.ps.getD i (0,0))) 124:=hB6
  have AV:Ext w4 w6:=he5.upd hu6 (.inr (by omega))
  have hM6:=hM4.keep AV (Nat.zero_le _)
  have hlm:=hM4.lt
  refine L.nil (T.seq (T.q (L.m rfl (L.o (O.ak isAgg124 sizeOf124 rfl rfl hX6.row (L.o (O.Qu (kf:=pV) (vf:=Value.bool) (z0:=false) Qx runUnderlying249 zeroValue4 rfl rfl hM6 (?_))))))))
  cases hb:(iG kvs (c.ps.getD i (0,0))).getD false
  ·refine L.nil (T.cf (T.skip (T.region (L.m rfl (L.o (O.ak isAgg124 sizeOf124 rfl rfl hX6.row (L.o (O.sQ (kf:=pV) (vf:=Value.bool) (v:=_) Qx runUnderlying249 rfl rfl rfl hM6 (fun w7 hu7 hM7=>?_)))))))))
   have hnk:c.ps.getD i (0,0)∉c.ps.take i:=by rw [hk4,decide_eq_false_iff_not] at hb;exact hb
   have hts:c.ps.take (i+1)=c.ps.take i ++ [c.ps.getD i (0,0)]:=by rw [au hlt',List.take_succ_eq_append_getElem hlt']
   refine L.nil (T.blk (T.region (L.o (O.aI rfl rfl (by omega) (L.m rfl (L.nil (T.again (i+1) (by omega) ⟨rfl,rfl,rfl,rfl,rfl,trivial⟩ ⟨hlt',(he4.trans AV).upd hu7 (.inr (by omega)),⟨_,hM7,by rw [hts];exact hk4.put⟩,by rw [hts];exact Bg hn4 hnk⟩)))))))
  refine L.nil (T.ct (T.q (L.m rfl (L.a rfl (L.a rfl (L.nil (T.Cj results140 rfl rfl ⟨3,i,rfl,?_,zY.trans (he4.trans AV)⟩)))))))
  rw [cx3 (fun h=>QO (d:=(0,0)) id hlt' (by rw [hk4,decide_eq_true_eq] at hb;rw [List.map_id];exact hb) (by rw [List.map_id];exact h))];rfl
 refine L.nil (?_)
 obtain rfl:i=c.ps.length:=by omega
 rw [List.take_length] at hn4
 refine T.seq (T.cf (T.exit rfl (T.q (L.o (O.alloc zeroValue251 (fun b8 w8 hb8 hz8 he8 hB8=>?_))))))
 refine L.o (O.store1 sizeOf251 rfl rfl rfl hB8 (by simp [Value.cells]) (fun w9 hu9 hB9=>?_))
 obtain ⟨tb,hB9⟩:∃ t,Blk w9 b8 [.func (.func 175) #[] #[]] t:=⟨_,hB9⟩
 have abw:Ext w4 w9:=he8.upd hu9 (.inr (by omega))
 have hC9:=Blk.ext (cs:=c.cells) hC4 abw
 have hc9:=hc4.ext abw
 have Xz:=zY.trans (he4.trans abw)
 refine L.nil (T.seq (T.q (L.o (O.fieldAddr runUnderlying46 rfl sizeOf44 rfl (L.o (O.load isAgg44 rfl (hC9.cell rfl) (L.o (O.makeFunc (fi:=[]) (ca:=[.tmp 9,.tmp 1]) rfl rfl (L.o (O.call (xs:=[.tmp 57,.tmp 58]) call177 rfl rfl (mX lo c.fv c.fs 178 #[.pointer (some ⟨b8,0,none⟩),.pointer (some ⟨b1,0,none⟩)] (dU c.ps.length) w9 hc9.sl hc9.fs call178 (fun f W hfm hW ↦ Jo lo b8 b1 tb c f W (Blk.ext (cs:=[.func (.func 175) #[] #[]]) hB9 hW) (Blk.ext (cs:=c.cells) hC9 hW) ⟨lo,hc9.p.ext hW⟩ ((hc9.fs f hfm).ext hW))) (fun v10 w10 hq=>?_)))))))))))
 obtain ⟨r2,rfl,hr2,gI⟩:=hq
 refine L.a rfl (L.nil (T.q (L.m rfl (L.o (O.zT rfl rfl (fun ajy=>?_) (fun ajy=>?_))))))
 ·refine L.nil (T.ct (T.q (L.m rfl (L.a rfl (L.a rfl (L.nil (T.Cj results140 rfl rfl ⟨4,r2,rfl,by rw [cx4 (adF hr2 (by omega))];rfl,Xz.trans gI⟩)))))))
 refine L.nil (?_)
 have h4:=adG hr2 (by omega)
 have ae6:=Blk.ext (cs:=c.cells) hC9 gI
 have abx:=hc9.ext gI
 have aby:=Blk.ext (cs:=[.func (.func 175) #[] #[]]) hB9 gI
 refine T.cf (T.skip (T.seq (T.q (L.o (O.fieldAddr runUnderlying46 rfl sizeOf44 rfl (L.o (O.load isAgg44 rfl (ae6.cell rfl) (L.o (O.makeFunc (fi:=[]) (ca:=[.tmp 9,.tmp 1]) rfl rfl (L.o (O.call (xs:=[.tmp 64,.tmp 65]) call177 rfl rfl (mX lo c.fv c.fs 182 #[.pointer (some ⟨b8,0,none⟩),.pointer (some ⟨b1,0,none⟩)] (fun f ↦ rW f.ri (badR c.ps)) w10 abx.sl abx.fs call182 (fun f W hfm hW ↦ Jp lo lo b8 b1 tb c f W (Blk.ext (cs:=[.func (.func 175) #[] #[]]) aby hW) (Blk.ext (cs:=c.cells) ae6 hW) (abx.p.ext hW) ((abx.fs f hfm).ext hW) (by have:=(qO (lM h4 f hfm)).1;omega) hf (qO (lM h4 f hfm)).2)) (fun v11 w11 hq=>?_))))))))))))
 obtain ⟨r3,rfl,hr3,eH⟩:=hq
 refine L.a rfl (L.nil (T.q (L.m rfl (L.o (O.zT rfl rfl (fun ajz=>?_) (fun ajz=>?_))))))
 ·refine L.nil (T.ct (T.q (L.m rfl (L.a rfl (L.a rfl (L.nil (T.Cj results140 rfl rfl ⟨5,r3,rfl,by rw [cx5 (adF hr3 (by omega))];rfl,Xz.trans (gI.trans eH)⟩)))))))
 refine L.nil (?_)
 have h5:=adG hr3 (by omega)
 have ae7:=Blk.ext (cs:=c.cells) ae6 eH
 have YC:=abx.ext eH
 have aaf:=Blk.ext (cs:=[.func (.func 175) #[] #[]]) aby eH
 refine T.cf (T.skip (T.seq (T.q (L.o (O.fieldAddr runUnderlying46 rfl sizeOf44 rfl (L.o (O.load isAgg44 rfl (ae7.cell rfl) (L.o (O.makeFunc (fi:=[]) (ca:=[.tmp 9,.tmp 1]) rfl rfl (L.o (O.call (xs:=[.tmp 71,.tmp 72]) call177 rfl rfl (mX lo c.fv c.fs 186 #[.pointer (some ⟨b8,0,none⟩),.pointer (some ⟨b1,0,none⟩)] (fun f ↦ rW f.ri (iK c.ps)) w11 YC.sl YC.fs call186 (fun f W hfm hW ↦ Jq lo lo b8 b1 tb c f W (Blk.ext (cs:=[.func (.func 175) #[] #[]]) aaf hW) (Blk.ext (cs:=c.cells) ae7 hW) (YC.p.ext hW) ((YC.fs f hfm).ext hW) (by have:=(qO (lM h4 f hfm)).1;omega) hf (qO (lM h4 f hfm)).2)) (fun v12 w12 hq=>?_))))))))))))
 obtain ⟨r4,rfl,hr4,fQ⟩:=hq
 refine L.a rfl (L.nil (T.q (L.m rfl (L.o (O.zT rfl rfl (fun ajA=>?_) (fun ajA=>?_))))))
 ·refine L.nil (T.ct (T.q (L.m rfl (L.a rfl (L.a rfl (L.nil (T.Cj results140 rfl rfl ⟨6,r4,rfl,by rw [cx6 (adF hr4 (by omega))];rfl,Xz.trans (gI.trans (eH.trans fQ))⟩)))))))
 refine L.nil (?_)
 have h6:=adG hr4 (by omega)
 have hg:=YK h4 h5
 refine T.cf (T.skip (T.q (L.o (O.ak isAgg46 sizeOf46 rfl rfl ((Blk.ext (cs:=c.cells) ae7 fQ).row) (L.o (O.call (xs:=[.tmp 77]) call189 rfl rfl (Jt lo c w12 (YC.ext fQ) hf (abv hg) (ae4 hg) (YL (by omega) hg)) (fun v13 w13 hq=>?_)))))))
 obtain ⟨kd,a,rfl,hka,dn⟩:=hq
 refine L.o (O.extract rfl rfl (L.o (O.extract rfl rfl (L.a rfl (L.a rfl (L.nil (T.Cj results140 rfl rfl ⟨kd,a,rfl,by rw [cx7 hcnt hfa hn4 h4 h5 h6];exact hka,Xz.trans (gI.trans (eH.trans (fQ.trans dn)))⟩)))))))
theorem Ju (lo:Nat) (c:CxV) (w:World) (hc:c.ok lo w) :
  Calls Tryz.prog 82 #[c.val] w (Ret fun v w'=>v = .int .i64 (if cu c then 150 else 0)∧Ext w w'):=by
 refine T.enter (vs:=[c.val]) func82 rfl ntmps82 rfl ?_
 refine T.q (L.o (O.box rfl (fun b1 w1 hb1 hz1 he1 hB1=>?_)))
 have hC:Blk w1 b1 c.cells 46:=hB1
 refine L.a rfl (L.nil (T.seq (T.q (L.o (O.ak isAgg46 sizeOf46 rfl rfl hC.row (L.o (O.call (xs:=[.tmp 6]) call140 rfl rfl (NU lo c w1 (hc.ext he1)) (fun v2 w2 hq=>?_))))))))
 obtain ⟨k,a,rfl,hk,he2⟩:=hq
 refine L.m rfl (L.o (O.extract rfl rfl (L.o (O.extract rfl rfl (L.a rfl (L.a rfl (L.nil (T.q (L.m rfl (L.o (O.jS rfl rfl (fun h0=>?_) (fun h0=>?_))))))))))))
 ·refine L.nil (T.ct (T.q (L.a rfl (L.nil (T.aU results82 rfl ⟨by rw [← hk,decide_eq_true h0];rfl,he1.trans he2⟩)))))
 refine L.nil (T.cf (T.skip (T.q (L.a rfl (L.nil (T.aU results82 rfl ⟨by rw [← hk,decide_eq_false h0];rfl,he1.trans he2⟩))))))
end Go.Proofs.YtnlonpcbgjbbaaaGreatDoor
