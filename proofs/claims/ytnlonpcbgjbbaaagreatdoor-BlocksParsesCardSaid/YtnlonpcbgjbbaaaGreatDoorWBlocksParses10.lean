/-
  BlocksParses, part 10 of its proof: that it returns true for every input, and each argument reads behind the call as it read before. Conditions: the listed variables read as the program's text lays them (tied by the card).
-/
import Derived.Test.YtnlonpcbgjbbaaaGreatDoorWBlocksParses9
import Derived.Test.YtnlonpcbgjbbaaaGreatDoorWBlocksParses5
set_option linter.unusedVariables false
set_option linter.unusedSimpArgs false
set_option maxRecDepth 20000
namespace Go.Proofs.YtnlonpcbgjbbaaaGreatDoor
open Go.Proofs.Tryz
open Go Go.E
attribute [local irreducible] Go.E.T Go.E.L Go.E.O Go.E.Ob
attribute [local irreducible] Go.E.ObX
variable {ps:List Pt} {cs:List Value} {base i n:Nat} {α:Type}
def uJ (n:Nat) (_:Int) (l:List Int):Bool:=decide (l.length<3) || (decide (40<l.length) || (decide (FH l (l.length-1)<0) || decide ((n:Int)≤IW l (l.length-1))))
theorem QS {k:Int} {l:List Int} (h:uJ n k l=false):IxL n l∧3≤l.length∧l.length≤40:=by
 simp only [uJ,Bool.or_eq_false_iff,decide_eq_false_iff_not] at h
 obtain ⟨c,d,a,b⟩:=h
 rw [VN] at a
 rw [VO] at b
 refine ⟨fun i hi=>⟨?_,?_⟩,omX,omX⟩
 ·rcases Int.lt_or_le (l.getD i 0) 0 with h|h
  ·exact absurd ⟨i,omX,h⟩ a
  exact h
 rcases Int.lt_or_le (l.getD i 0) n with h|h
 ·exact h
 exact absurd ⟨i,omX,h⟩ b
def jw (n:Nat) (f:FaV):Bool:=decide (8<f.hs.length) || BL f.ri (uJ n)
theorem any_none {ri:List RiV} {bad:Int→List Int→Bool} (h:BL ri bad=false) {k:Nat} (a:k<ri.length):bad k (ri.getD k r0).xs=false:=by
 rw [BL,decide_eq_false_iff_not] at h
 cases hb:bad k (ri.getD k r0).xs
 ·rfl
 exact absurd ⟨k,a,hb⟩ h
theorem yg {f:FaV} (h:jw n f=false):f.hs.length≤8∧∀ x∈f.ri,Ko n x:=by
 simp only [jw,Bool.or_eq_false_iff,decide_eq_false_iff_not] at h
 refine ⟨omX,fun x hx=>?_⟩
 obtain ⟨k,a,rfl⟩:=List.getElem_of_mem hx
 have:=QS (any_none h.2 a)
 rw [aX a] at this
 exact ⟨this.1,omX⟩
theorem zG (lo2:Nat) (f:FaV) (gf:FuncId) (ca:Array Value) (bad:Int→List Int→Bool) (w:World) (q:f.ok lo2 w) (hn:f.hs.length≤100000) (r:∀ args w,(callFunc gf args).run Tryz.prog w = .ok (.enter gf args) w) (hcall:∀ (k:Nat) (h:RiV) (W:World),h∈f.ri→Ext w W→Calls Tryz.prog gf (#[] ++ [.int .i64 k,h.v].toArray++ca) W (Ret fun v W'=>v = .bool (bad k h.xs)∧Ext W W')) :
  Calls Tryz.prog 175 #[f.val,.func (.func gf) #[] ca] w (Ret fun v w'=>v = .bool (BL f.ri bad)∧Ext w w'):=by
 refine aJ (vs:=[f.val,.func (.func gf) #[] ca]) func175 Z ntmps175 Z ?_
 refine au (bM Z (fun b2 s B C l hB2=>?_))
 have hF2:Blk s b2 f.cells 127:=hB2
 refine ah Z (aj (au (aT Z Z hF2.row (L.o (ay (xs:=[.tmp 7]) call176 Z Z (Dn lo2 f s (q.ext l) hn) (fun v3 D t=>?_))))))
 obtain ⟨u,j⟩:=t
 have kZ:=l.trans u
 have E:=Sl.le j
 refine L.le Z (Sl.val j) (L.m Z (ak (T.block (?_))))
 refine bf (σ:=Nat) (fun i=>[(1,.func (.func gf) #[] ca),(8,v3),(9,.int .i64 f.ri.length),(10,.int .i64 i)]) (fun i w'=>i≤f.ri.length∧Ext D w'∧∀ k,k<i→bad (k:Nat) (f.ri.getD k r0).xs=false) (fun i=>f.ri.length-i) (0) ⟨rfl,rfl,rfl,rfl,trivial⟩ ⟨Nat.zero_le _,Keep.refl _ _,fun k y=>absurd y (Nat.not_lt_zero _)⟩ ?_
 rintro i z ⟨hi,c,g⟩
 refine au (bH Z Z (fun x=>?_) (fun x=>?_))
 ·refine ak (?_)
  have b:i<f.ri.length:=by omega
  have F:f.ri.getD i r0∈f.ri:=by rw [aX b];exact List.getElem_mem b
  have xu:=kZ.trans c
  have n:Sl s.heap.size z v3 f.ri.length 1 (dw f.ri):=Sl.ext j c
  refine aj (aZ (T.skip (aj (T.block (aQ Z (dG Z Z n (cZ Z (by rw [Int.toNat_natCast,Nat.mul_one];exact Sl.cell n (lK b)) (L.a Z (ah Z (au (aN Z Z (aO Z (ay (xs:=[.tmp 16,.tmp 17]) r Z Z (hcall i (f.ri.getD i r0) z F xu) (fun v5 G t=>?_))))))))))))))
  obtain ⟨d,p⟩:=t
  rcases hb:bad (i:Nat) (f.ri.getD i r0).xs with _|_
  ·refine ak (?_)
   rw [hb] at d
   subst d
   refine bn (T.skip (T.blk (aA (bF Z Z (L.m Z (ak (aP (i+1) omX ⟨rfl,rfl,rfl,rfl,trivial⟩ ⟨b,c.trans p,fun k y=>?_⟩)))))))
   ·by_cases e:k=i
    ·subst e;exact hb
    exact g k omX
  refine ak (?_)
  rw [hb] at d
  subst d
  refine aZ (au (ah Z (aB results175 Z ⟨by rw [BL,decide_eq_true ⟨i,b,hb⟩],xu.trans p⟩)))
 refine ak (aj (bn (aY Z (au (ah Z (aB results175 Z ⟨by rw [BL,decide_eq_false (fun ⟨k,H,A⟩=>by rw [g k omX] at A;cases A)],kZ.trans c⟩))))))
theorem LQ (lo2 b:Nat) (c:CxV) (k:Int) (h:RiV) (w:World) (hB:Blk w b c.cells 46) (i:∃ lo,Pts lo w c.pv c.ps) (f:Ints .i64 lo2 w h.v h.xs) :
  Calls Tryz.prog 179 #[.int .i64 k,h.v,.pointer (some ⟨b,0,none⟩)] w (Ret fun v w'=>v = .bool (uJ c.ps.length k h.xs)∧Ext w w'):=by
 have m:=Sl.le f
 obtain ⟨lo,i⟩:=i
 have n:=Sl.le i
 refine aJ (vs:=[.int .i64 k,h.v,.pointer (some ⟨b,0,none⟩)]) func179 Z ntmps179 Z ?_
 by_cases j:h.xs.length<3
 ·refine au (ah Z (aj (?_)))
  refine dn mixed 19 [1,2] Z [.is _,.is _,.is _,.is _,.is undef,.is undef,.is undef,.is _,.is _,.is undef,.is undef,.is undef,.is _,.is _,.is undef,.is undef,.is undef,.is undef,.is undef] [[],[0],[1],[2],[3],[4,3],[5,3],[3,6],[7],[8],[9,8],[10,8],[8,11],[12],[13],[14,13],[13],[16,13],[17,13]] trivial ⟨fun a hx=>aF rfl,
    fun a hx=>Ob.o (O.le Z (Sl.val (f.ext hx)) kR),
    fun a hx=>Ob.o (mD Z Z omX kR),
    fun a hx=>aF rfl,
    fun a hx=>aV rfl rfl,
    fun a hx=>aV rfl rfl,
    fun a hx=>aV rfl rfl,
    fun a hx=>jU rfl,
    fun a hx=>aF rfl,
    fun a hx=>aV rfl rfl,
    fun a hx=>aV rfl rfl,
    fun a hx=>aV rfl rfl,
    fun a hx=>jU rfl,
    fun a hx=>aF rfl,
    fun a hx=>aV rfl rfl,
    fun a hx=>aV rfl rfl,
    fun a hx=>aV rfl rfl,
    fun a hx=>aV rfl rfl,
    fun a hx=>aV rfl rfl,
    trivial⟩ (fun l d=>?_)
  refine L.p (aG Z (ah Z (aB results179 Z ⟨by rw [uJ,decide_eq_true j,Bool.true_or],d⟩)))
 by_cases g:40<h.xs.length
 ·refine au (ah Z (aj (?_)))
  refine dn mixed 19 [1,2] Z [.is _,.is _,.is _,.is _,.is _,.is _,.is _,.is _,.is _,.is undef,.is undef,.is undef,.is _,.is _,.is undef,.is undef,.is undef,.is undef,.is undef] [[],[0],[1],[2],[3],[4,3],[5,3],[3,6],[7],[8],[9,8],[10,8],[8,11],[12],[13],[14,13],[13],[16,13],[17,13]] trivial ⟨fun a hx=>aF rfl,
    fun a hx=>Ob.o (O.le Z (Sl.val (f.ext hx)) kR),
    fun a hx=>Ob.o (fU Z Z omX kR),
    fun a hx=>aF rfl,
    fun a hx=>aF rfl,
    fun a hx=>Ob.o (O.le Z (Sl.val (f.ext hx)) kR),
    fun a hx=>Ob.o (iM Z Z omX kR),
    fun a hx=>oD rfl,
    fun a hx=>aF rfl,
    fun a hx=>aV rfl rfl,
    fun a hx=>aV rfl rfl,
    fun a hx=>aV rfl rfl,
    fun a hx=>jU rfl,
    fun a hx=>aF rfl,
    fun a hx=>aV rfl rfl,
    fun a hx=>aV rfl rfl,
    fun a hx=>aV rfl rfl,
    fun a hx=>aV rfl rfl,
    fun a hx=>aV rfl rfl,
    trivial⟩ (fun l d=>?_)
  refine L.p (aG Z (ah Z (aB results179 Z ⟨by rw [uJ,decide_eq_false j,decide_eq_true g,Bool.true_or,Bool.false_or],d⟩)))
 by_cases e:FH h.xs (h.xs.length-1)<0
 ·refine au (ah Z (aj (?_)))
  refine dn mixed 19 [1,2] Z [.is _,.is _,.is _,.is _,.is _,.is _,.is _,.is _,.is _,.is _,.is (.int .i64 (FH h.xs (h.xs.length-1))),.is _,.is _,.is _,.is undef,.is undef,.is undef,.is undef,.is undef] [[],[0],[1],[2],[3],[4,3],[5,3],[3,6],[7],[8],[9,8],[10,8],[8,11],[12],[13],[14,13],[13],[16,13],[17,13]] trivial ⟨fun a hx=>aF rfl,
    fun a hx=>Ob.o (O.le Z (Sl.val (f.ext hx)) kR),
    fun a hx=>Ob.o (fU Z Z omX kR),
    fun a hx=>aF rfl,
    fun a hx=>aF rfl,
    fun a hx=>Ob.o (O.le Z (Sl.val (f.ext hx)) kR),
    fun a hx=>Ob.o (gW Z Z omX kR),
    fun a hx=>oD rfl,
    fun a hx=>aF rfl,
    fun a hx=>aF rfl,
    fun a hx=>Ob.o (ay (xs:=[.tmp 15]) call180 Z Z (Gu lo2 h.v h.xs a (f.ext hx) omX) (fun v wy h=>⟨Keep.of_eq h.2,h.1⟩)),
    fun a hx=>Ob.o (mD Z Z e kR),
    fun a hx=>oD rfl,
    fun a hx=>aF rfl,
    fun a hx=>aV rfl rfl,
    fun a hx=>aV rfl rfl,
    fun a hx=>aV rfl rfl,
    fun a hx=>aV rfl rfl,
    fun a hx=>aV rfl rfl,
    trivial⟩ (fun l d=>?_)
  refine L.p (aG Z (ah Z (aB results179 Z ⟨by rw [uJ,decide_eq_false j,decide_eq_false g,decide_eq_true e,Bool.true_or,Bool.false_or,Bool.false_or],d⟩)))
 refine au (ah Z (aj (?_)))
 refine dn mixed 19 [1,2] Z [.is _,.is _,.is _,.is _,.is _,.is _,.is _,.is _,.is _,.is _,.is (.int .i64 (FH h.xs (h.xs.length-1))),.is _,.is _,.is _,.is _,.is (.int .i64 (IW h.xs (h.xs.length-1))),.is _,.is _,.is _] [[],[0],[1],[2],[3],[4,3],[5,3],[3,6],[7],[8],[9,8],[10,8],[8,11],[12],[13],[14,13],[13],[16,13],[17,13]] trivial ⟨fun a hx=>aF rfl,
   fun a hx=>Ob.o (O.le Z (Sl.val (f.ext hx)) kR),
   fun a hx=>Ob.o (fU Z Z omX kR),
   fun a hx=>aF rfl,
   fun a hx=>aF rfl,
   fun a hx=>Ob.o (O.le Z (Sl.val (f.ext hx)) kR),
   fun a hx=>Ob.o (gW Z Z omX kR),
   fun a hx=>oD rfl,
   fun a hx=>aF rfl,
   fun a hx=>aF rfl,
   fun a hx=>Ob.o (ay (xs:=[.tmp 15]) call180 Z Z (Gu lo2 h.v h.xs a (f.ext hx) omX) (fun v wy h=>⟨Keep.of_eq h.2,h.1⟩)),
   fun a hx=>Ob.o (fU Z Z e kR),
   fun a hx=>oD rfl,
   fun a hx=>aF rfl,
   fun a hx=>aF rfl,
   fun a hx=>Ob.o (ay (xs:=[.tmp 20]) call181 Z Z (TM lo2 h.v h.xs a (f.ext hx) omX) (fun v wy h=>⟨Keep.of_eq h.2,h.1⟩)),
   fun a hx=>Ob.fa rfl,
   fun a hx=>aS rfl ((Blk.ext (cs:=c.cells) hB hx).cell rfl),
   fun a hx=>Ob.o (O.le Z (Sl.val (i.ext hx)) kR),
   trivial⟩ (fun l d=>?_)
 refine L.o (kH Z Z (aI Z (ah Z (aB results179 Z ⟨by rw [uJ,decide_eq_false j,decide_eq_false g,decide_eq_false e,Bool.false_or,Bool.false_or,Bool.false_or],d⟩))))
theorem O5 (lo2 e b:Nat) (tb:TypeId) (c:CxV) (f:FaV) (w:World) (g:Blk w e [.func (.func 175) #[] #[]] tb) (hB:Blk w b c.cells 46) (i:∃ lo,Pts lo w c.pv c.ps) (d:f.ok lo2 w) :
  Calls Tryz.prog 178 #[f.val,.pointer (some ⟨e,0,none⟩),.pointer (some ⟨b,0,none⟩)] w (Ret fun v w'=>v = .bool (jw c.ps.length f)∧Ext w w'):=by
 refine aJ (vs:=[f.val,.pointer (some ⟨e,0,none⟩),.pointer (some ⟨b,0,none⟩)]) func178 Z ntmps178 Z ?_
 refine au (bM Z (fun b3 l n p a hB3=>?_))
 have hF3:Blk l b3 f.cells 127:=hB3
 obtain ⟨lo,i⟩:=i
 refine ah Z (au (aC Z (hF3.cell Z) (L.le Z (Sl.val ((d.ext a).sl)) (dY Z Z (fun q=>?_) (fun q=>?_)))))
 ·refine L.m Z (L.pp (L.pp (aG Z (ah Z (aB results178 Z ⟨by rw [jw,decide_eq_true omX,Bool.true_or],a⟩)))))
 refine L.m Z (cZ Z ((Blk.ext (cs:=[.func (.func 175) #[] #[]]) g a).cell Z) (aT Z Z hF3.row (L.o (eG (fi:=[]) (ca:=[.tmp 2]) Z Z (L.o (ay (xs:=[.tmp 11,.tmp 12]) call175 Z Z (zG lo2 f 179 #[.pointer (some ⟨b,0,none⟩)] (uJ c.ps.length) l (d.ext a) omX call179 (fun k h W r hW ↦ LQ lo2 b c k h W (Blk.ext (cs:=c.cells) hB (a.trans hW)) ⟨lo,i.ext (a.trans hW)⟩ ((d.ext (a.trans hW)).ri h r))) (fun v4 t s=>?_)))))))
 obtain ⟨rfl,j⟩:=s
 refine aI Z (ah Z (aB results178 Z ⟨by rw [jw,decide_eq_false omX,Bool.false_or],a.trans j⟩))
theorem O6 (lo lo2 e b:Nat) (tb:TypeId) (c:CxV) (f:FaV) (w:World) (g:Blk w e [.func (.func 175) #[] #[]] tb) (hB:Blk w b c.cells 46) (m:Pts lo w c.pv c.ps) (d:f.ok lo2 w) (hn:f.hs.length≤100000) (hf:NfL c.ps) (n:∀ h∈f.ri,Ko c.ps.length h) :
  Calls Tryz.prog 182 #[f.val,.pointer (some ⟨e,0,none⟩),.pointer (some ⟨b,0,none⟩)] w (Ret fun v w'=>v = .bool (BL f.ri (badR c.ps))∧Ext w w'):=by
 refine aJ (vs:=[f.val,.pointer (some ⟨e,0,none⟩),.pointer (some ⟨b,0,none⟩)]) func182 Z ntmps182 Z ?_
 refine au (bM Z (fun b3 j p q a hB3=>?_))
 have hF3:Blk j b3 f.cells 127:=hB3
 refine ah Z (au (cZ Z ((Blk.ext (cs:=[.func (.func 175) #[] #[]]) g a).cell Z) (aT Z Z hF3.row (L.o (eG (fi:=[]) (ca:=[.tmp 2]) Z Z (L.o (ay (xs:=[.tmp 6,.tmp 7]) call175 Z Z (zG lo2 f 183 #[.pointer (some ⟨b,0,none⟩)] (badR c.ps) j (d.ext a) hn call183 (fun k h W l hW ↦ LH lo lo2 b c k h W (Blk.ext (cs:=c.cells) hB (a.trans hW)) (m.ext (a.trans hW)) ((d.ext (a.trans hW)).ri h l) hf (n h l))) (fun v4 s r=>?_))))))))
 obtain ⟨rfl,i⟩:=r
 refine ah Z (aB results182 Z ⟨rfl,a.trans i⟩)
theorem O7 (lo lo2 e b:Nat) (tb:TypeId) (c:CxV) (f:FaV) (w:World) (g:Blk w e [.func (.func 175) #[] #[]] tb) (hB:Blk w b c.cells 46) (m:Pts lo w c.pv c.ps) (d:f.ok lo2 w) (hn:f.hs.length≤100000) (hf:NfL c.ps) (n:∀ h∈f.ri,Ko c.ps.length h) :
  Calls Tryz.prog 186 #[f.val,.pointer (some ⟨e,0,none⟩),.pointer (some ⟨b,0,none⟩)] w (Ret fun v w'=>v = .bool (BL f.ri (qy c.ps))∧Ext w w'):=by
 refine aJ (vs:=[f.val,.pointer (some ⟨e,0,none⟩),.pointer (some ⟨b,0,none⟩)]) func186 Z ntmps186 Z ?_
 refine au (bM Z (fun b3 j p q a hB3=>?_))
 have hF3:Blk j b3 f.cells 127:=hB3
 refine ah Z (au (cZ Z ((Blk.ext (cs:=[.func (.func 175) #[] #[]]) g a).cell Z) (aT Z Z hF3.row (L.o (eG (fi:=[]) (ca:=[.tmp 2]) Z Z (L.o (ay (xs:=[.tmp 6,.tmp 7]) call175 Z Z (zG lo2 f 187 #[.pointer (some ⟨b,0,none⟩)] (qy c.ps) j (d.ext a) hn call187 (fun k h W l hW ↦ LK lo lo2 b c k h W (Blk.ext (cs:=c.cells) hB (a.trans hW)) (m.ext (a.trans hW)) ((d.ext (a.trans hW)).ri h l) hf (n h l))) (fun v4 s r=>?_))))))))
 obtain ⟨rfl,i⟩:=r
 refine ah Z (aB results186 Z ⟨rfl,a.trans i⟩)
theorem LU (lo:Nat) (q:Value) (ps:List Pt) (w:World) (g:Pts lo w q ps) :
  Calls Tryz.prog 173 #[q,.func (.func 174) #[] #[]] w (Ret fun v w'=>∃ r:Int,v = .int .i64 r∧decide (0≤r)=ps.any rE∧Ext w w'):=by
 have y:=Sl.le g
 refine aJ (vs:=[q,.func (.func 174) #[] #[]]) func173 Z ntmps173 Z ?_
 refine au (ah Z (aj (aQ Z (L.le Z (Sl.val g) (L.m Z (ak (T.block (?_))))))))
 refine bf (σ:=Nat) (fun i=>[(1,.func (.func 174) #[] #[]),(7,q),(8,.int .i64 ps.length),(9,.int .i64 i)]) (fun i w'=>i≤ps.length∧Ext w w'∧∀ k,k<i→rE (ps.getD k (0,0))=false) (fun i=>ps.length-i) (0) ⟨rfl,rfl,rfl,rfl,trivial⟩ ⟨Nat.zero_le _,Keep.refl _ _,fun k l=>absurd l (Nat.not_lt_zero _)⟩ ?_
 rintro i w1 ⟨hi,c,f⟩
 refine au (bH Z Z (fun n=>?_) (fun n=>?_))
 ·refine ak (?_)
  have b:i<ps.length:=by omega
  have p:ps.getD i (0,0)∈ps:=by rw [aX b];exact List.getElem_mem b
  refine aj (aZ (T.skip (aj (T.block (aQ Z (dG Z Z (g.ext c) (aT Z Z ((g.ext c).row b) (L.o (O.alloc zeroValue124 (fun b2 B z A s hB2=>?_))))))))))
  refine L.a Z (L.o (aK sizeOf124 Z Z Z hB2 leX (gu _) (fun t u hB3=>?_)))
  have x:Blk t b2 (pC (ps.getD i (0,0))) 124:=hB3
  have iH:Ext w1 t:=s.upd u (.inr omX)
  refine ak (aQ Z (aT Z Z x.row (L.o (ay (xs:=[.tmp 15]) call174 Z Z (TB (ps.getD i (0,0)) t) (fun v4 C g=>?_)))))
  obtain ⟨d,j⟩:=g
  rcases hb:rE (ps.getD i (0,0)) with _|_
  ·refine ak (?_)
   rw [hb] at d
   subst d
   refine bn (T.skip (T.blk (aA (bF Z Z (L.m Z (ak (aP (i+1) omX ⟨rfl,rfl,rfl,rfl,trivial⟩ ⟨b,c.trans (iH.trans j),fun k l=>?_⟩)))))))
   ·by_cases e:k=i
    ·subst e;exact hb
    exact f k omX
  refine ak (?_)
  rw [hb] at d
  subst d
  refine aZ (aQ Z (ah Z (aB results173 Z ⟨_,rfl,?_,c.trans (iH.trans j)⟩)))
  rw [decide_eq_true omX,eq_comm,List.any_eq_true]
  exact ⟨_,p,hb⟩
 refine ak (aj (bn (aY Z (au (ah Z (aB results173 Z ⟨_,rfl,?_,c⟩))))))
 rw [decide_eq_false dcX,eq_comm,List.any_eq_false]
 intro h p
 obtain ⟨k,l,rfl⟩:=List.getElem_of_mem p
 have:=f k omX
 rw [aX l] at this
 rw [this];decide
theorem uM (lo:Nat) (q:Value) (fs:List FaV) (gf:FuncId) (ca:Array Value) (pb:FaV→Bool) (w:World) (j:Sl lo w q fs.length 2 (fO fs)) (t:∀ f∈fs,f.ok lo w) (u:∀ args w,(callFunc gf args).run Tryz.prog w = .ok (.enter gf args) w) (hcall:∀ (f:FaV) (W:World),f∈fs→Ext w W→Calls Tryz.prog gf (#[] ++ [f.val].toArray++ca) W (Ret fun v W'=>v = .bool (pb f)∧Ext W W')) :
  Calls Tryz.prog 177 #[q,.func (.func gf) #[] ca] w (Ret fun v w'=>∃ r:Int,v = .int .i64 r∧decide (0≤r)=fs.any pb∧Ext w w'):=by
 have C:=Sl.le j
 refine aJ (vs:=[q,.func (.func gf) #[] ca]) func177 Z ntmps177 Z ?_
 refine au (ah Z (aj (aQ Z (L.le Z (Sl.val j) (L.m Z (ak (T.block (?_))))))))
 refine bf (σ:=Nat) (fun i=>[(1,.func (.func gf) #[] ca),(7,q),(8,.int .i64 fs.length),(9,.int .i64 i)]) (fun i w'=>i≤fs.length∧Ext w w'∧∀ k,k<i→pb (fs.getD k f0)=false) (fun i=>fs.length-i) (0) ⟨rfl,rfl,rfl,rfl,trivial⟩ ⟨Nat.zero_le _,Keep.refl _ _,fun k s=>absurd s (Nat.not_lt_zero _)⟩ ?_
 rintro i w1 ⟨hi,c,g⟩
 refine au (bH Z Z (fun x=>?_) (fun x=>?_))
 ·refine ak (?_)
  have b:i<fs.length:=by omega
  have l:fs.getD i f0∈fs:=by rw [aX b];exact List.getElem_mem b
  have n:Sl lo w1 q fs.length 2 (fO fs):=Sl.ext j c
  refine aj (aZ (T.skip (aj (T.block (aQ Z (dG Z Z n (aT Z Z (show Row w1 ((jX q).add ((i:Int).toNat*2)) (fs.getD i f0).cells by rw [Int.toNat_natCast,← zB fs i b];obtain ⟨_,_,_,_,D⟩:=Sl.there n omX;exact D.part (i*2) 2) (L.o (O.alloc zeroValue127 (fun b2 G E F y hB2=>?_))))))))))
  refine L.a Z (L.o (aK sizeOf127 Z Z Z hB2 leX (Gv ((t _ l).ext c)) (fun z A hB3=>?_)))
  have B:Blk z b2 (fs.getD i f0).cells 127:=hB3
  have iH:Ext w1 z:=y.upd A (.inr omX)
  refine ak (aQ Z (aT Z Z B.row (L.o (ay (xs:=[.tmp 15]) u Z Z (hcall (fs.getD i f0) z l (c.trans iH)) (fun v4 H j=>?_)))))
  obtain ⟨d,p⟩:=j
  rcases hb:pb (fs.getD i f0) with _|_
  ·refine ak (?_)
   rw [hb] at d
   subst d
   refine bn (T.skip (T.blk (aA (bF Z Z (L.m Z (ak (aP (i+1) omX ⟨rfl,rfl,rfl,rfl,trivial⟩ ⟨b,c.trans (iH.trans p),fun k s=>?_⟩)))))))
   ·by_cases e:k=i
    ·subst e;exact hb
    exact g k omX
  refine ak (?_)
  rw [hb] at d
  subst d
  refine aZ (aQ Z (ah Z (aB results177 Z ⟨_,rfl,?_,c.trans (iH.trans p)⟩)))
  rw [decide_eq_true omX,eq_comm,List.any_eq_true]
  exact ⟨_,l,hb⟩
 refine ak (aj (bn (aY Z (au (ah Z (aB results177 Z ⟨_,rfl,?_,c⟩))))))
 rw [decide_eq_false dcX,eq_comm,List.any_eq_false]
 intro h l
 obtain ⟨k,s,rfl⟩:=List.getElem_of_mem l
 have:=g k omX
 rw [aX s] at this
 rw [this];decide
def yh (l:List St):List Value:=l.flatMap St.cells
theorem Gw:∀ (r:List St) (i:Nat),i<r.length→((yh r).drop (i*4)).take 4=(r.getD i st0).cells
 | [],i,h=>by simp at h
 | p::r,0,_=>rfl
 | p::r,i+1,h=>by
  have ih:=Gw r i (by simpa using h)
  have e:yh (p::r) = .int .i64 p.a :: .int .i64 p.b :: .int .i64 p.f :: .int .i64 p.r::yh r:=rfl
  rw [e,show (i+1)*4=i*4+1+1+1+1 by omega,List.drop_succ_cons,List.drop_succ_cons,List.drop_succ_cons,List.drop_succ_cons,ih]
  rfl
theorem Gx (s:St):∀ u∈s.cells,u.oneCell'=true:=by intro u a;simp [St.cells] at a;rcases a with (rfl|rfl|rfl|rfl) <;> rfl
theorem LV (lo lo2 b1 b2:Nat) (c:CxV) (s:St) (q:Value) (l:List St) (w:World) (hB1:Blk w b1 c.cells 46) (hB2:Blk w b2 s.cells 277) (E:Pts lo w c.pv c.ps) (hf:NfL c.ps) (hs:s.ok c.ps) (F:∀ t∈l,t.ok c.ps) (j:Sl lo2 w q l.length 4 (yh l)) :
  Calls Tryz.prog 210 #[q,.func (.func 211) #[] #[.pointer (some ⟨b1,0,none⟩),.pointer (some ⟨b2,0,none⟩)]] w (Ret fun v w'=>∃ r:Int,v = .int .i64 r∧decide (0≤r)=l.any (o8 c.ps s)∧Ext w w'):=by
 have G:=Sl.le j
 refine aJ (vs:=[q,.func (.func 211) #[] #[.pointer (some ⟨b1,0,none⟩),.pointer (some ⟨b2,0,none⟩)]]) func210 Z ntmps210 Z ?_
 refine au (ah Z (aj (aQ Z (L.le Z (Sl.val j) (L.m Z (ak (T.block (?_))))))))
 refine bf (σ:=Nat) (fun i=>[(1,.func (.func 211) #[] #[.pointer (some ⟨b1,0,none⟩),.pointer (some ⟨b2,0,none⟩)]),(7,q),(8,.int .i64 l.length),(9,.int .i64 i)]) (fun i w'=>i≤l.length∧Ext w w'∧∀ k,k<i→o8 c.ps s (l.getD k st0)=false) (fun i=>l.length-i) (0) ⟨rfl,rfl,rfl,rfl,trivial⟩ ⟨Nat.zero_le _,Keep.refl _ _,fun k u=>absurd u (Nat.not_lt_zero _)⟩ ?_
 rintro i w1 ⟨hi,b,g⟩
 refine au (bH Z Z (fun y=>?_) (fun y=>?_))
 ·refine ak (?_)
  have d:i<l.length:=by omega
  have x:l.getD i st0∈l:=by rw [aX d];exact List.getElem_mem d
  have n:Sl lo2 w1 q l.length 4 (yh l):=Sl.ext j b
  refine aj (aZ (T.skip (aj (T.block (aQ Z (dG Z Z n (aT Z Z (show Row w1 ((jX q).add ((i:Int).toNat*4)) (l.getD i st0).cells by rw [Int.toNat_natCast,← Gw l i d];obtain ⟨_,_,_,_,H⟩:=Sl.there n omX;exact H.part (i*4) 4) (L.o (O.alloc zeroValue277 (fun b5 K I J z A=>?_))))))))))
  refine L.a Z (L.o (aK sizeOf277 Z Z Z A leX (Gx _) (fun B C hB3=>?_)))
  have D:Blk B b5 (l.getD i st0).cells 277:=hB3
  have iH:Ext w1 B:=z.upd C (.inr omX)
  refine ak (aQ Z (aT Z Z D.row (L.o (ay (xs:=[.tmp 15]) call211 Z Z (Lr lo b1 b2 c s (l.getD i st0) B (Blk.ext (cs:=c.cells) hB1 (b.trans iH)) (Blk.ext (cs:=s.cells) hB2 (b.trans iH)) (E.ext (b.trans iH)) hf hs (F _ x)) (fun v4 M j=>?_)))))
  obtain ⟨f,p⟩:=j
  rcases hb:o8 c.ps s (l.getD i st0) with _|_
  ·refine ak (?_)
   rw [hb] at f
   subst f
   refine bn (T.skip (T.blk (aA (bF Z Z (L.m Z (ak (aP (i+1) omX ⟨rfl,rfl,rfl,rfl,trivial⟩ ⟨d,b.trans (iH.trans p),fun k u=>?_⟩)))))))
   ·by_cases e:k=i
    ·subst e;exact hb
    exact g k omX
  refine ak (?_)
  rw [hb] at f
  subst f
  refine aZ (aQ Z (ah Z (aB results210 Z ⟨_,rfl,?_,b.trans (iH.trans p)⟩)))
  rw [decide_eq_true omX,eq_comm,List.any_eq_true]
  exact ⟨_,x,hb⟩
 refine ak (aj (bn (aY Z (au (ah Z (aB results210 Z ⟨_,rfl,?_,b⟩))))))
 rw [decide_eq_false dcX,eq_comm,List.any_eq_false]
 intro h x
 obtain ⟨k,u,rfl⟩:=List.getElem_of_mem x
 have:=g k omX
 rw [aX u] at this
 rw [this];decide
def aeY (n:Nat) (cs:List Value) (v:Value) (w:World):Prop:=Sl 0 w v n 1 cs
theorem aeY.st : ∀ v w w',Ext w w'→aeY n cs v w→aeY n cs v w':=fun _ _ _ a h=>Sl.ext h a
def VQ (base:Nat) (cs:List Value) (v:Value) (w:World):Prop:=w.ownsRow base 30 1 v cs.length cs
theorem VQ.st : ∀ v w w',Ext w w'→VQ base cs v w→VQ base cs v w':=fun _ _ _ a h=>cO h a lzX
theorem VQ.mono {a:Nat} {v:Value} {w:World} (h:VQ base cs v w) (hb:a≤base):VQ a cs v w :=
 ⟨h.1,h.2.imp id fun ⟨g,cap,cur,e,b,rest⟩=>⟨g,cap,cur,e,Nat.le_trans hb b,rest⟩⟩
theorem Zf {w:World} {el:TypeId} {v:Value} (h:w.ownsRow base el 1 v n cs) (d:0<n):∃ b cap cur,v = .slice (some ⟨b,0,none⟩) n cap∧base≤b∧Blk w b cur el∧n≤cap∧cap≤maxLen∧cur.length=cap*1∧cur.take (n*1)=cs:=by
 have e:=h.1
 rcases h.2 with ⟨_,h0⟩|⟨g,cap,cur,rfl,hbase,f,hn,i,a,c⟩
 ·subst h0;simp at e;omega
 exact ⟨g,cap,cur.toList,rfl,hbase,by unfold Blk;simpa using f,hn,i,by simpa using a,c⟩
theorem QT {b cap:Nat} {w:World} {el:TypeId} {cur:List Value} (hb:base≤b) (hB:Blk w b cur el) (hn:n≤cap) (a:cap≤maxLen) (c:cur.length=cap*1) (d:cur.take (n*1)=cs) (e:cs.length=n*1):w.ownsRow base el 1 (.slice (some ⟨b,0,none⟩) n cap) n cs :=
 ⟨e,.inr ⟨b,cap,cur.toArray,rfl,hb,hB,hn,a,by simpa using c,by simpa using d⟩⟩
theorem LW (lo:Nat) (p:Value) (cs:List Value) (w:World) (h:Sl lo w p cs.length 1 cs) (a:∀ c∈cs,c.oneCell'=true) (i:cs.length≤100000) :
  Calls Tryz.prog 215 #[p] w (Ret fun v w'=>Ext w w'∧VQ w.heap.size cs v w'):=by
 refine aJ (vs:=[p]) func215 Z ntmps215 Z ?_
 refine au (ah Z (aj (au (aO Z (wo runUnderlying125 Z Z h (fun hn=>?_) (fun hn=>?_))))))
 ·refine aW (au (ah Z (aB results215 Z ⟨Keep.refl _ _,?_⟩)))
  have:cs = []:=List.length_eq_zero_iff.1 hn
  subst this
  exact iF _ _ _ _
 refine aU (T.skip (au (L.o (aH (el:=30) (parts:=[]) (vs:=[]) (cs:=[]) Z (fun w=>by kernel_rfl) (fun b5 j k l b f=>?_)))))
 have d:j.ownsRow w.heap.size 30 1 (.slice (some ⟨b5,0,none⟩) 0 0) 0 []:=pY (n:=0) f omX leX dcX rfl
 refine aO Z (dJ (size:=1) (bytes:=24) runUnderlying125 Tryz.rH Z Z Z Z dcX rfl rfl d (show Sl lo j p cs.length 1 cs from Sl.ext h b) a omX (by simp only [maxLen];omega) omX (fun m w7 e g=>?_))
 refine ah Z (aB results215 Z ⟨b.jg d g omX,?_⟩)
 have:0+cs.length=cs.length:=Nat.zero_add _
 rw [this] at e
 simpa [VQ] using e
theorem IY (base i:Nat) (m k:Int) (v:Value) (cs:List Value) (w:World) (hO:VQ base cs v w) (f:∀ c∈cs,c.oneCell'=true) (hi:i<cs.length) (E:cs.length≤100000) (G:m=i) (H:k=(i:Int)+1) :
  Calls Tryz.prog 214 #[v,.int .i64 m,.int .i64 k] w (Ret fun I w'=>Loc v w w'∧w'.ownsRow base 30 1 I (cs.length-1) (cs.take i++cs.drop (i+1))):=by
 have a:∀ c∈cs.drop (i+1),c.oneCell'=true:=fun c J=>f c (List.mem_of_mem_drop J)
 have hSl:Sl 0 w v cs.length 1 cs:=(Sl.dD hO).mono lzX
 refine aJ (vs:=[v,.int .i64 m,.int .i64 k]) func214 Z ntmps214 Z ?_
 refine au (ah Z (au (aN Z Z (aN Z Z (L.le Z (Sl.val hSl) (?_))))))
 subst G
 subst H
 obtain ⟨b,cap,cur,rfl,hb,hB,K,g,s,t⟩:=Zf hO omX
 refine L.o (OZ (l:=i) (h:=i+1) (m:=cs.length) runUnderlying125 sizeOf30 Z Z Z Z omX omX omX (fun M=>?_))
 refine ak (aj (au (aN Z Z (L.o (fV Z Z omX (aU (T.skip (aQ Z (L.le Z (Sl.val hSl) (ah Z (aj (?_))))))))))))
 refine dn mixed 6 [0,1,2] Z [.is _,.is _,.is _,.is _,.is _,.such (aeY (cs.length-(i+1)) (cs.drop (i+1)))] [[],[],[0,1],[],[],[3,4]] ⟨aeY.st,trivial⟩ ⟨fun j hx=>aF rfl,
   fun j hx=>aF rfl,
   fun j hx=>Ob.o (jr runUnderlying125 sizeOf30 Z Z omX omX kR),
   fun j hx=>aF rfl,
   fun j hx=>aF rfl,
   fun j hx=>Ob.o (SL runUnderlying125 sizeOf30 Z Z (hSl.ext hx) omX omX (fun x ama=>⟨Keep.refl _ _,by rw [show ((i:Int)+1).toNat=i+1 by omega,Nat.mul_one] at ama;exact ama⟩)),
   trivial⟩ (fun N je x p=>?_)
 refine L.o (C9 (size:=1) runUnderlying125 Tryz.rH Z Z Z (hB.ext je) p a omX s (fun O y IK=>?_))
 have q:(i:Int).toNat=i:=Int.toNat_natCast i
 rw [q] at IK
 obtain ⟨ds,d⟩:∃ ds,ds=cs.take i++cs.drop (i+1):=⟨_,rfl⟩
 have z:ds.length=i+(cs.length-(i+1)):=by rw [d,List.length_append,List.length_take,List.length_drop];omega
 have A:cur.take (i*1)=cs.take i:=by rw [← t,List.take_take,Nat.mul_one,Nat.mul_one,Nat.min_eq_left omX]
 obtain ⟨es,e⟩:∃ es,es=cur.take (i*1)++cs.drop (i+1)++cur.drop (i*1+(cs.drop (i+1)).length):=⟨_,rfl⟩
 rw [← e] at IK
 have ahc:es.length=cap*1:=by rw [e];simp only [List.length_append,List.length_take,List.length_drop];omega
 have amb:es.take (ds.length*1)=ds:=by
  rw [e,A,← d,Nat.mul_one,List.take_left]
 rw [q]
 rw [← z]
 have aeZ:=QT (n:=ds.length) hb IK omX g ahc amb omX
 refine ah Z (au (aN Z Z (L.le Z (Sl.val (Sl.dD aeZ)) (aO Z (IC runUnderlying125 sizeOf30 Z Z Z omX omX omX (L.o (KX runUnderlying125 zeroValue30 (by intro u F;simp [Value.cells] at F;rcases F with (rfl|rfl|rfl|rfl|rfl|rfl) <;> rfl) rfl omX IK (by rw [ahc];show ds.length*1+(cs.length-ds.length)*1≤cap*1;omega) (fun B IL ⟨es',P,C,Ot⟩=>?_))))))))
 have D:=QT (n:=ds.length) (cs:=ds) hb Ot omX g omX (by rw [C,amb]) omX
 have r:Loc (.slice (some ⟨b,0,none⟩) cs.length cap) w B:=((Loc.dF je).trans (Loc.qL y rfl)).trans (Loc.qL IL rfl)
 refine ak (aQ Z (ah Z (aB results214 Z ⟨r,by rw [← d,show cs.length-1=ds.length by omega];exact D⟩)))
def keyS (s:St):Pt:=((s.a:Int),(s.b:Int))
def TN (f:FaV) (r:Nat):FaV:=⟨f.o,undef,f.hs.eraseIdx (r-1)⟩
def lM (ps:List Pt) (fs:List FaV) (s:St):Bool:=decide (s.r≠0) && !iZ ps 2 (TN (fs.getD s.f f0) s.r) (qx ps s)
def uN (ps:List Pt) (fs:List FaV) (s:St) (i:Nat):Bool:=decide (i≠s.f) && iZ ps 2 (fs.getD i f0) (qx ps s)
def pz (ps:List Pt) (fs:List FaV) (s:St):Bool:=(List.range fs.length).any (uN ps fs s)
def oI (ps:List Pt) (L:List St) (i:Nat):Bool:=(L.take i).any (o8 ps (L.getD i st0))
def iG (ps:List Pt) (fs:List FaV):Bool:=!decide ((stL fs).map keyS).Nodup || ((List.range (stL fs).length).any (oI ps (stL fs)) || ((stL fs).any (lM ps fs) || (stL fs).any (pz ps fs)))
theorem aoA {fs:List FaV} (h:¬ ((stL fs).map keyS).Nodup):iG ps fs=true:=by
 rw [iG,decide_eq_false h];rfl
theorem aa3 {L:List α} {d:α} {p:α→Bool} (hi:i<L.length) (h:p (L.getD i d)=true):L.any p=true :=
 List.any_eq_true.2 ⟨_,by rw [aX hi];exact List.getElem_mem hi,h⟩
theorem VR {L:List α} {d:α} {p:α→Bool} (h:∀ k,k<L.length→p (L.getD k d)=false):L.any p=false :=
 List.any_eq_false.2 fun x hx=>by
  obtain ⟨k,a,rfl⟩:=List.getElem_of_mem hx
  have:=h k a
  rw [aX a] at this
  rw [this];decide
theorem QU {p:Nat→Bool} (hi:i<n) (h:p i=true):(List.range n).any p=true:=List.any_eq_true.2 ⟨i,List.mem_range.2 hi,h⟩
theorem LY {p:Nat→Bool} (h:∀ k,k<n→p k=false):(List.range n).any p=false:=List.any_eq_false.2 fun x hx=>by rw [h x (List.mem_range.1 hx)];decide
theorem aoB {fs:List FaV} (hi:i<(stL fs).length) (h:oI ps (stL fs) i=true):iG ps fs=true:=by
 rw [iG,QU hi h,Bool.true_or,Bool.or_true]
theorem aoC {fs:List FaV} (hi:i<(stL fs).length) (h:lM ps fs ((stL fs).getD i st0)=true):iG ps fs=true:=by
 rw [iG,aa3 (p:=lM ps fs) hi h,Bool.true_or,Bool.or_true,Bool.or_true]
theorem aoD {fs:List FaV} (hi:i<(stL fs).length) (h:pz ps fs ((stL fs).getD i st0)=true):iG ps fs=true:=by
 rw [iG,aa3 (p:=pz ps fs) hi h,Bool.or_true,Bool.or_true,Bool.or_true]
theorem aiz {fs:List FaV} (a:((stL fs).map keyS).Nodup) (b:∀ k,k<(stL fs).length→oI ps (stL fs) k=false) (c:∀ k,k<(stL fs).length→lM ps fs ((stL fs).getD k st0)=false) (d:∀ k,k<(stL fs).length→pz ps fs ((stL fs).getD k st0)=false):iG ps fs=false:=by
 rw [iG,decide_eq_true a,LY b,VR c,VR d];rfl
def ae1 (bad:Bool) (w:World) (v:Value) (w':World):Prop:=∃ k a:Int,v = .tuple #[.int .i64 k,.int .i64 a]∧decide (0<k)=bad∧Ext w w'
theorem QV {s t:St} (h:s.val=t.val):t=s:=by
 obtain ⟨a,b,f,r⟩:=s
 obtain ⟨a',b',c,r'⟩:=t
 have h:=congrArg Value.cells h
 simp [St.val,Value.cells] at h
 obtain ⟨d,e,g,i⟩:=h
 obtain rfl:a=a':=by omega
 obtain rfl:b=b':=by omega
 obtain rfl:f=c:=by omega
 obtain rfl:r=r':=by omega
 rfl
structure EF (w0:World) (c:CxV) (b1 b2 b3 bi:Nat) (ds:List Nat) (W:World):Prop where
 e:Ext w0 W
 c1:Blk W b1 c.cells 46
 c2:Blk W b2 [.int .i64 0] 3
 c3:Blk W b3 [.int .i64 0] 3
 ci:Blk W bi c.cells 46
 o:Opn ds W
section
variable {w0:World} {c:CxV} {b1 b2 b3 bi b m:Nat} {ds:List Nat} {w W W':World} {S:Nat→Prop} {B:Prop} {kd:Int}
theorem EF.ext (h:EF w0 c b1 b2 b3 bi ds W) (k:Ext W W'):EF w0 c b1 b2 b3 bi ds W' :=
 ⟨h.e.trans k,Blk.ext (cs:=c.cells) h.c1 k,Blk.ext (cs:=[.int .i64 0]) h.c2 k,Blk.ext (cs:=[.int .i64 0]) h.c3 k,Blk.ext (cs:=c.cells) h.ci k,h.o.ext k⟩
theorem EF.upd (h:EF w0 c b1 b2 b3 bi ds W) (k:Upd b W W') (h0:w0.heap.size≤b) (n1:b1≠b) (n2:b2≠b) (n3:b3≠b) (ni:bi≠b) (no:∀ r∈ds,r≠b):EF w0 c b1 b2 b3 bi ds W' :=
 ⟨h.e.upd k (.inr h0),Blk.upd h.c1 k n1,Blk.upd h.c2 k n2,Blk.upd h.c3 k n3,Blk.upd h.ci k ni,h.o.upd k no⟩
theorem Blk.LZ {t:TypeId} {row:Option Nat} (h:Blk W b cs t) (hG:W.grownBy W' row) (hn:∀ j,row=some j→j≠b):Blk W' b cs t:=(hG.block b h.lt (fun e=>hn b e.symm rfl)).trans h
theorem EF.grown {el:TypeId} {sz n:Nat} {q:Value} {xs:List Value} (h:EF w0 c b1 b2 b3 bi ds W) (hO:W.ownsRow m el sz q n xs) (hG:W.grownBy W' q.ownBlock) (h0:w0.heap.size≤m) (n1:b1<m) (n2:b2<m) (n3:b3<m) (ni:bi<m) (no:∀ r∈ds,r<m):EF w0 c b1 b2 b3 bi ds W' :=
 have a:∀ j,q.ownBlock=some j→m≤j:=fun j a=>(qG hO a).1
 ⟨Keep.grown h.e hG (fun j e=>.inr (Nat.le_trans h0 (a j e))),Blk.LZ h.c1 hG (fun j e=>by have:=a j e;omega),Blk.LZ h.c2 hG (fun j e=>by have:=a j e;omega),Blk.LZ h.c3 hG (fun j e=>by have:=a j e;omega),Blk.LZ h.ci hG (fun j e=>by have:=a j e;omega),
  ⟨h.o.1,fun r b=>(hG.block r (h.o.lt r b) (fun e=>by have:=a r e.symm;have:=no r b;omega)).trans (h.o.2 r b)⟩⟩
def LJ {σ:Type} (m:Nat) (A:σ→(Nat→Prop)→World→Prop) (i:σ) (S:Nat→Prop) (W:World):Prop:=(∀ k,S k→m≤k∧k<W.heap.size)∧m≤W.heap.size∧A i S W
theorem LJ.Lh {σ:Type} {A:σ→(Nat→Prop)→World→Prop} (f:∀ i S S' W W',(∀ k,S k→k<W.heap.size)→A i S W→Ext W W'→(∀ k,S' k→S k∨W.heap.size≤k∧k<W'.heap.size)→A i S' W') (g:∀ i S W W' b,A i S W→S b→m≤b→Upd b W W'→A i S W'):Kz (LJ m A):=by
 refine ⟨?_,?_⟩
 ·rintro i S S' W W' ⟨a,a2,a3⟩ d hS
  refine ⟨fun k c=>?_,Nat.le_trans a2 d.size,f i S S' W W' (fun k c=>(a k c).2) a3 d hS⟩
  rcases hS _ c with h|h
  ·exact ⟨(a k h).1,Nat.lt_of_lt_of_le (a k h).2 d.size⟩
  exact ⟨Nat.le_trans a2 h.1,h.2⟩
 rintro i S W W' b ⟨a,a2,a3⟩ hb e
 exact ⟨fun k c=>by rw [e.size];exact a k c,by rw [e.size];exact a2,g i S W W' b a3 hb (a b hb).1 e⟩
theorem LJ.start {σ:Type} {A:σ→(Nat→Prop)→World→Prop} {i:σ} (h:A i (fun _=>False) W):LJ W.heap.size A i (fun _=>False) W:=⟨fun _ h=>h.elim,Nat.le_refl _,h⟩
def EX (B:Prop) (w0:World) (b2 b3:Nat) (kd:Int) (m:Nat) (ds:List Nat) (S:Nat→Prop) (W:World):Prop :=
 B∧(∀ k,S k→m≤k∧k<W.heap.size)∧Opn ds W∧∃ a:Int,kX b2 b3 3 3 (.int .i64 kd) (.int .i64 a) w0 W
theorem EX.upd (h:EX B w0 b2 b3 kd m ds S W) (hb:S b) (c:Upd b W W') (h0:w0.heap.size≤m) (n2:b2<m) (n3:b3<m) (no:∀ r∈ds,r<m):EX B w0 b2 b3 kd m ds S W':=by
 obtain ⟨f,hS,ho,a,d⟩:=h
 have g:=(hS b hb).1
 exact ⟨f,fun k e=>by rw [c.size];exact hS k e,ho.upd c (fun r i=>by have:=no r i;omega),a,
  ⟨c.os.trans d.os,c.tape.trans d.tape,c.output.trans d.output,by rw [c.size];exact d.size,fun k e j l=>by rw [c.block k omX,d.block k e j l],Blk.upd d.c2 c omX,Blk.upd d.c3 c omX⟩⟩
theorem EX.of {a:Int} (hB:B) (hE:EF w0 c b1 b2 b3 bi ds w) (hS:∀ k,S k→m≤k∧k<w.heap.size) (b:kX b2 b3 3 3 (.int .i64 kd) (.int .i64 a) w W):EX B w0 b2 b3 kd m ds S W :=
 ⟨hB,fun k d=>⟨(hS k d).1,Nat.lt_of_lt_of_le (hS k d).2 b.size⟩,Opn.done hE.o b hE.c2 hE.c3,a,b.from hE.e⟩
theorem kX.Zg {a:Int} (b:kX b2 b3 3 3 (.int .i64 kd) (.int .i64 a) w W) (hS:∀ k,S k→m≤k∧k<w.heap.size) (n2:b2<m) (n3:b3<m):∀ k,S k→W.heap[k]?=w.heap[k]?:=fun k c=>by
 have:=hS k c
 exact b.block k this.2 omX omX
end
def Zh (kvs:List (Pt × Bool)) (ks:List Pt):Prop:=∀ p,(oN kvs p).getD false=decide (p∈ks)
theorem Zh.put {kvs:List (Pt × Bool)} {ks:List Pt} {k:Pt} (h:Zh kvs ks):Zh (AZ kvs k true) (ks ++ [k]):=fun p=>by
 rw [Il]
 by_cases e:p=k
 ·simp [e]
 rw [if_neg e,h p];simp [e]
theorem Zh.nil:Zh [] []:=fun p=>by simp [xO]
theorem Gy {ks:List α} {k:α} (h:ks.Nodup) (c:k∉ks):(ks ++ [k]).Nodup:=by
 rw [List.nodup_append]
 exact ⟨h,spX,fun a ha b hb=>by rw [List.mem_singleton] at hb;subst hb;exact fun e=>c (e▸ha)⟩
theorem IZ {β:Type} {L:List α} {d:α} (f:α→β) (hi:i<L.length):(L.take (i+1)).map f=(L.take i).map f ++ [f (L.getD i d)]:=by
 rw [aX hi,List.take_succ_eq_append_getElem hi,List.map_append];rfl
theorem VT {β:Type} {L:List α} {d:α} (f:α→β) (hi:i<L.length) (h:f (L.getD i d)∈(L.take i).map f):¬ (L.map f).Nodup:=fun hn=>by
 have b:(L.map f).take (i+1)=(L.take i).map f ++ [f (L.getD i d)]:=by rw [← IZ f hi,List.map_take]
 have a:=hn.sublist (List.take_sublist (i+1) (L.map f))
 rw [b,List.nodup_append] at a
 exact a.2.2 _ h _ spX rfl
theorem ab8 {fs:List FaV} {s:St} (h:s∈stL fs):s.f<fs.length∧s.r<(fs.getD s.f f0).ri.length:=by
 simp only [stL,pre,gF,stF,gR,stR,List.mem_flatMap,List.mem_range,List.mem_map] at h
 obtain ⟨f,hf,r,a,i,hi,rfl⟩:=h
 exact ⟨hf,a⟩
theorem O8 (l:List St) (s:St):yh (l ++ [s])=yh l++s.cells:=by simp [yh]
theorem take_snoc {L:List St} (hi:i<L.length):L.take (i+1)=L.take i ++ [L.getD i st0]:=by
 rw [aX hi,List.take_succ_eq_append_getElem hi]
theorem Zi (hs:List RiV) (i:Nat):dw (hs.eraseIdx i)=(dw hs).take i++(dw hs).drop (i+1):=by
 rw [List.eraseIdx_eq_take_drop_succ,dw,dw,List.map_append,List.map_take,List.map_drop]
theorem L6 (hs:List RiV):(dw hs).length=hs.length:=by simp [dw]
set_option maxHeartbeats 2000000 in
theorem O9 (lo:Nat) (c:CxV) (w:World) (hc:c.ok lo w) (hf:NfL c.ps) (hx:IxC c) (ai:∀ s∈stL c.fs,s.ok c.ps) (cr:(stL c.fs).length≤100000) :
  Calls Tryz.prog 189 #[c.val] w (Ret fun v w'=>ae1 (iG c.ps c.fs) w v w'):=by
 refine wI (vs:=[c.val]) func189 Z ntmps189 Z ?_
 refine au (bM Z (fun b1 w1 cu cv bK hB1=>?_))
 refine L.o (O.alloc zeroValue3 (fun b2 w2 cw cx bL hB2=>?_))
 refine L.o (O.alloc zeroValue3 (fun b3 w3 cy cz bs hB3=>?_))
 refine ak (au (L.o (lG (kf:=pV) (vf:=Value.bool) (fun b4 w4 cA cB bd bN=>?_))))
 refine L.o (O.alloc zeroValue272 (fun b5 w5 cC bO a0 bQ=>?_))
 refine L.o (bP sizeOf272 Z Z Z bQ (by simp [Value.cells,ofT]) (fun w6 be bg=>?_))
 have iH:Ext w1 w3:=bL.trans bs
 have nY:Ext w1 w5:=iH.trans (bd.trans a0)
 have ar:EF w c b1 b2 b3 b1 [] w6:=EF.upd ⟨bK.trans nY,Blk.ext (cs:=c.cells) hB1 nY,Blk.ext (cs:=[.int .i64 0]) hB2 (bs.trans (bd.trans a0)),Blk.ext (cs:=[.int .i64 0]) hB3 (bd.trans a0),Blk.ext (cs:=c.cells) hB1 nY,Opn.nil _⟩ be omX omX omX omX omX (fun r P=>by cases P)
 have bR:wJ pV Value.bool w6 b4 []:=(bN.keep a0 lzX).upd be omX
 obtain ⟨tm,bg⟩:∃ t,Blk w6 b5 [.map (some b4)] t:=⟨_,bg⟩
 have cD:w6.heap.size=b5+1:=by rw [be.size,bO]
 refine ak (aj (au (aT Z Z ar.c1.row (L.o (ay (xs:=[.tmp 15]) call209 Z Z (rX c w6) (fun v7 w7 hq=>?_))))))
 obtain ⟨rfl,al,bt⟩:=hq
 have cE:w7.heap.size≤w7.heap.size:=Nat.le_refl _
 have ati:=bt.lt
 have bS:EF w c b1 b2 b3 w6.heap.size [] w7:=⟨(ar.ext al).e,(ar.ext al).c1,(ar.ext al).c2,(ar.ext al).c3,bt,Opn.nil _⟩
 have bW:=Blk.ext (cs:=[.map (some b4)]) bg al
 have bX:=bR.keep al lzX
 refine ak (T.block (?_))
 refine gZ (e1:=fun v x=>[(1,.pointer (some ⟨b1,0,none⟩)),(2,.pointer (some ⟨b2,0,none⟩)),(3,.pointer (some ⟨b3,0,none⟩)),(4,.pointer (some ⟨b5,0,none⟩)),(5,.pointer (some ⟨x,0,none⟩))]) (LJ w7.heap.size (fun i _ W=>EF w c b1 b2 b3 w6.heap.size [] W∧Blk W b5 [.map (some b4)] tm∧(∃ kvs,wJ pV Value.bool W b4 kvs∧Zh kvs (((stL c.fs).take i).map keyS))∧(((stL c.fs).take i).map keyS).Nodup)) (fun c' S w'=>c' = .ret∧EX (¬ ((stL c.fs).map keyS).Nodup) w b2 b3 7 w7.heap.size [] S w') (fun v x w'=>∃ s:St,v=s.val∧Blk w' x s.cells 277) Z call245 Z (yc w6.heap.size lo c hx) ?_ ?_ ?_ ?_ ?_ ?_ ?_ ?_ ?_ ?_ ?_
 ·refine LJ.Lh ?_ ?_
  ·rintro i S S' W W' _ ⟨E,F,⟨kvs,X,h4⟩,h5⟩ he _
   exact ⟨E.ext he,Blk.ext (cs:=[.map (some b4)]) F he,⟨kvs,X.keep he lzX,h4⟩,h5⟩
  rintro i S W W' b ⟨E,F,⟨kvs,X,h4⟩,h5⟩ _ bh B
  exact ⟨E.upd B omX omX omX omX omX (fun r P=>by cases P),Blk.upd F B omX,⟨kvs,X.upd B omX,h4⟩,h5⟩
 ·exact fun c' S W W' b h hb B=>⟨h.1,h.2.upd hb B omX omX omX (by simp;try omega)⟩
 ·exact fun i S W h=>⟨hc.ext h.2.2.1.e,h.2.2.1.ci⟩
 ·exact LJ.start ⟨bS,bW,⟨[],bX,Zh.nil⟩,spX⟩
 ·exact fun k g=>g.elim
 ·exact fun W hW=>trivial
 ·rintro v x W W' b' ⟨s,E,F⟩ K B
  exact ⟨s,E,F.upd B (Ne.symm K)⟩
 ·intro l Q i j v k W hn hK
  obtain ⟨hi,rfl,_⟩:=hn
  refine aA (L.o (O.alloc zeroValue277 (fun aa bi aiA aiB Ov Zj=>?_)))
  refine L.o (aK sizeOf277 Z Z Z Zj leX (Gx _) (fun bj ab acd=>?_))
  refine ak (T.sub ?_ (hK aa _ omX (Ov.upd ab (.inr omX)) ⟨_,rfl,acd⟩))
  exact ⟨rfl,rfl,rfl,rfl,rfl,trivial⟩
 ·rintro l i v x j S w8 ⟨hi,rfl,rfl⟩ ⟨am,bu,R,a1,⟨kvs,bk,a2⟩,a3⟩ ⟨s',hv,A⟩ - -
  obtain ⟨s,hs⟩:∃ s,(stL c.fs).getD i st0=s:=⟨_,rfl⟩
  rw [hs] at hv
  have ac:=QV hv
  subst ac
  refine T.block (aj (au (cZ Z (a1.cell Z) (aC Z (A.cell Z) (aC Z (A.cell Z) (L.o (bU (v:=pV (keyS s')) (parts:=[(0,.tmp 20),(1,.tmp 22)]) (vs:=[(0,_),(1,_)]) Z (fun w=>by kernel_rfl) (L.o (Aq (kf:=pV) (vf:=Value.bool) (z0:=false) QI runUnderlying272 zeroValue4 Z Z bk (?_))))))))))
  cases hb:(oN kvs (keyS s')).getD false
  ·refine aU (T.skip (aA (cZ Z (a1.cell Z) (aC Z (A.cell Z) (aC Z (A.cell Z) (L.o (bU (v:=pV (keyS s')) (parts:=[(0,.tmp 29),(1,.tmp 31)]) (vs:=[(0,_),(1,_)]) Z (fun w=>by kernel_rfl) (L.o (oZ (kf:=pV) (vf:=Value.bool) (v:=_) QI runUnderlying272 Z Z Z bk (fun w9 av bY=>?_))))))))))
   have bZ:keyS s'∉((stL c.fs).take i).map keyS:=by rw [a2,decide_eq_false_iff_not] at hb;exact hb
   refine ak (T.blk (eY ⟨⟨fun k g=>⟨(am k g).1,by rw [av.size];exact (am k g).2⟩,by rw [av.size];exact bu,R.upd av omX omX omX omX omX (fun r P=>by cases P),Blk.upd a1 av omX,⟨_,bY,?_⟩,?_⟩,fun k g=>av.block k (by have:=(am k g).1;omega)⟩))
   ·rw [IZ (d:=st0) keyS hi,hs];exact a2.put
   rw [IZ (d:=st0) keyS hi,hs];exact Gy a3 bZ
  refine ak (?_)
  have bv:¬ ((stL c.fs).map keyS).Nodup:=VT (d:=st0) keyS hi (by rw [hs];rw [a2,decide_eq_true_eq] at hb;exact hb)
  refine aZ (aj (?_))
  refine T.any mixed 3 1 [5,2] Z [.is _,.is _,.is undef] [[],[0],[]] [none,none,some 0] [[],[0],[],[0,1,2]] (YB w8 b2 (.int .i64 7)) (fun _ _=>True) krX krX krX Z trivial (Keep.drew _ _) ⟨fun c z hx=>ObK.op rfl (O.fa Z ⟨⟨trivial,hx⟩,rfl⟩),
    fun c z hx=>ObK.op Z (dR Z ((hx.blk A (uH A R.c2 dcX)).cell rfl) ⟨⟨trivial,hx⟩,rfl⟩),
    fun z hx=>ObK.op Z (bP sizeOf3 Z Z Z (Blk.ext (cs:=[.int .i64 0]) R.c2 hx) (by simp [Value.cells,ofT]) (fun U nU rD=>⟨⟨trivial,_,hx,nU,rD⟩,rfl⟩)),
    trivial⟩ (fun ad aie=>?_)
  obtain ⟨W1,hE,hU,hC⟩:=aie
  refine L.o (bP sizeOf3 Z Z Z (Blk.upd (cs:=[.int .i64 0]) (Blk.ext (cs:=[.int .i64 0]) R.c3 hE) hU omX) (by simp [Value.cells,ofT]) (fun U nU rD=>?_))
  have I:=kX.of hE hU hC nU rD omX
  refine ak (iw ⟨⟨rfl,EX.of bv R am I⟩,fun k g=>(I.Zg am omX omX k g).trans (Z)⟩)
 ·rintro S D w8 hD hS0 hSD ⟨am,bu,R,a1,⟨kvs,bk,a2⟩,a3⟩ b0
  rw [List.take_length] at a3
  have bw:Opn [D] w8:=R.o.cons b0 spX
  have cF:=bw.lt D spX
  refine T.blk (au (L.o (O.alloc zeroValue280 (fun b9 w9 cG cH bx bl=>?_))))
  have aw:=R.ext bx
  have b6:=bw.ext bx
  obtain ⟨tq,bl⟩:∃ t,Blk w9 b9 [.slice none 0 0] t:=⟨_,bl⟩
  refine ak (aj (au (aT Z Z aw.c1.row (L.o (ay (xs:=[.tmp 33]) call209 Z Z (rX c w9) (fun cI ad hq=>?_))))))
  obtain ⟨rfl,jf,bz⟩:=hq
  have aaQ:=bz.lt
  have aiC:EF w c b1 b2 b3 w9.heap.size [D] ad:=⟨(aw.ext jf).e,(aw.ext jf).c1,(aw.ext jf).c2,(aw.ext jf).c3,bz,b6.ext jf⟩
  have b7:=Blk.ext (cs:=[.slice none 0 0]) bl jf
  refine ak (T.block (?_))
  refine gZ (e1:=fun v x=>[(1,.pointer (some ⟨b1,0,none⟩)),(2,.pointer (some ⟨b2,0,none⟩)),(3,.pointer (some ⟨b3,0,none⟩)),(6,.pointer (some ⟨b9,0,none⟩)),(7,.pointer (some ⟨x,0,none⟩))]) (LJ ad.heap.size (fun i S W=>EF w c b1 b2 b3 w9.heap.size [D] W∧(∃ q,Blk W b9 [q] tq∧W.ownsRow ad.heap.size 277 4 q ((stL c.fs).take i).length (yh ((stL c.fs).take i))∧∀ b,q.ownBlock=some b→¬ S b)∧∀ k,k<i→oI c.ps (stL c.fs) k=false)) (fun c' S w'=>c' = .ret∧EX (∃ i,i<(stL c.fs).length∧oI c.ps (stL c.fs) i=true) w b2 b3 8 ad.heap.size [D] S w') (fun v x w'=>∃ s:St,v=s.val∧Blk w' x s.cells 277) Z call245 Z (yc w9.heap.size lo c hx) ?_ ?_ ?_ ?_ ?_ ?_ ?_ ?_ ?_ ?_ ?_
  ·refine LJ.Lh ?_ ?_
   ·rintro i S S' W W' hb ⟨E,⟨q,F,X,h4⟩,h5⟩ he hS
    refine ⟨E.ext he,⟨q,Blk.ext (cs:=[q]) F he,cO X he lzX,fun b bA an=>?_⟩,h5⟩
    rcases hS b an with h|h
    ·exact h4 b bA h
    have:=(qG X bA).2;omega
   rintro i S W W' b ⟨E,⟨q,F,X,h4⟩,h5⟩ an bh B
   refine ⟨E.upd B omX omX omX omX omX (by simp;omega),⟨q,Blk.upd F B omX,?_,h4⟩,h5⟩
   exact BJ (q:=.slice (some ⟨b,0,none⟩) 0 0) X (Loc.qL B rfl) (fun j hj e=>by cases e;exact h4 b hj an)
  ·exact fun c' S W W' b h hb B=>⟨h.1,h.2.upd hb B omX omX omX (by simp;try omega)⟩
  ·exact fun i S W h=>⟨hc.ext h.2.2.1.e,h.2.2.1.ci⟩
  ·exact LJ.start ⟨aiC,⟨_,b7,iF _ _ _ _,fun b hb=>by cases hb⟩,fun k g=>absurd g (Nat.not_lt_zero _)⟩
  ·exact fun k g=>g.elim
  ·exact fun W hW=>trivial
  ·rintro v x W W' b' ⟨s,E,F⟩ K B
   exact ⟨s,E,F.upd B (Ne.symm K)⟩
  ·intro l Q i j v k W hn hK
   obtain ⟨hi,rfl,_⟩:=hn
   refine aA (L.o (O.alloc zeroValue277 (fun aa bi aiA aiB Ov Zj=>?_)))
   refine L.o (aK sizeOf277 Z Z Z Zj leX (Gx _) (fun bj ab acd=>?_))
   refine ak (T.sub ?_ (hK aa _ omX (Ov.upd ab (.inr omX)) ⟨_,rfl,acd⟩))
   exact ⟨rfl,rfl,rfl,rfl,rfl,trivial⟩
  ·rintro l i v x j S U ⟨hi,rfl,rfl⟩ ⟨abS,aoE,J7,⟨q,aiD,amc,ba⟩,aoF⟩ ⟨s',hv,A⟩ - -
   obtain ⟨s,hs⟩:∃ s,(stL c.fs).getD i st0=s:=⟨_,rfl⟩
   rw [hs] at hv
   have ac:=QV hv
   subst ac
   have V:s'∈stL c.fs:=by rw [← hs,aX hi];exact List.getElem_mem hi
   have ace:=hc.ext J7.e
   refine T.block (aj (au (cZ Z (aiD.cell Z) (L.o (eG (fi:=[]) (ca:=[.tmp 1,.tmp 7]) Z Z (L.o (ay (xs:=[.tmp 36,.tmp 37]) call210 Z Z (LV lo ad.heap.size b1 x c s' q ((stL c.fs).take i) U J7.c1 A ace.p hf (ai _ V) (fun t ht ↦ ai t (List.mem_of_mem_take ht)) (Sl.dD amc)) (fun cJ ax hq=>?_))))))))
   obtain ⟨r,rfl,P,jD⟩:=hq
   have YC:=J7.ext jD
   have acf:=Blk.ext (cs:=s'.cells) A jD
   have J9:∀ k,S k→ad.heap.size≤k∧k<ax.heap.size:=fun k g=>⟨(abS k g).1,Nat.lt_of_lt_of_le (abS k g).2 jD.size⟩
   have amd:∀ k,S k→ax.heap[k]?=U.heap[k]?:=fun k g=>jD.block k lzX (abS k g).2
   have bB:oI c.ps (stL c.fs) i=decide (0≤r):=by rw [oI,hs,P]
   refine L.o (fJ Z Z (fun b8=>?_) (fun b8=>?_))
   ·refine aW (aj (?_))
    refine T.any mixed 3 1 [7,2] Z [.is _,.is _,.is undef] [[],[0],[]] [none,none,some 0] [[],[0],[],[0,1,2]] (YB ax b2 (.int .i64 8)) (fun _ _=>True) krX krX krX Z trivial (Keep.drew _ _) ⟨fun c z hx=>ObK.op rfl (O.fa Z ⟨⟨trivial,hx⟩,rfl⟩),
      fun c z hx=>ObK.op Z (dR Z ((hx.blk acf (uH acf YC.c2 dcX)).cell rfl) ⟨⟨trivial,hx⟩,rfl⟩),
      fun z hx=>ObK.op Z (bP sizeOf3 Z Z Z (Blk.ext (cs:=[.int .i64 0]) YC.c2 hx) (by simp [Value.cells,ofT]) (fun M QK Ou=>⟨⟨trivial,_,hx,QK,Ou⟩,rfl⟩)),
      trivial⟩ (fun ae aiE=>?_)
    obtain ⟨W1,hE,hU,hC⟩:=aiE
    refine L.o (bP sizeOf3 Z Z Z (Blk.upd (cs:=[.int .i64 0]) (Blk.ext (cs:=[.int .i64 0]) YC.c3 hE) hU omX) (by simp [Value.cells,ofT]) (fun M QK Ou=>?_))
    have I:=kX.of hE hU hC QK Ou omX
    refine ak (iw ⟨⟨rfl,EX.of ⟨i,hi,by rw [bB,decide_eq_true omX]⟩ YC J9 I⟩,fun k g=>(I.Zg J9 omX omX k g).trans (amd k g)⟩)
   refine ak (?_)
   have adX:=jD.size
   have cb:=cO amc jD lzX
   refine bn (T.skip (aA (cZ Z ((Blk.ext (cs:=[q]) aiD jD).cell Z) (aT Z Z acf.row (L.o (aH (el:=277) (parts:=[(0,.tmp 43)]) (vs:=[(0,_)]) (cs:=s'.cells) Z (fun w=>by kernel_rfl) (fun cK ae ahd Y8 iH Df=>?_)))))))
   have aiF:=cO cb iH lzX
   have hl:((stL c.fs).take i).length=i:=by rw [List.length_take];omega
   refine L.o (iQ (size:=4) (bytes:=32) runUnderlying280 Tryz.U9 Z Z Z Z dcX rfl rfl aiF (show s'.cells.length=1*4 from Z) Df.row (Gx _) omX (by simp only [maxLen];omega) (by have:=iH.size;omega) (fun a4 M aiG ahe aoG=>?_))
   have az:=fun j hj=>qG aiF (j:=j) hj
   have aoH:Blk M b9 [q] tq:=Blk.LZ (Blk.ext (cs:=[q]) aiD (jD.trans iH)) ahe (fun j hj=>by have:=(az j hj).1;omega)
   have YD:EF w c b1 b2 b3 w9.heap.size [D] M:=(YC.ext iH).grown aiF ahe omX omX omX omX omX (by simp;omega)
   have cc:a4.oneCell'=true:=Sl.one (Sl.dD aiG)
   refine L.o (bP sizeOf280 cc Z Z aoH (by simp [Value.cells,ofT]) (fun H a5 IK=>?_))
   have Y8:=iH.size
   have cd:=ahe.size
   have cL:=a5.size
   have ce:∀ b,a4.ownBlock=some b→¬ S b:=fun b hb an=>by
    rcases aoG b hb with h|h
    ·exact ba b h an
    have:=(J9 b an).2;omega
   refine ak (T.blk (eY ⟨⟨fun k g=>⟨(abS k g).1,by have:=(J9 k g).2;omega⟩,omX,YD.upd a5 omX omX omX omX omX (by simp;omega),⟨a4,IK,?_,ce⟩,fun k g=>?_⟩,fun k g=>?_⟩))
   ·rw [take_snoc hi,hs,O8,List.length_append]
    exact BJ (q:=.slice (some ⟨b9,0,none⟩) 0 0) aiG (Loc.qL a5 rfl) (fun j hj e=>by have e':b9=j:=Option.some.inj e;have:=(qG aiG hj).1;omega)
   ·by_cases e:k=i
    ·subst e;rw [bB,decide_eq_false omX]
    exact aoF k omX
   rw [a5.block k (by have:=(abS k g).1;omega),ahe.block k (by have:=(J9 k g).2;omega) (fun e=>ba k e.symm g),iH.block k lzX (J9 k g).2,amd k g]
  ·rintro S2 Y U hD2 aoq aii ⟨abS,aoE,J7,_,cf⟩ ahf
   have Zc:Opn [Y,D] U:=J7.o.cons ahf (by simp;omega)
   have atj:=Zc.lt Y spX
   refine T.blk (au (L.o (eG (fi:=[]) (ca:=[.tmp 1]) Z Z (L.o (O.alloc zeroValue284 (fun ao ax adY adX jD Lp=>?_))))))
   refine L.o (bP sizeOf284 Z Z Z Lp (by simp [Value.cells,ofT]) (fun ae BK Df=>?_))
   have YC:EF w c b1 b2 b3 w9.heap.size [Y,D] ax:=EF.ext ⟨J7.e,J7.c1,J7.c2,J7.c3,J7.ci,Zc⟩ jD
   have YE:=YC.upd BK omX omX omX omX omX (by simp;omega)
   obtain ⟨tf,Df⟩:∃ t,Blk ae ao [.func (.func 213) #[] #[.pointer (some ⟨b1,0,none⟩)]] t:=⟨_,Df⟩
   have Y8:=BK.size
   refine ak (aj (au (aT Z Z YE.c1.row (L.o (ay (xs:=[.tmp 47]) call209 Z Z (rX c ae) (fun a4 M hq=>?_))))))
   obtain ⟨rfl,je,bC⟩:=hq
   have cd:=bC.lt
   have YD:EF w c b1 b2 b3 ae.heap.size [Y,D] M:=⟨(YE.ext je).e,(YE.ext je).c1,(YE.ext je).c2,(YE.ext je).c3,bC,YE.o.ext je⟩
   have cg:=Blk.ext (cs:=[.func (.func 213) #[] #[.pointer (some ⟨b1,0,none⟩)]]) Df je
   refine ak (T.block (?_))
   refine gZ (e1:=fun v x=>[(1,.pointer (some ⟨b1,0,none⟩)),(2,.pointer (some ⟨b2,0,none⟩)),(3,.pointer (some ⟨b3,0,none⟩)),(8,.pointer (some ⟨ao,0,none⟩)),(9,.pointer (some ⟨x,0,none⟩))]) (LJ M.heap.size (fun i _ W=>EF w c b1 b2 b3 ae.heap.size [Y,D] W∧Blk W ao [.func (.func 213) #[] #[.pointer (some ⟨b1,0,none⟩)]] tf∧∀ k,k<i→lM c.ps c.fs ((stL c.fs).getD k st0)=false)) (fun c' S w'=>c' = .ret∧EX (∃ i,i<(stL c.fs).length∧lM c.ps c.fs ((stL c.fs).getD i st0)=true) w b2 b3 9 M.heap.size [Y,D] S w') (fun v x w'=>∃ s:St,v=s.val∧Blk w' x s.cells 277) Z call245 Z (yc ae.heap.size lo c hx) ?_ ?_ ?_ ?_ ?_ ?_ ?_ ?_ ?_ ?_ ?_
   ·refine LJ.Lh ?_ ?_
    ·rintro i S S' W W' _ ⟨E,F,X⟩ he _
     exact ⟨E.ext he,Blk.ext (cs:=[.func (.func 213) #[] #[.pointer (some ⟨b1,0,none⟩)]]) F he,X⟩
    rintro i S W W' b ⟨E,F,X⟩ _ bh B
    exact ⟨E.upd B omX omX omX omX omX (by simp;omega),Blk.upd F B omX,X⟩
   ·exact fun c' S W W' b h hb B=>⟨h.1,h.2.upd hb B omX omX omX (by simp;try omega)⟩
   ·exact fun i S W h=>⟨hc.ext h.2.2.1.e,h.2.2.1.ci⟩
   ·exact LJ.start ⟨YD,cg,fun k g=>absurd g (Nat.not_lt_zero _)⟩
   ·exact fun k g=>g.elim
   ·exact fun W hW=>trivial
   ·rintro v x W W' b' ⟨s,E,F⟩ K B
    exact ⟨s,E,F.upd B (Ne.symm K)⟩
   ·intro l Q i j v k W hn hK
    obtain ⟨hi,rfl,_⟩:=hn
    refine aA (L.o (O.alloc zeroValue277 (fun aa bi aiA aiB Ov Zj=>?_)))
    refine L.o (aK sizeOf277 Z Z Z Zj leX (Gx _) (fun bj ab acd=>?_))
    refine ak (T.sub ?_ (hK aa _ omX (Ov.upd ab (.inr omX)) ⟨_,rfl,acd⟩))
    exact ⟨rfl,rfl,rfl,rfl,rfl,trivial⟩
   ·rintro l i v x j S H ⟨hi,rfl,rfl⟩ ⟨aB,aiH,QW,aD,ame⟩ ⟨s',hv,A⟩ - -
    obtain ⟨s,hs⟩:∃ s,(stL c.fs).getD i st0=s:=⟨_,rfl⟩
    rw [hs] at hv
    have ac:=QV hv
    subst ac
    have V:s'∈stL c.fs:=by rw [← hs,aX hi];exact List.getElem_mem hi
    obtain ⟨a6,cM⟩:=ab8 V
    have aiI:=hc.ext QW.e
    refine T.block (aj (au (aC Z (A.cell Z) (dK Z Z (fun ch=>?_) (fun ch=>?_)))))
    ·refine aW (aY Z (eY ⟨⟨aB,aiH,QW,aD,fun k g=>?_⟩,fun k g=>rfl⟩))
     ·by_cases e:k=i
      ·subst e;rw [hs,lM,decide_eq_false omX,Bool.false_and]
      exact ame k omX
    refine ak (?_)
    have bm:c.fs.getD s'.f f0∈c.fs:=by rw [aX a6];exact List.getElem_mem a6
    have af:=aiI.at a6
    obtain ⟨hn,aE⟩:=hx _ bm
    have cN:(c.fs.getD s'.f f0).ri.length=(c.fs.getD s'.f f0).hs.length+1:=rfl
    refine bn (T.skip (au (aC Z (QW.c1.cell Z) (aC Z (A.cell Z) (dG Z Z aiI.sl (aT Z Z (aiI.row a6) (L.o (O.alloc zeroValue127 (fun a7 aJ ct cj Az Ot=>?_)))))))))
    refine L.o (aK sizeOf127 Z Z Z Ot leX (Gv af) (fun C QL Ll=>?_))
    have ahg:Blk C a7 (c.fs.getD s'.f f0).cells 127:=Ll
    have VU:Ext H C:=Az.upd QL (.inr omX)
    have acg:=af.ext VU
    have bD:=Blk.ext (cs:=s'.cells) A VU
    have aiq:=QL.size
    refine ak (aj (?_))
    refine dn mixed 8 [10,9] Z [.is _,.is _,.such (VQ C.heap.size (dw (c.fs.getD s'.f f0).hs)),.is _,.is _,.is _,.is _,.is _] [[],[0],[1],[],[3],[4],[],[6]] ⟨VQ.st,trivial⟩ ⟨fun z hx=>Ob.fa rfl,
      fun z hx=>aS rfl ((Blk.ext (cs:=(c.fs.getD s'.f f0).cells) ahg hx).cell rfl),
      fun z hx=>Ob.o (ay (xs:=[.tmp 60]) call215 Z Z (LW lo (c.fs.getD s'.f f0).hv (dw (c.fs.getD s'.f f0).hs) z (by rw [L6];exact (acg.ext hx).sl) (fun u B ↦ by rw [dw,List.mem_map] at B;obtain ⟨y,hy,rfl⟩:=B;exact Sl.one (acg.hs y hy)) (by rw [L6];exact hn)) (fun v wy h=>⟨h.1,h.2.mono hx.size⟩)),
      fun z hx=>Ob.fa rfl,
      fun z hx=>aS rfl ((Blk.ext (cs:=s'.cells) bD hx).cell rfl),
      fun z hx=>Ob.o (dh Z Z omX kR),
      fun z hx=>Ob.fa rfl,
      fun z hx=>aS rfl ((Blk.ext (cs:=s'.cells) bD hx).cell rfl),
      trivial⟩ (fun a8 xw bE ahh=>?_)
    refine L.o (ay (xs:=[.tmp 61,.tmp 64,.tmp 66]) call214 Z Z (IY C.heap.size (s'.r-1) _ _ bE (dw (c.fs.getD s'.f f0).hs) a8 ahh (fun u B ↦ by rw [dw,List.mem_map] at B;obtain ⟨y,hy,rfl⟩:=B;exact Sl.one (acg.hs y hy)) (by rw [L6];omega) (by rw [L6];exact hn) omX omX) (fun ck a9 hq=>?_))
    obtain ⟨aoI,ach⟩:=hq
    have az:∀ b,bE.ownBlock=some b→C.heap.size≤b:=fun b hb=>(qG ahh hb).1
    have VW:Ext C a9:=aoI.keep xw az
    obtain ⟨f',aL⟩:∃ f':FaV,f'=⟨(c.fs.getD s'.f f0).o,ck,(c.fs.getD s'.f f0).hs.eraseIdx (s'.r-1)⟩:=⟨_,rfl⟩
    refine L.fa Z (L.o (bV sizeOf125 (Sl.one (Sl.dD ach)) Z Z (Blk.ext (cs:=(c.fs.getD s'.f f0).cells) ahg VW) (by show 0+1<2;omega) (fun ap ahi Vu=>?_)))
    have aiJ:Blk ap a7 f'.cells 127:=by rw [aL];exact Vu
    have amf:=VW.size
    have TP:Ext H ap:=(VU.trans VW).upd ahi (.inr omX)
    have cl:(c.fs.getD s'.f f0).hs.length-1=((c.fs.getD s'.f f0).hs.eraseIdx (s'.r-1)).length:=by rw [List.length_eraseIdx,if_pos omX]
    have aaR:=BJ (q:=.slice (some ⟨a7,0,none⟩) 0 0) ach (Loc.qL ahi rfl) (fun j hj e=>by have e':a7=j:=Option.some.inj e;have:=(qG ach hj).1;omega)
    have aoJ:f'.ok 0 ap:=by
     subst aL
     refine ⟨((af.ext TP).o).mono lzX,?_,fun y hy=>((af.ext TP).hs y (List.mem_of_mem_eraseIdx hy)).mono lzX⟩
     have h:=(Sl.dD aaR).mono lzX
     rw [L6,cl,← Zi] at h
     exact h
    have hE20:=QW.ext TP
    have VX:=Blk.ext (cs:=s'.cells) A TP
    have aci:=Blk.ext (cs:=[.func (.func 213) #[] #[.pointer (some ⟨b1,0,none⟩)]]) aD TP
    have aM:=hc.ext hE20.e
    refine ak (aj (?_))
    refine dn mixed 5 [1,10,8,9] Z [.is _,.is _,.is _,.is _,.is (pV (qx c.ps s'))] [[],[],[],[],[2,3]] trivial ⟨fun z hx=>bJ rfl rfl ((Blk.ext (cs:=c.cells) hE20.c1 hx).row),
      fun z hx=>bJ rfl rfl ((Blk.ext (cs:=f'.cells) aiJ hx).row),
      fun z hx=>aS rfl ((Blk.ext (cs:=[.func (.func 213) #[] #[.pointer (some ⟨b1,0,none⟩)]]) aci hx).cell rfl),
      fun z hx=>bJ rfl rfl ((Blk.ext (cs:=s'.cells) VX hx).row),
      fun z hx=>Ob.o (ay (xs:=[.tmp 72]) call213 Z Z (Aw lo b1 c s' z (Blk.ext (cs:=c.cells) hE20.c1 hx) (aM.p.ext hx) hf (ai _ V)) (fun v wy h=>⟨h.2,h.1⟩)),
      trivial⟩ (fun aN jv=>?_)
    have bo:Ko c.ps.length f'.o:=by subst aL;exact aE _ (by simp [FaV.ri])
    have bp:∀ h∈f'.hs,Ko c.ps.length h:=by subst aL;exact fun y hy=>aE y (by simp only [FaV.ri,List.mem_cons];exact .inr (List.mem_of_mem_eraseIdx hy))
    refine L.o (ay (xs:=[.tmp 69,.tmp 70,.tmp 73,.const (.int .i64 2)]) call216 Z Z (xY lo 0 c f' (qx c.ps s') 2 aN (aM.p.ext jv) (aoJ.ext jv) hf (.inr Z) bo bp (aa0 hf (ai _ V))) (fun cm N hq=>?_))
    obtain ⟨uO,qF⟩:=hq
    have G:Ext H N:=TP.trans (jv.trans qF)
    have YF:=QW.ext G
    have VY:=Blk.ext (cs:=s'.cells) A G
    have aq:∀ k,S k→M.heap.size≤k∧k<N.heap.size:=fun k g=>⟨(aB k g).1,Nat.lt_of_lt_of_le (aB k g).2 G.size⟩
    have ahj:∀ k,S k→N.heap[k]?=H.heap[k]?:=fun k g=>G.block k lzX (aB k g).2
    have bG:lM c.ps c.fs s' = !iZ c.ps 2 f' (qx c.ps s'):=by
     subst aL
     rw [lM,decide_eq_true omX,Bool.true_and];rfl
    rcases hw:iZ c.ps 2 f' (qx c.ps s') with _|_
    ·rw [hw] at uO
     subst uO
     refine bT Z (aW (aj (?_)))
     refine T.any mixed 3 1 [9,2] Z [.is _,.is _,.is undef] [[],[0],[]] [none,none,some 0] [[],[0],[],[0,1,2]] (YB N b2 (.int .i64 9)) (fun _ _=>True) krX krX krX Z trivial (Keep.drew _ _) ⟨fun c z hx=>ObK.op rfl (O.fa Z ⟨⟨trivial,hx⟩,rfl⟩),
       fun c z hx=>ObK.op Z (dR Z ((hx.blk VY (uH VY YF.c2 dcX)).cell rfl) ⟨⟨trivial,hx⟩,rfl⟩),
       fun z hx=>ObK.op Z (bP sizeOf3 Z Z Z (Blk.ext (cs:=[.int .i64 0]) YF.c2 hx) (by simp [Value.cells,ofT]) (fun bq acj VZ=>⟨⟨trivial,_,hx,acj,VZ⟩,rfl⟩)),
       trivial⟩ (fun cn aiK=>?_)
     obtain ⟨W1,hE,hU,hC⟩:=aiK
     refine L.o (bP sizeOf3 Z Z Z (Blk.upd (cs:=[.int .i64 0]) (Blk.ext (cs:=[.int .i64 0]) YF.c3 hE) hU omX) (by simp [Value.cells,ofT]) (fun bq acj VZ=>?_))
     have I:=kX.of hE hU hC acj VZ omX
     refine ak (iw ⟨⟨rfl,EX.of ⟨i,hi,by rw [hs,bG,hw];rfl⟩ YF aq I⟩,fun k g=>(I.Zg aq omX omX k g).trans (ahj k g)⟩)
    rw [hw] at uO
    subst uO
    refine bT Z (aU (T.skip (T.blk (eY ⟨⟨aq,Nat.le_trans aiH G.size,YF,Blk.ext (cs:=[.func (.func 213) #[] #[.pointer (some ⟨b1,0,none⟩)]]) aD G,fun k g=>?_⟩,ahj⟩))))
    ·by_cases e:k=i
     ·subst e;rw [hs,bG,hw];rfl
     exact ame k omX
   ·rintro S3 D3 H hD3 cP air ⟨aB,aiH,QW,aD,co⟩ aoK
    have amg:Opn [D3,Y,D] H:=QW.o.cons aoK (by simp;omega)
    have atl:=amg.lt D3 spX
    refine T.blk (aj (au (aT Z Z QW.c1.row (L.o (ay (xs:=[.tmp 78]) call209 Z Z (rX c H) (fun cQ aJ hq=>?_))))))
    obtain ⟨rfl,Az,afa⟩:=hq
    have cj:=afa.lt
    have aoL:EF w c b1 b2 b3 H.heap.size [D3,Y,D] aJ:=⟨(QW.ext Az).e,(QW.ext Az).c1,(QW.ext Az).c2,(QW.ext Az).c3,afa,amg.ext Az⟩
    have aoM:=Blk.ext (cs:=[.func (.func 213) #[] #[.pointer (some ⟨b1,0,none⟩)]]) aD Az
    refine ak (T.block (?_))
    refine gZ (e1:=fun v x=>[(1,.pointer (some ⟨b1,0,none⟩)),(2,.pointer (some ⟨b2,0,none⟩)),(3,.pointer (some ⟨b3,0,none⟩)),(8,.pointer (some ⟨ao,0,none⟩)),(11,.pointer (some ⟨x,0,none⟩))]) (LJ aJ.heap.size (fun i _ W=>EF w c b1 b2 b3 H.heap.size [D3,Y,D] W∧Blk W ao [.func (.func 213) #[] #[.pointer (some ⟨b1,0,none⟩)]] tf∧∀ k,k<i→pz c.ps c.fs ((stL c.fs).getD k st0)=false)) (fun c' S w'=>c' = .ret∧EX (∃ i,i<(stL c.fs).length∧pz c.ps c.fs ((stL c.fs).getD i st0)=true) w b2 b3 10 aJ.heap.size [D3,Y,D] S w') (fun v x w'=>∃ s:St,v=s.val∧Blk w' x s.cells 277) Z call245 Z (yc H.heap.size lo c hx) ?_ ?_ ?_ ?_ ?_ ?_ ?_ ?_ ?_ ?_ ?_
    ·refine LJ.Lh ?_ ?_
     ·rintro i S S' W W' _ ⟨E,F,X⟩ he _
      exact ⟨E.ext he,Blk.ext (cs:=[.func (.func 213) #[] #[.pointer (some ⟨b1,0,none⟩)]]) F he,X⟩
     rintro i S W W' b ⟨E,F,X⟩ _ bh B
     exact ⟨E.upd B omX omX omX omX omX (by simp;omega),Blk.upd F B omX,X⟩
    ·exact fun c' S W W' b h hb B=>⟨h.1,h.2.upd hb B omX omX omX (by simp;try omega)⟩
    ·exact fun i S W h=>⟨hc.ext h.2.2.1.e,h.2.2.1.ci⟩
    ·exact LJ.start ⟨aoL,aoM,fun k g=>absurd g (Nat.not_lt_zero _)⟩
    ·exact fun k g=>g.elim
    ·exact fun W hW=>trivial
    ·rintro v x W W' b' ⟨s,E,F⟩ K B
     exact ⟨s,E,F.upd B (Ne.symm K)⟩
    ·intro l Q i j v k W hn hK
     obtain ⟨hi,rfl,_⟩:=hn
     refine aA (L.o (O.alloc zeroValue277 (fun aa bi aiA aiB Ov Zj=>?_)))
     refine L.o (aK sizeOf277 Z Z Z Zj leX (Gx _) (fun bj ab acd=>?_))
     refine ak (T.sub ?_ (hK aa _ omX (Ov.upd ab (.inr omX)) ⟨_,rfl,acd⟩))
     exact ⟨rfl,rfl,rfl,rfl,rfl,trivial⟩
    ·rintro l i v x j S C ⟨hi,rfl,rfl⟩ ⟨acn,amh,TQ,bb,aoN⟩ ⟨s',hv,A⟩ - -
     obtain ⟨s,hs⟩:∃ s,(stL c.fs).getD i st0=s:=⟨_,rfl⟩
     rw [hs] at hv
     have ac:=QV hv
     subst ac
     have V:s'∈stL c.fs:=by rw [← hs,aX hi];exact List.getElem_mem hi
     have bc:=hc.ext TQ.e
     have cR:=Sl.le bc.sl
     refine T.block (au (aC Z (TQ.c1.cell Z) (L.le Z (Sl.val bc.sl) (L.m Z (ak (T.block (?_)))))))
     refine bf (σ:=Nat) (fun n=>[(1,.pointer (some ⟨b1,0,none⟩)),(2,.pointer (some ⟨b2,0,none⟩)),(3,.pointer (some ⟨b3,0,none⟩)),(8,.pointer (some ⟨ao,0,none⟩)),(11,.pointer (some ⟨x,0,none⟩)),(82,c.fv),(83,.int .i64 c.fs.length),(84,.int .i64 n)]) (fun n w'=>n≤c.fs.length∧Ext C w'∧∀ k,k<n→uN c.ps c.fs s' k=false) (fun n=>c.fs.length-n) (0) ⟨rfl,rfl,rfl,rfl,rfl,rfl,rfl,rfl,trivial⟩ ⟨Nat.zero_le _,Keep.refl _ _,fun k g=>absurd g (Nat.not_lt_zero _)⟩ ?_
     rintro n a8 ⟨hn,xw,aO⟩
     have aiL:=TQ.ext xw
     have aiM:=Blk.ext (cs:=s'.cells) A xw
     have afb:=Blk.ext (cs:=[.func (.func 213) #[] #[.pointer (some ⟨b1,0,none⟩)]]) bb xw
     have aR:=hc.ext aiL.e
     refine au (bH Z Z (fun cp=>?_) (fun cp=>?_))
     ·refine ak (?_)
      have J:n<c.fs.length:=by omega
      have bm:c.fs.getD n f0∈c.fs:=by rw [aX J];exact List.getElem_mem J
      have af:=aR.at J
      obtain ⟨_,aE⟩:=hx _ bm
      refine aj (aZ (T.skip (aj (T.block (aQ Z (dG Z Z aR.sl (aT Z Z (aR.row J) (L.o (O.alloc zeroValue127 (fun cq a9 aoO aoP Zk Lm=>?_))))))))))
      refine L.a Z (L.o (aK sizeOf127 Z Z Z Lm leX (Gv af) (fun ap ahi Vu=>?_)))
      have aiJ:Blk ap cq (c.fs.getD n f0).cells 127:=Vu
      have Gz:Ext a8 ap:=Zk.upd ahi (.inr omX)
      have hE20:=aiL.ext Gz
      have VX:=Blk.ext (cs:=s'.cells) aiM Gz
      have aci:=Blk.ext (cs:=[.func (.func 213) #[] #[.pointer (some ⟨b1,0,none⟩)]]) afb Gz
      have aM:=hc.ext hE20.e
      have aiN:=af.ext Gz
      by_cases K:n=s'.f
      ·refine ak (aj (?_))
       refine dn mixed 10 [12,11,1,13,8] Z [.is _,.is _,.is _,.is _,.is _,.is undef,.is undef,.is undef,.is undef,.is undef] [[],[],[1],[0,2],[3],[4],[4],[4],[4],[7,8,4]] trivial ⟨fun z hx=>aF rfl,
         fun z hx=>Ob.fa rfl,
         fun z hx=>aS rfl ((Blk.ext (cs:=s'.cells) VX hx).cell rfl),
         fun z hx=>Ob.o (fP Z Z omX kR),
         fun z hx=>aF rfl,
         fun z hx=>aV rfl rfl,
         fun z hx=>aV rfl rfl,
         fun z hx=>aV rfl rfl,
         fun z hx=>aV rfl rfl,
         fun z hx=>aV rfl rfl,
         trivial⟩ (fun aN jv=>?_)
       have G:Ext C aN:=xw.trans (Gz.trans jv)
       refine L.p (aI Z (aU (T.skip (T.blk (aA (bF Z Z (L.m Z (ak (aP (n+1) omX ⟨rfl,rfl,rfl,rfl,rfl,rfl,rfl,rfl,trivial⟩ ⟨J,G,fun k g=>?_⟩)))))))))
       ·by_cases e:k=n
        ·subst e;rw [uN,decide_eq_false omX,Bool.false_and]
        exact aO k omX
      refine ak (aj (?_))
      refine dn mixed 10 [12,11,1,13,8] Z [.is _,.is _,.is _,.is _,.is _,.is _,.is _,.is _,.is _,.is (pV (qx c.ps s'))] [[],[],[1],[0,2],[3],[4],[4],[4],[4],[7,8,4]] trivial ⟨fun z hx=>aF rfl,
        fun z hx=>Ob.fa rfl,
        fun z hx=>aS rfl ((Blk.ext (cs:=s'.cells) VX hx).cell rfl),
        fun z hx=>Ob.o (kT Z Z omX kR),
        fun z hx=>aF rfl,
        fun z hx=>bJ rfl rfl ((Blk.ext (cs:=c.cells) hE20.c1 hx).row),
        fun z hx=>bJ rfl rfl ((Blk.ext (cs:=(c.fs.getD n f0).cells) aiJ hx).row),
        fun z hx=>aS rfl ((Blk.ext (cs:=[.func (.func 213) #[] #[.pointer (some ⟨b1,0,none⟩)]]) aci hx).cell rfl),
        fun z hx=>bJ rfl rfl ((Blk.ext (cs:=s'.cells) VX hx).row),
        fun z hx=>Ob.o (ay (xs:=[.tmp 97]) call213 Z Z (Aw lo b1 c s' z (Blk.ext (cs:=c.cells) hE20.c1 hx) (aM.p.ext hx) hf (ai _ V)) (fun v wy h=>⟨h.2,h.1⟩)),
        trivial⟩ (fun aN jv=>?_)
      have bo:Ko c.ps.length (c.fs.getD n f0).o:=aE _ (by simp [FaV.ri])
      have bp:∀ h∈(c.fs.getD n f0).hs,Ko c.ps.length h:=fun y hy=>aE y (by simp only [FaV.ri,List.mem_cons];exact .inr hy)
      refine L.o (ay (xs:=[.tmp 94,.tmp 95,.tmp 98,.const (.int .i64 2)]) call216 Z Z (xY lo lo c (c.fs.getD n f0) (qx c.ps s') 2 aN (aM.p.ext jv) (aiN.ext jv) hf (.inr Z) bo bp (aa0 hf (ai _ V))) (fun cm N hq=>?_))
      obtain ⟨uO,qF⟩:=hq
      have G:Ext C N:=xw.trans (Gz.trans (jv.trans qF))
      have YF:=TQ.ext G
      have VY:=Blk.ext (cs:=s'.cells) A G
      have aq:∀ k,S k→aJ.heap.size≤k∧k<N.heap.size:=fun k g=>⟨(acn k g).1,Nat.lt_of_lt_of_le (acn k g).2 G.size⟩
      have ahj:∀ k,S k→N.heap[k]?=C.heap[k]?:=fun k g=>G.block k lzX (acn k g).2
      have ami:uN c.ps c.fs s' n=iZ c.ps 2 (c.fs.getD n f0) (qx c.ps s'):=by rw [uN,decide_eq_true K,Bool.true_and]
      rcases hw:iZ c.ps 2 (c.fs.getD n f0) (qx c.ps s') with _|_
      ·rw [hw] at uO
       subst uO
       refine aG Z (aU (T.skip (T.blk (aA (bF Z Z (L.m Z (ak (aP (n+1) omX ⟨rfl,rfl,rfl,rfl,rfl,rfl,rfl,rfl,trivial⟩ ⟨J,G,fun k g=>?_⟩))))))))
       ·by_cases e:k=n
        ·subst e;rw [ami,hw]
        exact aO k omX
      rw [hw] at uO
      subst uO
      refine aG Z (aW (aj (?_)))
      refine T.any mixed 3 1 [11,2] Z [.is _,.is _,.is undef] [[],[0],[]] [none,none,some 0] [[],[0],[],[0,1,2]] (YB N b2 (.int .i64 10)) (fun _ _=>True) krX krX krX Z trivial (Keep.drew _ _) ⟨fun c z hx=>ObK.op rfl (O.fa Z ⟨⟨trivial,hx⟩,rfl⟩),
        fun c z hx=>ObK.op Z (dR Z ((hx.blk VY (uH VY YF.c2 dcX)).cell rfl) ⟨⟨trivial,hx⟩,rfl⟩),
        fun z hx=>ObK.op Z (bP sizeOf3 Z Z Z (Blk.ext (cs:=[.int .i64 0]) YF.c2 hx) (by simp [Value.cells,ofT]) (fun bq acj VZ=>⟨⟨trivial,_,hx,acj,VZ⟩,rfl⟩)),
        trivial⟩ (fun cn aiK=>?_)
      obtain ⟨W1,hE,hU,hC⟩:=aiK
      refine L.o (bP sizeOf3 Z Z Z (Blk.upd (cs:=[.int .i64 0]) (Blk.ext (cs:=[.int .i64 0]) YF.c3 hE) hU omX) (by simp [Value.cells,ofT]) (fun bq acj VZ=>?_))
      have I:=kX.of hE hU hC acj VZ omX
      refine ak (iw ⟨⟨rfl,EX.of ⟨i,hi,by rw [hs];exact QU J (by rw [ami,hw])⟩ YF aq I⟩,fun k g=>(I.Zg aq omX omX k g).trans (ahj k g)⟩)
     refine ak (?_)
     obtain rfl:n=c.fs.length:=by omega
     refine aj (bn (aY Z (T.blk (eY ⟨⟨fun k g=>⟨(acn k g).1,Nat.lt_of_lt_of_le (acn k g).2 xw.size⟩,Nat.le_trans amh xw.size,aiL,afb,fun k g=>?_⟩,fun k g=>xw.block k lzX (acn k g).2⟩))))
     ·by_cases e:k=i
      ·subst e;rw [hs];exact LY aO
      exact aoN k omX
    ·rintro S4 D4 C hD4 atm aoQ ⟨acn,amh,TQ,bb,aO⟩ aoR
     have aoS:Opn [D4,D3,Y,D] C:=TQ.o.cons aoR (by simp;omega)
     refine T.blk (au (L.o (bP sizeOf3 Z Z Z TQ.c2 (by simp [Value.cells,ofT]) (fun a8 Dq ET=>?_))))
     refine L.o (bP sizeOf3 Z Z Z (Blk.upd (cs:=[.int .i64 0]) TQ.c3 Dq omX) (by simp [Value.cells,ofT]) (fun a9 aoT Lm=>?_))
     have I:=kX.of (Keep.refl 0 C) Dq ET aoT Lm omX
     have amj:Opn [D4,D3,Y,D] a9:=Opn.done aoS I TQ.c2 TQ.c3
     have bI:=I.from TQ.e
     refine ak (jh results189 isAgg3 isAgg3 Z Z amj (fun w' hs=>bI.cells amj hs) (fun w' hs=>⟨0,0,rfl,by rw [aiz a3 cf co aO];rfl,(bI.ext (Keep.refl 0 w) omX omX).shut hs (fun r P=>.inr (by simp at P;omega))⟩))
    rintro c' SD4 D4 C atn aoQ ⟨rfl,hB,br,ag,a,I⟩ ah
    have ho:Opn (D4 :: [D3,Y,D]) C:=ag.cons ah (by simp;try omega)
    refine jh results189 isAgg3 isAgg3 Z Z ho (fun w' hs=>I.cells ho hs) (fun w' hs=>⟨10,a,rfl,by obtain ⟨i,E,F⟩:=hB;rw [aoD E F];rfl,(I.ext (Keep.refl 0 w) omX omX).shut hs (fun r P=>.inr (by simp at P;omega))⟩)
   rintro c' SD3 D3 H ato air ⟨rfl,hB,br,ag,a,I⟩ ah
   have ho:Opn (D3 :: [Y,D]) H:=ag.cons ah (by simp;try omega)
   refine jh results189 isAgg3 isAgg3 Z Z ho (fun w' hs=>I.cells ho hs) (fun w' hs=>⟨9,a,rfl,by obtain ⟨i,E,F⟩:=hB;rw [aoC E F];rfl,(I.ext (Keep.refl 0 w) omX omX).shut hs (fun r P=>.inr (by simp at P;omega))⟩)
  rintro c' SD2 Y U atp aii ⟨rfl,hB,br,ag,a,I⟩ ah
  have ho:Opn (Y :: [D]) U:=ag.cons ah (by simp;try omega)
  refine jh results189 isAgg3 isAgg3 Z Z ho (fun w' hs=>I.cells ho hs) (fun w' hs=>⟨8,a,rfl,by obtain ⟨i,E,F⟩:=hB;rw [aoB E F];rfl,(I.ext (Keep.refl 0 w) omX omX).shut hs (fun r P=>.inr (by simp at P;omega))⟩)
 rintro c' SD D w8 cS hSD ⟨rfl,hB,br,ag,a,I⟩ ah
 have ho:Opn (D :: []) w8:=ag.cons ah (by simp;try omega)
 refine jh results189 isAgg3 isAgg3 Z Z ho (fun w' hs=>I.cells ho hs) (fun w' hs=>⟨7,a,rfl,by rw [aoA hB];rfl,(I.ext (Keep.refl 0 w) omX omX).shut hs (fun r P=>.inr (by simp at P;omega))⟩)
def sU (c:CxV):Bool:=decide (c.ps.length<3) || (decide (120<c.ps.length) || (decide (c.fs.length<1) || decide (64<c.fs.length)))
def iq (c:CxV):Bool :=
 sU c || (c.ps.any rE || (!decide c.ps.Nodup || (c.fs.any (jw c.ps.length) || (c.fs.any (fun f=>BL f.ri (badR c.ps)) || (c.fs.any (fun f=>BL f.ri (qy c.ps)) || iG c.ps c.fs)))))
theorem TR {r:List Pt} (h:¬ 0<uG r):∀ i,i<r.length→¬ Gs r i:=fun i hi hs=>h (by
 rw [uG]
 split
 ·decide
 rw [if_pos ⟨i,hi,hs⟩];decide)
theorem Dt {α:Type} (g:Nat→List α) (B:Nat):∀ n,(∀ k,k<n→(g k).length≤B)→(pre g n).length≤n*B
 | 0,_=>by simp [pre]
 | n+1,h=>by
  have ih:=Dt g B n (fun k a=>h k omX)
  have:=h n omX
  rw [zF,Nat.add_mul];omega
theorem V3 {fs:List FaV} {s:St} (h:s∈stL fs):s.f<fs.length∧s.r<(fs.getD s.f f0).ri.length∧∃ i,i<((fs.getD s.f f0).ri.getD s.r r0).xs.length∧s.a=nI ((fs.getD s.f f0).ri.getD s.r r0).xs i∧s.b=nI ((fs.getD s.f f0).ri.getD s.r r0).xs ((i+1) % ((fs.getD s.f f0).ri.getD s.r r0).xs.length):=by
 simp only [stL,pre,gF,stF,gR,stR,List.mem_flatMap,List.mem_range,List.mem_map] at h
 obtain ⟨f,hf,r,c,i,hi,rfl⟩:=h
 exact ⟨hf,c,i,hi,rfl,rfl⟩
theorem V4 {l:List Int} (hi:i<l.length):(cor ps 1 l).getD i (0,0)=gP ps (nI l i):=by
 rw [IQ hi];simp only [Dl,Int.one_mul,gP,nI]
structure vG (ps:List Pt) (f:FaV):Prop where
 hn:f.hs.length≤8
 ix:∀ x∈f.ri,IxL ps.length x.xs∧3≤x.xs.length∧x.xs.length≤40
 rg:∀ x∈f.ri,uI ps x.xs=false
theorem vG.ri {ps:List Pt} {f:FaV} (h:vG ps f):∀ x∈f.ri,Ko ps.length x:=fun x hx=>⟨(h.ix x hx).1,by have:=(h.ix x hx).2.2;omega⟩
theorem V5 {f:FaV} (h:jw n f=false):f.hs.length≤8∧∀ x∈f.ri,IxL n x.xs∧3≤x.xs.length∧x.xs.length≤40:=by
 simp only [jw,Bool.or_eq_false_iff,decide_eq_false_iff_not] at h
 refine ⟨omX,fun x hx=>?_⟩
 obtain ⟨k,a,rfl⟩:=List.getElem_of_mem hx
 have:=QS (any_none h.2 a)
 rw [aX a] at this
 exact this
theorem rY {L:List α} {p:α→Bool} (h:L.any p=false):∀ x∈L,p x=false:=fun x hx=>by
 have:=List.any_eq_false.1 h x hx
 simpa using this
theorem aco {fs:List FaV} (d:fs.any (jw ps.length)=false) (e:fs.any (fun f=>BL f.ri (badR ps))=false):∀ f∈fs,vG ps f:=fun f hf=>by
 obtain ⟨a,b⟩:=V5 (rY d f hf)
 refine ⟨a,b,fun x hx=>?_⟩
 obtain ⟨k,c,rfl⟩:=List.getElem_of_mem hx
 have:=any_none (rY e f hf) c
 rw [aX c] at this
 exact this
theorem aiO {fs:List FaV} (h:∀ f∈fs,vG ps f):∀ s∈stL fs,s.ok ps:=fun s hs=>by
 obtain ⟨hf,g,i,hi,ha,hb⟩:=V3 hs
 have d:fs.getD s.f f0∈fs:=by rw [aX hf];exact List.getElem_mem hf
 have a:(fs.getD s.f f0).ri.getD s.r r0∈(fs.getD s.f f0).ri:=by rw [aX g];exact List.getElem_mem g
 have j:=h _ d
 obtain ⟨b,l,_⟩:=j.ix _ a
 have c:=j.rg _ a
 have k:(i+1) % ((fs.getD s.f f0).ri.getD s.r r0).xs.length<((fs.getD s.f f0).ri.getD s.r r0).xs.length:=Nat.mod_lt _ omX
 have x1:=b i hi
 have x2:=b _ k
 refine ⟨by rw [ha,nI];omega,by rw [hb,nI];omega,fun e=>?_⟩
 rw [uI,decide_eq_false_iff_not] at c
 refine TR c i (by rw [o9];exact hi) ?_
 show (cor ps 1 _).getD i (0,0)=(cor ps 1 _).getD ((i+1) % (cor ps 1 _).length) (0,0)
 rw [o9,V4 hi,V4 k,← ha,← hb];exact e
theorem acp {fs:List FaV} (hn:fs.length≤64) (h:∀ f∈fs,vG ps f):(stL fs).length≤100000:=by
 have e:(stL fs).length≤fs.length*360:=Dt _ _ _ fun f hf=>by
  have a:fs.getD f f0∈fs:=by rw [aX hf];exact List.getElem_mem hf
  have c:=h _ a
  have g:(gF fs f).length≤(fs.getD f f0).ri.length*40:=Dt _ _ _ fun r d=>by
   have b:(fs.getD f f0).ri.getD r r0∈(fs.getD f f0).ri:=by rw [aX d];exact List.getElem_mem d
   rw [gR,wQ];exact (c.ix _ b).2.2
  have i:(fs.getD f f0).ri.length=(fs.getD f f0).hs.length+1:=rfl
  have:=c.hn
  omega
 omega
theorem afc {c:CxV} (h:∀ f∈c.fs,vG c.ps f):IxC c:=fun f hf=>⟨by have:=(h f hf).hn;omega,(h f hf).ri⟩
theorem acr (h:ps.any rE=false):NfL ps:=fun i hi=>rY h _ (by rw [aX hi];exact List.getElem_mem hi)
section
variable {c:CxV}
theorem cx1 (h:sU c=true):iq c=true:=by rw [iq,h,Bool.true_or]
theorem cx2 (h:c.ps.any rE=true):iq c=true:=by rw [iq,h,Bool.true_or,Bool.or_true]
theorem cx3 (h:¬ c.ps.Nodup):iq c=true:=by rw [iq,decide_eq_false h,Bool.not_false,Bool.true_or,Bool.or_true,Bool.or_true]
theorem cx4 (h:c.fs.any (jw c.ps.length)=true):iq c=true:=by rw [iq,h,Bool.true_or,Bool.or_true,Bool.or_true,Bool.or_true]
theorem cx5 (h:c.fs.any (fun f=>BL f.ri (badR c.ps))=true):iq c=true:=by rw [iq,h,Bool.true_or,Bool.or_true,Bool.or_true,Bool.or_true,Bool.or_true]
theorem cx6 (h:c.fs.any (fun f=>BL f.ri (qy c.ps))=true):iq c=true:=by rw [iq,h,Bool.true_or,Bool.or_true,Bool.or_true,Bool.or_true,Bool.or_true,Bool.or_true]
theorem cx7 (a:sU c=false) (b:c.ps.any rE=false) (d:c.ps.Nodup) (e:c.fs.any (jw c.ps.length)=false) (g:c.fs.any (fun f=>BL f.ri (badR c.ps))=false) (h:c.fs.any (fun f=>BL f.ri (qy c.ps))=false):iq c=iG c.ps c.fs:=by
 rw [iq,a,b,decide_eq_true d,e,g,h];rfl
theorem Zl (h:c.ps.length<3∨120<c.ps.length∨c.fs.length<1∨64<c.fs.length):sU c=true:=by
 simp only [sU,Bool.or_eq_true,decide_eq_true_eq];exact h
theorem aiP (h:¬ (c.ps.length<3∨120<c.ps.length∨c.fs.length<1∨64<c.fs.length)):sU c=false:=by
 simp only [sU,Bool.or_eq_false_iff,decide_eq_false_iff_not];omega
end
theorem ahk {r:Int} {b:Bool} (h:decide (0≤r)=b) (h0:0≤r):b=true:=by rw [← h,decide_eq_true h0]
theorem ahl {r:Int} {b:Bool} (h:decide (0≤r)=b) (h0:¬ 0≤r):b=false:=by rw [← h,decide_eq_false h0]
set_option maxHeartbeats 2000000 in
theorem TS (lo:Nat) (c:CxV) (w:World) (hc:c.ok lo w) :
  Calls Tryz.prog 140 #[c.val] w (Ret fun v w'=>ae1 (iq c) w v w'):=by
 refine aJ (vs:=[c.val]) func140 Z ntmps140 Z ?_
 refine au (bM Z (fun b1 w1 ar av j hB1=>?_))
 have hC:Blk w1 b1 c.cells 46:=hB1
 have g:=hc.ext j
 have ap:=Sl.le g.p
 have aq:=Sl.le g.sl
 refine L.a Z (ah Z (aj (au (aC Z (hC.cell Z) (L.le Z (Sl.val g.p) (ah Z (aQ Z (bH Z Z (fun h3=>?_) (fun h3=>?_)))))))))
 ·refine L.m Z (L.pp (aG Z (L.m Z (L.pp (L.pp (aG Z (L.m Z (L.pp (L.pp (aG Z (aW (fK Z (ah Z (cu results140 Z Z ⟨1,0,rfl,by rw [cx1 (Zl (.inl omX))];rfl,j⟩))))))))))))))
 refine aN Z Z (dY Z Z (fun amk=>?_) (fun amk=>?_))
 ·refine aI Z (L.m Z (L.pp (L.pp (aG Z (L.m Z (L.pp (L.pp (aG Z (aW (fK Z (ah Z (cu results140 Z Z ⟨1,0,rfl,by rw [cx1 (Zl (.inr (.inl omX)))];rfl,j⟩))))))))))))
 refine aI Z (L.m Z (aC Z (hC.cell Z) (L.le Z (Sl.val g.sl) (bH Z Z (fun Q=>?_) (fun Q=>?_)))))
 ·refine aI Z (L.m Z (L.pp (L.pp (aG Z (aW (fK Z (ah Z (cu results140 Z Z ⟨1,0,rfl,by rw [cx1 (Zl (.inr (.inr (.inl omX))))];rfl,j⟩))))))))
 refine aI Z (L.m Z (aC Z (hC.cell Z) (L.le Z (Sl.val g.sl) (dY Z Z (fun aoU=>?_) (fun aoU=>?_)))))
 ·refine aI Z (aW (fK Z (ah Z (cu results140 Z Z ⟨1,0,rfl,by rw [cx1 (Zl (.inr (.inr (.inr omX))))];rfl,j⟩))))
 have D:sU c=false:=aiP omX
 refine aI Z (aU (T.skip (aj (au (aC Z (hC.cell Z) (L.o (ay (xs:=[.tmp 35,.func 174]) call173 Z Z (LU lo c.pv c.ps w1 g.p) (fun v2 w2 n=>?_))))))))
 obtain ⟨r,rfl,hr,s⟩:=n
 have hC2:=Blk.ext (cs:=c.cells) hC s
 have E:=g.ext s
 have xq:=j.trans s
 refine ah Z (au (aO Z (fJ Z Z (fun R=>?_) (fun R=>?_))))
 ·refine aW (aQ Z (L.a Z (ah Z (cu results140 Z Z ⟨2,r,rfl,by rw [cx2 (ahk hr omX)];rfl,xq⟩))))
 refine ak (?_)
 have F:c.ps.any rE=false:=ahl hr omX
 have hf:=acr F
 refine bn (T.skip (au (L.o (lG (kf:=pV) (vf:=Value.bool) (fun b3 w3 aw ax u S=>?_)))))
 refine ah Z (aj (au (aC Z ((Blk.ext (cs:=c.cells) hC2 u).cell Z) (L.le Z (Sl.val (E.p.ext u)) (L.m Z (ak (T.block (?_))))))))
 refine bf (σ:=Nat) (fun i=>[(1,.pointer (some ⟨b1,0,none⟩)),(6,.map (some b3)),(42,c.pv),(43,.int .i64 c.ps.length),(44,.int .i64 i)]) (fun i w'=>i≤c.ps.length∧Ext w2 w'∧(∃ kvs,wJ pV Value.bool w' b3 kvs∧Zh kvs (c.ps.take i))∧(c.ps.take i).Nodup) (fun i=>c.ps.length-i) (0) ⟨rfl,rfl,rfl,rfl,rfl,trivial⟩ ⟨Nat.zero_le _,u,⟨[],S,Zh.nil⟩,spX⟩ ?_
 rintro i w4 ⟨hi,k,⟨kvs,G,x⟩,y⟩
 have U:=Blk.ext (cs:=c.cells) hC2 k
 have z:=E.ext k
 refine au (bH Z Z (fun V=>?_) (fun V=>?_))
 ·refine ak (?_)
  have e:i<c.ps.length:=by omega
  refine aj (aZ (T.skip (aj (T.block (aQ Z (dG Z Z z.p (aT Z Z (z.p.row e) (L.o (O.alloc zeroValue124 (fun b5 w5 az aB X Y=>?_))))))))))
  refine L.a Z (L.o (aK sizeOf124 Z Z Z Y leX (gu _) (fun w6 aa ab=>?_)))
  have H:Blk w6 b5 (pC (c.ps.getD i (0,0))) 124:=ab
  have Ap:Ext w4 w6:=X.upd aa (.inr omX)
  have I:=G.keep Ap lzX
  have aD:=G.lt
  refine ak (aj (aQ Z (aT Z Z H.row (L.o (Aq (kf:=pV) (vf:=Value.bool) (z0:=false) VF runUnderlying249 zeroValue4 Z Z I (?_))))))
  cases hb:(oN kvs (c.ps.getD i (0,0))).getD false
  ·refine aU (T.skip (aA (L.m Z (aT Z Z H.row (L.o (oZ (kf:=pV) (vf:=Value.bool) (v:=_) VF runUnderlying249 Z Z Z I (fun w7 ac ad=>?_)))))))
   have ae:c.ps.getD i (0,0)∉c.ps.take i:=by rw [x,decide_eq_false_iff_not] at hb;exact hb
   have J:c.ps.take (i+1)=c.ps.take i ++ [c.ps.getD i (0,0)]:=by rw [aX e,List.take_succ_eq_append_getElem e]
   refine ak (T.blk (aA (bF Z Z (L.m Z (ak (aP (i+1) omX ⟨rfl,rfl,rfl,rfl,rfl,trivial⟩ ⟨e,(k.trans Ap).upd ac (.inr omX),⟨_,ad,by rw [J];exact x.put⟩,by rw [J];exact Gy y ae⟩))))))
  refine aW (aQ Z (L.a Z (ah Z (cu results140 Z Z ⟨3,i,rfl,?_,xq.trans (k.trans Ap)⟩))))
  rw [cx3 (fun h=>VT (d:=(0,0)) id e (by rw [x,decide_eq_true_eq] at hb;rw [List.map_id];exact hb) (by rw [List.map_id];exact h))];rfl
 refine ak (?_)
 obtain rfl:i=c.ps.length:=by omega
 rw [List.take_length] at y
 refine aj (bn (aY Z (au (L.o (O.alloc zeroValue251 (fun A w8 aE aF af ag=>?_))))))
 refine L.o (bP sizeOf251 Z Z Z ag (by simp [Value.cells,ofT]) (fun w9 ai q=>?_))
 obtain ⟨tb,q⟩:∃ t,Blk w9 A [.func (.func 175) #[] #[]] t:=⟨_,q⟩
 have acs:Ext w4 w9:=af.upd ai (.inr omX)
 have B:=Blk.ext (cs:=c.cells) U acs
 have l:=z.ext acs
 have vF:=xq.trans (k.trans acs)
 refine ak (aj (au (aC Z (B.cell Z) (L.o (eG (fi:=[]) (ca:=[.tmp 9,.tmp 1]) Z Z (L.o (ay (xs:=[.tmp 57,.tmp 58]) call177 Z Z (uM lo c.fv c.fs 178 #[.pointer (some ⟨A,0,none⟩),.pointer (some ⟨b1,0,none⟩)] (jw c.ps.length) w9 l.sl l.fs call178 (fun f W b hW ↦ O5 lo A b1 tb c f W (Blk.ext (cs:=[.func (.func 175) #[] #[]]) q hW) (Blk.ext (cs:=c.cells) B hW) ⟨lo,l.p.ext hW⟩ ((l.fs f b).ext hW))) (fun aH al n=>?_))))))))
 obtain ⟨r2,rfl,K,jf⟩:=n
 refine ah Z (au (aO Z (fJ Z Z (fun aoV=>?_) (fun aoV=>?_))))
 ·refine aW (aQ Z (L.a Z (ah Z (cu results140 Z Z ⟨4,r2,rfl,by rw [cx4 (ahk K omX)];rfl,vF.trans jf⟩))))
 refine ak (?_)
 have C:=ahl K omX
 have aiQ:=Blk.ext (cs:=c.cells) B jf
 have afd:=l.ext jf
 have M:=Blk.ext (cs:=[.func (.func 175) #[] #[]]) q jf
 refine bn (T.skip (aj (au (aC Z (aiQ.cell Z) (L.o (eG (fi:=[]) (ca:=[.tmp 9,.tmp 1]) Z Z (L.o (ay (xs:=[.tmp 64,.tmp 65]) call177 Z Z (uM lo c.fv c.fs 182 #[.pointer (some ⟨A,0,none⟩),.pointer (some ⟨b1,0,none⟩)] (fun f ↦ BL f.ri (badR c.ps)) al afd.sl afd.fs call182 (fun f W b hW ↦ O6 lo lo A b1 tb c f W (Blk.ext (cs:=[.func (.func 175) #[] #[]]) M hW) (Blk.ext (cs:=c.cells) aiQ hW) (afd.p.ext hW) ((afd.fs f b).ext hW) (by have:=(yg (rY C f b)).1;omega) hf (yg (rY C f b)).2)) (fun aL am n=>?_)))))))))
 obtain ⟨r3,rfl,N,iK⟩:=n
 refine ah Z (au (aO Z (fJ Z Z (fun aoW=>?_) (fun aoW=>?_))))
 ·refine aW (aQ Z (L.a Z (ah Z (cu results140 Z Z ⟨5,r3,rfl,by rw [cx5 (ahk N omX)];rfl,vF.trans (jf.trans iK)⟩))))
 refine ak (?_)
 have h5:=ahl N omX
 have aiR:=Blk.ext (cs:=c.cells) aiQ iK
 have ace:=afd.ext iK
 have adW:=Blk.ext (cs:=[.func (.func 175) #[] #[]]) M iK
 refine bn (T.skip (aj (au (aC Z (aiR.cell Z) (L.o (eG (fi:=[]) (ca:=[.tmp 9,.tmp 1]) Z Z (L.o (ay (xs:=[.tmp 71,.tmp 72]) call177 Z Z (uM lo c.fv c.fs 186 #[.pointer (some ⟨A,0,none⟩),.pointer (some ⟨b1,0,none⟩)] (fun f ↦ BL f.ri (qy c.ps)) am ace.sl ace.fs call186 (fun f W b hW ↦ O7 lo lo A b1 tb c f W (Blk.ext (cs:=[.func (.func 175) #[] #[]]) adW hW) (Blk.ext (cs:=c.cells) aiR hW) (ace.p.ext hW) ((ace.fs f b).ext hW) (by have:=(yg (rY C f b)).1;omega) hf (yg (rY C f b)).2)) (fun aM an n=>?_)))))))))
 obtain ⟨r4,rfl,P,jD⟩:=n
 refine ah Z (au (aO Z (fJ Z Z (fun aoX=>?_) (fun aoX=>?_))))
 ·refine aW (aQ Z (L.a Z (ah Z (cu results140 Z Z ⟨6,r4,rfl,by rw [cx6 (ahk P omX)];rfl,vF.trans (jf.trans (iK.trans jD))⟩))))
 refine ak (?_)
 have h6:=ahl P omX
 have hg:=aco C h5
 refine bn (T.skip (au (aT Z Z ((Blk.ext (cs:=c.cells) aiR jD).row) (L.o (ay (xs:=[.tmp 77]) call189 Z Z (O9 lo c an (ace.ext jD) hf (afc hg) (aiO hg) (acp omX hg)) (fun aR aS n=>?_))))))
 obtain ⟨kd,a,rfl,ao,iH⟩:=n
 refine bK Z Z (bK Z Z (L.a Z (ah Z (cu results140 Z Z ⟨kd,a,rfl,by rw [cx7 D F y C h5 h6];exact ao,vF.trans (jf.trans (iK.trans (jD.trans iH)))⟩))))
theorem Pg (lo:Nat) (c:CxV) (w:World) (f:c.ok lo w) :
  Calls Tryz.prog 82 #[c.val] w (Ret fun v w'=>v = .int .i64 (if iq c then 150 else 0)∧Ext w w'):=by
 refine aJ (vs:=[c.val]) func82 Z ntmps82 Z ?_
 refine au (bM Z (fun b1 w1 g h b hB1=>?_))
 have hC:Blk w1 b1 c.cells 46:=hB1
 refine ah Z (aj (au (aT Z Z hC.row (L.o (ay (xs:=[.tmp 6]) call140 Z Z (TS lo c w1 (f.ext b)) (fun v2 j i=>?_))))))
 obtain ⟨k,a,rfl,e,d⟩:=i
 refine L.m Z (bK Z Z (bK Z Z (L.a Z (ah Z (aQ Z (dY Z Z (fun h0=>?_) (fun h0=>?_)))))))
 ·refine aW (au (ah Z (aB results82 Z ⟨by rw [← e,decide_eq_true h0];rfl,b.trans d⟩)))
 refine aU (T.skip (au (ah Z (aB results82 Z ⟨by rw [← e,decide_eq_false h0];rfl,b.trans d⟩))))
end Go.Proofs.YtnlonpcbgjbbaaaGreatDoor
