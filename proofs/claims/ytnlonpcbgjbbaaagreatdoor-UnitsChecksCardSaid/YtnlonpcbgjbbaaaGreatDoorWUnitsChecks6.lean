/-
  UnitsChecks, part 6 of its proof: that it returns true for every input, and each argument reads behind the call as it read before. Conditions: the listed variables read as the program's text lays them (tied by the card).
-/
import Derived.Test.YtnlonpcbgjbbaaaGreatDoorWUnitsChecks5
set_option linter.unusedVariables false
set_option linter.unusedSimpArgs false
set_option maxRecDepth 20000
set_option linter.unusedVariables false
set_option linter.unusedSimpArgs false
set_option maxRecDepth 20000
namespace Go.Proofs.YtnlonpcbgjbbaaaGreatDoor
open Go.Proofs.Tryz (call133 call134 call31 func133 func77 isAgg23 isAgg25 isAgg3 isAgg30 isAgg4 isAgg5 isAgg51 isAgg9 ntmps133 ntmps77 results133 results77 runUnderlying23 runUnderlying25 runUnderlying3 runUnderlying30 runUnderlying5 runUnderlying51 runUnderlying54 runUnderlying76 runUnderlying9 sizeOf23 sizeOf25 sizeOf3 sizeOf30 sizeOf4 sizeOf5 sizeOf51 sizeOf9 zeroValue25 zeroValue3 zeroValue51)
open Go Go.E
attribute [local irreducible] Go.E.T Go.E.L Go.E.O Go.E.Ob

theorem O.add8 {C:Cx} {e:Env} {w:World} {K:Value→World→Prop} {d:Option Tmp} {ty:TypeId} {pos:String} {aft:Array Edge} {g:Option (Nat × Bool)} {x y:Operand} {tx ty':TypeId} {m n:Int} (hx:ev e x=some (.int .u8 m)) (hy:ev e y=some (.int .u8 n)) (hb:0≤m+n∧m+n≤255) (h:K (.int .u8 (m+n)) w):O C e ⟨d,.binOp .add tx x y ty',ty,pos,aft,g⟩ w K :=
 O.add hx hy (by rw [IntWalk.u8_in _ hb];exact h)
theorem ucells_cons (u:UnV) (r:List UnV):ucells (u::r)=u.cells++ucells r:=by simp [ucells]
theorem ucells_set:∀ (us:List UnV) (k j:Nat) (c:Value) (u':UnV),k<us.length→j<6→u'.cells=(us.getD k u0).cells.set j c→(ucells us).set (k*6+j) c=ucells (us.set k u')
 | [],k,_,_,_,h,_,_=>by simp at h
 | u::r,0,j,c,u',_,hj,hc=>by
  have hc':u'.cells=u.cells.set j c:=hc
  rw [List.set_cons_zero,ucells_cons,ucells_cons,hc',Nat.zero_mul,Nat.zero_add,List.set_append_left _ _ (by rw [u.cells_len];exact hj)]
 | u::r,k+1,j,c,u',h,hj,hc=>by
  have ih:=ucells_set r k j c u' (by simpa using h) hj (by simpa using hc)
  rw [List.set_cons_succ,ucells_cons,ucells_cons,← ih,List.set_append_right _ _ (by rw [u.cells_len];omega),u.cells_len,show (k+1)*6+j-6=k*6+j by omega]
theorem ucells_get:∀ (us:List UnV) (k j:Nat),k<us.length→j<6→(ucells us)[k*6+j]?=(us.getD k u0).cells[j]?
 | [],k,_,h,_=>by simp at h
 | u::r,0,j,_,hj=>by
  rw [ucells_cons,Nat.zero_mul,Nat.zero_add,List.getElem?_append_left (by rw [u.cells_len];exact hj)];rfl
 | u::r,k+1,j,h,hj=>by
  rw [ucells_cons,List.getElem?_append_right (by rw [u.cells_len];omega),u.cells_len,show (k+1)*6+j-6=k*6+j by omega,ucells_get r k j (by simpa using h) hj]
  simp
theorem lsOf_split {us:List UnV} {k:Nat} (h:k<us.length):lsOf us=lsOf (us.take k)++((us.getD k u0).ls++lsOf (us.drop (k+1))):=by
 have e:us=us.take k++([us.getD k u0]++us.drop (k+1)):=by
  rw [getD_get h,List.singleton_append,List.getElem_cons_drop h,List.take_append_drop]
 conv=>lhs;rw [e]
 rw [lsOf_append,lsOf_append,lsOf_one]
theorem lsOf_set {us:List UnV} {k:Nat} {u':UnV} (h:k<us.length):lsOf (us.set k u')=lsOf (us.take k)++(u'.ls++lsOf (us.drop (k+1))):=by
 rw [List.set_eq_take_append_cons_drop,if_pos h,lsOf_append,show u'::us.drop (k+1) = [u']++us.drop (k+1) from rfl,lsOf_append,lsOf_one]
theorem lsOf_set_same {us:List UnV} {k:Nat} {u':UnV} (h:k<us.length) (hl:u'.ls=(us.getD k u0).ls):lsOf (us.set k u')=lsOf us:=by rw [lsOf_set h,lsOf_split h,hl]
theorem OwnX.ne_unit {base n b:Nat} {q:Value} {w:World} {cur:List Value} (h:OwnX base n q w) (hB:Blk w b cur 51):q.ownBlock≠some b:=fun hb=>by
 obtain ⟨_,cs,_,_,hB2,_⟩:=h.blk hb
 have:=hB2.symm.trans hB
 simp at this
def bcells (W A T N:Int) (nm:Str):List Value:=[.int .u8 W,.int .u8 A,.int .u8 T,.int .i64 N,str nm]
def zroll:List Value:=[.int .i64 0,.int .i64 0,.int .i64 0,.slice none 0 0]
def IntBox (lo:Nat) (x:Int) (v:Value) (w:World):Prop:=∃ b,v = .pointer (some ⟨b,0,none⟩)∧lo≤b∧Blk w b [.int .i64 x] 3
theorem IntBox.st {lo:Nat} {x:Int} : ∀ v w w',Ext w w'→IntBox lo x v w→IntBox lo x v w':=fun _ _ _ he ⟨b,h1,h2,h3⟩=>⟨b,h1,h2,h3.ext he⟩
theorem set_take6 {cur:List Value} {us:List UnV} {k j:Nat} {c:Value} {u':UnV} (ht:cur.take (us.length*6)=ucells us) (hk:k<us.length) (hj:j<6) (hc:u'.cells=(us.getD k u0).cells.set j c):(cur.set (k*6+j) c).take ((us.set k u').length*6)=ucells (us.set k u'):=by
 rw [List.length_set,List.take_set,ht,ucells_set us k j c u' hk hj hc]
/-- What holds when the change of a roll begins. -/
structure OfS (base b b3 b4 b7 cap:Nat) (cur:List Value) (T G P L:Int) (us:List UnV) (w W:World):Prop where
 ext:Ext w W
 hz:w.heap.size≤base
 l3:b3<base
 l4:b4<base
 n34:b3≠b4
 o3:w.heap.size≤b3
 hb:base≤b
 c3:Blk W b3 [.int .i64 G,.int .i64 P,.int .i64 L,.slice (some ⟨b,0,none⟩) us.length cap] 25
 c4:Blk W b4 zroll 25
 c7:Blk W b7 [.int .i64 T] 3
 c:Blk W b cur 51
 sk:Sk base 15 W (.slice (some ⟨b,0,none⟩) us.length cap) us
 nc:us.length≤cap
 cm:cap≤maxLen
 cl:cur.length=cap*6
 ct:cur.take (us.length*6)=ucells us
 l66:us.length≤66
/-- What holds when it ends. -/
def OfI (base b3 b4:Nat) (w W:World):Prop:=Ext w W∧Blk W b4 zroll 25∧∃ G P L uv us,Blk W b3 [.int .i64 G,.int .i64 P,.int .i64 L,uv] 25∧Sk base 16 W uv us∧us.length≤67
section
variable {base b b3 b4 b7 cap:Nat} {cur:List Value} {T G P L:Int} {us:List UnV} {w W:World}
theorem OfS.cell {k j:Nat} {c:Value} {u':UnV} {W':World} (h:OfS base b b3 b4 b7 cap cur T G P L us w W) (hu:Upd b W W') (hB:Blk W' b (cur.set (k*6+j) c) 51) (hk:k<us.length) (hj:j<6) (hc:u'.cells=(us.getD k u0).cells.set j c) (hl:u'.ls=(us.getD k u0).ls) (hn:u'.nm.length≤9223372036854775807):OfI base b3 b4 w W':=by
 have h1:=h.l3;have h2:=h.l4;have h3:=h.hb
 refine ⟨h.ext.upd hu (.inr (by have:=h.hz;omega)),h.c4.upd hu (by omega),G,P,L,_,us.set k u',h.c3.upd hu (by omega),⟨?_,?_,?_⟩,by rw [List.length_set];have:=h.l66;omega⟩
 ·have:=row_of (us:=us.set k u') h.hb hB (cap:=cap) (by rw [List.length_set];exact h.nc) h.cm (by rw [List.length_set];exact h.cl) (set_take6 h.ct hk hj hc)
  rwa [List.length_set] at this ⊢
 ·rw [lsOf_set_same hk hl]
  exact (h.sk.ls.mono (Nat.le_refl _) (by decide)).loc (r:=.slice (some ⟨b,0,none⟩) 0 0) (Loc.of_upd hu rfl) (fun q hq b' hb' e=>(h.sk.ls.all q hq).ne_unit h.c (hb'.trans e.symm |>.trans rfl))
 ·intro u hu'
  rcases List.mem_or_eq_of_mem_set hu' with h1|rfl
  ·exact h.sk.nm u h1
  ·exact hn
theorem OfS.roll {G' P' L':Int} {W':World} (h:OfS base b b3 b4 b7 cap cur T G P L us w W) (hu:Upd b3 W W') (hB:Blk W' b3 [.int .i64 G',.int .i64 P',.int .i64 L',.slice (some ⟨b,0,none⟩) us.length cap] 25):OfI base b3 b4 w W':=by
 have h1:=h.l3;have h2:=h.l4;have h3:=h.hb
 refine ⟨h.ext.upd hu (.inr h.o3),h.c4.upd hu (Ne.symm h.n34),G',P',L',_,us,hB,⟨owns_upd h.sk.row hu h1,?_,h.sk.nm⟩,by have:=h.l66;omega⟩
 exact (h.sk.ls.mono (Nat.le_refl _) (by decide)).loc (r:=.slice (some ⟨b3,0,none⟩) 0 0) (Loc.of_upd hu rfl) (fun q hq b' hb' e=>by have e':b3=b':=Option.some.inj e;have:=((h.sk.ls.all q hq).lt hb').1;omega)
/-- One list turned in its own block. -/
theorem OfS.list {q:Value} {A B:List Value} {W':World} (h:OfS base b b3 b4 b7 cap cur T G P L us w W) (hu:Loc q W W') (hs:lsOf us=A++q::B) (hq:OwnX base 16 q W'):OfI base b3 b4 w W':=by
 have h1:=h.l3;have h2:=h.l4;have h3:=h.hb
 have hqm:q∈lsOf us:=by rw [hs];simp
 have hq0:=h.sk.ls.all q hqm
 refine ⟨hu.keep h.ext (fun b' hb'=>by have:=(hq0.lt hb').1;have:=h.hz;omega),hu.blk h.c4 (fun e=>by have:=(hq0.lt e).1;omega),G,P,L,_,us,hu.blk h.c3 (fun e=>by have:=(hq0.lt e).1;omega),⟨owns_loc h.sk.row hu (fun b' hb' e=>h.sk.out q hqm b' e hb'),?_,h.sk.nm⟩,by have:=h.l66;omega⟩
 have:=h.sk.ls
 rw [hs] at this ⊢
 exact this.replace hu (by decide) hq (fun _ h=>.inl h)
/-- A list changed, and put into its unit. -/
theorem OfS.swap {q q':Value} {A B:List Value} {k j:Nat} {u':UnV} {W1 W':World} (h:OfS base b b3 b4 b7 cap cur T G P L us w W) (hu:Loc q W W1) (hs:lsOf us=A++q::B) (hs':lsOf (us.set k u')=A++q'::B) (hq:OwnX base 16 q' W1) (hf:∀ b,q'.ownBlock=some b→q.ownBlock=some b∨W.heap.size≤b)
  (hu2:Upd b W1 W') (hB:Blk W' b (cur.set (k*6+j) q') 51) (hk:k<us.length) (hj:j<6) (hc:u'.cells=(us.getD k u0).cells.set j q') (hn:u'.nm.length≤9223372036854775807):OfI base b3 b4 w W':=by
 have h1:=h.l3;have h2:=h.l4;have h3:=h.hb
 have hqm:q∈lsOf us:=by rw [hs];simp
 have hq0:=h.sk.ls.all q hqm
 have hc1:Blk W1 b cur 51:=hu.blk h.c (hq0.ne_unit h.c)
 have hL:LS base 16 W1 (A++q'::B):=by
  have:=h.sk.ls
  rw [hs] at this
  exact this.replace hu (by decide) hq hf
 refine ⟨(hu.keep h.ext (fun b' hb'=>by have:=(hq0.lt hb').1;have:=h.hz;omega)).upd hu2 (.inr (by have:=h.hz;omega)),(hu.blk h.c4 (fun e=>by have:=(hq0.lt e).1;omega)).upd hu2 (by omega),G,P,L,_,us.set k u',(hu.blk h.c3 (fun e=>by have:=(hq0.lt e).1;omega)).upd hu2 (by omega),⟨?_,?_,?_⟩,by rw [List.length_set];have:=h.l66;omega⟩
 ·have:=row_of (us:=us.set k u') h.hb hB (cap:=cap) (by rw [List.length_set];exact h.nc) h.cm (by rw [List.length_set];exact h.cl) (set_take6 h.ct hk hj hc)
  rwa [List.length_set] at this ⊢
 ·rw [hs']
  exact hL.loc (r:=.slice (some ⟨b,0,none⟩) 0 0) (Loc.of_upd hu2 rfl) (fun x hx b' hb' e=>(hL.all x hx).ne_unit hc1 (hb'.trans e.symm |>.trans rfl))
 ·intro u hu'
  rcases List.mem_or_eq_of_mem_set hu' with h1|rfl
  ·exact h.sk.nm u h1
  ·exact hn
end
theorem set_calls (base m b2 b7:Nat) (W A To N:Int) (nm:Str) (q:Value) (w:World) (hq:OwnX base m q w) (h2:Blk w b2 (bcells W A To N nm) 76) (h7:Blk w b7 [.int .i64 To] 3) (hT:0≤To) :
  Calls Tryz.prog 133 #[q,.pointer (some ⟨b2,0,none⟩),.pointer (some ⟨b7,0,none⟩)] w (Ret fun v w'=>v = .tuple #[]∧Loc q w w'∧OwnX base m q w'):=by
 obtain ⟨xs,hI⟩:=hq.ints
 refine T.enter (vs:=[q,.pointer (some ⟨b2,0,none⟩),.pointer (some ⟨b7,0,none⟩)]) func133 rfl ntmps133 rfl ?_
 refine T.q (L.m rfl (L.o (O.len runUnderlying30 rfl (Sl.val hI) (L.o (O.gtr_s rfl rfl (fun h0=>?_) (fun h0=>?_))))))
 ·refine L.nil (?_)
  have hpos:0<xs.length:=by omega
  obtain ⟨b,hqb⟩:∃ b,q.ownBlock=some b:=by
   obtain ⟨cap,e,_⟩:=Sl.there hI hpos
   exact ⟨_,by rw [e];rfl⟩
  obtain ⟨xs2,cs,cap,_,hB,hqe,hlc,hI2⟩:=hq.blk hqb
  have hlx:xs.length=xs2.length:=by
   obtain ⟨_,_,e,_⟩:=Sl.val hI
   rw [hqe] at e
   simp only [Value.slice.injEq] at e;exact e.2.1.symm
  obtain ⟨k,hk⟩:∃ k:Nat,To % (xs.length:Int)=k:=⟨(To % (xs.length:Int)).toNat,by have:=Int.emod_nonneg To (show (xs.length:Int)≠0 by omega);omega⟩
  have hk2:k<xs.length:=by have:=Int.emod_lt_of_pos To (show (0:Int)<xs.length by omega);omega
  refine T.ct (?_)
  refine T.anyE mixed 7 [0,2,1] rfl [.is _,.is _,.is _,.is _,.is (.int .i64 (k:Nat)),.is _,.is _] [[],[],[],[2],[1,3],[],[5]] [[],[],[],[2],[1,2,3],[],[5],[0,1,2,3,4,5,6],[0,1,2,3,4,5,6,7]] (by kernel_rfl) (by kernel_rfl) rfl (by kernel_rfl) trivial ⟨fun wx hx=>Ob.o (O.move rfl kR),
    fun wx hx=>Ob.o (O.load isAgg3 rfl ((h7.ext hx).cell rfl) kR),
    fun wx hx=>Ob.o (O.move rfl kR),
    fun wx hx=>Ob.o (O.len runUnderlying30 rfl (Sl.val (Ints.ext hI hx)) kR),
    fun wx hx=>Ob.o (O.rem rfl rfl (by omega) (by omega) ⟨Keep.refl _ _,by rw [hk];rfl⟩),
    fun wx hx=>Ob.o (O.fieldAddr runUnderlying76 rfl sizeOf3 rfl kR),
    fun wx hx=>Ob.o (O.load isAgg3 rfl ((h2.ext hx).cell rfl) kR),
    trivial⟩ (fun w3 he3=>?_)
  subst hqe
  refine L.o (O.indexAddr runUnderlying30 sizeOf3 rfl rfl (Ints.ext hI he3) (by omega) (by omega) (L.o (O.store1_at sizeOf3 rfl rfl rfl (hB.ext he3) (by show 0+(k:Int).toNat*1<_;omega) (fun w4 hu4 hB4=>?_))))
  refine L.nil (T.end0 results133 ⟨rfl,(Loc.of_ext he3).trans (Loc.of_upd hu4 rfl),OwnX.set (OwnX.st _ _ _ he3 hq) rfl (hB.ext he3) hB4⟩)
 ·refine L.nil (T.cf (T.skip (T.end0 results133 ⟨rfl,Loc.of_ext (Keep.refl _ _),hq⟩)))

open Go Go.E

attribute [local irreducible] Go.E.ObX Go.E.ObK
theorem cellB {w:World} {b k j:Nat} {cur:List Value} {c:Value} {t:TypeId} (h:Blk w b (cur.set (0+((k:Int).toNat*6+j)) c) t):Blk w b (cur.set (k*6+j) c) t:=by
 rw [show 0+((k:Int).toNat*6+j)=k*6+j by omega] at h;exact h
section
variable {base b b3 b4 b7 cap:Nat} {cur:List Value} {T G P L:Int} {us:List UnV} {w W:World}
theorem OfS.at (h:OfS base b b3 b4 b7 cap cur T G P L us w W) {W':World} (hB:Blk W' b cur 51) {k j:Nat} {c:Value} (hk:k<us.length) (hc:(us.getD k u0).cells[j]?=some c) (hj:j<6:=by decide):W'.cell? (((sAddr (.slice (some ⟨b,0,none⟩) us.length cap)).add ((k:Int).toNat*6)).add j)=some c:=by
 refine Blk.at2 hB ?_
 rw [show 0+((k:Int).toNat*6+j)=k*6+j by omega]
 have e:=ucells_get us k j hk hj
 rw [← h.ct] at e
 rw [List.getElem?_take_of_lt (by omega)] at e
 rw [e,hc]
theorem OfS.mem (h:OfS base b b3 b4 b7 cap cur T G P L us w W) {k:Nat} (hk:k<us.length):∀ q∈(us.getD k u0).ls,OwnX base 15 q W:=fun q hq=>h.sk.ls.all q (by rw [lsOf_split hk];exact List.mem_append_right _ (List.mem_append_left _ hq))
theorem OfS.nm (h:OfS base b b3 b4 b7 cap cur T G P L us w W) {k:Nat} (hk:k<us.length):(us.getD k u0).nm.length≤9223372036854775807:=h.sk.nm _ (by rw [getD_get hk];exact List.getElem_mem hk)
theorem OfS.fit (h:OfS base b b3 b4 b7 cap cur T G P L us w W) {k j:Nat} (hk:k<us.length) (hj:j<6):0+((k:Int).toNat*6+j)<cur.length:=by
 have:=h.cl;have:=h.nc;omega
theorem OfS.keep (h:OfS base b b3 b4 b7 cap cur T G P L us w W) {W':World} (he:Ext W W'):OfS base b b3 b4 b7 cap cur T G P L us w W' :=
 ⟨h.ext.trans he,h.hz,h.l3,h.l4,h.n34,h.o3,h.hb,h.c3.ext he,h.c4.ext he,h.c7.ext he,h.c.ext he,h.sk.ext he,h.nc,h.cm,h.cl,h.ct,h.l66⟩
theorem split_g (us:List UnV) {k:Nat} (h:k<us.length):lsOf us=lsOf (us.take k)++(us.getD k u0).gv::([(us.getD k u0).vv,(us.getD k u0).pv]++lsOf (us.drop (k+1))):=by rw [lsOf_split h];rfl
theorem split_v (us:List UnV) {k:Nat} (h:k<us.length):lsOf us=(lsOf (us.take k) ++ [(us.getD k u0).gv])++(us.getD k u0).vv::([(us.getD k u0).pv]++lsOf (us.drop (k+1))):=by rw [lsOf_split h];simp [UnV.ls]
theorem split_p (us:List UnV) {k:Nat} (h:k<us.length):lsOf us=(lsOf (us.take k) ++ [(us.getD k u0).gv,(us.getD k u0).vv])++(us.getD k u0).pv::lsOf (us.drop (k+1)):=by rw [lsOf_split h];simp [UnV.ls]
end
theorem Sk.ofI {base b3 b4:Nat} {w W:World} {G P L:Int} {uv:Value} {us:List UnV} (he:Ext w W) (h4:Blk W b4 zroll 25) (h3:Blk W b3 [.int .i64 G,.int .i64 P,.int .i64 L,uv] 25) (hs:Sk base 16 W uv us) (hl:us.length≤67):OfI base b3 b4 w W:=⟨he,h4,G,P,L,uv,us,h3,hs,hl⟩
/-- A roll that is a copy. -/
def CpV (lo n:Nat) (v:Value) (w:World):Prop:=∃ r:RoV,v=r.val∧Sk lo 15 w r.uv r.us∧r.us.length=n
theorem CpV.st {lo n:Nat} : ∀ v w w',Ext w w'→CpV lo n v w→CpV lo n v w':=fun _ _ _ he ⟨r,h1,h2,h3⟩=>⟨r,h1,h2.ext he,h3⟩
def CpU (lo n:Nat) (v:Value) (w:World):Prop:=∃ us,Sk lo 15 w v us∧us.length=n
theorem CpU.st {lo n:Nat} : ∀ v w w',Ext w w'→CpU lo n v w→CpU lo n v w':=fun _ _ _ he ⟨us,h1,h2⟩=>⟨us,h1.ext he,h2⟩
def CpOne (lo:Nat) (u:UnV) (w:World):Prop:=LS lo 15 w u.ls∧u.nm.length≤9223372036854775807
theorem CpOne.one {lo:Nat} {u:UnV} {w:World} (h:CpOne lo u w):∀ c∈u.cells,c.oneCell'=true:=by
 obtain ⟨u',h1,h2⟩:=unit_fill (u:=u) h.1.all h.2
 rw [← h1];exact h2.one
def CpP (lo:Nat) (v:Value) (w:World):Prop:=∃ (a:Addr) (u:UnV),v = .pointer (some a)∧Row w a u.cells∧CpOne lo u w
theorem CpP.st {lo:Nat} : ∀ v w w',Ext w w'→CpP lo v w→CpP lo v w':=fun _ _ _ he ⟨a,u,h1,h2,h3,h4⟩=>⟨a,u,h1,h2.keep he (Nat.zero_le _),h3.ext he,h4⟩
def CpX (lo:Nat) (v:Value) (w:World):Prop:=∃ u:UnV,v=u.val∧CpOne lo u w
theorem CpX.st {lo:Nat} : ∀ v w w',Ext w w'→CpX lo v w→CpX lo v w':=fun _ _ _ he ⟨u,h1,h3,h4⟩=>⟨u,h1,h3.ext he,h4⟩
def CpL (lo:Nat) (v:Value) (w:World):Prop:=∃ (b:Nat) (u:UnV),v = .slice (some ⟨b,0,none⟩) 1 1∧Blk w b u.cells 51∧CpOne lo u w
theorem CpL.st {lo:Nat} : ∀ v w w',Ext w w'→CpL lo v w→CpL lo v w':=fun _ _ _ he ⟨b,u,h1,h2,h3,h4⟩=>⟨b,u,h1,h2.ext he,h3.ext he,h4⟩
theorem sk_elem {base n k:Nat} {w:World} {v:Value} {us:List UnV} (h:Sk base n w v us) (hk:k<us.length):Row w ((sAddr v).add ((k:Int).toNat*6)) (us.getD k u0).cells∧LS base n w (us.getD k u0).ls∧(us.getD k u0).nm.length≤9223372036854775807:=by
 obtain ⟨us',h1,h2,h3⟩:=h.units
 have hr:=h3.row (i:=k) (by omega)
 have e:(us'.getD k u0).cells=(us.getD k u0).cells:=by
  rw [getD_get (by omega),getD_get hk]
  have:=congrArg (fun l=>l[k]?) h2
  simpa [List.getElem?_map,List.getElem?_eq_getElem hk,List.getElem?_eq_getElem (show k<us'.length by omega)] using this
 rw [e] at hr
 refine ⟨hr,h.ls.sub ?_,h.nm _ (by rw [getD_get hk];exact List.getElem_mem hk)⟩
 rw [lsOf_split hk]
 exact (List.sublist_append_left _ _).trans (List.sublist_append_right _ _)
/-- A unit more, whose lists are new. -/
theorem Sk.snoc {base n m:Nat} {w w':World} {v v':Value} {us:List UnV} {u:UnV} (h:Sk base n w v us) (hu:LS base n w u.ls) (hn:u.nm.length≤9223372036854775807) (hlt:∀ q∈lsOf us,∀ b,q.ownBlock=some b→b<m) (hge:∀ q∈u.ls,∀ b,q.ownBlock=some b→m≤b)
  (hO:w'.ownsRow base 51 6 v' (us.length+1) (ucells us++u.cells)) (hG:w.grownBy w' v.ownBlock):Sk base n w' v' (us ++ [u]):=by
 refine ⟨by rw [List.length_append,List.length_singleton,ucells_append,ucells_one];exact hO,?_,fun x hx=>?_⟩
 ·rw [lsOf_append,lsOf_one]
  have hall:LS base n w (lsOf us++u.ls):=h.ls.append hu (m:=m) hlt hge
  exact hall.loc (r:=v) (Loc.of_grown hG) (fun q hq b hb e=>by
   obtain ⟨_,cs,_,_,hB,_⟩:=(hall.all q hq).blk hb
   exact row_ne h.row e hB rfl)
 ·rcases List.mem_append.1 hx with hx|hx
  ·exact h.nm x hx
  ·rw [List.mem_singleton.1 hx];exact hn
/-- A cell of a unit set. -/
theorem Sk.setC {base n b cap k j:Nat} {c:Value} {cur:List Value} {us:List UnV} {u':UnV} {w w':World} (h:Sk base n w (.slice (some ⟨b,0,none⟩) us.length cap) us) (hb:base≤b) (hB:Blk w b cur 51) (hnc:us.length≤cap) (hcm:cap≤maxLen) (hcl:cur.length=cap*6) (hct:cur.take (us.length*6)=ucells us)
  (hu:Upd b w w') (hB':Blk w' b (cur.set (k*6+j) c) 51) (hk:k<us.length) (hj:j<6) (hc:u'.cells=(us.getD k u0).cells.set j c) (hl:u'.ls=(us.getD k u0).ls) (hn:u'.nm.length≤9223372036854775807):Sk base n w' (.slice (some ⟨b,0,none⟩) us.length cap) (us.set k u'):=by
 refine ⟨?_,?_,?_⟩
 ·have:=row_of (us:=us.set k u') hb hB' (cap:=cap) (by rw [List.length_set];exact hnc) hcm (by rw [List.length_set];exact hcl) (set_take6 hct hk hj hc)
  rwa [List.length_set] at this ⊢
 ·rw [lsOf_set_same hk hl]
  exact h.ls.loc (r:=.slice (some ⟨b,0,none⟩) 0 0) (Loc.of_upd hu rfl) (fun q hq b' hb' e=>(h.ls.all q hq).ne_unit hB (hb'.trans e.symm |>.trans rfl))
 ·intro u hu'
  rcases List.mem_or_eq_of_mem_set hu' with h1|rfl
  ·exact h.nm u h1
  ·exact hn
/-- Two digits. -/
def dig2 (n:Nat):Str:=[UInt8.ofNat (48+n / 10),UInt8.ofNat (48+n % 10)]
theorem dig2_ints {n:Nat} (h:n<100):((dig2 n).map fun c=>(c.toNat:Int)) = [48+(n:Int) / 10,48+(n:Int) % 10]:=by
 simp only [dig2,List.map_cons,List.map_nil,List.cons.injEq,and_true]
 constructor <;> (rw [UInt8.toNat_ofNat_of_lt' (by show _<256;omega)];omega)
/-- The world behind a region that swaps. -/
def SwI (b:Nat) (cs:List Value) (w8:World):Nat→World→Prop
 | 0,W=>Ext w8 W
 | _,W=>∃ W1,Ext w8 W1∧∃ W2,Upd b W1 W2∧Blk W2 b cs 51∧Ext W2 W
theorem SwI.blk {b c k:Nat} {t:TypeId} {cs cs1:List Value} {w8 W:World} (h:SwI b cs1 w8 c W) (hk:k≠b) (hB:Blk w8 k cs t):Blk W k cs t:=by
 cases c with
 | zero=>exact Blk.ext hB h
 | succ c=>obtain ⟨W1,h1,W2,h2,_,h3⟩:=h;exact ((hB.ext h1).upd h2 hk).ext h3
theorem SwI.own {b c:Nat} {cur cs1:List Value} {w8 W:World} (h:SwI b cs1 w8 c W) (hB:Blk w8 b cur 51) (hl:cs1.length=cur.length):∃ cs,Blk W b cs 51∧cs.length=cur.length∧(W.heap[b]?=w8.heap[b]?→cs=cur):=by
 cases c with
 | zero=>exact ⟨cur,Blk.ext hB h,rfl,fun _=>rfl⟩
 | succ c =>
  obtain ⟨W1,h1,W2,h2,h4,h3⟩:=h
  refine ⟨cs1,h4.ext h3,hl,fun e=>?_⟩
  have e2:=(h4.ext h3).symm.trans (e.trans hB)
  simp only [Option.some.injEq,Obj.cells.injEq] at e2
  simpa using e2.1
def SwP (b:Nat) (w8:World) (x v:Value) (w:World):Prop:=w.heap[b]?=w8.heap[b]?→v=x
theorem SwI.unit {b c i cap:Nat} {cur cs1:List Value} {us:List UnV} {w8 W:World} (h:SwI b cs1 w8 c W) (hB:Blk w8 b cur 51) (hl:cs1.length=cur.length) (hcl:cur.length=cap*6) (hn:us.length≤cap) (hct:cur.take (us.length*6)=ucells us) (hi:i<us.length) :
  ∃ cs,Row W ((⟨b,0,none⟩:Addr).add ((i:Int).toNat*6)) cs∧cs.length=6∧(W.heap[b]?=w8.heap[b]?→cs=(us.getD i u0).cells):=by
 obtain ⟨cs,h1,h2,h3⟩:=h.own hB hl
 refine ⟨(cs.drop ((i:Int).toNat*6)).take 6,(Row.of_blk h1).part _ _,by rw [List.length_take,List.length_drop];omega,fun e=>?_⟩
 rw [h3 e,Int.toNat_natCast]
 have h4:(cur.drop (i*6)).take 6=((cur.take (us.length*6)).drop (i*6)).take 6:=by
  rw [List.drop_take,List.take_take,Nat.min_eq_left (by omega)]
 rw [h4,hct]
 have:=flat_part (us.map UnV.cells) i (us.getD i u0).cells (c:=6) (fun x hx=>by obtain ⟨u,_,rfl⟩:=List.mem_map.1 hx;rfl) (by simp [List.getD,hi])
 exact this
theorem O.storeAggAt {C:Cx} {e:Env} {w:World} {K:Value→World→Prop} {d:Option Tmp} {ty:TypeId} {pos:String} {aft:Array Edge} {g:Option (Nat × Bool)} {x y:Operand} {t:TypeId} {b j n:Nat} {cs vs:List Value} {tb:TypeId} (hs:∀ w,(sizeOf t).run C.P w = .ok n w) (hn:vs.length=n) (hx:ev e x=some (.pointer (some ((⟨b,0,none⟩:Addr).add j)))) (hy:ev e y=some (.agg vs.toArray)) (hb:Blk w b cs tb)
  (hfit:j+n≤cs.length) (h1:∀ u∈vs,u.oneCell'=true) (h:∀ w',Upd b w w'→Blk w' b (cs.take j++vs++cs.drop (j+n)) tb→K undef w'):O C e ⟨d,.store t x y,ty,pos,aft,g⟩ w K :=
 O.storeAgg (off:=0+j) hs hn (by rw [hx,add_at]) hy hb (by omega) h1 (by rw [Nat.zero_add];exact h)
theorem ucells_put:∀ (us:List UnV) (k:Nat) (u':UnV),k<us.length→(ucells us).take (k*6)++u'.cells++(ucells us).drop (k*6+6)=ucells (us.set k u')
 | [],k,_,h=>by simp at h
 | u::r,0,u',_=>by
  rw [Nat.zero_mul,List.take_zero,List.nil_append,Nat.zero_add,List.set_cons_zero,ucells_cons,ucells_cons,List.drop_append_of_le_length (by rw [u.cells_len];omega),List.drop_eq_nil_of_le (by rw [u.cells_len];omega),List.nil_append]
 | u::r,k+1,u',h=>by
  have ih:=ucells_put r k u' (by simpa using h)
  rw [List.set_cons_succ,ucells_cons,ucells_cons,← ih,show (k+1)*6=u.cells.length+k*6 by rw [u.cells_len];omega,List.take_length_add_append,show u.cells.length+k*6+6=u.cells.length+(k*6+6) by omega,List.drop_length_add_append]
  simp only [List.append_assoc]
theorem put_take {cur:List Value} {us:List UnV} {k cap:Nat} {u':UnV} (hcl:cur.length=cap*6) (hn:us.length≤cap) (ht:cur.take (us.length*6)=ucells us) (hk:k<us.length) :
  (cur.take (k*6)++u'.cells++cur.drop (k*6+6)).take ((us.set k u').length*6)=ucells (us.set k u')∧(cur.take (k*6)++u'.cells++cur.drop (k*6+6)).length=cap*6:=by
 have e:cur=ucells us++cur.drop (us.length*6):=by rw [← ht,List.take_append_drop]
 have hll:=ucells_len us
 have h1:cur.take (k*6)=(ucells us).take (k*6):=by rw [← ht,List.take_take,Nat.min_eq_left (by omega)]
 have h2:cur.drop (k*6+6)=(ucells us).drop (k*6+6)++cur.drop (us.length*6):=by
  conv=>lhs;rw [e]
  rw [List.drop_append_of_le_length (by omega)]
 constructor
 ·rw [h1,h2,← List.append_assoc,ucells_put us k u' hk]
  have:=ucells_len (us.set k u')
  rw [← this,List.take_left]
 ·simp only [List.length_append,List.length_take,List.length_drop,u'.cells_len];omega
theorem lsOf_perm {us vs:List UnV} (h:us.Perm vs):(lsOf us).Perm (lsOf vs):=h.flatMap_right _
theorem swap_perm {us:List UnV} {i j:Nat} (hi:i<us.length) (hj:j<us.length):((us.set i (us.getD j u0)).set j (us.getD i u0)).Perm us:=by
 rw [getD_get hi,getD_get hj];exact List.set_set_perm hi hj
open Go Go.E

theorem Of_calls (lo:Nat) (W A To N:Int) (nm:Str) (r:RoV) (w:World) (hr:r.ok lo w) (hW:Low8 W) (hA:Low8 A) (hT:Low8 To) (hnm:nm.length≤9223372036854775807) :
  Calls Tryz.prog 77 #[.agg (bcells W A To N nm).toArray,r.val] w (Ret fun v w'=>Ext w w'∧∃ r',v=RoV.val r'∧r'.ok w.heap.size w'∧r'.us.length≤67):=by
 refine T.enter (vs:=[.agg (bcells W A To N nm).toArray,r.val]) func77 rfl ntmps77 rfl ?_
 refine T.q (L.o (O.box rfl (fun b2 w2 hb2 hz2 he2 hB2=>?_)))
 refine L.o (O.box rfl (fun b3 w3 hb3 hz3 he3 hB3=>?_))
 refine L.o (O.alloc zeroValue25 (fun b4 w4 hb4 hz4 he4 hB4=>?_))
 unfold Low8 at hW hA hT
 have he04:=(he2.trans he3).trans he4
 have hN4:Blk w4 b2 (bcells W A To N nm) 76:=(Blk.ext (cs:=bcells W A To N nm) hB2 he3).ext he4
 have hC4:Blk w4 b3 r.cells 25:=Blk.ext (cs:=r.cells) hB3 he4
 have hR4:Blk w4 b4 zroll 25:=hB4
 have hb2:=hN4.lt
 have hb3:=hC4.lt
 have hb4:=hR4.lt
 refine L.nil (T.q (L.o (O.loadAgg isAgg25 sizeOf25 rfl rfl hC4.row (L.o (O.call (xs:=[.tmp 10]) call31 rfl rfl (copied_calls lo r w4 (hr.ext he04)) (fun v5 w5 hq=>?_))))))
 obtain ⟨he5,cv,us,rfl,hS5,hl5⟩:=hq
 have hC5:Blk w5 b3 [.int .i64 r.G,.int .i64 r.P,.int .i64 r.L,r.uv] 25:=hC4.ext he5
 have hcv1:cv.oneCell'=true:=Sl.one (Sl.of_owns hS5.row)
 refine L.o (O.storeAgg sizeOf25 rfl rfl rfl hC5 (Nat.le_refl _) (by intro u hu;simp [RoV.cells] at hu;rcases hu with (rfl|rfl|rfl|rfl);rfl;rfl;rfl;exact hcv1) (fun w6 hu6 hB6=>?_))
 have hC6:Blk w6 b3 [.int .i64 r.G,.int .i64 r.P,.int .i64 r.L,cv] 25:=hB6
 replace hu6:Upd b3 w5 w6:=hu6
 have he06:Ext w w6:=(he04.trans he5).upd hu6 (.inr (by omega))
 have hS6:Sk w4.heap.size 15 w6 cv us:=⟨owns_upd hS5.row hu6 hb3,hS5.ls.loc (r:=.slice (some ⟨b3,0,none⟩) 0 0) (Loc.of_upd hu6 rfl) (fun q hq b hb e=>by have e':b3=b:=Option.some.inj e;have:=((hS5.ls.all q hq).lt hb).1;omega),hS5.nm⟩
 have hR6:Blk w6 b4 zroll 25:=(hR4.ext he5).upd hu6 (by omega)
 have hN6:Blk w6 b2 (bcells W A To N nm) 76:=(hN4.ext he5).upd hu6 (by omega)
 have hz04:=he04.size
 have hz5:=he5.size
 have hz6:=hu6.size
 have hl66:us.length≤66:=by rw [hl5];exact Nat.min_le_right _ _
 refine L.nil (T.q (L.o (O.fieldAddr runUnderlying25 rfl sizeOf23 rfl (L.o (O.load isAgg23 rfl (hC6.cell rfl) (L.o (O.len runUnderlying23 rfl (Sl.val (Sl.of_owns hS6.row)) (L.a rfl (L.nil (T.seq (T.q (L.m rfl (L.o (O.eql_s rfl rfl (fun h0=>?_) (fun h0=>?_)))))))))))))))
 ·refine L.nil (T.ct (T.q (L.o (O.loadAgg isAgg25 sizeOf25 rfl rfl hC6.row (L.o (O.storeAgg sizeOf25 rfl rfl rfl hR6 (Nat.le_refl _) (by intro u hu;simp at hu;rcases hu with (rfl|rfl|rfl|rfl);rfl;rfl;rfl;exact hcv1) (fun w7 hu7 hB7=>?_)))))))
  have hR7:Blk w7 b4 [.int .i64 r.G,.int .i64 r.P,.int .i64 r.L,cv] 25:=hB7
  replace hu7:Upd b4 w6 w7:=hu7
  have hS7:Sk w4.heap.size 15 w7 cv us:=⟨owns_upd hS6.row hu7 hb4,hS6.ls.loc (r:=.slice (some ⟨b4,0,none⟩) 0 0) (Loc.of_upd hu7 rfl) (fun q hq b hb e=>by have e':b4=b:=Option.some.inj e;have:=((hS6.ls.all q hq).lt hb).1;omega),hS6.nm⟩
  obtain ⟨us',k1,_,k3⟩:=hS7.units
  refine L.nil (T.retA results77 isAgg25 sizeOf25 rfl rfl hR7.row ⟨he06.upd hu7 (.inr (by omega)),⟨r.G,r.P,r.L,cv,us'⟩,rfl,Units.mono k3 hz04,by show us'.length≤67;omega⟩)
 ·refine L.nil (?_)
  have hpos:0<us.length:=by omega
  obtain ⟨b,cap,cur,rfl,hb,hB,hnc,hcm,hcl,hct⟩:=hS6.blk (by intro h;rw [h] at hpos;simp at hpos)
  obtain ⟨k,hk⟩:∃ k:Nat,A % (us.length:Int)=k:=⟨(A % (us.length:Int)).toNat,by have:=Int.emod_nonneg A (show (us.length:Int)≠0 by omega);omega⟩
  have hk2:k<us.length:=by have:=Int.emod_lt_of_pos A (show (0:Int)<us.length by omega);omega
  refine T.cf (T.skip (T.seq (?_)))
  refine T.anyE mixed 13 [3,2,5] rfl [.is _,.is _,.is _,.is _,.is _,.is _,.is (.int .i64 (k:Nat)),.is _,.is _,.is _,.is _,.such (IntBox w6.heap.size 0),.is _] [[],[0],[],[2],[3],[],[4,5],[1,6],[],[8],[9],[],[7]] [[],[0],[],[2],[2,3],[],[2,3,4,5],[0,1,2,3,4,5,6],[],[8],[8,9],[],[0,1,2,3,4,5,6,7,11],[0,1,2,3,4,5,6,7,8,9,10,11,12]] (by kernel_rfl) (by kernel_rfl) rfl (by kernel_rfl) ⟨IntBox.st,trivial⟩ ⟨fun wx hx=>Ob.o (O.fieldAddr runUnderlying25 rfl sizeOf23 rfl kR),
    fun wx hx=>Ob.o (O.load isAgg23 rfl ((hC6.ext hx).cell rfl) kR),
    fun wx hx=>Ob.o (O.fieldAddr runUnderlying76 rfl sizeOf5 rfl kR),
    fun wx hx=>Ob.o (O.load isAgg5 rfl ((hN6.ext hx).cell rfl) kR),
    fun wx hx=>Ob.o (O.conv_to rfl (fun w=>⟨_,runUnderlying5 w⟩) runUnderlying3 (IntWalk.i64_in _ ⟨by omega,by omega⟩) kR),
    fun wx hx=>Ob.o (O.move rfl kR),
    fun wx hx=>Ob.o (O.rem rfl rfl (by omega) (by omega) ⟨Keep.refl _ _,by rw [hk];rfl⟩),
    fun wx hx=>Ob.o (O.indexAddr runUnderlying23 sizeOf51 rfl rfl (Sl.of_owns hS6.row) (by omega) (by omega) kR),
    fun wx hx=>Ob.o (O.fieldAddr runUnderlying76 rfl sizeOf5 rfl kR),
    fun wx hx=>Ob.o (O.load isAgg5 rfl ((hN6.ext hx).cell rfl) kR),
    fun wx hx=>Ob.o (O.conv_to rfl (fun w=>⟨_,runUnderlying5 w⟩) runUnderlying3 (IntWalk.i64_in _ ⟨by omega,by omega⟩) kR),
    fun wx hx=>Ob.o (O.alloc zeroValue3 (fun b wy hb hz he hB=>⟨he,b,rfl,by have:=hx.size;omega,hB⟩)),
    fun wx hx=>Ob.o (O.assign rfl kR),
    trivial⟩ (fun w7 he7 v7 hv7=>?_)
  obtain ⟨b7,rfl,hb7,hB7⟩:=hv7
  refine L.o (O.store1 sizeOf3 rfl rfl rfl hB7 (by simp [Value.cells]) (fun w8 hu8 hB8=>?_))
  replace hu8:Upd b7 w7 w8:=hu8
  have hz7:=he7.size
  have hz8:=hu8.size
  have hbl:=hB.lt
  have hl8:Loc (.slice (some ⟨b7,0,none⟩) 0 0) w7 w8:=Loc.of_upd hu8 rfl
  have hS8:OfS w4.heap.size b b3 b4 b7 cap cur To r.G r.P r.L us w w8:=⟨(he06.trans he7).upd hu8 (.inr (by omega)),hz04,hb3,hb4,by omega,by omega,hb,(hC6.ext he7).upd hu8 (by omega),(hR6.ext he7).upd hu8 (by omega),hB8,(hB.ext he7).upd hu8 (by omega),⟨owns_loc (hS6.ext he7).row hl8 (fun b' h1 h2=>by have e1:b=b':=Option.some.inj h1;have e2:b7=b':=Option.some.inj h2;omega),(hS6.ext he7).ls.loc hl8 (fun q hq b' h1 h2=>by have e2:b7=b':=Option.some.inj h2;have:=((hS6.ls.all q hq).lt h1).2;omega),hS6.nm⟩,hnc,hcm,hcl,hct,hl66⟩
  have hN8:Blk w8 b2 (bcells W A To N nm) 76:=(hN6.ext he7).upd hu8 (by omega)
  refine L.nil (T.q (L.o (O.makeFunc (fi:=[]) (ca:=[.tmp 2,.tmp 7]) rfl rfl (L.a rfl (L.nil (T.seq (T.q (L.o (O.fieldAddr runUnderlying76 rfl sizeOf5 rfl (L.o (O.load isAgg5 rfl (hN8.cell rfl) (L.o (O.rem rfl rfl (by omega) (by omega) (L.nil (?_)))))))))))))))
  refine T.join (σ:=Unit) (fun _=>[(3,.pointer (some ⟨b3,0,none⟩)),(4,.pointer (some ⟨b4,0,none⟩))]) (fun _ w'=>OfI w4.heap.size b3 b4 w w') ?_ ?_
  ·refine T.block (T.q (L.o (O.eql_s rfl rfl (fun c0=>?_) (fun c0=>?_))))
   ·refine L.a rfl (L.nil (T.ct (T.region (L.m rfl (L.o (O.fieldAddr runUnderlying76 rfl sizeOf9 rfl (L.o (O.load isAgg9 rfl (hN8.cell rfl) (L.o (O.fieldAddr runUnderlying76 rfl sizeOf9 rfl (L.o (O.load isAgg9 rfl (hN8.cell rfl) (?_)))))))))))))
    have hm14:=Nat.min_le_left nm.length 14
    refine L.o (O.len_str runUnderlying9 rfl (L.o (O.minN (k:=14) rfl rfl (L.o (O.slice_str_h runUnderlying9 rfl rfl (by omega) (by rw [Int.toNat_natCast];omega) (L.o (O.nilCheck rfl (L.o (O.fieldAddr runUnderlying51 rfl sizeOf9 rfl (L.o (O.store1_at2 sizeOf9 rfl rfl rfl hS8.c (hS8.fit hk2 (by decide)) (fun w9 hu9 hB9=>?_))))))))))))
    refine L.nil (T.blk (T.meet (()) ⟨rfl,rfl,trivial⟩ (hS8.cell hu9 (cellB (j:=0) hB9) hk2 (by decide) (u':={ us.getD k u0 with nm:=_ }) rfl rfl (by show (List.take _ nm).length≤_;rw [List.length_take];omega))))
   ·refine L.a rfl (L.nil (T.cf (T.q (L.o (O.eql_s rfl rfl (fun c1=>?_) (fun c1=>?_))))))
    ·obtain ⟨k2,hk3⟩:∃ k2:Nat,To % (us.length:Int)=k2:=⟨(To % (us.length:Int)).toNat,by have:=Int.emod_nonneg To (show (us.length:Int)≠0 by omega);omega⟩
     have hk4:k2<us.length:=by have:=Int.emod_lt_of_pos To (show (0:Int)<us.length by omega);omega
     refine L.a rfl (L.nil (T.ct (?_)))
     refine T.anyE mixed 9 [6,3,7,5] rfl [.is _,.is _,.is _,.is _,.is _,.is (.int .i64 (k2:Nat)),.is _,.is _,.is _] [[],[],[1],[],[],[3,4],[2,5],[6],[7]] [[],[],[1],[],[],[3,4],[1,2,3,4,5],[1,2,3,4,5,6],[1,2,3,4,5,6,7],[0,1,2,3,4,5,6,7,8],[0,1,2,3,4,5,6,7,8,9],[0,1,2,3,4,5,6,7,8,9,10]] (by kernel_rfl) (by kernel_rfl) rfl (by kernel_rfl) trivial ⟨fun wx hx=>Ob.o (O.move rfl kR),
       fun wx hx=>Ob.o (O.fieldAddr runUnderlying25 rfl sizeOf23 rfl kR),
       fun wx hx=>Ob.o (O.load isAgg23 rfl ((hS8.c3.ext hx).cell rfl) kR),
       fun wx hx=>Ob.o (O.load isAgg3 rfl ((hS8.c7.ext hx).cell rfl) kR),
       fun wx hx=>Ob.o (O.move rfl kR),
       fun wx hx=>Ob.o (O.rem rfl rfl (by omega) (by omega) ⟨Keep.refl _ _,by rw [hk3];rfl⟩),
       fun wx hx=>Ob.o (O.indexAddr runUnderlying23 sizeOf51 rfl rfl (Sl.of_owns hS8.sk.row) (by omega) (by omega) kR),
       fun wx hx=>Ob.o (O.fieldAddr runUnderlying51 rfl sizeOf9 rfl kR),
       fun wx hx=>Ob.o (O.load isAgg9 rfl (hS8.at (j:=0) (hS8.c.ext hx) hk4 rfl) kR),
       trivial⟩ (fun w9 he9=>?_)
     have hS9:=hS8.keep he9
     refine L.o (O.nilCheck rfl (L.o (O.fieldAddr runUnderlying51 rfl sizeOf9 rfl (L.o (O.store1_at2 sizeOf9 rfl rfl rfl hS9.c (hS9.fit hk2 (by decide)) (fun w10 hu10 hB10=>?_))))))
     refine L.nil (T.blk (T.meet (()) ⟨rfl,rfl,trivial⟩ (hS9.cell hu10 (cellB (j:=0) hB10) hk2 (by decide) (u':={ us.getD k u0 with nm:=_ }) rfl rfl (hS9.nm hk4))))
    ·refine L.a rfl (L.nil (T.cf (T.q (L.o (O.eql_s rfl rfl (fun c2=>?_) (fun c2=>?_))))))
     ·refine L.a rfl (L.nil (T.ct (T.region (L.m rfl (L.o (O.fieldAddr runUnderlying76 rfl sizeOf3 rfl (L.o (O.load isAgg3 rfl (hN8.cell rfl) (L.o (O.nilCheck rfl (L.o (O.fieldAddr runUnderlying51 rfl sizeOf3 rfl (L.o (O.store1_at2 sizeOf3 rfl rfl rfl hS8.c (hS8.fit hk2 (by decide)) (fun w9 hu9 hB9=>?_)))))))))))))))
      refine L.nil (T.blk (T.meet (()) ⟨rfl,rfl,trivial⟩ (hS8.cell hu9 (cellB (j:=1) hB9) hk2 (by decide) (u':={ us.getD k u0 with pp:=N }) rfl rfl (hS8.nm hk2))))
     ·refine L.a rfl (L.nil (T.cf (T.q (L.o (O.eql_s rfl rfl (fun c3=>?_) (fun c3=>?_))))))
      ·refine L.a rfl (L.nil (T.ct (T.region (L.m rfl (L.m rfl (L.o (O.nilCheck rfl (L.o (O.fieldAddr runUnderlying51 rfl sizeOf30 rfl (L.o (O.load isAgg30 rfl (hS8.at hS8.c hk2 rfl) (L.o (O.call (xs:=[.tmp 71]) call133 rfl rfl (set_calls w4.heap.size 15 b2 b7 W A To N nm (us.getD k u0).gv w8 (hS8.mem hk2 _ (by simp [UnV.ls])) hN8 hS8.c7 hT.1) (fun v9 w9 hq=>?_))))))))))))))
       obtain ⟨rfl,hl9,hO9⟩:=hq
       refine L.nil (T.blk (T.meet (()) ⟨rfl,rfl,trivial⟩ (hS8.list hl9 (split_g us hk2) (hO9.mono (Nat.le_refl _) (by decide)))))
      ·refine L.a rfl (L.nil (T.cf (T.q (L.o (O.eql_s rfl rfl (fun c4=>?_) (fun c4=>?_))))))
       ·refine L.a rfl (L.nil (T.ct (T.region (L.m rfl (L.m rfl (L.o (O.nilCheck rfl (L.o (O.fieldAddr runUnderlying51 rfl sizeOf30 rfl (L.o (O.load isAgg30 rfl (hS8.at hS8.c hk2 rfl) (L.o (O.call (xs:=[.tmp 79]) call133 rfl rfl (set_calls w4.heap.size 15 b2 b7 W A To N nm (us.getD k u0).vv w8 (hS8.mem hk2 _ (by simp [UnV.ls])) hN8 hS8.c7 hT.1) (fun v9 w9 hq=>?_))))))))))))))
        obtain ⟨rfl,hl9,hO9⟩:=hq
        refine L.nil (T.blk (T.meet (()) ⟨rfl,rfl,trivial⟩ (hS8.list hl9 (split_v us hk2) (hO9.mono (Nat.le_refl _) (by decide)))))
       ·refine L.a rfl (L.nil (T.cf (T.q (L.o (O.eql_s rfl rfl (fun c5=>?_) (fun c5=>?_))))))
        ·refine L.a rfl (L.nil (T.ct (T.region (L.m rfl (L.m rfl (L.o (O.nilCheck rfl (L.o (O.fieldAddr runUnderlying51 rfl sizeOf30 rfl (L.o (O.load isAgg30 rfl (hS8.at hS8.c hk2 rfl) (L.o (O.call (xs:=[.tmp 87]) call133 rfl rfl (set_calls w4.heap.size 15 b2 b7 W A To N nm (us.getD k u0).pv w8 (hS8.mem hk2 _ (by simp [UnV.ls])) hN8 hS8.c7 hT.1) (fun v9 w9 hq=>?_))))))))))))))
         obtain ⟨rfl,hl9,hO9⟩:=hq
         refine L.nil (T.blk (T.meet (()) ⟨rfl,rfl,trivial⟩ (hS8.list hl9 (split_p us hk2) (hO9.mono (Nat.le_refl _) (by decide)))))
        ·refine L.a rfl (L.nil (T.cf (T.q (L.o (O.eql_s rfl rfl (fun c6=>?_) (fun c6=>?_))))))
         ·refine L.a rfl (L.nil (T.ct (T.region (L.m rfl (L.m rfl (L.o (O.nilCheck rfl (L.o (O.fieldAddr runUnderlying51 rfl sizeOf4 rfl (L.o (O.load isAgg4 rfl (hS8.at hS8.c hk2 rfl) (L.o (O.not rfl (L.o (O.nilCheck rfl (L.o (O.fieldAddr runUnderlying51 rfl sizeOf4 rfl (L.o (O.store1_at2 sizeOf4 rfl rfl rfl hS8.c (hS8.fit hk2 (by decide)) (fun w9 hu9 hB9=>?_))))))))))))))))))))
          refine L.nil (T.blk (T.meet (()) ⟨rfl,rfl,trivial⟩ (hS8.cell hu9 (cellB (j:=5) hB9) hk2 (by decide) (u':={ us.getD k u0 with wt:=!(us.getD k u0).wt }) rfl rfl (hS8.nm hk2))))
         ·refine L.a rfl (L.nil (T.cf (T.q (L.o (O.eql_s rfl rfl (fun c7=>?_) (fun c7=>?_))))))
          ·refine L.a rfl (L.nil (T.ct (T.region (L.o (O.fieldAddr runUnderlying76 rfl sizeOf3 rfl (L.o (O.load isAgg3 rfl (hN8.cell rfl) (L.o (O.fieldAddr runUnderlying25 rfl sizeOf3 rfl (L.o (O.store1 sizeOf3 rfl rfl rfl hS8.c3 (by simp [Value.cells]) (fun w9 hu9 hB9=>?_))))))))))))
           refine L.nil (T.blk (T.meet (()) ⟨rfl,rfl,trivial⟩ (hS8.roll hu9 hB9)))
          ·refine L.a rfl (L.nil (T.cf (T.q (L.o (O.eql_s rfl rfl (fun c8=>?_) (fun c8=>?_))))))
           ·refine L.a rfl (L.nil (T.ct (T.region (L.o (O.fieldAddr runUnderlying76 rfl sizeOf3 rfl (L.o (O.load isAgg3 rfl (hN8.cell rfl) (L.o (O.fieldAddr runUnderlying25 rfl sizeOf3 rfl (L.o (O.store1 sizeOf3 rfl rfl rfl hS8.c3 (by simp [Value.cells]) (fun w9 hu9 hB9=>?_))))))))))))
            refine L.nil (T.blk (T.meet (()) ⟨rfl,rfl,trivial⟩ (hS8.roll hu9 hB9)))
           ·refine L.a rfl (L.nil (T.cf (T.q (L.o (O.eql_s rfl rfl (fun c9=>?_) (fun c9=>?_))))))
            ·refine L.a rfl (L.nil (T.ct (T.region (L.o (O.fieldAddr runUnderlying76 rfl sizeOf3 rfl (L.o (O.load isAgg3 rfl (hN8.cell rfl) (L.o (O.fieldAddr runUnderlying25 rfl sizeOf3 rfl (L.o (O.store1 sizeOf3 rfl rfl rfl hS8.c3 (by simp [Value.cells]) (fun w9 hu9 hB9=>?_))))))))))))
             refine L.nil (T.blk (T.meet (()) ⟨rfl,rfl,trivial⟩ (hS8.roll hu9 hB9)))
            ·refine L.a rfl (L.nil (T.cf (T.q (L.o (O.eql_s rfl rfl (fun c10=>?_) (fun c10=>?_))))))
             ·refine L.a rfl (L.nil (T.ct (T.region (L.m rfl (L.m rfl (L.o (O.nilCheck rfl (L.o (O.fieldAddr runUnderlying51 rfl sizeOf30 rfl (L.o (O.load isAgg30 rfl (hS8.at hS8.c hk2 rfl) (L.o (O.buildSlice (el:=3) (parts:=[(0,.const (.int .i64 0))]) (vs:=[(0,_)]) (cs:=[.int .i64 0]) rfl (fun w=>by kernel_rfl) (fun b9 w9 hb9 hz9 he9 hB9=>?_))))))))))))))
              have hS9:=hS8.keep he9
              have hz9:=he9.size
              have hq9:=hS9.mem hk2 (us.getD k u0).gv (by simp [UnV.ls])
              obtain ⟨xs,hx1,hx2⟩:=hq9
              refine L.o (O.appendF (size:=1) (bytes:=8) runUnderlying30 Tryz.infoOf3 rfl rfl rfl rfl (by decide) rfl rfl hx2 rfl hB9.row (by intro c hc;simp at hc;simp [hc,Value.oneCell']) (by omega) (by simp only [maxLen];omega) (by omega) (fun v10 w10 hO10 hG10 hF10=>?_))
              have hc10:=(Loc.of_grown hG10).blk hS9.c (OwnX.ne_unit ⟨xs,hx1,hx2⟩ hS9.c)
              refine L.o (O.nilCheck rfl (L.o (O.fieldAddr runUnderlying51 rfl sizeOf30 rfl (L.o (O.store1_at2 sizeOf30 (Sl.one (Sl.of_owns hO10)) rfl rfl hc10 (hS9.fit hk2 (by decide)) (fun w11 hu11 hB11=>?_))))))
              refine L.nil (T.blk (T.meet (()) ⟨rfl,rfl,trivial⟩ (hS9.swap (u':={ us.getD k u0 with gv:=v10 }) (Loc.of_grown hG10) (split_g us hk2) (by rw [lsOf_set hk2];rfl) ⟨xs ++ [0],by simp;omega,by simpa [OwnL] using hO10⟩ hF10 hu11 (cellB (j:=2) hB11) hk2 (by decide) rfl (hS9.nm hk2))))
             ·refine L.a rfl (L.nil (T.cf (T.q (L.o (O.eql_s rfl rfl (fun c11=>?_) (fun c11=>?_))))))
              ·refine L.a rfl (L.nil (T.ct (T.region (L.m rfl (L.m rfl (L.o (O.nilCheck rfl (L.o (O.fieldAddr runUnderlying51 rfl sizeOf30 rfl (L.o (O.load isAgg30 rfl (hS8.at hS8.c hk2 rfl) (?_))))))))))))
               have hq8:=hS8.mem hk2 (us.getD k u0).vv (by simp [UnV.ls])
               obtain ⟨xs,hI8⟩:=hq8.ints
               refine L.o (O.cutH (m:=0) runUnderlying30 sizeOf3 rfl rfl hI8 (Nat.zero_le _) (?_))
               have hq0:OwnX w4.heap.size 16 (cutH (us.getD k u0).vv 0) w8:=(OwnX.cut hq8 (fun _ _=>Nat.zero_le _) (.inl rfl)).mono (Nat.le_refl _) (by decide)
               refine L.o (O.nilCheck rfl (L.o (O.fieldAddr runUnderlying51 rfl sizeOf30 rfl (L.o (O.store1_at2 sizeOf30 (OwnX.one hq0) rfl rfl hS8.c (hS8.fit hk2 (by decide)) (fun w9 hu9 hB9=>?_))))))
               refine L.nil (T.blk (T.meet (()) ⟨rfl,rfl,trivial⟩ (hS8.swap (u':={ us.getD k u0 with vv:=cutH (us.getD k u0).vv 0 }) (Loc.of_ext (Keep.refl _ _)) (split_v us hk2) (by rw [lsOf_set hk2];simp [UnV.ls]) hq0 (fun b hb=>.inl (by rw [own_cutH] at hb;exact hb)) hu9 (cellB (j:=3) hB9) hk2 (by decide) rfl (hS8.nm hk2))))
              ·refine L.a rfl (L.nil (T.cf (T.q (L.o (O.eql_s rfl rfl (fun c12=>?_) (fun c12=>?_))))))
               ·obtain ⟨us3,hl3,hm3,hU3⟩:=hS8.sk.units
                obtain ⟨k2,hk3⟩:∃ k2:Nat,To % (us.length:Int)=k2:=⟨(To % (us.length:Int)).toNat,by have:=Int.emod_nonneg To (show (us.length:Int)≠0 by omega);omega⟩
                have hk4:k2<us.length:=by have:=Int.emod_lt_of_pos To (show (0:Int)<us.length by omega);omega
                refine L.a rfl (L.nil (T.ct (T.seq (?_))))
                refine T.anyE mixed 11 [3,7,5] rfl [.is _,.is _,.is _,.such (CpV w8.heap.size us.length),.such (CpU w8.heap.size us.length),.is _,.is _,.is (.int .i64 (k2:Nat)),.such (CpP w8.heap.size),.such (CpX w8.heap.size),.such (CpL w8.heap.size)] [[],[0],[],[2],[3],[],[],[5,6],[4,7],[8],[9]] [[],[0],[],[2],[2,3],[],[],[5,6],[2,3,4,5,6,7],[2,3,4,5,6,7,8],[2,3,4,5,6,7,8,9],[0,1,2,3,4,5,6,7,8,9,10],[0,1,2,3,4,5,6,7,8,9,10,11],[0,1,2,3,4,5,6,7,8,9,10,11,12]] (by kernel_rfl) (by kernel_rfl) rfl (by kernel_rfl) ⟨CpV.st,CpU.st,CpP.st,CpX.st,CpL.st,trivial⟩ ⟨fun wx hx=>Ob.o (O.fieldAddr runUnderlying25 rfl sizeOf23 rfl kR),
                  fun wx hx=>Ob.o (O.load isAgg23 rfl ((hS8.c3.ext hx).cell rfl) kR),
                  fun wx hx=>Ob.o (O.loadAgg isAgg25 sizeOf25 rfl rfl ((hS8.c3.ext hx).row) kR),
                  fun wx hx=>Ob.o (O.call (xs:=[.tmp 139]) call31 rfl rfl (copied_calls w4.heap.size ⟨r.G,r.P,r.L,.slice (some ⟨b,0,none⟩) us.length cap,us3⟩ wx (Units.ext hU3 hx)) (fun v wy h=>(by obtain ⟨hA1,cv2,us2,rfl,hA2,hA3⟩:=h;exact ⟨hA1,⟨_,rfl,hA2.mono hx.size (Nat.le_refl _),by rw [hA3];show min us3.length 66=_;omega⟩⟩))),
                  fun wx hx v140 hv140=>by { obtain ⟨r2,rfl,hS2,hl2⟩:=hv140;exact Ob.o (O.field runUnderlying25 rfl isAgg23 rfl rfl ⟨Keep.refl _ _,⟨r2.us,hS2,hl2⟩⟩) },
                  fun wx hx=>Ob.o (O.load isAgg3 rfl ((hS8.c7.ext hx).cell rfl) kR),
                  fun wx hx=>Ob.o (O.move rfl kR),
                  fun wx hx=>Ob.o (O.rem rfl rfl (by omega) (by omega) ⟨Keep.refl _ _,by rw [hk3];rfl⟩),
                  fun wx hx v141 hv141=>by { obtain ⟨us2,hS2,hl2⟩:=hv141;exact Ob.o (O.indexAddr runUnderlying23 sizeOf51 rfl rfl (Sl.of_owns hS2.row) (by omega) (by omega) ⟨Keep.refl _ _,⟨_,us2.getD k2 u0,rfl,(sk_elem hS2 (by omega)).1,(sk_elem hS2 (by omega)).2⟩⟩) },
                  fun wx hx v145 hv145=>by { obtain ⟨ad,u,rfl,hRow,hOne⟩:=hv145;exact Ob.o (O.loadAgg isAgg51 sizeOf51 rfl rfl hRow ⟨Keep.refl _ _,⟨u,rfl,hOne⟩⟩) },
                  fun wx hx v146 hv146=>by { obtain ⟨u,rfl,hOne⟩:=hv146;exact Ob.o (O.buildSlice (el:=51) (parts:=[(0,.tmp 146)]) (vs:=[(0,_)]) (cs:=u.cells) rfl (fun w=>by kernel_rfl) (fun b77 w77 hb77 hz77 he77 hB77=>⟨he77,⟨b77,u,rfl,hB77,hOne.1.ext he77,hOne.2⟩⟩)) },
                  trivial⟩ (fun w9 he9 v140 hv140 v141 hv141 v145 hv145 v146 hv146 v147 hv147=>?_)
                obtain ⟨bL,u,rfl,hBL,hOne⟩:=hv147
                have hS9:=hS8.keep he9
                have hz9:=he9.size
                refine L.o (O.append (size:=6) (bytes:=104) runUnderlying23 Tryz.infoOf51 rfl rfl rfl rfl (by decide) rfl rfl hS9.sk.row (Sl.of_blk (lo:=0) (n:=1) (sz:=6) hBL rfl (Nat.le_refl _) (by decide) (Nat.zero_le _)) (CpOne.one hOne) (by omega) (by simp only [maxLen];omega) (by omega) (fun v10 w10 hO10 hG10=>?_))
                have hS10:Sk w4.heap.size 15 w10 v10 (us ++ [u]):=hS9.sk.snoc (m:=w8.heap.size) (hOne.1.mono (by omega) (Nat.le_refl _)) hOne.2 (fun q hq b hb=>((hS8.sk.ls.all q hq).lt hb).2) (fun q hq b hb=>((hOne.1.all q hq).lt hb).1) hO10 hG10
                have hC10:=hS9.c3.grown hG10 (fun j hj=>by have e1:b=j:=Option.some.inj hj;omega)
                have hR10:=hS9.c4.grown hG10 (fun j hj=>by have e1:b=j:=Option.some.inj hj;omega)
                have hE10:Ext w w10:=Keep.grown hS9.ext hG10 (fun j hj=>by have e1:b=j:=Option.some.inj hj;omega)
                have hv10:v10.oneCell'=true:=Sl.one (Sl.of_owns hO10)
                refine L.o (O.fieldAddr runUnderlying25 rfl sizeOf23 rfl (L.o (O.store1 sizeOf23 hv10 rfl rfl hC10 (by simp [Value.cells]) (fun w11 hu11 hB11=>?_))))
                have hC11:Blk w11 b3 [.int .i64 r.G,.int .i64 r.P,.int .i64 r.L,v10] 25:=hB11
                replace hu11:Upd b3 w10 w11:=hu11
                have hS11:Sk w4.heap.size 15 w11 v10 (us ++ [u]):=⟨owns_upd hS10.row hu11 hb3,hS10.ls.loc (r:=.slice (some ⟨b3,0,none⟩) 0 0) (Loc.of_upd hu11 rfl) (fun q hq b hb e=>by have e':b3=b:=Option.some.inj e;have:=((hS10.ls.all q hq).lt hb).1;omega),hS10.nm⟩
                obtain ⟨b',cap',cur',hv',hb',hB',hn',hm',hc',ht'⟩:=hS11.blk (by simp)
                subst hv'
                have hlen':(us ++ [u]).length=us.length+1:=by simp
                refine L.nil (T.region (L.o (O.fieldAddr runUnderlying25 rfl sizeOf23 rfl (L.o (O.load isAgg23 rfl (hC11.cell rfl) (L.m rfl (L.o (O.indexAddr runUnderlying23 sizeOf51 rfl rfl (Sl.of_owns hS11.row) (by omega) (by omega) (L.o (O.fieldAddr runUnderlying51 rfl sizeOf9 rfl (L.o (O.store1_at2 sizeOf9 rfl rfl rfl hB' (by show 0+((us.length:Int).toNat*6+0)<cur'.length;omega) (fun w12 hu12 hB12=>?_)))))))))))))
                refine L.nil (T.blk (T.meet (()) ⟨rfl,rfl,trivial⟩ (Sk.ofI ((hE10.upd hu11 (.inr (by omega))).upd hu12 (.inr (by omega))) ((hR10.upd hu11 (by omega)).upd hu12 (by show b4≠b';omega)) (hC11.upd hu12 (by show b3≠b';omega)) ((hS11.setC hb' hB' hn' hm' hc' ht' hu12 (cellB (j:=0) hB12) (k:=us.length) (by omega) (by decide) (u':={ (us ++ [u]).getD us.length u0 with nm:=[110,101,119] }) rfl rfl (by show ([110,101,119]:Str).length≤_;decide)).mono (Nat.le_refl _) (by decide)) (by rw [List.length_set];omega))))
               ·refine L.a rfl (L.nil (T.cf (T.q (L.o (O.eql_s rfl rfl (fun c13=>?_) (fun c13=>?_))))))
                ·refine L.a rfl (L.nil (T.ct (?_)))
                 refine T.anyE mixed 13 [3,2,5] rfl [.is _,.is _,.is _,.is _,.is _,.is _,.is (.int .i64 (k:Nat)),.is _,.is _,.is _,.is _,.is (.int .i64 (k:Nat)),.is _] [[],[0],[],[2],[3],[],[4,5],[],[7],[8],[],[9,10],[11]] [[],[0],[],[2],[2,3],[],[2,3,4,5],[],[7],[7,8],[],[7,8,9,10],[7,8,9,10,11],[0,1,2,3,4,5,6,7,8,9,10,11,12],[0,1,2,3,4,5,6,7,8,9,10,11,12,13],[0,1,2,3,4,5,6,7,8,9,10,11,12,13,14]] (by kernel_rfl) (by kernel_rfl) rfl (by kernel_rfl) trivial ⟨fun wx hx=>Ob.o (O.fieldAddr runUnderlying25 rfl sizeOf23 rfl kR),
                   fun wx hx=>Ob.o (O.load isAgg23 rfl ((hS8.c3.ext hx).cell rfl) kR),
                   fun wx hx=>Ob.o (O.fieldAddr runUnderlying76 rfl sizeOf5 rfl kR),
                   fun wx hx=>Ob.o (O.load isAgg5 rfl ((hN8.ext hx).cell rfl) kR),
                   fun wx hx=>Ob.o (O.conv_to rfl (fun w=>⟨_,runUnderlying5 w⟩) runUnderlying3 (IntWalk.i64_in _ ⟨by omega,by omega⟩) kR),
                   fun wx hx=>Ob.o (O.move rfl kR),
                   fun wx hx=>Ob.o (O.rem rfl rfl (by omega) (by omega) ⟨Keep.refl _ _,by rw [hk];rfl⟩),
                   fun wx hx=>Ob.o (O.fieldAddr runUnderlying76 rfl sizeOf5 rfl kR),
                   fun wx hx=>Ob.o (O.load isAgg5 rfl ((hN8.ext hx).cell rfl) kR),
                   fun wx hx=>Ob.o (O.conv_to rfl (fun w=>⟨_,runUnderlying5 w⟩) runUnderlying3 (IntWalk.i64_in _ ⟨by omega,by omega⟩) kR),
                   fun wx hx=>Ob.o (O.move rfl kR),
                   fun wx hx=>Ob.o (O.rem rfl rfl (by omega) (by omega) ⟨Keep.refl _ _,by rw [hk];rfl⟩),
                   fun wx hx=>Ob.o (O.add64 rfl rfl (by omega) kR),
                   trivial⟩ (fun w9 he9=>?_)
                 have hS9:=hS8.keep he9
                 refine L.o (O.call (xs:=[.tmp 158,.tmp 163,.tmp 169]) call134 rfl rfl (deleteU_calls w4.heap.size 15 k _ us w9 hS9.sk hk2 (by omega)) (fun v10 w10 hq=>?_))
                 obtain ⟨hl10,hS10,hob10⟩:=hq
                 have hv10:v10.oneCell'=true:=Sl.one (Sl.of_owns hS10.row)
                 have hne:∀ x,x<w4.heap.size→(Value.slice (some ⟨b,0,none⟩) us.length cap).ownBlock≠some x:=fun x hx e=>by have e':b=x:=Option.some.inj e;omega
                 have hC10:=hl10.blk hS9.c3 (hne _ hb3)
                 have hR10:=hl10.blk hS9.c4 (hne _ hb4)
                 have hE10:Ext w w10:=hl10.keep hS9.ext (fun x e=>by have e':b=x:=Option.some.inj e;omega)
                 refine L.o (O.fieldAddr runUnderlying25 rfl sizeOf23 rfl (L.o (O.store1 sizeOf23 hv10 rfl rfl hC10 (by simp [Value.cells]) (fun w11 hu11 hB11=>?_))))
                 replace hu11:Upd b3 w10 w11:=hu11
                 have hS11:Sk w4.heap.size 15 w11 v10 (us.take k++us.drop (k+1)):=⟨owns_upd hS10.row hu11 hb3,hS10.ls.loc (r:=.slice (some ⟨b3,0,none⟩) 0 0) (Loc.of_upd hu11 rfl) (fun q hq b hb e=>by have e':b3=b:=Option.some.inj e;have:=((hS10.ls.all q hq).lt hb).1;omega),hS10.nm⟩
                 refine L.nil (T.blk (T.meet (()) ⟨rfl,rfl,trivial⟩ (Sk.ofI (hE10.upd hu11 (.inr (by omega))) (hR10.upd hu11 (by omega)) hB11 (hS11.mono (Nat.le_refl _) (by decide)) (by rw [List.length_append,List.length_take,List.length_drop];omega))))
                ·refine L.a rfl (L.nil (T.cf (T.q (L.o (O.eql_s rfl rfl (fun c14=>?_) (fun c14=>?_))))))
                 ·obtain ⟨m,hm⟩:∃ m:Nat,us.length=m+1:=⟨us.length-1,by omega⟩
                  have hcs1:=put_take (u':=us.getD m u0) hcl hnc hct (k:=0) hpos
                  obtain ⟨cs1,hcs⟩:∃ cs1,cs1=cur.take (0*6)++(us.getD m u0).cells++cur.drop (0*6+6):=⟨_,rfl⟩
                  rw [← hcs] at hcs1
                  have hl1:cs1.length=cur.length:=by rw [hcs1.2,hcl]
                  have hx0:∀ i,i<us.length→∀ c∈(us.getD i u0).cells,c.oneCell'=true:=fun i hi=>hS8.sk.one _ (by rw [getD_get hi];exact List.getElem_mem hi)
                  have hb38:b3≠b:=by omega
                  refine L.a rfl (L.nil (T.ct (?_)))
                  refine T.anyF mixed 18 1 [3,5] rfl [.is _,.is _,.is _,.is _,.is _,.is _,.is _,.is _,.is _,.is (.int .i64 (m:Nat)),.is _,.such (SwP b w8 (us.getD m u0).val),.is _,.is _,.is _,.such (SwP b w8 (us.getD 0 u0).val),.is _,.is undef] [[],[0],[],[2],[],[4],[],[6],[],[8],[7,9],[10],[],[12],[13],[14],[1],[16,11,15]] [none,none,none,none,none,none,none,none,none,none,none,none,none,none,none,none,none,some 0] [[],[0],[],[2],[],[4],[],[6],[],[8],[6,7,8,9],[6,7,8,9,10],[],[12],[12,13],[12,13,14],[0,1,6,7,8,9,10,11,12,13,14,15],[0,1,6,7,8,9,10,11,12,13,14,15,16],[0,1,2,3,4,5,6,7,8,9,10,11,12,13,14,15,16,17],[0,1,2,3,4,5,6,7,8,9,10,11,12,13,14,15,16,17,18]] [] [(17,15,189)] (fun _ _ u _ _=>u=(us.getD 0 u0).val) (SwI b cs1 w8) (fun W W'=>W'.heap[b]?=w8.heap[b]?→W.heap[b]?=w8.heap[b]?) (fun i f v w hi hf hh=>by simp at hi) (fun i j vi vj W W' hr h=>h) (by kernel_rfl) (by kernel_rfl) (by kernel_rfl) (by kernel_rfl) rfl ⟨fun v w w' hr h e=>h (hr e),fun v w w' hr h e=>h (hr e),trivial⟩ (Keep.drew _ _) ⟨fun c wx hx=>ObX.op rfl (O.fieldAddr runUnderlying25 rfl sizeOf23 rfl ⟨⟨(fun h=>h),hx⟩,rfl,trivial,trivial⟩),
                    fun c wx hx=>ObX.op rfl (O.load isAgg23 rfl ((hx.blk hb38 hS8.c3).cell rfl) ⟨⟨(fun h=>h),hx⟩,rfl,trivial,trivial⟩),
                    fun c wx hx=>ObX.op rfl (O.fieldAddr runUnderlying25 rfl sizeOf23 rfl ⟨⟨(fun h=>h),hx⟩,rfl,trivial,trivial⟩),
                    fun c wx hx=>ObX.op rfl (O.load isAgg23 rfl ((hx.blk hb38 hS8.c3).cell rfl) ⟨⟨(fun h=>h),hx⟩,rfl,trivial,trivial⟩),
                    fun c wx hx=>ObX.op rfl (O.move rfl ⟨⟨(fun h=>h),hx⟩,rfl,trivial,trivial⟩),
                    fun c wx hx=>ObX.op rfl (O.sub64 rfl rfl (by omega) ⟨⟨(fun h=>h),hx⟩,rfl,trivial,trivial⟩),
                    fun c wx hx=>ObX.op rfl (O.fieldAddr runUnderlying25 rfl sizeOf23 rfl ⟨⟨(fun h=>h),hx⟩,rfl,trivial,trivial⟩),
                    fun c wx hx=>ObX.op rfl (O.load isAgg23 rfl ((hx.blk hb38 hS8.c3).cell rfl) ⟨⟨(fun h=>h),hx⟩,rfl,trivial,trivial⟩),
                    fun c wx hx=>ObX.op rfl (O.move rfl ⟨⟨(fun h=>h),hx⟩,rfl,trivial,trivial⟩),
                    fun c wx hx=>ObX.op rfl (O.sub64 rfl rfl (by omega) (and3 ⟨⟨fun h=>h,hx⟩,by show Value.int .i64 ((us.length:Int)-1) = .int .i64 (m:Int);rw [show (us.length:Int)-1=m by omega]⟩ ⟨trivial,trivial⟩)),
                    fun c wx hx=>ObX.op rfl (O.indexAddr runUnderlying23 sizeOf51 rfl rfl (Sl.of_owns hS8.sk.row) (by omega) (by omega) ⟨⟨(fun h=>h),hx⟩,rfl,trivial,trivial⟩),
                    fun c wx hx=>by { obtain ⟨cs,hcsr,hcsl,hcsi⟩:=hx.unit hS8.c hl1 hcl hnc hct (show m<us.length by omega);exact ObX.op rfl (O.loadAgg isAgg51 sizeOf51 hcsl rfl hcsr (and3 ⟨⟨fun h=>h,hx⟩,fun h=>by rw [hcsi h];rfl⟩ ⟨trivial,trivial⟩)) },
                    fun c wx hx=>ObX.op rfl (O.fieldAddr runUnderlying25 rfl sizeOf23 rfl ⟨⟨(fun h=>h),hx⟩,rfl,trivial,trivial⟩),
                    fun c wx hx=>ObX.op rfl (O.load isAgg23 rfl ((hx.blk hb38 hS8.c3).cell rfl) ⟨⟨(fun h=>h),hx⟩,rfl,trivial,trivial⟩),
                    fun c wx hx=>ObX.op rfl (O.indexAddr runUnderlying23 sizeOf51 rfl rfl (Sl.of_owns hS8.sk.row) (by decide) (by omega) ⟨⟨(fun h=>h),hx⟩,rfl,trivial,trivial⟩),
                    fun c wx hx=>by { obtain ⟨cs,hcsr,hcsl,hcsi⟩:=hx.unit hS8.c hl1 hcl hnc hct (i:=0) hpos;exact ObX.op rfl (O.loadAgg isAgg51 sizeOf51 hcsl rfl hcsr (and3 ⟨⟨fun h=>h,hx⟩,fun h=>by rw [hcsi h];rfl⟩ ⟨trivial,trivial⟩)) },
                    fun c wx hx=>ObX.op rfl (O.indexAddr runUnderlying23 sizeOf51 rfl rfl (Sl.of_owns hS8.sk.row) (by decide) (by omega) ⟨⟨(fun h=>h),hx⟩,rfl,trivial,trivial⟩),
                    fun wx hx v185 hv185 v189 hv189=>by { obtain rfl:=hv185 (hx.block b (Nat.zero_le _) hS8.c.lt);obtain h189:=hv189 (hx.block b (Nat.zero_le _) hS8.c.lt);exact ObX.op rfl (O.storeAggAt sizeOf51 rfl rfl rfl (hS8.c.ext hx) (by rw [hcl];show 0*6+6≤cap*6;omega) (hx0 m (by omega)) (fun w10 hu10 hB10=>and3 ⟨⟨fun _=>hx.block b (Nat.zero_le _) hS8.c.lt,⟨_,hx,_,hu10,by rw [hcs];exact hB10,Keep.refl _ _⟩⟩,rfl⟩ ⟨trivial,fun u hu=>by { cases hu;exact h189 }⟩)) },
                    trivial⟩ (fun w9 hI9 v185 hv185 v189 hv189 hp9=>?_)
                  obtain ⟨_,_,_,hlk⟩:=hp9 15 17 _ _ _ _ (by decide) (by decide) rfl rfl rfl rfl
                  obtain rfl:=hlk rfl
                  obtain ⟨W1,hE1,W2,hU2,hB2',hE2⟩:=hI9
                  have hcs2:=put_take (u':=us.getD 0 u0) (us:=us.set 0 (us.getD m u0)) (k:=m) hcs1.2 (by rw [List.length_set];exact hnc) hcs1.1 (by rw [List.length_set];omega)
                  refine L.o (O.indexAddr runUnderlying23 sizeOf51 rfl rfl (Sl.of_owns hS8.sk.row) (by omega) (by omega) (L.o (O.storeAggAt sizeOf51 rfl rfl rfl (hB2'.ext hE2) (by rw [hcs1.2];omega) (hx0 0 hpos) (fun w11 hu11 hB11=>?_))))
                  obtain ⟨us',hus'⟩:∃ us',us'=(us.set 0 (us.getD m u0)).set m (us.getD 0 u0):=⟨_,rfl⟩
                  have hpm:us'.Perm us:=by rw [hus'];exact swap_perm hpos (by omega)
                  have hl':us'.length=us.length:=hpm.length_eq
                  rw [← hus',hl'] at hcs2
                  have hloc:Loc (.slice (some ⟨b,0,none⟩) 0 0) w8 w11:=(((Loc.of_ext hE1).trans (Loc.of_upd hU2 rfl)).trans (Loc.of_ext hE2)).trans (Loc.of_upd hu11 rfl)
                  have hB11':Blk w11 b (cs1.take (m*6)++(us.getD 0 u0).cells++cs1.drop (m*6+6)) 51:=by
                   have e:(((us.length:Int)-1).toNat*6)=m*6:=by omega
                   have h11:=hB11
                   simp only [e] at h11
                   exact h11
                  have hrow:=row_of (us:=us') (cap:=cap) hb hB11' (by omega) hcm hcs2.2 (by rw [hl'];exact hcs2.1)
                  rw [hl'] at hrow
                  refine L.nil (T.blk (T.meet (()) ⟨rfl,rfl,trivial⟩ (Sk.ofI (hloc.keep hS8.ext (fun x e=>by have e':b=x:=Option.some.inj e;omega)) (hloc.blk hS8.c4 (fun e=>by have e':b=b4:=Option.some.inj e;omega)) (hloc.blk hS8.c3 (fun e=>by have e':b=b3:=Option.some.inj e;omega)) ⟨by rw [hl'];exact hrow,((hS8.sk.ls.perm (lsOf_perm hpm.symm)).loc hloc (fun q hq b' hb' e=>(hS8.sk.ls.all q ((lsOf_perm hpm).mem_iff.1 hq)).ne_unit hS8.c (hb'.trans (e.symm.trans rfl)))).mono (Nat.le_refl _) (by decide),fun u hu=>hS8.sk.nm u (hpm.mem_iff.1 hu)⟩ (by omega))))
                 ·refine L.a rfl (L.nil (T.cf (T.q (L.o (O.eql_s rfl rfl (fun c15=>?_) (fun c15=>?_))))))
                  ·refine L.a rfl (L.nil (T.ct (T.block (?_))))
                   refine T.loop (σ:=Value × List UnV) (fun s=>[(3,.pointer (some ⟨b3,0,none⟩)),(4,.pointer (some ⟨b4,0,none⟩)),(7,.pointer (some ⟨b7,0,none⟩))]) (fun s w'=>Ext w w'∧Blk w' b4 zroll 25∧Blk w' b7 [.int .i64 To] 3∧Blk w' b3 [.int .i64 r.G,.int .i64 r.P,.int .i64 r.L,s.1] 25∧Sk w4.heap.size 15 w' s.1 s.2∧0<s.2.length∧s.2.length≤66∧w8.heap.size≤w'.heap.size) (fun s=>66-s.2.length) ((.slice (some ⟨b,0,none⟩) us.length cap,us)) ⟨rfl,rfl,rfl,trivial⟩ ⟨hS8.ext,hS8.c4,hS8.c7,hS8.c3,hS8.sk,hpos,hl66,Nat.le_refl _⟩ ?_
                   rintro ⟨v9,us9⟩ w9 ⟨he9,hR9,hT9,hC9,hS9,hp9,hl9,hz9⟩
                   simp only at hC9 hS9 hp9 hl9
                   refine T.seq (T.q (L.o (O.fieldAddr runUnderlying25 rfl sizeOf23 rfl (L.o (O.load isAgg23 rfl (hC9.cell rfl) (L.o (O.len runUnderlying23 rfl (Sl.val (Sl.of_owns hS9.row)) (L.o (O.load isAgg3 rfl (hT9.cell rfl) (L.o (O.rem rfl rfl (by omega) (by omega) (L.o (O.add64 rfl rfl (by omega) (L.o (O.lss_s rfl rfl (fun hlt=>?_) (fun hlt=>?_))))))))))))))))
                   ·refine L.nil (?_)
                    have hlt':us9.length<66:=by omega
                    obtain ⟨us3,hl3,hm3,hU3⟩:=hS9.units
                    refine T.ct (T.skip (T.block (T.q (L.o (O.loadAgg isAgg25 sizeOf25 rfl rfl hC9.row (L.o (O.call (xs:=[.tmp 201]) call31 rfl rfl (copied_calls w4.heap.size ⟨r.G,r.P,r.L,v9,us3⟩ w9 hU3) (fun v10 w10 hq=>?_))))))))
                    obtain ⟨he10,cv2,us2,rfl,hS2,hl2⟩:=hq
                    have hl2':0<us2.length:=by rw [hl2];show 0<min us3.length 66;omega
                    obtain ⟨u,hu⟩:∃ u,u=us2.getD 0 u0:=⟨_,rfl⟩
                    have hel:=sk_elem (k:=0) hS2 hl2'
                    rw [← hu] at hel
                    have hOne:CpOne w9.heap.size u w10:=hel.2
                    refine L.o (O.field runUnderlying25 rfl isAgg23 rfl rfl (L.o (O.indexAddr runUnderlying23 sizeOf51 rfl rfl (Sl.of_owns hS2.row) (by decide) (by omega) (L.o (O.loadAgg isAgg51 sizeOf51 rfl rfl hel.1 (L.o (O.alloc zeroValue51 (fun b11 w11 hb11 hz11 he11 hB11=>?_))))))))
                    refine L.o (O.storeAgg sizeOf51 rfl rfl rfl hB11 (Nat.le_refl _) (CpOne.one hOne) (fun w12 hu12 hB12=>?_))
                    replace hu12:Upd b11 w11 w12:=hu12
                    have hB12':Blk w12 b11 [str u.nm,.int .i64 u.pp,u.gv,u.vv,u.pv,.bool u.wt] 51:=hB12
                    have hz10:=he10.size
                    have he1012:Ext w10 w12:=he11.upd hu12 (.inr (by omega))
                    have he912:Ext w9 w12:=he10.trans he1012
                    have hS12:=hS9.ext he912
                    have hdig:=dig2_ints (n:=us9.length) (by omega)
                    refine L.nil (T.q (L.o (O.fieldAddr runUnderlying25 rfl sizeOf23 rfl (L.o (O.load isAgg23 rfl ((hC9.ext he912).cell rfl) (L.o (O.len runUnderlying23 rfl (Sl.val (Sl.of_owns hS12.row)) (L.o (O.quo64 rfl rfl (by omega) (L.o (O.conv_to rfl (fun w=>⟨_,runUnderlying3 w⟩) runUnderlying5 (IntWalk.u8_in _ ⟨by omega,by omega⟩) (L.o (O.add8 rfl rfl (by omega) (L.o (O.fieldAddr runUnderlying25 rfl sizeOf23 rfl (L.o (O.load isAgg23 rfl ((hC9.ext he912).cell rfl) (L.o (O.len runUnderlying23 rfl (Sl.val (Sl.of_owns hS12.row)) (L.o (O.rem rfl rfl (by omega) (by omega) (L.o (O.conv_to rfl (fun w=>⟨_,runUnderlying3 w⟩) runUnderlying5 (IntWalk.u8_in _ ⟨by omega,by omega⟩) (L.o (O.add8 rfl rfl (by omega) (L.o (O.buildSlice (el:=5) (parts:=[(0,.tmp 211),(1,.tmp 217)]) (vs:=[(0,_),(1,_)]) (cs:=[.int .u8 (48+(us9.length:Int) / 10),.int .u8 (48+(us9.length:Int) % 10)]) rfl (fun w=>by kernel_rfl) (fun b13 w13 hb13 hz13 he13 hB13=>?_))))))))))))))))))))))))))))
                    refine L.o (O.bytes_str runUnderlying54 runUnderlying5 runUnderlying9 rfl (show Ints .u8 0 w13 (.slice (some ⟨b13,0,none⟩) 2 2) ((dig2 us9.length).map fun c=>(c.toNat:Int)) from by rw [hdig];exact Ints.of_blk hB13 rfl (by decide) (Nat.zero_le _)) (by simp [dig2]) (L.o (O.add_str rfl rfl (by simp [dig2]) (L.o (O.fieldAddr runUnderlying51 rfl sizeOf9 rfl (L.o (O.store1 sizeOf9 rfl rfl rfl (hB12'.ext he13) (by simp [Value.cells]) (fun w14 hu14 hB14=>?_))))))))
                    replace hu14:Upd b11 w13 w14:=hu14
                    obtain ⟨u',hu'⟩:∃ u':UnV,u' = { u with nm:=[109]++dig2 us9.length }:=⟨_,rfl⟩
                    have hB14':Blk w14 b11 u'.cells 51:=by rw [hu'];exact hB14
                    have hls':u'.ls=u.ls:=by rw [hu'];rfl
                    have hz11:=he11.size
                    have hz12:=hu12.size
                    have hz13:=he13.size
                    have hz14:=hu14.size
                    have he914:Ext w9 w14:=(he912.trans he13).upd hu14 (.inr (by omega))
                    have he1014:Ext w10 w14:=(he1012.trans he13).upd hu14 (.inr (by omega))
                    refine L.nil (T.region (L.o (O.loadAgg isAgg51 sizeOf51 rfl rfl hB14'.row (L.o (O.buildSlice (el:=51) (parts:=[(0,.tmp 222)]) (vs:=[(0,_)]) (cs:=u'.cells) rfl (fun w=>by kernel_rfl) (fun b15 w15 hb15 hz15 he15 hB15=>?_))))))
                    have he915:=he914.trans he15
                    have hS15:=hS9.ext he915
                    have hO15:w15.ownsRow w9.heap.size 51 6 (.slice (some ⟨b15,0,none⟩) 1 1) 1 u'.cells:=owns_blk (n:=1) hB15 (by have:=he914.size;omega) (Nat.le_refl _) (by decide) rfl
                    refine L.o (O.fieldAddr runUnderlying25 rfl sizeOf23 rfl (L.o (O.load isAgg23 rfl ((hC9.ext he915).cell rfl) (?_))))
                    have honeS:∀ c∈ucells us9,c.oneCell'=true:=fun c hc=>by
                     obtain ⟨l,hl,hc2⟩:=List.mem_flatten.1 hc
                     obtain ⟨x,hx,rfl⟩:=List.mem_map.1 hl
                     exact hS9.one x hx c hc2
                    refine L.o (O.append (size:=6) (bytes:=104) runUnderlying23 Tryz.infoOf51 rfl rfl rfl rfl (by decide) rfl rfl hO15 ((Sl.of_owns hS15.row).mono (Nat.zero_le _)) honeS (by omega) (by simp only [maxLen];omega) (by have:=he915.size;omega) (fun v16 w16 hO16 hG16=>?_))
                    have hz915:=he915.size
                    have hz914:=he914.size
                    have hE16:Ext w9 w16:=Keep.grown he915 hG16 (fun j hj=>by have e1:b15=j:=Option.some.inj hj;omega)
                    have hb15:b15=w14.heap.size:=hb15
                    have hv16:v16.oneCell'=true:=Sl.one (Sl.of_owns hO16)
                    have hLu:LS w9.heap.size 15 w16 u'.ls:=by
                     rw [hls']
                     have h15:=hOne.1.ext (he1014.trans he15)
                     exact h15.loc (r:=.slice (some ⟨b15,0,none⟩) 1 1) (Loc.of_grown hG16) (fun q hq x hx e=>by have e1:b15=x:=Option.some.inj e;have:=((hOne.1.all q hq).lt hx).2;have:=he1014.size;omega)
                    have hS16:Sk w4.heap.size 15 w16 v16 (u'::us9):=by
                     refine ⟨?_,?_,fun x hx=>?_⟩
                     ·rw [ucells_cons,List.length_cons,Nat.add_comm]
                      refine ⟨hO16.1,hO16.2.imp id ?_⟩
                      rintro ⟨g,c,cu,h1,h2,h3⟩
                      exact ⟨g,c,cu,h1,by have:=he9.size;omega,h3⟩
                     ·rw [show u'::us9 = [u']++us9 from rfl,lsOf_append,lsOf_one]
                      exact ((hS9.ext hE16).ls.append (hLu.mono (by omega) (Nat.le_refl _)) (m:=w9.heap.size) (fun q hq x hx=>((hS9.ls.all q hq).lt hx).2) (fun q hq x hx=>((hLu.all q hq).lt hx).1)).perm List.perm_append_comm
                     ·rcases List.mem_cons.1 hx with rfl|hx
                      ·rw [hu'];show ([109]++dig2 us9.length:Str).length≤_;simp [dig2]
                      ·exact hS9.nm x hx
                    refine L.o (O.fieldAddr runUnderlying25 rfl sizeOf23 rfl (L.o (O.store1 sizeOf23 hv16 rfl rfl (hC9.ext hE16) (by simp [Value.cells]) (fun w17 hu17 hB17=>?_))))
                    replace hu17:Upd b3 w16 w17:=hu17
                    have hz16:=hE16.size
                    refine L.nil (T.blk (T.again ((v16,u'::us9)) (by show 66-(us9.length+1)<66-us9.length;omega) ⟨rfl,rfl,rfl,trivial⟩ ⟨(he9.trans hE16).upd hu17 (.inr (by omega)),(hR9.ext hE16).upd hu17 (by omega),(hT9.ext hE16).upd hu17 (by omega),hB17,⟨owns_upd hS16.row hu17 hb3,hS16.ls.loc (r:=.slice (some ⟨b3,0,none⟩) 0 0) (Loc.of_upd hu17 rfl) (fun q hq x hx e=>by have e':b3=x:=Option.some.inj e;have:=((hS16.ls.all q hq).lt hx).1;omega),hS16.nm⟩,by simp,by simp;omega,by have:=hu17.size;omega⟩))
                   ·refine L.nil (T.cf (T.exit rfl (T.blk (T.meet (()) ⟨rfl,rfl,trivial⟩ (Sk.ofI he9 hR9 hC9 (hS9.mono (Nat.le_refl _) (by decide)) (by omega))))))
                  ·refine L.a rfl (L.nil (T.cf (T.skip (T.blk (T.meet (()) ⟨rfl,rfl,trivial⟩ ⟨hS8.ext,hS8.c4,r.G,r.P,r.L,_,us,hS8.c3,hS8.sk.mono (Nat.le_refl _) (by decide),by omega⟩)))))
  rintro _ w9 ⟨he9,hR9,G9,P9,L9,uv9,us9,hC9,hS9,hl9⟩
  refine T.q (L.o (O.loadAgg isAgg25 sizeOf25 rfl rfl hC9.row (?_)))
  have hv1:uv9.oneCell'=true:=Sl.one (Sl.of_owns hS9.row)
  refine L.o (O.storeAgg sizeOf25 rfl rfl rfl hR9 (Nat.le_refl _) (by intro u hu;simp at hu;rcases hu with (rfl|rfl|rfl|rfl);rfl;rfl;rfl;exact hv1) (fun w10 hu10 hB10=>?_))
  have hR10:Blk w10 b4 [.int .i64 G9,.int .i64 P9,.int .i64 L9,uv9] 25:=hB10
  replace hu10:Upd b4 w9 w10:=hu10
  have hS10:Sk w4.heap.size 16 w10 uv9 us9:=⟨owns_upd hS9.row hu10 hb4,hS9.ls.loc (r:=.slice (some ⟨b4,0,none⟩) 0 0) (Loc.of_upd hu10 rfl) (fun q hq b hb e=>by have e':b4=b:=Option.some.inj e;have:=((hS9.ls.all q hq).lt hb).1;omega),hS9.nm⟩
  obtain ⟨us',k1,_,k3⟩:=hS10.units
  refine L.nil (T.retA results77 isAgg25 sizeOf25 rfl rfl hR10.row ⟨he9.upd hu10 (.inr (by omega)),⟨G9,P9,L9,uv9,us'⟩,rfl,Units.mono k3 hz04,by show us'.length≤67;omega⟩)

end Go.Proofs.YtnlonpcbgjbbaaaGreatDoor
