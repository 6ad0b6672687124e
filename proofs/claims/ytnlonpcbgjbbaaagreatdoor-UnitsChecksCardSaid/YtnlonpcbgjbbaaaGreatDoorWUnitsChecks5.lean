/-
  UnitsChecks, part 5 of its proof: that it returns true for every input, and each argument reads behind the call as it read before. Conditions: the listed variables read as the program's text lays them (tied by the card).
-/
import Derived.Test.YtnlonpcbgjbbaaaGreatDoorWUnitsChecks4
import Derived.Test.YtnlonpcbgjbbaaaGreatDoorWUnitsChecks3
import Derived.Laws.StructEq
set_option linter.unusedVariables false
set_option linter.unusedSimpArgs false
set_option maxRecDepth 20000
set_option linter.unusedVariables false
set_option linter.unusedSimpArgs false
set_option maxRecDepth 20000
namespace Go.Proofs.YtnlonpcbgjbbaaaGreatDoor
open Go.Proofs.Tryz (call102 call142 call143 call193 call32 call78 call79 call84 call85 call86 call90 func125 func126 func134 func31 func36 func84 func85 func90 func91 func92 func93 func94 isAgg151 isAgg160 isAgg210 isAgg23 isAgg25 isAgg3 isAgg30 isAgg4 isAgg5 isAgg51 isAgg57 isAgg87 isAgg9 ntmps125 ntmps126 ntmps134 ntmps31 ntmps36 ntmps84 ntmps85 ntmps90 ntmps91 ntmps92 ntmps93 ntmps94 results125 results126 results134 results31 results36 results84 results85 results90 results91 results92 results93 results94 runUnderlying152 runUnderlying214 runUnderlying215 runUnderlying23 runUnderlying25 runUnderlying3 runUnderlying30 runUnderlying4 runUnderlying5 runUnderlying51 runUnderlying54 runUnderlying57 runUnderlying59 runUnderlying87 runUnderlying9 sizeOf160 sizeOf210 sizeOf23 sizeOf25 sizeOf3 sizeOf30 sizeOf4 sizeOf5 sizeOf51 sizeOf57 sizeOf87 sizeOf9 zeroValue151 zeroValue210 zeroValue25 zeroValue3 zeroValue30 zeroValue51)
open Go Go.E
attribute [local irreducible] Go.E.T Go.E.L Go.E.O Go.E.Ob

attribute [local irreducible] Go.E.ObX
/-- The land units of a roll. -/
def lu (r:RoV):List UnV:=r.us.take (landsN r.us)
theorem lu_len (r:RoV):(lu r).length=landsN r.us:=by rw [lu,List.length_take,Nat.min_eq_left (landsN_le _)]
theorem lu_get {r:RoV} {k:Nat} (h:k<landsN r.us):(lu r).getD k u0=r.us.getD k u0:=by
 rw [getD_get (by rw [lu_len];exact h),getD_get (Nat.lt_of_lt_of_le h (landsN_le _))];simp [lu]
open Classical in
noncomputable def totErr (r:RoV) (set:Nat):Int:=if rollErr r=0 then (if set<2 ^ landsN r.us then 0 else 2) else rollErr r
open Classical in
noncomputable def totP (r:RoV) (set:Nat):Int:=if totErr r set=0 then sumK (lu r) UnV.pp (idxs set (lu r).length) else 0
open Classical in
noncomputable def totG (r:RoV) (set:Nat):List Int:=if totErr r set=0 then sumL (lu r) UnV.gs r.G.toNat (idxs set (lu r).length) else []
open Classical in
noncomputable def totV (r:RoV) (set:Nat):List Int:=if totErr r set=0 then sumL (lu r) UnV.vs r.P.toNat (idxs set (lu r).length) else []
theorem totErr_roll {r:RoV} {set:Nat} (h:rollErr r≠0):totErr r set=rollErr r:=if_neg h
theorem totErr_arg {r:RoV} {set:Nat} (h:rollErr r=0) (h2:¬ set<2 ^ landsN r.us):totErr r set=2:=by rw [totErr,if_pos h,if_neg h2]
theorem totErr_ok {r:RoV} {set:Nat} (h:rollErr r=0) (h2:set<2 ^ landsN r.us):totErr r set=0:=by rw [totErr,if_pos h,if_pos h2]
/-- What 'Total' hands back. -/
def TotPost (r:RoV) (set:Nat) (w:World) (v:Value) (w':World):Prop :=
 Ext w w'∧∃ g x,v = .tuple #[.int .i64 (totP r set),g,x,.int .i64 (totErr r set)]∧Ints .i64 w.heap.size w' g (totG r set)∧Ints .i64 w.heap.size w' x (totV r set)
theorem TotPost.bad {r:RoV} {set:Nat} {w w':World} (h:totErr r set≠0) (he:Ext w w'):TotPost r set w (.tuple #[.int .i64 0,.slice none 0 0,.slice none 0 0,.int .i64 (totErr r set)]) w' :=
 ⟨he,_,_,by rw [totP,if_neg h],by rw [totG,if_neg h];exact Sl.nil _ _ _,by rw [totV,if_neg h];exact Sl.nil _ _ _⟩
theorem TotPost.badE {r:RoV} {set:Nat} {w w':World} {e:Int} (h:totErr r set=e) (h0:e≠0) (he:Ext w w'):TotPost r set w (.tuple #[.int .i64 0,.slice none 0 0,.slice none 0 0,.int .i64 e]) w':=by
 subst h;exact TotPost.bad h0 he
/-- What holds of each land unit of a valid roll. -/
structure UnitOk (G P:Nat) (u:UnV):Prop where
 p0:0≤u.pp
 p1:u.pp≤1000000000
 gl:u.gs.length=G
 g:∀ q,q<G→0≤u.gs.getD q 0∧u.gs.getD q 0≤u.pp
 vl:u.vs.length=P
 v:∀ q,q<P→0≤u.vs.getD q 0∧u.vs.getD q 0≤1000000000
theorem unit_ok {r:RoV} {G P k:Nat} (h:rollErr r=0) (hG:r.G=G) (hP:r.P=P) (hk:k<r.us.length):UnitOk G P (r.us.getD k u0):=by
 have hr:=right_iff.1 ((roll_of h).good k hk).right
 obtain ⟨_,h1,h2,h3,h4,_⟩:=hr
 have hv:=votes_le (r.us.getD k u0)
 have h3:=within_iff.1 h3
 have h4:=within_iff.1 h4
 refine ⟨h1,by omega,by omega,fun q hq=>h3.2 q (by omega),by omega,fun q hq=>?_⟩
 have:=h4.2 q (by omega);omega
def MadeZ (lo n:Nat) (v:Value) (w:World):Prop:=∃ b,lo≤b∧v = .slice (some ⟨b,0,none⟩) n n∧Blk w b (List.replicate n (.int .i64 0)) 3
theorem MadeZ.lt {lo n:Nat} {v:Value} {w:World} (h:MadeZ lo n v w):∀ b,v.ownBlock=some b→b<w.heap.size:=fun b hb=>by
 obtain ⟨b',_,rfl,h3⟩:=h
 cases hb;exact h3.lt
theorem idx_ok {r:RoV} {G P set:Nat} (h:rollErr r=0) (hG:r.G=G) (hP:r.P=P) {ks:List Nat} (hk:∀ k∈ks,k∈idxs set (lu r).length):∀ k∈ks,UnitOk G P ((lu r).getD k u0):=fun k hkk=>by
 have hlt:=idxs_lt (hk k hkk)
 rw [lu_len] at hlt
 rw [lu_get hlt]
 exact unit_ok h hG hP (Nat.lt_of_lt_of_le hlt (landsN_le _))
theorem idxs_len_le {set n:Nat} {done rem:List Nat} (h:done++rem=idxs set n):done.length≤n:=by
 have h1:=idxs_len set n
 rw [← h,List.length_append] at h1;omega
/-- Only block b may have turned; it is not turned again. -/
structure But1 (b:Nat) (t:TypeId) (w w':World):Prop where
 os:w'.os=w.os
 tape:w'.tape=w.tape
 output:w'.output=w.output
 size:w.heap.size≤w'.heap.size
 block:∀ k,k≠b→k<w.heap.size→w'.heap[k]?=w.heap[k]?
 once:Blk w b [.slice none 0 0] t∨w'.heap[b]?=w.heap[b]?
theorem But1.of_ext {b:Nat} {t:TypeId} {w w':World} (h:Ext w w') (hb:b<w.heap.size):But1 b t w w':=⟨h.os,h.tape,h.output,h.size,fun k _ hk=>h.block k (Nat.zero_le _) hk,.inr (h.block b (Nat.zero_le _) hb)⟩
theorem But1.blk {b k:Nat} {t t':TypeId} {w w':World} {cs:List Value} (h:But1 b t w w') (hk:k≠b) (hB:Blk w k cs t'):Blk w' k cs t':=(h.block k hk hB.lt).trans hB
/-- The world behind a region that makes two slices and keeps the first. -/
def Inv1 (b:Nat) (w:World):Nat→World→Prop
 | 0,W=>Ext w W
 | _,W=>∃ W1,Ext w W1∧∃ W2,Upd b W1 W2∧Ext W2 W
theorem Inv1.ext {b c:Nat} {w W W':World} (h:Inv1 b w c W) (he:Ext W W'):Inv1 b w c W':=by
 cases c with
 | zero=>exact Keep.trans h he
 | succ c=>obtain ⟨W1,h1,W2,h2,h3⟩:=h;exact ⟨W1,h1,W2,h2,h3.trans he⟩
theorem Inv1.size {b c:Nat} {w W:World} (h:Inv1 b w c W):w.heap.size≤W.heap.size:=by
 cases c with
 | zero=>exact Keep.size h
 | succ c=>obtain ⟨W1,h1,W2,h2,h3⟩:=h;have:=h1.size;have:=h2.size;have:=h3.size;omega
theorem Inv1.blk {b c k:Nat} {t:TypeId} {w W:World} {cs:List Value} (h:Inv1 b w c W) (hk:k≠b) (hB:Blk w k cs t):Blk W k cs t:=by
 cases c with
 | zero=>exact Blk.ext hB h
 | succ c=>obtain ⟨W1,h1,W2,h2,h3⟩:=h;exact ((hB.ext h1).upd h2 hk).ext h3
theorem Inv1.start {b:Nat} {t:TypeId} {w W:World} {cs:List Value} (h:Inv1 b w 0 W) (hB:Blk w b cs t):Blk W b cs t:=Blk.ext hB h
theorem Inv1.from {b c:Nat} {w0 w W:World} (h:Inv1 b w c W) (h0:Ext w0 w) (hb:w0.heap.size≤b):Ext w0 W:=by
 cases c with
 | zero=>exact h0.trans h
 | succ c=>obtain ⟨W1,h1,W2,h2,h3⟩:=h;exact ((h0.trans h1).upd h2 (.inr hb)).trans h3
theorem MadeZ.but {b lo n:Nat} {t:TypeId} {v:Value} {w w':World} (hl:b<lo) (h:But1 b t w w') (hm:MadeZ lo n v w):MadeZ lo n v w':=by
 obtain ⟨b',h1,h2,h3⟩:=hm
 exact ⟨b',h1,h2,h.blk (by omega) h3⟩
/-- What holds between the rounds of 'Total'. -/
structure TotI (r:RoV) (set G P b4 b5 b6 bg bv bf bm:Nat) (w w15:World) (rem:List Nat) (S:Nat→Prop) (w':World):Prop where
 ext:Ext w w'
 size:w15.heap.size≤w'.heap.size
 new:∀ k,S k→w15.heap.size≤k∧k<w'.heap.size
 fn:∃ t,Blk w' bf [.func (.func 142) #[] #[]] t
 b5:Blk w' b5 [.slice (some ⟨bg,0,none⟩) G G] 30
 b6:Blk w' b6 [.slice (some ⟨bv,0,none⟩) P P] 30
 ml:Blk w' bm [lv r] 23
 ms:Blk w' (bm+1) [.int .u64 set] 151
 sums:∃ done:List Nat,done++rem=idxs set (lu r).length∧Blk w' b4 [.int .i64 (sumK (lu r) UnV.pp done)] 3∧Blk w' bg ((sumL (lu r) UnV.gs G done).map (Value.int .i64)) 3∧Blk w' bv ((sumL (lu r) UnV.vs P done).map (Value.int .i64)) 3
theorem TotI.of_ext {r:RoV} {set G P b4 b5 b6 bg bv bf bm:Nat} {w w15 W W':World} {rem:List Nat} {S S':Nat→Prop} (h:TotI r set G P b4 b5 b6 bg bv bf bm w w15 rem S W) (he:Ext W W') (hS:∀ k,S' k→S k∨W.heap.size≤k∧k<W'.heap.size):TotI r set G P b4 b5 b6 bg bv bf bm w w15 rem S' W':=by
 obtain ⟨h1,h2,h3,⟨t,h4⟩,h5,h6,h7,h8,done,h9,h10,h11,h12⟩:=h
 have hz:=he.size
 refine ⟨h1.trans he,by omega,fun k hk=>?_,⟨t,h4.ext he⟩,h5.ext he,h6.ext he,h7.ext he,h8.ext he,done,h9,h10.ext he,h11.ext he,h12.ext he⟩
 rcases hS k hk with h|h
 ·have:=h3 k h;omega
 ·omega
theorem TotI.of_upd {r:RoV} {set G P b4 b5 b6 bg bv bf bm b:Nat} {w w15 W W':World} {rem:List Nat} {S:Nat→Prop} (h:TotI r set G P b4 b5 b6 bg bv bf bm w w15 rem S W) (hb:S b) (hu:Upd b W W') (hl:w.heap.size≤w15.heap.size∧b4<w15.heap.size∧b5<w15.heap.size∧b6<w15.heap.size∧bg<w15.heap.size∧bv<w15.heap.size∧bf<w15.heap.size∧bm+1<w15.heap.size):TotI r set G P b4 b5 b6 bg bv bf bm w w15 rem S W':=by
 obtain ⟨h1,h2,h3,⟨t,h4⟩,h5,h6,h7,h8,done,h9,h10,h11,h12⟩:=h
 have hb':=h3 b hb
 have hz:=hu.size
 exact ⟨h1.upd hu (.inr (by omega)),by omega,fun k hk=>by rw [hz];exact h3 k hk,⟨t,h4.upd hu (by omega)⟩,h5.upd hu (by omega),h6.upd hu (by omega),h7.upd hu (by omega),h8.upd hu (by omega),done,h9,h10.upd hu (by omega),h11.upd hu (by omega),h12.upd hu (by omega)⟩
theorem ext_of_same {b:Nat} {cs:List Value} {t:TypeId} {w w':World} (hu:Upd b w w') (h:Blk w b cs t) (h':Blk w' b cs t):Ext w w' :=
 ⟨hu.os,hu.tape,hu.output,Nat.le_of_eq hu.size.symm,fun k _ _=>by
  by_cases e:k=b
  ·subst e;exact h'.trans h.symm
  ·exact hu.block k e⟩
theorem blk_ne {w:World} {b b':Nat} {cs cs':List Value} {t t':TypeId} (h:Blk w b cs t) (h':Blk w b' cs' t') (hne:cs≠cs'):b≠b':=fun e=>by
 subst e
 have:=h.symm.trans h'
 simp only [Option.some.injEq,Obj.cells.injEq] at this
 exact hne (by simpa using this.1)
theorem cells_ne_ints (u:UnV) (xs:List Int):u.cells≠xs.map (Value.int .i64):=fun e=>by
 have:str u.nm∈xs.map (Value.int .i64):=e▸(by simp [UnV.cells])
 obtain ⟨_,_,h⟩:=List.mem_map.1 this
 cases h
theorem val_cells {u v:UnV} (h:u.val=v.val):u.cells=v.cells:=by
 have:=congrArg Value.cells h
 simpa [UnV.val,Value.cells] using this
theorem Total_calls (lo:Nat) (r:RoV) (set:Nat) (w:World) (hr:r.ok lo w) (hset:set<18446744073709551616) :
  Calls Tryz.prog 90 #[r.val,.int .u64 set] w (Ret fun v w'=>TotPost r set w v w'):=by
 refine T.enterM (vs:=[r.val,.int .u64 set]) func90 rfl ntmps90 rfl ?_
 refine T.q (L.o (O.box rfl (fun b2 w2 hb2 hz2 he2 hB2=>?_)))
 refine L.o (O.alloc zeroValue3 (fun b4 w4 hb4 hz4 he4 hB4=>?_))
 refine L.o (O.alloc zeroValue30 (fun b5 w5 hb5 hz5 he5 hB5=>?_))
 refine L.o (O.alloc zeroValue30 (fun b6 w6 hb6 hz6 he6 hB6=>?_))
 have he06:=((he2.trans he4).trans he5).trans he6
 have hC6:Blk w6 b2 r.cells 25:=((Blk.ext (cs:=r.cells) hB2 he4).ext he5).ext he6
 have hB46:Blk w6 b4 [.int .i64 0] 3:=(hB4.ext he5).ext he6
 have hB56:Blk w6 b5 [.slice none 0 0] 30:=hB5.ext he6
 have hB66:Blk w6 b6 [.slice none 0 0] 30:=hB6
 refine L.a rfl (L.nil (T.seq (T.q (L.o (O.loadAgg isAgg25 sizeOf25 rfl rfl hC6.row (L.o (O.call (xs:=[.tmp 14]) call32 rfl rfl (CheckRoll_calls lo r w6 (hr.ext he06)) (fun v7 w7 hq=>?_))))))))
 obtain ⟨rfl,he7⟩:=hq
 have he07:=he06.trans he7
 refine L.a rfl (L.nil (T.q (L.m rfl (L.o (O.neq_s rfl rfl (fun h0=>?_) (fun h0=>?_))))))
 ·refine L.nil (T.ct (T.q (L.m rfl (L.o (O.store1 sizeOf3 rfl rfl rfl (hB46.ext he7) (by simp [Value.cells]) (fun w8 hu8 hB8=>?_))))))
  refine L.o (O.store1 sizeOf30 rfl rfl rfl ((hB56.ext he7).upd hu8 (by omega)) (by simp [Value.cells]) (fun w9 hu9 hB9=>?_))
  refine L.o (O.store1 sizeOf30 rfl rfl rfl (((hB66.ext he7).upd hu8 (by omega)).upd hu9 (by omega)) (by simp [Value.cells]) (fun w10 hu10 hB10=>?_))
  refine L.a rfl (L.nil (T.retC3T results90 isAgg3 isAgg30 isAgg30 rfl rfl rfl rfl (Opn.nil _) (fun w' hs=>⟨((Keep.refl 0 w10).shut hs (fun r hr=>by cases hr)).cell (Nat.zero_le _) (((hB8.upd hu9 (by omega)).upd hu10 (by omega)).cell rfl),((Keep.refl 0 w10).shut hs (fun r hr=>by cases hr)).cell (Nat.zero_le _) ((hB9.upd hu10 (by omega)).cell rfl),((Keep.refl 0 w10).shut hs (fun r hr=>by cases hr)).cell (Nat.zero_le _) (hB10.cell rfl)⟩) (fun w' hs=>TotPost.badE (totErr_roll h0) h0 ((((he07.upd hu8 (.inr (by omega))).upd hu9 (.inr (by omega))).upd hu10 (.inr (by omega))).shut hs (fun r hr=>by cases hr)))))
 ·refine L.nil (?_)
  have h0n:rollErr r=0:=by omega
  refine T.cf (T.skip (T.q (L.o (O.loadAgg isAgg25 sizeOf25 rfl rfl ((hC6.ext he7).row) (L.o (O.call (xs:=[.tmp 19]) call102 rfl rfl (land_calls lo r w7 (hr.ext he07)) (fun v8 w8 hq=>?_)))))))
  obtain ⟨rfl,he8⟩:=hq
  have he08:=he07.trans he8
  have he68:=he7.trans he8
  have hU8:Units lo w8 (lv r) (r.us.take (landsN r.us)):=lv_units (hr.ext he08)
  have hll:(r.us.take (landsN r.us)).length=landsN r.us:=lu_len r
  have hln:=landsN_le r.us
  have hbnd:=roll_bnd h0
  refine L.a rfl (L.nil (T.seq (T.q (L.m rfl (L.o (O.len runUnderlying23 rfl (Sl.val hU8.sl) (?_)))))))
  rw [hll]
  refine L.a rfl (L.nil (?_))
  refine T.join (σ:=Unit) (fun _=>[(1,.int .u64 set),(2,.pointer (some ⟨b2,0,none⟩)),(4,.pointer (some ⟨b4,0,none⟩)),(5,.pointer (some ⟨b5,0,none⟩)),(6,.pointer (some ⟨b6,0,none⟩)),(7,.int .i64 0),(9,lv r)]) (fun _ w'=>w'=w8∧set<2 ^ landsN r.us) ?_ ?_
  ·refine T.q (L.m rfl (L.o (O.lss_s rfl rfl (fun h64=>?_) (fun h64=>?_))))
   ·refine L.m rfl (L.m rfl (L.m rfl (L.o (O.shr_u64 rfl rfl rfl hset (by omega) (L.o (O.neq_s rfl rfl (fun hbad=>?_) (fun hbad=>?_)))))))
    ·have hnf:¬ set<2 ^ landsN r.us:=fun h=>by
      rw [Int.toNat_natCast] at hbad
      have:=(Nat.div_eq_zero_iff_lt (Nat.pow_pos (by decide):0<2 ^ landsN r.us)).2 h
      omega
     refine L.o (O.pick_true rfl rfl (L.nil (T.ct (T.q (L.o (O.store1 sizeOf3 rfl rfl rfl (hB46.ext he68) (by simp [Value.cells]) (fun w18 hu18 hB18=>?_)))))))
     refine L.o (O.store1 sizeOf30 rfl rfl rfl ((hB56.ext he68).upd hu18 (by omega)) (by simp [Value.cells]) (fun w19 hu19 hB19=>?_))
     refine L.o (O.store1 sizeOf30 rfl rfl rfl (((hB66.ext he68).upd hu18 (by omega)).upd hu19 (by omega)) (by simp [Value.cells]) (fun w20 hu20 hB20=>?_))
     refine L.a rfl (L.nil (T.retC3T results90 isAgg3 isAgg30 isAgg30 rfl rfl rfl rfl (Opn.nil _) (fun w' hs=>⟨((Keep.refl 0 w20).shut hs (fun r hr=>by cases hr)).cell (Nat.zero_le _) (((hB18.upd hu19 (by omega)).upd hu20 (by omega)).cell rfl),((Keep.refl 0 w20).shut hs (fun r hr=>by cases hr)).cell (Nat.zero_le _) ((hB19.upd hu20 (by omega)).cell rfl),((Keep.refl 0 w20).shut hs (fun r hr=>by cases hr)).cell (Nat.zero_le _) (hB20.cell rfl)⟩) (fun w' hs=>TotPost.badE (totErr_arg h0 hnf) (by decide) ((((he08.upd hu18 (.inr (by omega))).upd hu19 (.inr (by omega))).upd hu20 (.inr (by omega))).shut hs (fun r hr=>by cases hr)))))
    ·refine L.o (O.pick_true rfl rfl (L.nil (T.cf (T.skip (T.meet (()) ⟨rfl,rfl,rfl,rfl,rfl,rfl,rfl,trivial⟩ ⟨rfl,?_⟩)))))
     ·rw [Int.toNat_natCast] at hbad
      exact (Nat.div_eq_zero_iff_lt (Nat.pow_pos (by decide))).1 (by omega)
   ·refine L.m rfl (L.p (L.p (L.p (L.p (L.o (O.pick_false rfl rfl (L.nil (T.cf (T.skip (T.meet (()) ⟨rfl,rfl,rfl,rfl,rfl,rfl,rfl,trivial⟩ ⟨rfl,?_⟩))))))))))
    ·rw [show landsN r.us=64 by omega];exact hset
  rintro _ w9 ⟨rfl,hfit⟩
  obtain ⟨G,hG⟩:∃ G:Nat,r.G=G:=⟨r.G.toNat,by omega⟩
  obtain ⟨Pn,hP⟩:∃ Pn:Nat,r.P=Pn:=⟨r.P.toNat,by omega⟩
  have hz06:=he06.size
  have hz68:=he68.size
  have hb2:b2<w6.heap.size:=hC6.lt
  have hB59:Blk w9 b5 [.slice none 0 0] 30:=hB56.ext he68
  have hC9:Blk w9 b2 r.cells 25:=hC6.ext he68
  refine T.seq (?_)
  refine T.anyF mixed 7 1 [2,5] rfl [.is _,.is _,.such (MadeZ w9.heap.size G),.is _,.is _,.such (MadeZ w9.heap.size Pn),.is undef] [[],[0],[1],[],[3],[4],[2]] [none,none,none,none,none,none,some 0] [[],[0],[0,1],[],[3],[3,4],[0,1,2],[0,1,2,3,4,5,6]] [2,5] [(6,2,33)] (fun _ _ u _ W=>u ≠ .slice none 0 0∧Blk W b5 [u] 30) (Inv1 b5 w9) (But1 b5 30) (fun i f v w hi hf hh=>by { rcases (show i=2∨i=5 by simpa using hi) with rfl|rfl <;> (simp only [List.getElem?_cons_succ,List.getElem?_cons_zero,Option.some.injEq] at hf;subst hf;exact MadeZ.lt hh) }) (fun i j vi vj W W' hr h=>⟨h.1,by { rcases hr.once with h1|h1;exact absurd (by have:=h1.symm.trans h.2;simpa using this) h.1.symm;exact h1.trans h.2 }⟩) (by kernel_rfl) (by kernel_rfl) (by kernel_rfl) (by kernel_rfl) rfl ⟨fun _ _ _ h hm=>MadeZ.but (by omega) h hm,fun _ _ _ h hm=>MadeZ.but (by omega) h hm,trivial⟩ (Keep.drew _ _) ⟨fun c wx hx=>ObX.op rfl (O.fieldAddr runUnderlying25 rfl sizeOf3 rfl ⟨⟨But1.of_ext (Keep.refl _ _) (by have:=hx.size;omega),hx⟩,rfl,trivial,trivial⟩),
    fun c wx hx=>ObX.op rfl (O.load isAgg3 rfl ((hx.blk (by omega) hC9).cell rfl) ⟨⟨But1.of_ext (Keep.refl _ _) (by have:=hx.size;omega),hx⟩,rfl,trivial,trivial⟩),
    fun c wx hx=>ObX.op rfl (O.makeSlice runUnderlying30 Tryz.typeInfo3 sizeOf3 zeroValue3 rfl rfl hG (by show G*8≤_;omega) (by omega) (fun b3 w3 hb3 hz3 he3 hB3=>and3 ⟨⟨But1.of_ext he3 (by have:=hx.size;omega),hx.ext he3⟩,b3,by have:=hx.size;omega,rfl,hB3⟩ ⟨fun b h=>by { cases h;exact Nat.le_of_eq hb3.symm },trivial⟩)),
    fun c wx hx=>ObX.op rfl (O.fieldAddr runUnderlying25 rfl sizeOf3 rfl ⟨⟨But1.of_ext (Keep.refl _ _) (by have:=hx.size;omega),hx⟩,rfl,trivial,trivial⟩),
    fun c wx hx=>ObX.op rfl (O.load isAgg3 rfl ((hx.blk (by omega) hC9).cell rfl) ⟨⟨But1.of_ext (Keep.refl _ _) (by have:=hx.size;omega),hx⟩,rfl,trivial,trivial⟩),
    fun c wx hx=>ObX.op rfl (O.makeSlice runUnderlying30 Tryz.typeInfo3 sizeOf3 zeroValue3 rfl rfl hP (by show Pn*8≤_;omega) (by omega) (fun b3 w3 hb3 hz3 he3 hB3=>and3 ⟨⟨But1.of_ext he3 (by have:=hx.size;omega),hx.ext he3⟩,b3,by have:=hx.size;omega,rfl,hB3⟩ ⟨fun b h=>by { cases h;exact Nat.le_of_eq hb3.symm },trivial⟩)),
    fun wx hx v33 hv33=>by { obtain ⟨bq,hbq,rfl,hBq⟩:=hv33;exact ObX.op rfl (O.store1 sizeOf30 rfl rfl rfl (hx.start hB59) (by simp [Value.cells]) (fun w3 hu3 hB3=>and3 ⟨⟨⟨hu3.os,hu3.tape,hu3.output,Nat.le_of_eq hu3.size.symm,fun k hk _=>hu3.block k hk,.inl (hx.start hB59)⟩,⟨_,hx,_,hu3,Keep.refl _ _⟩⟩,rfl⟩ ⟨trivial,fun u hu=>by { cases hu;exact ⟨by simp,hB3⟩ }⟩)) },
    trivial⟩ (fun w10 hI10 v33 hv33 v36 hv36 hp10=>?_)
  obtain ⟨vj,hvj,hfr,_⟩:=hp10 2 5 _ _ _ _ (by decide) (by decide) rfl rfl rfl rfl
  obtain rfl:=hvj _ _ rfl rfl
  obtain ⟨_,_,_,hlk⟩:=hp10 2 6 _ _ _ _ (by decide) (by decide) rfl rfl rfl rfl
  have hB510:=(hlk rfl).2
  obtain ⟨bg,hbg,rfl,hBg⟩:=hv33
  obtain ⟨bv,hbv,rfl,hBv⟩:=hv36
  have hne:bg≠bv:=fun e=>hfr bg rfl (by rw [e];rfl)
  have he010:Ext w w10:=hI10.from he08 (by have:=he2.size;have:=he4.size;omega)
  have hz10:=hI10.size
  have hB69:Blk w9 b6 [.slice none 0 0] 30:=hB66.ext he68
  have hB49:Blk w9 b4 [.int .i64 0] 3:=hB46.ext he68
  refine L.o (O.store1 sizeOf30 rfl rfl rfl (hI10.blk (by omega) hB69) (by simp [Value.cells]) (fun w12 hu12 hB12=>?_))
  have hz08:=he08.size
  have hlg:=hBg.lt
  have hlv:=hBv.lt
  have hz12:=hu12.size
  have he012:Ext w w12:=he010.upd hu12 (.inr (by omega))
  refine L.nil (T.q (L.o (O.alloc zeroValue210 (fun b13 w13 hb13 hz13 he13 hB13=>?_))))
  refine L.o (O.store1 sizeOf210 rfl rfl rfl hB13 (by simp [Value.cells]) (fun w14 hu14 hB14=>?_))
  have hz14:=hu14.size
  have he1214:Ext w12 w14:=he13.upd hu14 (.inr (by omega))
  have he014:=he012.trans he1214
  have hU14:Units lo w14 (lv r) (lu r):=lv_units (hr.ext he014)
  refine L.nil (T.seq (T.q (L.m rfl (L.m rfl (L.o (O.call (xs:=[.tmp 37,.tmp 38]) call143 rfl rfl (members_calls lo (lv r) (lu r) set w14 hU14) (fun v15 w15 hq=>?_)))))))
  obtain ⟨rfl,he15,hBl15,hBs15⟩:=hq
  have hz15:=he15.size
  have hll64:(lu r).length≤64:=by rw [lu_len];omega
  have hll2:=lu_len r
  have hbl:=hBl15.lt
  have hbs:=hBs15.lt
  have he015:=he014.trans he15
  have hB415:Blk w15 b4 [.int .i64 0] 3:=(((hI10.blk (by omega) hB49).upd hu12 (by omega)).ext he1214).ext he15
  have hB515:Blk w15 b5 [.slice (some ⟨bg,0,none⟩) G G] 30:=((hB510.upd hu12 (by omega)).ext he1214).ext he15
  have hB615:Blk w15 b6 [.slice (some ⟨bv,0,none⟩) Pn Pn] 30:=(hB12.ext he1214).ext he15
  have hBg15:Blk w15 bg ((sumL (lu r) UnV.gs G []).map (Value.int .i64)) 3:=by rw [sumL_nil,List.map_replicate];exact ((hBg.upd hu12 (by omega)).ext he1214).ext he15
  have hBv15:Blk w15 bv ((sumL (lu r) UnV.vs Pn []).map (Value.int .i64)) 3:=by rw [sumL_nil,List.map_replicate];exact ((hBv.upd hu12 (by omega)).ext he1214).ext he15
  have hB1115:∃ t,Blk w15 b13 [.func (.func 142) #[] #[]] t:=⟨_,hB14.ext he15⟩
  refine L.nil (T.block (?_))
  refine T.rangeFuncM2 (e1:=fun v x=>[(4,.pointer (some ⟨b4,0,none⟩)),(5,.pointer (some ⟨b5,0,none⟩)),(6,.pointer (some ⟨b6,0,none⟩)),(11,.pointer (some ⟨b13,0,none⟩)),(13,.pointer (some ⟨x,0,none⟩))]) (fun rem S w'=>TotI r set G Pn b4 b5 b6 bg bv b13 w14.heap.size w w15 rem S w') (fun _ _ _=>False) (fun v x w'=>∃ u:UnV,v.2=u.val∧Blk w' x u.cells 51) rfl call193 rfl rfl (members_seq w14.heap.size (w14.heap.size+1) lo (lv r) (lu r) set hll64 hset) ?_ ?_ ?_ ?_ ?_ ?_ ?_ ?_ ?_ ?_ ?_
  ·exact ⟨fun i S S' W W' h he hS=>h.of_ext he hS,fun i S W W' b h hb hu=>h.of_upd hb hu (by omega)⟩
  ·exact fun _ _ _ _ _ h _ _=>h.elim
  ·exact fun i S W h=>⟨lv_units (hr.ext h.ext),h.ml,h.ms⟩
  ·exact ⟨he015,Nat.le_refl _,fun k hk=>hk.elim,hB1115,hB515,hB615,hBl15,hBs15,[],rfl,hB415,hBg15,hBv15⟩
  ·exact fun k hk=>hk.elim
  ·exact fun W hW=>trivial
  ·rintro v x W W' b' ⟨u,h1,h2⟩ hne hu
   exact ⟨u,h1,h2.upd hu (Ne.symm hne)⟩
  ·intro l Q i j v k W hn hK
   obtain ⟨k,_,hk,rfl⟩:=hn
   refine T.region (L.o (O.alloc zeroValue51 (fun b16 w16 hb16 hz16 he16 hB16=>?_)))
   refine L.o (O.storeAgg sizeOf51 rfl rfl rfl hB16 (Nat.le_refl _) ((lv_units hr).at (show k<(r.us.take (landsN r.us)).length from hk)).one (fun w17 hu17 hB17=>?_))
   refine L.nil (T.sub ?_ (hK b16 _ (by omega) (he16.upd hu17 (.inr (by omega))) ⟨_,rfl,hB17⟩))
   exact ⟨rfl,rfl,rfl,rfl,rfl,trivial⟩
  ·rintro l rem v x rem' S w18 ⟨k,rfl,hk,rfl⟩ ⟨heI,hzI,hnI,⟨tf,hfI⟩,h5I,h6I,hmlI,hmsI,done,hdI,h4I,hgI,hvI⟩ ⟨u,hu,hBx18⟩
   rw [← val_cells hu] at hBx18
   have hkk:∀ j∈done ++ [k],j∈idxs set (lu r).length:=fun j hj=>by rw [← hdI];simp at hj ⊢;rcases hj with h|h;exact .inl h;exact .inr (.inl h)
   have hok:=idx_ok h0n hG hP hkk
   have hokk:=hok k (by simp)
   have hokd:∀ j∈done,UnitOk G Pn ((lu r).getD j u0):=fun j hj=>hok j (by simp [hj])
   have hdl:=idxs_len_le hdI
   have hat:=(lv_units hr).at (show k<(r.us.take (landsN r.us)).length from hk)
   have hp1:=sumK_le (lu r) UnV.pp 1000000000 (by decide) done (fun j hj=>⟨(hokd j hj).p0,(hokd j hj).p1⟩)
   have hk0:=hokk.p0
   have hk1:=hokk.p1
   have hdl2:(done.length:Int)*1000000000≤64000000000:=by omega
   refine T.block (T.q (L.o (O.load isAgg3 rfl (h4I.cell rfl) (L.o (O.fieldAddr runUnderlying51 rfl sizeOf3 rfl (L.o (O.load isAgg3 rfl (hBx18.cell rfl) (L.o (O.add64 rfl rfl (by omega) (L.o (O.store1 sizeOf3 rfl rfl rfl h4I (by simp [Value.cells]) (fun w20 hu20 hB20=>?_))))))))))))
   have hx4:x≠b4:=blk_ne hBx18 h4I (cells_ne_ints _ [_])
   have hxg:x≠bg:=blk_ne hBx18 hgI (cells_ne_ints _ _)
   have hxv:x≠bv:=blk_ne hBx18 hvI (cells_ne_ints _ _)
   have hx20:=hBx18.upd hu20 hx4
   have hgd:∀ q,q<G→0≤(sumL (lu r) UnV.gs G done).getD q 0∧(sumL (lu r) UnV.gs G done).getD q 0≤64000000000:=fun q hq=>by
    rw [sumL_get hq]
    have:=sumK_le (lu r) (fun u=>u.gs.getD q 0) 1000000000 (by decide) done (fun j hj=>⟨((hokd j hj).g q hq).1,by have:=((hokd j hj).g q hq).2;have:=(hokd j hj).p1;omega⟩)
    omega
   have hvd:∀ q,q<Pn→0≤(sumL (lu r) UnV.vs Pn done).getD q 0∧(sumL (lu r) UnV.vs Pn done).getD q 0≤64000000000:=fun q hq=>by
    rw [sumL_get hq]
    have:=sumK_le (lu r) (fun u=>u.vs.getD q 0) 1000000000 (by decide) done (fun j hj=>(hokd j hj).v q hq)
    omega
   have hbg2:∀ j,j<G → -1000000000000≤(sumL (lu r) UnV.gs G done).getD j 0∧(sumL (lu r) UnV.gs G done).getD j 0≤1000000000000 ∧ -1000000000000≤((lu r).getD k u0).gs.getD j 0∧((lu r).getD k u0).gs.getD j 0≤1000000000000:=fun j hj=>⟨by have:=hgd j hj;omega,by have:=hgd j hj;omega,by have:=(hokk.g j hj).1;omega,by have:=(hokk.g j hj).2;omega⟩
   have hbv2:∀ j,j<Pn → -1000000000000≤(sumL (lu r) UnV.vs Pn done).getD j 0∧(sumL (lu r) UnV.vs Pn done).getD j 0≤1000000000000 ∧ -1000000000000≤((lu r).getD k u0).vs.getD j 0∧((lu r).getD k u0).vs.getD j 0≤1000000000000:=fun j hj=>⟨by have:=hvd j hj;omega,by have:=hvd j hj;omega,by have:=(hokk.v j hj).1;omega,by have:=(hokk.v j hj).2;omega⟩
   have he20:Ext w w20:=heI.upd hu20 (.inr (by omega))
   refine L.nil (T.q (L.o (O.load isAgg210 rfl ((hfI.upd hu20 (by omega)).cell rfl) (L.o (O.load isAgg30 rfl ((h5I.upd hu20 (by omega)).cell rfl) (L.o (O.fieldAddr runUnderlying51 rfl sizeOf30 rfl (L.o (O.load isAgg30 rfl (hx20.cell rfl) (L.o (O.call (xs:=[.tmp 47,.tmp 49]) call142 rfl rfl (addTo_calls lo bg _ G ((lu r).getD k u0).gv (sumL (lu r) UnV.gs G done) ((lu r).getD k u0).gs w20 w (hgI.upd hu20 (by omega)) (sumL_len _ _ _ _) hokk.gl (by omega) hat.g he20 (by omega) hbg2) (fun v21 w21 hq=>?_))))))))))))
   obtain ⟨rfl,hu21,hB21⟩:=hq
   rw [addAt_sum hokk.gl] at hB21
   have he21:Ext w w21:=he20.upd hu21 (.inr (by omega))
   have hx21:=hx20.upd hu21 hxg
   refine L.nil (T.region (L.o (O.load isAgg210 rfl (((hfI.upd hu20 (by omega)).upd hu21 (by omega)).cell rfl) (L.o (O.load isAgg30 rfl (((h6I.upd hu20 (by omega)).upd hu21 (by omega)).cell rfl) (L.o (O.fieldAddr runUnderlying51 rfl sizeOf30 rfl (L.o (O.load isAgg30 rfl (hx21.cell rfl) (L.o (O.call (xs:=[.tmp 52,.tmp 54]) call142 rfl rfl (addTo_calls lo bv _ Pn ((lu r).getD k u0).vv (sumL (lu r) UnV.vs Pn done) ((lu r).getD k u0).vs w21 w ((hvI.upd hu20 (by omega)).upd hu21 (by omega)) (sumL_len _ _ _ _) hokk.vl (by omega) hat.v he21 (by omega) hbv2) (fun v22 w22 hq=>?_))))))))))))
   obtain ⟨rfl,hu22,hB22⟩:=hq
   rw [addAt_sum hokk.vl] at hB22
   have hs22:w22.heap.size=w18.heap.size:=by rw [hu22.size,hu21.size,hu20.size]
   refine L.nil (T.blk (T.roundEnd ⟨⟨he21.upd hu22 (.inr (by omega)),by omega,fun j hj=>by rw [hs22];exact hnI j hj,⟨tf,((hfI.upd hu20 (by omega)).upd hu21 (by omega)).upd hu22 (by omega)⟩,((h5I.upd hu20 (by omega)).upd hu21 (by omega)).upd hu22 (by omega),((h6I.upd hu20 (by omega)).upd hu21 (by omega)).upd hu22 (by omega),((hmlI.upd hu20 (by omega)).upd hu21 (by omega)).upd hu22 (by omega),((hmsI.upd hu20 (by omega)).upd hu21 (by omega)).upd hu22 (by omega),done ++ [k],by rw [List.append_assoc];exact hdI,?_,hB21.upd hu22 (by omega),hB22⟩,fun j hj=>?_⟩))
   ·rw [sumK_append,sumK_one];exact (hB20.upd hu21 (by omega)).upd hu22 (by omega)
   ·have:=hnI j hj
    rw [hu22.block j (by omega),hu21.block j (by omega),hu20.block j (by omega)]
  ·rintro S D w18 hD hS0 hSD ⟨heI,hzI,hnI,⟨tf,hfI⟩,h5I,h6I,hmlI,hmsI,done,hdI,h4I,hgI,hvI⟩ hD18
   rw [List.append_nil] at hdI
   refine T.blk (T.seq (?_))
   refine T.anyE mixed 5 [4,5,6] rfl [.is _,.is _,.is _,.is undef,.is undef] [[],[],[],[0],[1]] [[],[],[],[0],[0,1,3],[0,1,2,3,4],[0,1,2,3,4,5]] (by kernel_rfl) (by kernel_rfl) rfl (by kernel_rfl) trivial ⟨fun wx hx=>Ob.o (O.load isAgg3 rfl ((h4I.ext hx).cell rfl) kR),
     fun wx hx=>Ob.o (O.load isAgg30 rfl ((h5I.ext hx).cell rfl) kR),
     fun wx hx=>Ob.o (O.load isAgg30 rfl ((h6I.ext hx).cell rfl) kR),
     fun wx hx=>Ob.o (O.store1 sizeOf3 rfl rfl rfl (h4I.ext hx) (by simp [Value.cells]) (fun w3 hu3 hB3=>⟨ext_of_same hu3 (h4I.ext hx) hB3,rfl⟩)),
     fun wx hx=>Ob.o (O.store1 sizeOf30 rfl rfl rfl (h5I.ext hx) (by simp [Value.cells]) (fun w3 hu3 hB3=>⟨ext_of_same hu3 (h5I.ext hx) hB3,rfl⟩)),
     trivial⟩ (fun w30 he30=>?_)
   refine L.o (O.store1 sizeOf30 rfl rfl rfl (h6I.ext he30) (by simp [Value.cells]) (fun w31 hu31 hB31=>?_))
   have he31:=ext_of_same hu31 (h6I.ext he30) hB31
   have he1831:=he30.trans he31
   have hD31:=he1831.blk (Nat.zero_le _) hD18
   have hz31:=he1831.size
   refine L.a rfl (L.nil (T.retC3T results90 isAgg3 isAgg30 isAgg30 rfl rfl rfl rfl ⟨List.nodup_cons.2 ⟨List.not_mem_nil,List.nodup_nil⟩,fun r hr=>by rw [List.mem_singleton] at hr;subst hr;exact hD31⟩ (fun w' hs=>⟨(hs.block b4 (by simp;omega)).trans (h4I.ext he1831) |> fun h=>Blk.cell (b:=b4) h rfl,(hs.block b5 (by simp;omega)).trans (h5I.ext he1831) |> fun h=>Blk.cell (b:=b5) h rfl,(hs.block b6 (by simp;omega)).trans (h6I.ext he1831) |> fun h=>Blk.cell (b:=b6) h rfl⟩) (fun w' hs=>⟨(heI.trans he1831).shut hs (fun q hq=>by rw [List.mem_singleton] at hq;subst hq;exact .inr (by omega)),_,_,by rw [totErr_ok h0n hfit,totP,if_pos (totErr_ok h0n hfit),← hdI],?_,?_⟩)))
   ·rw [totG,if_pos (totErr_ok h0n hfit),← hdI,hG,Int.toNat_natCast]
    exact Ints.of_blk ((hs.block bg (by simp;omega)).trans (hgI.ext he1831)) (sumL_len _ _ _ _) (by unfold maxLen;omega) (by omega)
   ·rw [totV,if_pos (totErr_ok h0n hfit),← hdI,hP,Int.toNat_natCast]
    exact Ints.of_blk ((hs.block bv (by simp;omega)).trans (hvI.ext he1831)) (sumL_len _ _ _ _) (by unfold maxLen;omega) (by omega)
  ·exact fun _ _ _ _ _ _ h _=>h.elim

open Go Go.E

theorem totals_calls (lo l1 l2:Nat) (r:RoV) (set:Nat) (m:Int) (g x:Value) (gs xs:List Int) (w:World) (hr:r.ok lo w) (hset:set<18446744073709551616) (hg:Ints .i64 l1 w g gs) (hx:Ints .i64 l2 w x xs) :
  Calls Tryz.prog 93 #[r.val,.int .u64 set,.int .i64 m,g,x] w (Ret fun v w'=>v = .bool (decide (totP r set=m∧totErr r set=0∧totG r set=gs∧totV r set=xs))∧Ext w w'):=by
 refine T.enter (vs:=[r.val,.int .u64 set,.int .i64 m,g,x]) func93 rfl ntmps93 rfl ?_
 refine T.q (L.o (O.box rfl (fun b1 w1 hb1 hz1 he1 hB1=>?_)))
 have hC1:Blk w1 b1 r.cells _:=hB1
 refine L.a rfl (L.nil (T.q (L.o (O.loadAgg isAgg25 sizeOf25 rfl rfl hC1.row (L.m rfl (L.o (O.call (xs:=[.tmp 16,.tmp 17]) call90 rfl rfl (Total_calls lo r set w1 (hr.ext he1) hset) (fun v2 w2 hq=>?_))))))))
 obtain ⟨he2,g2,x2,rfl,hg2,hx2⟩:=hq
 have he02:=he1.trans he2
 refine L.m rfl (L.o (O.extract rfl rfl (L.o (O.extract rfl rfl (L.o (O.extract rfl rfl (L.o (O.extract rfl rfl (L.a rfl (L.a rfl (L.a rfl (L.a rfl (L.nil (T.q (L.m rfl (L.m rfl (L.o (O.eql_s rfl rfl (fun hm=>?_) (fun hm=>?_)))))))))))))))))))
 ·refine L.m rfl (L.m rfl (L.o (O.eql_s rfl rfl (fun h0=>?_) (fun h0=>?_))))
  ·refine L.o (O.pick_true rfl rfl (L.m rfl (L.m rfl (L.m rfl (L.o (O.call (xs:=[.tmp 31,.tmp 32]) call86 rfl rfl (equalI_calls _ l1 g2 g _ gs w2 hg2 (hg.ext he02)) (fun v3 w3 hq=>?_)))))))
   obtain ⟨rfl,he3⟩:=hq
   cases he:decide (totG r set=gs)
   ·refine L.o (O.pick_true rfl rfl (L.m rfl (L.p (L.p (L.p (L.o (O.pick_false rfl rfl (L.a rfl (L.nil (T.ret1 results93 rfl ⟨by rw [decide_eq_false (fun h=>by rw [decide_eq_true h.2.2.1] at he;cases he)],he02.trans he3⟩))))))))))
   ·refine L.o (O.pick_true rfl rfl (L.m rfl (L.m rfl (L.m rfl (L.o (O.call (xs:=[.tmp 36,.tmp 37]) call86 rfl rfl (equalI_calls _ l2 x2 x _ xs w3 (hx2.ext he3) (hx.ext (he02.trans he3))) (fun v4 w4 hq=>?_)))))))
    obtain ⟨rfl,he4⟩:=hq
    refine L.o (O.pick_true rfl rfl (L.a rfl (L.nil (T.ret1 results93 rfl ⟨?_,(he02.trans he3).trans he4⟩))))
    by_cases hq:totV r set=xs
    ·rw [decide_eq_true hq,decide_eq_true ⟨hm,h0,by simpa using he,hq⟩]
    ·rw [decide_eq_false hq,decide_eq_false (fun h=>hq h.2.2.2)]
  ·refine L.o (O.pick_true rfl rfl (L.m rfl (L.p (L.p (L.p (L.o (O.pick_false rfl rfl (L.m rfl (L.p (L.p (L.p (L.o (O.pick_false rfl rfl (L.a rfl (L.nil (T.ret1 results93 rfl ⟨by rw [decide_eq_false (fun h=>h0 h.2.1)],he02⟩))))))))))))))))
 ·refine L.m rfl (L.p (L.p (L.o (O.pick_false rfl rfl (L.m rfl (L.p (L.p (L.p (L.o (O.pick_false rfl rfl (L.m rfl (L.p (L.p (L.p (L.o (O.pick_false rfl rfl (L.a rfl (L.nil (T.ret1 results93 rfl ⟨by rw [decide_eq_false (fun h=>hm h.1)],he02⟩)))))))))))))))))))

/-- The units of a set whose number at a level is this one. -/
def famTo (us:List UnV) (level:Nat) (n:Int):Nat→Nat
 | 0=>0
 | i+1=>if (us.getD i u0).ps.getD level 0=n then famTo us level n i ||| bit64 i else famTo us level n i
theorem famTo_lt (us:List UnV) (level:Nat) (n:Int):∀ i,famTo us level n i<18446744073709551616
 | 0=>by simp [famTo]
 | i+1=>by
  simp only [famTo]
  split
  ·exact Nat.or_lt_two_pow (n:=64) (famTo_lt us level n i) (bit64_lt i)
  ·exact famTo_lt us level n i
/-- The parents: numbers below k that have units. -/
def parsTo (us:List UnV) (level:Nat):Nat→List (Int × Nat)
 | 0=>[]
 | k+1=>if famTo us level k us.length=0 then parsTo us level k else parsTo us level k ++ [((k:Int),famTo us level k us.length)]
theorem parsTo_len (us:List UnV) (level:Nat):∀ k,(parsTo us level k).length≤k
 | 0=>Nat.le_refl _
 | k+1=>by
  have:=parsTo_len us level k
  simp only [parsTo];split <;> simp <;> omega
def pcells:List (Int × Nat)→List Value
 | []=>[]
 | q::r=>.int .i64 q.1::wordV q.2::pcells r
theorem pcells_append:∀ a b,pcells (a++b)=pcells a++pcells b
 | [],b=>rfl
 | q::r,b=>by simp [pcells,pcells_append r b]
def Pars (lo:Nat) (w:World) (v:Value) (ps:List (Int × Nat)):Prop:=Sl lo w v ps.length 2 (pcells ps)
/-- What is in the map of parents behind i units. -/
def FamAt (us:List UnV) (level i:Nat) (kvs:List (Int × Nat)):Prop:=∀ n:Int,(getG kvs n).getD 0=famTo us level n i
theorem FamAt.step {us:List UnV} {level i:Nat} {kvs:List (Int × Nat)} (h:FamAt us level i kvs):FamAt us level (i+1) (putG kvs ((us.getD i u0).ps.getD level 0) ((getG kvs ((us.getD i u0).ps.getD level 0)).getD 0 ||| bit64 i)):=fun n=>by
 rw [getG_put]
 by_cases e:n=(us.getD i u0).ps.getD level 0
 ·rw [if_pos e,famTo,if_pos e.symm,← e,h n];rfl
 ·rw [if_neg e,famTo,if_neg (fun h=>e h.symm)];exact h n
open Classical in
noncomputable def parErr (r:RoV) (level:Int):Int:=if rollErr r=0 then (if 0≤level∧level<r.L then 0 else 2) else rollErr r
open Classical in
noncomputable def parGot (r:RoV) (level:Int):List (Int × Nat):=if parErr r level=0 then parsTo (lu r) level.toNat 64 else []
theorem parErr_roll {r:RoV} {level:Int} (h:rollErr r≠0):parErr r level=rollErr r:=if_neg h
theorem parErr_arg {r:RoV} {level:Int} (h:rollErr r=0) (h2:¬ (0≤level∧level<r.L)):parErr r level=2:=by rw [parErr,if_pos h,if_neg h2]
theorem parErr_ok {r:RoV} {level:Int} (h:rollErr r=0) (h2:0≤level∧level<r.L):parErr r level=0:=by rw [parErr,if_pos h,if_pos h2]
/-- What 'Parents' hands back. -/
def ParPost (r:RoV) (level:Int) (w:World) (v:Value) (w':World):Prop :=
 Ext w w'∧∃ l,v = .tuple #[l,.int .i64 (parErr r level)]∧Pars w.heap.size w' l (parGot r level)
theorem ParPost.bad {r:RoV} {level e:Int} {w w':World} (h:parErr r level=e) (h0:e≠0) (he:Ext w w'):ParPost r level w (.tuple #[.slice none 0 0,.int .i64 e]) w':=by
 subst h;exact ⟨he,_,rfl,by rw [parGot,if_neg h0];exact Sl.nil _ _ _⟩
theorem par_unit {r:RoV} {k:Nat} (h:rollErr r=0) (hk:k<r.us.length):((r.us.getD k u0).ps.length:Int)=r.L∧∀ q,q<(r.us.getD k u0).ps.length→0≤(r.us.getD k u0).ps.getD q 0∧(r.us.getD k u0).ps.getD q 0≤63:=by
 have hr:=right_iff.1 ((roll_of h).good k hk).right
 have hp:=par_le (r.us.getD k u0)
 have h5:=within_iff.1 hr.2.2.2.2.2
 exact ⟨h5.1,fun q hq=>by have:=h5.2 q hq;omega⟩
open Go Go.E

theorem Parents_calls (lo:Nat) (r:RoV) (level:Int) (w:World) (hr:r.ok lo w) :
  Calls Tryz.prog 91 #[r.val,.int .i64 level] w (Ret fun v w'=>ParPost r level w v w'):=by
 refine T.enter (vs:=[r.val,.int .i64 level]) func91 rfl ntmps91 rfl ?_
 refine T.q (L.o (O.box rfl (fun b2 w2 hb2 hz2 he2 hB2=>?_)))
 have hC2:Blk w2 b2 r.cells 25:=hB2
 refine L.a rfl (L.a rfl (L.nil (T.seq (T.q (L.o (O.loadAgg isAgg25 sizeOf25 rfl rfl hC2.row (L.o (O.call (xs:=[.tmp 13]) call32 rfl rfl (CheckRoll_calls lo r w2 (hr.ext he2)) (fun v7 w7 hq=>?_)))))))))
 obtain ⟨rfl,he7⟩:=hq
 have he07:=he2.trans he7
 have hC7:Blk w7 b2 r.cells 25:=hC2.ext he7
 refine L.a rfl (L.nil (T.q (L.m rfl (L.o (O.neq_s rfl rfl (fun h0=>?_) (fun h0=>?_))))))
 ·refine L.nil (T.ct (T.q (L.m rfl (L.a rfl (L.a rfl (L.nil (T.ret2 results91 rfl rfl (ParPost.bad (parErr_roll h0) h0 he07))))))))
 ·refine L.nil (?_)
  have h0n:rollErr r=0:=by omega
  have hbnd:=roll_bnd h0n
  refine T.cf (T.skip (T.seq (T.q (L.m rfl (L.o (O.lss_s rfl rfl (fun hneg=>?_) (fun hneg=>?_)))))))
  ·refine L.m rfl (L.p (L.p (L.p (L.p (L.o (O.pick_true rfl rfl (L.nil (T.ct (T.q (L.a rfl (L.a rfl (L.nil (T.ret2 results91 rfl rfl (ParPost.bad (parErr_arg h0n (by omega)) (by decide) he07))))))))))))))
  ·refine L.m rfl (L.m rfl (L.o (O.fieldAddr runUnderlying25 rfl sizeOf3 rfl (L.o (O.load isAgg3 rfl (hC7.cell rfl) (L.o (O.geq_s rfl rfl (fun hge=>?_) (fun hge=>?_))))))))
   ·refine L.o (O.pick_false rfl rfl (L.nil (T.ct (T.q (L.a rfl (L.a rfl (L.nil (T.ret2 results91 rfl rfl (ParPost.bad (parErr_arg h0n (by omega)) (by decide) he07)))))))))
   ·obtain ⟨Lv,rfl⟩:∃ Lv:Nat,level=Lv:=⟨level.toNat,by omega⟩
    refine L.o (O.pick_false rfl rfl (L.nil (T.cf (T.skip (T.q (L.o (O.makeMapG (kf:=(Value.int .i64)) (vf:=wordV) (fun b8 w8 hb8 hz8 he8 hM8=>?_))))))))
    refine L.a rfl (L.nil (T.seq (T.q (L.o (O.loadAgg isAgg25 sizeOf25 rfl rfl ((hC7.ext he8).row) (L.o (O.call (xs:=[.tmp 27]) call102 rfl rfl (land_calls lo r w8 (hr.ext (he07.trans he8))) (fun v9 w9 hq=>?_))))))))
    obtain ⟨rfl,he9⟩:=hq
    have he09:=(he07.trans he8).trans he9
    have hln:=landsN_le r.us
    have hll:=lu_len r
    have hU9:Units lo w9 (lv r) (lu r):=lv_units (hr.ext he09)
    have hz07:=he07.size
    refine L.o (O.len runUnderlying23 rfl (Sl.val hU9.sl) (L.m rfl (L.nil (T.block (?_)))))
    refine T.loop (σ:=Nat × List (Int × Nat)) (fun s=>[(1,.int .i64 Lv),(7,.map (some b8)),(28,lv r),(29,.int .i64 (lu r).length),(30,.int .i64 s.1)]) (fun s w'=>s.1≤(lu r).length∧Ext w w'∧MapG (Value.int .i64) wordV w' b8 s.2∧FamAt (lu r) Lv s.1 s.2) (fun s=>(lu r).length-s.1) ((0,[])) ⟨rfl,rfl,rfl,rfl,rfl,trivial⟩ ⟨Nat.zero_le _,he09,hM8.ext he9,fun n=>rfl⟩ ?_
    rintro ⟨i,kvs⟩ w10 ⟨hi,he10,hM10,hF10⟩
    simp only at hi hM10 hF10
    have hU10:Units lo w10 (lv r) (lu r):=lv_units (hr.ext he10)
    refine T.q (L.o (O.lss_s rfl rfl (fun hlt=>?_) (fun hlt=>?_)))
    ·refine L.nil (?_)
     have hlt':i<(lu r).length:=by simpa using hlt
     have hgi:=lu_get (show i<landsN r.us by omega)
     have hps:=par_unit h0n (show i<r.us.length by omega)
     rw [← hgi] at hps
     refine T.seq (T.ct (T.skip (T.seq (T.block (T.q (L.m rfl (L.o (O.indexAddr runUnderlying23 sizeOf51 rfl rfl hU10.sl (by omega) (by omega) (L.o (O.loadAgg isAgg51 sizeOf51 rfl rfl (hU10.row hlt') (L.o (O.alloc zeroValue51 (fun b11 w11 hb11 hz11 he11 hB11=>?_)))))))))))))
     refine L.a rfl (L.o (O.storeAgg sizeOf51 rfl rfl rfl hB11 (Nat.le_refl _) (hU10.at hlt').one (fun w12 hu12 hB12=>?_)))
     have hB12':Blk w12 b11 ((lu r).getD i u0).cells 51:=hB12
     have he1012:Ext w10 w12:=he11.upd hu12 (.inr (by omega))
     have hat:=(hU10.at hlt').ext he1012
     have hM12:=hM10.ext he1012
     refine L.nil (?_)
     refine T.anyE mixed 9 [7,9,1,8] rfl [.is _,.is _,.is _,.is _,.is _,.is _,.is _,.is _,.is _] [[],[],[1],[],[2,3],[4],[0,5],[],[7]] [[],[],[1],[],[1,2,3],[1,2,3,4],[0,1,2,3,4,5],[],[7],[0,1,2,3,4,5,6,7,8],[0,1,2,3,4,5,6,7,8,9]] (by kernel_rfl) (by kernel_rfl) rfl (by kernel_rfl) trivial ⟨fun wx hx=>Ob.o (O.move rfl kR),
       fun wx hx=>Ob.o (O.fieldAddr runUnderlying51 rfl sizeOf30 rfl kR),
       fun wx hx=>Ob.o (O.load isAgg30 rfl ((hB12'.ext hx).cell rfl) kR),
       fun wx hx=>Ob.o (O.move rfl kR),
       fun wx hx=>Ob.o (O.indexAddr runUnderlying30 sizeOf3 rfl rfl (hat.p.ext hx) (by omega) (by omega) kR),
       fun wx hx=>Ob.o (O.load isAgg3 rfl (Ints.at (hat.p.ext hx) (by omega)) kR),
       fun wx hx=>Ob.o (O.lookupG (kf:=(Value.int .i64)) (vf:=wordV) (z0:=0) (key_int _) runUnderlying214 runUnderlying3 zeroValue151 rfl rfl (hM12.ext hx) kR),
       fun wx hx=>Ob.o (O.move rfl kR),
       fun wx hx=>Ob.o (O.bit_u64 rfl rfl (by omega) kR),
       trivial⟩ (fun w13 he13=>?_)
     refine L.o (O.or_u64 rfl rfl (by rw [hF10];exact famTo_lt _ _ _ _) (bit64_lt _) rfl rfl (L.o (O.mapUpdateG (kf:=(Value.int .i64)) (vf:=wordV) (v:=((getG kvs (((lu r).getD i u0).ps.getD Lv 0)).getD 0 ||| bit64 i)) (key_int _) runUnderlying214 runUnderlying3 rfl rfl rfl (hM12.ext he13) (fun w14 hu14 hM14=>?_))))
     refine L.nil (T.blk (T.region (L.o (O.add64 rfl rfl (by omega) (L.m rfl (L.nil (T.again ((i+1,putG kvs (((lu r).getD i u0).ps.getD Lv 0) ((getG kvs (((lu r).getD i u0).ps.getD Lv 0)).getD 0 ||| bit64 i))) (by omega) ⟨rfl,rfl,rfl,rfl,rfl,trivial⟩ ⟨hlt',((he10.trans he1012).trans he13).upd hu14 (.inr (by omega)),hM14,hF10.step⟩)))))))
    ·refine L.nil (?_)
     obtain rfl:i=(lu r).length:=by simp only at hlt;omega
     refine T.seq (T.cf (T.exit rfl (T.q (L.a rfl (L.nil (T.seq (T.q (L.m rfl (L.nil (T.block (?_)))))))))))
     refine T.loop (σ:=Nat × Value) (fun s=>[(7,.map (some b8)),(10,s.2),(46,.int .i64 s.1)]) (fun s w'=>s.1≤64∧Ext w w'∧w10.heap.size≤w'.heap.size∧MapG (Value.int .i64) wordV w' b8 kvs∧w'.ownsRow w10.heap.size 160 2 s.2 (parsTo (lu r) Lv s.1).length (pcells (parsTo (lu r) Lv s.1))) (fun s=>64-s.1) ((0,.slice none 0 0)) ⟨rfl,rfl,rfl,trivial⟩ ⟨Nat.zero_le _,he10,Nat.le_refl _,hM10,owns_nil _ _ _ _⟩ ?_
     rintro ⟨n,l⟩ w15 ⟨hn,he15,hz15,hM15,hO15⟩
     simp only at hn hM15 hO15
     have hpl:=parsTo_len (lu r) Lv n
     have hb8:=hM10.lt
     have hz10:=he10.size
     have hFn:(getG kvs (n:Int)).getD 0=famTo (lu r) Lv n (lu r).length:=hF10 n
     refine T.q (L.o (O.lss_s rfl rfl (fun hln2=>?_) (fun hln2=>?_)))
     ·refine L.nil (?_)
      have hln':n<64:=by simp only at hln2;omega
      refine T.seq (T.ct (T.skip (T.seq (T.block (T.q (L.m rfl (L.a rfl (L.nil (T.q (L.m rfl (L.m rfl (L.o (O.lookupG (kf:=(Value.int .i64)) (vf:=wordV) (z0:=0) (key_int _) runUnderlying214 runUnderlying3 zeroValue151 rfl rfl hM15 (L.a rfl (L.nil (T.q (L.m rfl (L.o (O.neq_s rfl rfl (fun hne=>?_) (fun hne=>?_))))))))))))))))))))
      ·refine L.nil (?_)
       have hz:¬ famTo (lu r) Lv n (lu r).length=0:=by have h1:¬ (((getG kvs (n:Int)).getD 0:Nat):Int)=0:=hne;rw [← hFn];omega
       refine T.ct (T.region (L.m rfl (L.m rfl (L.m rfl (L.o (O.build (v:=.agg #[.int .i64 n,wordV ((getG kvs (n:Int)).getD 0)]) (parts:=[(0,.tmp 55),(1,.tmp 56)]) (vs:=[(0,_),(1,_)]) rfl (fun w=>by kernel_rfl) (L.o (O.buildSlice (el:=160) (parts:=[(0,.tmp 57)]) (vs:=[(0,_)]) (cs:=[.int .i64 n,wordV ((getG kvs (n:Int)).getD 0)]) rfl (fun w=>by kernel_rfl) (fun b16 w16 hb16 hz16 he16 hB16=>?_)))))))))
       refine L.o (O.append (size:=2) (bytes:=16) runUnderlying152 Tryz.infoOf160 rfl rfl rfl rfl (by decide) rfl rfl (owns_keep hO15 he16 (Nat.zero_le _)) (Sl.of_blk (lo:=0) (n:=1) (sz:=2) hB16 rfl (Nat.le_refl _) (by decide) (Nat.zero_le _)) (by intro c hc;simp at hc;rcases hc with (rfl|rfl) <;> rfl) (by omega) (by simp only [maxLen];omega) (by omega) (fun v17 w17 hO17 hG17=>?_))
       refine L.a rfl (L.nil (T.blk (T.region (L.o (O.add64 rfl rfl (by omega) (L.m rfl (L.nil (T.again ((n+1,v17)) (by omega) ⟨rfl,rfl,rfl,trivial⟩ ⟨hln',(he15.trans he16).grown0 (owns_keep hO15 he16 (Nat.zero_le _)) hG17 hz10,?_,(hM15.ext he16).grown hG17 ?_,?_⟩))))))))
       ·have:=hG17.size;have:=he16.size;omega
       ·intro j hj e
        have:=(own_at hO15 hj).1;omega
       ·simp only [parsTo,if_neg hz,List.length_append,List.length_singleton,pcells_append]
        rw [← hFn];exact hO17
      ·refine L.nil (?_)
       have hz:famTo (lu r) Lv n (lu r).length=0:=by have h1:(((getG kvs (n:Int)).getD 0:Nat):Int)=0:=hne;rw [← hFn];omega
       refine T.cf (T.skip (T.blk (T.region (L.o (O.add64 rfl rfl (by omega) (L.m rfl (L.nil (T.again ((n+1,l)) (by omega) ⟨rfl,rfl,rfl,trivial⟩ ⟨hln',he15,hz15,hM15,by simp only [parsTo,if_pos hz];exact hO15⟩))))))))
     ·refine L.nil (?_)
      obtain rfl:n=64:=by simp only at hln2;omega
      refine T.seq (T.cf (T.exit rfl (T.q (L.m rfl (L.a rfl (L.a rfl (L.nil (T.ret2 results91 rfl rfl ⟨he15,l,by rw [parErr_ok h0n (by omega)],?_⟩))))))))
      rw [parGot,if_pos (parErr_ok h0n (by omega)),Int.toNat_natCast]
      exact (Sl.of_owns hO15).mono hz10

open Go Go.E

/-- Equal parents of a level have equal parents of the next. -/
def Nest1 (us:List UnV) (q i k:Nat):Prop:=(us.getD i u0).ps.getD q 0=(us.getD k u0).ps.getD q 0→(us.getD i u0).ps.getD (q+1) 0=(us.getD k u0).ps.getD (q+1) 0
def Nest (us:List UnV) (L:Nat):Prop:=∀ q,q+1<L→∀ i,i<us.length→∀ k,k<us.length→Nest1 us q i k
open Classical in
noncomputable def nestB (r:RoV):Bool:=if rollErr r=0∧Nest (lu r) r.L.toNat then true else false
theorem nestB_roll {r:RoV} (h:rollErr r≠0):nestB r=false:=if_neg fun h2=>h h2.1
theorem nestB_yes {r:RoV} (h:rollErr r=0) (h2:Nest (lu r) r.L.toNat):nestB r=true:=if_pos ⟨h,h2⟩
theorem nestB_no {r:RoV} {q i k:Nat} (hq:q+1<r.L.toNat) (hi:i<(lu r).length) (hk:k<(lu r).length) (h2:¬ Nest1 (lu r) q i k):nestB r=false:=if_neg fun h=>h2 (h.2 q hq i hi k hk)
/-- The map of the next level's parents. -/
structure NextAt (us:List UnV) (q i:Nat) (kvs:List (Int × Int)):Prop where
 at':∀ j,j<i→getG kvs ((us.getD j u0).ps.getD q 0)=some ((us.getD j u0).ps.getD (q+1) 0)
 of:∀ x y,getG kvs x=some y→∃ j,j<i∧(us.getD j u0).ps.getD q 0=x∧(us.getD j u0).ps.getD (q+1) 0=y
theorem NextAt.step {us:List UnV} {q i:Nat} {kvs:List (Int × Int)} (h:NextAt us q i kvs) (hn:∀ y,getG kvs ((us.getD i u0).ps.getD q 0)=some y→y=(us.getD i u0).ps.getD (q+1) 0):NextAt us q (i+1) (putG kvs ((us.getD i u0).ps.getD q 0) ((us.getD i u0).ps.getD (q+1) 0)):=by
 refine ⟨fun j hj=>?_,fun x y hxy=>?_⟩
 ·rw [getG_put]
  by_cases e:j=i
  ·subst e;rw [if_pos rfl]
  ·have h1:=h.at' j (by omega)
   split
   ·rename_i he;rw [he] at h1;rw [hn _ h1]
   ·exact h1
 ·rw [getG_put] at hxy
  split at hxy
  ·rename_i he;cases hxy;exact ⟨i,by omega,he.symm,rfl⟩
  ·obtain ⟨j,hj,h1⟩:=h.of x y hxy;exact ⟨j,by omega,h1⟩
theorem NextAt.all {us:List UnV} {q:Nat} {kvs:List (Int × Int)} (h:NextAt us q us.length kvs):∀ i,i<us.length→∀ k,k<us.length→Nest1 us q i k:=fun i hi k hk e=>by
 have h1:=h.at' i hi
 have h2:=h.at' k hk
 rw [e,h2] at h1
 exact (Option.some.inj h1).symm
theorem Nested_calls (lo:Nat) (r:RoV) (w:World) (hr:r.ok lo w) :
  Calls Tryz.prog 92 #[r.val] w (Ret fun v w'=>v = .tuple #[.bool (nestB r),.int .i64 (rollErr r)]∧Ext w w'):=by
 refine T.enter (vs:=[r.val]) func92 rfl ntmps92 rfl ?_
 refine T.q (L.o (O.box rfl (fun b2 w2 hb2 hz2 he2 hB2=>?_)))
 have hC2:Blk w2 b2 r.cells 25:=hB2
 refine L.a rfl (L.a rfl (L.nil (T.seq (T.q (L.o (O.loadAgg isAgg25 sizeOf25 rfl rfl hC2.row (L.o (O.call (xs:=[.tmp 12]) call32 rfl rfl (CheckRoll_calls lo r w2 (hr.ext he2)) (fun v7 w7 hq=>?_)))))))))
 obtain ⟨rfl,he7⟩:=hq
 have he07:=he2.trans he7
 have hC7:Blk w7 b2 r.cells 25:=hC2.ext he7
 refine L.a rfl (L.nil (T.q (L.m rfl (L.o (O.neq_s rfl rfl (fun h0=>?_) (fun h0=>?_))))))
 ·refine L.nil (T.ct (T.q (L.m rfl (L.a rfl (L.a rfl (L.nil (T.ret2 results92 rfl rfl ⟨by rw [nestB_roll h0],he07⟩)))))))
 ·refine L.nil (?_)
  have h0n:rollErr r=0:=by omega
  have hbnd:=roll_bnd h0n
  have hln:=landsN_le r.us
  have hll:=lu_len r
  refine T.cf (T.skip (T.seq (T.q (L.a rfl (L.nil (T.block (?_)))))))
  refine T.loop (σ:=Nat) (fun q=>[(1,.pointer (some ⟨b2,0,none⟩)),(5,.int .i64 ((q+1:Nat):Int))]) (fun q w'=>q≤3∧Ext w7 w'∧∀ p,p<q→∀ i,i<(lu r).length→∀ k,k<(lu r).length→Nest1 (lu r) p i k) (fun q=>3-q) (0) ⟨rfl,rfl,trivial⟩ ⟨Nat.zero_le _,Keep.refl _ _,fun p hp=>absurd hp (Nat.not_lt_zero _)⟩ ?_
  rintro q w8 ⟨hq,he8,hN8⟩
  refine T.seq (T.q (L.m rfl (L.o (O.fieldAddr runUnderlying25 rfl sizeOf3 rfl (L.o (O.load isAgg3 rfl ((hC7.ext he8).cell rfl) (L.o (O.lss_s rfl rfl (fun hlq=>?_) (fun hlq=>?_)))))))))
  ·refine L.nil (T.ct (T.skip (T.seq (T.block (T.q (L.o (O.makeMapG (kf:=(Value.int .i64)) (vf:=(Value.int .i64)) (fun b9 w9 hb9 hz9 he9 hM9=>?_))))))))
   refine L.a rfl (L.nil (T.q (L.o (O.loadAgg isAgg25 sizeOf25 rfl rfl ((hC7.ext (he8.trans he9)).row) (L.o (O.call (xs:=[.tmp 24]) call102 rfl rfl (land_calls lo r w9 (hr.ext (he07.trans (he8.trans he9)))) (fun v10 w10 hq=>?_)))))))
   obtain ⟨rfl,he10⟩:=hq
   have he710:=(he8.trans he9).trans he10
   have hU10:Units lo w10 (lv r) (lu r):=lv_units (hr.ext (he07.trans he710))
   refine L.o (O.len runUnderlying23 rfl (Sl.val hU10.sl) (?_))
   have hz78:=he8.size
   refine L.m rfl (L.nil (T.block (?_)))
   refine T.loop (σ:=Nat × List (Int × Int)) (fun s=>[(1,.pointer (some ⟨b2,0,none⟩)),(5,.int .i64 ((q+1:Nat):Int)),(6,.map (some b9)),(25,lv r),(26,.int .i64 (lu r).length),(27,.int .i64 s.1)]) (fun s w'=>s.1≤(lu r).length∧Ext w7 w'∧MapG (Value.int .i64) (Value.int .i64) w' b9 s.2∧NextAt (lu r) q s.1 s.2) (fun s=>(lu r).length-s.1) ((0,[])) ⟨rfl,rfl,rfl,rfl,rfl,rfl,trivial⟩ ⟨Nat.zero_le _,he710,hM9.ext he10,⟨fun j hj=>absurd hj (Nat.not_lt_zero _),fun x y h=>by cases h⟩⟩ ?_
   rintro ⟨i,kvs⟩ w11 ⟨hi,he11,hM11,hX11⟩
   simp only at hi hM11 hX11
   have hU11:Units lo w11 (lv r) (lu r):=lv_units (hr.ext (he07.trans he11))
   refine T.q (L.o (O.lss_s rfl rfl (fun hlt=>?_) (fun hlt=>?_)))
   ·refine L.nil (?_)
    have hlt':i<(lu r).length:=by simp only at hlt;omega
    have hgi:=lu_get (show i<landsN r.us by omega)
    have hps:=par_unit h0n (show i<r.us.length by omega)
    rw [← hgi] at hps
    refine T.seq (T.ct (T.skip (T.seq (T.block (T.q (L.o (O.indexAddr runUnderlying23 sizeOf51 rfl rfl hU11.sl (by omega) (by omega) (L.o (O.loadAgg isAgg51 sizeOf51 rfl rfl (hU11.row hlt') (L.o (O.alloc zeroValue51 (fun b12 w12 hb12 hz12 he12 hB12=>?_))))))))))))
    refine L.o (O.storeAgg sizeOf51 rfl rfl rfl hB12 (Nat.le_refl _) (hU11.at hlt').one (fun w13 hu13 hB13=>?_))
    have hB13':Blk w13 b12 ((lu r).getD i u0).cells 51:=hB13
    have he1113:Ext w11 w13:=he12.upd hu13 (.inr (by omega))
    have hat:=(hU11.at hlt').ext he1113
    have hM13:=hM11.ext he1113
    have hq1:(((q+1:Nat):Int)-1)=(q:Int):=by omega
    refine L.nil (T.q (L.o (O.fieldAddr runUnderlying51 rfl sizeOf30 rfl (L.o (O.load isAgg30 rfl (hB13'.cell rfl) (L.m rfl (L.o (O.sub64 rfl rfl (by omega) (?_)))))))))
    rw [hq1]
    refine L.o (O.indexAddr runUnderlying30 sizeOf3 rfl rfl hat.p (by omega) (by omega) (L.o (O.load isAgg3 rfl (Ints.at hat.p (by omega)) (L.a rfl (L.nil (T.seq (T.q (L.m rfl (L.m rfl (L.o (O.lookupOkG (kf:=(Value.int .i64)) (vf:=(Value.int .i64)) (z0:=0) (key_int _) runUnderlying215 runUnderlying3 zeroValue3 rfl rfl hM13 (?_))))))))))))
    rcases hgk:getG kvs (((lu r).getD i u0).ps.getD q 0) with _|y
    ·refine L.m rfl (L.o (O.extract rfl rfl (L.o (O.extract rfl rfl (L.a rfl (L.a rfl (L.nil (T.q (L.m rfl (L.m rfl (L.p (L.p (L.p (L.p (L.p (L.p (L.p (L.o (O.pick_false rfl rfl (L.nil (T.cf (T.skip (T.region (L.m rfl (L.m rfl (?_))))))))))))))))))))))))))
     refine L.o (O.fieldAddr runUnderlying51 rfl sizeOf30 rfl (L.o (O.load isAgg30 rfl (hB13'.cell rfl) (L.m rfl (L.o (O.indexAddr runUnderlying30 sizeOf3 rfl rfl hat.p (by omega) (by omega) (L.o (O.load isAgg3 rfl (Ints.at hat.p (by omega)) (L.o (O.mapUpdateG (kf:=(Value.int .i64)) (vf:=(Value.int .i64)) (v:=(((lu r).getD i u0).ps.getD (q+1) 0)) (key_int _) runUnderlying215 runUnderlying3 rfl rfl rfl hM13 (fun w14 hu14 hM14=>?_)))))))))))
     refine L.nil (T.blk (T.region (L.o (O.add64 rfl rfl (by omega) (L.m rfl (L.nil (T.again ((i+1,putG kvs (((lu r).getD i u0).ps.getD q 0) (((lu r).getD i u0).ps.getD (q+1) 0))) (by omega) ⟨rfl,rfl,rfl,rfl,rfl,rfl,trivial⟩ ⟨hlt',(he11.trans he1113).upd hu14 (.inr (by omega)),hM14,hX11.step (fun y hy=>by rw [hgk] at hy;cases hy)⟩)))))))
    ·refine L.m rfl (L.o (O.extract rfl rfl (L.o (O.extract rfl rfl (L.a rfl (L.a rfl (L.nil (T.q (L.m rfl (L.m rfl (L.m rfl (L.o (O.fieldAddr runUnderlying51 rfl sizeOf30 rfl (L.o (O.load isAgg30 rfl (hB13'.cell rfl) (L.m rfl (L.o (O.indexAddr runUnderlying30 sizeOf3 rfl rfl hat.p (by omega) (by omega) (L.o (O.load isAgg3 rfl (Ints.at hat.p (by omega)) (L.o (O.neq_s rfl rfl (fun hne=>?_) (fun hne=>?_)))))))))))))))))))))))
     ·obtain ⟨j,hj,hj1,hj2⟩:=hX11.of _ _ hgk
      refine L.o (O.pick_true rfl rfl (L.nil (T.ct (T.q (L.a rfl (L.a rfl (L.nil (T.ret2 results92 rfl rfl ⟨by rw [nestB_no (q:=q) (i:=j) (k:=i) (by omega) (by omega) hlt' (fun h=>hne (by rw [← h hj1,hj2];rfl)),h0n],he07.trans (he11.trans he1113)⟩))))))))
     ·refine L.o (O.pick_true rfl rfl (L.nil (T.cf (T.skip (T.region (L.m rfl (L.m rfl (L.o (O.fieldAddr runUnderlying51 rfl sizeOf30 rfl (L.o (O.load isAgg30 rfl (hB13'.cell rfl) (L.m rfl (L.o (O.indexAddr runUnderlying30 sizeOf3 rfl rfl hat.p (by omega) (by omega) (L.o (O.load isAgg3 rfl (Ints.at hat.p (by omega)) (L.o (O.mapUpdateG (kf:=(Value.int .i64)) (vf:=(Value.int .i64)) (v:=(((lu r).getD i u0).ps.getD (q+1) 0)) (key_int _) runUnderlying215 runUnderlying3 rfl rfl rfl hM13 (fun w14 hu14 hM14=>?_)))))))))))))))))))
      refine L.nil (T.blk (T.region (L.o (O.add64 rfl rfl (by omega) (L.m rfl (L.nil (T.again ((i+1,putG kvs (((lu r).getD i u0).ps.getD q 0) (((lu r).getD i u0).ps.getD (q+1) 0))) (by omega) ⟨rfl,rfl,rfl,rfl,rfl,rfl,trivial⟩ ⟨hlt',(he11.trans he1113).upd hu14 (.inr (by omega)),hM14,hX11.step (fun z hz=>by rw [hgk] at hz;cases hz;exact hne)⟩)))))))
   ·refine L.nil (?_)
    obtain rfl:i=(lu r).length:=by simp only at hlt;omega
    refine T.seq (T.cf (T.exit rfl (T.blk (T.region (L.m rfl (L.o (O.add64 rfl rfl (by omega) (L.a rfl (L.nil (T.again (q+1) (by omega) ⟨rfl,rfl,trivial⟩ ⟨by omega,he11,fun p hp=>?_⟩))))))))))
    ·by_cases e:p=q
     ·subst e;exact hX11.all
     ·exact hN8 p (by omega)
  ·refine L.nil (T.cf (T.exit rfl (T.q (L.a rfl (L.a rfl (L.nil (T.ret2 results92 rfl rfl ⟨by rw [nestB_yes h0n (fun p hp=>hN8 p (by omega)),h0n],he07.trans he8⟩)))))))

open Go Go.E

theorem run_partI (cs:Array Value) (i:Nat) (v:Value) (w:World) (h:cs[i]?=some v):(part 3 cs i).run Tryz.prog w = .ok v w:=by
 simp [part,isAgg3 w,h]
theorem run_partU (cs:Array Value) (i:Nat) (v:Value) (w:World) (h:cs[i]?=some v):(part 151 cs i).run Tryz.prog w = .ok v w:=by
 simp [part,isAgg151 w,h]
theorem eqPar_guard:Tryz.prog.eqGuardType Tryz.prog.depth 160=false:=by kernel_rfl
theorem eqPar (a a':Int) (b b':Nat) (w:World):(Op.equalIn 10000 160 (.agg #[.int .i64 a,wordV b]) (.agg #[.int .i64 a',wordV b'])).run Tryz.prog w = .ok (decide ((a,b)=(a',b'))) w:=by
 have h3:Tryz.prog.underlying 3=some (.int .i64):=by kernel_rfl
 have h4:Tryz.prog.underlying 151=some (.int .u64):=by kernel_rfl
 rw [run_equalIn_struct w 9999 160 _ _ (by kernel_rfl) (by kernel_rfl)]
 rw [show (Tryz.prog.fieldsOf 160).toList = [{ name := "Number", type := 3, offset := 0, embedded := false, tag := "", pkgPath := "", byteOffset := 0 }, { name := "Units", type := 151, offset := 1, embedded := false, tag := "", pkgPath := "", byteOffset := 8 }] from by kernel_rfl]
 have p0:∀ (x:Int) (y:Nat) (w:World),(part 3 #[Value.int .i64 x,wordV y] 0).run Tryz.prog w = .ok (.int .i64 x) w:=fun x y w=>run_partI _ _ _ w rfl
 have p1:∀ (x:Int) (y:Nat) (w:World),(part 151 #[Value.int .i64 x,wordV y] 1).run Tryz.prog w = .ok (.int .u64 (y:Int)) w:=fun x y w=>run_partU _ _ _ w rfl
 have e3:∀ (x y:Int) (w:World),(Op.equalIn 9999 3 (.int .i64 x) (.int .i64 y)).run Tryz.prog w = .ok (x == y) w:=fun x y w=>run_equalIn_int w 9998 3 _ _ x y h3
 have e4:∀ (x y:Int) (w:World),(Op.equalIn 9999 151 (.int .u64 x) (.int .u64 y)).run Tryz.prog w = .ok (x == y) w:=fun x y w=>run_equalIn_int w 9998 151 _ _ x y h4
 simp only [Op.eqFields]
 by_cases h1:a=a' <;> by_cases h2:b=b' <;> simp [h1,h2,p0,p1,e3,e4,Int.ofNat_inj]
theorem O.neqPar {C:Cx} {e:Env} {w:World} {K:Value→World→Prop} {d:Option Tmp} {ty:TypeId} {pos:String} {aft:Array Edge} {g:Option (Nat × Bool)} {x y:Operand} {p p':Int × Nat} (hP:C.P=Tryz.prog) (hx:ev e x=some (.agg #[.int .i64 p.1,wordV p.2])) (hy:ev e y=some (.agg #[.int .i64 p'.1,wordV p'.2]))
  (h:K (.bool (!decide (p=p'))) w):O C e ⟨d,.binOp .neq 160 x y 160,ty,pos,aft,g⟩ w K :=
 O.of_run (by simp) (fun q hq=>by
  rw [hP]
  simp only [execOp,hq.eval hx,hq.eval hy,Sem.run_bind,run_eqGuard_agg w _ _ _ _ _ _ eqPar_guard,Result.andThen_ok,run_neq_struct,eqPar]
  rfl) h
theorem O.neqPar_t {C:Cx} {e:Env} {w:World} {K:Value→World→Prop} {d:Option Tmp} {ty:TypeId} {pos:String} {aft:Array Edge} {g:Option (Nat × Bool)} {x y:Operand} {p p':Int × Nat} (hP:C.P=Tryz.prog) (hx:ev e x=some (.agg #[.int .i64 p.1,wordV p.2])) (hy:ev e y=some (.agg #[.int .i64 p'.1,wordV p'.2]))
  (hne:¬ p=p') (h:K (.bool true) w):O C e ⟨d,.binOp .neq 160 x y 160,ty,pos,aft,g⟩ w K:=O.neqPar hP hx hy (by rw [decide_eq_false hne];exact h)
theorem O.neqPar_f {C:Cx} {e:Env} {w:World} {K:Value→World→Prop} {d:Option Tmp} {ty:TypeId} {pos:String} {aft:Array Edge} {g:Option (Nat × Bool)} {x y:Operand} {p p':Int × Nat} (hP:C.P=Tryz.prog) (hx:ev e x=some (.agg #[.int .i64 p.1,wordV p.2])) (hy:ev e y=some (.agg #[.int .i64 p'.1,wordV p'.2]))
  (he:p=p') (h:K (.bool false) w):O C e ⟨d,.binOp .neq 160 x y 160,ty,pos,aft,g⟩ w K:=O.neqPar hP hx hy (by rw [decide_eq_true he];exact h)
theorem pcells_at:∀ (ps:List (Int × Nat)) (i:Nat),i<ps.length→(pcells ps)[i*2]?=some (.int .i64 (ps.getD i (0,0)).1)∧(pcells ps)[i*2+1]?=some (wordV (ps.getD i (0,0)).2)
 | [],i,h=>absurd h (Nat.not_lt_zero _)
 | q::r,0,_=>⟨rfl,rfl⟩
 | q::r,i+1,h=>by
  have:=pcells_at r i (by simpa using h)
  rw [show (i+1)*2=i*2+1+1 by omega]
  simpa [pcells] using this
theorem Pars.row {w:World} {v:Value} {lo:Nat} {ps:List (Int × Nat)} (h:Pars lo w v ps) {i:Nat} (hi:i<ps.length):Row w ((sAddr v).add ((i:Int).toNat*2)) [.int .i64 (ps.getD i (0,0)).1,wordV (ps.getD i (0,0)).2]:=by
 intro j u hj
 obtain ⟨h0,h1⟩:=pcells_at ps i hi
 rw [add_add,Int.toNat_natCast]
 rcases j with _|_|j
 ·simp only [List.getElem?_cons_zero,Option.some.injEq] at hj;subst hj
  exact Sl.cell h h0
 ·simp only [Nat.zero_add,List.getElem?_cons_succ,List.getElem?_cons_zero,Option.some.injEq] at hj;subst hj
  exact Sl.cell h h1
 ·simp at hj
theorem equalPar_calls (lo lo':Nat) (p q:Value) (xs ys:List (Int × Nat)) (w:World) (hp:Pars lo w p xs) (hq:Pars lo' w q ys) :
  Calls Tryz.prog 94 #[p,q] w (Ret fun v w'=>v = .bool (decide (xs=ys))∧Ext w w'):=by
 have hle:=Sl.le hp
 refine T.enter (vs:=[p,q]) func94 rfl ntmps94 rfl ?_
 refine T.q (L.a rfl (L.nil (T.seq (T.q (L.m rfl (L.o (O.len runUnderlying152 rfl (Sl.val hp) (L.m rfl (L.o (O.len runUnderlying152 rfl (Sl.val hq) (L.o (O.neq_s rfl rfl (fun hl=>?_) (fun hl=>?_)))))))))))))
 ·refine L.nil (T.ct (T.q (L.a rfl (L.nil (T.ret1 results94 rfl ⟨by rw [decide_eq_false (fun h=>hl (by rw [h]))],Keep.refl _ _⟩)))))
 ·refine L.nil (?_)
  have hlen:xs.length=ys.length:=by omega
  refine T.cf (T.skip (T.seq (T.q (L.m rfl (L.o (O.len runUnderlying152 rfl (Sl.val hp) (L.m rfl (L.nil (T.block (?_))))))))))
  refine T.loop (σ:=Nat) (fun i=>[(0,p),(1,q),(12,.int .i64 xs.length),(13,.int .i64 i)]) (fun i w'=>i≤xs.length∧Ext w w'∧∀ j,j<i→xs.getD j (0,0)=ys.getD j (0,0)) (fun i=>xs.length-i) (0) ⟨rfl,rfl,rfl,rfl,trivial⟩ ⟨Nat.zero_le _,Keep.refl _ _,fun j hj=>absurd hj (Nat.not_lt_zero _)⟩ ?_
  rintro i w1 ⟨hi,he1,hall⟩
  have hp1:Pars lo w1 p xs:=Sl.ext hp he1
  have hq1:Pars lo' w1 q ys:=Sl.ext hq he1
  refine T.q (L.o (O.lss_s rfl rfl (fun hlt=>?_) (fun hlt=>?_)))
  ·refine L.nil (?_)
   have hlt':i<xs.length:=by omega
   by_cases heq:xs.getD i (0,0)=ys.getD i (0,0)
   ·refine T.seq (T.ct (T.skip (T.seq (T.block (T.q (L.m rfl (L.a rfl (L.nil (T.seq (?_))))))))))
    refine T.anyE mixed 8 [0,5,1] rfl [.is _,.is _,.is _,.is _,.is _,.is _,.is _,.is _] [[],[],[0,1],[2],[],[],[4,5],[6]] [[],[],[0,1],[0,1,2],[],[],[4,5],[4,5,6],[0,1,2,3,4,5,6,7]] (by kernel_rfl) (by kernel_rfl) rfl (by kernel_rfl) trivial ⟨fun wx hx=>Ob.o (O.move rfl kR),
      fun wx hx=>Ob.o (O.move rfl kR),
      fun wx hx=>Ob.o (O.indexAddr runUnderlying152 sizeOf160 rfl rfl hp1 (by omega) (by omega) kR),
      fun wx hx=>Ob.o (O.loadAgg isAgg160 sizeOf160 rfl rfl (Pars.row (Sl.ext hp1 hx) hlt') kR),
      fun wx hx=>Ob.o (O.move rfl kR),
      fun wx hx=>Ob.o (O.move rfl kR),
      fun wx hx=>Ob.o (O.indexAddr runUnderlying152 sizeOf160 rfl rfl hq1 (by omega) (by omega) kR),
      fun wx hx=>Ob.o (O.loadAgg isAgg160 sizeOf160 rfl rfl (Pars.row (Sl.ext hq1 hx) (by omega)) kR),
      trivial⟩ (fun w2 he2=>?_)
    refine L.o (O.neqPar_f rfl rfl rfl heq (L.nil (T.cf (T.skip (T.blk (T.region (L.o (O.add64 rfl rfl (by omega) (L.m rfl (L.nil (T.again (i+1) (by omega) ⟨rfl,rfl,rfl,rfl,trivial⟩ ⟨hlt',he1.trans he2,fun j hj=>?_⟩)))))))))))
    ·by_cases hji:j=i
     ·subst hji;exact heq
     ·exact hall j (by omega)
   ·refine T.seq (T.ct (T.skip (T.seq (T.block (T.q (L.m rfl (L.a rfl (L.nil (T.seq (?_))))))))))
    refine T.anyE mixed 8 [0,5,1] rfl [.is _,.is _,.is _,.is _,.is _,.is _,.is _,.is _] [[],[],[0,1],[2],[],[],[4,5],[6]] [[],[],[0,1],[0,1,2],[],[],[4,5],[4,5,6],[0,1,2,3,4,5,6,7]] (by kernel_rfl) (by kernel_rfl) rfl (by kernel_rfl) trivial ⟨fun wx hx=>Ob.o (O.move rfl kR),
      fun wx hx=>Ob.o (O.move rfl kR),
      fun wx hx=>Ob.o (O.indexAddr runUnderlying152 sizeOf160 rfl rfl hp1 (by omega) (by omega) kR),
      fun wx hx=>Ob.o (O.loadAgg isAgg160 sizeOf160 rfl rfl (Pars.row (Sl.ext hp1 hx) hlt') kR),
      fun wx hx=>Ob.o (O.move rfl kR),
      fun wx hx=>Ob.o (O.move rfl kR),
      fun wx hx=>Ob.o (O.indexAddr runUnderlying152 sizeOf160 rfl rfl hq1 (by omega) (by omega) kR),
      fun wx hx=>Ob.o (O.loadAgg isAgg160 sizeOf160 rfl rfl (Pars.row (Sl.ext hq1 hx) (by omega)) kR),
      trivial⟩ (fun w2 he2=>?_)
    refine L.o (O.neqPar_t rfl rfl rfl heq (L.nil (T.ct (T.q (L.a rfl (L.nil (T.ret1 results94 rfl ⟨by rw [decide_eq_false (fun h=>heq (by rw [h]))],he1.trans he2⟩)))))))
  ·refine L.nil (T.seq (T.cf (T.exit rfl (T.q (L.a rfl (L.nil (T.ret1 results94 rfl ⟨by rw [decide_eq_true (list_eq_of (d:=(0,0)) hlen (fun j hj=>hall j (by omega)))],he1⟩)))))))

open Go Go.E

/-- What makes two units equal. -/
def sameBs (u v:UnV):List Bool:=[decide (u.nm=v.nm),decide (u.pp=v.pp),u.wt == v.wt,decide (u.gs=v.gs),decide (u.vs=v.vs),decide (u.ps=v.ps)]
def sameU (u v:UnV):Bool:=(sameBs u v).all id
theorem sameU_iff {u v:UnV} : sameU u v=true↔u.nm=v.nm∧u.pp=v.pp∧u.wt=v.wt∧u.gs=v.gs∧u.vs=v.vs∧u.ps=v.ps:=by
 simp only [sameU,sameBs,List.all_cons,List.all_nil,id,Bool.and_eq_true,decide_eq_true_eq,beq_iff_eq,and_true]
def SameUs (us vs:List UnV):Prop:=us.length=vs.length∧∀ i,i<us.length→sameU (us.getD i u0) (vs.getD i u0)=true
open Classical in
noncomputable def sameUsB (us vs:List UnV):Bool:=if SameUs us vs then true else false
theorem sameUs_yes {us vs:List UnV} (h:SameUs us vs):sameUsB us vs=true:=if_pos h
theorem sameUs_no {us vs:List UnV} (h:¬ SameUs us vs):sameUsB us vs=false:=if_neg h
noncomputable def sameB (a b:RoV):Bool:=(decide (a.G=b.G) && (decide (a.P=b.P) && decide (a.L=b.L))) && sameUsB a.us b.us
theorem same1_calls (lo lo':Nat) (u v:UnV) (w:World) (hu:u.ok lo w) (hv:v.ok lo' w) :
  Calls Tryz.prog 85 #[u.val,v.val] w (Ret fun x w'=>x = .bool (sameU u v)∧Ext w w'):=by
 refine T.enter (vs:=[u.val,v.val]) func85 rfl ntmps85 rfl ?_
 refine T.q (L.o (O.box rfl (fun b1 w1 hb1 hz1 he1 hB1=>?_)))
 refine L.o (O.box rfl (fun b2 w2 hb2 hz2 he2 hB2=>?_))
 have he:=he1.trans he2
 have hC1:Blk w2 b1 u.cells _:=Blk.ext (cs:=u.cells) hB1 he2
 have hC2:Blk w2 b2 v.cells _:=hB2
 have hu2:=hu.ext he
 have hv2:=hv.ext he
 refine L.a rfl (L.nil (T.seq (?_)))
 refine T.anyE mixed 30 [2,3] rfl [.is _,.is _,.is _,.is _,.is _,.is _,.is _,.is _,.is _,.is _,.is _,.is _,.is _,.is _,.is _,.is _,.is _,.is _,.is _,.is (.bool (decide (u.gs=v.gs))),.is _,.is _,.is _,.is _,.is (.bool (decide (u.vs=v.vs))),.is _,.is _,.is _,.is _,.is (.bool (decide (u.ps=v.ps)))] [[],[0],[],[2],[1,3],[],[5],[],[7],[6,8],[],[10],[],[12],[11,13],[],[15],[],[17],[16,18],[],[20],[],[22],[21,23],[],[25],[],[27],[26,28]] ([] :: [0] :: [] :: [2] :: [0,1,2,3] :: [] :: [5] :: [] :: [7] :: [5,6,7,8] :: [] :: [10] :: [] :: [12] :: [10,11,12,13] :: [] :: [15] :: [] :: [17] :: [15,16,17,18] :: [] :: [20] :: [] :: [22] :: [15,16,17,18,19,20,21,22,23] :: [] :: [25] :: [] :: [27] :: [15,16,17,18,19,20,21,22,23,24,25,26,27,28] :: [0,1,2,3,4,5,6,7,8,9,10,11,12,13,14,15,16,17,18,19,20,21,22,23,24,25,26,27,28,29]::(0::1::2::3::4::5::6::7::8::9::10::11::12::13::14::15::16::17::18::19::20::21::22::23::24::25::26::27::28::29::30 :: [])::(0::1::2::3::4::5::6::7::8::9::10::11::12::13::14::15::16::17::18::19::20::21::22::23::24::25::26::27::28::29::30::31 :: []) :: []) (by kernel_rfl) (by kernel_rfl) rfl (by kernel_rfl) trivial ⟨fun wx hx=>Ob.o (O.fieldAddr runUnderlying51 rfl sizeOf9 rfl kR),
   fun wx hx=>Ob.o (O.load isAgg9 rfl ((hC1.ext hx).cell rfl) kR),
   fun wx hx=>Ob.o (O.fieldAddr runUnderlying51 rfl sizeOf9 rfl kR),
   fun wx hx=>Ob.o (O.load isAgg9 rfl ((hC2.ext hx).cell rfl) kR),
   fun wx hx=>Ob.o (O.eql_str runUnderlying9 rfl rfl kR),
   fun wx hx=>Ob.o (O.fieldAddr runUnderlying51 rfl sizeOf3 rfl kR),
   fun wx hx=>Ob.o (O.load isAgg3 rfl ((hC1.ext hx).cell rfl) kR),
   fun wx hx=>Ob.o (O.fieldAddr runUnderlying51 rfl sizeOf3 rfl kR),
   fun wx hx=>Ob.o (O.load isAgg3 rfl ((hC2.ext hx).cell rfl) kR),
   fun wx hx=>Ob.o (O.eql rfl rfl kR),
   fun wx hx=>Ob.o (O.fieldAddr runUnderlying51 rfl sizeOf4 rfl kR),
   fun wx hx=>Ob.o (O.load isAgg4 rfl ((hC1.ext hx).cell rfl) kR),
   fun wx hx=>Ob.o (O.fieldAddr runUnderlying51 rfl sizeOf4 rfl kR),
   fun wx hx=>Ob.o (O.load isAgg4 rfl ((hC2.ext hx).cell rfl) kR),
   fun wx hx=>Ob.o (O.eql_bool runUnderlying4 rfl rfl kR),
   fun wx hx=>Ob.o (O.fieldAddr runUnderlying51 rfl sizeOf30 rfl kR),
   fun wx hx=>Ob.o (O.load isAgg30 rfl ((hC1.ext hx).cell rfl) kR),
   fun wx hx=>Ob.o (O.fieldAddr runUnderlying51 rfl sizeOf30 rfl kR),
   fun wx hx=>Ob.o (O.load isAgg30 rfl ((hC2.ext hx).cell rfl) kR),
   fun wx hx=>Ob.o (O.call (xs:=[.tmp 21,.tmp 23]) call86 rfl rfl (equalI_calls lo lo' u.gv v.gv u.gs v.gs wx (hu2.g.ext hx) (hv2.g.ext hx)) (fun v wy h=>⟨h.2,h.1⟩)),
   fun wx hx=>Ob.o (O.fieldAddr runUnderlying51 rfl sizeOf30 rfl kR),
   fun wx hx=>Ob.o (O.load isAgg30 rfl ((hC1.ext hx).cell rfl) kR),
   fun wx hx=>Ob.o (O.fieldAddr runUnderlying51 rfl sizeOf30 rfl kR),
   fun wx hx=>Ob.o (O.load isAgg30 rfl ((hC2.ext hx).cell rfl) kR),
   fun wx hx=>Ob.o (O.call (xs:=[.tmp 26,.tmp 28]) call86 rfl rfl (equalI_calls lo lo' u.vv v.vv u.vs v.vs wx (hu2.v.ext hx) (hv2.v.ext hx)) (fun v wy h=>⟨h.2,h.1⟩)),
   fun wx hx=>Ob.o (O.fieldAddr runUnderlying51 rfl sizeOf30 rfl kR),
   fun wx hx=>Ob.o (O.load isAgg30 rfl ((hC1.ext hx).cell rfl) kR),
   fun wx hx=>Ob.o (O.fieldAddr runUnderlying51 rfl sizeOf30 rfl kR),
   fun wx hx=>Ob.o (O.load isAgg30 rfl ((hC2.ext hx).cell rfl) kR),
   fun wx hx=>Ob.o (O.call (xs:=[.tmp 31,.tmp 33]) call86 rfl rfl (equalI_calls lo lo' u.pv v.pv u.ps v.ps wx (hu2.p.ext hx) (hv2.p.ext hx)) (fun v wy h=>⟨h.2,h.1⟩)),
   trivial⟩ (fun w4 he4=>?_)
 refine L.o (O.buildSlice (el:=4) (parts:=[(0,.tmp 9),(1,.tmp 14),(2,.tmp 19),(3,.tmp 24),(4,.tmp 29),(5,.tmp 34)]) (vs:=[(0,_),(1,_),(2,_),(3,_),(4,_),(5,_)]) (cs:=((sameBs u v).map Value.bool)) rfl (fun w=>by kernel_rfl) (fun b5 w5 hb5 hz5 he5 hB5=>?_))
 refine L.o (O.call (xs:=[.tmp 35]) call79 rfl rfl (every_calls 0 _ (sameBs u v) w5 (bools_of_blk hB5 rfl (by decide) (Nat.zero_le _))) (fun v6 w6 hq=>?_))
 obtain ⟨rfl,rfl⟩:=hq
 refine L.a rfl (L.nil (T.ret1 results85 rfl ⟨rfl,(he.trans he4).trans he5⟩))

theorem equalU_calls (lo lo':Nat) (p q:Value) (us vs:List UnV) (w:World) (hp:Units lo w p us) (hq:Units lo' w q vs) :
  Calls Tryz.prog 84 #[p,q,.func (.func 85) #[] #[]] w (Ret fun v w'=>v = .bool (sameUsB us vs)∧Ext w w'):=by
 have hle:=Sl.le hp.sl
 refine T.enter (vs:=[p,q,.func (.func 85) #[] #[]]) func84 rfl ntmps84 rfl ?_
 refine T.q (L.a rfl (L.nil (T.seq (T.q (L.m rfl (L.o (O.len runUnderlying23 rfl (Sl.val hp.sl) (L.m rfl (L.o (O.len runUnderlying23 rfl (Sl.val hq.sl) (L.o (O.neq_s rfl rfl (fun hl=>?_) (fun hl=>?_)))))))))))))
 ·refine L.nil (T.ct (T.q (L.a rfl (L.nil (T.ret1 results84 rfl ⟨by rw [sameUs_no (fun h=>hl (by rw [h.1]))],Keep.refl _ _⟩)))))
 ·refine L.nil (?_)
  have hlen:us.length=vs.length:=by omega
  refine T.cf (T.skip (T.seq (T.q (L.m rfl (L.o (O.len runUnderlying23 rfl (Sl.val hp.sl) (L.m rfl (L.nil (T.block (?_))))))))))
  refine T.loop (σ:=Nat) (fun i=>[(1,q),(2,.func (.func 85) #[] #[]),(15,p),(16,.int .i64 us.length),(17,.int .i64 i)]) (fun i w'=>i≤us.length∧Ext w w'∧∀ j,j<i→sameU (us.getD j u0) (vs.getD j u0)=true) (fun i=>us.length-i) (0) ⟨rfl,rfl,rfl,rfl,rfl,trivial⟩ ⟨Nat.zero_le _,Keep.refl _ _,fun j hj=>absurd hj (Nat.not_lt_zero _)⟩ ?_
  rintro i w1 ⟨hi,he1,hall⟩
  have hp1:=hp.ext he1
  have hq1:=hq.ext he1
  refine T.q (L.o (O.lss_s rfl rfl (fun hlt=>?_) (fun hlt=>?_)))
  ·refine L.nil (?_)
   have hlt':i<us.length:=by omega
   have hlt2:i<vs.length:=by omega
   refine T.seq (T.ct (T.skip (T.seq (T.block (T.q (L.m rfl (L.o (O.indexAddr runUnderlying23 sizeOf51 rfl rfl hp1.sl (by omega) (by omega) (L.o (O.loadAgg isAgg51 sizeOf51 rfl rfl (hp1.row hlt') (L.o (O.alloc zeroValue51 (fun b2 w2 hb2 hz2 he2 hB2=>?_)))))))))))))
   refine L.a rfl (L.o (O.storeAgg sizeOf51 rfl rfl rfl hB2 (Nat.le_refl _) (hp1.at hlt').one (fun w3 hu3 hB3=>?_)))
   have hB3':Blk w3 b2 (us.getD i u0).cells 51:=hB3
   have he13:Ext w1 w3:=he2.upd hu3 (.inr (by omega))
   have hq3:=hq1.ext he13
   refine L.nil (T.q (L.m rfl (L.m rfl (L.o (O.indexAddr runUnderlying23 sizeOf51 rfl rfl hq3.sl (by omega) (by omega) (L.o (O.loadAgg isAgg51 sizeOf51 rfl rfl (hq3.row hlt2) (L.o (O.alloc zeroValue51 (fun b4 w4 hb4 hz4 he4 hB4=>?_))))))))))
   refine L.o (O.storeAgg sizeOf51 rfl rfl rfl hB4 (Nat.le_refl _) (hq3.at hlt2).one (fun w5 hu5 hB5=>?_))
   have hB5':Blk w5 b4 (vs.getD i u0).cells 51:=hB5
   have he35:Ext w3 w5:=he4.upd hu5 (.inr (by omega))
   refine L.nil (T.q (L.m rfl (L.o (O.loadAgg isAgg51 sizeOf51 rfl rfl ((hB3'.ext he35).row) (L.o (O.loadAgg isAgg51 sizeOf51 rfl rfl hB5'.row (L.o (O.call (xs:=[.tmp 27,.tmp 28]) call85 rfl rfl (same1_calls lo lo' (us.getD i u0) (vs.getD i u0) w5 ((hp1.at hlt').ext (he13.trans he35)) ((hq3.at hlt2).ext he35)) (fun v6 w6 hq=>?_)))))))))
   obtain ⟨rfl,he6⟩:=hq
   cases hs:sameU (us.getD i u0) (vs.getD i u0)
   ·refine L.o (O.not rfl (L.nil (T.ct (T.q (L.a rfl (L.nil (T.ret1 results84 rfl ⟨by rw [sameUs_no (fun h=>by have:=h.2 i hlt';rw [hs] at this;cases this)],he1.trans ((he13.trans he35).trans he6)⟩)))))))
   ·refine L.o (O.not rfl (L.nil (T.cf (T.skip (T.blk (T.region (L.o (O.add64 rfl rfl (by omega) (L.m rfl (L.nil (T.again (i+1) (by omega) ⟨rfl,rfl,rfl,rfl,rfl,trivial⟩ ⟨hlt',he1.trans ((he13.trans he35).trans he6),fun j hj=>?_⟩)))))))))))
    ·by_cases e:j=i
     ·subst e;exact hs
     ·exact hall j (by omega)
  ·refine L.nil (T.seq (T.cf (T.exit rfl (T.q (L.a rfl (L.nil (T.ret1 results84 rfl ⟨by rw [sameUs_yes ⟨hlen,fun j hj=>hall j (by omega)⟩],he1⟩)))))))

theorem SameRoll_calls (lo lo':Nat) (a b:RoV) (w:World) (ha:a.ok lo w) (hb:b.ok lo' w) :
  Calls Tryz.prog 36 #[a.val,b.val] w (Ret fun v w'=>v = .bool (sameB a b)∧Ext w w'):=by
 refine T.enter (vs:=[a.val,b.val]) func36 rfl ntmps36 rfl ?_
 refine T.q (L.o (O.box rfl (fun b1 w1 hb1 hz1 he1 hB1=>?_)))
 refine L.o (O.box rfl (fun b2 w2 hb2 hz2 he2 hB2=>?_))
 have he:=he1.trans he2
 have hC1:Blk w2 b1 a.cells _:=Blk.ext (cs:=a.cells) hB1 he2
 have hC2:Blk w2 b2 b.cells _:=hB2
 refine L.a rfl (L.nil (T.q (L.o (O.fieldAddr runUnderlying25 rfl sizeOf3 rfl (L.o (O.load isAgg3 rfl (hC1.cell rfl) (L.o (O.fieldAddr runUnderlying25 rfl sizeOf3 rfl (L.o (O.load isAgg3 rfl (hC2.cell rfl) (L.o (O.eql rfl rfl (L.o (O.fieldAddr runUnderlying25 rfl sizeOf3 rfl (L.o (O.load isAgg3 rfl (hC1.cell rfl) (L.o (O.fieldAddr runUnderlying25 rfl sizeOf3 rfl (L.o (O.load isAgg3 rfl (hC2.cell rfl) (L.o (O.eql rfl rfl (L.o (O.fieldAddr runUnderlying25 rfl sizeOf3 rfl (L.o (O.load isAgg3 rfl (hC1.cell rfl) (L.o (O.fieldAddr runUnderlying25 rfl sizeOf3 rfl (L.o (O.load isAgg3 rfl (hC2.cell rfl) (L.o (O.eql rfl rfl (L.o (O.buildSlice (el:=4) (parts:=[(0,.tmp 9),(1,.tmp 14),(2,.tmp 19)]) (vs:=[(0,_),(1,_),(2,_)]) (cs:=([decide (a.G=b.G),decide (a.P=b.P),decide (a.L=b.L)].map Value.bool)) rfl (fun w=>by kernel_rfl) (fun b3 w3 hb3 hz3 he3 hB3=>?_)))))))))))))))))))))))))))))))))))
 refine L.o (O.call (xs:=[.tmp 20]) call79 rfl rfl (every_calls 0 _ [decide (a.G=b.G),decide (a.P=b.P),decide (a.L=b.L)] w3 (bools_of_blk hB3 rfl (by decide) (Nat.zero_le _))) (fun v4 w4 hq=>?_))
 obtain ⟨rfl,rfl⟩:=hq
 have hhd : [decide (a.G=b.G),decide (a.P=b.P),decide (a.L=b.L)].all id=(decide (a.G=b.G) && (decide (a.P=b.P) && decide (a.L=b.L))):=by simp
 cases hs : [decide (a.G=b.G),decide (a.P=b.P),decide (a.L=b.L)].all id
 ·refine L.m rfl (L.p (L.p (L.p (L.p (L.p (L.o (O.pick_false rfl rfl (L.a rfl (L.nil (T.ret1 results36 rfl ⟨by rw [sameB,← hhd,hs];rfl,he.trans he3⟩))))))))))
 ·refine L.m rfl (L.o (O.fieldAddr runUnderlying25 rfl sizeOf23 rfl (L.o (O.load isAgg23 rfl ((hC1.ext he3).cell rfl) (L.o (O.fieldAddr runUnderlying25 rfl sizeOf23 rfl (L.o (O.load isAgg23 rfl ((hC2.ext he3).cell rfl) (L.o (O.call (xs:=[.tmp 24,.tmp 26,.func 85]) call84 rfl rfl (equalU_calls lo lo' a.uv b.uv a.us b.us w4 (ha.ext (he.trans he3)) (hb.ext (he.trans he3))) (fun v5 w5 hq=>?_)))))))))))
  obtain ⟨rfl,he5⟩:=hq
  refine L.o (O.pick_true rfl rfl (L.a rfl (L.nil (T.ret1 results36 rfl ⟨by rw [sameB,← hhd,hs];rfl,(he.trans he3).trans he5⟩))))

open Go Go.E

/-- A draft of a land: what it holds, with the slices that hold it. -/
structure Dr where
 wd:Int
 hi:Int
 cv:Value
 cs:List Int
 sv:Value
 ss:List Int
 ho:Bool
 g:Int
 p:Int
 l:Int
 nv:Value
 ns:List Int
 wa:Int
def Dr.cells (d:Dr):List Value:=[.int .u8 d.wd,.int .u8 d.hi,d.cv,d.sv,.bool d.ho,.int .u8 d.g,.int .u8 d.p,.int .u8 d.l,d.nv,.int .u8 d.wa]
def Dr.val (d:Dr):Value:=.agg d.cells.toArray
def Low8 (x:Int):Prop:=0≤x∧x≤255
structure Dr.ok (lo:Nat) (w:World) (d:Dr):Prop where
 c:Ints .u8 lo w d.cv d.cs
 s:Ints .u8 lo w d.sv d.ss
 n:Ints .u16 lo w d.nv d.ns
 cl:∀ j,j<d.cs.length→Low8 (d.cs.getD j 0)
 sl:∀ j,j<d.ss.length→Low8 (d.ss.getD j 0)
 nl:∀ j,j<d.ns.length→0≤d.ns.getD j 0∧d.ns.getD j 0≤65535
 w0:Low8 d.wd
 h0:Low8 d.hi
 g0:Low8 d.g
 p0:Low8 d.p
 l0:Low8 d.l
 a0:Low8 d.wa
theorem Dr.ok.ext {lo:Nat} {w w':World} {d:Dr} (h:d.ok lo w) (k:Ext w w'):d.ok lo w':=⟨h.c.ext k,h.s.ext k,h.n.ext k,h.cl,h.sl,h.nl,h.w0,h.h0,h.g0,h.p0,h.l0,h.a0⟩
/-- A draft's small number. -/
def numD (ns:List Int) (i:Nat):Int:=if ns = [] then 100+(7*i:Nat) % 31 else ns.getD (i % ns.length) 0
theorem numD_le {ns:List Int} (h:∀ j,j<ns.length→0≤ns.getD j 0∧ns.getD j 0≤65535) (i:Nat):0≤numD ns i∧numD ns i≤65535:=by
 unfold numD
 split
 ·omega
 ·rename_i hn
  have:0<ns.length:=List.length_pos_iff.2 hn
  exact h _ (Nat.mod_lt _ this)
def num8 (ns:List Int) (i:Nat):Int:=if ns = [] then 0 else ns.getD (i % ns.length) 0
theorem num8_le {ns:List Int} (h:∀ j,j<ns.length→Low8 (ns.getD j 0)) (i:Nat):0≤num8 ns i∧num8 ns i≤255:=by
 unfold num8
 split
 ·omega
 ·rename_i hn
  have:0<ns.length:=List.length_pos_iff.2 hn
  exact h _ (Nat.mod_lt _ this)
theorem num8_calls (lo:Nat) (p:Value) (xs:List Int) (i:Nat) (w:World) (hp:Ints .u8 lo w p xs) (hl:∀ j,j<xs.length→Low8 (xs.getD j 0)) (hi:i≤1000) :
  Calls Tryz.prog 125 #[p,.int .i64 i] w (Ret fun v w'=>v = .int .i64 (num8 xs i)∧w'=w):=by
 have hle:=Sl.le hp
 refine T.enter (vs:=[p,.int .i64 i]) func125 rfl ntmps125 rfl ?_
 refine T.q (L.a rfl (L.nil (T.seq (T.q (L.m rfl (L.o (O.len runUnderlying54 rfl (Sl.val hp) (L.o (O.eql_s rfl rfl (fun h0=>?_) (fun h0=>?_))))))))))
 ·refine L.nil (T.ct (T.q (L.a rfl (L.nil (T.ret1 results125 rfl ⟨by rw [num8,if_pos (List.length_eq_zero_iff.1 (by omega))],rfl⟩)))))
 ·refine L.nil (?_)
  have hpos:0<xs.length:=by omega
  have hm:(i:Int) % (xs.length:Int)=((i % xs.length:Nat):Int):=by simp
  have hlt:i % xs.length<xs.length:=Nat.mod_lt _ hpos
  have hv:=hl _ hlt
  refine T.cf (T.skip (T.q (L.m rfl (L.m rfl (L.m rfl (L.o (O.len runUnderlying54 rfl (Sl.val hp) (L.o (O.rem rfl rfl (by omega) (by omega) (?_))))))))))
  rw [hm]
  refine L.o (O.indexAddr runUnderlying54 sizeOf5 rfl rfl hp (by omega) (by omega) (L.o (O.load isAgg5 rfl (Ints.at hp hlt) (?_))))
  unfold Low8 at hv
  refine L.o (O.conv_to rfl (fun w=>⟨_,runUnderlying5 w⟩) runUnderlying3 (IntWalk.i64_in _ ⟨by omega,by omega⟩) (L.a rfl (L.nil (T.ret1 results125 rfl ⟨by rw [num8,if_neg (fun h=>by rw [h] at hpos;simp at hpos)],rfl⟩))))

theorem numD_calls (lo:Nat) (d:Dr) (i:Nat) (w:World) (hd:d.ok lo w) (hi:i≤1000) :
  Calls Tryz.prog 126 #[d.val,.int .i64 i] w (Ret fun v w'=>v = .int .i64 (numD d.ns i)∧Ext w w'):=by
 refine T.enter (vs:=[d.val,.int .i64 i]) func126 rfl ntmps126 rfl ?_
 refine T.q (L.o (O.box rfl (fun b1 w1 hb1 hz1 he1 hB1=>?_)))
 have hC1:Blk w1 b1 d.cells _:=hB1
 have hd1:=hd.ext he1
 have hle:=Sl.le hd1.n
 refine L.a rfl (L.nil (T.seq (T.q (L.o (O.fieldAddr runUnderlying59 rfl sizeOf57 rfl (L.o (O.load isAgg57 rfl (hC1.cell rfl) (L.o (O.len runUnderlying57 rfl (Sl.val hd1.n) (L.o (O.eql_s rfl rfl (fun h0=>?_) (fun h0=>?_))))))))))))
 ·refine L.nil (T.ct (T.q (L.m rfl (L.o (O.mul64 rfl rfl (by omega) (L.o (O.rem rfl rfl (by omega) (by omega) (L.o (O.add64 rfl rfl (by omega) (L.a rfl (L.nil (T.ret1 results126 rfl ⟨by rw [numD,if_pos (List.length_eq_zero_iff.1 (by omega))];simp,he1⟩))))))))))))
 ·refine L.nil (?_)
  have hpos:0<d.ns.length:=by omega
  have hm:(i:Int) % (d.ns.length:Int)=((i % d.ns.length:Nat):Int):=by simp
  have hlt:i % d.ns.length<d.ns.length:=Nat.mod_lt _ hpos
  have hv:=hd.nl _ hlt
  refine T.cf (T.skip (T.seq (?_)))
  refine T.anyE mixed 7 [2,1] rfl [.is _,.is _,.is _,.is _,.is _,.is _,.is (.int .i64 ((i % d.ns.length:Nat):Int))] [[],[0],[],[],[3],[4],[2,5]] [[],[0],[],[],[3],[3,4],[2,3,4,5],[0,1,2,3,4,5,6],[0,1,2,3,4,5,6,7],[0,1,2,3,4,5,6,7,8],[0,1,2,3,4,5,6,7,8,9]] (by kernel_rfl) (by kernel_rfl) rfl (by kernel_rfl) trivial ⟨fun wx hx=>Ob.o (O.fieldAddr runUnderlying59 rfl sizeOf57 rfl kR),
    fun wx hx=>Ob.o (O.load isAgg57 rfl ((hC1.ext hx).cell rfl) kR),
    fun wx hx=>Ob.o (O.move rfl kR),
    fun wx hx=>Ob.o (O.fieldAddr runUnderlying59 rfl sizeOf57 rfl kR),
    fun wx hx=>Ob.o (O.load isAgg57 rfl ((hC1.ext hx).cell rfl) kR),
    fun wx hx=>Ob.o (O.len runUnderlying57 rfl (Sl.val (hd1.n.ext hx)) kR),
    fun wx hx=>Ob.o (O.rem rfl rfl (by omega) (by omega) ⟨Keep.refl _ _,by rw [hm];rfl⟩),
    trivial⟩ (fun w3 he3=>?_)
  refine L.o (O.indexAddr runUnderlying57 sizeOf87 rfl rfl (hd1.n.ext he3) (by omega) (by omega) (L.o (O.load isAgg87 rfl (Ints.at (hd1.n.ext he3) hlt) (L.o (O.conv_to rfl (fun w=>⟨_,runUnderlying87 w⟩) runUnderlying3 (IntWalk.i64_in _ ⟨by omega,by omega⟩) (L.a rfl (L.nil (T.ret1 results126 rfl ⟨by rw [numD,if_neg (fun h=>by rw [h] at hpos;simp at hpos)],he1.trans he3⟩))))))))

open Go Go.E

/-- A list of numbers in a block of its own. -/
def OwnL (base:Nat) (w:World) (v:Value) (xs:List Int):Prop:=w.ownsRow base 3 1 v xs.length (xs.map (Value.int .i64))
theorem OwnL.ints {base:Nat} {w:World} {v:Value} {xs:List Int} (h:OwnL base w v xs):Ints .i64 base w v xs:=Sl.of_owns h
theorem OwnL.ext {base:Nat} {w w':World} {v:Value} {xs:List Int} (h:OwnL base w v xs) (k:Ext w w'):OwnL base w' v xs:=owns_keep h k (Nat.zero_le _)
def OwnX (base n:Nat) (v:Value) (w:World):Prop:=∃ xs:List Int,xs.length≤n∧OwnL base w v xs
theorem OwnX.st {base n:Nat} : ∀ v w w',Ext w w'→OwnX base n v w→OwnX base n v w':=fun _ _ _ he ⟨xs,h1,h2⟩=>⟨xs,h1,h2.ext he⟩
theorem OwnX.ints {base n:Nat} {v:Value} {w:World} (h:OwnX base n v w):∃ xs,Ints .i64 base w v xs:=by
 obtain ⟨xs,_,h⟩:=h;exact ⟨xs,h.ints⟩
theorem OwnX.mono {base base' n n':Nat} {v:Value} {w:World} (h:OwnX base n v w) (hb:base'≤base) (hn:n≤n'):OwnX base' n' v w:=by
 obtain ⟨xs,h1,h2,h3⟩:=h
 refine ⟨xs,by omega,h2,h3.imp id ?_⟩
 rintro ⟨g,cap,cur,rfl,h4,rest⟩
 exact ⟨g,cap,cur,rfl,by omega,rest⟩
theorem OwnX.lt {base n b:Nat} {v:Value} {w:World} (h:OwnX base n v w) (hb:v.ownBlock=some b):base≤b∧b<w.heap.size:=by
 obtain ⟨xs,_,h⟩:=h;exact own_at h hb
theorem OwnX.one {base n:Nat} {v:Value} {w:World} (h:OwnX base n v w):v.oneCell'=true:=by
 obtain ⟨xs,h⟩:=h.ints;exact Sl.one h
/-- What turns here lies in the block of 'q' or is new. -/
structure Loc (q:Value) (w w':World):Prop where
 os:w'.os=w.os
 tape:w'.tape=w.tape
 output:w'.output=w.output
 size:w.heap.size≤w'.heap.size
 block:∀ k,k<w.heap.size→q.ownBlock≠some k→w'.heap[k]?=w.heap[k]?
theorem Loc.of_ext {q:Value} {w w':World} (h:Ext w w'):Loc q w w':=⟨h.os,h.tape,h.output,h.size,fun k hk _=>h.block k (Nat.zero_le _) hk⟩
theorem Loc.of_upd {q:Value} {b:Nat} {w w':World} (h:Upd b w w') (hb:q.ownBlock=some b):Loc q w w':=⟨h.os,h.tape,h.output,Nat.le_of_eq h.size.symm,fun k _ hk=>h.block k (fun e=>hk (by rw [hb,e]))⟩
theorem Loc.of_grown {q:Value} {w w':World} (h:w.grownBy w' q.ownBlock):Loc q w w':=⟨h.os,h.tape,h.output,h.size,fun k hk hn=>h.block k hk (fun e=>hn e.symm)⟩
theorem Loc.trans {q:Value} {a b c:World} (h:Loc q a b) (k:Loc q b c):Loc q a c:=⟨k.os.trans h.os,k.tape.trans h.tape,k.output.trans h.output,Nat.le_trans h.size k.size,fun i hi hq=>(k.block i (Nat.lt_of_lt_of_le hi h.size) hq).trans (h.block i hi hq)⟩
theorem Loc.blk {q:Value} {w w':World} {b:Nat} {cs:List Value} {t:TypeId} (h:Loc q w w') (hB:Blk w b cs t) (hn:q.ownBlock≠some b):Blk w' b cs t:=(h.block b hB.lt hn).trans hB
theorem Loc.keep {q:Value} {lo:Nat} {w0 w w':World} (h:Loc q w w') (k:Keep lo w0 w) (hq:∀ b,q.ownBlock=some b→w0.heap.size≤b):Keep lo w0 w' :=
 ⟨h.os.trans k.os,h.tape.trans k.tape,h.output.trans k.output,Nat.le_trans k.size h.size,fun i hl hi=>(h.block i (Nat.lt_of_lt_of_le hi k.size) (fun e=>by have:=hq i e;omega)).trans (k.block i hl hi)⟩
theorem owns_loc {q:Value} {w w':World} {base sz n:Nat} {el:TypeId} {v:Value} {xs:List Value} (h:w.ownsRow base el sz v n xs) (k:Loc q w w') (hn:∀ b,v.ownBlock=some b→q.ownBlock≠some b):w'.ownsRow base el sz v n xs:=by
 refine ⟨h.1,h.2.imp id ?_⟩
 rintro ⟨g,cap,cur,rfl,hb,hg,rest⟩
 exact ⟨g,cap,cur,rfl,hb,(k.block g (Array.getElem?_eq_some_iff.1 hg).1 (hn g rfl)).trans hg,rest⟩
theorem OwnX.loc {base n:Nat} {q v:Value} {w w':World} (h:OwnX base n v w) (k:Loc q w w') (hn:∀ b,v.ownBlock=some b→q.ownBlock≠some b):OwnX base n v w':=by
 obtain ⟨xs,h1,h2⟩:=h;exact ⟨xs,h1,owns_loc h2 k hn⟩
/-- A number set in a list of one's own. -/
theorem OwnX.set {base n b i:Nat} {x:Int} {v:Value} {w w':World} {cs:List Value} (h:OwnX base n v w) (hb:v.ownBlock=some b) (hB:Blk w b cs 3) (hB':Blk w' b (cs.set i (.int .i64 x)) 3):OwnX base n v w':=by
 obtain ⟨xs,h1,h2,h3⟩:=h
 rcases h3 with ⟨rfl,_⟩|⟨g,cap,cur,rfl,hbase,hg,hn,hm,hsz,htk⟩
 ·cases hb
 ·cases hb
  have e:=hB.symm.trans hg
  simp only [Option.some.injEq,Obj.cells.injEq] at e
  have ecs:cs=cur.toList:=by rw [← e.1]
  refine ⟨xs.set i x,by simpa using h1,by simp,.inr ⟨g,cap,(cs.set i (.int .i64 x)).toArray,by simp,hbase,hB',by simpa using hn,hm,?_,?_⟩⟩
  ·simp [ecs,hsz]
  ·simp only [ecs,List.length_set,List.map_set]
   rw [← htk,List.take_set]
theorem OwnX.blk {base n b:Nat} {v:Value} {w:World} (h:OwnX base n v w) (hb:v.ownBlock=some b):∃ xs cs cap,xs.length≤n∧Blk w b cs 3∧v = .slice (some ⟨b,0,none⟩) xs.length cap∧xs.length≤cs.length∧Ints .i64 base w v xs:=by
 obtain ⟨xs,h1,h2⟩:=h
 have hI:=h2.ints
 obtain ⟨_,h3⟩:=h2
 rcases h3 with ⟨rfl,_⟩|⟨g,cap,cur,rfl,hbase,hg,hn,hm,hsz,htk⟩
 ·cases hb
 ·cases hb
  exact ⟨xs,cur.toList,cap,h1,by unfold Blk;simpa using hg,rfl,by simp [hsz];omega,hI⟩
theorem OwnX.cut {base n m:Nat} {v:Value} {w:World} (h:OwnX base n v w) (hm:∀ xs,Ints .i64 base w v xs→m≤xs.length) (hv:m=0∨v ≠ .slice none 0 0):OwnX base n (cutH v m) w:=by
 obtain ⟨xs,h1,h2⟩:=h
 have hI:=hm xs h2.ints
 obtain ⟨h2,h3⟩:=h2
 rcases h3 with ⟨rfl,h0⟩|⟨g,cap,cur,rfl,hbase,hg,hn,hmx,hsz,htk⟩
 ·obtain rfl:m=0:=by omega
  exact ⟨[],Nat.zero_le _,by simp,.inl ⟨rfl,rfl⟩⟩
 ·refine ⟨xs.take m,by simp;omega,by simp,.inr ⟨g,cap,cur,?_,hbase,hg,by simp;omega,hmx,hsz,?_⟩⟩
  ·simp [cutH,Nat.min_eq_left hI]
  ·rw [List.length_take,Nat.min_eq_left hI,List.map_take,← htk,List.take_take]
   simp [Nat.min_eq_left hI]
theorem own_cutH (v:Value) (m:Nat):(cutH v m).ownBlock=v.ownBlock:=by
 cases v <;> try rfl
 rename_i oa _ _
 cases oa <;> rfl
/-- Lists in blocks of their own, none shared. -/
structure LS (base n:Nat) (w:World) (qs:List Value):Prop where
 all:∀ q∈qs,OwnX base n q w
 nd:(qs.filterMap Value.ownBlock).Nodup
theorem LS.nil (base n:Nat) (w:World):LS base n w []:=⟨fun _ h=>(by cases h),List.nodup_nil⟩
theorem LS.ext {base n:Nat} {w w':World} {qs:List Value} (h:LS base n w qs) (k:Ext w w'):LS base n w' qs:=⟨fun q hq=>OwnX.st _ _ _ k (h.all q hq),h.nd⟩
theorem LS.mono {base base' n n':Nat} {w:World} {qs:List Value} (h:LS base n w qs) (hb:base'≤base) (hn:n≤n'):LS base' n' w qs:=⟨fun q hq=>(h.all q hq).mono hb hn,h.nd⟩
theorem LS.loc {base n:Nat} {w w':World} {qs:List Value} {r:Value} (h:LS base n w qs) (k:Loc r w w') (hr:∀ q∈qs,∀ b,q.ownBlock=some b→r.ownBlock≠some b):LS base n w' qs:=⟨fun q hq=>(h.all q hq).loc k (hr q hq),h.nd⟩
theorem LS.sub {base n:Nat} {w:World} {qs qs':List Value} (h:LS base n w qs) (hs:qs'.Sublist qs):LS base n w qs':=⟨fun q hq=>h.all q (hs.subset hq),h.nd.sublist (hs.filterMap _)⟩
theorem LS.perm {base n:Nat} {w:World} {qs qs':List Value} (h:LS base n w qs) (hs:qs.Perm qs'):LS base n w qs':=⟨fun q hq=>h.all q (hs.mem_iff.2 hq),(hs.filterMap _).nodup_iff.1 h.nd⟩
theorem mem_fm {qs:List Value} {b:Nat} : b∈qs.filterMap Value.ownBlock↔∃ q∈qs,q.ownBlock=some b:=by simp
/-- Lists of which one half is new. -/
theorem LS.append {base n m:Nat} {w:World} {qs rs:List Value} (h:LS base n w qs) (k:LS base n w rs) (hq:∀ q∈qs,∀ b,q.ownBlock=some b→b<m) (hr:∀ q∈rs,∀ b,q.ownBlock=some b→m≤b):LS base n w (qs++rs):=by
 refine ⟨fun q hq'=>(List.mem_append.1 hq').elim (h.all q) (k.all q),?_⟩
 rw [List.filterMap_append,List.nodup_append]
 refine ⟨h.nd,k.nd,fun a ha b hb e=>?_⟩
 obtain ⟨q,h1,h2⟩:=mem_fm.1 ha
 obtain ⟨q',h3,h4⟩:=mem_fm.1 hb
 have:=hq q h1 a h2
 have:=hr q' h3 b h4
 omega
theorem LS.lt {base n:Nat} {w:World} {qs:List Value} (h:LS base n w qs):∀ q∈qs,∀ b,q.ownBlock=some b→b<w.heap.size:=fun q hq b hb=>((h.all q hq).lt hb).2
theorem LS.replace {base n n':Nat} {w w':World} {A B:List Value} {q q':Value} (h:LS base n w (A++q::B)) (k:Loc q w w') (hn:n≤n') (hq:OwnX base n' q' w') (hf:∀ b,q'.ownBlock=some b→q.ownBlock=some b∨w.heap.size≤b):LS base n' w' (A++q'::B):=by
 have hnd:=h.nd
 have hne:∀ x,x∈A∨x∈B→∀ b,x.ownBlock=some b→q.ownBlock≠some b:=fun x hx b hb hqb=>by
  rw [List.filterMap_append,List.filterMap_cons,hqb] at hnd
  simp only [List.nodup_append,List.nodup_cons] at hnd
  rcases hx with hx|hx
  ·exact hnd.2.2 b (mem_fm.2 ⟨x,hx,hb⟩) b (List.mem_cons_self ..) rfl
  ·exact hnd.2.1.1 (mem_fm.2 ⟨x,hx,hb⟩)
 refine ⟨fun x hx=>?_,?_⟩
 ·rcases List.mem_append.1 hx with hx|hx
  ·exact ((h.all x (List.mem_append_left _ hx)).loc k (hne x (.inl hx))).mono (Nat.le_refl _) hn
  ·rcases List.mem_cons.1 hx with rfl|hx
   ·exact hq
   ·exact ((h.all x (List.mem_append_right _ (List.mem_cons_of_mem _ hx))).loc k (hne x (.inr hx))).mono (Nat.le_refl _) hn
 ·cases hb:q'.ownBlock with
  | none =>
   have hs:(A.filterMap Value.ownBlock++B.filterMap Value.ownBlock).Sublist ((A++q::B).filterMap Value.ownBlock):=by
    rw [List.filterMap_append]
    exact (List.Sublist.refl _).append ((List.sublist_cons_self q B).filterMap _)
   rw [List.filterMap_append,List.filterMap_cons,hb]
   exact hnd.sublist hs
  | some b =>
   rw [List.filterMap_append,List.filterMap_cons,hb]
   have hs:(A.filterMap Value.ownBlock++B.filterMap Value.ownBlock).Nodup:=by
    refine hnd.sublist ?_
    rw [List.filterMap_append]
    exact (List.Sublist.refl _).append ((List.sublist_cons_self q B).filterMap _)
   have hout:∀ x,x∈A∨x∈B→x.ownBlock≠some b:=fun x hx hxb=>by
    rcases hf b hb with h1|h1
    ·exact hne x hx b hxb h1
    ·have:=((h.all x (by rcases hx with hx|hx;exact List.mem_append_left _ hx;exact List.mem_append_right _ (List.mem_cons_of_mem _ hx))).lt hxb).2
     omega
   rw [List.nodup_append] at hs
   rw [List.nodup_append,List.nodup_cons]
   refine ⟨hs.1,⟨fun hm=>?_,hs.2.1⟩,fun a ha c hc e=>?_⟩
   ·obtain ⟨x,h1,h2⟩:=mem_fm.1 hm;exact hout x (.inr h1) h2
   ·rcases List.mem_cons.1 hc with rfl|hc
    ·obtain ⟨x,h1,h2⟩:=mem_fm.1 ha;exact hout x (.inl h1) (by rw [h2,e])
    ·exact hs.2.2 a ha c hc e
def UnV.ls (u:UnV):List Value:=[u.gv,u.vv,u.pv]
def lsOf (us:List UnV):List Value:=us.flatMap UnV.ls
theorem lsOf_append (a b:List UnV):lsOf (a++b)=lsOf a++lsOf b:=by simp [lsOf]
theorem lsOf_one (u:UnV):lsOf [u]=u.ls:=by simp [lsOf]
/-- Units whose lists lie in blocks of their own, in a block of their own; of the units only the cells count. -/
structure Sk (base n:Nat) (w:World) (v:Value) (us:List UnV):Prop where
 row:w.ownsRow base 51 6 v us.length (ucells us)
 ls:LS base n w (lsOf us)
 nm:∀ u∈us,u.nm.length≤9223372036854775807
theorem Sk.ext {base n:Nat} {w w':World} {v:Value} {us:List UnV} (h:Sk base n w v us) (k:Ext w w'):Sk base n w' v us:=⟨owns_keep h.row k (Nat.zero_le _),h.ls.ext k,h.nm⟩
theorem Sk.mono {base base' n n':Nat} {w:World} {v:Value} {us:List UnV} (h:Sk base n w v us) (hb:base'≤base) (hn:n≤n'):Sk base' n' w v us:=by
 refine ⟨⟨h.row.1,h.row.2.imp id ?_⟩,h.ls.mono hb hn,h.nm⟩
 rintro ⟨g,cap,cur,rfl,h4,rest⟩
 exact ⟨g,cap,cur,rfl,by omega,rest⟩
theorem Sk.nil (base n:Nat) (w:World):Sk base n w (.slice none 0 0) []:=⟨owns_nil _ _ _ _,LS.nil _ _ _,fun _ h=>by cases h⟩
theorem unit_fill {base n:Nat} {w:World} {u:UnV} (h:∀ q∈u.ls,OwnX base n q w) (hn:u.nm.length≤9223372036854775807):∃ u':UnV,u'.cells=u.cells∧u'.ok base w:=by
 obtain ⟨gs,hg⟩:=(h u.gv (by simp [UnV.ls])).ints
 obtain ⟨vs,hv⟩:=(h u.vv (by simp [UnV.ls])).ints
 obtain ⟨ps,hp⟩:=(h u.pv (by simp [UnV.ls])).ints
 exact ⟨⟨u.nm,u.pp,u.gv,gs,u.vv,vs,u.pv,ps,u.wt⟩,rfl,⟨hg,hv,hp,hn⟩⟩
theorem units_fill {base n:Nat} {w:World} : ∀ {us:List UnV},(∀ q∈lsOf us,OwnX base n q w)→(∀ u∈us,u.nm.length≤9223372036854775807)→∃ us':List UnV,us'.length=us.length∧us'.map UnV.cells=us.map UnV.cells∧∀ u∈us',u.ok base w
 | [],_,_=>⟨[],rfl,rfl,fun _ h=>by cases h⟩
 | u::r,h,hn=>by
  obtain ⟨us',h1,h2,h3⟩:=units_fill (us:=r) (fun q hq=>h q (by rw [show u::r = [u]++r from rfl,lsOf_append];exact List.mem_append_right _ hq)) (fun u hu=>hn u (List.mem_cons_of_mem _ hu))
  obtain ⟨u',k1,k2⟩:=unit_fill (u:=u) (fun q hq=>h q (by rw [show u::r = [u]++r from rfl,lsOf_append,lsOf_one];exact List.mem_append_left _ hq)) (hn u (List.mem_cons_self ..))
  exact ⟨u'::us',by simp [h1],by simp [h2,k1],fun x hx=>by rcases List.mem_cons.1 hx with rfl|hx;exact k2;exact h3 x hx⟩
/-- What units so laid are. -/
theorem Sk.units {base n:Nat} {w:World} {v:Value} {us:List UnV} (h:Sk base n w v us):∃ us',us'.length=us.length∧us'.map UnV.cells=us.map UnV.cells∧Units base w v us':=by
 obtain ⟨us',h1,h2,h3⟩:=units_fill h.ls.all h.nm
 refine ⟨us',h1,h2,⟨?_,h3⟩⟩
 have:=Sl.of_owns h.row
 rw [h1,ucells,h2];exact this
theorem Sk.one {base n:Nat} {w:World} {v:Value} {us:List UnV} (h:Sk base n w v us):∀ u∈us,∀ c∈u.cells,c.oneCell'=true:=fun u hu=>by
 obtain ⟨u',k1,k2⟩:=unit_fill (u:=u) (fun q hq=>h.ls.all q (List.mem_flatMap.2 ⟨u,hu,hq⟩)) (h.nm u hu)
 rw [← k1];exact k2.one
/-- A block of units is none of numbers. -/
theorem row_ne {base n b j:Nat} {w:World} {v:Value} {xs cs:List Value} (h:w.ownsRow base 51 6 v n xs) (hv:v.ownBlock=some j) (hB:Blk w b cs 3):j≠b:=fun e=>by
 subst e
 rcases h.2 with ⟨rfl,_⟩|⟨g,cap,cur,rfl,_,hg,_⟩
 ·cases hv
 ·cases hv
  have:=hB.symm.trans hg
  simp at this
theorem Sk.out {base n:Nat} {w:World} {v:Value} {us:List UnV} (h:Sk base n w v us):∀ q∈lsOf us,∀ b,q.ownBlock=some b→v.ownBlock≠some b:=fun q hq b hb hv=>by
 obtain ⟨_,cs,_,_,hB,_⟩:=(h.ls.all q hq).blk hb
 exact row_ne h.row hv hB rfl
theorem take_ints {kd:IntKind} {lo:Nat} {w:World} {v:Value} {xs:List Int} (h:Ints kd lo w v xs) {m:Nat} (hm:m≤xs.length):Ints kd lo w (cutH v m) (xs.take m):=by
 have:=Sl_cutH h hm
 unfold Ints
 rw [List.length_take,Nat.min_eq_left hm,List.map_take]
 rwa [Nat.mul_one] at this
theorem min_ite (n:Nat) (m:Int) (k:Nat) (hm:m=k):(if m<(n:Int) then m else (n:Int))=((min n k:Nat):Int):=by
 subst hm;split <;> omega
theorem O.minN {C:Cx} {e:Env} {w:World} {K:Value→World→Prop} {d:Option Tmp} {ty:TypeId} {pos:String} {aft:Array Edge} {g:Option (Nat × Bool)} {x y:Operand} {tys:Array TypeId} {n k:Nat} (hx:ev e x=some (.int .i64 n)) (hy:ev e y=some (.int .i64 k)) (h:K (.int .i64 ((min n k:Nat):Int)) w) :
  O C e ⟨d,.call { callee:=.builtin .min,args:=#[x,y],argTypes:=tys },ty,pos,aft,g⟩ w K:=O.min hx hy (by rw [min_ite _ _ k rfl];exact h)
theorem OwnX.of_own {base base' n:Nat} {w:World} {v:Value} {xs:List Int} (h:w.ownsRow base 3 1 v xs.length (xs.map (Value.int .i64))) (hb:base'≤base) (hn:xs.length≤n):OwnX base' n v w:=(show OwnX base xs.length v w from ⟨xs,Nat.le_refl _,h⟩).mono hb hn
theorem three_nd {a b c:Value} (h1:∀ x,a.ownBlock=some x→b.ownBlock=some x→False) (h2:∀ x,a.ownBlock=some x→c.ownBlock=some x→False) (h3:∀ x,b.ownBlock=some x→c.ownBlock=some x→False):([a,b,c].filterMap Value.ownBlock).Nodup:=by
 cases ha:a.ownBlock <;> cases hb:b.ownBlock <;> cases hc:c.ownBlock <;> simp [List.filterMap_cons,ha,hb,hc]
 ·rintro rfl;exact h3 _ hb hc
 ·rintro rfl;exact h2 _ ha hc
 ·rintro rfl;exact h1 _ ha hb
 ·refine ⟨⟨?_,?_⟩,?_⟩
  ·rintro rfl;exact h1 _ ha hb
  ·rintro rfl;exact h2 _ ha hc
  ·rintro rfl;exact h3 _ hb hc
theorem OwnX.ltb {base n:Nat} {v:Value} {w:World} (h:OwnX base n v w):∀ b,v.ownBlock=some b→b<w.heap.size:=fun _ hb=>(h.lt hb).2
theorem copied_calls (lo:Nat) (r:RoV) (w:World) (hr:r.ok lo w) :
  Calls Tryz.prog 31 #[r.val] w (Ret fun v w'=>Ext w w'∧∃ cv us,v=(RoV.mk r.G r.P r.L cv us).val∧Sk w.heap.size 15 w' cv us∧us.length=min r.us.length 66):=by
 refine T.enter (vs:=[r.val]) func31 rfl ntmps31 rfl ?_
 refine T.q (L.o (O.box rfl (fun b1 w1 hb1 hz1 he1 hB1=>?_)))
 refine L.o (O.alloc zeroValue25 (fun b2 w2 hb2 hz2 he2 hB2=>?_))
 have he02:=he1.trans he2
 have hC2:Blk w2 b1 r.cells 25:=Blk.ext (cs:=r.cells) hB1 he2
 have hR2:Blk w2 b2 [.int .i64 0,.int .i64 0,.int .i64 0,.slice none 0 0] 25:=hB2
 have hU2:Units lo w2 r.uv r.us:=hr.ext he02
 have hle:=Sl.le hU2.sl
 refine L.nil (T.q (L.a rfl (L.nil (T.seq (T.q (L.o (O.fieldAddr runUnderlying25 rfl sizeOf23 rfl (L.o (O.load isAgg23 rfl (hC2.cell rfl) (L.o (O.fieldAddr runUnderlying25 rfl sizeOf23 rfl (L.o (O.load isAgg23 rfl (hC2.cell rfl) (?_))))))))))))))
 have hm66:min r.us.length 66≤r.us.length:=Nat.min_le_left _ _
 refine L.o (O.len runUnderlying23 rfl (Sl.val hU2.sl) (L.o (O.minN (k:=66) rfl rfl (?_))))
 have hm2:min r.us.length 66≤66:=Nat.min_le_right _ _
 have hcl:(r.us.take (min r.us.length 66)).length=min r.us.length 66:=by rw [List.length_take];omega
 refine L.o (O.cutH runUnderlying23 sizeOf51 rfl rfl hU2.sl hm66 (?_))
 have hK2:=hU2.cutH hm66
 refine L.o (O.len runUnderlying23 rfl (Sl.val hK2.sl) (?_))
 rw [hcl]
 refine L.m rfl (L.nil (T.block (?_)))
 refine T.loop (σ:=Nat × Value × List UnV) (fun s=>[(1,.pointer (some ⟨b1,0,none⟩)),(2,.pointer (some ⟨b2,0,none⟩)),(3,s.2.1),(12,cutH r.uv (min r.us.length 66)),(13,.int .i64 ((min r.us.length 66:Nat):Int)),(14,.int .i64 s.1)]) (fun s w'=>s.1≤min r.us.length 66∧Ext w2 w'∧Sk w2.heap.size 15 w' s.2.1 s.2.2∧s.2.2.length=s.1) (fun s=>min r.us.length 66-s.1) ((0,.slice none 0 0,[])) ⟨rfl,rfl,rfl,rfl,rfl,rfl,trivial⟩ ⟨Nat.zero_le _,Keep.refl _ _,Sk.nil _ _ _,rfl⟩ ?_
 rintro ⟨i,l,us⟩ w3 ⟨hi,he3,hS3,hl3⟩
 simp only at hi hS3 hl3
 have hK3:=hK2.ext he3
 refine T.q (L.o (O.lss_s rfl rfl (fun hlt=>?_) (fun hlt=>?_)))
 ·refine L.nil (?_)
  have hlt':i<min r.us.length 66:=by simpa using hlt
  have hlt2:i<(r.us.take (min r.us.length 66)).length:=by omega
  refine T.seq (T.ct (T.skip (T.seq (T.block (T.q (L.o (O.indexAddr runUnderlying23 sizeOf51 rfl rfl hK3.sl (by omega) (by omega) (L.o (O.loadAgg isAgg51 sizeOf51 rfl rfl (hK3.row hlt2) (L.o (O.alloc zeroValue51 (fun b4 w4 hb4 hz4 he4 hB4=>?_))))))))))))
  refine L.o (O.storeAgg sizeOf51 rfl rfl rfl hB4 (Nat.le_refl _) (hK3.at hlt2).one (fun w5 hu5 hB5=>?_))
  have hw:∃ u,u=(r.us.take (min r.us.length 66)).getD i u0:=⟨_,rfl⟩
  obtain ⟨u,hu⟩:=hw
  have hB5':Blk w5 b4 u.cells 51:=by rw [hu];exact hB5
  have he35:Ext w3 w5:=he4.upd hu5 (.inr (by omega))
  have hat:u.ok lo w5:=by rw [hu];exact (hK3.at hlt2).ext he35
  have hg15:min u.gs.length 15≤u.gs.length:=Nat.min_le_left _ _
  have hv15:min u.vs.length 15≤u.vs.length:=Nat.min_le_left _ _
  have hp15:min u.ps.length 15≤u.ps.length:=Nat.min_le_left _ _
  have hgt:(u.gs.take (min u.gs.length 15)).length≤15:=by rw [List.length_take];omega
  have hvt:(u.vs.take (min u.vs.length 15)).length≤15:=by rw [List.length_take];omega
  have hpt:(u.ps.take (min u.ps.length 15)).length≤15:=by rw [List.length_take];omega
  have hz25:=(he3.trans he35).size
  refine L.nil (T.seq (?_))
  refine T.anyF mixed 25 0 [5] rfl [.is _,.is _,.is _,.is _,.is _,.is _,.is _,.such (OwnX w5.heap.size 15),.is _,.is _,.is _,.is _,.is _,.is _,.is _,.such (OwnX w5.heap.size 15),.is _,.is _,.is _,.is _,.is _,.is _,.is _,.such (OwnX w5.heap.size 15),.is _] [[],[0],[],[2],[3],[4],[1,5],[6],[],[8],[],[10],[11],[12],[9,13],[14],[],[16],[],[18],[19],[20],[17,21],[22],[]] [none,none,none,none,none,none,none,none,none,none,none,none,none,none,none,none,none,none,none,none,none,none,none,none,none] [[],[0],[],[2],[2,3],[2,3,4],[0,1,2,3,4,5],[0,1,2,3,4,5,6],[],[8],[],[10],[10,11],[10,11,12],[8,9,10,11,12,13],[0,1,2,3,4,5,6,7,8,9,10,11,12,13,14],[],[16],[],[18],[18,19],[18,19,20],[16,17,18,19,20,21],[0,1,2,3,4,5,6,7,8,9,10,11,12,13,14,15,16,17,18,19,20,21,22],[0,1,2,3,4,5,6,7,8,9,10,11,16,17,18,19],[0,1,2,3,4,5,6,7,8,9,10,11,12,13,14,15,16,17,18,19,20,21,22,23,24],[0,1,2,3,4,5,6,7,8,9,10,11,12,13,14,15,16,17,18,19,20,21,22,23,24,25],[0,1,2,3,4,5,6,7,8,9,10,11,12,13,14,15,16,17,18,19,20,21,22,23,24,25,26],[0,1,2,3,4,5,6,7,8,9,10,11,12,13,14,15,16,17,18,19,20,21,22,23,24,25,26,27],[0,1,2,3,4,5,6,7,8,9,10,11,12,13,14,15,16,17,18,19,20,21,22,23,24,25,26,27,28]] [7,15,23] [] (fun _ _ _ _ _=>True) (fun _ wq=>Ext w5 wq) (Ext) (fun i f v w hi hf hh=>by { rcases (show i=7∨i=15∨i=23 by simpa using hi) with rfl|rfl|rfl <;> (simp only [List.getElem?_cons_succ,List.getElem?_cons_zero,Option.some.injEq] at hf;subst hf;exact OwnX.ltb hh) }) (fun _ _ _ _ _ _ _ _=>trivial) (by kernel_rfl) (by kernel_rfl) (by kernel_rfl) (by kernel_rfl) rfl ⟨OwnX.st,OwnX.st,OwnX.st,trivial⟩ (Keep.drew _ _) ⟨fun c wx hx=>ObX.op rfl (O.fieldAddr runUnderlying51 rfl sizeOf30 rfl ⟨⟨Keep.refl _ _,hx⟩,rfl,trivial,trivial⟩),
    fun c wx hx=>ObX.op rfl (O.load isAgg30 rfl ((hB5'.ext hx).cell rfl) ⟨⟨Keep.refl _ _,hx⟩,rfl,trivial,trivial⟩),
    fun c wx hx=>ObX.op rfl (O.fieldAddr runUnderlying51 rfl sizeOf30 rfl ⟨⟨Keep.refl _ _,hx⟩,rfl,trivial,trivial⟩),
    fun c wx hx=>ObX.op rfl (O.load isAgg30 rfl ((hB5'.ext hx).cell rfl) ⟨⟨Keep.refl _ _,hx⟩,rfl,trivial,trivial⟩),
    fun c wx hx=>ObX.op rfl (O.len runUnderlying30 rfl (Sl.val (hat.g.ext hx)) ⟨⟨Keep.refl _ _,hx⟩,rfl,trivial,trivial⟩),
    fun c wx hx=>ObX.op rfl (O.minN (k:=15) rfl rfl ⟨⟨Keep.refl _ _,hx⟩,rfl,trivial,trivial⟩),
    fun c wx hx=>ObX.op rfl (O.cutH runUnderlying30 sizeOf3 rfl rfl (hat.g.ext hx) hg15 ⟨⟨Keep.refl _ _,hx⟩,rfl,trivial,trivial⟩),
    fun c wx hx=>ObX.op rfl (O.call (xs:=[.tmp 24]) call78 rfl rfl (clone_calls lo _ (u.gs.take (min u.gs.length 15)) wx (take_ints (hat.g.ext hx) hg15) (by omega)) (fun v wy h=>and3 ⟨⟨h.1,hx.trans h.1⟩,OwnX.of_own h.2 hx.size hgt⟩ ⟨fun b hb=>(own_at h.2 hb).1,trivial⟩)),
    fun c wx hx=>ObX.op rfl (O.fieldAddr runUnderlying51 rfl sizeOf30 rfl ⟨⟨Keep.refl _ _,hx⟩,rfl,trivial,trivial⟩),
    fun c wx hx=>ObX.op rfl (O.load isAgg30 rfl ((hB5'.ext hx).cell rfl) ⟨⟨Keep.refl _ _,hx⟩,rfl,trivial,trivial⟩),
    fun c wx hx=>ObX.op rfl (O.fieldAddr runUnderlying51 rfl sizeOf30 rfl ⟨⟨Keep.refl _ _,hx⟩,rfl,trivial,trivial⟩),
    fun c wx hx=>ObX.op rfl (O.load isAgg30 rfl ((hB5'.ext hx).cell rfl) ⟨⟨Keep.refl _ _,hx⟩,rfl,trivial,trivial⟩),
    fun c wx hx=>ObX.op rfl (O.len runUnderlying30 rfl (Sl.val (hat.v.ext hx)) ⟨⟨Keep.refl _ _,hx⟩,rfl,trivial,trivial⟩),
    fun c wx hx=>ObX.op rfl (O.minN (k:=15) rfl rfl ⟨⟨Keep.refl _ _,hx⟩,rfl,trivial,trivial⟩),
    fun c wx hx=>ObX.op rfl (O.cutH runUnderlying30 sizeOf3 rfl rfl (hat.v.ext hx) hv15 ⟨⟨Keep.refl _ _,hx⟩,rfl,trivial,trivial⟩),
    fun c wx hx=>ObX.op rfl (O.call (xs:=[.tmp 32]) call78 rfl rfl (clone_calls lo _ (u.vs.take (min u.vs.length 15)) wx (take_ints (hat.v.ext hx) hv15) (by omega)) (fun v wy h=>and3 ⟨⟨h.1,hx.trans h.1⟩,OwnX.of_own h.2 hx.size hvt⟩ ⟨fun b hb=>(own_at h.2 hb).1,trivial⟩)),
    fun c wx hx=>ObX.op rfl (O.fieldAddr runUnderlying51 rfl sizeOf30 rfl ⟨⟨Keep.refl _ _,hx⟩,rfl,trivial,trivial⟩),
    fun c wx hx=>ObX.op rfl (O.load isAgg30 rfl ((hB5'.ext hx).cell rfl) ⟨⟨Keep.refl _ _,hx⟩,rfl,trivial,trivial⟩),
    fun c wx hx=>ObX.op rfl (O.fieldAddr runUnderlying51 rfl sizeOf30 rfl ⟨⟨Keep.refl _ _,hx⟩,rfl,trivial,trivial⟩),
    fun c wx hx=>ObX.op rfl (O.load isAgg30 rfl ((hB5'.ext hx).cell rfl) ⟨⟨Keep.refl _ _,hx⟩,rfl,trivial,trivial⟩),
    fun c wx hx=>ObX.op rfl (O.len runUnderlying30 rfl (Sl.val (hat.p.ext hx)) ⟨⟨Keep.refl _ _,hx⟩,rfl,trivial,trivial⟩),
    fun c wx hx=>ObX.op rfl (O.minN (k:=15) rfl rfl ⟨⟨Keep.refl _ _,hx⟩,rfl,trivial,trivial⟩),
    fun c wx hx=>ObX.op rfl (O.cutH runUnderlying30 sizeOf3 rfl rfl (hat.p.ext hx) hp15 ⟨⟨Keep.refl _ _,hx⟩,rfl,trivial,trivial⟩),
    fun c wx hx=>ObX.op rfl (O.call (xs:=[.tmp 40]) call78 rfl rfl (clone_calls lo _ (u.ps.take (min u.ps.length 15)) wx (take_ints (hat.p.ext hx) hp15) (by omega)) (fun v wy h=>and3 ⟨⟨h.1,hx.trans h.1⟩,OwnX.of_own h.2 hx.size hpt⟩ ⟨fun b hb=>(own_at h.2 hb).1,trivial⟩)),
    fun c wx hx=>ObX.op rfl (O.fieldAddr runUnderlying51 rfl sizeOf30 rfl ⟨⟨Keep.refl _ _,hx⟩,rfl,trivial,trivial⟩),
    trivial⟩ (fun w6 hI6 v25 hv25 v33 hv33 v41 hv41 hp6=>?_)
  obtain ⟨va,hva,hf1,_⟩:=hp6 7 15 _ _ _ _ (by decide) (by decide) rfl rfl rfl rfl
  obtain rfl:=hva _ _ rfl rfl
  obtain ⟨va,hva,hf2,_⟩:=hp6 7 23 _ _ _ _ (by decide) (by decide) rfl rfl rfl rfl
  obtain rfl:=hva _ _ rfl rfl
  obtain ⟨va,hva,hf3,_⟩:=hp6 15 23 _ _ _ _ (by decide) (by decide) rfl rfl rfl rfl
  obtain rfl:=hva _ _ rfl rfl
  have hz56:=Keep.size hI6
  have hb4:=hB5'.lt
  have hB5L:Blk w6 b4 [str u.nm,.int .i64 u.pp,u.gv,u.vv,u.pv,.bool u.wt] 51:=hB5'.ext hI6
  refine L.o (O.store1 sizeOf30 (OwnX.one hv25) rfl rfl hB5L (by simp [Value.cells]) (fun w7 hu7 hB7=>?_))
  refine L.o (O.fieldAddr runUnderlying51 rfl sizeOf30 rfl (L.o (O.store1 sizeOf30 (OwnX.one hv33) rfl rfl hB7 (by simp [Value.cells]) (fun w8 hu8 hB8=>?_))))
  refine L.o (O.fieldAddr runUnderlying51 rfl sizeOf30 rfl (L.o (O.store1 sizeOf30 (OwnX.one hv41) rfl rfl hB8 (by simp [Value.cells]) (fun w9 hu9 hB9=>?_))))
  obtain ⟨u',hu'⟩:∃ u':UnV,u'=⟨u.nm,u.pp,v25,[],v33,[],v41,[],u.wt⟩:=⟨_,rfl⟩
  have hB9':Blk w9 b4 u'.cells 51:=by rw [hu'];exact hB9
  have hlc:Loc (.slice (some ⟨b4,0,none⟩) 0 0) w6 w9:=((Loc.of_upd hu7 rfl).trans (Loc.of_upd hu8 rfl)).trans (Loc.of_upd hu9 rfl)
  have hn4:∀ {n:Nat} {v:Value} {w:World},OwnX w5.heap.size n v w→∀ b,v.ownBlock=some b→(Value.slice (some ⟨b4,0,none⟩) 0 0).ownBlock≠some b:=fun h b hb e=>by have e':b4=b:=Option.some.inj e;have:=(h.lt hb).1;omega
  have hL9:LS w5.heap.size 15 w9 u'.ls:=by
   rw [hu']
   refine ⟨fun q hq=>?_,?_⟩
   ·simp only [UnV.ls,List.mem_cons,List.mem_nil_iff,or_false] at hq
    rcases hq with rfl|rfl|rfl
    ·exact OwnX.loc hv25 hlc (hn4 hv25)
    ·exact OwnX.loc hv33 hlc (hn4 hv33)
    ·exact OwnX.loc hv41 hlc (hn4 hv41)
   ·exact three_nd hf1 hf2 hf3
  have hS5:Sk w2.heap.size 15 w6 l us:=hS3.ext (he35.trans hI6)
  have hnb:∀ q∈lsOf us,∀ b,q.ownBlock=some b→b<w3.heap.size:=hS3.ls.lt
  have hz35:=he4.size
  have hz5:=hu5.size
  have hb4s:w3.heap.size≤b4:=by omega
  have hS9:Sk w2.heap.size 15 w9 l us:=by
   refine ⟨owns_loc hS5.row hlc (fun b hb e=>?_),hS5.ls.loc hlc (fun q hq b hb e=>?_),hS5.nm⟩
   ·have e':b4=b:=Option.some.inj e;have:=(own_at hS3.row hb).2;omega
   ·have e':b4=b:=Option.some.inj e;have:=hnb q hq _ hb;omega
  refine L.nil (T.region (L.m rfl (L.o (O.loadAgg isAgg51 sizeOf51 rfl rfl hB9'.row (L.o (O.buildSlice (el:=51) (parts:=[(0,.tmp 46)]) (vs:=[(0,_)]) (cs:=u'.cells) rfl (fun w=>by kernel_rfl) (fun b10 w10 hb10 hz10 he10 hB10=>?_)))))))
  have hS10:=hS9.ext he10
  refine L.o (O.append (size:=6) (bytes:=104) runUnderlying23 Tryz.infoOf51 rfl rfl rfl rfl (by decide) rfl rfl hS10.row (Sl.of_blk (lo:=0) (n:=1) (sz:=6) hB10 rfl (Nat.le_refl _) (by decide) (Nat.zero_le _)) (by rw [hu'];intro c hc;simp [UnV.cells] at hc;rcases hc with (rfl|rfl|rfl|rfl|rfl|rfl);rfl;rfl;exact OwnX.one hv25;exact OwnX.one hv33;exact OwnX.one hv41;rfl) (by omega) (by simp only [maxLen];omega) (by have:=hu7.size;have:=hu8.size;have:=hu9.size;omega) (fun v11 w11 hO11 hG11=>?_))
  have hz9:w9.heap.size=w6.heap.size:=by rw [hu9.size,hu8.size,hu7.size]
  refine L.a rfl (L.nil (T.blk (T.region (L.o (O.add64 rfl rfl (by omega) (L.m rfl (L.nil (T.again ((i+1,v11,us ++ [u'])) (by omega) ⟨rfl,rfl,rfl,rfl,rfl,rfl,trivial⟩ ⟨hlt',?_,⟨?_,?_,?_⟩,by simp [hl3]⟩))))))))
  ·exact Keep.grown0 ((hlc.keep (he3.trans (he35.trans hI6)) (fun b hb=>by have e':b4=b:=Option.some.inj hb;have:=he3.size;omega)).trans he10) hS10.row hG11 (by omega)
  ·rw [List.length_append,List.length_singleton,ucells_append,ucells_one];exact hO11
  ·rw [lsOf_append,lsOf_one]
   have hz10:=he10.size
   have hall:LS w2.heap.size 15 w10 (lsOf us++u'.ls):=hS10.ls.append ((hL9.ext he10).mono (by omega) (Nat.le_refl _)) (m:=w5.heap.size) (fun q hq b hb=>by have:=hnb q hq b hb;omega) (fun q hq b hb=>((hL9.all q hq).lt hb).1)
   exact hall.loc (r:=l) (Loc.of_grown hG11) (fun q hq b hb e=>by
    obtain ⟨_,cs,_,_,hB,_⟩:=(hall.all q hq).blk hb
    exact row_ne hS10.row e hB rfl)
  ·intro x hx
   rcases List.mem_append.1 hx with hx|hx
   ·exact hS10.nm x hx
   ·rw [List.mem_singleton.1 hx,hu'];exact hat.n
 ·refine L.nil (?_)
  obtain rfl:i=min r.us.length 66:=by simp only at hlt;omega
  have hC3:Blk w3 b1 [.int .i64 r.G,.int .i64 r.P,.int .i64 r.L,r.uv] 25:=hC2.ext he3
  refine T.seq (T.cf (T.exit rfl (T.q (L.m rfl (L.o (O.fieldAddr runUnderlying25 rfl sizeOf23 rfl (L.o (O.store1 sizeOf23 (Sl.one (Sl.of_owns hS3.row)) rfl rfl hC3 (by simp [Value.cells]) (fun w4 hu4 hB4=>?_)))))))))
  replace hu4:Upd b1 w3 w4:=hu4
  have hC4:Blk w4 b1 [.int .i64 r.G,.int .i64 r.P,.int .i64 r.L,l] 25:=hB4
  refine L.nil (T.q (L.o (O.loadAgg isAgg25 sizeOf25 rfl rfl hC4.row (?_))))
  have hz:=he02.size
  have hR4:=(hR2.ext he3).upd hu4 (by omega)
  have hb1':=hC2.lt
  have hb2':=hR2.lt
  have hS4:Sk w2.heap.size 15 w4 l us:=⟨owns_upd hS3.row hu4 hb1',hS3.ls.loc (r:=.slice (some ⟨b1,0,none⟩) 0 0) (Loc.of_upd hu4 rfl) (fun q hq b hb e=>by have e':b1=b:=Option.some.inj e;have:=((hS3.ls.all q hq).lt hb).1;omega),hS3.nm⟩
  refine L.o (O.storeAgg sizeOf25 rfl rfl rfl hR4 (Nat.le_refl _) (by intro u hu;simp at hu;rcases hu with (rfl|rfl|rfl|rfl);rfl;rfl;rfl;exact Sl.one (Sl.of_owns hS3.row)) (fun w5 hu5 hB5=>?_))
  have hS5:Sk w2.heap.size 15 w5 l us:=⟨owns_upd hS4.row hu5 hb2',hS4.ls.loc (r:=.slice (some ⟨b2,0,none⟩) 0 0) (Loc.of_upd hu5 rfl) (fun q hq b hb e=>by have e':b2=b:=Option.some.inj e;have:=((hS4.ls.all q hq).lt hb).1;omega),hS4.nm⟩
  have hR5:Blk w5 b2 [.int .i64 r.G,.int .i64 r.P,.int .i64 r.L,l] 25:=hB5
  refine L.nil (T.retA results31 isAgg25 sizeOf25 rfl rfl hR5.row ⟨((he02.trans he3).upd hu4 (.inr (by omega))).upd hu5 (.inr (by omega)),l,us,rfl,hS5.mono hz (Nat.le_refl _),hl3⟩)

open Go Go.E

section ops
variable {C:Cx} {e:Env} {w:World} {K:Value→World→Prop} {d:Option Tmp} {ty:TypeId} {pos:String} {aft:Array Edge} {g:Option (Nat × Bool)} {x y z x3:Operand} {t:TypeId}
/-- 's[l:h:m]', only as a check. -/
theorem O.slice3 {oa:Option Addr} {n cap sz:Nat} {el:TypeId} {l h m:Nat} (hu:∀ w,(underlying t).run C.P w = .ok (.slice el) w) (hs:∀ w,(sizeOf el).run C.P w = .ok sz w) (hx:ev e x=some (.slice oa n cap)) (hy:ev e y=some (.int .i64 l)) (hz:ev e z=some (.int .i64 h)) (h3:ev e x3=some (.int .i64 m)) (h1:l≤h) (h2:h≤m) (h4:m≤cap) (hk:∀ v,K v w) :
  O C e ⟨d,.slice t x (some y) (some z) (some x3),ty,pos,aft,g⟩ w K :=
 O.of_run (v:=.slice (if m=l then oa else oa.map (·.add (l*sz))) (h-l) (m-l)) (by simp) (fun a ha=>by
  simp [execOp,Instr.sliceAt,Instr.slice,Instr.sliceBounds,Instr.sliceBound,asIntOf,ha.eval hx,ha.eval hy,ha.eval hz,ha.eval h3,hu w,hs w,h1,h2,h4]) (hk _)
/-- 's[l:h]' where h may lie behind the end. -/
theorem O.sliceCap {b n cap sz:Nat} {el:TypeId} {l h:Nat} (hu:∀ w,(underlying t).run C.P w = .ok (.slice el) w) (hs:∀ w,(sizeOf el).run C.P w = .ok sz w) (hx:ev e x=some (.slice (some ⟨b,0,none⟩) n cap)) (hy:ev e y=some (.int .i64 l)) (hz:ev e z=some (.int .i64 h)) (h1:l≤h) (h2:h≤cap) (h3:l<cap) (hk:K (.slice (some ⟨b,l*sz,none⟩) (h-l) (cap-l)) w) :
  O C e ⟨d,.slice t x (some y) (some z) none,ty,pos,aft,g⟩ w K :=
 O.of_run (v:=.slice (some ⟨b,l*sz,none⟩) (h-l) (cap-l)) (by simp) (fun a ha=>by
  have hne:¬ cap=l:=by omega
  have e1:((⟨b,0,none⟩:Addr).add (l*sz))=⟨b,l*sz,none⟩:=by rw [add_at];simp
  simp [execOp,Instr.sliceAt,Instr.slice,Instr.sliceBounds,Instr.sliceBound,asIntOf,ha.eval hx,ha.eval hy,ha.eval hz,hu w,hs w,h1,h2,hne,e1]) hk
/-- 'append' where there is room. -/
theorem O.appendRoom {b n cap m size lo:Nat} {el:TypeId} {i:TypeInfo} {cur news:List Value} {u:Value} (ht:∀ w,(underlying t).run C.P w = .ok (.slice el) w) (hi:C.P.info? el=some i) (hsize:i.size=size)
  (hx:ev e x=some (.slice (some ⟨b,0,none⟩) n cap)) (hy:ev e y=some u) (hB:Blk w b cur el) (hu:Sl lo w u m size news) (h1:∀ c∈news,c.oneCell'=true) (hroom:n+m≤cap) (hl:cur.length=cap*size)
  (h:∀ w',Upd b w w'→Blk w' b (cur.take (n*size)++news++cur.drop (n*size+news.length)) el→K (.slice (some ⟨b,0,none⟩) (n+m) cap) w') :
  O C e ⟨d,.call { callee:=.builtin .append,args:=#[x,y],argTypes:=#[t,t] },ty,pos,aft,g⟩ w K:=by
 have ht':C.P.underlying t=some (.slice el):=by
  have:=ht w
  simp only [underlying,Sem.run_bind,run_program,Result.andThen_ok] at this
  cases hq:C.P.underlying t with
  | none=>simp [hq,stuck] at this
  | some q=>simp [hq] at this;rw [this]
 subst hsize
 have hfit:n*i.size+news.length≤cur.length:=by rw [hu.1,hl,← Nat.add_mul];exact Nat.mul_le_mul_right _ hroom
 have hgen:∀ (ad:Addr) (c:Nat),Row w ad news→∃ w',(Builtin.append_ #[t,t] ty #[.slice (some ⟨b,0,none⟩) n cap,.slice (some ad) m c]).run C.P w = .ok (.slice (some ⟨b,0,none⟩) (n+m) cap) w'∧Upd b w w'∧Blk w' b (cur.take (n*i.size)++news++cur.drop (n*i.size+news.length)) el:=by
  intro ad c hr
  have hr2:=run_append_room (P:=C.P) w t ty el i ht' hi b n cap cur.toArray hB ad m c news hu.1 hr h1 hroom (by simpa using hfit)
  refine ⟨_,hr2,⟨rfl,rfl,rfl,by simp,fun k hk=>setRow_other w b k _ hk⟩,?_⟩
  have:=setRow_heap w b cur.toArray (cur.take (n*i.size)++news++cur.drop (n*i.size+news.length)).toArray el (0,0) hB
  unfold Blk
  simpa using this
 have key:∃ w',(Builtin.append_ #[t,t] ty #[.slice (some ⟨b,0,none⟩) n cap,u]).run C.P w = .ok (.slice (some ⟨b,0,none⟩) (n+m) cap) w'∧Upd b w w'∧Blk w' b (cur.take (n*i.size)++news++cur.drop (n*i.size+news.length)) el:=by
  obtain ⟨hl2,oa,c,rfl,hc,hm,hrow⟩:=hu
  rcases hrow with rfl|⟨ad,rfl,_,hr⟩
  ·have hnil:news = []:=List.eq_nil_of_length_eq_zero (by simpa using hl2)
   subst hnil
   cases oa with
   | some ad=>exact hgen ad c (fun j u hj=>by simp at hj)
   | none =>
    refine ⟨w,?_,upd_refl _ _,by simpa using hB⟩
    have:storeCells ((⟨b,0,none⟩:Addr).add (n*i.size)) []=(pure ():Sem Unit):=rfl
    simp [Builtin.append_,ht w,run_underlying ht',sizeOf,typeInfo,hi,Builtin.lenOf,Builtin.firstCells,(show n≤cap by omega),this]
  ·exact hgen ad c hr
 obtain ⟨w',hr,h2,h3⟩:=key
 exact O.of_run (by simp) (fun a ha=>by simp [execOp,resolve,invoke,builtin,ha.eval hx,ha.eval hy,hr]) (h w' h2 h3)
/-- 'clear' of a part of a block. -/
theorem O.clearAt {b off n c:Nat} {el:TypeId} {zv:Value} {cur:List Value} (ht:∀ w,(underlying t).run C.P w = .ok (.slice el) w) (hz:∀ w,(zeroValue el).run C.P w = .ok zv w) (h1:∀ u∈zv.cells,u.oneCell'=true)
  (hx:ev e x=some (.slice (some ⟨b,off,none⟩) n c)) (hn:0<n) (hB:Blk w b cur el) (hfit:off+n*zv.cells.size≤cur.length)
  (h:∀ w',Upd b w w'→(∃ cs,cs.length=cur.length∧cs.take off=cur.take off∧Blk w' b cs el)→K (.tuple #[]) w') :
  O C e ⟨d,.call { callee:=.builtin .clear,args:=#[x],argTypes:=#[t] },ty,pos,aft,g⟩ w K:=by
 have hzs:(Builtin.zeroCells zv.cells n).toList.length=n*zv.cells.size:=by simp [Builtin.zeroCells]
 have hall:∀ u∈(Builtin.zeroCells zv.cells n).toList,u.oneCell'=true:=fun u hu=>by
  simp only [Builtin.zeroCells,Array.mem_toList_iff,Array.mem_map,Array.mem_range] at hu
  obtain ⟨j,hj,rfl⟩:=hu
  have hp:0<zv.cells.size:=by
   rcases Nat.eq_zero_or_pos zv.cells.size with h0|h0
   ·rw [h0] at hj;simp at hj
   ·exact h0
  have hlt:=Nat.mod_lt j hp
  rw [getElem!_pos zv.cells (j % zv.cells.size) hlt]
  exact h1 _ (Array.getElem_mem hlt)
 have hst:=run_storeCells_at C.P b off el (Builtin.zeroCells zv.cells n).toList 0 cur.toArray w hB (by rw [hzs];simpa using hfit) hall
 obtain ⟨n,rfl⟩:∃ q,n=q+1:=⟨n-1,by omega⟩
 refine O.of_run (v:=.tuple #[]) (w':=w.setRow b (cur.toArray.toList.take (off+0)++(Builtin.zeroCells zv.cells (n+1)).toList++cur.toArray.toList.drop (off+0+(Builtin.zeroCells zv.cells (n+1)).toList.length)).toArray) (by simp) (fun a ha=>by
  simp only [execOp,resolve,invoke,builtin,ha.eval hx,Builtin.clear_,List.map_toArray,List.map_cons,List.map_nil,Sem.run_bind,Sem.run_pure,Result.andThen_ok,ht w,hz w,hst]
  simp [Builtin.clear_,ht w,hz w,hst]) (h _ ⟨rfl,rfl,rfl,by simp,fun k hk=>setRow_other w b k _ hk⟩ ⟨_,?_,?_,setRow_heap w b cur.toArray _ el (0,0) hB⟩)
 ·simp only [List.length_append,List.length_take,List.length_drop,hzs,Nat.add_zero];omega
 ·rw [Nat.add_zero,List.append_assoc,List.take_append_of_le_length (by simp;omega)]
  simp [List.take_take]
end ops
theorem Sk.blk {base n:Nat} {w:World} {v:Value} {us:List UnV} (h:Sk base n w v us) (hne:us ≠ []):∃ b cap cur,v = .slice (some ⟨b,0,none⟩) us.length cap∧base≤b∧Blk w b cur 51∧us.length≤cap∧cap≤maxLen∧cur.length=cap*6∧cur.take (us.length*6)=ucells us:=by
 rcases h.row.2 with ⟨_,h0⟩|⟨g,cap,cur,rfl,hbase,hg,hn,hm,hsz,htk⟩
 ·exact absurd (List.length_eq_zero_iff.1 h0) hne
 ·exact ⟨g,cap,cur.toList,rfl,hbase,by unfold Blk;simpa using hg,hn,hm,by simpa using hsz,htk⟩
theorem row_of {base b cap:Nat} {w:World} {cur:List Value} {us:List UnV} (hb:base≤b) (hB:Blk w b cur 51) (hn:us.length≤cap) (hm:cap≤maxLen) (hl:cur.length=cap*6) (ht:cur.take (us.length*6)=ucells us):w.ownsRow base 51 6 (.slice (some ⟨b,0,none⟩) us.length cap) us.length (ucells us) :=
 ⟨ucells_len us,.inr ⟨b,cap,cur.toArray,rfl,hb,hB,hn,hm,by simpa using hl,by simpa using ht⟩⟩
def SlW (n:Nat) (cs:List Value) (v:Value) (w:World):Prop:=Sl 0 w v n 6 cs
theorem SlW.st {n:Nat} {cs:List Value} : ∀ v w w',Ext w w'→SlW n cs v w→SlW n cs v w':=fun _ _ _ he h=>Sl.ext h he
theorem lsOf_sub {us vs:List UnV} (h:us.Sublist vs):(lsOf us).Sublist (lsOf vs):=by
 induction h with
 | slnil=>exact List.Sublist.refl _
 | cons a h ih=>rw [show ∀ l:List UnV,lsOf (a::l)=a.ls++lsOf l from fun l=>by simp [lsOf]];exact ih.trans (List.sublist_append_right _ _)
 | cons_cons a h ih=>rw [show ∀ l:List UnV,lsOf (a::l)=a.ls++lsOf l from fun l=>by simp [lsOf]];rw [show ∀ l:List UnV,lsOf (a::l)=a.ls++lsOf l from fun l=>by simp [lsOf]];exact (List.Sublist.refl _).append ih
theorem del_sub (us:List UnV) (i:Nat):(us.take i++us.drop (i+1)).Sublist us:=by
 have:=(List.Sublist.refl (us.take i)).append (List.drop_sublist_drop_left us (Nat.le_succ i))
 rwa [List.take_append_drop] at this
theorem deleteU_calls (base m i:Nat) (v:Value) (us:List UnV) (w:World) (hS:Sk base m w v us) (hi:i<us.length) (hlen:us.length≤100) :
  Calls Tryz.prog 134 #[v,.int .i64 i,.int .i64 ((i:Int)+1)] w (Ret fun v' w'=>Loc v w w'∧Sk base m w' v' (us.take i++us.drop (i+1))∧v'.ownBlock=v.ownBlock):=by
 have hone:∀ c∈ucells us,c.oneCell'=true:=fun c hc=>by
  obtain ⟨l,hl,hc2⟩:=List.mem_flatten.1 hc
  obtain ⟨u,hu,rfl⟩:=List.mem_map.1 hl
  exact hS.one u hu c hc2
 have hone':∀ c∈ucells (us.drop (i+1)),c.oneCell'=true:=fun c hc=>hone c (by rw [← ucells_drop] at hc;exact List.mem_of_mem_drop hc)
 have hSl:Sl 0 w v us.length 6 (ucells us):=(Sl.of_owns hS.row).mono (Nat.zero_le _)
 refine T.enter (vs:=[v,.int .i64 i,.int .i64 ((i:Int)+1)]) func134 rfl ntmps134 rfl ?_
 refine T.q (L.a rfl (L.nil (T.q (L.m rfl (L.m rfl (L.m rfl (L.m rfl (L.o (O.len runUnderlying23 rfl (Sl.val hSl) (?_))))))))))
 obtain ⟨b,cap,cur,rfl,hb,hB,hnc,hcm,hcl,hct⟩:=hS.blk (by intro h;rw [h] at hi;simp at hi)
 refine L.o (O.slice3 (l:=i) (h:=i+1) (m:=us.length) runUnderlying23 sizeOf51 rfl rfl rfl rfl (by omega) (by omega) (by omega) (fun v13=>?_))
 refine L.nil (T.seq (T.q (L.m rfl (L.m rfl (L.o (O.eql_f rfl rfl (by omega) (L.nil (T.cf (T.skip (T.q (L.m rfl (L.o (O.len runUnderlying23 rfl (Sl.val hSl) (L.a rfl (L.nil (T.seq (?_)))))))))))))))))
 refine T.anyE mixed 6 [0,1,2] rfl [.is _,.is _,.is _,.is _,.is _,.such (SlW (us.length-(i+1)) (ucells (us.drop (i+1))))] [[],[],[0,1],[],[],[3,4]] [[],[],[0,1],[],[],[3,4],[0,1,2,3,4,5],[0,1,2,3,4,5,6]] (by kernel_rfl) (by kernel_rfl) rfl (by kernel_rfl) ⟨SlW.st,trivial⟩ ⟨fun wx hx=>Ob.o (O.move rfl kR),
   fun wx hx=>Ob.o (O.move rfl kR),
   fun wx hx=>Ob.o (O.slice_to runUnderlying23 sizeOf51 rfl rfl (by omega) (by omega) kR),
   fun wx hx=>Ob.o (O.move rfl kR),
   fun wx hx=>Ob.o (O.move rfl kR),
   fun wx hx=>Ob.o (O.cut_l runUnderlying23 sizeOf51 rfl rfl (hSl.ext hx) (by omega) (by omega) (fun v25 hs25=>⟨Keep.refl _ _,by rw [show ((i:Int)+1).toNat=i+1 by omega,ucells_drop] at hs25;exact hs25⟩)),
   trivial⟩ (fun w14 he14 v25 hv25=>?_)
 refine L.o (O.appendRoom (size:=6) runUnderlying23 Tryz.infoOf51 rfl rfl rfl (hB.ext he14) hv25 hone' (by omega) hcl (fun w15 hu15 hB15=>?_))
 have hi':(i:Int).toNat=i:=Int.toNat_natCast i
 rw [hi'] at hB15
 obtain ⟨us',hus'⟩:∃ us',us'=us.take i++us.drop (i+1):=⟨_,rfl⟩
 have hl':us'.length=i+(us.length-(i+1)):=by rw [hus',List.length_append,List.length_take,List.length_drop];omega
 have hti:cur.take (i*6)=ucells (us.take i):=by rw [← ucells_take,← hct,List.take_take,Nat.min_eq_left (by omega)]
 obtain ⟨cs,hcs⟩:∃ cs,cs=cur.take (i*6)++ucells (us.drop (i+1))++cur.drop (i*6+(ucells (us.drop (i+1))).length):=⟨_,rfl⟩
 rw [← hcs] at hB15
 have hl15:cs.length=cap*6:=by rw [hcs];simp only [List.length_append,List.length_take,List.length_drop,ucells_len];omega
 have ht15:cs.take (us'.length*6)=ucells us':=by
  rw [hcs,hti,← ucells_append,← hus',← ucells_len us',List.take_left]
 rw [hi']
 rw [← hl']
 have hrow15:=row_of hb hB15 (us:=us') (cap:=cap) (by omega) hcm hl15 ht15
 refine L.a rfl (L.nil (T.q (L.m rfl (L.m rfl (L.o (O.len runUnderlying23 rfl (Sl.val (Sl.of_owns hrow15)) (L.m rfl (L.o (O.sliceCap runUnderlying23 sizeOf51 rfl rfl rfl (by omega) (by omega) (by omega) (L.o (O.clearAt runUnderlying23 zeroValue51 (by intro u hu;simp [Value.cells] at hu;rcases hu with (rfl|rfl|rfl|rfl|rfl|rfl) <;> rfl) rfl (by omega) hB15 (by rw [hl15];show us'.length*6+(us.length-us'.length)*6≤cap*6;omega) (fun w16 hu16 ⟨cs16,hl16,ht16,hB16⟩=>?_))))))))))))
 have hrow16:=row_of hb hB16 (us:=us') (cap:=cap) (by omega) hcm (by omega) (by rw [ht16,ht15])
 have hloc:Loc (.slice (some ⟨b,0,none⟩) us.length cap) w w16:=((Loc.of_ext he14).trans (Loc.of_upd hu15 rfl)).trans (Loc.of_upd hu16 rfl)
 refine L.nil (T.q (L.m rfl (L.a rfl (L.nil (T.ret1 results134 rfl ⟨hloc,⟨by rw [← hus'];exact hrow16,?_,fun u hu=>hS.nm u ((del_sub us i).subset hu)⟩,rfl⟩)))))
 exact (hS.ls.sub (lsOf_sub (del_sub us i))).loc hloc (fun q hq c hc=>hS.out q ((lsOf_sub (del_sub us i)).subset hq) c hc)

end Go.Proofs.YtnlonpcbgjbbaaaGreatDoor
