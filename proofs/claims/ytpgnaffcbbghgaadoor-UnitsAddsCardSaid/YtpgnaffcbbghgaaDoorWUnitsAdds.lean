/-
  UnitsAdds returns true for every input, and each argument reads behind the call as it read before. Conditions: the listed variables read as the program's text lays them (tied by the card).
-/
import Derived.Test.YtpgnaffcbbghgaaDoorMg
import Derived.Test.YtpgnaffcbbghgaaDoorMh
import Derived.Test.YtpgnaffcbbghgaaDoorCards
set_option linter.unusedVariables false
set_option linter.unusedSimpArgs false
set_option maxRecDepth 20000
namespace Go.Proofs.YtpgnaffcbbghgaaDoor
open Go Go.E
attribute [local irreducible] Go.E.T Go.E.L Go.E.O Go.E.Ob

attribute [local irreducible] Go.E.ObX
theorem rolls_get {r0 r1 r2 : RoV} {i : Nat} (hi : i < 3) : ((r0.cells ++ r1.cells ++ r2.cells).drop ((i : Int).toNat * 4)).take 4 = ([r0, r1, r2].getD i r0).cells := by
  rcases (show i = 0 ∨ i = 1 ∨ i = 2 by omega) with rfl | rfl | rfl <;> rfl
theorem rolls_mem {r0 r1 r2 : RoV} {i : Nat} (hi : i < 3) : [r0, r1, r2].getD i r0 = r0 ∨ [r0, r1, r2].getD i r0 = r1 ∨ [r0, r1, r2].getD i r0 = r2 := by
  rcases (show i = 0 ∨ i = 1 ∨ i = 2 by omega) with rfl | rfl | rfl
  · exact .inl rfl
  · exact .inr (.inl rfl)
  · exact .inr (.inr rfl)
theorem findRes_form (r : RoV) (s : Str) : ∃ a e : Int, findRes r s = .tuple #[.int .i64 a, .int .i64 e] := by
  unfold findRes
  split
  · split <;> exact ⟨_, _, rfl⟩
  · exact ⟨_, _, rfl⟩
theorem landRes_le (r : RoV) : 0 ≤ landRes r ∧ landRes r ≤ 64 := by
  by_cases h : rollErr r = 0
  · rw [landRes_ok h]; have := landsN_le r.us; have := roll_bnd h; omega
  · rw [landRes_no h]; omega
theorem two_get {a b : Str} {i : Nat} (hi : i < 2) : ∃ s : Str, #[str a, str b][(i : Int).toNat]? = some (str s) := by
  rcases (show i = 0 ∨ i = 1 by omega) with rfl | rfl
  · exact ⟨a, rfl⟩
  · exact ⟨b, rfl⟩
theorem three_get {a b c i : Nat} (hi : i < 3) (ha : a < 18446744073709551616) (hb : b < 18446744073709551616) (hc : c < 18446744073709551616) : ∃ s : Nat, s < 18446744073709551616 ∧ #[Value.int .u64 (a : Int), Value.int .u64 (b : Int), Value.int .u64 (c : Int)][(i : Int).toNat]? = some (.int .u64 (s : Int)) := by
  rcases (show i = 0 ∨ i = 1 ∨ i = 2 by omega) with rfl | rfl | rfl
  · exact ⟨a, ha, rfl⟩
  · exact ⟨b, hb, rfl⟩
  · exact ⟨c, hc, rfl⟩
theorem UnitsTotals_calls (lo : Nat) (d : Dr) (b c : Bd) (nm : Str) (at' : Int) (set : Nat) (w : World) (hd : d.ok lo w) (hb : b.ok) (hc : c.ok) (hat : Low8 at') (hset : set < 18446744073709551616) :
    Calls Tryd.prog 4 #[d.val, bends b c, str nm, .int .u8 at', .int .u64 set] w (Ret fun v w' => v = .bool true ∧ Ext w w') := by
  refine T.enter (vs := [d.val, bends b c, str nm, .int .u8 at', .int .u64 set]) Tryd.func4 rfl Tryd.ntmps4 rfl ?_
  refine T.seq (T.region (L.op rfl rfl (O.box rfl (fun b5 w5 hb5 hz5 he5 hB5 => ?_))))
  refine L.op rfl rfl (O.box rfl (fun b6 w6 hb6 hz6 he6 hB6 => ?_))
  unfold Low8 at hat
  have he06 := he5.trans he6
  have hD6 : Blk w6 b5 d.cells 27 := Blk.ext (cs := d.cells) hB5 he6
  refine L.op rfl rfl (O.assign rfl (L.nil (T.seq (T.seq (T.region (L.op rfl rfl (O.loadAgg Tryd.isAgg27 Tryd.sizeOf27 rfl rfl hD6.row (L.op rfl rfl (O.loadAgg Tryd.isAgg48 Tryd.sizeOf48 rfl rfl (Blk.row hB6) (L.op rfl rfl (O.call (xs := [.tmp 34, .tmp 35]) Tryd.call15 rfl rfl (rolls_calls lo d b c w6 (hd.ext he06) hb hc) (fun v7 w7 hq => ?_))))))))))))
  obtain ⟨he7, n, r0, r1, r2, rfl, hdr, hrs⟩ := hq
  have he07 := he06.trans he7
  refine L.op rfl rfl (O.move rfl (L.nil (T.block (?_))))
  refine T.loop (σ := Nat) (fun i => [(2, str nm), (3, .int .u8 at'), (4, .int .u64 set), (36, .agg (r0.cells ++ r1.cells ++ r2.cells).toArray), (37, .int .i64 i)]) (fun i w' => i ≤ 3 ∧ Ext w7 w') (fun i => 3 - i) (0) ⟨rfl, rfl, rfl, rfl, rfl, trivial⟩ ⟨Nat.zero_le _, Keep.refl _ _⟩ ?_
  rintro i w8 ⟨hi, he8⟩
  refine T.seq (T.region (L.op rfl rfl (O.lss_s rfl rfl (fun hlt => ?_) (fun hlt => ?_))))
  · refine L.nil (?_)
    have hlt' : i < 3 := by omega
    obtain ⟨r, hr⟩ : ∃ r, r = [r0, r1, r2].getD i r0 := ⟨_, rfl⟩
    have hro := hrs r (by rw [hr]; exact rolls_mem hlt')
    have hgi := rolls_get (r0 := r0) (r1 := r1) (r2 := r2) hlt'
    rw [← hr] at hgi
    refine T.seq (T.cond_true rfl (T.skip (T.seq (T.block (T.seq (T.region (L.op rfl rfl (O.index_agg_to Tryd.runUnderlying49 Tryd.isAgg32 Tryd.sizeOf32 rfl rfl (by omega) (by omega) hgi (L.op rfl rfl (O.alloc Tryd.zeroValue32 (fun b9 w9 hb9 hz9 he9 hB9 => ?_)))))))))))
    have hr8 := hro.1.ext he8
    refine L.op rfl rfl (O.storeAgg Tryd.sizeOf32 rfl rfl rfl hB9 (Nat.le_refl _) (by intro u hu; simp [RoV.cells] at hu; rcases hu with (rfl|rfl|rfl|rfl); rfl; rfl; rfl; exact hr8.one) (fun w10 hu10 hB10 => ?_))
    replace hu10 : Upd b9 w9 w10 := hu10
    have hC10 : Blk w10 b9 r.cells 32 := hB10
    have he810 : Ext w8 w10 := he9.upd hu10 (.inr (by omega))
    have hr10 := hr8.ext he810
    have hl67 := hro.2
    refine L.nil (T.seq (T.region (L.op rfl rfl (O.loadAgg Tryd.isAgg32 Tryd.sizeOf32 rfl rfl hC10.row (L.op rfl rfl (O.call (xs := [.tmp 41]) Tryd.call10 rfl rfl (Land_calls w6.heap.size r w10 hr10) (fun v11 w11 hq => ?_)))))))
    obtain ⟨rfl, he11⟩ := hq
    refine L.op rfl rfl (O.move rfl (L.op rfl rfl (O.extract rfl rfl (L.op rfl rfl (O.extract rfl rfl (L.op rfl rfl (O.assign rfl (L.op rfl rfl (O.assign rfl (L.nil (T.seq (T.region (L.op rfl rfl (O.loadAgg Tryd.isAgg32 Tryd.sizeOf32 rfl rfl ((hC10.ext he11).row) (L.op rfl rfl (O.call (xs := [.tmp 46]) Tryd.call16 rfl rfl (RLand_calls w6.heap.size r w11 (hr10.ext he11)) (fun v12 w12 hq => ?_)))))))))))))))))
    obtain ⟨rfl, he12⟩ := hq
    refine L.op rfl rfl (O.move rfl (L.op rfl rfl (O.extract rfl rfl (L.op rfl rfl (O.extract rfl rfl (L.op rfl rfl (O.assign rfl (L.op rfl rfl (O.assign rfl (L.nil (T.seq (T.seq (T.region (L.op rfl rfl (O.move rfl (L.op rfl rfl (O.move rfl (L.op rfl rfl (O.neq_f rfl rfl rfl (L.op rfl rfl (O.move rfl (L.op rfl rfl (O.move rfl (L.op rfl rfl (O.move rfl (L.op rfl rfl (O.neq_f rfl rfl rfl (?_))))))))))))))))))))))))))))
    have he1012 := he11.trans he12
    have hC12 := hC10.ext he1012
    have hr12 := hr10.ext he1012
    refine L.op rfl rfl (O.pick_false rfl rfl (L.nil (T.cond_false rfl (T.skip (T.seq (T.region (L.op rfl rfl (O.assign rfl (L.nil (T.seq (?_)))))))))))
    refine T.join (σ := Str) (fun s => [(2, str nm), (3, .int .u8 at'), (4, .int .u64 set), (12, .pointer (some ⟨b9, 0, none⟩)), (15, .int .i64 (landRes r)), (17, str s), (36, .agg (r0.cells ++ r1.cells ++ r2.cells).toArray), (37, .int .i64 i)]) (fun s w' => Ext w12 w') ?_ ?_
    · refine T.seq (T.region (L.op rfl rfl (O.fieldAddr Tryd.runUnderlying32 rfl Tryd.sizeOf30 rfl (L.op rfl rfl (O.load Tryd.isAgg30 rfl (hC12.cell rfl) (L.op rfl rfl (O.len Tryd.runUnderlying30 rfl (Sl.val hr12.sl) (L.op rfl rfl (O.gtr_s rfl rfl (fun hpos => ?_) (fun hpos => ?_))))))))))
      · refine L.nil (?_)
        have hpos' : 0 < r.us.length := by omega
        obtain ⟨k, hk⟩ : ∃ k : Nat, at' % (r.us.length : Int) = k := ⟨(at' % (r.us.length : Int)).toNat, by have := Int.emod_nonneg at' (show (r.us.length : Int) ≠ 0 by omega); omega⟩
        have hk2 : k < r.us.length := by have := Int.emod_lt_of_pos at' (show (0 : Int) < r.us.length by omega); omega
        refine T.cond_true rfl (?_)
        refine T.anyE mixed 8 [12, 3] rfl [.is _, .is _, .is _, .is _, .is _, .is _, .is _, .is (.int .i64 (k : Nat))] [[], [0], [], [2], [], [4], [5], [3, 6]] [[], [0], [], [2], [], [4], [4, 5], [2, 3, 4, 5, 6], [0, 1, 2, 3, 4, 5, 6, 7], [0, 1, 2, 3, 4, 5, 6, 7, 8], [0, 1, 2, 3, 4, 5, 6, 7, 8, 9], [0, 1, 2, 3, 4, 5, 6, 7, 8, 9, 10]] (by kernel_rfl) (by kernel_rfl) rfl (by kernel_rfl) trivial ⟨fun wx hx => Ob.op rfl (O.fieldAddr Tryd.runUnderlying32 rfl Tryd.sizeOf30 rfl ⟨Keep.refl _ _, rfl⟩),
            fun wx hx => Ob.op rfl (O.load Tryd.isAgg30 rfl ((hC12.ext hx).cell rfl) ⟨Keep.refl _ _, rfl⟩),
            fun wx hx => Ob.op rfl (O.move rfl ⟨Keep.refl _ _, rfl⟩),
            fun wx hx => Ob.op rfl (O.conv_to rfl (fun w => ⟨_, Tryd.runUnderlying5 w⟩) Tryd.runUnderlying3 (IntWalk.i64_in _ ⟨by omega, by omega⟩) ⟨Keep.refl _ _, rfl⟩),
            fun wx hx => Ob.op rfl (O.fieldAddr Tryd.runUnderlying32 rfl Tryd.sizeOf30 rfl ⟨Keep.refl _ _, rfl⟩),
            fun wx hx => Ob.op rfl (O.load Tryd.isAgg30 rfl ((hC12.ext hx).cell rfl) ⟨Keep.refl _ _, rfl⟩),
            fun wx hx => Ob.op rfl (O.len Tryd.runUnderlying30 rfl (Sl.val ((Units.ext hr12 hx).sl)) ⟨Keep.refl _ _, rfl⟩),
            fun wx hx => Ob.op rfl (O.rem rfl rfl (by omega) (by omega) ⟨Keep.refl _ _, by rw [hk]; rfl⟩),
            trivial⟩ (fun w13 he13 => ?_)
        refine L.op rfl rfl (O.indexAddr Tryd.runUnderlying30 Tryd.sizeOf42 rfl rfl ((Units.ext hr12 he13).sl) (by omega) (by omega) (L.op rfl rfl (O.fieldAddr Tryd.runUnderlying42 rfl Tryd.sizeOf9 rfl (L.op rfl rfl (O.load Tryd.isAgg9 rfl ((Units.ext hr12 he13).name hk2) (L.op rfl rfl (O.assign rfl (L.nil (T.meet ((r.us.getD k u0).nm) ⟨rfl, rfl, rfl, rfl, rfl, rfl, rfl, rfl, trivial⟩ he13)))))))))
      · refine L.nil (T.cond_false rfl (T.skip (T.meet ([]) ⟨rfl, rfl, rfl, rfl, rfl, rfl, rfl, rfl, trivial⟩ (Keep.refl _ _))))
    rintro own w13 he13
    refine T.seq (T.seq (T.region (L.op rfl rfl (O.move rfl (L.op rfl rfl (O.move rfl (L.op rfl rfl (O.build (v := .agg #[str nm, str own]) (parts := [(0, .tmp 73), (1, .tmp 74)]) (vs := [(0, _), (1, _)]) rfl (fun w => by kernel_rfl) (L.op rfl rfl (O.move rfl (L.nil (T.block (?_)))))))))))))
    refine T.loop (σ := Nat) (fun j => [(2, str nm), (3, .int .u8 at'), (4, .int .u64 set), (12, .pointer (some ⟨b9, 0, none⟩)), (15, .int .i64 (landRes r)), (36, .agg (r0.cells ++ r1.cells ++ r2.cells).toArray), (37, .int .i64 i), (75, .agg #[str nm, str own]), (76, .int .i64 j)]) (fun j w' => j ≤ 2 ∧ Ext w12 w') (fun j => 2 - j) (0) ⟨rfl, rfl, rfl, rfl, rfl, rfl, rfl, rfl, rfl, trivial⟩ ⟨Nat.zero_le _, he13⟩ ?_
    rintro j w14 ⟨hj, he14⟩
    refine T.seq (T.region (L.op rfl rfl (O.lss_s rfl rfl (fun hltj => ?_) (fun hltj => ?_))))
    · refine L.nil (?_)
      obtain ⟨s, hs⟩ := two_get (a := nm) (b := own) (i := j) (by omega)
      refine T.seq (T.cond_true rfl (T.skip (T.seq (T.block (T.seq (T.region (L.op rfl rfl (O.index_arr Tryd.runUnderlying51 Tryd.isAgg9 Tryd.sizeOf9 rfl rfl (by omega) (by omega) hs (L.op rfl rfl (O.assign rfl (L.nil (T.seq (T.region (L.op rfl rfl (O.loadAgg Tryd.isAgg32 Tryd.sizeOf32 rfl rfl ((hC12.ext he14).row) (L.op rfl rfl (O.move rfl (L.op rfl rfl (O.call (xs := [.tmp 80, .tmp 81]) Tryd.call13 rfl rfl (Find_calls w6.heap.size r s w14 (hr12.ext he14)) (fun v15 w15 hq => ?_))))))))))))))))))))
      obtain ⟨hv15, he15⟩ := hq
      obtain ⟨fa, fe, hf⟩ := findRes_form r s
      rw [hf] at hv15
      subst hv15
      refine L.op rfl rfl (O.move rfl (L.op rfl rfl (O.extract rfl rfl (L.op rfl rfl (O.extract rfl rfl (L.op rfl rfl (O.assign rfl (L.op rfl rfl (O.assign rfl (L.nil (T.seq (T.region (L.op rfl rfl (O.loadAgg Tryd.isAgg32 Tryd.sizeOf32 rfl rfl (((hC12.ext he14).ext he15).row) (L.op rfl rfl (O.move rfl (L.op rfl rfl (O.call (xs := [.tmp 86, .tmp 87]) Tryd.call17 rfl rfl (RFind_calls w6.heap.size r s w15 ((hr12.ext he14).ext he15)) (fun v16 w16 hq => ?_)))))))))))))))))))
      obtain ⟨hv16, he16⟩ := hq
      rw [hf] at hv16
      subst hv16
      refine L.op rfl rfl (O.move rfl (L.op rfl rfl (O.extract rfl rfl (L.op rfl rfl (O.extract rfl rfl (L.op rfl rfl (O.assign rfl (L.op rfl rfl (O.assign rfl (L.nil (T.seq (T.region (L.op rfl rfl (O.move rfl (L.op rfl rfl (O.move rfl (L.op rfl rfl (O.neq_f rfl rfl rfl (L.op rfl rfl (O.move rfl (L.op rfl rfl (O.move rfl (L.op rfl rfl (O.move rfl (L.op rfl rfl (O.neq_f rfl rfl rfl (L.op rfl rfl (O.pick_false rfl rfl (L.nil (T.cond_false rfl (T.skip (T.blk (T.region (L.op rfl rfl (O.add64 rfl rfl (by omega) (L.op rfl rfl (O.move rfl (L.nil (?_)))))))))))))))))))))))))))))))))))))))
      refine T.again (j + 1) (by omega) ⟨rfl, rfl, rfl, rfl, rfl, rfl, rfl, rfl, rfl, trivial⟩ ⟨by omega, he14.trans (he15.trans he16)⟩
    · refine L.nil (?_)
      obtain ⟨m, hm⟩ : ∃ m : Nat, landRes r = m := ⟨(landRes r).toNat, by have := landRes_le r; omega⟩
      have hm64 : m ≤ 64 := by have := landRes_le r; omega
      rw [hm]
      refine T.seq (T.cond_false rfl (T.exit rfl (T.seq (T.region (L.op rfl rfl (O.move rfl (L.op rfl rfl (O.move rfl (L.op rfl rfl (O.move rfl (L.op rfl rfl (O.and_i64 rfl rfl (b := 63) rfl rfl (by omega) (by decide) (?_)))))))))))))
      have hm63 : m &&& 63 ≤ 63 := Nat.and_le_right
      have hb1 : 1 ≤ bit64 (m &&& 63) := by rw [bit64, Nat.mod_eq_of_lt (by have := Nat.pow_lt_pow_right (a := 2) (by decide) (show m &&& 63 < 64 by omega); omega)]; exact Nat.pos_of_ne_zero (Nat.ne_of_gt (Nat.pow_pos (by decide)))
      have hm6' : (m &&& 63 : Nat) < 9223372036854775808 := by omega
      have hb2 : 1 ≤ bit64 ((m &&& 63 : Nat) : Int).toNat := hb1
      refine L.op rfl rfl (O.conv_to rfl (fun w => ⟨_, Tryd.runUnderlying3 w⟩) Tryd.runUnderlying52 (IntWalk.u64_in _ ⟨by omega, by omega⟩) (L.op rfl rfl (O.bit_u64 rfl rfl (by omega) (L.op rfl rfl (O.sub_u64 (b := 1) rfl rfl (bit64_lt _) (by decide) rfl rfl (by omega) (?_))))))
      obtain ⟨ms, hms⟩ : ∃ ms, ms = bit64 (m &&& 63) - 1 := ⟨_, rfl⟩
      refine L.op rfl rfl (O.and_u64 (b := ms) rfl (by rw [hms]; rfl) hset (by rw [hms]; have := bit64_lt (m &&& 63); omega) rfl rfl (L.op rfl rfl (O.move rfl (L.op rfl rfl (O.rem rfl rfl (by omega) (by omega) (?_))))))
      have hset2 : set &&& ms < 18446744073709551616 := and_lt _ hset
      refine L.op rfl rfl (O.bit_u64 rfl rfl (by omega) (L.op rfl rfl (O.build (v := .agg #[.int .u64 (set : Int), .int .u64 ((set &&& ms : Nat) : Int), .int .u64 ((bit64 ((at' % 64).toNat) : Nat) : Int)]) (parts := [(0, .tmp 100), (1, .tmp 107), (2, .tmp 110)]) (vs := [(0, _), (1, _), (2, _)]) rfl (fun w => by kernel_rfl) (L.op rfl rfl (O.move rfl (L.nil (T.block (?_))))))))
      refine T.loop (σ := Nat) (fun j => [(2, str nm), (3, .int .u8 at'), (4, .int .u64 set), (12, .pointer (some ⟨b9, 0, none⟩)), (36, .agg (r0.cells ++ r1.cells ++ r2.cells).toArray), (37, .int .i64 i), (111, .agg #[.int .u64 (set : Int), .int .u64 ((set &&& ms : Nat) : Int), .int .u64 ((bit64 ((at' % 64).toNat) : Nat) : Int)]), (112, .int .i64 j)]) (fun j w' => j ≤ 3 ∧ Ext w12 w') (fun j => 3 - j) (0) ⟨rfl, rfl, rfl, rfl, rfl, rfl, rfl, rfl, trivial⟩ ⟨Nat.zero_le _, he14⟩ ?_
      rintro j w17 ⟨hj, he17⟩
      refine T.seq (T.region (L.op rfl rfl (O.lss_s rfl rfl (fun hltj => ?_) (fun hltj => ?_))))
      · refine L.nil (?_)
        obtain ⟨x, hx64, hxg⟩ := three_get (i := j) (by omega) hset hset2 (bit64_lt ((at' % 64).toNat))
        refine T.seq (T.cond_true rfl (T.skip (T.seq (T.block (T.seq (T.region (L.op rfl rfl (O.index_arr Tryd.runUnderlying53 Tryd.isAgg28 Tryd.sizeOf28 rfl rfl (by omega) (by omega) hxg (L.op rfl rfl (O.assign rfl (L.nil (T.seq (T.region (L.op rfl rfl (O.loadAgg Tryd.isAgg32 Tryd.sizeOf32 rfl rfl ((hC12.ext he17).row) (L.op rfl rfl (O.move rfl (L.op rfl rfl (O.call (xs := [.tmp 116, .tmp 117]) Tryd.call11 rfl rfl (Total_calls w6.heap.size r x w17 (hr12.ext he17) hx64) (fun v18 w18 hq => ?_))))))))))))))))))))
        obtain ⟨he18, g1, x1, rfl, hg1, hx1⟩ := hq
        refine L.op rfl rfl (O.move rfl (L.op rfl rfl (O.extract rfl rfl (L.op rfl rfl (O.extract rfl rfl (L.op rfl rfl (O.extract rfl rfl (L.op rfl rfl (O.extract rfl rfl (L.op rfl rfl (O.assign rfl (L.op rfl rfl (O.assign rfl (L.op rfl rfl (O.assign rfl (L.op rfl rfl (O.assign rfl (L.nil (T.seq (T.region (L.op rfl rfl (O.loadAgg Tryd.isAgg32 Tryd.sizeOf32 rfl rfl (((hC12.ext he17).ext he18).row) (L.op rfl rfl (O.move rfl (L.op rfl rfl (O.call (xs := [.tmp 124, .tmp 125]) Tryd.call18 rfl rfl (RTotal_calls w6.heap.size r x w18 ((hr12.ext he17).ext he18) hx64) (fun v19 w19 hq => ?_)))))))))))))))))))))))))))
        obtain ⟨he19, g2, x2, rfl, hg2, hx2⟩ := hq
        refine L.op rfl rfl (O.move rfl (L.op rfl rfl (O.extract rfl rfl (L.op rfl rfl (O.extract rfl rfl (L.op rfl rfl (O.extract rfl rfl (L.op rfl rfl (O.extract rfl rfl (L.op rfl rfl (O.assign rfl (L.op rfl rfl (O.assign rfl (L.op rfl rfl (O.assign rfl (L.op rfl rfl (O.assign rfl (L.nil (T.seq (T.region (L.op rfl rfl (O.move rfl (L.op rfl rfl (O.move rfl (L.op rfl rfl (O.neq_f rfl rfl rfl (L.op rfl rfl (O.move rfl (L.op rfl rfl (O.move rfl (L.op rfl rfl (O.move rfl (L.op rfl rfl (O.neq_f rfl rfl rfl (L.op rfl rfl (O.pick_false rfl rfl (L.op rfl rfl (O.move rfl (L.op rfl rfl (O.move rfl (L.op rfl rfl (O.move rfl (L.op rfl rfl (O.call (xs := [.tmp 140, .tmp 141]) Tryd.call19 rfl rfl (equalI_calls w17.heap.size w18.heap.size g1 g2 _ _ w19 (Ints.ext hg1 he19) hg2) (fun v20 w20 hq => ?_)))))))))))))))))))))))))))))))))))))))))))))
        obtain ⟨hv20, he20⟩ := hq
        rw [decide_eq_true rfl] at hv20
        subst hv20
        refine L.op rfl rfl (O.not rfl (L.op rfl rfl (O.pick_false rfl rfl (L.op rfl rfl (O.move rfl (L.op rfl rfl (O.move rfl (L.op rfl rfl (O.move rfl (L.op rfl rfl (O.call (xs := [.tmp 146, .tmp 147]) Tryd.call19 rfl rfl (equalI_calls w17.heap.size w18.heap.size x1 x2 _ _ w20 (Ints.ext (Ints.ext hx1 he19) he20) (Ints.ext hx2 he20)) (fun v21 w21 hq => ?_))))))))))))
        obtain ⟨hv21, he21⟩ := hq
        rw [decide_eq_true rfl] at hv21
        subst hv21
        refine L.op rfl rfl (O.not rfl (L.op rfl rfl (O.pick_false rfl rfl (L.nil (T.cond_false rfl (T.skip (T.blk (T.region (L.op rfl rfl (O.add64 rfl rfl (by omega) (L.op rfl rfl (O.move rfl (L.nil (T.again (j + 1) (by omega) ⟨rfl, rfl, rfl, rfl, rfl, rfl, rfl, rfl, trivial⟩ ⟨by omega, he17.trans ((he18.trans he19).trans (he20.trans he21))⟩))))))))))))))
      · refine L.nil (T.seq (T.cond_false rfl (T.exit rfl (T.blk (T.region (L.op rfl rfl (O.add64 rfl rfl (by omega) (L.op rfl rfl (O.move rfl (L.nil (T.again (i + 1) (by omega) ⟨rfl, rfl, rfl, rfl, rfl, trivial⟩ ⟨by omega, he8.trans (he810.trans (he1012.trans he17))⟩)))))))))))
  · refine L.nil (T.seq (T.cond_false rfl (T.exit rfl (T.seq (T.region (L.op rfl rfl (O.call (xs := []) Tryd.call8 rfl rfl (works_calls w8) (fun v9 w9 hq => ?_))))))))
    obtain ⟨rfl, he9⟩ := hq
    refine L.op rfl rfl (O.assign rfl (L.nil (T.ret1 Tryd.results4 rfl ⟨rfl, he07.trans (he8.trans he9)⟩)))

end Go.Proofs.YtpgnaffcbbghgaaDoor
set_option linter.unusedVariables false
set_option linter.unusedSimpArgs false
set_option maxRecDepth 20000
namespace Go.Proofs.YtpgnaffcbbghgaaDoor
open Go Go.E
attribute [local irreducible] Go.E.T Go.E.L Go.E.O Go.E.Ob

theorem six_get {lv : Int} {i : Nat} (hi : i < 6) : ∃ x : Int, #[Value.int .i64 (-1), Value.int .i64 0, Value.int .i64 1, Value.int .i64 2, Value.int .i64 3, Value.int .i64 lv][(i : Int).toNat]? = some (.int .i64 x) := by
  rcases (show i = 0 ∨ i = 1 ∨ i = 2 ∨ i = 3 ∨ i = 4 ∨ i = 5 by omega) with rfl | rfl | rfl | rfl | rfl | rfl <;> exact ⟨_, rfl⟩
theorem UnitsParents_calls (lo : Nat) (d : Dr) (b c : Bd) (lv : Int) (w : World) (hd : d.ok lo w) (hb : b.ok) (hc : c.ok) :
    Calls Tryd.prog 5 #[d.val, bends b c, .int .i64 lv] w (Ret fun v w' => v = .bool true ∧ Ext w w') := by
  refine T.enter (vs := [d.val, bends b c, .int .i64 lv]) Tryd.func5 rfl Tryd.ntmps5 rfl ?_
  refine T.seq (T.region (L.op rfl rfl (O.box rfl (fun b5 w5 hb5 hz5 he5 hB5 => ?_))))
  refine L.op rfl rfl (O.box rfl (fun b6 w6 hb6 hz6 he6 hB6 => ?_))
  have he06 := he5.trans he6
  have hD6 : Blk w6 b5 d.cells 27 := Blk.ext (cs := d.cells) hB5 he6
  refine L.op rfl rfl (O.assign rfl (L.nil (T.seq (T.seq (T.region (L.op rfl rfl (O.loadAgg Tryd.isAgg27 Tryd.sizeOf27 rfl rfl hD6.row (L.op rfl rfl (O.loadAgg Tryd.isAgg48 Tryd.sizeOf48 rfl rfl (Blk.row hB6) (L.op rfl rfl (O.call (xs := [.tmp 19, .tmp 20]) Tryd.call15 rfl rfl (rolls_calls lo d b c w6 (hd.ext he06) hb hc) (fun v7 w7 hq => ?_))))))))))))
  obtain ⟨he7, n, r0, r1, r2, rfl, hdr, hrs⟩ := hq
  have he07 := he06.trans he7
  refine L.op rfl rfl (O.move rfl (L.nil (T.block (?_))))
  refine T.loop (σ := Nat) (fun i => [(2, .int .i64 lv), (21, .agg (r0.cells ++ r1.cells ++ r2.cells).toArray), (22, .int .i64 i)]) (fun i w' => i ≤ 3 ∧ Ext w7 w') (fun i => 3 - i) (0) ⟨rfl, rfl, rfl, trivial⟩ ⟨Nat.zero_le _, Keep.refl _ _⟩ ?_
  rintro i w8 ⟨hi, he8⟩
  refine T.seq (T.region (L.op rfl rfl (O.lss_s rfl rfl (fun hlt => ?_) (fun hlt => ?_))))
  · refine L.nil (?_)
    have hlt' : i < 3 := by omega
    obtain ⟨r, hr⟩ : ∃ r, r = [r0, r1, r2].getD i r0 := ⟨_, rfl⟩
    have hro := hrs r (by rw [hr]; exact rolls_mem hlt')
    have hgi := rolls_get (r0 := r0) (r1 := r1) (r2 := r2) hlt'
    rw [← hr] at hgi
    refine T.seq (T.cond_true rfl (T.skip (T.seq (T.block (T.seq (T.region (L.op rfl rfl (O.index_agg_to Tryd.runUnderlying49 Tryd.isAgg32 Tryd.sizeOf32 rfl rfl (by omega) (by omega) hgi (L.op rfl rfl (O.alloc Tryd.zeroValue32 (fun b9 w9 hb9 hz9 he9 hB9 => ?_)))))))))))
    have hr8 := hro.1.ext he8
    refine L.op rfl rfl (O.storeAgg Tryd.sizeOf32 rfl rfl rfl hB9 (Nat.le_refl _) (by intro u hu; simp [RoV.cells] at hu; rcases hu with (rfl|rfl|rfl|rfl); rfl; rfl; rfl; exact hr8.one) (fun w10 hu10 hB10 => ?_))
    replace hu10 : Upd b9 w9 w10 := hu10
    have hC10 : Blk w10 b9 r.cells 32 := hB10
    have he810 : Ext w8 w10 := he9.upd hu10 (.inr (by omega))
    have hr10 := hr8.ext he810
    refine L.nil (T.seq (T.seq (T.region (L.op rfl rfl (O.move rfl (L.op rfl rfl (O.build (v := .agg #[.int .i64 (-1), .int .i64 0, .int .i64 1, .int .i64 2, .int .i64 3, .int .i64 lv]) (parts := [(0, .const (.int .i64 (-1))), (1, .const (.int .i64 0)), (2, .const (.int .i64 1)), (3, .const (.int .i64 2)), (4, .const (.int .i64 3)), (5, .tmp 25)]) (vs := [(0, _), (1, _), (2, _), (3, _), (4, _), (5, _)]) rfl (fun w => by kernel_rfl) (L.op rfl rfl (O.move rfl (L.nil (T.block (?_))))))))))))
    refine T.loop (σ := Nat) (fun j => [(2, .int .i64 lv), (8, .pointer (some ⟨b9, 0, none⟩)), (21, .agg (r0.cells ++ r1.cells ++ r2.cells).toArray), (22, .int .i64 i), (26, .agg #[.int .i64 (-1), .int .i64 0, .int .i64 1, .int .i64 2, .int .i64 3, .int .i64 lv]), (27, .int .i64 j)]) (fun j w' => j ≤ 6 ∧ Ext w10 w') (fun j => 6 - j) (0) ⟨rfl, rfl, rfl, rfl, rfl, rfl, trivial⟩ ⟨Nat.zero_le _, Keep.refl _ _⟩ ?_
    rintro j w14 ⟨hj, he14⟩
    refine T.seq (T.region (L.op rfl rfl (O.lss_s rfl rfl (fun hltj => ?_) (fun hltj => ?_))))
    · refine L.nil (?_)
      obtain ⟨x, hx⟩ := six_get (lv := lv) (i := j) (by omega)
      refine T.seq (T.cond_true rfl (T.skip (T.seq (T.block (T.seq (T.region (L.op rfl rfl (O.index_arr Tryd.runUnderlying56 Tryd.isAgg3 Tryd.sizeOf3 rfl rfl (by omega) (by omega) hx (L.op rfl rfl (O.assign rfl (L.nil (T.seq (T.region (L.op rfl rfl (O.loadAgg Tryd.isAgg32 Tryd.sizeOf32 rfl rfl ((hC10.ext he14).row) (L.op rfl rfl (O.move rfl (L.op rfl rfl (O.call (xs := [.tmp 31, .tmp 32]) Tryd.call20 rfl rfl (Parents_calls w6.heap.size r x w14 (hr10.ext he14)) (fun v15 w15 hq => ?_))))))))))))))))))))
      obtain ⟨he15, l1, rfl, hl1⟩ := hq
      refine L.op rfl rfl (O.move rfl (L.op rfl rfl (O.extract rfl rfl (L.op rfl rfl (O.extract rfl rfl (L.op rfl rfl (O.assign rfl (L.op rfl rfl (O.assign rfl (L.nil (T.seq (T.region (L.op rfl rfl (O.loadAgg Tryd.isAgg32 Tryd.sizeOf32 rfl rfl (((hC10.ext he14).ext he15).row) (L.op rfl rfl (O.move rfl (L.op rfl rfl (O.call (xs := [.tmp 37, .tmp 38]) Tryd.call21 rfl rfl (RParents_calls w6.heap.size r x w15 ((hr10.ext he14).ext he15)) (fun v16 w16 hq => ?_)))))))))))))))))))
      obtain ⟨he16, l2, rfl, hl2⟩ := hq
      refine L.op rfl rfl (O.move rfl (L.op rfl rfl (O.extract rfl rfl (L.op rfl rfl (O.extract rfl rfl (L.op rfl rfl (O.assign rfl (L.op rfl rfl (O.assign rfl (L.nil (T.seq (T.region (L.op rfl rfl (O.move rfl (L.op rfl rfl (O.move rfl (L.op rfl rfl (O.neq_f rfl rfl rfl (L.op rfl rfl (O.move rfl (L.op rfl rfl (O.move rfl (L.op rfl rfl (O.move rfl (L.op rfl rfl (O.call (xs := [.tmp 46, .tmp 47]) Tryd.call22 rfl rfl (equalPar_calls w14.heap.size w15.heap.size l1 l2 _ _ w16 (Sl.ext hl1 he16) hl2) (fun v17 w17 hq => ?_)))))))))))))))))))))))))))
      obtain ⟨hv17, he17⟩ := hq
      rw [decide_eq_true rfl] at hv17
      subst hv17
      refine L.op rfl rfl (O.not rfl (L.op rfl rfl (O.pick_false rfl rfl (L.nil (T.cond_false rfl (T.skip (T.blk (T.region (L.op rfl rfl (O.add64 rfl rfl (by omega) (L.op rfl rfl (O.move rfl (L.nil (T.again (j + 1) (by omega) ⟨rfl, rfl, rfl, rfl, rfl, rfl, trivial⟩ ⟨by omega, he14.trans ((he15.trans he16).trans he17)⟩))))))))))))))
    · refine L.nil (?_)
      have hC14 := hC10.ext he14
      refine T.seq (T.cond_false rfl (T.exit rfl (T.seq (T.region (L.op rfl rfl (O.loadAgg Tryd.isAgg32 Tryd.sizeOf32 rfl rfl hC14.row (L.op rfl rfl (O.call (xs := [.tmp 53]) Tryd.call23 rfl rfl (Nested_calls w6.heap.size r w14 (hr10.ext he14)) (fun v15 w15 hq => ?_)))))))))
      obtain ⟨rfl, he15⟩ := hq
      refine L.op rfl rfl (O.move rfl (L.op rfl rfl (O.extract rfl rfl (L.op rfl rfl (O.extract rfl rfl (L.op rfl rfl (O.assign rfl (L.op rfl rfl (O.assign rfl (L.nil (T.seq (T.region (L.op rfl rfl (O.loadAgg Tryd.isAgg32 Tryd.sizeOf32 rfl rfl ((hC14.ext he15).row) (L.op rfl rfl (O.call (xs := [.tmp 58]) Tryd.call24 rfl rfl (RNested_calls w6.heap.size r w15 ((hr10.ext he14).ext he15)) (fun v16 w16 hq => ?_)))))))))))))))))
      obtain ⟨rfl, he16⟩ := hq
      refine L.op rfl rfl (O.move rfl (L.op rfl rfl (O.extract rfl rfl (L.op rfl rfl (O.extract rfl rfl (L.op rfl rfl (O.assign rfl (L.op rfl rfl (O.assign rfl (L.nil (T.seq (T.region (L.op rfl rfl (O.move rfl (L.op rfl rfl (O.move rfl (L.op rfl rfl (O.neq_bool_f Tryd.runUnderlying4 rfl rfl rfl (L.op rfl rfl (O.move rfl (L.op rfl rfl (O.move rfl (L.op rfl rfl (O.move rfl (L.op rfl rfl (O.neq_f rfl rfl rfl (L.op rfl rfl (O.pick_false rfl rfl (L.nil (T.cond_false rfl (T.skip (T.blk (T.region (L.op rfl rfl (O.add64 rfl rfl (by omega) (L.op rfl rfl (O.move rfl (L.nil (?_)))))))))))))))))))))))))))))))))))))))
      refine T.again (i + 1) (by omega) ⟨rfl, rfl, rfl, trivial⟩ ⟨by omega, he8.trans (he810.trans (he14.trans (he15.trans he16)))⟩
  · refine L.nil (T.seq (T.cond_false rfl (T.exit rfl (T.seq (T.region (L.op rfl rfl (O.call (xs := []) Tryd.call8 rfl rfl (works_calls w8) (fun v9 w9 hq => ?_))))))))
    obtain ⟨rfl, he9⟩ := hq
    refine L.op rfl rfl (O.assign rfl (L.nil (T.ret1 Tryd.results5 rfl ⟨rfl, he07.trans (he8.trans he9)⟩)))

end Go.Proofs.YtpgnaffcbbghgaaDoor
set_option linter.unusedVariables false
set_option linter.unusedSimpArgs false
set_option maxRecDepth 20000
namespace Go.Proofs.YtpgnaffcbbghgaaDoor
open Go Go.E
attribute [local irreducible] Go.E.T Go.E.L Go.E.O Go.E.Ob

attribute [local irreducible] Go.E.ObX
theorem O.mask_u64 {C : Cx} {e : Env} {w : World} {K : Value → World → Prop} {d : Option Tmp} {ty : TypeId} {pos : String} {aft : Array Edge} {g : Option (Nat × Bool)} {x y : Operand} {tx ty' : TypeId} {n : Nat} (hx : ev e x = some (.int .u64 (bit64 n : Nat))) (hy : ev e y = some (.int .u64 1)) (hn : n ≤ 64) (h : K (.int .u64 ((2 ^ n - 1 : Nat) : Int)) w) : O C e ⟨d, .binOp .sub tx x y ty', ty, pos, aft, g⟩ w K :=
  O.sub hx hy (by
    have e : IntKind.u64.wrap ((bit64 n : Nat) - 1 : Int) = ((2 ^ n - 1 : Nat) : Int) := by
      rw [IntKind.wrap_u64, bit64]
      have hp : 0 < 2 ^ n := Nat.pow_pos (by decide)
      rcases Nat.lt_or_ge n 64 with hl | hl
      · have := Nat.pow_lt_pow_right (a := 2) (by decide) hl
        have h64 : (2 : Nat) ^ 64 = 18446744073709551616 := by decide
        rw [Nat.mod_eq_of_lt (by omega)]; omega
      · obtain rfl : n = 64 := by omega
        decide
    rw [e]; exact h)
theorem comp_bit {p i : Nat} (hp : p < 18446744073709551616) (hi : i < 64) : (18446744073709551615 - p).testBit i = !p.testBit i := by
  have h64 : (2 : Nat) ^ 64 = 18446744073709551616 := by decide
  have := Nat.testBit_two_pow_sub_succ (n := 64) (x := p) (by omega) i
  rw [h64, show 18446744073709551616 - (p + 1) = 18446744073709551615 - p by omega] at this
  rw [this]; simp [hi]
theorem sumK_split (us : List UnV) (f : UnV → Int) (a p : Nat) (hp : p < 18446744073709551616) : ∀ n, n ≤ 64 → sumK us f (idxs a n) = sumK us f (idxs (a &&& p) n) + sumK us f (idxs (a &&& (18446744073709551615 - p)) n)
  | 0, _ => rfl
  | n + 1, hn => by
    have ih := sumK_split us f a p hp n (by omega)
    rw [idxs_succ, idxs_succ, idxs_succ, Nat.testBit_and, Nat.testBit_and, comp_bit hp (by omega), sumK_append, sumK_append, sumK_append, ih]
    cases a.testBit n <;> cases p.testBit n <;> simp [sumK_nil, sumK_one] <;> omega
theorem sumK_mono (us : List UnV) (f g : UnV → Int) : ∀ ks : List Nat, (∀ k ∈ ks, f (us.getD k u0) ≤ g (us.getD k u0)) → sumK us f ks ≤ sumK us g ks
  | [], _ => Int.le_refl _
  | k :: r, h => by
    have ih := sumK_mono us f g r fun j hj => h j (List.mem_cons_of_mem _ hj)
    have hk := h k (List.mem_cons_self ..)
    rw [show k :: r = [k] ++ r from rfl, sumK_append, sumK_append, sumK_one, sumK_one]; omega
theorem roll_cases (r : RoV) : rollErr r = 0 ∨ rollErr r = 161 := by
  by_cases h : RollOk r
  · exact .inl (rollErr_ok h)
  · exact .inr (rollErr_no h)
theorem idx_unit {r : RoV} {G P set : Nat} (h : rollErr r = 0) (hG : r.G = G) (hP : r.P = P) : ∀ k ∈ idxs set (lu r).length, UnitOk G P ((lu r).getD k u0) := fun k hk => by
  have hlt := idxs_lt hk
  rw [lu_len] at hlt
  rw [lu_get hlt]
  exact unit_ok h hG hP (Nat.lt_of_lt_of_le hlt (landsN_le _))
/-- What the totals of a set are. -/
structure TotS (r : RoV) (G P s : Nat) : Prop where
  err : totErr r s = 0
  p0 : 0 ≤ totP r s
  p1 : totP r s ≤ 64000000000
  gl : (totG r s).length = G
  vl : (totV r s).length = P
  g : ∀ q, q < G → 0 ≤ (totG r s).getD q 0 ∧ (totG r s).getD q 0 ≤ totP r s
  v : ∀ q, q < P → 0 ≤ (totV r s).getD q 0 ∧ (totV r s).getD q 0 ≤ 64000000000
theorem tot_s {r : RoV} {G P s : Nat} (h : rollErr r = 0) (hG : r.G = G) (hP : r.P = P) (hs : s < 2 ^ landsN r.us) : TotS r G P s := by
  have he := totErr_ok h hs
  have hu := idx_unit (set := s) h hG hP
  have hb := roll_bnd h
  have hln := landsN_le r.us
  have hil := idxs_len s (lu r).length
  rw [lu_len] at hil
  have e1 : totP r s = sumK (lu r) UnV.pp (idxs s (lu r).length) := by rw [totP, if_pos he]
  have e2 : totG r s = sumL (lu r) UnV.gs G (idxs s (lu r).length) := by rw [totG, if_pos he, hG, Int.toNat_natCast]
  have e3 : totV r s = sumL (lu r) UnV.vs P (idxs s (lu r).length) := by rw [totV, if_pos he, hP, Int.toNat_natCast]
  have hlen : ((idxs s (lu r).length).length : Int) ≤ 64 := by rw [lu_len]; omega
  have hp := sumK_le (lu r) UnV.pp 1000000000 (by decide) (idxs s (lu r).length) (fun k hk => ⟨(hu k hk).p0, (hu k hk).p1⟩)
  refine ⟨he, by rw [e1]; exact hp.1, by rw [e1]; omega, by rw [e2, sumL_len], by rw [e3, sumL_len], fun q hq => ?_, fun q hq => ?_⟩
  · rw [e2, e1, sumL_get hq]
    refine ⟨(sumK_le (lu r) (fun u => u.gs.getD q 0) 1000000000 (by decide) _ (fun k hk => ⟨((hu k hk).g q hq).1, by have := ((hu k hk).g q hq).2; have := (hu k hk).p1; omega⟩)).1, ?_⟩
    exact sumK_mono (lu r) _ _ _ (fun k hk => ((hu k hk).g q hq).2)
  · rw [e3, sumL_get hq]
    have := sumK_le (lu r) (fun u => u.vs.getD q 0) 1000000000 (by decide) (idxs s (lu r).length) (fun k hk => (hu k hk).v q hq)
    omega
theorem tot_add {r : RoV} {G P s p : Nat} (h : rollErr r = 0) (hG : r.G = G) (hP : r.P = P) (hs : s < 2 ^ landsN r.us) (hp : p < 18446744073709551616) :
    totP r s = totP r (s &&& p) + totP r (s &&& (18446744073709551615 - p)) ∧ (∀ q, q < G → (totG r s).getD q 0 = (totG r (s &&& p)).getD q 0 + (totG r (s &&& (18446744073709551615 - p))).getD q 0) ∧ (∀ q, q < P → (totV r s).getD q 0 = (totV r (s &&& p)).getD q 0 + (totV r (s &&& (18446744073709551615 - p))).getD q 0) := by
  have h1 := totErr_ok h hs
  have h2 := totErr_ok h (set := s &&& p) (Nat.lt_of_le_of_lt Nat.and_le_left hs)
  have h3 := totErr_ok h (set := s &&& (18446744073709551615 - p)) (Nat.lt_of_le_of_lt Nat.and_le_left hs)
  have hb := roll_bnd h
  have hln := landsN_le r.us
  have hn : (lu r).length ≤ 64 := by rw [lu_len]; omega
  refine ⟨?_, fun q hq => ?_, fun q hq => ?_⟩
  · simp only [totP, if_pos h1, if_pos h2, if_pos h3]
    exact sumK_split _ _ _ _ hp _ hn
  · simp only [totG, if_pos h1, if_pos h2, if_pos h3, hG, Int.toNat_natCast, sumL_get hq]
    exact sumK_split _ _ _ _ hp _ hn
  · simp only [totV, if_pos h1, if_pos h2, if_pos h3, hP, Int.toNat_natCast, sumL_get hq]
    exact sumK_split _ _ _ _ hp _ hn
theorem idxs_zero : ∀ n, idxs 0 n = []
  | 0 => rfl
  | n + 1 => by rw [idxs_succ, idxs_zero n]; simp
theorem tot_zero {r : RoV} {G P : Nat} (h : rollErr r = 0) (hG : r.G = G) (hP : r.P = P) : totP r 0 = 0 ∧ totErr r 0 = 0 ∧ totG r 0 = List.replicate G 0 ∧ totV r 0 = List.replicate P 0 := by
  have h1 := totErr_ok h (set := 0) (Nat.pow_pos (by decide))
  refine ⟨?_, h1, ?_, ?_⟩
  · rw [totP, if_pos h1, idxs_zero, sumK_nil]
  · rw [totG, if_pos h1, idxs_zero, sumL_nil, hG, Int.toNat_natCast]
  · rw [totV, if_pos h1, idxs_zero, sumL_nil, hP, Int.toNat_natCast]
theorem low_mask (s n : Nat) : s &&& (2 ^ n - 1) < 2 ^ n := by
  rw [Nat.and_two_pow_sub_one_eq_mod]; exact Nat.mod_lt _ (Nat.pow_pos (by decide))
theorem pow64 {n : Nat} (h : n ≤ 64) : 2 ^ n ≤ 18446744073709551616 := Nat.le_trans (Nat.pow_le_pow_right (by decide) h) (by decide)
set_option maxHeartbeats 1000000 in
theorem UnitsAdds_calls (lo : Nat) (d : Dr) (b c : Bd) (set pt : Nat) (w : World) (hd : d.ok lo w) (hb : b.ok) (hc : c.ok) (hset : set < 18446744073709551616) (hpt : pt < 18446744073709551616) :
    Calls Tryd.prog 6 #[d.val, bends b c, .int .u64 set, .int .u64 pt] w (Ret fun v w' => v = .bool true ∧ Ext w w') := by
  refine T.enter (vs := [d.val, bends b c, .int .u64 set, .int .u64 pt]) Tryd.func6 rfl Tryd.ntmps6 rfl ?_
  refine T.seq (T.region (L.op rfl rfl (O.box rfl (fun b5 w5 hb5 hz5 he5 hB5 => ?_))))
  refine L.op rfl rfl (O.box rfl (fun b6 w6 hb6 hz6 he6 hB6 => ?_))
  have he06 := he5.trans he6
  have hD6 : Blk w6 b5 d.cells 27 := Blk.ext (cs := d.cells) hB5 he6
  have hE6 : Blk w6 b6 (b.cells ++ c.cells) 48 := hB6
  refine L.op rfl rfl (O.assign rfl (L.nil (T.seq (T.seq (T.region (L.op rfl rfl (O.call (xs := []) Tryd.call8 rfl rfl (works_calls w6) (fun v0 w0 hq => ?_))))))))
  obtain ⟨rfl, he0⟩ := hq
  refine L.op rfl rfl (O.not rfl (L.nil (T.cond_false rfl (T.skip (T.seq (T.seq (T.region (L.op rfl rfl (O.loadAgg Tryd.isAgg27 Tryd.sizeOf27 rfl rfl ((hD6.ext he0).row) (L.op rfl rfl (O.loadAgg Tryd.isAgg48 Tryd.sizeOf48 rfl rfl (Blk.row (hE6.ext he0)) (L.op rfl rfl (O.call (xs := [.tmp 30, .tmp 31]) Tryd.call15 rfl rfl (rolls_calls lo d b c w0 (hd.ext (he06.trans he0)) hb hc) (fun v7 w7 hq => ?_))))))))))))))
  obtain ⟨he7, n, r0, r1, r2, rfl, hdr, hrs⟩ := hq
  have he07 := (he06.trans he0).trans he7
  refine L.op rfl rfl (O.move rfl (L.nil (T.block (?_))))
  refine T.loop (σ := Nat) (fun i => [(2, .int .u64 set), (3, .int .u64 pt), (32, .agg (r0.cells ++ r1.cells ++ r2.cells).toArray), (33, .int .i64 i)]) (fun i w' => i ≤ 3 ∧ Ext w7 w') (fun i => 3 - i) (0) ⟨rfl, rfl, rfl, rfl, trivial⟩ ⟨Nat.zero_le _, Keep.refl _ _⟩ ?_
  rintro i w8 ⟨hi, he8⟩
  refine T.seq (T.region (L.op rfl rfl (O.lss_s rfl rfl (fun hlt => ?_) (fun hlt => ?_))))
  · refine L.nil (?_)
    have hlt' : i < 3 := by omega
    obtain ⟨r, hr⟩ : ∃ r, r = [r0, r1, r2].getD i r0 := ⟨_, rfl⟩
    have hro := hrs r (by rw [hr]; exact rolls_mem hlt')
    have hgi := rolls_get (r0 := r0) (r1 := r1) (r2 := r2) hlt'
    rw [← hr] at hgi
    refine T.seq (T.cond_true rfl (T.skip (T.seq (T.block (T.seq (T.region (L.op rfl rfl (O.index_agg_to Tryd.runUnderlying49 Tryd.isAgg32 Tryd.sizeOf32 rfl rfl (by omega) (by omega) hgi (L.op rfl rfl (O.alloc Tryd.zeroValue32 (fun b9 w9 hb9 hz9 he9 hB9 => ?_)))))))))))
    have hr8 := hro.1.ext he8
    refine L.op rfl rfl (O.storeAgg Tryd.sizeOf32 rfl rfl rfl hB9 (Nat.le_refl _) (by intro u hu; simp [RoV.cells] at hu; rcases hu with (rfl|rfl|rfl|rfl); rfl; rfl; rfl; exact hr8.one) (fun w10 hu10 hB10 => ?_))
    replace hu10 : Upd b9 w9 w10 := hu10
    have hC10 : Blk w10 b9 r.cells 32 := hB10
    have he810 : Ext w8 w10 := he9.upd hu10 (.inr (by omega))
    have hr10 := hr8.ext he810
    refine L.nil (T.seq (T.region (L.op rfl rfl (O.loadAgg Tryd.isAgg32 Tryd.sizeOf32 rfl rfl hC10.row (L.op rfl rfl (O.call (xs := [.tmp 37]) Tryd.call10 rfl rfl (Land_calls w0.heap.size r w10 hr10) (fun v11 w11 hq => ?_)))))))
    obtain ⟨rfl, he11⟩ := hq
    have hC11 := hC10.ext he11
    have hr11 := hr10.ext he11
    refine L.op rfl rfl (O.move rfl (L.op rfl rfl (O.extract rfl rfl (L.op rfl rfl (O.extract rfl rfl (L.op rfl rfl (O.assign rfl (L.op rfl rfl (O.assign rfl (L.nil (T.seq (T.seq (T.region (L.op rfl rfl (O.move rfl (L.op rfl rfl (O.neq_s rfl rfl (fun h0 => ?_) (fun h0 => ?_))))))))))))))))))
    · refine L.nil (?_)
      have h161 : rollErr r = 161 := by rcases roll_cases r with h | h; exact absurd h h0; exact h
      refine T.cond_true rfl (T.seq (T.seq (T.region (L.op rfl rfl (O.move rfl (L.op rfl rfl (O.neq_f rfl rfl h161 (L.op rfl rfl (O.move rfl (L.op rfl rfl (O.loadAgg Tryd.isAgg32 Tryd.sizeOf32 rfl rfl hC11.row (L.op rfl rfl (O.call (xs := [.tmp 46]) Tryd.call25 rfl rfl (CheckRoll_calls w0.heap.size r w11 hr11) (fun v12 w12 hq => ?_))))))))))))))
      obtain ⟨rfl, he12⟩ := hq
      refine L.op rfl rfl (O.move rfl (L.op rfl rfl (O.neq_f rfl rfl rfl (L.op rfl rfl (O.pick_false rfl rfl (L.nil (T.cond_false rfl (T.skip (T.exit rfl (T.region (L.op rfl rfl (O.add64 rfl rfl (by omega) (L.op rfl rfl (O.move rfl (L.nil (T.again (i + 1) (by omega) ⟨rfl, rfl, rfl, rfl, trivial⟩ ⟨by omega, (he8.trans he810).trans (he11.trans he12)⟩))))))))))))))))
    · refine L.nil (?_)
      have h0n : rollErr r = 0 := h0
      have hbnd := roll_bnd h0n
      obtain ⟨G, hG⟩ : ∃ G : Nat, r.G = G := ⟨r.G.toNat, by omega⟩
      obtain ⟨Pn, hP⟩ : ∃ Pn : Nat, r.P = Pn := ⟨r.P.toNat, by omega⟩
      obtain ⟨m, hm⟩ : ∃ m, m = landsN r.us := ⟨_, rfl⟩
      have hln := landsN_le r.us
      have hm64 : m ≤ 64 := by omega
      have hlr : landRes r = (m : Int) := by rw [landRes_ok h0n, hm]
      rw [hlr]
      refine T.cond_false rfl (T.skip (T.seq (T.region (L.op rfl rfl (O.move rfl (L.op rfl rfl (O.move rfl (L.op rfl rfl (O.bit_u64 rfl rfl (by omega) (L.op rfl rfl (O.mask_u64 rfl rfl (by show (m : Int).toNat ≤ 64; omega) (?_))))))))))))
      rw [Int.toNat_natCast]
      have hpw := pow64 hm64
      have hp0 : 0 < 2 ^ m := Nat.pow_pos (by decide)
      refine L.op rfl rfl (O.and_u64 (b := 2 ^ m - 1) rfl rfl hset (by omega) rfl rfl (?_))
      obtain ⟨s, hs⟩ : ∃ s, s = set &&& (2 ^ m - 1) := ⟨_, rfl⟩
      rw [← hs]
      have hsm : s < 2 ^ landsN r.us := by rw [hs, ← hm]; exact low_mask _ _
      have hs64 : s < 18446744073709551616 := by rw [← hm] at hsm; omega
      have hT := tot_s h0n hG hP hsm
      have hTp := tot_s (s := s &&& pt) h0n hG hP (Nat.lt_of_le_of_lt Nat.and_le_left hsm)
      have hTq := tot_s (s := s &&& (18446744073709551615 - pt)) h0n hG hP (Nat.lt_of_le_of_lt Nat.and_le_left hsm)
      obtain ⟨hA, hAg, hAv⟩ := tot_add h0n hG hP hsm hpt
      refine L.op rfl rfl (O.assign rfl (L.nil (T.seq (T.region (L.op rfl rfl (O.loadAgg Tryd.isAgg32 Tryd.sizeOf32 rfl rfl hC11.row (L.op rfl rfl (O.move rfl (L.op rfl rfl (O.call (xs := [.tmp 57, .tmp 58]) Tryd.call11 rfl rfl (Total_calls w0.heap.size r s w11 hr11 hs64) (fun v12 w12 hq => ?_)))))))))))
      obtain ⟨he12, g1, x1, rfl, hg1, hx1⟩ := hq
      refine L.op rfl rfl (O.move rfl (L.op rfl rfl (O.extract rfl rfl (L.op rfl rfl (O.extract rfl rfl (L.op rfl rfl (O.extract rfl rfl (L.op rfl rfl (O.extract rfl rfl (L.op rfl rfl (O.assign rfl (L.op rfl rfl (O.assign rfl (L.op rfl rfl (O.assign rfl (L.op rfl rfl (O.assign rfl (L.nil (T.seq (T.region (L.op rfl rfl (O.loadAgg Tryd.isAgg32 Tryd.sizeOf32 rfl rfl ((hC11.ext he12).row) (L.op rfl rfl (O.move rfl (L.op rfl rfl (O.move rfl (L.op rfl rfl (O.and_u64 rfl rfl hs64 hpt rfl rfl (L.op rfl rfl (O.call (xs := [.tmp 65, .tmp 68]) Tryd.call11 rfl rfl (Total_calls w0.heap.size r (s &&& pt) w12 (hr11.ext he12) (and_lt _ hs64)) (fun v13 w13 hq => ?_)))))))))))))))))))))))))))))))
      obtain ⟨he13, g2, x2, rfl, hg2, hx2⟩ := hq
      refine L.op rfl rfl (O.move rfl (L.op rfl rfl (O.extract rfl rfl (L.op rfl rfl (O.extract rfl rfl (L.op rfl rfl (O.extract rfl rfl (L.op rfl rfl (O.extract rfl rfl (L.op rfl rfl (O.assign rfl (L.op rfl rfl (O.assign rfl (L.op rfl rfl (O.assign rfl (L.op rfl rfl (O.assign rfl (L.nil (T.seq (T.region (L.op rfl rfl (O.loadAgg Tryd.isAgg32 Tryd.sizeOf32 rfl rfl (((hC11.ext he12).ext he13).row) (L.op rfl rfl (O.move rfl (L.op rfl rfl (O.move rfl (L.op rfl rfl (O.andNot_u64 rfl rfl hs64 hpt rfl rfl (L.op rfl rfl (O.call (xs := [.tmp 75, .tmp 78]) Tryd.call11 rfl rfl (Total_calls w0.heap.size r (s &&& (18446744073709551615 - pt)) w13 ((hr11.ext he12).ext he13) (and_lt _ hs64)) (fun v14 w14 hq => ?_)))))))))))))))))))))))))))))))
      obtain ⟨he14, g3, x3, rfl, hg3, hx3⟩ := hq
      have hC14 := ((hC11.ext he12).ext he13).ext he14
      have hg1' := Ints.ext (Ints.ext hg1 he13) he14
      have hx1' := Ints.ext (Ints.ext hx1 he13) he14
      have hg2' := Ints.ext hg2 he14
      have hx2' := Ints.ext hx2 he14
      have hTb := hT.p1
      have hTpb := hTp.p1
      have hTqb := hTq.p1
      have hTp0 := hTp.p0
      have hTq0 := hTq.p0
      refine L.op rfl rfl (O.move rfl (L.op rfl rfl (O.extract rfl rfl (L.op rfl rfl (O.extract rfl rfl (L.op rfl rfl (O.extract rfl rfl (L.op rfl rfl (O.extract rfl rfl (L.op rfl rfl (O.assign rfl (L.op rfl rfl (O.assign rfl (L.op rfl rfl (O.assign rfl (L.op rfl rfl (O.assign rfl (L.nil (T.seq (T.seq (T.region (L.op rfl rfl (O.move rfl (L.op rfl rfl (O.neq_f rfl rfl hT.err (L.op rfl rfl (O.move rfl (L.op rfl rfl (O.move rfl (L.op rfl rfl (O.neq_f rfl rfl hTp.err (L.op rfl rfl (O.pick_false rfl rfl (L.op rfl rfl (O.move rfl (L.op rfl rfl (O.move rfl (L.op rfl rfl (O.neq_f rfl rfl hTq.err (L.op rfl rfl (O.pick_false rfl rfl (L.op rfl rfl (O.move rfl (?_))))))))))))))))))))))))))))))))))))))))))))
      refine L.op rfl rfl (O.move rfl (L.op rfl rfl (O.move rfl (L.op rfl rfl (O.move rfl (L.op rfl rfl (O.add64 rfl rfl (by omega) (L.op rfl rfl (O.neq_f rfl rfl hA (L.op rfl rfl (O.pick_false rfl rfl (L.op rfl rfl (O.move rfl (L.op rfl rfl (O.move rfl (L.op rfl rfl (O.lss_f rfl rfl (by omega) (L.op rfl rfl (O.pick_false rfl rfl (L.op rfl rfl (O.move rfl (L.op rfl rfl (O.move rfl (L.op rfl rfl (O.lss_f rfl rfl (by omega) (L.op rfl rfl (O.pick_false rfl rfl (L.op rfl rfl (O.move rfl (L.op rfl rfl (O.move rfl (L.op rfl rfl (O.len Tryd.runUnderlying37 rfl (Sl.val hg1') (L.op rfl rfl (O.fieldAddr Tryd.runUnderlying32 rfl Tryd.sizeOf3 rfl (L.op rfl rfl (O.load Tryd.isAgg3 rfl (hC14.cell rfl) (L.op rfl rfl (O.neq_f rfl rfl (by rw [hT.gl, hG]) (L.op rfl rfl (O.pick_false rfl rfl (L.op rfl rfl (O.move rfl (L.op rfl rfl (O.move rfl (L.op rfl rfl (O.len Tryd.runUnderlying37 rfl (Sl.val hg2') (?_))))))))))))))))))))))))))))))))))))))))))))))))
      refine L.op rfl rfl (O.fieldAddr Tryd.runUnderlying32 rfl Tryd.sizeOf3 rfl (L.op rfl rfl (O.load Tryd.isAgg3 rfl (hC14.cell rfl) (L.op rfl rfl (O.neq_f rfl rfl (by rw [hTp.gl, hG]) (L.op rfl rfl (O.pick_false rfl rfl (L.op rfl rfl (O.move rfl (L.op rfl rfl (O.move rfl (L.op rfl rfl (O.len Tryd.runUnderlying37 rfl (Sl.val hg3) (L.op rfl rfl (O.fieldAddr Tryd.runUnderlying32 rfl Tryd.sizeOf3 rfl (L.op rfl rfl (O.load Tryd.isAgg3 rfl (hC14.cell rfl) (L.op rfl rfl (O.neq_f rfl rfl (by rw [hTq.gl, hG]) (L.op rfl rfl (O.pick_false rfl rfl (L.op rfl rfl (O.move rfl (L.op rfl rfl (O.move rfl (L.op rfl rfl (O.len Tryd.runUnderlying37 rfl (Sl.val hx1') (L.op rfl rfl (O.fieldAddr Tryd.runUnderlying32 rfl Tryd.sizeOf3 rfl (L.op rfl rfl (O.load Tryd.isAgg3 rfl (hC14.cell rfl) (L.op rfl rfl (O.neq_f rfl rfl (by rw [hT.vl, hP]) (L.op rfl rfl (O.pick_false rfl rfl (L.op rfl rfl (O.move rfl (L.op rfl rfl (O.move rfl (L.op rfl rfl (O.len Tryd.runUnderlying37 rfl (Sl.val hx2') (L.op rfl rfl (O.fieldAddr Tryd.runUnderlying32 rfl Tryd.sizeOf3 rfl (L.op rfl rfl (O.load Tryd.isAgg3 rfl (hC14.cell rfl) (L.op rfl rfl (O.neq_f rfl rfl (by rw [hTp.vl, hP]) (?_))))))))))))))))))))))))))))))))))))))))))))))))
      refine L.op rfl rfl (O.pick_false rfl rfl (L.op rfl rfl (O.move rfl (L.op rfl rfl (O.move rfl (L.op rfl rfl (O.len Tryd.runUnderlying37 rfl (Sl.val hx3) (L.op rfl rfl (O.fieldAddr Tryd.runUnderlying32 rfl Tryd.sizeOf3 rfl (L.op rfl rfl (O.load Tryd.isAgg3 rfl (hC14.cell rfl) (L.op rfl rfl (O.neq_f rfl rfl (by rw [hTq.vl, hP]) (L.op rfl rfl (O.pick_false rfl rfl (L.nil (T.cond_false rfl (T.skip (T.seq (T.seq (T.region (L.op rfl rfl (O.move rfl (L.op rfl rfl (O.len Tryd.runUnderlying37 rfl (Sl.val hg1') (?_))))))))))))))))))))))))))
      rw [hT.gl]
      refine L.op rfl rfl (O.move rfl (L.nil (T.block (?_))))
      refine T.loop (σ := Nat) (fun k => [(2, .int .u64 set), (3, .int .u64 pt), (10, .pointer (some ⟨b9, 0, none⟩)), (15, g1), (16, x1), (18, .int .i64 (totP r (s &&& pt))), (19, g2), (20, x2), (23, g3), (24, x3), (32, .agg (r0.cells ++ r1.cells ++ r2.cells).toArray), (33, .int .i64 i), (152, .int .i64 G), (153, .int .i64 k)]) (fun k w' => k ≤ G ∧ Ext w14 w') (fun k => G - k) (0) ⟨rfl, rfl, rfl, rfl, rfl, rfl, rfl, rfl, rfl, rfl, rfl, rfl, rfl, rfl, trivial⟩ ⟨Nat.zero_le _, Keep.refl _ _⟩ ?_
      rintro k w15 ⟨hk, he15⟩
      refine T.seq (T.region (L.op rfl rfl (O.lss_s rfl rfl (fun hlk => ?_) (fun hlk => ?_))))
      · refine L.nil (?_)
        have hlk' : k < G := by omega
        have q1 := hAg k hlk'
        have q2 := hTp.g k hlk'
        have q3 := hTq.g k hlk'
        have l1 := hT.gl
        have l2 := hTp.gl
        have l3 := hTq.gl
        have hg1k := Ints.ext hg1' he15
        have hg2k := Ints.ext hg2' he15
        have hg3k := Ints.ext hg3 he15
        refine T.seq (T.cond_true rfl (T.skip (T.seq (T.block (T.seq (T.region (L.op rfl rfl (O.move rfl (L.op rfl rfl (O.assign rfl (L.nil (T.seq (?_)))))))))))))
        refine T.anyE mixed 27 [15, 26, 19, 23, 18] rfl [.is _, .is _, .is _, .is _, .is _, .is _, .is _, .is _, .is _, .is _, .is _, .is _, .is _, .is _, .is _, .is _, .is _, .is _, .is _, .is _, .is _, .is _, .is _, .is _, .is _, .is _, .is _] [[], [], [0, 1], [2], [], [], [4, 5], [6], [], [], [8, 9], [10], [7, 11], [3, 12], [13], [14], [14], [15, 16, 14], [17, 14], [18, 14], [14, 19], [20], [21], [21], [22, 23, 21], [24, 21], [21]] [[], [], [0, 1], [0, 1, 2], [], [], [4, 5], [4, 5, 6], [], [], [8, 9], [8, 9, 10], [4, 5, 6, 7, 8, 9, 10, 11], [0, 1, 2, 3, 4, 5, 6, 7, 8, 9, 10, 11, 12], [0, 1, 2, 3, 4, 5, 6, 7, 8, 9, 10, 11, 12, 13], [0, 1, 2, 3, 4, 5, 6, 7, 8, 9, 10, 11, 12, 13, 14], [0, 1, 2, 3, 4, 5, 6, 7, 8, 9, 10, 11, 12, 13, 14], [0, 1, 2, 3, 4, 5, 6, 7, 8, 9, 10, 11, 12, 13, 14, 15, 16], [0, 1, 2, 3, 4, 5, 6, 7, 8, 9, 10, 11, 12, 13, 14, 15, 16, 17], [0, 1, 2, 3, 4, 5, 6, 7, 8, 9, 10, 11, 12, 13, 14, 15, 16, 17, 18], [0, 1, 2, 3, 4, 5, 6, 7, 8, 9, 10, 11, 12, 13, 14, 15, 16, 17, 18, 19], [0, 1, 2, 3, 4, 5, 6, 7, 8, 9, 10, 11, 12, 13, 14, 15, 16, 17, 18, 19, 20], [0, 1, 2, 3, 4, 5, 6, 7, 8, 9, 10, 11, 12, 13, 14, 15, 16, 17, 18, 19, 20, 21], [0, 1, 2, 3, 4, 5, 6, 7, 8, 9, 10, 11, 12, 13, 14, 15, 16, 17, 18, 19, 20, 21], [0, 1, 2, 3, 4, 5, 6, 7, 8, 9, 10, 11, 12, 13, 14, 15, 16, 17, 18, 19, 20, 21, 22, 23], [0, 1, 2, 3, 4, 5, 6, 7, 8, 9, 10, 11, 12, 13, 14, 15, 16, 17, 18, 19, 20, 21, 22, 23, 24], [0, 1, 2, 3, 4, 5, 6, 7, 8, 9, 10, 11, 12, 13, 14, 15, 16, 17, 18, 19, 20, 21], [0, 1, 2, 3, 4, 5, 6, 7, 8, 9, 10, 11, 12, 13, 14, 15, 16, 17, 18, 19, 20, 21, 22, 23, 24, 25, 26], [0, 1, 2, 3, 4, 5, 6, 7, 8, 9, 10, 11, 12, 13, 14, 15, 16, 17, 18, 19, 20, 21, 22, 23, 24, 25, 26, 27]] (by kernel_rfl) (by kernel_rfl) rfl (by kernel_rfl) trivial ⟨fun wx hx => Ob.op rfl (O.move rfl ⟨Keep.refl _ _, rfl⟩),
            fun wx hx => Ob.op rfl (O.move rfl ⟨Keep.refl _ _, rfl⟩),
            fun wx hx => Ob.op rfl (O.indexAddr Tryd.runUnderlying37 Tryd.sizeOf3 rfl rfl (Ints.ext hg1k hx) (by omega) (by omega) ⟨Keep.refl _ _, rfl⟩),
            fun wx hx => Ob.op rfl (O.load Tryd.isAgg3 rfl (Ints.at (Ints.ext hg1k hx) (by omega)) ⟨Keep.refl _ _, rfl⟩),
            fun wx hx => Ob.op rfl (O.move rfl ⟨Keep.refl _ _, rfl⟩),
            fun wx hx => Ob.op rfl (O.move rfl ⟨Keep.refl _ _, rfl⟩),
            fun wx hx => Ob.op rfl (O.indexAddr Tryd.runUnderlying37 Tryd.sizeOf3 rfl rfl (Ints.ext hg2k hx) (by omega) (by omega) ⟨Keep.refl _ _, rfl⟩),
            fun wx hx => Ob.op rfl (O.load Tryd.isAgg3 rfl (Ints.at (Ints.ext hg2k hx) (by omega)) ⟨Keep.refl _ _, rfl⟩),
            fun wx hx => Ob.op rfl (O.move rfl ⟨Keep.refl _ _, rfl⟩),
            fun wx hx => Ob.op rfl (O.move rfl ⟨Keep.refl _ _, rfl⟩),
            fun wx hx => Ob.op rfl (O.indexAddr Tryd.runUnderlying37 Tryd.sizeOf3 rfl rfl (Ints.ext hg3k hx) (by omega) (by omega) ⟨Keep.refl _ _, rfl⟩),
            fun wx hx => Ob.op rfl (O.load Tryd.isAgg3 rfl (Ints.at (Ints.ext hg3k hx) (by omega)) ⟨Keep.refl _ _, rfl⟩),
            fun wx hx => Ob.op rfl (O.add64 rfl rfl (by omega) ⟨Keep.refl _ _, rfl⟩),
            fun wx hx => Ob.op rfl (O.neq_f rfl rfl q1 ⟨Keep.refl _ _, rfl⟩),
            fun wx hx => Ob.op rfl (O.move rfl ⟨Keep.refl _ _, rfl⟩),
            fun wx hx => Ob.op rfl (O.move rfl ⟨Keep.refl _ _, rfl⟩),
            fun wx hx => Ob.op rfl (O.move rfl ⟨Keep.refl _ _, rfl⟩),
            fun wx hx => Ob.op rfl (O.indexAddr Tryd.runUnderlying37 Tryd.sizeOf3 rfl rfl (Ints.ext hg2k hx) (by omega) (by omega) ⟨Keep.refl _ _, rfl⟩),
            fun wx hx => Ob.op rfl (O.load Tryd.isAgg3 rfl (Ints.at (Ints.ext hg2k hx) (by omega)) ⟨Keep.refl _ _, rfl⟩),
            fun wx hx => Ob.op rfl (O.lss_f rfl rfl (by omega) ⟨Keep.refl _ _, rfl⟩),
            fun wx hx => Ob.op rfl (O.pick_false rfl rfl ⟨Keep.refl _ _, rfl⟩),
            fun wx hx => Ob.op rfl (O.move rfl ⟨Keep.refl _ _, rfl⟩),
            fun wx hx => Ob.op rfl (O.move rfl ⟨Keep.refl _ _, rfl⟩),
            fun wx hx => Ob.op rfl (O.move rfl ⟨Keep.refl _ _, rfl⟩),
            fun wx hx => Ob.op rfl (O.indexAddr Tryd.runUnderlying37 Tryd.sizeOf3 rfl rfl (Ints.ext hg2k hx) (by omega) (by omega) ⟨Keep.refl _ _, rfl⟩),
            fun wx hx => Ob.op rfl (O.load Tryd.isAgg3 rfl (Ints.at (Ints.ext hg2k hx) (by omega)) ⟨Keep.refl _ _, rfl⟩),
            fun wx hx => Ob.op rfl (O.move rfl ⟨Keep.refl _ _, rfl⟩),
            trivial⟩ (fun w16 he16 => ?_)
        refine L.op rfl rfl (O.gtr_f rfl rfl (by omega) (L.op rfl rfl (O.pick_false rfl rfl (L.nil (T.cond_false rfl (T.skip (T.blk (T.region (L.op rfl rfl (O.add64 rfl rfl (by omega) (L.op rfl rfl (O.move rfl (L.nil (T.again (k + 1) (by omega) ⟨rfl, rfl, rfl, rfl, rfl, rfl, rfl, rfl, rfl, rfl, rfl, rfl, rfl, rfl, trivial⟩ ⟨by omega, he15.trans he16⟩))))))))))))))
      · refine L.nil (?_)
        have hx1k := Ints.ext hx1' he15
        refine T.seq (T.cond_false rfl (T.exit rfl (T.seq (T.seq (T.region (L.op rfl rfl (O.move rfl (L.op rfl rfl (O.len Tryd.runUnderlying37 rfl (Sl.val hx1k) (?_))))))))))
        rw [hT.vl]
        refine L.op rfl rfl (O.move rfl (L.nil (T.block (?_))))
        refine T.loop (σ := Nat) (fun k => [(2, .int .u64 set), (3, .int .u64 pt), (10, .pointer (some ⟨b9, 0, none⟩)), (16, x1), (20, x2), (24, x3), (32, .agg (r0.cells ++ r1.cells ++ r2.cells).toArray), (33, .int .i64 i), (187, .int .i64 Pn), (188, .int .i64 k)]) (fun k w' => k ≤ Pn ∧ Ext w14 w') (fun k => Pn - k) (0) ⟨rfl, rfl, rfl, rfl, rfl, rfl, rfl, rfl, rfl, rfl, trivial⟩ ⟨Nat.zero_le _, he15⟩ ?_
        rintro k w17 ⟨hk, he17⟩
        refine T.seq (T.region (L.op rfl rfl (O.lss_s rfl rfl (fun hlq => ?_) (fun hlq => ?_))))
        · refine L.nil (?_)
          have hlk' : k < Pn := by omega
          have q1 := hAv k hlk'
          have q2 := hTp.v k hlk'
          have q3 := hTq.v k hlk'
          have l1 := hT.vl
          have l2 := hTp.vl
          have l3 := hTq.vl
          have hg1k := Ints.ext hx1' he17
          have hg2k := Ints.ext hx2' he17
          have hg3k := Ints.ext hx3 he17
          refine T.seq (T.cond_true rfl (T.skip (T.seq (T.block (T.seq (T.region (L.op rfl rfl (O.move rfl (L.op rfl rfl (O.assign rfl (L.nil (T.seq (?_)))))))))))))
          refine T.anyE mixed 13 [16, 27, 20, 24] rfl [.is _, .is _, .is _, .is _, .is _, .is _, .is _, .is _, .is _, .is _, .is _, .is _, .is _] [[], [], [0, 1], [2], [], [], [4, 5], [6], [], [], [8, 9], [10], [7, 11]] [[], [], [0, 1], [0, 1, 2], [], [], [4, 5], [4, 5, 6], [], [], [8, 9], [8, 9, 10], [4, 5, 6, 7, 8, 9, 10, 11], [0, 1, 2, 3, 4, 5, 6, 7, 8, 9, 10, 11, 12]] (by kernel_rfl) (by kernel_rfl) rfl (by kernel_rfl) trivial ⟨fun wx hx => Ob.op rfl (O.move rfl ⟨Keep.refl _ _, rfl⟩),
              fun wx hx => Ob.op rfl (O.move rfl ⟨Keep.refl _ _, rfl⟩),
              fun wx hx => Ob.op rfl (O.indexAddr Tryd.runUnderlying37 Tryd.sizeOf3 rfl rfl (Ints.ext hg1k hx) (by omega) (by omega) ⟨Keep.refl _ _, rfl⟩),
              fun wx hx => Ob.op rfl (O.load Tryd.isAgg3 rfl (Ints.at (Ints.ext hg1k hx) (by omega)) ⟨Keep.refl _ _, rfl⟩),
              fun wx hx => Ob.op rfl (O.move rfl ⟨Keep.refl _ _, rfl⟩),
              fun wx hx => Ob.op rfl (O.move rfl ⟨Keep.refl _ _, rfl⟩),
              fun wx hx => Ob.op rfl (O.indexAddr Tryd.runUnderlying37 Tryd.sizeOf3 rfl rfl (Ints.ext hg2k hx) (by omega) (by omega) ⟨Keep.refl _ _, rfl⟩),
              fun wx hx => Ob.op rfl (O.load Tryd.isAgg3 rfl (Ints.at (Ints.ext hg2k hx) (by omega)) ⟨Keep.refl _ _, rfl⟩),
              fun wx hx => Ob.op rfl (O.move rfl ⟨Keep.refl _ _, rfl⟩),
              fun wx hx => Ob.op rfl (O.move rfl ⟨Keep.refl _ _, rfl⟩),
              fun wx hx => Ob.op rfl (O.indexAddr Tryd.runUnderlying37 Tryd.sizeOf3 rfl rfl (Ints.ext hg3k hx) (by omega) (by omega) ⟨Keep.refl _ _, rfl⟩),
              fun wx hx => Ob.op rfl (O.load Tryd.isAgg3 rfl (Ints.at (Ints.ext hg3k hx) (by omega)) ⟨Keep.refl _ _, rfl⟩),
              fun wx hx => Ob.op rfl (O.add64 rfl rfl (by omega) ⟨Keep.refl _ _, rfl⟩),
              trivial⟩ (fun w18 he18 => ?_)
          refine L.op rfl rfl (O.neq_f rfl rfl q1 (L.nil (T.cond_false rfl (T.skip (T.blk (T.region (L.op rfl rfl (O.add64 rfl rfl (by omega) (L.op rfl rfl (O.move rfl (L.nil (T.again (k + 1) (by omega) ⟨rfl, rfl, rfl, rfl, rfl, rfl, rfl, rfl, rfl, rfl, trivial⟩ ⟨by omega, he17.trans he18⟩))))))))))))
        · refine L.nil (?_)
          have hC17 := hC14.ext he17
          have hr17 := (((hr11.ext he12).ext he13).ext he14).ext he17
          refine T.seq (T.cond_false rfl (T.exit rfl (T.seq (?_))))
          refine T.anyE mixed 7 [10] rfl [.is _, .is _, .is _, .such (MadeZ 0 G), .is _, .is _, .such (MadeZ 0 Pn)] [[], [], [1], [2], [], [4], [5]] [[], [], [1], [1, 2], [], [4], [4, 5], [0, 1, 2, 3, 4, 5, 6], [0, 1, 2, 3, 4, 5, 6, 7]] (by kernel_rfl) (by kernel_rfl) rfl (by kernel_rfl) ⟨MadeZ.st, MadeZ.st, trivial⟩ ⟨fun wx hx => Ob.op rfl (O.loadAgg Tryd.isAgg32 Tryd.sizeOf32 rfl rfl ((hC17.ext hx).row) ⟨Keep.refl _ _, rfl⟩),
              fun wx hx => Ob.op rfl (O.fieldAddr Tryd.runUnderlying32 rfl Tryd.sizeOf3 rfl ⟨Keep.refl _ _, rfl⟩),
              fun wx hx => Ob.op rfl (O.load Tryd.isAgg3 rfl ((hC17.ext hx).cell rfl) ⟨Keep.refl _ _, rfl⟩),
              fun wx hx => Ob.op rfl (O.makeSlice Tryd.runUnderlying37 Tryd.typeInfo3 Tryd.sizeOf3 Tryd.zeroValue3 rfl rfl hG (by show G * 8 ≤ _; omega) (by omega) (fun b3 w3 hb3 hz3 he3 hB3 => ⟨he3, b3, Nat.zero_le _, rfl, hB3⟩)),
              fun wx hx => Ob.op rfl (O.fieldAddr Tryd.runUnderlying32 rfl Tryd.sizeOf3 rfl ⟨Keep.refl _ _, rfl⟩),
              fun wx hx => Ob.op rfl (O.load Tryd.isAgg3 rfl ((hC17.ext hx).cell rfl) ⟨Keep.refl _ _, rfl⟩),
              fun wx hx => Ob.op rfl (O.makeSlice Tryd.runUnderlying37 Tryd.typeInfo3 Tryd.sizeOf3 Tryd.zeroValue3 rfl rfl hP (by show Pn * 8 ≤ _; omega) (by omega) (fun b3 w3 hb3 hz3 he3 hB3 => ⟨he3, b3, Nat.zero_le _, rfl, hB3⟩)),
              trivial⟩ (fun w19 he19 v209 hv209 v212 hv212 => ?_)
          obtain ⟨bg, _, rfl, hBg⟩ := hv209
          obtain ⟨bv, _, rfl, hBv⟩ := hv212
          have hIg : Ints .i64 0 w19 (.slice (some ⟨bg, 0, none⟩) G G) (List.replicate G 0) := Ints.of_blk (by rw [List.map_replicate]; exact hBg) (by simp) (by unfold maxLen; omega) (Nat.zero_le _)
          have hIv : Ints .i64 0 w19 (.slice (some ⟨bv, 0, none⟩) Pn Pn) (List.replicate Pn 0) := Ints.of_blk (by rw [List.map_replicate]; exact hBv) (by simp) (by unfold maxLen; omega) (Nat.zero_le _)
          refine L.op rfl rfl (O.call (xs := [.tmp 206, .const (.int .u64 0), .const (.int .i64 0), .tmp 209, .tmp 212]) Tryd.call12 rfl rfl (totals_calls w0.heap.size 0 0 r 0 0 _ _ _ _ w19 (hr17.ext he19) (by decide) hIg hIv) (fun v20 w20 hq => ?_))
          obtain ⟨hv20, he20⟩ := hq
          rw [decide_eq_true (tot_zero h0n hG hP)] at hv20
          subst hv20
          refine L.op rfl rfl (O.not rfl (L.nil (T.cond_false rfl (T.skip (T.blk (T.region (L.op rfl rfl (O.add64 rfl rfl (by omega) (L.op rfl rfl (O.move rfl (L.nil (T.again (i + 1) (by omega) ⟨rfl, rfl, rfl, rfl, trivial⟩ ⟨by omega, ((he8.trans he810).trans ((he11.trans he12).trans (he13.trans he14))).trans ((he17.trans he19).trans he20)⟩))))))))))))
  · refine L.nil (T.seq (T.cond_false rfl (T.exit rfl (T.seq (T.region (L.op rfl rfl (O.assign rfl (L.nil (T.ret1 Tryd.results6 rfl ⟨rfl, he07.trans he8⟩)))))))))

end Go.Proofs.YtpgnaffcbbghgaaDoor
set_option linter.unusedVariables false
set_option linter.unusedSimpArgs false
set_option maxRecDepth 20000
namespace Go.Proofs.YtpgnaffcbbghgaaDoor
open Go Go.E RowKit ChangeShapes WideShapes
attribute [local irreducible] Go.E.T Go.E.L Go.E.O Go.E.Ob

set_option maxRecDepth 100000 in
theorem unitsAdds_lifted (os : Os) (started : os.Started) (H : Type) (enc : TypeId × Value → H) :
    ReturnsInHanded {} Tryd.checked os 6 .any (fun w args => (Rows.unitsAddsSpec.pre enc Tryd.prog Tryd.f6 [] false w args ∧ laidMetH Tryd.prog laidL w) ∧ sizedMet enc Tryd.prog Tryd.f6 (OpenSpec.ofChange Rows.unitsAddsSpec) false w args)
      (Rows.unitsAddsSpec.post enc Tryd.prog Tryd.f6 false true false false) := by
  refine law_lifted (C := Tryd.checked) (X := fun w _ => laidMetH Tryd.prog laidL w) (tb := 4) (ts := [27, 48, 28, 28]) (fun _ _ _ hh h => h.of_heap hh) own started (by kernel_rfl) Tryd.func6
    rfl Tryd.params6 (fun ds h => ?_) (by kernel_rfl) Tryd.underlying4 laidOut (by kernel_rfl)
    (ChangeSpec.witness_at (enc := enc) (C := Tryd.checked) (os := os) (X := fun w _ => laidMetH Tryd.prog laidL w) false (laidWorld os) #[.agg #[.int .u8 0, .int .u8 0, .slice none 0 0, .slice none 0 0, .bool false, .int .u8 0, .int .u8 0, .int .u8 0, .slice none 0 0, .int .u8 0], .agg #[.int .u8 0, .int .u8 0, .int .u8 0, .int .i64 0, .string ⟨#[]⟩, .int .u8 0, .int .u8 0, .int .u8 0, .int .i64 0, .string ⟨#[]⟩], .int .u64 0, .int .u64 0] 8 rfl (by kernel_rfl) (by kernel_rfl) (by kernel_rfl) (by kernel_rfl) (by kernel_rfl) (laidWorld_met os _)) ?_
  · obtain ⟨a0, a1, a2, a3, rfl⟩ := four_of h
    rfl
  · intro W vs hl ha hL
    obtain ⟨a0, a1, a2, a3, rfl⟩ := four_of hl
    obtain ⟨d, rfl, hd⟩ := draft_of (ha 0 _ _ rfl rfl)
    obtain ⟨b, c, rfl, hb, hc⟩ := bends_of (ha 1 _ _ rfl rfl)
    obtain ⟨x, rfl, hx⟩ := (ha 2 _ _ rfl rfl).int Tryd.underlying28
    obtain ⟨m, rfl, hm⟩ := wf_u64 hx
    obtain ⟨y, rfl, hy⟩ := (ha 3 _ _ rfl rfl).int Tryd.underlying28
    obtain ⟨p, rfl, hp⟩ := wf_u64 hy
    exact UnitsAdds_calls 0 d b c m p W hd hb hc hm hp
theorem unitsAdds_over : Rows.UnitsAddsSaid :=
  OpenClaim.holds_of_wide 6 Tryd.f6 rfl rfl rfl rfl rfl rfl rfl ⟨rfl, rfl, rfl, rfl, rfl⟩ rfl rfl rfl rfl rfl (by kernel_rfl) Tryd.func6 (by kernel_rfl)
    (of_decide_eq_true (by kernel_rfl)) (by unfold Func.isWrapper; first | (rw [if_pos (by decide +kernel)]; kernel_rfl) | (rw [if_neg (by decide +kernel)]; exact ⟨rfl, rfl⟩))
    (fun os started H enc _ => unitsAdds_lifted os started H enc)
theorem unitsAdds_holds : Rows.UnitsAddsCardSaid :=
  Claim7.holds_tied_plain_at .later [] [.data, .pinned] true (true, "b5d2a6787cd311a4aa3a49cc99cf668e60f710bd562f8397d6b1be16cd78defe") false
    unitsAdds_over (fun _ h => by cases h) (by kernel_rfl) (fun _ h => by cases h) unitsAdds_row_tie rfl ⟨rfl, rfl⟩ (by kernel_rfl) rfl
    (fun f fn hf hfn => by
      obtain rfl : f = 6 := Option.some.inj ((show Tryd.prog.funcNamed Rows.unitsAddsRow.func = some 6 by kernel_rfl).symm.trans hf) |>.symm
      obtain rfl : fn = Tryd.f6 := (Option.some.inj (Tryd.func6.symm.trans hfn)).symm
      exact ⟨by kernel_rfl, fun j t ht => by
        rw [Tryd.params6] at ht
        have hall : (([27, 48, 28, 28] : List TypeId).all fun t => !Tryd.prog.wantsStandIn t) = true := by kernel_rfl
        have := List.all_eq_true.1 hall t (List.mem_of_getElem? (i := j) (by simpa using ht))
        have h2 : Tryd.prog.wantsStandIn t = false := by simpa using this
        exact h2⟩)
    (by kernel_rfl)
#print axioms unitsAdds_holds
end Go.Proofs.YtpgnaffcbbghgaaDoor
