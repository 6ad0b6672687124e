/-
  UnitsTurned returns true for every input, and each argument reads behind the call as it read before. Conditions: the listed variables read as the program's text lays them (tied by the card).
-/
import Derived.Test.YtpgnaffcbbghgaaDoorMg
import Derived.Test.YtpgnaffcbbghgaaDoorMh
import Derived.Test.YtpgnaffcbbghgaaDoorCards
set_option linter.unusedVariables false
set_option linter.unusedSimpArgs false
set_option maxRecDepth 20000
namespace Go.Proofs.YtpgnaffcbbghgaaDoor
open Go Go.E
attribute [local irreducible] Go.E.T Go.E.L Go.E.O Go.E.Ob

attribute [local irreducible] Go.E.ObX
theorem rolls_get {r0 r1 r2 : RoV} {i : Nat} (hi : i < 3) : ((r0.cells ++ r1.cells ++ r2.cells).drop ((i : Int).toNat * 4)).take 4 = ([r0, r1, r2].getD i r0).cells := by
  rcases (show i = 0 ∨ i = 1 ∨ i = 2 by omega) with rfl | rfl | rfl <;> rfl
theorem rolls_mem {r0 r1 r2 : RoV} {i : Nat} (hi : i < 3) : [r0, r1, r2].getD i r0 = r0 ∨ [r0, r1, r2].getD i r0 = r1 ∨ [r0, r1, r2].getD i r0 = r2 := by
  rcases (show i = 0 ∨ i = 1 ∨ i = 2 by omega) with rfl | rfl | rfl
  · exact .inl rfl
  · exact .inr (.inl rfl)
  · exact .inr (.inr rfl)
theorem findRes_form (r : RoV) (s : Str) : ∃ a e : Int, findRes r s = .tuple #[.int .i64 a, .int .i64 e] := by
  unfold findRes
  split
  · split <;> exact ⟨_, _, rfl⟩
  · exact ⟨_, _, rfl⟩
theorem landRes_le (r : RoV) : 0 ≤ landRes r ∧ landRes r ≤ 64 := by
  by_cases h : rollErr r = 0
  · rw [landRes_ok h]; have := landsN_le r.us; have := roll_bnd h; omega
  · rw [landRes_no h]; omega
theorem two_get {a b : Str} {i : Nat} (hi : i < 2) : ∃ s : Str, #[str a, str b][(i : Int).toNat]? = some (str s) := by
  rcases (show i = 0 ∨ i = 1 by omega) with rfl | rfl
  · exact ⟨a, rfl⟩
  · exact ⟨b, rfl⟩
theorem three_get {a b c i : Nat} (hi : i < 3) (ha : a < 18446744073709551616) (hb : b < 18446744073709551616) (hc : c < 18446744073709551616) : ∃ s : Nat, s < 18446744073709551616 ∧ #[Value.int .u64 (a : Int), Value.int .u64 (b : Int), Value.int .u64 (c : Int)][(i : Int).toNat]? = some (.int .u64 (s : Int)) := by
  rcases (show i = 0 ∨ i = 1 ∨ i = 2 by omega) with rfl | rfl | rfl
  · exact ⟨a, ha, rfl⟩
  · exact ⟨b, hb, rfl⟩
  · exact ⟨c, hc, rfl⟩
theorem UnitsTotals_calls (lo : Nat) (d : Dr) (b c : Bd) (nm : Str) (at' : Int) (set : Nat) (w : World) (hd : d.ok lo w) (hb : b.ok) (hc : c.ok) (hat : Low8 at') (hset : set < 18446744073709551616) :
    Calls Tryd.prog 4 #[d.val, bends b c, str nm, .int .u8 at', .int .u64 set] w (Ret fun v w' => v = .bool true ∧ Ext w w') := by
  refine T.enter (vs := [d.val, bends b c, str nm, .int .u8 at', .int .u64 set]) Tryd.func4 rfl Tryd.ntmps4 rfl ?_
  refine T.seq (T.region (L.op rfl rfl (O.box rfl (fun b5 w5 hb5 hz5 he5 hB5 => ?_))))
  refine L.op rfl rfl (O.box rfl (fun b6 w6 hb6 hz6 he6 hB6 => ?_))
  unfold Low8 at hat
  have he06 := he5.trans he6
  have hD6 : Blk w6 b5 d.cells 27 := Blk.ext (cs := d.cells) hB5 he6
  refine L.op rfl rfl (O.assign rfl (L.nil (T.seq (T.seq (T.region (L.op rfl rfl (O.loadAgg Tryd.isAgg27 Tryd.sizeOf27 rfl rfl hD6.row (L.op rfl rfl (O.loadAgg Tryd.isAgg48 Tryd.sizeOf48 rfl rfl (Blk.row hB6) (L.op rfl rfl (O.call (xs := [.tmp 34, .tmp 35]) Tryd.call15 rfl rfl (rolls_calls lo d b c w6 (hd.ext he06) hb hc) (fun v7 w7 hq => ?_))))))))))))
  obtain ⟨he7, n, r0, r1, r2, rfl, hdr, hrs⟩ := hq
  have he07 := he06.trans he7
  refine L.op rfl rfl (O.move rfl (L.nil (T.block (?_))))
  refine T.loop (σ := Nat) (fun i => [(2, str nm), (3, .int .u8 at'), (4, .int .u64 set), (36, .agg (r0.cells ++ r1.cells ++ r2.cells).toArray), (37, .int .i64 i)]) (fun i w' => i ≤ 3 ∧ Ext w7 w') (fun i => 3 - i) (0) ⟨rfl, rfl, rfl, rfl, rfl, trivial⟩ ⟨Nat.zero_le _, Keep.refl _ _⟩ ?_
  rintro i w8 ⟨hi, he8⟩
  refine T.seq (T.region (L.op rfl rfl (O.lss_s rfl rfl (fun hlt => ?_) (fun hlt => ?_))))
  · refine L.nil (?_)
    have hlt' : i < 3 := by omega
    obtain ⟨r, hr⟩ : ∃ r, r = [r0, r1, r2].getD i r0 := ⟨_, rfl⟩
    have hro := hrs r (by rw [hr]; exact rolls_mem hlt')
    have hgi := rolls_get (r0 := r0) (r1 := r1) (r2 := r2) hlt'
    rw [← hr] at hgi
    refine T.seq (T.cond_true rfl (T.skip (T.seq (T.block (T.seq (T.region (L.op rfl rfl (O.index_agg_to Tryd.runUnderlying49 Tryd.isAgg32 Tryd.sizeOf32 rfl rfl (by omega) (by omega) hgi (L.op rfl rfl (O.alloc Tryd.zeroValue32 (fun b9 w9 hb9 hz9 he9 hB9 => ?_)))))))))))
    have hr8 := hro.1.ext he8
    refine L.op rfl rfl (O.storeAgg Tryd.sizeOf32 rfl rfl rfl hB9 (Nat.le_refl _) (by intro u hu; simp [RoV.cells] at hu; rcases hu with (rfl|rfl|rfl|rfl); rfl; rfl; rfl; exact hr8.one) (fun w10 hu10 hB10 => ?_))
    replace hu10 : Upd b9 w9 w10 := hu10
    have hC10 : Blk w10 b9 r.cells 32 := hB10
    have he810 : Ext w8 w10 := he9.upd hu10 (.inr (by omega))
    have hr10 := hr8.ext he810
    have hl67 := hro.2
    refine L.nil (T.seq (T.region (L.op rfl rfl (O.loadAgg Tryd.isAgg32 Tryd.sizeOf32 rfl rfl hC10.row (L.op rfl rfl (O.call (xs := [.tmp 41]) Tryd.call10 rfl rfl (Land_calls w6.heap.size r w10 hr10) (fun v11 w11 hq => ?_)))))))
    obtain ⟨rfl, he11⟩ := hq
    refine L.op rfl rfl (O.move rfl (L.op rfl rfl (O.extract rfl rfl (L.op rfl rfl (O.extract rfl rfl (L.op rfl rfl (O.assign rfl (L.op rfl rfl (O.assign rfl (L.nil (T.seq (T.region (L.op rfl rfl (O.loadAgg Tryd.isAgg32 Tryd.sizeOf32 rfl rfl ((hC10.ext he11).row) (L.op rfl rfl (O.call (xs := [.tmp 46]) Tryd.call16 rfl rfl (RLand_calls w6.heap.size r w11 (hr10.ext he11)) (fun v12 w12 hq => ?_)))))))))))))))))
    obtain ⟨rfl, he12⟩ := hq
    refine L.op rfl rfl (O.move rfl (L.op rfl rfl (O.extract rfl rfl (L.op rfl rfl (O.extract rfl rfl (L.op rfl rfl (O.assign rfl (L.op rfl rfl (O.assign rfl (L.nil (T.seq (T.seq (T.region (L.op rfl rfl (O.move rfl (L.op rfl rfl (O.move rfl (L.op rfl rfl (O.neq_f rfl rfl rfl (L.op rfl rfl (O.move rfl (L.op rfl rfl (O.move rfl (L.op rfl rfl (O.move rfl (L.op rfl rfl (O.neq_f rfl rfl rfl (?_))))))))))))))))))))))))))))
    have he1012 := he11.trans he12
    have hC12 := hC10.ext he1012
    have hr12 := hr10.ext he1012
    refine L.op rfl rfl (O.pick_false rfl rfl (L.nil (T.cond_false rfl (T.skip (T.seq (T.region (L.op rfl rfl (O.assign rfl (L.nil (T.seq (?_)))))))))))
    refine T.join (σ := Str) (fun s => [(2, str nm), (3, .int .u8 at'), (4, .int .u64 set), (12, .pointer (some ⟨b9, 0, none⟩)), (15, .int .i64 (landRes r)), (17, str s), (36, .agg (r0.cells ++ r1.cells ++ r2.cells).toArray), (37, .int .i64 i)]) (fun s w' => Ext w12 w') ?_ ?_
    · refine T.seq (T.region (L.op rfl rfl (O.fieldAddr Tryd.runUnderlying32 rfl Tryd.sizeOf30 rfl (L.op rfl rfl (O.load Tryd.isAgg30 rfl (hC12.cell rfl) (L.op rfl rfl (O.len Tryd.runUnderlying30 rfl (Sl.val hr12.sl) (L.op rfl rfl (O.gtr_s rfl rfl (fun hpos => ?_) (fun hpos => ?_))))))))))
      · refine L.nil (?_)
        have hpos' : 0 < r.us.length := by omega
        obtain ⟨k, hk⟩ : ∃ k : Nat, at' % (r.us.length : Int) = k := ⟨(at' % (r.us.length : Int)).toNat, by have := Int.emod_nonneg at' (show (r.us.length : Int) ≠ 0 by omega); omega⟩
        have hk2 : k < r.us.length := by have := Int.emod_lt_of_pos at' (show (0 : Int) < r.us.length by omega); omega
        refine T.cond_true rfl (?_)
        refine T.anyE mixed 8 [12, 3] rfl [.is _, .is _, .is _, .is _, .is _, .is _, .is _, .is (.int .i64 (k : Nat))] [[], [0], [], [2], [], [4], [5], [3, 6]] [[], [0], [], [2], [], [4], [4, 5], [2, 3, 4, 5, 6], [0, 1, 2, 3, 4, 5, 6, 7], [0, 1, 2, 3, 4, 5, 6, 7, 8], [0, 1, 2, 3, 4, 5, 6, 7, 8, 9], [0, 1, 2, 3, 4, 5, 6, 7, 8, 9, 10]] (by kernel_rfl) (by kernel_rfl) rfl (by kernel_rfl) trivial ⟨fun wx hx => Ob.op rfl (O.fieldAddr Tryd.runUnderlying32 rfl Tryd.sizeOf30 rfl ⟨Keep.refl _ _, rfl⟩),
            fun wx hx => Ob.op rfl (O.load Tryd.isAgg30 rfl ((hC12.ext hx).cell rfl) ⟨Keep.refl _ _, rfl⟩),
            fun wx hx => Ob.op rfl (O.move rfl ⟨Keep.refl _ _, rfl⟩),
            fun wx hx => Ob.op rfl (O.conv_to rfl (fun w => ⟨_, Tryd.runUnderlying5 w⟩) Tryd.runUnderlying3 (IntWalk.i64_in _ ⟨by omega, by omega⟩) ⟨Keep.refl _ _, rfl⟩),
            fun wx hx => Ob.op rfl (O.fieldAddr Tryd.runUnderlying32 rfl Tryd.sizeOf30 rfl ⟨Keep.refl _ _, rfl⟩),
            fun wx hx => Ob.op rfl (O.load Tryd.isAgg30 rfl ((hC12.ext hx).cell rfl) ⟨Keep.refl _ _, rfl⟩),
            fun wx hx => Ob.op rfl (O.len Tryd.runUnderlying30 rfl (Sl.val ((Units.ext hr12 hx).sl)) ⟨Keep.refl _ _, rfl⟩),
            fun wx hx => Ob.op rfl (O.rem rfl rfl (by omega) (by omega) ⟨Keep.refl _ _, by rw [hk]; rfl⟩),
            trivial⟩ (fun w13 he13 => ?_)
        refine L.op rfl rfl (O.indexAddr Tryd.runUnderlying30 Tryd.sizeOf42 rfl rfl ((Units.ext hr12 he13).sl) (by omega) (by omega) (L.op rfl rfl (O.fieldAddr Tryd.runUnderlying42 rfl Tryd.sizeOf9 rfl (L.op rfl rfl (O.load Tryd.isAgg9 rfl ((Units.ext hr12 he13).name hk2) (L.op rfl rfl (O.assign rfl (L.nil (T.meet ((r.us.getD k u0).nm) ⟨rfl, rfl, rfl, rfl, rfl, rfl, rfl, rfl, trivial⟩ he13)))))))))
      · refine L.nil (T.cond_false rfl (T.skip (T.meet ([]) ⟨rfl, rfl, rfl, rfl, rfl, rfl, rfl, rfl, trivial⟩ (Keep.refl _ _))))
    rintro own w13 he13
    refine T.seq (T.seq (T.region (L.op rfl rfl (O.move rfl (L.op rfl rfl (O.move rfl (L.op rfl rfl (O.build (v := .agg #[str nm, str own]) (parts := [(0, .tmp 73), (1, .tmp 74)]) (vs := [(0, _), (1, _)]) rfl (fun w => by kernel_rfl) (L.op rfl rfl (O.move rfl (L.nil (T.block (?_)))))))))))))
    refine T.loop (σ := Nat) (fun j => [(2, str nm), (3, .int .u8 at'), (4, .int .u64 set), (12, .pointer (some ⟨b9, 0, none⟩)), (15, .int .i64 (landRes r)), (36, .agg (r0.cells ++ r1.cells ++ r2.cells).toArray), (37, .int .i64 i), (75, .agg #[str nm, str own]), (76, .int .i64 j)]) (fun j w' => j ≤ 2 ∧ Ext w12 w') (fun j => 2 - j) (0) ⟨rfl, rfl, rfl, rfl, rfl, rfl, rfl, rfl, rfl, trivial⟩ ⟨Nat.zero_le _, he13⟩ ?_
    rintro j w14 ⟨hj, he14⟩
    refine T.seq (T.region (L.op rfl rfl (O.lss_s rfl rfl (fun hltj => ?_) (fun hltj => ?_))))
    · refine L.nil (?_)
      obtain ⟨s, hs⟩ := two_get (a := nm) (b := own) (i := j) (by omega)
      refine T.seq (T.cond_true rfl (T.skip (T.seq (T.block (T.seq (T.region (L.op rfl rfl (O.index_arr Tryd.runUnderlying51 Tryd.isAgg9 Tryd.sizeOf9 rfl rfl (by omega) (by omega) hs (L.op rfl rfl (O.assign rfl (L.nil (T.seq (T.region (L.op rfl rfl (O.loadAgg Tryd.isAgg32 Tryd.sizeOf32 rfl rfl ((hC12.ext he14).row) (L.op rfl rfl (O.move rfl (L.op rfl rfl (O.call (xs := [.tmp 80, .tmp 81]) Tryd.call13 rfl rfl (Find_calls w6.heap.size r s w14 (hr12.ext he14)) (fun v15 w15 hq => ?_))))))))))))))))))))
      obtain ⟨hv15, he15⟩ := hq
      obtain ⟨fa, fe, hf⟩ := findRes_form r s
      rw [hf] at hv15
      subst hv15
      refine L.op rfl rfl (O.move rfl (L.op rfl rfl (O.extract rfl rfl (L.op rfl rfl (O.extract rfl rfl (L.op rfl rfl (O.assign rfl (L.op rfl rfl (O.assign rfl (L.nil (T.seq (T.region (L.op rfl rfl (O.loadAgg Tryd.isAgg32 Tryd.sizeOf32 rfl rfl (((hC12.ext he14).ext he15).row) (L.op rfl rfl (O.move rfl (L.op rfl rfl (O.call (xs := [.tmp 86, .tmp 87]) Tryd.call17 rfl rfl (RFind_calls w6.heap.size r s w15 ((hr12.ext he14).ext he15)) (fun v16 w16 hq => ?_)))))))))))))))))))
      obtain ⟨hv16, he16⟩ := hq
      rw [hf] at hv16
      subst hv16
      refine L.op rfl rfl (O.move rfl (L.op rfl rfl (O.extract rfl rfl (L.op rfl rfl (O.extract rfl rfl (L.op rfl rfl (O.assign rfl (L.op rfl rfl (O.assign rfl (L.nil (T.seq (T.region (L.op rfl rfl (O.move rfl (L.op rfl rfl (O.move rfl (L.op rfl rfl (O.neq_f rfl rfl rfl (L.op rfl rfl (O.move rfl (L.op rfl rfl (O.move rfl (L.op rfl rfl (O.move rfl (L.op rfl rfl (O.neq_f rfl rfl rfl (L.op rfl rfl (O.pick_false rfl rfl (L.nil (T.cond_false rfl (T.skip (T.blk (T.region (L.op rfl rfl (O.add64 rfl rfl (by omega) (L.op rfl rfl (O.move rfl (L.nil (?_)))))))))))))))))))))))))))))))))))))))
      refine T.again (j + 1) (by omega) ⟨rfl, rfl, rfl, rfl, rfl, rfl, rfl, rfl, rfl, trivial⟩ ⟨by omega, he14.trans (he15.trans he16)⟩
    · refine L.nil (?_)
      obtain ⟨m, hm⟩ : ∃ m : Nat, landRes r = m := ⟨(landRes r).toNat, by have := landRes_le r; omega⟩
      have hm64 : m ≤ 64 := by have := landRes_le r; omega
      rw [hm]
      refine T.seq (T.cond_false rfl (T.exit rfl (T.seq (T.region (L.op rfl rfl (O.move rfl (L.op rfl rfl (O.move rfl (L.op rfl rfl (O.move rfl (L.op rfl rfl (O.and_i64 rfl rfl (b := 63) rfl rfl (by omega) (by decide) (?_)))))))))))))
      have hm63 : m &&& 63 ≤ 63 := Nat.and_le_right
      have hb1 : 1 ≤ bit64 (m &&& 63) := by rw [bit64, Nat.mod_eq_of_lt (by have := Nat.pow_lt_pow_right (a := 2) (by decide) (show m &&& 63 < 64 by omega); omega)]; exact Nat.pos_of_ne_zero (Nat.ne_of_gt (Nat.pow_pos (by decide)))
      have hm6' : (m &&& 63 : Nat) < 9223372036854775808 := by omega
      have hb2 : 1 ≤ bit64 ((m &&& 63 : Nat) : Int).toNat := hb1
      refine L.op rfl rfl (O.conv_to rfl (fun w => ⟨_, Tryd.runUnderlying3 w⟩) Tryd.runUnderlying52 (IntWalk.u64_in _ ⟨by omega, by omega⟩) (L.op rfl rfl (O.bit_u64 rfl rfl (by omega) (L.op rfl rfl (O.sub_u64 (b := 1) rfl rfl (bit64_lt _) (by decide) rfl rfl (by omega) (?_))))))
      obtain ⟨ms, hms⟩ : ∃ ms, ms = bit64 (m &&& 63) - 1 := ⟨_, rfl⟩
      refine L.op rfl rfl (O.and_u64 (b := ms) rfl (by rw [hms]; rfl) hset (by rw [hms]; have := bit64_lt (m &&& 63); omega) rfl rfl (L.op rfl rfl (O.move rfl (L.op rfl rfl (O.rem rfl rfl (by omega) (by omega) (?_))))))
      have hset2 : set &&& ms < 18446744073709551616 := and_lt _ hset
      refine L.op rfl rfl (O.bit_u64 rfl rfl (by omega) (L.op rfl rfl (O.build (v := .agg #[.int .u64 (set : Int), .int .u64 ((set &&& ms : Nat) : Int), .int .u64 ((bit64 ((at' % 64).toNat) : Nat) : Int)]) (parts := [(0, .tmp 100), (1, .tmp 107), (2, .tmp 110)]) (vs := [(0, _), (1, _), (2, _)]) rfl (fun w => by kernel_rfl) (L.op rfl rfl (O.move rfl (L.nil (T.block (?_))))))))
      refine T.loop (σ := Nat) (fun j => [(2, str nm), (3, .int .u8 at'), (4, .int .u64 set), (12, .pointer (some ⟨b9, 0, none⟩)), (36, .agg (r0.cells ++ r1.cells ++ r2.cells).toArray), (37, .int .i64 i), (111, .agg #[.int .u64 (set : Int), .int .u64 ((set &&& ms : Nat) : Int), .int .u64 ((bit64 ((at' % 64).toNat) : Nat) : Int)]), (112, .int .i64 j)]) (fun j w' => j ≤ 3 ∧ Ext w12 w') (fun j => 3 - j) (0) ⟨rfl, rfl, rfl, rfl, rfl, rfl, rfl, rfl, trivial⟩ ⟨Nat.zero_le _, he14⟩ ?_
      rintro j w17 ⟨hj, he17⟩
      refine T.seq (T.region (L.op rfl rfl (O.lss_s rfl rfl (fun hltj => ?_) (fun hltj => ?_))))
      · refine L.nil (?_)
        obtain ⟨x, hx64, hxg⟩ := three_get (i := j) (by omega) hset hset2 (bit64_lt ((at' % 64).toNat))
        refine T.seq (T.cond_true rfl (T.skip (T.seq (T.block (T.seq (T.region (L.op rfl rfl (O.index_arr Tryd.runUnderlying53 Tryd.isAgg28 Tryd.sizeOf28 rfl rfl (by omega) (by omega) hxg (L.op rfl rfl (O.assign rfl (L.nil (T.seq (T.region (L.op rfl rfl (O.loadAgg Tryd.isAgg32 Tryd.sizeOf32 rfl rfl ((hC12.ext he17).row) (L.op rfl rfl (O.move rfl (L.op rfl rfl (O.call (xs := [.tmp 116, .tmp 117]) Tryd.call11 rfl rfl (Total_calls w6.heap.size r x w17 (hr12.ext he17) hx64) (fun v18 w18 hq => ?_))))))))))))))))))))
        obtain ⟨he18, g1, x1, rfl, hg1, hx1⟩ := hq
        refine L.op rfl rfl (O.move rfl (L.op rfl rfl (O.extract rfl rfl (L.op rfl rfl (O.extract rfl rfl (L.op rfl rfl (O.extract rfl rfl (L.op rfl rfl (O.extract rfl rfl (L.op rfl rfl (O.assign rfl (L.op rfl rfl (O.assign rfl (L.op rfl rfl (O.assign rfl (L.op rfl rfl (O.assign rfl (L.nil (T.seq (T.region (L.op rfl rfl (O.loadAgg Tryd.isAgg32 Tryd.sizeOf32 rfl rfl (((hC12.ext he17).ext he18).row) (L.op rfl rfl (O.move rfl (L.op rfl rfl (O.call (xs := [.tmp 124, .tmp 125]) Tryd.call18 rfl rfl (RTotal_calls w6.heap.size r x w18 ((hr12.ext he17).ext he18) hx64) (fun v19 w19 hq => ?_)))))))))))))))))))))))))))
        obtain ⟨he19, g2, x2, rfl, hg2, hx2⟩ := hq
        refine L.op rfl rfl (O.move rfl (L.op rfl rfl (O.extract rfl rfl (L.op rfl rfl (O.extract rfl rfl (L.op rfl rfl (O.extract rfl rfl (L.op rfl rfl (O.extract rfl rfl (L.op rfl rfl (O.assign rfl (L.op rfl rfl (O.assign rfl (L.op rfl rfl (O.assign rfl (L.op rfl rfl (O.assign rfl (L.nil (T.seq (T.region (L.op rfl rfl (O.move rfl (L.op rfl rfl (O.move rfl (L.op rfl rfl (O.neq_f rfl rfl rfl (L.op rfl rfl (O.move rfl (L.op rfl rfl (O.move rfl (L.op rfl rfl (O.move rfl (L.op rfl rfl (O.neq_f rfl rfl rfl (L.op rfl rfl (O.pick_false rfl rfl (L.op rfl rfl (O.move rfl (L.op rfl rfl (O.move rfl (L.op rfl rfl (O.move rfl (L.op rfl rfl (O.call (xs := [.tmp 140, .tmp 141]) Tryd.call19 rfl rfl (equalI_calls w17.heap.size w18.heap.size g1 g2 _ _ w19 (Ints.ext hg1 he19) hg2) (fun v20 w20 hq => ?_)))))))))))))))))))))))))))))))))))))))))))))
        obtain ⟨hv20, he20⟩ := hq
        rw [decide_eq_true rfl] at hv20
        subst hv20
        refine L.op rfl rfl (O.not rfl (L.op rfl rfl (O.pick_false rfl rfl (L.op rfl rfl (O.move rfl (L.op rfl rfl (O.move rfl (L.op rfl rfl (O.move rfl (L.op rfl rfl (O.call (xs := [.tmp 146, .tmp 147]) Tryd.call19 rfl rfl (equalI_calls w17.heap.size w18.heap.size x1 x2 _ _ w20 (Ints.ext (Ints.ext hx1 he19) he20) (Ints.ext hx2 he20)) (fun v21 w21 hq => ?_))))))))))))
        obtain ⟨hv21, he21⟩ := hq
        rw [decide_eq_true rfl] at hv21
        subst hv21
        refine L.op rfl rfl (O.not rfl (L.op rfl rfl (O.pick_false rfl rfl (L.nil (T.cond_false rfl (T.skip (T.blk (T.region (L.op rfl rfl (O.add64 rfl rfl (by omega) (L.op rfl rfl (O.move rfl (L.nil (T.again (j + 1) (by omega) ⟨rfl, rfl, rfl, rfl, rfl, rfl, rfl, rfl, trivial⟩ ⟨by omega, he17.trans ((he18.trans he19).trans (he20.trans he21))⟩))))))))))))))
      · refine L.nil (T.seq (T.cond_false rfl (T.exit rfl (T.blk (T.region (L.op rfl rfl (O.add64 rfl rfl (by omega) (L.op rfl rfl (O.move rfl (L.nil (T.again (i + 1) (by omega) ⟨rfl, rfl, rfl, rfl, rfl, trivial⟩ ⟨by omega, he8.trans (he810.trans (he1012.trans he17))⟩)))))))))))
  · refine L.nil (T.seq (T.cond_false rfl (T.exit rfl (T.seq (T.region (L.op rfl rfl (O.call (xs := []) Tryd.call8 rfl rfl (works_calls w8) (fun v9 w9 hq => ?_))))))))
    obtain ⟨rfl, he9⟩ := hq
    refine L.op rfl rfl (O.assign rfl (L.nil (T.ret1 Tryd.results4 rfl ⟨rfl, he07.trans (he8.trans he9)⟩)))

end Go.Proofs.YtpgnaffcbbghgaaDoor
set_option linter.unusedVariables false
set_option linter.unusedSimpArgs false
set_option maxRecDepth 20000
namespace Go.Proofs.YtpgnaffcbbghgaaDoor
open Go Go.E
attribute [local irreducible] Go.E.T Go.E.L Go.E.O Go.E.Ob

theorem six_get {lv : Int} {i : Nat} (hi : i < 6) : ∃ x : Int, #[Value.int .i64 (-1), Value.int .i64 0, Value.int .i64 1, Value.int .i64 2, Value.int .i64 3, Value.int .i64 lv][(i : Int).toNat]? = some (.int .i64 x) := by
  rcases (show i = 0 ∨ i = 1 ∨ i = 2 ∨ i = 3 ∨ i = 4 ∨ i = 5 by omega) with rfl | rfl | rfl | rfl | rfl | rfl <;> exact ⟨_, rfl⟩
theorem UnitsParents_calls (lo : Nat) (d : Dr) (b c : Bd) (lv : Int) (w : World) (hd : d.ok lo w) (hb : b.ok) (hc : c.ok) :
    Calls Tryd.prog 5 #[d.val, bends b c, .int .i64 lv] w (Ret fun v w' => v = .bool true ∧ Ext w w') := by
  refine T.enter (vs := [d.val, bends b c, .int .i64 lv]) Tryd.func5 rfl Tryd.ntmps5 rfl ?_
  refine T.seq (T.region (L.op rfl rfl (O.box rfl (fun b5 w5 hb5 hz5 he5 hB5 => ?_))))
  refine L.op rfl rfl (O.box rfl (fun b6 w6 hb6 hz6 he6 hB6 => ?_))
  have he06 := he5.trans he6
  have hD6 : Blk w6 b5 d.cells 27 := Blk.ext (cs := d.cells) hB5 he6
  refine L.op rfl rfl (O.assign rfl (L.nil (T.seq (T.seq (T.region (L.op rfl rfl (O.loadAgg Tryd.isAgg27 Tryd.sizeOf27 rfl rfl hD6.row (L.op rfl rfl (O.loadAgg Tryd.isAgg48 Tryd.sizeOf48 rfl rfl (Blk.row hB6) (L.op rfl rfl (O.call (xs := [.tmp 19, .tmp 20]) Tryd.call15 rfl rfl (rolls_calls lo d b c w6 (hd.ext he06) hb hc) (fun v7 w7 hq => ?_))))))))))))
  obtain ⟨he7, n, r0, r1, r2, rfl, hdr, hrs⟩ := hq
  have he07 := he06.trans he7
  refine L.op rfl rfl (O.move rfl (L.nil (T.block (?_))))
  refine T.loop (σ := Nat) (fun i => [(2, .int .i64 lv), (21, .agg (r0.cells ++ r1.cells ++ r2.cells).toArray), (22, .int .i64 i)]) (fun i w' => i ≤ 3 ∧ Ext w7 w') (fun i => 3 - i) (0) ⟨rfl, rfl, rfl, trivial⟩ ⟨Nat.zero_le _, Keep.refl _ _⟩ ?_
  rintro i w8 ⟨hi, he8⟩
  refine T.seq (T.region (L.op rfl rfl (O.lss_s rfl rfl (fun hlt => ?_) (fun hlt => ?_))))
  · refine L.nil (?_)
    have hlt' : i < 3 := by omega
    obtain ⟨r, hr⟩ : ∃ r, r = [r0, r1, r2].getD i r0 := ⟨_, rfl⟩
    have hro := hrs r (by rw [hr]; exact rolls_mem hlt')
    have hgi := rolls_get (r0 := r0) (r1 := r1) (r2 := r2) hlt'
    rw [← hr] at hgi
    refine T.seq (T.cond_true rfl (T.skip (T.seq (T.block (T.seq (T.region (L.op rfl rfl (O.index_agg_to Tryd.runUnderlying49 Tryd.isAgg32 Tryd.sizeOf32 rfl rfl (by omega) (by omega) hgi (L.op rfl rfl (O.alloc Tryd.zeroValue32 (fun b9 w9 hb9 hz9 he9 hB9 => ?_)))))))))))
    have hr8 := hro.1.ext he8
    refine L.op rfl rfl (O.storeAgg Tryd.sizeOf32 rfl rfl rfl hB9 (Nat.le_refl _) (by intro u hu; simp [RoV.cells] at hu; rcases hu with (rfl|rfl|rfl|rfl); rfl; rfl; rfl; exact hr8.one) (fun w10 hu10 hB10 => ?_))
    replace hu10 : Upd b9 w9 w10 := hu10
    have hC10 : Blk w10 b9 r.cells 32 := hB10
    have he810 : Ext w8 w10 := he9.upd hu10 (.inr (by omega))
    have hr10 := hr8.ext he810
    refine L.nil (T.seq (T.seq (T.region (L.op rfl rfl (O.move rfl (L.op rfl rfl (O.build (v := .agg #[.int .i64 (-1), .int .i64 0, .int .i64 1, .int .i64 2, .int .i64 3, .int .i64 lv]) (parts := [(0, .const (.int .i64 (-1))), (1, .const (.int .i64 0)), (2, .const (.int .i64 1)), (3, .const (.int .i64 2)), (4, .const (.int .i64 3)), (5, .tmp 25)]) (vs := [(0, _), (1, _), (2, _), (3, _), (4, _), (5, _)]) rfl (fun w => by kernel_rfl) (L.op rfl rfl (O.move rfl (L.nil (T.block (?_))))))))))))
    refine T.loop (σ := Nat) (fun j => [(2, .int .i64 lv), (8, .pointer (some ⟨b9, 0, none⟩)), (21, .agg (r0.cells ++ r1.cells ++ r2.cells).toArray), (22, .int .i64 i), (26, .agg #[.int .i64 (-1), .int .i64 0, .int .i64 1, .int .i64 2, .int .i64 3, .int .i64 lv]), (27, .int .i64 j)]) (fun j w' => j ≤ 6 ∧ Ext w10 w') (fun j => 6 - j) (0) ⟨rfl, rfl, rfl, rfl, rfl, rfl, trivial⟩ ⟨Nat.zero_le _, Keep.refl _ _⟩ ?_
    rintro j w14 ⟨hj, he14⟩
    refine T.seq (T.region (L.op rfl rfl (O.lss_s rfl rfl (fun hltj => ?_) (fun hltj => ?_))))
    · refine L.nil (?_)
      obtain ⟨x, hx⟩ := six_get (lv := lv) (i := j) (by omega)
      refine T.seq (T.cond_true rfl (T.skip (T.seq (T.block (T.seq (T.region (L.op rfl rfl (O.index_arr Tryd.runUnderlying56 Tryd.isAgg3 Tryd.sizeOf3 rfl rfl (by omega) (by omega) hx (L.op rfl rfl (O.assign rfl (L.nil (T.seq (T.region (L.op rfl rfl (O.loadAgg Tryd.isAgg32 Tryd.sizeOf32 rfl rfl ((hC10.ext he14).row) (L.op rfl rfl (O.move rfl (L.op rfl rfl (O.call (xs := [.tmp 31, .tmp 32]) Tryd.call20 rfl rfl (Parents_calls w6.heap.size r x w14 (hr10.ext he14)) (fun v15 w15 hq => ?_))))))))))))))))))))
      obtain ⟨he15, l1, rfl, hl1⟩ := hq
      refine L.op rfl rfl (O.move rfl (L.op rfl rfl (O.extract rfl rfl (L.op rfl rfl (O.extract rfl rfl (L.op rfl rfl (O.assign rfl (L.op rfl rfl (O.assign rfl (L.nil (T.seq (T.region (L.op rfl rfl (O.loadAgg Tryd.isAgg32 Tryd.sizeOf32 rfl rfl (((hC10.ext he14).ext he15).row) (L.op rfl rfl (O.move rfl (L.op rfl rfl (O.call (xs := [.tmp 37, .tmp 38]) Tryd.call21 rfl rfl (RParents_calls w6.heap.size r x w15 ((hr10.ext he14).ext he15)) (fun v16 w16 hq => ?_)))))))))))))))))))
      obtain ⟨he16, l2, rfl, hl2⟩ := hq
      refine L.op rfl rfl (O.move rfl (L.op rfl rfl (O.extract rfl rfl (L.op rfl rfl (O.extract rfl rfl (L.op rfl rfl (O.assign rfl (L.op rfl rfl (O.assign rfl (L.nil (T.seq (T.region (L.op rfl rfl (O.move rfl (L.op rfl rfl (O.move rfl (L.op rfl rfl (O.neq_f rfl rfl rfl (L.op rfl rfl (O.move rfl (L.op rfl rfl (O.move rfl (L.op rfl rfl (O.move rfl (L.op rfl rfl (O.call (xs := [.tmp 46, .tmp 47]) Tryd.call22 rfl rfl (equalPar_calls w14.heap.size w15.heap.size l1 l2 _ _ w16 (Sl.ext hl1 he16) hl2) (fun v17 w17 hq => ?_)))))))))))))))))))))))))))
      obtain ⟨hv17, he17⟩ := hq
      rw [decide_eq_true rfl] at hv17
      subst hv17
      refine L.op rfl rfl (O.not rfl (L.op rfl rfl (O.pick_false rfl rfl (L.nil (T.cond_false rfl (T.skip (T.blk (T.region (L.op rfl rfl (O.add64 rfl rfl (by omega) (L.op rfl rfl (O.move rfl (L.nil (T.again (j + 1) (by omega) ⟨rfl, rfl, rfl, rfl, rfl, rfl, trivial⟩ ⟨by omega, he14.trans ((he15.trans he16).trans he17)⟩))))))))))))))
    · refine L.nil (?_)
      have hC14 := hC10.ext he14
      refine T.seq (T.cond_false rfl (T.exit rfl (T.seq (T.region (L.op rfl rfl (O.loadAgg Tryd.isAgg32 Tryd.sizeOf32 rfl rfl hC14.row (L.op rfl rfl (O.call (xs := [.tmp 53]) Tryd.call23 rfl rfl (Nested_calls w6.heap.size r w14 (hr10.ext he14)) (fun v15 w15 hq => ?_)))))))))
      obtain ⟨rfl, he15⟩ := hq
      refine L.op rfl rfl (O.move rfl (L.op rfl rfl (O.extract rfl rfl (L.op rfl rfl (O.extract rfl rfl (L.op rfl rfl (O.assign rfl (L.op rfl rfl (O.assign rfl (L.nil (T.seq (T.region (L.op rfl rfl (O.loadAgg Tryd.isAgg32 Tryd.sizeOf32 rfl rfl ((hC14.ext he15).row) (L.op rfl rfl (O.call (xs := [.tmp 58]) Tryd.call24 rfl rfl (RNested_calls w6.heap.size r w15 ((hr10.ext he14).ext he15)) (fun v16 w16 hq => ?_)))))))))))))))))
      obtain ⟨rfl, he16⟩ := hq
      refine L.op rfl rfl (O.move rfl (L.op rfl rfl (O.extract rfl rfl (L.op rfl rfl (O.extract rfl rfl (L.op rfl rfl (O.assign rfl (L.op rfl rfl (O.assign rfl (L.nil (T.seq (T.region (L.op rfl rfl (O.move rfl (L.op rfl rfl (O.move rfl (L.op rfl rfl (O.neq_bool_f Tryd.runUnderlying4 rfl rfl rfl (L.op rfl rfl (O.move rfl (L.op rfl rfl (O.move rfl (L.op rfl rfl (O.move rfl (L.op rfl rfl (O.neq_f rfl rfl rfl (L.op rfl rfl (O.pick_false rfl rfl (L.nil (T.cond_false rfl (T.skip (T.blk (T.region (L.op rfl rfl (O.add64 rfl rfl (by omega) (L.op rfl rfl (O.move rfl (L.nil (?_)))))))))))))))))))))))))))))))))))))))
      refine T.again (i + 1) (by omega) ⟨rfl, rfl, rfl, trivial⟩ ⟨by omega, he8.trans (he810.trans (he14.trans (he15.trans he16)))⟩
  · refine L.nil (T.seq (T.cond_false rfl (T.exit rfl (T.seq (T.region (L.op rfl rfl (O.call (xs := []) Tryd.call8 rfl rfl (works_calls w8) (fun v9 w9 hq => ?_))))))))
    obtain ⟨rfl, he9⟩ := hq
    refine L.op rfl rfl (O.assign rfl (L.nil (T.ret1 Tryd.results5 rfl ⟨rfl, he07.trans (he8.trans he9)⟩)))

end Go.Proofs.YtpgnaffcbbghgaaDoor
set_option linter.unusedVariables false
set_option linter.unusedSimpArgs false
set_option maxRecDepth 20000
namespace Go.Proofs.YtpgnaffcbbghgaaDoor
open Go Go.E
attribute [local irreducible] Go.E.T Go.E.L Go.E.O Go.E.Ob

attribute [local irreducible] Go.E.ObX
theorem O.mask_u64 {C : Cx} {e : Env} {w : World} {K : Value → World → Prop} {d : Option Tmp} {ty : TypeId} {pos : String} {aft : Array Edge} {g : Option (Nat × Bool)} {x y : Operand} {tx ty' : TypeId} {n : Nat} (hx : ev e x = some (.int .u64 (bit64 n : Nat))) (hy : ev e y = some (.int .u64 1)) (hn : n ≤ 64) (h : K (.int .u64 ((2 ^ n - 1 : Nat) : Int)) w) : O C e ⟨d, .binOp .sub tx x y ty', ty, pos, aft, g⟩ w K :=
  O.sub hx hy (by
    have e : IntKind.u64.wrap ((bit64 n : Nat) - 1 : Int) = ((2 ^ n - 1 : Nat) : Int) := by
      rw [IntKind.wrap_u64, bit64]
      have hp : 0 < 2 ^ n := Nat.pow_pos (by decide)
      rcases Nat.lt_or_ge n 64 with hl | hl
      · have := Nat.pow_lt_pow_right (a := 2) (by decide) hl
        have h64 : (2 : Nat) ^ 64 = 18446744073709551616 := by decide
        rw [Nat.mod_eq_of_lt (by omega)]; omega
      · obtain rfl : n = 64 := by omega
        decide
    rw [e]; exact h)
theorem comp_bit {p i : Nat} (hp : p < 18446744073709551616) (hi : i < 64) : (18446744073709551615 - p).testBit i = !p.testBit i := by
  have h64 : (2 : Nat) ^ 64 = 18446744073709551616 := by decide
  have := Nat.testBit_two_pow_sub_succ (n := 64) (x := p) (by omega) i
  rw [h64, show 18446744073709551616 - (p + 1) = 18446744073709551615 - p by omega] at this
  rw [this]; simp [hi]
theorem sumK_split (us : List UnV) (f : UnV → Int) (a p : Nat) (hp : p < 18446744073709551616) : ∀ n, n ≤ 64 → sumK us f (idxs a n) = sumK us f (idxs (a &&& p) n) + sumK us f (idxs (a &&& (18446744073709551615 - p)) n)
  | 0, _ => rfl
  | n + 1, hn => by
    have ih := sumK_split us f a p hp n (by omega)
    rw [idxs_succ, idxs_succ, idxs_succ, Nat.testBit_and, Nat.testBit_and, comp_bit hp (by omega), sumK_append, sumK_append, sumK_append, ih]
    cases a.testBit n <;> cases p.testBit n <;> simp [sumK_nil, sumK_one] <;> omega
theorem sumK_mono (us : List UnV) (f g : UnV → Int) : ∀ ks : List Nat, (∀ k ∈ ks, f (us.getD k u0) ≤ g (us.getD k u0)) → sumK us f ks ≤ sumK us g ks
  | [], _ => Int.le_refl _
  | k :: r, h => by
    have ih := sumK_mono us f g r fun j hj => h j (List.mem_cons_of_mem _ hj)
    have hk := h k (List.mem_cons_self ..)
    rw [show k :: r = [k] ++ r from rfl, sumK_append, sumK_append, sumK_one, sumK_one]; omega
theorem roll_cases (r : RoV) : rollErr r = 0 ∨ rollErr r = 161 := by
  by_cases h : RollOk r
  · exact .inl (rollErr_ok h)
  · exact .inr (rollErr_no h)
theorem idx_unit {r : RoV} {G P set : Nat} (h : rollErr r = 0) (hG : r.G = G) (hP : r.P = P) : ∀ k ∈ idxs set (lu r).length, UnitOk G P ((lu r).getD k u0) := fun k hk => by
  have hlt := idxs_lt hk
  rw [lu_len] at hlt
  rw [lu_get hlt]
  exact unit_ok h hG hP (Nat.lt_of_lt_of_le hlt (landsN_le _))
/-- What the totals of a set are. -/
structure TotS (r : RoV) (G P s : Nat) : Prop where
  err : totErr r s = 0
  p0 : 0 ≤ totP r s
  p1 : totP r s ≤ 64000000000
  gl : (totG r s).length = G
  vl : (totV r s).length = P
  g : ∀ q, q < G → 0 ≤ (totG r s).getD q 0 ∧ (totG r s).getD q 0 ≤ totP r s
  v : ∀ q, q < P → 0 ≤ (totV r s).getD q 0 ∧ (totV r s).getD q 0 ≤ 64000000000
theorem tot_s {r : RoV} {G P s : Nat} (h : rollErr r = 0) (hG : r.G = G) (hP : r.P = P) (hs : s < 2 ^ landsN r.us) : TotS r G P s := by
  have he := totErr_ok h hs
  have hu := idx_unit (set := s) h hG hP
  have hb := roll_bnd h
  have hln := landsN_le r.us
  have hil := idxs_len s (lu r).length
  rw [lu_len] at hil
  have e1 : totP r s = sumK (lu r) UnV.pp (idxs s (lu r).length) := by rw [totP, if_pos he]
  have e2 : totG r s = sumL (lu r) UnV.gs G (idxs s (lu r).length) := by rw [totG, if_pos he, hG, Int.toNat_natCast]
  have e3 : totV r s = sumL (lu r) UnV.vs P (idxs s (lu r).length) := by rw [totV, if_pos he, hP, Int.toNat_natCast]
  have hlen : ((idxs s (lu r).length).length : Int) ≤ 64 := by rw [lu_len]; omega
  have hp := sumK_le (lu r) UnV.pp 1000000000 (by decide) (idxs s (lu r).length) (fun k hk => ⟨(hu k hk).p0, (hu k hk).p1⟩)
  refine ⟨he, by rw [e1]; exact hp.1, by rw [e1]; omega, by rw [e2, sumL_len], by rw [e3, sumL_len], fun q hq => ?_, fun q hq => ?_⟩
  · rw [e2, e1, sumL_get hq]
    refine ⟨(sumK_le (lu r) (fun u => u.gs.getD q 0) 1000000000 (by decide) _ (fun k hk => ⟨((hu k hk).g q hq).1, by have := ((hu k hk).g q hq).2; have := (hu k hk).p1; omega⟩)).1, ?_⟩
    exact sumK_mono (lu r) _ _ _ (fun k hk => ((hu k hk).g q hq).2)
  · rw [e3, sumL_get hq]
    have := sumK_le (lu r) (fun u => u.vs.getD q 0) 1000000000 (by decide) (idxs s (lu r).length) (fun k hk => (hu k hk).v q hq)
    omega
theorem tot_add {r : RoV} {G P s p : Nat} (h : rollErr r = 0) (hG : r.G = G) (hP : r.P = P) (hs : s < 2 ^ landsN r.us) (hp : p < 18446744073709551616) :
    totP r s = totP r (s &&& p) + totP r (s &&& (18446744073709551615 - p)) ∧ (∀ q, q < G → (totG r s).getD q 0 = (totG r (s &&& p)).getD q 0 + (totG r (s &&& (18446744073709551615 - p))).getD q 0) ∧ (∀ q, q < P → (totV r s).getD q 0 = (totV r (s &&& p)).getD q 0 + (totV r (s &&& (18446744073709551615 - p))).getD q 0) := by
  have h1 := totErr_ok h hs
  have h2 := totErr_ok h (set := s &&& p) (Nat.lt_of_le_of_lt Nat.and_le_left hs)
  have h3 := totErr_ok h (set := s &&& (18446744073709551615 - p)) (Nat.lt_of_le_of_lt Nat.and_le_left hs)
  have hb := roll_bnd h
  have hln := landsN_le r.us
  have hn : (lu r).length ≤ 64 := by rw [lu_len]; omega
  refine ⟨?_, fun q hq => ?_, fun q hq => ?_⟩
  · simp only [totP, if_pos h1, if_pos h2, if_pos h3]
    exact sumK_split _ _ _ _ hp _ hn
  · simp only [totG, if_pos h1, if_pos h2, if_pos h3, hG, Int.toNat_natCast, sumL_get hq]
    exact sumK_split _ _ _ _ hp _ hn
  · simp only [totV, if_pos h1, if_pos h2, if_pos h3, hP, Int.toNat_natCast, sumL_get hq]
    exact sumK_split _ _ _ _ hp _ hn
theorem idxs_zero : ∀ n, idxs 0 n = []
  | 0 => rfl
  | n + 1 => by rw [idxs_succ, idxs_zero n]; simp
theorem tot_zero {r : RoV} {G P : Nat} (h : rollErr r = 0) (hG : r.G = G) (hP : r.P = P) : totP r 0 = 0 ∧ totErr r 0 = 0 ∧ totG r 0 = List.replicate G 0 ∧ totV r 0 = List.replicate P 0 := by
  have h1 := totErr_ok h (set := 0) (Nat.pow_pos (by decide))
  refine ⟨?_, h1, ?_, ?_⟩
  · rw [totP, if_pos h1, idxs_zero, sumK_nil]
  · rw [totG, if_pos h1, idxs_zero, sumL_nil, hG, Int.toNat_natCast]
  · rw [totV, if_pos h1, idxs_zero, sumL_nil, hP, Int.toNat_natCast]
theorem low_mask (s n : Nat) : s &&& (2 ^ n - 1) < 2 ^ n := by
  rw [Nat.and_two_pow_sub_one_eq_mod]; exact Nat.mod_lt _ (Nat.pow_pos (by decide))
theorem pow64 {n : Nat} (h : n ≤ 64) : 2 ^ n ≤ 18446744073709551616 := Nat.le_trans (Nat.pow_le_pow_right (by decide) h) (by decide)
set_option maxHeartbeats 1000000 in
theorem UnitsAdds_calls (lo : Nat) (d : Dr) (b c : Bd) (set pt : Nat) (w : World) (hd : d.ok lo w) (hb : b.ok) (hc : c.ok) (hset : set < 18446744073709551616) (hpt : pt < 18446744073709551616) :
    Calls Tryd.prog 6 #[d.val, bends b c, .int .u64 set, .int .u64 pt] w (Ret fun v w' => v = .bool true ∧ Ext w w') := by
  refine T.enter (vs := [d.val, bends b c, .int .u64 set, .int .u64 pt]) Tryd.func6 rfl Tryd.ntmps6 rfl ?_
  refine T.seq (T.region (L.op rfl rfl (O.box rfl (fun b5 w5 hb5 hz5 he5 hB5 => ?_))))
  refine L.op rfl rfl (O.box rfl (fun b6 w6 hb6 hz6 he6 hB6 => ?_))
  have he06 := he5.trans he6
  have hD6 : Blk w6 b5 d.cells 27 := Blk.ext (cs := d.cells) hB5 he6
  have hE6 : Blk w6 b6 (b.cells ++ c.cells) 48 := hB6
  refine L.op rfl rfl (O.assign rfl (L.nil (T.seq (T.seq (T.region (L.op rfl rfl (O.call (xs := []) Tryd.call8 rfl rfl (works_calls w6) (fun v0 w0 hq => ?_))))))))
  obtain ⟨rfl, he0⟩ := hq
  refine L.op rfl rfl (O.not rfl (L.nil (T.cond_false rfl (T.skip (T.seq (T.seq (T.region (L.op rfl rfl (O.loadAgg Tryd.isAgg27 Tryd.sizeOf27 rfl rfl ((hD6.ext he0).row) (L.op rfl rfl (O.loadAgg Tryd.isAgg48 Tryd.sizeOf48 rfl rfl (Blk.row (hE6.ext he0)) (L.op rfl rfl (O.call (xs := [.tmp 30, .tmp 31]) Tryd.call15 rfl rfl (rolls_calls lo d b c w0 (hd.ext (he06.trans he0)) hb hc) (fun v7 w7 hq => ?_))))))))))))))
  obtain ⟨he7, n, r0, r1, r2, rfl, hdr, hrs⟩ := hq
  have he07 := (he06.trans he0).trans he7
  refine L.op rfl rfl (O.move rfl (L.nil (T.block (?_))))
  refine T.loop (σ := Nat) (fun i => [(2, .int .u64 set), (3, .int .u64 pt), (32, .agg (r0.cells ++ r1.cells ++ r2.cells).toArray), (33, .int .i64 i)]) (fun i w' => i ≤ 3 ∧ Ext w7 w') (fun i => 3 - i) (0) ⟨rfl, rfl, rfl, rfl, trivial⟩ ⟨Nat.zero_le _, Keep.refl _ _⟩ ?_
  rintro i w8 ⟨hi, he8⟩
  refine T.seq (T.region (L.op rfl rfl (O.lss_s rfl rfl (fun hlt => ?_) (fun hlt => ?_))))
  · refine L.nil (?_)
    have hlt' : i < 3 := by omega
    obtain ⟨r, hr⟩ : ∃ r, r = [r0, r1, r2].getD i r0 := ⟨_, rfl⟩
    have hro := hrs r (by rw [hr]; exact rolls_mem hlt')
    have hgi := rolls_get (r0 := r0) (r1 := r1) (r2 := r2) hlt'
    rw [← hr] at hgi
    refine T.seq (T.cond_true rfl (T.skip (T.seq (T.block (T.seq (T.region (L.op rfl rfl (O.index_agg_to Tryd.runUnderlying49 Tryd.isAgg32 Tryd.sizeOf32 rfl rfl (by omega) (by omega) hgi (L.op rfl rfl (O.alloc Tryd.zeroValue32 (fun b9 w9 hb9 hz9 he9 hB9 => ?_)))))))))))
    have hr8 := hro.1.ext he8
    refine L.op rfl rfl (O.storeAgg Tryd.sizeOf32 rfl rfl rfl hB9 (Nat.le_refl _) (by intro u hu; simp [RoV.cells] at hu; rcases hu with (rfl|rfl|rfl|rfl); rfl; rfl; rfl; exact hr8.one) (fun w10 hu10 hB10 => ?_))
    replace hu10 : Upd b9 w9 w10 := hu10
    have hC10 : Blk w10 b9 r.cells 32 := hB10
    have he810 : Ext w8 w10 := he9.upd hu10 (.inr (by omega))
    have hr10 := hr8.ext he810
    refine L.nil (T.seq (T.region (L.op rfl rfl (O.loadAgg Tryd.isAgg32 Tryd.sizeOf32 rfl rfl hC10.row (L.op rfl rfl (O.call (xs := [.tmp 37]) Tryd.call10 rfl rfl (Land_calls w0.heap.size r w10 hr10) (fun v11 w11 hq => ?_)))))))
    obtain ⟨rfl, he11⟩ := hq
    have hC11 := hC10.ext he11
    have hr11 := hr10.ext he11
    refine L.op rfl rfl (O.move rfl (L.op rfl rfl (O.extract rfl rfl (L.op rfl rfl (O.extract rfl rfl (L.op rfl rfl (O.assign rfl (L.op rfl rfl (O.assign rfl (L.nil (T.seq (T.seq (T.region (L.op rfl rfl (O.move rfl (L.op rfl rfl (O.neq_s rfl rfl (fun h0 => ?_) (fun h0 => ?_))))))))))))))))))
    · refine L.nil (?_)
      have h161 : rollErr r = 161 := by rcases roll_cases r with h | h; exact absurd h h0; exact h
      refine T.cond_true rfl (T.seq (T.seq (T.region (L.op rfl rfl (O.move rfl (L.op rfl rfl (O.neq_f rfl rfl h161 (L.op rfl rfl (O.move rfl (L.op rfl rfl (O.loadAgg Tryd.isAgg32 Tryd.sizeOf32 rfl rfl hC11.row (L.op rfl rfl (O.call (xs := [.tmp 46]) Tryd.call25 rfl rfl (CheckRoll_calls w0.heap.size r w11 hr11) (fun v12 w12 hq => ?_))))))))))))))
      obtain ⟨rfl, he12⟩ := hq
      refine L.op rfl rfl (O.move rfl (L.op rfl rfl (O.neq_f rfl rfl rfl (L.op rfl rfl (O.pick_false rfl rfl (L.nil (T.cond_false rfl (T.skip (T.exit rfl (T.region (L.op rfl rfl (O.add64 rfl rfl (by omega) (L.op rfl rfl (O.move rfl (L.nil (T.again (i + 1) (by omega) ⟨rfl, rfl, rfl, rfl, trivial⟩ ⟨by omega, (he8.trans he810).trans (he11.trans he12)⟩))))))))))))))))
    · refine L.nil (?_)
      have h0n : rollErr r = 0 := h0
      have hbnd := roll_bnd h0n
      obtain ⟨G, hG⟩ : ∃ G : Nat, r.G = G := ⟨r.G.toNat, by omega⟩
      obtain ⟨Pn, hP⟩ : ∃ Pn : Nat, r.P = Pn := ⟨r.P.toNat, by omega⟩
      obtain ⟨m, hm⟩ : ∃ m, m = landsN r.us := ⟨_, rfl⟩
      have hln := landsN_le r.us
      have hm64 : m ≤ 64 := by omega
      have hlr : landRes r = (m : Int) := by rw [landRes_ok h0n, hm]
      rw [hlr]
      refine T.cond_false rfl (T.skip (T.seq (T.region (L.op rfl rfl (O.move rfl (L.op rfl rfl (O.move rfl (L.op rfl rfl (O.bit_u64 rfl rfl (by omega) (L.op rfl rfl (O.mask_u64 rfl rfl (by show (m : Int).toNat ≤ 64; omega) (?_))))))))))))
      rw [Int.toNat_natCast]
      have hpw := pow64 hm64
      have hp0 : 0 < 2 ^ m := Nat.pow_pos (by decide)
      refine L.op rfl rfl (O.and_u64 (b := 2 ^ m - 1) rfl rfl hset (by omega) rfl rfl (?_))
      obtain ⟨s, hs⟩ : ∃ s, s = set &&& (2 ^ m - 1) := ⟨_, rfl⟩
      rw [← hs]
      have hsm : s < 2 ^ landsN r.us := by rw [hs, ← hm]; exact low_mask _ _
      have hs64 : s < 18446744073709551616 := by rw [← hm] at hsm; omega
      have hT := tot_s h0n hG hP hsm
      have hTp := tot_s (s := s &&& pt) h0n hG hP (Nat.lt_of_le_of_lt Nat.and_le_left hsm)
      have hTq := tot_s (s := s &&& (18446744073709551615 - pt)) h0n hG hP (Nat.lt_of_le_of_lt Nat.and_le_left hsm)
      obtain ⟨hA, hAg, hAv⟩ := tot_add h0n hG hP hsm hpt
      refine L.op rfl rfl (O.assign rfl (L.nil (T.seq (T.region (L.op rfl rfl (O.loadAgg Tryd.isAgg32 Tryd.sizeOf32 rfl rfl hC11.row (L.op rfl rfl (O.move rfl (L.op rfl rfl (O.call (xs := [.tmp 57, .tmp 58]) Tryd.call11 rfl rfl (Total_calls w0.heap.size r s w11 hr11 hs64) (fun v12 w12 hq => ?_)))))))))))
      obtain ⟨he12, g1, x1, rfl, hg1, hx1⟩ := hq
      refine L.op rfl rfl (O.move rfl (L.op rfl rfl (O.extract rfl rfl (L.op rfl rfl (O.extract rfl rfl (L.op rfl rfl (O.extract rfl rfl (L.op rfl rfl (O.extract rfl rfl (L.op rfl rfl (O.assign rfl (L.op rfl rfl (O.assign rfl (L.op rfl rfl (O.assign rfl (L.op rfl rfl (O.assign rfl (L.nil (T.seq (T.region (L.op rfl rfl (O.loadAgg Tryd.isAgg32 Tryd.sizeOf32 rfl rfl ((hC11.ext he12).row) (L.op rfl rfl (O.move rfl (L.op rfl rfl (O.move rfl (L.op rfl rfl (O.and_u64 rfl rfl hs64 hpt rfl rfl (L.op rfl rfl (O.call (xs := [.tmp 65, .tmp 68]) Tryd.call11 rfl rfl (Total_calls w0.heap.size r (s &&& pt) w12 (hr11.ext he12) (and_lt _ hs64)) (fun v13 w13 hq => ?_)))))))))))))))))))))))))))))))
      obtain ⟨he13, g2, x2, rfl, hg2, hx2⟩ := hq
      refine L.op rfl rfl (O.move rfl (L.op rfl rfl (O.extract rfl rfl (L.op rfl rfl (O.extract rfl rfl (L.op rfl rfl (O.extract rfl rfl (L.op rfl rfl (O.extract rfl rfl (L.op rfl rfl (O.assign rfl (L.op rfl rfl (O.assign rfl (L.op rfl rfl (O.assign rfl (L.op rfl rfl (O.assign rfl (L.nil (T.seq (T.region (L.op rfl rfl (O.loadAgg Tryd.isAgg32 Tryd.sizeOf32 rfl rfl (((hC11.ext he12).ext he13).row) (L.op rfl rfl (O.move rfl (L.op rfl rfl (O.move rfl (L.op rfl rfl (O.andNot_u64 rfl rfl hs64 hpt rfl rfl (L.op rfl rfl (O.call (xs := [.tmp 75, .tmp 78]) Tryd.call11 rfl rfl (Total_calls w0.heap.size r (s &&& (18446744073709551615 - pt)) w13 ((hr11.ext he12).ext he13) (and_lt _ hs64)) (fun v14 w14 hq => ?_)))))))))))))))))))))))))))))))
      obtain ⟨he14, g3, x3, rfl, hg3, hx3⟩ := hq
      have hC14 := ((hC11.ext he12).ext he13).ext he14
      have hg1' := Ints.ext (Ints.ext hg1 he13) he14
      have hx1' := Ints.ext (Ints.ext hx1 he13) he14
      have hg2' := Ints.ext hg2 he14
      have hx2' := Ints.ext hx2 he14
      have hTb := hT.p1
      have hTpb := hTp.p1
      have hTqb := hTq.p1
      have hTp0 := hTp.p0
      have hTq0 := hTq.p0
      refine L.op rfl rfl (O.move rfl (L.op rfl rfl (O.extract rfl rfl (L.op rfl rfl (O.extract rfl rfl (L.op rfl rfl (O.extract rfl rfl (L.op rfl rfl (O.extract rfl rfl (L.op rfl rfl (O.assign rfl (L.op rfl rfl (O.assign rfl (L.op rfl rfl (O.assign rfl (L.op rfl rfl (O.assign rfl (L.nil (T.seq (T.seq (T.region (L.op rfl rfl (O.move rfl (L.op rfl rfl (O.neq_f rfl rfl hT.err (L.op rfl rfl (O.move rfl (L.op rfl rfl (O.move rfl (L.op rfl rfl (O.neq_f rfl rfl hTp.err (L.op rfl rfl (O.pick_false rfl rfl (L.op rfl rfl (O.move rfl (L.op rfl rfl (O.move rfl (L.op rfl rfl (O.neq_f rfl rfl hTq.err (L.op rfl rfl (O.pick_false rfl rfl (L.op rfl rfl (O.move rfl (?_))))))))))))))))))))))))))))))))))))))))))))
      refine L.op rfl rfl (O.move rfl (L.op rfl rfl (O.move rfl (L.op rfl rfl (O.move rfl (L.op rfl rfl (O.add64 rfl rfl (by omega) (L.op rfl rfl (O.neq_f rfl rfl hA (L.op rfl rfl (O.pick_false rfl rfl (L.op rfl rfl (O.move rfl (L.op rfl rfl (O.move rfl (L.op rfl rfl (O.lss_f rfl rfl (by omega) (L.op rfl rfl (O.pick_false rfl rfl (L.op rfl rfl (O.move rfl (L.op rfl rfl (O.move rfl (L.op rfl rfl (O.lss_f rfl rfl (by omega) (L.op rfl rfl (O.pick_false rfl rfl (L.op rfl rfl (O.move rfl (L.op rfl rfl (O.move rfl (L.op rfl rfl (O.len Tryd.runUnderlying37 rfl (Sl.val hg1') (L.op rfl rfl (O.fieldAddr Tryd.runUnderlying32 rfl Tryd.sizeOf3 rfl (L.op rfl rfl (O.load Tryd.isAgg3 rfl (hC14.cell rfl) (L.op rfl rfl (O.neq_f rfl rfl (by rw [hT.gl, hG]) (L.op rfl rfl (O.pick_false rfl rfl (L.op rfl rfl (O.move rfl (L.op rfl rfl (O.move rfl (L.op rfl rfl (O.len Tryd.runUnderlying37 rfl (Sl.val hg2') (?_))))))))))))))))))))))))))))))))))))))))))))))))
      refine L.op rfl rfl (O.fieldAddr Tryd.runUnderlying32 rfl Tryd.sizeOf3 rfl (L.op rfl rfl (O.load Tryd.isAgg3 rfl (hC14.cell rfl) (L.op rfl rfl (O.neq_f rfl rfl (by rw [hTp.gl, hG]) (L.op rfl rfl (O.pick_false rfl rfl (L.op rfl rfl (O.move rfl (L.op rfl rfl (O.move rfl (L.op rfl rfl (O.len Tryd.runUnderlying37 rfl (Sl.val hg3) (L.op rfl rfl (O.fieldAddr Tryd.runUnderlying32 rfl Tryd.sizeOf3 rfl (L.op rfl rfl (O.load Tryd.isAgg3 rfl (hC14.cell rfl) (L.op rfl rfl (O.neq_f rfl rfl (by rw [hTq.gl, hG]) (L.op rfl rfl (O.pick_false rfl rfl (L.op rfl rfl (O.move rfl (L.op rfl rfl (O.move rfl (L.op rfl rfl (O.len Tryd.runUnderlying37 rfl (Sl.val hx1') (L.op rfl rfl (O.fieldAddr Tryd.runUnderlying32 rfl Tryd.sizeOf3 rfl (L.op rfl rfl (O.load Tryd.isAgg3 rfl (hC14.cell rfl) (L.op rfl rfl (O.neq_f rfl rfl (by rw [hT.vl, hP]) (L.op rfl rfl (O.pick_false rfl rfl (L.op rfl rfl (O.move rfl (L.op rfl rfl (O.move rfl (L.op rfl rfl (O.len Tryd.runUnderlying37 rfl (Sl.val hx2') (L.op rfl rfl (O.fieldAddr Tryd.runUnderlying32 rfl Tryd.sizeOf3 rfl (L.op rfl rfl (O.load Tryd.isAgg3 rfl (hC14.cell rfl) (L.op rfl rfl (O.neq_f rfl rfl (by rw [hTp.vl, hP]) (?_))))))))))))))))))))))))))))))))))))))))))))))))
      refine L.op rfl rfl (O.pick_false rfl rfl (L.op rfl rfl (O.move rfl (L.op rfl rfl (O.move rfl (L.op rfl rfl (O.len Tryd.runUnderlying37 rfl (Sl.val hx3) (L.op rfl rfl (O.fieldAddr Tryd.runUnderlying32 rfl Tryd.sizeOf3 rfl (L.op rfl rfl (O.load Tryd.isAgg3 rfl (hC14.cell rfl) (L.op rfl rfl (O.neq_f rfl rfl (by rw [hTq.vl, hP]) (L.op rfl rfl (O.pick_false rfl rfl (L.nil (T.cond_false rfl (T.skip (T.seq (T.seq (T.region (L.op rfl rfl (O.move rfl (L.op rfl rfl (O.len Tryd.runUnderlying37 rfl (Sl.val hg1') (?_))))))))))))))))))))))))))
      rw [hT.gl]
      refine L.op rfl rfl (O.move rfl (L.nil (T.block (?_))))
      refine T.loop (σ := Nat) (fun k => [(2, .int .u64 set), (3, .int .u64 pt), (10, .pointer (some ⟨b9, 0, none⟩)), (15, g1), (16, x1), (18, .int .i64 (totP r (s &&& pt))), (19, g2), (20, x2), (23, g3), (24, x3), (32, .agg (r0.cells ++ r1.cells ++ r2.cells).toArray), (33, .int .i64 i), (152, .int .i64 G), (153, .int .i64 k)]) (fun k w' => k ≤ G ∧ Ext w14 w') (fun k => G - k) (0) ⟨rfl, rfl, rfl, rfl, rfl, rfl, rfl, rfl, rfl, rfl, rfl, rfl, rfl, rfl, trivial⟩ ⟨Nat.zero_le _, Keep.refl _ _⟩ ?_
      rintro k w15 ⟨hk, he15⟩
      refine T.seq (T.region (L.op rfl rfl (O.lss_s rfl rfl (fun hlk => ?_) (fun hlk => ?_))))
      · refine L.nil (?_)
        have hlk' : k < G := by omega
        have q1 := hAg k hlk'
        have q2 := hTp.g k hlk'
        have q3 := hTq.g k hlk'
        have l1 := hT.gl
        have l2 := hTp.gl
        have l3 := hTq.gl
        have hg1k := Ints.ext hg1' he15
        have hg2k := Ints.ext hg2' he15
        have hg3k := Ints.ext hg3 he15
        refine T.seq (T.cond_true rfl (T.skip (T.seq (T.block (T.seq (T.region (L.op rfl rfl (O.move rfl (L.op rfl rfl (O.assign rfl (L.nil (T.seq (?_)))))))))))))
        refine T.anyE mixed 27 [15, 26, 19, 23, 18] rfl [.is _, .is _, .is _, .is _, .is _, .is _, .is _, .is _, .is _, .is _, .is _, .is _, .is _, .is _, .is _, .is _, .is _, .is _, .is _, .is _, .is _, .is _, .is _, .is _, .is _, .is _, .is _] [[], [], [0, 1], [2], [], [], [4, 5], [6], [], [], [8, 9], [10], [7, 11], [3, 12], [13], [14], [14], [15, 16, 14], [17, 14], [18, 14], [14, 19], [20], [21], [21], [22, 23, 21], [24, 21], [21]] [[], [], [0, 1], [0, 1, 2], [], [], [4, 5], [4, 5, 6], [], [], [8, 9], [8, 9, 10], [4, 5, 6, 7, 8, 9, 10, 11], [0, 1, 2, 3, 4, 5, 6, 7, 8, 9, 10, 11, 12], [0, 1, 2, 3, 4, 5, 6, 7, 8, 9, 10, 11, 12, 13], [0, 1, 2, 3, 4, 5, 6, 7, 8, 9, 10, 11, 12, 13, 14], [0, 1, 2, 3, 4, 5, 6, 7, 8, 9, 10, 11, 12, 13, 14], [0, 1, 2, 3, 4, 5, 6, 7, 8, 9, 10, 11, 12, 13, 14, 15, 16], [0, 1, 2, 3, 4, 5, 6, 7, 8, 9, 10, 11, 12, 13, 14, 15, 16, 17], [0, 1, 2, 3, 4, 5, 6, 7, 8, 9, 10, 11, 12, 13, 14, 15, 16, 17, 18], [0, 1, 2, 3, 4, 5, 6, 7, 8, 9, 10, 11, 12, 13, 14, 15, 16, 17, 18, 19], [0, 1, 2, 3, 4, 5, 6, 7, 8, 9, 10, 11, 12, 13, 14, 15, 16, 17, 18, 19, 20], [0, 1, 2, 3, 4, 5, 6, 7, 8, 9, 10, 11, 12, 13, 14, 15, 16, 17, 18, 19, 20, 21], [0, 1, 2, 3, 4, 5, 6, 7, 8, 9, 10, 11, 12, 13, 14, 15, 16, 17, 18, 19, 20, 21], [0, 1, 2, 3, 4, 5, 6, 7, 8, 9, 10, 11, 12, 13, 14, 15, 16, 17, 18, 19, 20, 21, 22, 23], [0, 1, 2, 3, 4, 5, 6, 7, 8, 9, 10, 11, 12, 13, 14, 15, 16, 17, 18, 19, 20, 21, 22, 23, 24], [0, 1, 2, 3, 4, 5, 6, 7, 8, 9, 10, 11, 12, 13, 14, 15, 16, 17, 18, 19, 20, 21], [0, 1, 2, 3, 4, 5, 6, 7, 8, 9, 10, 11, 12, 13, 14, 15, 16, 17, 18, 19, 20, 21, 22, 23, 24, 25, 26], [0, 1, 2, 3, 4, 5, 6, 7, 8, 9, 10, 11, 12, 13, 14, 15, 16, 17, 18, 19, 20, 21, 22, 23, 24, 25, 26, 27]] (by kernel_rfl) (by kernel_rfl) rfl (by kernel_rfl) trivial ⟨fun wx hx => Ob.op rfl (O.move rfl ⟨Keep.refl _ _, rfl⟩),
            fun wx hx => Ob.op rfl (O.move rfl ⟨Keep.refl _ _, rfl⟩),
            fun wx hx => Ob.op rfl (O.indexAddr Tryd.runUnderlying37 Tryd.sizeOf3 rfl rfl (Ints.ext hg1k hx) (by omega) (by omega) ⟨Keep.refl _ _, rfl⟩),
            fun wx hx => Ob.op rfl (O.load Tryd.isAgg3 rfl (Ints.at (Ints.ext hg1k hx) (by omega)) ⟨Keep.refl _ _, rfl⟩),
            fun wx hx => Ob.op rfl (O.move rfl ⟨Keep.refl _ _, rfl⟩),
            fun wx hx => Ob.op rfl (O.move rfl ⟨Keep.refl _ _, rfl⟩),
            fun wx hx => Ob.op rfl (O.indexAddr Tryd.runUnderlying37 Tryd.sizeOf3 rfl rfl (Ints.ext hg2k hx) (by omega) (by omega) ⟨Keep.refl _ _, rfl⟩),
            fun wx hx => Ob.op rfl (O.load Tryd.isAgg3 rfl (Ints.at (Ints.ext hg2k hx) (by omega)) ⟨Keep.refl _ _, rfl⟩),
            fun wx hx => Ob.op rfl (O.move rfl ⟨Keep.refl _ _, rfl⟩),
            fun wx hx => Ob.op rfl (O.move rfl ⟨Keep.refl _ _, rfl⟩),
            fun wx hx => Ob.op rfl (O.indexAddr Tryd.runUnderlying37 Tryd.sizeOf3 rfl rfl (Ints.ext hg3k hx) (by omega) (by omega) ⟨Keep.refl _ _, rfl⟩),
            fun wx hx => Ob.op rfl (O.load Tryd.isAgg3 rfl (Ints.at (Ints.ext hg3k hx) (by omega)) ⟨Keep.refl _ _, rfl⟩),
            fun wx hx => Ob.op rfl (O.add64 rfl rfl (by omega) ⟨Keep.refl _ _, rfl⟩),
            fun wx hx => Ob.op rfl (O.neq_f rfl rfl q1 ⟨Keep.refl _ _, rfl⟩),
            fun wx hx => Ob.op rfl (O.move rfl ⟨Keep.refl _ _, rfl⟩),
            fun wx hx => Ob.op rfl (O.move rfl ⟨Keep.refl _ _, rfl⟩),
            fun wx hx => Ob.op rfl (O.move rfl ⟨Keep.refl _ _, rfl⟩),
            fun wx hx => Ob.op rfl (O.indexAddr Tryd.runUnderlying37 Tryd.sizeOf3 rfl rfl (Ints.ext hg2k hx) (by omega) (by omega) ⟨Keep.refl _ _, rfl⟩),
            fun wx hx => Ob.op rfl (O.load Tryd.isAgg3 rfl (Ints.at (Ints.ext hg2k hx) (by omega)) ⟨Keep.refl _ _, rfl⟩),
            fun wx hx => Ob.op rfl (O.lss_f rfl rfl (by omega) ⟨Keep.refl _ _, rfl⟩),
            fun wx hx => Ob.op rfl (O.pick_false rfl rfl ⟨Keep.refl _ _, rfl⟩),
            fun wx hx => Ob.op rfl (O.move rfl ⟨Keep.refl _ _, rfl⟩),
            fun wx hx => Ob.op rfl (O.move rfl ⟨Keep.refl _ _, rfl⟩),
            fun wx hx => Ob.op rfl (O.move rfl ⟨Keep.refl _ _, rfl⟩),
            fun wx hx => Ob.op rfl (O.indexAddr Tryd.runUnderlying37 Tryd.sizeOf3 rfl rfl (Ints.ext hg2k hx) (by omega) (by omega) ⟨Keep.refl _ _, rfl⟩),
            fun wx hx => Ob.op rfl (O.load Tryd.isAgg3 rfl (Ints.at (Ints.ext hg2k hx) (by omega)) ⟨Keep.refl _ _, rfl⟩),
            fun wx hx => Ob.op rfl (O.move rfl ⟨Keep.refl _ _, rfl⟩),
            trivial⟩ (fun w16 he16 => ?_)
        refine L.op rfl rfl (O.gtr_f rfl rfl (by omega) (L.op rfl rfl (O.pick_false rfl rfl (L.nil (T.cond_false rfl (T.skip (T.blk (T.region (L.op rfl rfl (O.add64 rfl rfl (by omega) (L.op rfl rfl (O.move rfl (L.nil (T.again (k + 1) (by omega) ⟨rfl, rfl, rfl, rfl, rfl, rfl, rfl, rfl, rfl, rfl, rfl, rfl, rfl, rfl, trivial⟩ ⟨by omega, he15.trans he16⟩))))))))))))))
      · refine L.nil (?_)
        have hx1k := Ints.ext hx1' he15
        refine T.seq (T.cond_false rfl (T.exit rfl (T.seq (T.seq (T.region (L.op rfl rfl (O.move rfl (L.op rfl rfl (O.len Tryd.runUnderlying37 rfl (Sl.val hx1k) (?_))))))))))
        rw [hT.vl]
        refine L.op rfl rfl (O.move rfl (L.nil (T.block (?_))))
        refine T.loop (σ := Nat) (fun k => [(2, .int .u64 set), (3, .int .u64 pt), (10, .pointer (some ⟨b9, 0, none⟩)), (16, x1), (20, x2), (24, x3), (32, .agg (r0.cells ++ r1.cells ++ r2.cells).toArray), (33, .int .i64 i), (187, .int .i64 Pn), (188, .int .i64 k)]) (fun k w' => k ≤ Pn ∧ Ext w14 w') (fun k => Pn - k) (0) ⟨rfl, rfl, rfl, rfl, rfl, rfl, rfl, rfl, rfl, rfl, trivial⟩ ⟨Nat.zero_le _, he15⟩ ?_
        rintro k w17 ⟨hk, he17⟩
        refine T.seq (T.region (L.op rfl rfl (O.lss_s rfl rfl (fun hlq => ?_) (fun hlq => ?_))))
        · refine L.nil (?_)
          have hlk' : k < Pn := by omega
          have q1 := hAv k hlk'
          have q2 := hTp.v k hlk'
          have q3 := hTq.v k hlk'
          have l1 := hT.vl
          have l2 := hTp.vl
          have l3 := hTq.vl
          have hg1k := Ints.ext hx1' he17
          have hg2k := Ints.ext hx2' he17
          have hg3k := Ints.ext hx3 he17
          refine T.seq (T.cond_true rfl (T.skip (T.seq (T.block (T.seq (T.region (L.op rfl rfl (O.move rfl (L.op rfl rfl (O.assign rfl (L.nil (T.seq (?_)))))))))))))
          refine T.anyE mixed 13 [16, 27, 20, 24] rfl [.is _, .is _, .is _, .is _, .is _, .is _, .is _, .is _, .is _, .is _, .is _, .is _, .is _] [[], [], [0, 1], [2], [], [], [4, 5], [6], [], [], [8, 9], [10], [7, 11]] [[], [], [0, 1], [0, 1, 2], [], [], [4, 5], [4, 5, 6], [], [], [8, 9], [8, 9, 10], [4, 5, 6, 7, 8, 9, 10, 11], [0, 1, 2, 3, 4, 5, 6, 7, 8, 9, 10, 11, 12]] (by kernel_rfl) (by kernel_rfl) rfl (by kernel_rfl) trivial ⟨fun wx hx => Ob.op rfl (O.move rfl ⟨Keep.refl _ _, rfl⟩),
              fun wx hx => Ob.op rfl (O.move rfl ⟨Keep.refl _ _, rfl⟩),
              fun wx hx => Ob.op rfl (O.indexAddr Tryd.runUnderlying37 Tryd.sizeOf3 rfl rfl (Ints.ext hg1k hx) (by omega) (by omega) ⟨Keep.refl _ _, rfl⟩),
              fun wx hx => Ob.op rfl (O.load Tryd.isAgg3 rfl (Ints.at (Ints.ext hg1k hx) (by omega)) ⟨Keep.refl _ _, rfl⟩),
              fun wx hx => Ob.op rfl (O.move rfl ⟨Keep.refl _ _, rfl⟩),
              fun wx hx => Ob.op rfl (O.move rfl ⟨Keep.refl _ _, rfl⟩),
              fun wx hx => Ob.op rfl (O.indexAddr Tryd.runUnderlying37 Tryd.sizeOf3 rfl rfl (Ints.ext hg2k hx) (by omega) (by omega) ⟨Keep.refl _ _, rfl⟩),
              fun wx hx => Ob.op rfl (O.load Tryd.isAgg3 rfl (Ints.at (Ints.ext hg2k hx) (by omega)) ⟨Keep.refl _ _, rfl⟩),
              fun wx hx => Ob.op rfl (O.move rfl ⟨Keep.refl _ _, rfl⟩),
              fun wx hx => Ob.op rfl (O.move rfl ⟨Keep.refl _ _, rfl⟩),
              fun wx hx => Ob.op rfl (O.indexAddr Tryd.runUnderlying37 Tryd.sizeOf3 rfl rfl (Ints.ext hg3k hx) (by omega) (by omega) ⟨Keep.refl _ _, rfl⟩),
              fun wx hx => Ob.op rfl (O.load Tryd.isAgg3 rfl (Ints.at (Ints.ext hg3k hx) (by omega)) ⟨Keep.refl _ _, rfl⟩),
              fun wx hx => Ob.op rfl (O.add64 rfl rfl (by omega) ⟨Keep.refl _ _, rfl⟩),
              trivial⟩ (fun w18 he18 => ?_)
          refine L.op rfl rfl (O.neq_f rfl rfl q1 (L.nil (T.cond_false rfl (T.skip (T.blk (T.region (L.op rfl rfl (O.add64 rfl rfl (by omega) (L.op rfl rfl (O.move rfl (L.nil (T.again (k + 1) (by omega) ⟨rfl, rfl, rfl, rfl, rfl, rfl, rfl, rfl, rfl, rfl, trivial⟩ ⟨by omega, he17.trans he18⟩))))))))))))
        · refine L.nil (?_)
          have hC17 := hC14.ext he17
          have hr17 := (((hr11.ext he12).ext he13).ext he14).ext he17
          refine T.seq (T.cond_false rfl (T.exit rfl (T.seq (?_))))
          refine T.anyE mixed 7 [10] rfl [.is _, .is _, .is _, .such (MadeZ 0 G), .is _, .is _, .such (MadeZ 0 Pn)] [[], [], [1], [2], [], [4], [5]] [[], [], [1], [1, 2], [], [4], [4, 5], [0, 1, 2, 3, 4, 5, 6], [0, 1, 2, 3, 4, 5, 6, 7]] (by kernel_rfl) (by kernel_rfl) rfl (by kernel_rfl) ⟨MadeZ.st, MadeZ.st, trivial⟩ ⟨fun wx hx => Ob.op rfl (O.loadAgg Tryd.isAgg32 Tryd.sizeOf32 rfl rfl ((hC17.ext hx).row) ⟨Keep.refl _ _, rfl⟩),
              fun wx hx => Ob.op rfl (O.fieldAddr Tryd.runUnderlying32 rfl Tryd.sizeOf3 rfl ⟨Keep.refl _ _, rfl⟩),
              fun wx hx => Ob.op rfl (O.load Tryd.isAgg3 rfl ((hC17.ext hx).cell rfl) ⟨Keep.refl _ _, rfl⟩),
              fun wx hx => Ob.op rfl (O.makeSlice Tryd.runUnderlying37 Tryd.typeInfo3 Tryd.sizeOf3 Tryd.zeroValue3 rfl rfl hG (by show G * 8 ≤ _; omega) (by omega) (fun b3 w3 hb3 hz3 he3 hB3 => ⟨he3, b3, Nat.zero_le _, rfl, hB3⟩)),
              fun wx hx => Ob.op rfl (O.fieldAddr Tryd.runUnderlying32 rfl Tryd.sizeOf3 rfl ⟨Keep.refl _ _, rfl⟩),
              fun wx hx => Ob.op rfl (O.load Tryd.isAgg3 rfl ((hC17.ext hx).cell rfl) ⟨Keep.refl _ _, rfl⟩),
              fun wx hx => Ob.op rfl (O.makeSlice Tryd.runUnderlying37 Tryd.typeInfo3 Tryd.sizeOf3 Tryd.zeroValue3 rfl rfl hP (by show Pn * 8 ≤ _; omega) (by omega) (fun b3 w3 hb3 hz3 he3 hB3 => ⟨he3, b3, Nat.zero_le _, rfl, hB3⟩)),
              trivial⟩ (fun w19 he19 v209 hv209 v212 hv212 => ?_)
          obtain ⟨bg, _, rfl, hBg⟩ := hv209
          obtain ⟨bv, _, rfl, hBv⟩ := hv212
          have hIg : Ints .i64 0 w19 (.slice (some ⟨bg, 0, none⟩) G G) (List.replicate G 0) := Ints.of_blk (by rw [List.map_replicate]; exact hBg) (by simp) (by unfold maxLen; omega) (Nat.zero_le _)
          have hIv : Ints .i64 0 w19 (.slice (some ⟨bv, 0, none⟩) Pn Pn) (List.replicate Pn 0) := Ints.of_blk (by rw [List.map_replicate]; exact hBv) (by simp) (by unfold maxLen; omega) (Nat.zero_le _)
          refine L.op rfl rfl (O.call (xs := [.tmp 206, .const (.int .u64 0), .const (.int .i64 0), .tmp 209, .tmp 212]) Tryd.call12 rfl rfl (totals_calls w0.heap.size 0 0 r 0 0 _ _ _ _ w19 (hr17.ext he19) (by decide) hIg hIv) (fun v20 w20 hq => ?_))
          obtain ⟨hv20, he20⟩ := hq
          rw [decide_eq_true (tot_zero h0n hG hP)] at hv20
          subst hv20
          refine L.op rfl rfl (O.not rfl (L.nil (T.cond_false rfl (T.skip (T.blk (T.region (L.op rfl rfl (O.add64 rfl rfl (by omega) (L.op rfl rfl (O.move rfl (L.nil (T.again (i + 1) (by omega) ⟨rfl, rfl, rfl, rfl, trivial⟩ ⟨by omega, ((he8.trans he810).trans ((he11.trans he12).trans (he13.trans he14))).trans ((he17.trans he19).trans he20)⟩))))))))))))
  · refine L.nil (T.seq (T.cond_false rfl (T.exit rfl (T.seq (T.region (L.op rfl rfl (O.assign rfl (L.nil (T.ret1 Tryd.results6 rfl ⟨rfl, he07.trans he8⟩)))))))))

end Go.Proofs.YtpgnaffcbbghgaaDoor
set_option linter.unusedVariables false
set_option linter.unusedSimpArgs false
set_option maxRecDepth 20000
namespace Go.Proofs.YtpgnaffcbbghgaaDoor
open Go Go.E
attribute [local irreducible] Go.E.T Go.E.L Go.E.O Go.E.Ob

/-! Counting bits. -/
theorem and_rec {j k y m : Nat} (hj : j ≤ k) : y &&& ((2 ^ j - 1) + 2 ^ k * m) = y % 2 ^ j + 2 ^ k * ((y / 2 ^ k) &&& m) := by
  apply Nat.eq_of_testBit_eq
  intro i
  have hjl : 2 ^ j ≤ 2 ^ k := Nat.pow_le_pow_right (by decide) hj
  have h1 : 2 ^ j - 1 < 2 ^ k := by have := Nat.pow_pos (n := j) (show 0 < 2 by decide); omega
  have h2 : y % 2 ^ j < 2 ^ k := Nat.lt_of_lt_of_le (Nat.mod_lt _ (Nat.pow_pos (by decide))) hjl
  rw [Nat.testBit_and, Nat.add_comm (2 ^ j - 1), Nat.testBit_two_pow_mul_add _ h1, Nat.add_comm (y % 2 ^ j), Nat.testBit_two_pow_mul_add _ h2]
  by_cases hi : i < k
  · rw [if_pos hi, if_pos hi, Nat.testBit_two_pow_sub_one, Nat.testBit_mod_two_pow, Bool.and_comm]
  · rw [if_neg hi, if_neg hi, Nat.testBit_and, Nat.testBit_div_two_pow, show i - k + k = i by omega]
/-- The sum of n digits of base B. -/
def digS (B : Nat) : Nat → Nat → Nat
  | 0, _ => 0
  | n + 1, y => y % B + digS B n (y / B)
/-- Every digit is at most m, and there are no more than n. -/
def Digs (B m : Nat) : Nat → Nat → Prop
  | 0, y => y = 0
  | n + 1, y => y % B ≤ m ∧ Digs B m n (y / B)
/-- Two digits of base 2^k beside each other, added. -/
def pairs (k : Nat) : Nat → Nat → Nat
  | 0, _ => 0
  | n + 1, y => (y % 2 ^ k + y / 2 ^ k % 2 ^ k) + 2 ^ (2 * k) * pairs k n (y / 2 ^ (2 * k))
def maskP (k : Nat) : Nat → Nat
  | 0 => 0
  | n + 1 => (2 ^ k - 1) + 2 ^ (2 * k) * maskP k n
theorem pow_dbl (k : Nat) : 2 ^ (2 * k) = 2 ^ k * 2 ^ k := by rw [← Nat.pow_add]; congr 1; omega
theorem pairs_and (k : Nat) : ∀ n y, (y / 2 ^ k &&& maskP k n) + (y &&& maskP k n) = pairs k n y
  | 0, y => by simp [maskP, pairs]
  | n + 1, y => by
    rw [maskP, and_rec (show k ≤ 2 * k by omega), and_rec (show k ≤ 2 * k by omega), pairs, ← pairs_and k n (y / 2 ^ (2 * k))]
    have e : y / 2 ^ k / 2 ^ (2 * k) = y / 2 ^ (2 * k) / 2 ^ k := by rw [Nat.div_div_eq_div_mul, Nat.div_div_eq_div_mul, Nat.mul_comm]
    rw [e, Nat.mul_add]; omega
theorem pairs_dig {k m : Nat} (hm : 2 * m < 2 ^ (2 * k)) : ∀ n y, Digs (2 ^ k) m (2 * n) y → Digs (2 ^ (2 * k)) (2 * m) n (pairs k n y) ∧ digS (2 ^ (2 * k)) n (pairs k n y) = digS (2 ^ k) (2 * n) y
  | 0, y, _ => ⟨rfl, rfl⟩
  | n + 1, y, h => by
    rw [show 2 * (n + 1) = 2 * n + 1 + 1 by omega] at h ⊢
    obtain ⟨h1, h2, h3⟩ := h
    rw [Nat.div_div_eq_div_mul, ← pow_dbl] at h3
    obtain ⟨i1, i2⟩ := pairs_dig hm n (y / 2 ^ (2 * k)) h3
    have hp : 0 < 2 ^ (2 * k) := Nat.pow_pos (by decide)
    have hlt : y % 2 ^ k + y / 2 ^ k % 2 ^ k < 2 ^ (2 * k) := by omega
    have e1 : (y % 2 ^ k + y / 2 ^ k % 2 ^ k + 2 ^ (2 * k) * pairs k n (y / 2 ^ (2 * k))) % 2 ^ (2 * k) = y % 2 ^ k + y / 2 ^ k % 2 ^ k := by rw [Nat.add_mul_mod_self_left, Nat.mod_eq_of_lt hlt]
    have e2 : (y % 2 ^ k + y / 2 ^ k % 2 ^ k + 2 ^ (2 * k) * pairs k n (y / 2 ^ (2 * k))) / 2 ^ (2 * k) = pairs k n (y / 2 ^ (2 * k)) := by rw [Nat.add_mul_div_left _ _ hp, Nat.div_eq_of_lt hlt, Nat.zero_add]
    constructor
    · show _ % _ ≤ _ ∧ Digs _ _ n (_ / _)
      rw [pairs, e1, e2]; exact ⟨by omega, i1⟩
    · show _ % _ + digS _ n (_ / _) = _ % _ + (_ % _ + digS _ (2 * n) (_ / _ / _))
      rw [pairs, e1, e2, i2, Nat.div_div_eq_div_mul, ← pow_dbl]; omega
theorem digs_two : ∀ n y, y < 2 ^ n → Digs 2 1 n y
  | 0, y, h => (by simpa using h : y = 0)
  | n + 1, y, h => ⟨by omega, digs_two n (y / 2) (by rw [Nat.pow_succ] at h; omega)⟩
/-- The third step: no digit of base 16 is more than 4. -/
def even16 : Nat → Nat → Nat
  | 0, _ => 0
  | n + 1, y => y % 16 + 256 * even16 n (y / 256)
def mask15 : Nat → Nat
  | 0 => 0
  | n + 1 => 15 + 256 * mask15 n
theorem even16_and : ∀ n y, y &&& mask15 n = even16 n y
  | 0, y => by simp [mask15, even16]
  | n + 1, y => by
    have := and_rec (j := 4) (k := 8) (y := y) (m := mask15 n) (by decide)
    rw [mask15, even16, ← even16_and n (y / 256)]
    exact this
theorem third : ∀ n z, Digs 16 4 (2 * n) z → Digs 256 8 n (even16 n (z / 16 + z)) ∧ digS 256 n (even16 n (z / 16 + z)) = digS 16 (2 * n) z
  | 0, z, _ => ⟨rfl, rfl⟩
  | n + 1, z, h => by
    rw [show 2 * (n + 1) = 2 * n + 1 + 1 by omega] at h ⊢
    obtain ⟨h1, h2, h3⟩ := h
    have hz : z / 16 / 16 = z / 256 := by omega
    rw [hz] at h3
    obtain ⟨i1, i2⟩ := third n (z / 256) h3
    have hd : z / 256 % 16 ≤ 4 := by
      cases n with
      | zero => have : z / 256 = 0 := h3; omega
      | succ n => exact h3.1
    have e0 : (z / 16 + z) % 16 = z % 16 + z / 16 % 16 := by omega
    have e1 : (z / 16 + z) / 256 = z / 256 / 16 + z / 256 := by omega
    have e2 : ∀ a, (z % 16 + z / 16 % 16 + 256 * a) % 256 = z % 16 + z / 16 % 16 := fun a => by omega
    have e3 : ∀ a, (z % 16 + z / 16 % 16 + 256 * a) / 256 = a := fun a => by omega
    constructor
    · show _ % _ ≤ _ ∧ Digs _ _ n (_ / _)
      rw [even16, e0, e1, e2, e3]; exact ⟨by omega, i1⟩
    · show _ % _ + digS _ n (_ / _) = _ % _ + (_ % _ + digS _ (2 * n) (_ / _ / _))
      rw [even16, e0, e1, e2, e3, hz, i2]; omega
/-- The last steps. -/
theorem div_lo {e d m : Nat} (he : e < m) : (e + m * d) / m = d ∧ (e + m * d) % m = e := by
  rw [Nat.add_mul_div_left _ _ (by omega), Nat.div_eq_of_lt he, Nat.add_mul_mod_self_left, Nat.mod_eq_of_lt he, Nat.zero_add]; exact ⟨rfl, rfl⟩
theorem ls1 {e0 e1 e2 e3 e4 e5 e6 e7 : Nat} : (e0 + 256 * (e1 + 256 * (e2 + 256 * (e3 + 256 * (e4 + 256 * (e5 + 256 * (e6 + 256 * (e7)))))))) + (e1 + 256 * (e2 + 256 * (e3 + 256 * (e4 + 256 * (e5 + 256 * (e6 + 256 * (e7))))))) = (e0 + e1 + 256 * (e1 + e2)) + 65536 * ((e2 + 256 * (e3 + 256 * (e4 + 256 * (e5 + 256 * (e6 + 256 * (e7)))))) + (e3 + 256 * (e4 + 256 * (e5 + 256 * (e6 + 256 * (e7)))))) := by omega
theorem ls2 {e0 e1 e2 : Nat} (h0 : e0 ≤ 8) (h1 : e1 ≤ 8) (h2 : e2 ≤ 8) : (e0 + e1 + 256 * (e1 + e2)) < 65536 := by omega
theorem ls3 {e0 e1 e2 e3 e4 e5 e6 e7 : Nat} : (e0 + e1 + 256 * (e1 + e2)) + 65536 * ((e2 + 256 * (e3 + 256 * (e4 + 256 * (e5 + 256 * (e6 + 256 * (e7)))))) + (e3 + 256 * (e4 + 256 * (e5 + 256 * (e6 + 256 * (e7)))))) + ((e2 + 256 * (e3 + 256 * (e4 + 256 * (e5 + 256 * (e6 + 256 * (e7)))))) + (e3 + 256 * (e4 + 256 * (e5 + 256 * (e6 + 256 * (e7)))))) = ((e0 + e1 + e2 + e3) + 256 * (e1 + e2 + e3 + e4) + 65536 * (e2 + e3 + e4 + e5) + 16777216 * (e3 + e4 + e5 + e6)) + 4294967296 * ((e4 + 256 * (e5 + 256 * (e6 + 256 * (e7)))) + (e5 + 256 * (e6 + 256 * (e7))) + (e6 + 256 * (e7)) + e7) := by omega
theorem ls4 {e0 e1 e2 e3 e4 e5 e6 : Nat} (h0 : e0 ≤ 8) (h1 : e1 ≤ 8) (h2 : e2 ≤ 8) (h3 : e3 ≤ 8) (h4 : e4 ≤ 8) (h5 : e5 ≤ 8) (h6 : e6 ≤ 8) : ((e0 + e1 + e2 + e3) + 256 * (e1 + e2 + e3 + e4) + 65536 * (e2 + e3 + e4 + e5) + 16777216 * (e3 + e4 + e5 + e6)) < 4294967296 := by omega
theorem ls5 {e0 e1 e2 e3 e4 e5 e6 e7 : Nat} : ∃ q, ((e0 + e1 + e2 + e3) + 256 * (e1 + e2 + e3 + e4) + 65536 * (e2 + e3 + e4 + e5) + 16777216 * (e3 + e4 + e5 + e6)) + 4294967296 * ((e4 + 256 * (e5 + 256 * (e6 + 256 * (e7)))) + (e5 + 256 * (e6 + 256 * (e7))) + (e6 + 256 * (e7)) + e7) + ((e4 + 256 * (e5 + 256 * (e6 + 256 * (e7)))) + (e5 + 256 * (e6 + 256 * (e7))) + (e6 + 256 * (e7)) + e7) = (e0 + (e1 + (e2 + (e3 + (e4 + (e5 + (e6 + e7))))))) + 128 * q :=
  ⟨2 * ((e1 + e2 + e3 + e4) + 256 * (e2 + e3 + e4 + e5) + 65536 * (e3 + e4 + e5 + e6) + 16777216 * ((e4 + 256 * (e5 + 256 * (e6 + 256 * (e7)))) + (e5 + 256 * (e6 + 256 * (e7))) + (e6 + 256 * (e7)) + e7) + ((e5 + 256 * (e6 + 256 * (e7))) + (e6 + 256 * (e7)) + e7)), by omega⟩
theorem ls6 {e4 e5 e6 e7 : Nat} (h4 : e4 ≤ 8) (h5 : e5 ≤ 8) (h6 : e6 ≤ 8) (h7 : e7 ≤ 8) (l : Nat) (hl : l < 4294967296) : l + 4294967296 * ((e4 + 256 * (e5 + 256 * (e6 + 256 * (e7)))) + (e5 + 256 * (e6 + 256 * (e7))) + (e6 + 256 * (e7)) + e7) + ((e4 + 256 * (e5 + 256 * (e6 + 256 * (e7)))) + (e5 + 256 * (e6 + 256 * (e7))) + (e6 + 256 * (e7)) + e7) < 9223372036854775808 := by omega
theorem last_e {e0 e1 e2 e3 e4 e5 e6 e7 : Nat} (h0 : e0 ≤ 8) (h1 : e1 ≤ 8) (h2 : e2 ≤ 8) (h3 : e3 ≤ 8) (h4 : e4 ≤ 8) (h5 : e5 ≤ 8) (h6 : e6 ≤ 8) (h7 : e7 ≤ 8) {v a b c : Nat} (hv : v = e0 + 256 * (e1 + 256 * (e2 + 256 * (e3 + 256 * (e4 + 256 * (e5 + 256 * (e6 + 256 * (e7)))))))) (ha : a = v + v / 256) (hb : b = a + a / 65536) (hc : c = b + b / 4294967296) : c % 128 = e0 + (e1 + (e2 + (e3 + (e4 + (e5 + (e6 + e7)))))) ∧ c < 9223372036854775808 := by
  have k1 : v / 256 = e1 + 256 * (e2 + 256 * (e3 + 256 * (e4 + 256 * (e5 + 256 * (e6 + 256 * (e7)))))) := by rw [hv]; exact (div_lo (Nat.lt_of_le_of_lt h0 (by decide))).1
  rw [k1, hv] at ha
  have ka := ha.trans ls1
  have k2 : a / 65536 = ((e2 + 256 * (e3 + 256 * (e4 + 256 * (e5 + 256 * (e6 + 256 * (e7)))))) + (e3 + 256 * (e4 + 256 * (e5 + 256 * (e6 + 256 * (e7)))))) := by rw [ka]; exact (div_lo (ls2 h0 h1 h2)).1
  rw [k2, ka] at hb
  have kb := hb.trans ls3
  have k3 : b / 4294967296 = ((e4 + 256 * (e5 + 256 * (e6 + 256 * (e7)))) + (e5 + 256 * (e6 + 256 * (e7))) + (e6 + 256 * (e7)) + e7) := by rw [kb]; exact (div_lo (ls4 h0 h1 h2 h3 h4 h5 h6)).1
  rw [k3, kb] at hc
  obtain ⟨q, hq⟩ := @ls5 e0 e1 e2 e3 e4 e5 e6 e7
  refine ⟨?_, by rw [hc]; exact ls6 h4 h5 h6 h7 _ (ls4 h0 h1 h2 h3 h4 h5 h6)⟩
  rw [hc, hq, Nat.add_mul_mod_self_left, Nat.mod_eq_of_lt]
  clear hc hq k3 kb hb k2 ka ha k1 hv
  omega
theorem last_sum {v a b c : Nat} (h : Digs 256 8 8 v) (ha : a = v + v / 256) (hb : b = a + a / 65536) (hc : c = b + b / 4294967296) : c % 128 = digS 256 8 v ∧ c < 9223372036854775808 := by
  obtain ⟨h0, h1, h2, h3, h4, h5, h6, h7, h8⟩ := h
  have w0 := Nat.mod_add_div v 256
  have w1 := Nat.mod_add_div (v / 256) 256
  have w2 := Nat.mod_add_div (v / 256 / 256) 256
  have w3 := Nat.mod_add_div (v / 256 / 256 / 256) 256
  have w4 := Nat.mod_add_div (v / 256 / 256 / 256 / 256) 256
  have w5 := Nat.mod_add_div (v / 256 / 256 / 256 / 256 / 256) 256
  have w6 := Nat.mod_add_div (v / 256 / 256 / 256 / 256 / 256 / 256) 256
  have w7 := Nat.mod_add_div (v / 256 / 256 / 256 / 256 / 256 / 256 / 256) 256
  have h8' : v / 256 / 256 / 256 / 256 / 256 / 256 / 256 / 256 = 0 := h8
  rw [h8', Nat.mul_zero, Nat.add_zero] at w7
  exact last_e h0 h1 h2 h3 h4 h5 h6 h7 (by rw [w7, w6, w5, w4, w3, w2, w1, w0]) ha hb hc
theorem idxs_front (x : Nat) : ∀ n, idxs x (n + 1) = (if x.testBit 0 then [0] else []) ++ (idxs (x / 2) n).map (· + 1) := fun n => by
  unfold idxs
  rw [List.range_succ_eq_map, List.filter_cons]
  have e : ((List.range n).map Nat.succ).filter x.testBit = ((List.range n).filter (x / 2).testBit).map (· + 1) := by
    rw [List.filter_map]
    congr 1
    apply List.filter_congr
    intro i _
    simp [Function.comp, Nat.testBit_succ]
  rw [e]
  split <;> simp
def popc (x : Nat) : Nat := (idxs x 64).length
theorem digS_two : ∀ n x, digS 2 n x = (idxs x n).length
  | 0, _ => rfl
  | n + 1, x => by
    rw [idxs_front, List.length_append, List.length_map, ← digS_two n (x / 2)]
    show x % 2 + _ = _
    have : x.testBit 0 = decide (x % 2 = 1) := Nat.testBit_zero x
    rw [this]
    rcases Nat.mod_two_eq_zero_or_one x with h | h <;> simp [h]
theorem digs_le {B m : Nat} (hB : 0 < B) (hm : m < B) : ∀ n y, Digs B m n y → y < B ^ n
  | 0, y, h => by have : y = 0 := h; simp [this]
  | n + 1, y, h => by
    have ih := digs_le hB hm n (y / B) h.2
    have := Nat.div_add_mod y B
    have h1 := h.1
    rw [Nat.pow_succ, Nat.mul_comm]
    have : B * (y / B) + B ≤ B * B ^ n := by rw [← Nat.mul_succ]; exact Nat.mul_le_mul_left _ ih
    omega
/-- The count of the bits, step by step. -/
theorem ones_steps {x : Nat} (hx : x < 18446744073709551616) : ∃ x1 x2 x3 x4 x5 x6 : Nat,
    ((x / 2 &&& 6148914691236517205) + (x &&& 6148914691236517205) = x1 ∧ x1 < 18446744073709551616) ∧ ((x1 / 4 &&& 3689348814741910323) + (x1 &&& 3689348814741910323) = x2 ∧ x2 < 18446744073709551616) ∧
    (x2 / 16 + x2 < 18446744073709551616 ∧ (x2 / 16 + x2) &&& 1085102592571150095 = x3 ∧ x3 < 18446744073709551616) ∧ (x3 + x3 / 256 = x4 ∧ x4 < 18446744073709551616) ∧ (x4 + x4 / 65536 = x5 ∧ x5 < 18446744073709551616) ∧ (x5 + x5 / 4294967296 = x6 ∧ x6 < 9223372036854775808) ∧ x6 % 128 = popc x := by
  have hd : Digs 2 1 64 x := digs_two 64 x hx
  have m1 : maskP 1 32 = 6148914691236517205 := by decide
  have m2 : maskP 2 16 = 3689348814741910323 := by decide
  have m3 : mask15 8 = 1085102592571150095 := by decide
  obtain ⟨d1, s1⟩ := pairs_dig (k := 1) (m := 1) (by decide) 32 x hd
  have e1 := pairs_and 1 32 x
  rw [m1] at e1
  obtain ⟨d2, s2⟩ := pairs_dig (k := 2) (m := 2) (by decide) 16 (pairs 1 32 x) d1
  have e2 := pairs_and 2 16 (pairs 1 32 x)
  rw [m2] at e2
  obtain ⟨d3, s3⟩ := third 8 (pairs 2 16 (pairs 1 32 x)) d2
  have e3 := even16_and 8 (pairs 2 16 (pairs 1 32 x) / 16 + pairs 2 16 (pairs 1 32 x))
  rw [m3] at e3
  obtain ⟨l1, l2⟩ := last_sum d3 rfl rfl rfl
  have b1 := digs_le (by decide) (by decide) _ _ d1
  have b2 := digs_le (by decide) (by decide) _ _ d2
  have b3 := digs_le (by decide) (by decide) _ _ d3
  have q1 : ((2 : Nat) ^ (2 * 1)) ^ 32 = 18446744073709551616 := by decide
  have q2 : ((2 : Nat) ^ (2 * 2)) ^ 16 = 18446744073709551616 := by decide
  have q3 : (256 : Nat) ^ 8 = 18446744073709551616 := by decide
  rw [q1] at b1
  rw [q2] at b2
  rw [q3] at b3
  have hdz : pairs 2 16 (pairs 1 32 x) ≤ 4919131752989213764 := by
    have : ∀ n y, Digs 16 4 n y → y * 15 ≤ 4 * (16 ^ n - 1) := by
      intro n
      induction n with
      | zero => intro y h; have : y = 0 := h; simp [this]
      | succ n ih =>
        intro y h
        have i1 := ih (y / 16) h.2
        have i2 := h.1
        have hp : 0 < 16 ^ n := Nat.pow_pos (by decide)
        rw [Nat.pow_succ]; omega
    have := this 16 _ d2
    have e16 : (16 : Nat) ^ 16 = 18446744073709551616 := by decide
    rw [e16] at this; omega
  refine ⟨_, _, _, _, _, _, ⟨e1, b1⟩, ⟨e2, b2⟩, ⟨by omega, e3, b3⟩, ⟨rfl, by omega⟩, ⟨rfl, by omega⟩, ⟨rfl, l2⟩, ?_⟩
  rw [l1, s3]
  refine (s2.trans s1).trans ?_
  rw [show (2 : Nat) ^ 1 = 2 from rfl, digS_two]; rfl
theorem popc_le (x : Nat) : popc x ≤ 64 := idxs_len x 64
theorem O.addN {C : Cx} {e : Env} {w : World} {K : Value → World → Prop} {d : Option Tmp} {ty : TypeId} {pos : String} {aft : Array Edge} {g : Option (Nat × Bool)} {x y : Operand} {tx ty' : TypeId} {a b c : Nat} (hx : ev e x = some (.int .u64 (a : Nat))) (hy : ev e y = some (.int .u64 (b : Nat))) (hc : a + b = c) (hl : c < 18446744073709551616) (h : K (.int .u64 (c : Nat)) w) : O C e ⟨d, .binOp .add tx x y ty', ty, pos, aft, g⟩ w K :=
  O.add hx hy (by rw [show (a : Int) + (b : Int) = (c : Int) by omega, IntWalk.u64_in _ ⟨by omega, by omega⟩]; exact h)
theorem Ones_calls (x : Nat) (w : World) (hx : x < 18446744073709551616) :
    Calls Tryd.prog 26 #[.int .u64 x] w (Ret fun v w' => v = .int .i64 (popc x) ∧ w' = w) := by
  obtain ⟨x1, x2, x3, x4, x5, x6, ⟨e1, b1⟩, ⟨e2, b2⟩, ⟨b3', e3, b3⟩, ⟨e4, b4⟩, ⟨e5, b5⟩, ⟨e6, b6⟩, e7⟩ := ones_steps hx
  refine T.enter (vs := [.int .u64 x]) Tryd.func26 rfl Tryd.ntmps26 rfl ?_
  refine T.seq (T.region (L.op rfl rfl (O.assign rfl (L.nil (T.seq (T.region (L.op rfl rfl (O.move rfl (L.op rfl rfl (O.shr_u64 rfl rfl rfl hx (by omega) (L.op rfl rfl (O.and_u64 (a := x / 2) (b := 6148914691236517205) rfl rfl (by omega) (by decide) rfl rfl (L.op rfl rfl (O.move rfl (L.op rfl rfl (O.and_u64 (b := 6148914691236517205) rfl rfl hx (by decide) rfl rfl (L.op rfl rfl (O.addN (c := x1) rfl rfl e1 b1 (L.op rfl rfl (O.assign rfl (L.nil (T.seq (T.region (L.op rfl rfl (O.move rfl (L.op rfl rfl (O.shr_u64 rfl rfl rfl b1 (by omega) (L.op rfl rfl (O.and_u64 (a := x1 / 4) (b := 3689348814741910323) rfl rfl (by omega) (by decide) rfl rfl (L.op rfl rfl (O.move rfl (L.op rfl rfl (O.and_u64 (b := 3689348814741910323) rfl rfl b1 (by decide) rfl rfl (L.op rfl rfl (O.addN (c := x2) rfl rfl e2 b2 (L.op rfl rfl (O.assign rfl (L.nil (?_)))))))))))))))))))))))))))))))))))))))
  refine T.seq (T.region (L.op rfl rfl (O.move rfl (L.op rfl rfl (O.shr_u64 rfl rfl rfl b2 (by omega) (L.op rfl rfl (O.move rfl (L.op rfl rfl (O.addN (c := (x2 / 16 + x2)) rfl rfl rfl b3' (L.op rfl rfl (O.and_u64 (b := 1085102592571150095) rfl rfl b3' (by decide) rfl rfl (?_))))))))))))
  rw [e3]
  refine L.op rfl rfl (O.assign rfl (L.nil (T.seq (T.region (L.op rfl rfl (O.move rfl (L.op rfl rfl (O.move rfl (L.op rfl rfl (O.shr_u64 rfl rfl rfl b3 (by omega) (L.op rfl rfl (O.addN (c := x4) rfl rfl ((Nat.add_comm _ _).trans (by rw [Nat.add_comm]; exact e4)) b4 (L.op rfl rfl (O.assign rfl (L.nil (T.seq (T.region (L.op rfl rfl (O.move rfl (L.op rfl rfl (O.move rfl (L.op rfl rfl (O.shr_u64 rfl rfl rfl b4 (by omega) (L.op rfl rfl (O.addN (c := x5) rfl rfl ((Nat.add_comm _ _).trans (by rw [Nat.add_comm]; exact e5)) b5 (L.op rfl rfl (O.assign rfl (L.nil (T.seq (T.region (L.op rfl rfl (O.move rfl (L.op rfl rfl (O.move rfl (L.op rfl rfl (O.shr_u64 rfl rfl rfl b5 (by omega) (L.op rfl rfl (O.addN (c := x6) rfl rfl ((Nat.add_comm _ _).trans (by rw [Nat.add_comm]; exact e6)) (by omega) (?_)))))))))))))))))))))))))))))))))))))))
  refine L.op rfl rfl (O.assign rfl (L.nil (T.seq (T.region (L.op rfl rfl (O.move rfl (L.op rfl rfl (O.conv_to rfl (fun w => ⟨_, Tryd.runUnderlying28 w⟩) Tryd.runUnderlying3 (IntWalk.i64_in _ ⟨by omega, by omega⟩) (L.op rfl rfl (O.and_i64 rfl rfl (b := 127) rfl rfl (by omega) (by decide) (L.op rfl rfl (O.assign rfl (L.nil (T.ret1 Tryd.results26 rfl ⟨by rw [show x6 &&& 127 = x6 % 128 from Nat.and_two_pow_sub_one_eq_mod x6 7, e7], rfl⟩))))))))))))))

end Go.Proofs.YtpgnaffcbbghgaaDoor
set_option linter.unusedVariables false
set_option linter.unusedSimpArgs false
set_option maxRecDepth 20000
namespace Go.Proofs.YtpgnaffcbbghgaaDoor
open Go Go.E
attribute [local irreducible] Go.E.T Go.E.L Go.E.O Go.E.Ob

theorem bit64_bit {i j : Nat} (hi : i < 64) : (bit64 i).testBit j = decide (i = j) := by
  have : 2 ^ i < 18446744073709551616 := by
    have := Nat.pow_lt_pow_right (a := 2) (by decide) hi
    have h64 : (2 : Nat) ^ 64 = 18446744073709551616 := by decide
    omega
  rw [bit64, Nat.mod_eq_of_lt this, Nat.testBit_two_pow]
theorem famTo_bit (us : List UnV) (lv : Nat) (n : Int) : ∀ i, i ≤ 64 → ∀ j, (famTo us lv n i).testBit j = decide (j < i ∧ (us.getD j u0).ps.getD lv 0 = n)
  | 0, _, j => by simp [famTo]
  | i + 1, hi, j => by
    have ih := famTo_bit us lv n i (by omega) j
    simp only [famTo]
    split
    · rename_i h
      rw [Nat.testBit_or, ih, bit64_bit (by omega)]
      by_cases e : i = j
      · subst e
        have : decide (i < i + 1 ∧ (us.getD i u0).ps.getD lv 0 = n) = true := decide_eq_true ⟨by omega, h⟩
        rw [this]; simp
      · have : (j < i + 1) = (j < i) := by apply propext; omega
        simp only [this]; simp [e]
    · rename_i h
      rw [ih]
      by_cases e : i = j
      · subst e
        have h1 : decide (i < i + 1 ∧ (us.getD i u0).ps.getD lv 0 = n) = false := decide_eq_false fun h2 => h h2.2
        rw [h1]; simp
      · have : (j < i + 1) = (j < i) := by apply propext; omega
        simp only [this]
theorem parsTo_mem (us : List UnV) (lv : Nat) (p : Int × Nat) : ∀ k, p ∈ parsTo us lv k ↔ ∃ m : Nat, m < k ∧ p = ((m : Int), famTo us lv m us.length) ∧ famTo us lv m us.length ≠ 0
  | 0 => by simp [parsTo]
  | k + 1 => by
    have ih := parsTo_mem us lv p k
    simp only [parsTo]
    split
    · rename_i h0
      rw [ih]
      constructor
      · rintro ⟨m, h1, h2⟩; exact ⟨m, by omega, h2⟩
      · rintro ⟨m, h1, h2, h3⟩
        refine ⟨m, ?_, h2, h3⟩
        by_cases e : m = k
        · subst e; exact absurd h0 h3
        · omega
    · rename_i h0
      rw [List.mem_append, ih, List.mem_singleton]
      constructor
      · rintro (⟨m, h1, h2⟩ | rfl)
        · exact ⟨m, by omega, h2⟩
        · exact ⟨k, by omega, rfl, h0⟩
      · rintro ⟨m, h1, h2, h3⟩
        by_cases e : m = k
        · subst e; exact .inr h2
        · exact .inl ⟨m, by omega, h2, h3⟩
theorem parsTo_sorted (us : List UnV) (lv : Nat) : ∀ k, (parsTo us lv k).Pairwise fun a b => a.1 < b.1
  | 0 => List.Pairwise.nil
  | k + 1 => by
    simp only [parsTo]
    split
    · exact parsTo_sorted us lv k
    · rw [List.pairwise_append]
      refine ⟨parsTo_sorted us lv k, List.pairwise_singleton _ _, fun a ha b hb => ?_⟩
      obtain ⟨m, h1, rfl, _⟩ := (parsTo_mem us lv a k).1 ha
      rw [List.mem_singleton.1 hb]
      show (m : Int) < (k : Int); omega
/-- The families of a level, all. -/
structure Fam (us : List UnV) (lv : Nat) (ps : List (Int × Nat)) : Prop where
  len : us.length ≤ 64
  ne : us ≠ []
  bnd : ∀ i, i < us.length → 0 ≤ (us.getD i u0).ps.getD lv 0 ∧ (us.getD i u0).ps.getD lv 0 ≤ 63
  is : ps = parsTo us lv 64
abbrev pAt (ps : List (Int × Nat)) (a : Nat) : Int × Nat := ps.getD a (0, 0)
variable {us : List UnV} {lv : Nat} {ps : List (Int × Nat)}
theorem Fam.at (h : Fam us lv ps) {a : Nat} (ha : a < ps.length) : ∃ m : Nat, m < 64 ∧ pAt ps a = ((m : Int), famTo us lv m us.length) ∧ famTo us lv m us.length ≠ 0 := by
  have hm : pAt ps a ∈ ps := by unfold pAt; rw [getD_get ha]; exact List.getElem_mem ha
  rw [h.is] at hm
  rw [← h.is] at hm
  exact (parsTo_mem us lv _ 64).1 (by rw [← h.is]; exact hm)
theorem Fam.bit (h : Fam us lv ps) {a : Nat} (ha : a < ps.length) (i : Nat) : (pAt ps a).2.testBit i = true ↔ i < us.length ∧ (us.getD i u0).ps.getD lv 0 = (pAt ps a).1 := by
  obtain ⟨m, _, e, _⟩ := h.at ha
  rw [e]
  show (famTo us lv m us.length).testBit i = true ↔ _ ∧ _ = (m : Int)
  rw [famTo_bit us lv m _ h.len]; simp
theorem Fam.lt (h : Fam us lv ps) {a : Nat} (ha : a < ps.length) : (pAt ps a).2 < 18446744073709551616 := by
  obtain ⟨m, _, e, _⟩ := h.at ha
  rw [e]; exact famTo_lt us lv m _
theorem Fam.pos (h : Fam us lv ps) {a : Nat} (ha : a < ps.length) : (pAt ps a).2 ≠ 0 := by
  obtain ⟨m, _, e, h0⟩ := h.at ha
  rw [e]; exact h0
theorem Fam.mono (h : Fam us lv ps) {a b : Nat} (hab : a < b) (hb : b < ps.length) : (pAt ps a).1 < (pAt ps b).1 := by
  have hs := parsTo_sorted us lv 64
  rw [← h.is] at hs
  unfold pAt
  rw [getD_get (show a < ps.length by omega), getD_get hb]
  exact List.pairwise_iff_getElem.1 hs a b (by omega) hb hab
theorem Fam.of (h : Fam us lv ps) {i : Nat} (hi : i < us.length) : ∃ a, a < ps.length ∧ (pAt ps a).1 = (us.getD i u0).ps.getD lv 0 := by
  obtain ⟨h0, h1⟩ := h.bnd i hi
  obtain ⟨m, hm⟩ : ∃ m : Nat, (us.getD i u0).ps.getD lv 0 = m := ⟨((us.getD i u0).ps.getD lv 0).toNat, by omega⟩
  have hne : famTo us lv m us.length ≠ 0 := fun e => by
    have := famTo_bit us lv m us.length h.len i
    rw [e, decide_eq_true ⟨hi, hm⟩] at this
    simp at this
  have hmem : ((m : Int), famTo us lv m us.length) ∈ ps := by rw [h.is]; exact (parsTo_mem us lv _ 64).2 ⟨m, by omega, rfl, hne⟩
  obtain ⟨a, ha, e⟩ := List.getElem_of_mem hmem
  exact ⟨a, ha, by unfold pAt; rw [getD_get ha, e, hm]⟩
theorem Fam.len_pos (h : Fam us lv ps) : 0 < ps.length := by
  obtain ⟨a, ha, _⟩ := h.of (i := 0) (List.length_pos_iff.2 h.ne)
  omega
def accO (ps : List (Int × Nat)) : Nat → Nat
  | 0 => 0
  | k + 1 => accO ps k ||| (pAt ps k).2
def cntT (ps : List (Int × Nat)) : Nat → Nat
  | 0 => 0
  | k + 1 => cntT ps k + popc (pAt ps k).2
theorem accO_bit (ps : List (Int × Nat)) (i : Nat) : ∀ k, (accO ps k).testBit i = true ↔ ∃ a, a < k ∧ (pAt ps a).2.testBit i = true
  | 0 => by simp [accO]
  | k + 1 => by
    rw [accO, Nat.testBit_or, Bool.or_eq_true, accO_bit ps i k]
    constructor
    · rintro (⟨a, h1, h2⟩ | h)
      · exact ⟨a, by omega, h2⟩
      · exact ⟨k, by omega, h⟩
    · rintro ⟨a, h1, h2⟩
      by_cases e : a = k
      · subst e; exact .inr h2
      · exact .inl ⟨a, by omega, h2⟩
theorem Fam.acc_lt (h : Fam us lv ps) : ∀ k, k ≤ ps.length → accO ps k < 18446744073709551616
  | 0, _ => by simp [accO]
  | k + 1, hk => Nat.or_lt_two_pow (n := 64) (h.acc_lt k (by omega)) (h.lt (by omega))
theorem idxs_or (x y : Nat) (h : ∀ i, ¬ (x.testBit i = true ∧ y.testBit i = true)) : ∀ n, (idxs (x ||| y) n).length = (idxs x n).length + (idxs y n).length
  | 0 => rfl
  | n + 1 => by
    have hn := h n
    rw [idxs_succ, idxs_succ, idxs_succ, List.length_append, List.length_append, List.length_append, idxs_or x y h n, Nat.testBit_or]
    cases hx : x.testBit n <;> cases hy : y.testBit n <;> simp_all <;> omega
theorem Fam.cnt (h : Fam us lv ps) : ∀ k, k ≤ ps.length → cntT ps k = popc (accO ps k)
  | 0, _ => by simp [cntT, accO, popc, idxs_zero]
  | k + 1, hk => by
    rw [cntT, h.cnt k (by omega), accO, popc, popc, popc, idxs_or _ _ (fun i hi => ?_)]
    obtain ⟨h1, h2⟩ := hi
    obtain ⟨a, ha, h3⟩ := (accO_bit ps i k).1 h1
    have b1 := (h.bit (show a < ps.length by omega) i).1 h3
    have b2 := (h.bit (show k < ps.length by omega) i).1 h2
    have := h.mono ha (show k < ps.length by omega)
    omega
theorem Fam.all (h : Fam us lv ps) : accO ps ps.length = 2 ^ us.length - 1 := by
  apply Nat.eq_of_testBit_eq
  intro i
  rw [Nat.testBit_two_pow_sub_one]
  by_cases hi : i < us.length
  · rw [decide_eq_true hi]
    obtain ⟨a, ha, e⟩ := h.of hi
    exact (accO_bit ps i _).2 ⟨a, ha, (h.bit ha i).2 ⟨hi, e.symm⟩⟩
  · rw [decide_eq_false hi, Bool.eq_false_iff]
    intro hb
    obtain ⟨a, ha, h3⟩ := (accO_bit ps i _).1 hb
    exact hi ((h.bit ha i).1 h3).1
theorem idxs_mask (n : Nat) : ∀ m, (idxs (2 ^ n - 1) m).length = min n m
  | 0 => by simp [idxs]
  | m + 1 => by
    rw [idxs_succ, List.length_append, idxs_mask n m, Nat.testBit_two_pow_sub_one]
    by_cases h : m < n
    · rw [decide_eq_true h]; simp; omega
    · rw [decide_eq_false h]; simp; omega
theorem Fam.total (h : Fam us lv ps) : cntT ps ps.length = us.length := by
  have := h.len
  rw [h.cnt _ (Nat.le_refl _), h.all, popc, idxs_mask]; omega
theorem cntT_le (ps : List (Int × Nat)) : ∀ k, cntT ps k ≤ 64 * k
  | 0 => Nat.le_refl _
  | k + 1 => by have := cntT_le ps k; have := popc_le (pAt ps k).2; rw [cntT]; omega
/-- One set lies within another. -/
theorem within_iff2 {x y : Nat} (hx : x < 18446744073709551616) (hy : y < 18446744073709551616) : x &&& (18446744073709551615 - y) = 0 ↔ ∀ i, x.testBit i = true → y.testBit i = true := by
  constructor
  · intro h i hi
    have hlt : i < 64 := by
      rcases Nat.lt_or_ge i 64 with h1 | h1
      · exact h1
      · have := Nat.testBit_lt_two_pow (x := x) (i := i) (Nat.lt_of_lt_of_le hx (Nat.pow_le_pow_right (n := 2) (by decide) h1))
        rw [this] at hi; cases hi
    have h2 : (x &&& (18446744073709551615 - y)).testBit i = false := by rw [h]; simp
    rw [Nat.testBit_and, hi, comp_bit hy hlt] at h2
    simpa using h2
  · intro h
    apply Nat.eq_of_testBit_eq
    intro i
    rw [Nat.testBit_and, Nat.zero_testBit]
    cases hxi : x.testBit i
    · rfl
    · have hlt : i < 64 := by
        rcases Nat.lt_or_ge i 64 with h1 | h1
        · exact h1
        · have := Nat.testBit_lt_two_pow (x := x) (i := i) (Nat.lt_of_lt_of_le hx (Nat.pow_le_pow_right (n := 2) (by decide) h1))
          rw [this] at hxi; cases hxi
      rw [comp_bit hy hlt, h i hxi]; rfl
def insT (ps : List (Int × Nat)) (x : Nat) : Nat → Nat
  | 0 => 0
  | k + 1 => insT ps x k + (if x &&& (18446744073709551615 - (pAt ps k).2) = 0 then 1 else 0)
theorem insT_le (ps : List (Int × Nat)) (x : Nat) : ∀ k, insT ps x k ≤ k
  | 0 => Nat.le_refl _
  | k + 1 => by have := insT_le ps x k; rw [insT]; split <;> omega
theorem Fam.inside {qs : List (Int × Nat)} (h : Fam us lv qs) (h2 : Fam us (lv + 1) ps) (hn : ∀ i, i < us.length → ∀ k, k < us.length → Nest1 us lv i k) {b : Nat} (hb : b < qs.length) : insT ps (pAt qs b).2 ps.length = 1 := by
  obtain ⟨i, hi⟩ : ∃ i, (pAt qs b).2.testBit i = true := by
    have := h.pos hb
    exact Nat.exists_testBit_of_ne_zero this
  obtain ⟨hi1, hi2⟩ := (h.bit hb i).1 hi
  obtain ⟨s, hs, hse⟩ := h2.of hi1
  have key : ∀ a, a < ps.length → ((pAt qs b).2 &&& (18446744073709551615 - (pAt ps a).2) = 0 ↔ a = s) := fun a ha => by
    rw [within_iff2 (h.lt hb) (h2.lt ha)]
    constructor
    · intro hw
      have := (h2.bit ha i).1 (hw i hi)
      rcases Nat.lt_trichotomy a s with h1 | h1 | h1
      · have := h2.mono h1 hs; omega
      · exact h1
      · have := h2.mono h1 ha; omega
    · rintro rfl j hj
      obtain ⟨hj1, hj2⟩ := (h.bit hb j).1 hj
      have := hn j hj1 i hi1 (by rw [hj2, hi2])
      exact (h2.bit ha j).2 ⟨hj1, by rw [this, hse]⟩
  have step : ∀ k, k ≤ ps.length → insT ps (pAt qs b).2 k = if s < k then 1 else 0 := fun k => by
    induction k with
    | zero => intro _; rfl
    | succ k ih =>
      intro hk
      rw [insT, ih (by omega)]
      have hk' := key k (by omega)
      by_cases e : k = s
      · rw [if_pos (hk'.2 e), if_neg (by omega), if_pos (by omega)]
      · rw [if_neg (fun h => e (hk'.1 h))]
        by_cases h1 : s < k
        · rw [if_pos h1, if_pos (by omega)]
        · rw [if_neg h1, if_neg (by omega)]
  rw [step _ (Nat.le_refl _), if_pos hs]
/-- A drafted roll is nested. -/
theorem dL1_next (d : Dr) (n i q : Nat) (hw : dWt d n i = false) : dL1 d n i (q + 1) = dL1 d n i q / 2 := by
  simp only [dL1, hw]
  have : ∀ c : Nat, ((c / 2 ^ (q + 1) : Nat) : Int) = ((c / 2 ^ q : Nat) : Int) / 2 := fun c => by
    rw [Nat.pow_succ, ← Nat.div_div_eq_div_mul]; omega
  exact this _
theorem drafted_nest {d : Dr} {n : Nat} {r : RoV} (h : Drafted d n r) (hp : Low8 d.l) : Nest (lu r) r.L.toNat := by
  intro q hq i hi k hk hik
  rw [lu_len] at hi hk
  have hln := landsN_le r.us
  have hl := h.len
  rw [lu_get hi, lu_get hk] at hik ⊢
  have ui := h.u i (by omega)
  have uk := h.u k (by omega)
  have wi := landsN_dry r.us i hi
  have wk := landsN_dry r.us k hk
  rw [ui.wt] at wi
  rw [uk.wt] at wk
  rw [h.l] at hq
  rw [ui.ps, uk.ps, dList_get (by omega), dList_get (by omega)] at hik ⊢
  rw [dL1_next d n i q wi, dL1_next d n k q wk, hik]
end Go.Proofs.YtpgnaffcbbghgaaDoor
set_option linter.unusedVariables false
set_option linter.unusedSimpArgs false
set_option maxRecDepth 20000
namespace Go.Proofs.YtpgnaffcbbghgaaDoor
open Go Go.E
attribute [local irreducible] Go.E.T Go.E.L Go.E.O Go.E.Ob

theorem goodC_dig {n : Nat} (h : n < 10) : goodC (UInt8.ofNat (48 + n)) = true := by
  rw [good_iff, UInt8.toNat_ofNat_of_lt' (by show _ < 256; omega)]; omega
theorem dNm_ok {i : Nat} (h : i < 100) : nameOk (dNm i) = true := by
  have h1 := goodC_dig (n := i / 10) (by omega)
  have h2 := goodC_dig (n := i % 10) (by omega)
  simp only [nameOk, dNm, dig2, List.singleton_append, List.all_cons, List.all_nil, h1, h2, Bool.and_true, List.length_cons, List.length_nil]
  rfl
theorem dNm_inj {i j : Nat} (hi : i < 100) (hj : j < 100) (h : dNm i = dNm j) : i = j := by
  simp only [dNm, dig2, List.singleton_append, List.cons.injEq, and_true, true_and] at h
  have h1 := congrArg UInt8.toNat h.1
  have h2 := congrArg UInt8.toNat h.2
  rw [UInt8.toNat_ofNat_of_lt' (by show _ < 256; omega), UInt8.toNat_ofNat_of_lt' (by show _ < 256; omega)] at h1 h2
  omega
theorem dP_le {d : Dr} {n i : Nat} (hn : ∀ j, j < d.ns.length → 0 ≤ d.ns.getD j 0 ∧ d.ns.getD j 0 ≤ 65535) : 0 ≤ dP d n i ∧ dP d n i ≤ 65535 := by
  unfold dP
  have := numD_le hn i
  split <;> omega
theorem getD_big {l : List Int} {j : Nat} (h : l.length ≤ j) : l.getD j 0 = 0 := by
  rw [List.getD_eq_getElem?_getD, List.getElem?_eq_none h]; rfl
/-- A drafted roll is valid. -/
theorem drafted_right {d : Dr} {n i : Nat} {r : RoV} (h : Drafted d n r) (hn : ∀ j, j < d.ns.length → 0 ≤ d.ns.getD j 0 ∧ d.ns.getD j 0 ≤ 65535) (hg : Low8 d.g) (hp : Low8 d.p) (hl : Low8 d.l) (hi : i < n) : rightOk r (r.us.getD i u0) = true := by
  have u := h.u i hi
  have h24 := h.n2
  unfold Low8 at hg hp hl
  have hdp := dP_le (n := n) (i := i) hn
  have e1 : r.G = d.g % 3 := h.g
  have e2 : r.P = d.p % 4 := h.p
  have e3 : r.L = d.l % 4 := h.l
  have hvm : votesMax (r.us.getD i u0) = if dWt d n i then 0 else 1000000000 := by rw [votesMax, u.wt]
  have hpm : parMax (r.us.getD i u0) = if dWt d n i then 0 else 63 := by rw [parMax, u.wt]
  have hpw : dWt d n i = true → dP d n i = 0 := fun hw => by rw [dP, hw]; rfl
  rw [right_iff, u.nm, u.pp, u.gs, u.vs, u.ps, hvm, hpm]
  refine ⟨dNm_ok (by omega), hdp.1, ?_, ?_, ?_, ?_⟩
  · split
    · rename_i hw; rw [hpw hw]; exact Int.le_refl _
    · omega
  · refine within_iff.2 ⟨by rw [dList_len]; omega, fun j hj => ?_⟩
    rw [dList_len] at hj
    rw [dList_get hj, dG1]
    have := Int.emod_nonneg (numD d.ns (3 * i + j + 1)) (show dP d n i + 1 ≠ 0 by omega)
    have := Int.emod_lt_of_pos (numD d.ns (3 * i + j + 1)) (show 0 < dP d n i + 1 by omega)
    omega
  · refine within_iff.2 ⟨by rw [dList_len]; omega, fun j hj => ?_⟩
    rw [dList_len] at hj
    rw [dList_get hj, dV1]
    have := numD_le hn (5 * i + j + 2)
    split <;> omega
  · refine within_iff.2 ⟨by rw [dList_len]; omega, fun j hj => ?_⟩
    rw [dList_len] at hj
    rw [dList_get hj, dL1]
    split
    · omega
    · have h1 : (numD d.ns (i + 11) % 16).toNat ≤ 15 := by omega
      have h2 := Nat.div_le_self (numD d.ns (i + 11) % 16).toNat (2 ^ j)
      obtain ⟨q, hq⟩ : ∃ q : Nat, q = (numD d.ns (i + 11) % 16).toNat / 2 ^ j := ⟨_, rfl⟩
      rw [← hq] at h2 ⊢
      omega
theorem dWater_lt {d : Dr} {n : Nat} (hn : 1 ≤ n) (ha : Low8 d.wa) : 0 ≤ dWater d n ∧ dWater d n < n := by
  unfold Low8 at ha
  unfold dWater
  have := Int.emod_nonneg d.wa (show ((n / 3 + 1 : Nat) : Int) ≠ 0 by omega)
  have := Int.emod_lt_of_pos d.wa (show (0 : Int) < ((n / 3 + 1 : Nat) : Int) by omega)
  omega
theorem drafted_ok {d : Dr} {n : Nat} {r : RoV} (h : Drafted d n r) (hn : ∀ j, j < d.ns.length → 0 ≤ d.ns.getD j 0 ∧ d.ns.getD j 0 ≤ 65535) (hg : Low8 d.g) (hp : Low8 d.p) (hl : Low8 d.l) (ha : Low8 d.wa) : RollOk r := by
  have h1 := h.n1
  have h24 := h.n2
  have hlen := h.len
  have hw := dWater_lt h1 ha
  have hg' := hg
  have hp' := hp
  have hl' := hl
  unfold Low8 at hg' hp' hl'
  refine ⟨bnd_iff.2 ⟨by rw [h.g]; omega, by rw [h.g]; omega, by rw [h.p]; omega, by rw [h.p]; omega, by rw [h.l]; omega, by rw [h.l]; omega, by omega, by omega⟩, fun j hj => ?_⟩
  have uj := h.u j (by omega)
  refine ⟨drafted_right h hn hg hp hl (by omega), fun k hk e => ?_, fun k hk hkw => ?_, fun e => ?_⟩
  · have uk := h.u k (by omega)
    rw [uk.nm, uj.nm] at e
    have := dNm_inj (by omega) (by omega) e
    omega
  · have uk := h.u k (by omega)
    rw [uk.wt, dWt, decide_eq_true_eq] at hkw
    rw [uj.wt, dWt, decide_eq_true_eq]; omega
  · subst e
    rw [uj.wt, dWt, decide_eq_false_iff_not]; omega
/-! Turning. -/
def sumI (g : Nat → Int) : Nat → Int
  | 0 => 0
  | n + 1 => sumI g n + g n
theorem sumI_congr {g h : Nat → Int} : ∀ n, (∀ i, i < n → g i = h i) → sumI g n = sumI h n
  | 0, _ => rfl
  | n + 1, e => by rw [sumI, sumI, sumI_congr n (fun i hi => e i (by omega)), e n (by omega)]
theorem sumI_add (g : Nat → Int) (a : Nat) : ∀ b, sumI g (a + b) = sumI g a + sumI (fun j => g (a + j)) b
  | 0 => by simp [sumI]
  | b + 1 => by rw [← Nat.add_assoc, sumI, sumI_add g a b, sumI]; omega
theorem sumI_turn (g : Nat → Int) {k m : Nat} (hk : k < m) : sumI (fun j => g ((j + k) % m)) m = sumI g m := by
  obtain ⟨b, rfl⟩ : ∃ b, m = k + b := ⟨m - k, by omega⟩
  have h1 := sumI_add g k b
  have h2 := sumI_add (fun j => g ((j + k) % (k + b))) b k
  rw [Nat.add_comm b k] at h2
  rw [h1, h2]
  have e1 : sumI (fun j => g ((j + k) % (k + b))) b = sumI (fun j => g (k + j)) b := sumI_congr b fun i hi => by
    show g _ = g _
    rw [Nat.mod_eq_of_lt (by omega), Nat.add_comm]
  have e2 : sumI (fun j => g ((b + j + k) % (k + b))) k = sumI g k := sumI_congr k fun i hi => by
    show g _ = g _
    rw [show b + i + k = i + (k + b) by omega, Nat.add_mod_right, Nat.mod_eq_of_lt (by omega)]
  rw [e1, e2]; omega
theorem sumK_I (us : List UnV) (f : UnV → Int) (s : Nat) : ∀ n, sumK us f (idxs s n) = sumI (fun i => if s.testBit i then f (us.getD i u0) else 0) n
  | 0 => rfl
  | n + 1 => by
    rw [idxs_succ, sumK_append, sumK_I us f s n, sumI]
    cases s.testBit n <;> simp [sumK_nil, sumK_one]
/-- The set that is moved. -/
def mvTo (s k m : Nat) : Nat → Nat
  | 0 => 0
  | i + 1 => if s.testBit i then mvTo s k m i ||| bit64 ((i + m - k) % m) else mvTo s k m i
theorem mvTo_lt (s k m : Nat) : ∀ i, mvTo s k m i < 18446744073709551616
  | 0 => by simp [mvTo]
  | i + 1 => by
    simp only [mvTo]
    split
    · exact Nat.or_lt_two_pow (n := 64) (mvTo_lt s k m i) (bit64_lt _)
    · exact mvTo_lt s k m i
theorem mvTo_bit {s k m : Nat} (hm : m ≤ 64) (hk : k < m) (j : Nat) : ∀ i, i ≤ m → ((mvTo s k m i).testBit j = true ↔ ∃ q, q < i ∧ s.testBit q = true ∧ (q + m - k) % m = j)
  | 0, _ => by simp [mvTo]
  | i + 1, hi => by
    have ih := mvTo_bit (s := s) hm hk j i (by omega)
    simp only [mvTo]
    split
    · rename_i hb
      rw [Nat.testBit_or, Bool.or_eq_true, ih, bit64_bit (Nat.lt_of_lt_of_le (Nat.mod_lt _ (by omega)) hm), decide_eq_true_eq]
      constructor
      · rintro (⟨q, h1, h2⟩ | h)
        · exact ⟨q, by omega, h2⟩
        · exact ⟨i, by omega, hb, h⟩
      · rintro ⟨q, h1, h2, h3⟩
        by_cases e : q = i
        · subst e; exact .inr h3
        · exact .inl ⟨q, by omega, h2, h3⟩
    · rename_i hb
      rw [ih]
      constructor
      · rintro ⟨q, h1, h2⟩; exact ⟨q, by omega, h2⟩
      · rintro ⟨q, h1, h2, h3⟩
        refine ⟨q, ?_, h2, h3⟩
        by_cases e : q = i
        · subst e; exact absurd h2 hb
        · omega
theorem turn_back {k m j q : Nat} (hk : k < m) (hj : j < m) (hq : q < m) : (q + m - k) % m = j ↔ q = (j + k) % m := by
  by_cases h1 : k ≤ q
  · rw [show q + m - k = (q - k) + m by omega, Nat.add_mod_right, Nat.mod_eq_of_lt (by omega)]
    by_cases h2 : j + k < m
    · rw [Nat.mod_eq_of_lt h2]; omega
    · rw [show j + k = (j + k - m) + m by omega, Nat.add_mod_right, Nat.mod_eq_of_lt (by omega)]; omega
  · rw [Nat.mod_eq_of_lt (show q + m - k < m by omega)]
    by_cases h2 : j + k < m
    · rw [Nat.mod_eq_of_lt h2]; omega
    · rw [show j + k = (j + k - m) + m by omega, Nat.add_mod_right, Nat.mod_eq_of_lt (by omega)]; omega
theorem mv_bit {s k m j : Nat} (hm : m ≤ 64) (hk : k < m) (hj : j < m) : (mvTo s k m m).testBit j = s.testBit ((j + k) % m) := by
  rw [Bool.eq_iff_iff, mvTo_bit hm hk j m (Nat.le_refl _)]
  have hlt : (j + k) % m < m := Nat.mod_lt _ (by omega)
  constructor
  · rintro ⟨q, h1, h2, h3⟩
    rw [← (turn_back hk hj h1).1 h3]; exact h2
  · intro h
    exact ⟨(j + k) % m, hlt, h, (turn_back hk hj hlt).2 rfl⟩
theorem mv_lt {s k m : Nat} (hm : m ≤ 64) (hk : k < m) : mvTo s k m m < 2 ^ m := by
  apply Nat.lt_pow_two_of_testBit
  intro i hi
  rw [Bool.eq_false_iff]
  intro h
  obtain ⟨q, h1, _, h3⟩ := (mvTo_bit hm hk i m (Nat.le_refl _)).1 h
  have := Nat.mod_lt (q + m - k) (show 0 < m by omega)
  omega
/-- The units turned. -/
def turnU (us : List UnV) (k m : Nat) : List UnV := (us.take m).drop k ++ us.take k ++ us.drop m
def sig (k m j : Nat) : Nat := if j < m then (j + k) % m else j
theorem turn_len {us : List UnV} {k m : Nat} (hk : k < m) (hm : m ≤ us.length) : (turnU us k m).length = us.length := by
  simp only [turnU, List.length_append, List.length_drop, List.length_take]; omega
theorem turn_get {us : List UnV} {k m j : Nat} (hk : k < m) (hm : m ≤ us.length) (hj : j < us.length) : (turnU us k m).getD j u0 = us.getD (sig k m j) u0 := by
  have hs : sig k m j < us.length := by
    unfold sig; split
    · have := Nat.mod_lt (j + k) (show 0 < m by omega); omega
    · exact hj
  rw [getD_get (by rw [turn_len hk hm]; exact hj), getD_get hs]
  unfold turnU sig
  by_cases h1 : j < m
  · simp only [if_pos h1]
    by_cases h2 : j + k < m
    · rw [List.getElem_append_left (by simp; omega), List.getElem_append_left (by simp; omega)]
      simp only [List.getElem_drop, List.getElem_take]
      congr 1
      rw [Nat.mod_eq_of_lt h2]; omega
    · rw [List.getElem_append_left (by simp; omega), List.getElem_append_right (by simp; omega)]
      simp only [List.getElem_take]
      congr 1
      rw [show j + k = (j + k - m) + m by omega, Nat.add_mod_right, Nat.mod_eq_of_lt (by omega)]
      simp only [List.length_drop, List.length_take]; omega
  · simp only [if_neg h1]
    rw [List.getElem_append_right (by simp; omega)]
    simp only [List.getElem_drop]
    congr 1
    simp only [List.length_append, List.length_drop, List.length_take]; omega
theorem sig_lt {k m j n : Nat} (hk : k < m) (hm : m ≤ n) (hj : j < n) : sig k m j < n := by
  unfold sig; split
  · have := Nat.mod_lt (j + k) (show 0 < m by omega); omega
  · exact hj
theorem sig_inj {k m i j : Nat} (hk : k < m) (h : sig k m i = sig k m j) : i = j := by
  unfold sig at h
  have hm : 0 < m := by omega
  by_cases h1 : i < m <;> by_cases h2 : j < m
  · rw [if_pos h1, if_pos h2] at h
    have a1 := (turn_back hk h1 (Nat.mod_lt (i + k) hm)).2 rfl
    have a2 := (turn_back hk h2 (Nat.mod_lt (j + k) hm)).2 rfl
    rw [← a1, ← a2, h]
  · rw [if_pos h1, if_neg h2] at h
    have := Nat.mod_lt (i + k) hm; omega
  · rw [if_neg h1, if_pos h2] at h
    have := Nat.mod_lt (j + k) hm; omega
  · rw [if_neg h1, if_neg h2] at h; exact h
theorem good_names {r : RoV} (h : RollOk r) {i j : Nat} (hi : i < r.us.length) (hj : j < r.us.length) (e : (r.us.getD i u0).nm = (r.us.getD j u0).nm) : i = j := by
  rcases Nat.lt_trichotomy i j with h1 | h1 | h1
  · exact absurd e ((h.good j hj).name i h1)
  · exact h1
  · exact absurd e.symm ((h.good i hi).name j h1)
theorem wet_from {r : RoV} (h : RollOk r) {j : Nat} (hm : landsN r.us ≤ j) (hj : j < r.us.length) : (r.us.getD j u0).wt = true := by
  by_cases e : j = landsN r.us
  · subst e; exact landsN_wet r.us hj
  · exact (h.good j hj).water (landsN r.us) (by omega) (landsN_wet r.us (by omega))
theorem turned_ok {r : RoV} {k : Nat} {uv : Value} (h : RollOk r) (hk : k < landsN r.us) : RollOk ⟨r.G, r.P, r.L, uv, turnU r.us k (landsN r.us)⟩ ∧ landsN (turnU r.us k (landsN r.us)) = landsN r.us := by
  have hln := landsN_le r.us
  have hlen := turn_len hk hln
  have dry : ∀ j, j < landsN r.us → ((turnU r.us k (landsN r.us)).getD j u0).wt = false := fun j hj => by
    rw [turn_get hk hln (by omega)]
    refine landsN_dry r.us _ ?_
    unfold sig; rw [if_pos hj]; exact Nat.mod_lt _ (by omega)
  have wet : ∀ j, landsN r.us ≤ j → j < r.us.length → ((turnU r.us k (landsN r.us)).getD j u0).wt = true := fun j h1 h2 => by
    rw [turn_get hk hln h2]
    unfold sig; rw [if_neg (by omega)]; exact wet_from h h1 h2
  refine ⟨⟨?_, fun j hj => ?_⟩, landsN_eq _ _ (by omega) dry (fun hlt => wet _ (Nat.le_refl _) (by omega))⟩
  · have hb := h.bnd
    rw [bnd_iff] at hb ⊢
    simp only [hlen]; exact hb
  · have hj' : j < r.us.length := by have : j < (turnU r.us k (landsN r.us)).length := hj; omega
    refine ⟨?_, fun i hi e => ?_, fun i hi hw => ?_, fun e => dry j (by omega)⟩
    · show rightOk _ ((turnU r.us k (landsN r.us)).getD j u0) = true
      rw [turn_get hk hln hj']
      exact (h.good _ (sig_lt hk hln hj')).right
    · have e' : ((turnU r.us k (landsN r.us)).getD i u0).nm = ((turnU r.us k (landsN r.us)).getD j u0).nm := e
      rw [turn_get hk hln (show i < r.us.length by omega), turn_get hk hln hj'] at e'
      have := sig_inj hk (good_names h (sig_lt hk hln (by omega)) (sig_lt hk hln hj') e')
      omega
    · have hw' : ((turnU r.us k (landsN r.us)).getD i u0).wt = true := hw
      by_cases h1 : i < landsN r.us
      · rw [dry i h1] at hw'; cases hw'
      · exact wet j (by omega) hj'
theorem turned_sum {r : RoV} {k s : Nat} (h : rollErr r = 0) (hk : k < landsN r.us) (f : UnV → Int) (hl : landsN (turnU r.us k (landsN r.us)) = landsN r.us) {uv : Value} :
    sumK (lu ⟨r.G, r.P, r.L, uv, turnU r.us k (landsN r.us)⟩) f (idxs (mvTo s k (landsN r.us) (landsN r.us)) (landsN r.us)) = sumK (lu r) f (idxs s (landsN r.us)) := by
  have hln := landsN_le r.us
  have hb := roll_bnd h
  rw [sumK_I, sumK_I, ← sumI_turn (fun i => if s.testBit i then f ((lu r).getD i u0) else 0) hk]
  refine sumI_congr _ fun j hj => ?_
  show (if _ then f ((lu _).getD j u0) else 0) = if s.testBit ((j + k) % landsN r.us) then f ((lu r).getD ((j + k) % landsN r.us) u0) else 0
  have hlt : (j + k) % landsN r.us < landsN r.us := Nat.mod_lt _ (by omega)
  rw [mv_bit (by omega) hk hj, lu_get hlt, lu_get (r := ⟨r.G, r.P, r.L, uv, turnU r.us k (landsN r.us)⟩) (by show j < landsN (turnU r.us k (landsN r.us)); omega)]
  show (if _ then f ((turnU r.us k (landsN r.us)).getD j u0) else 0) = _
  rw [turn_get hk hln (by omega)]
  simp only [sig, if_pos hj]
theorem turned_tot {r : RoV} {k s : Nat} {uv : Value} (h : rollErr r = 0) (hk : k < landsN r.us) (hs : s < 2 ^ landsN r.us) :
    totP ⟨r.G, r.P, r.L, uv, turnU r.us k (landsN r.us)⟩ (mvTo s k (landsN r.us) (landsN r.us)) = totP r s ∧ totErr ⟨r.G, r.P, r.L, uv, turnU r.us k (landsN r.us)⟩ (mvTo s k (landsN r.us) (landsN r.us)) = 0 ∧
    totG ⟨r.G, r.P, r.L, uv, turnU r.us k (landsN r.us)⟩ (mvTo s k (landsN r.us) (landsN r.us)) = totG r s ∧ totV ⟨r.G, r.P, r.L, uv, turnU r.us k (landsN r.us)⟩ (mvTo s k (landsN r.us) (landsN r.us)) = totV r s := by
  obtain ⟨hok, hl⟩ := turned_ok (uv := uv) (roll_of h) hk
  have hb := roll_bnd h
  have hln := landsN_le r.us
  have e0 := rollErr_ok hok
  have e1 := totErr_ok e0 (set := mvTo s k (landsN r.us) (landsN r.us)) (by show _ < 2 ^ landsN (turnU r.us k (landsN r.us)); rw [hl]; exact mv_lt (by omega) hk)
  have e2 := totErr_ok h hs
  have n1 : (lu ⟨r.G, r.P, r.L, uv, turnU r.us k (landsN r.us)⟩).length = landsN r.us := by rw [lu_len]; exact hl
  have n2 : (lu r).length = landsN r.us := lu_len r
  refine ⟨?_, e1, ?_, ?_⟩
  · rw [totP, if_pos e1, totP, if_pos e2, n1, n2]; exact turned_sum h hk _ hl
  · rw [totG, if_pos e1, totG, if_pos e2, n1, n2]
    exact List.map_congr_left fun q _ => turned_sum h hk (fun u => u.gs.getD q 0) hl
  · rw [totV, if_pos e1, totV, if_pos e2, n1, n2]
    exact List.map_congr_left fun q _ => turned_sum h hk (fun u => u.vs.getD q 0) hl
theorem turned_find {r : RoV} {k j : Nat} {uv : Value} (h : rollErr r = 0) (hk : k < landsN r.us) (hj : j < r.us.length) : findRes ⟨r.G, r.P, r.L, uv, turnU r.us k (landsN r.us)⟩ ((turnU r.us k (landsN r.us)).getD j u0).nm = .tuple #[.int .i64 j, .int .i64 0] := by
  obtain ⟨hok, hl⟩ := turned_ok (uv := uv) (roll_of h) hk
  have hln := landsN_le r.us
  refine findRes_some (rollErr_ok hok) (posOf_some _ _ j (by show j < (turnU r.us k (landsN r.us)).length; rw [turn_len hk hln]; exact hj) rfl fun i hi => ?_)
  exact (hok.good j (by show j < (turnU r.us k (landsN r.us)).length; rw [turn_len hk hln]; exact hj)).name i hi
theorem turned_same {r : RoV} {k : Nat} {uv : Value} (h : rollErr r = 0) (hk : k < landsN r.us) : sameB r ⟨r.G, r.P, r.L, uv, turnU r.us k (landsN r.us)⟩ = decide ((k : Int) = 0) := by
  have hln := landsN_le r.us
  have hh : sameB r ⟨r.G, r.P, r.L, uv, turnU r.us k (landsN r.us)⟩ = sameUsB r.us (turnU r.us k (landsN r.us)) := by simp [sameB]
  rw [hh]
  by_cases e : k = 0
  · subst e
    rw [sameUs_yes ⟨(turn_len hk hln).symm, fun i hi => ?_⟩, decide_eq_true (by rfl)]
    rw [turn_get hk hln hi]
    have : sig 0 (landsN r.us) i = i := by unfold sig; split; rw [Nat.add_zero, Nat.mod_eq_of_lt (by assumption)]; rfl
    rw [this, sameU_iff]; exact ⟨rfl, rfl, rfl, rfl, rfl, rfl⟩
  · rw [sameUs_no (fun hs => ?_), decide_eq_false (by omega)]
    have h0 := (sameU_iff.1 (hs.2 0 (by omega))).1
    rw [turn_get hk hln (by omega)] at h0
    have := good_names (roll_of h) (by omega) (sig_lt hk hln (by omega)) h0
    unfold sig at this
    rw [if_pos (by omega), Nat.zero_add, Nat.mod_eq_of_lt hk] at this
    omega
end Go.Proofs.YtpgnaffcbbghgaaDoor
set_option linter.unusedVariables false
set_option linter.unusedSimpArgs false
set_option maxRecDepth 20000
namespace Go.Proofs.YtpgnaffcbbghgaaDoor
open Go Go.E
attribute [local irreducible] Go.E.T Go.E.L Go.E.O Go.E.Ob

attribute [local irreducible] Go.E.ObX Go.E.ObK
/-- 'append' of units onto a block of one's own: in place, or into a new block. -/
theorem O.append2 {C : Cx} {e : Env} {w : World} {K : Value → World → Prop} {d : Option Tmp} {ty : TypeId} {pos : String} {aft : Array Edge} {g : Option (Nat × Bool)} {x y : Operand} {t : TypeId} {b n cap m size bytes lo : Nat} {el : TypeId} {i : TypeInfo} {zv : Value} {cur news : List Value} {u : Value} (ht : ∀ w, (underlying t).run C.P w = .ok (.slice el) w) (hi : C.P.info? el = some i) (hz : i.zero = some zv) (hsize : i.size = size) (hby : i.bytes = bytes) (hzs : zv.cells.size = size) (hsz : 0 < size)
    (hx : ev e x = some (.slice (some ⟨b, 0, none⟩) n cap)) (hy : ev e y = some u) (hB : Blk w b cur el) (hu : Sl lo w u m size news) (h1 : ∀ c ∈ news, c.oneCell' = true) (hnc : n ≤ cap) (hcm : cap ≤ maxLen) (hl : cur.length = cap * size) (h63 : n + m ≤ maxLen) (hbytes : (n + m) * bytes ≤ 140737488355328)
    (hr : ∀ w', n + m ≤ cap → Upd b w w' → Blk w' b (cur.take (n * size) ++ news ++ cur.drop (n * size + news.length)) el → K (.slice (some ⟨b, 0, none⟩) (n + m) cap) w')
    (hg : ∀ v' w', Ext w w' → w'.ownsRow w.heap.size el size v' (n + m) (cur.take (n * size) ++ news) → K v' w') :
    O C e ⟨d, .call { callee := .builtin .append, args := #[x, y], argTypes := #[t, t] }, ty, pos, aft, g⟩ w K := by
  by_cases hroom : n + m ≤ cap
  · exact O.appendRoom ht hi hsize hx hy hB hu h1 hroom hl (fun w' => hr w' hroom)
  · have ht' : C.P.underlying t = some (.slice el) := by
      have := ht w
      simp only [underlying, Sem.run_bind, run_program, Result.andThen_ok] at this
      cases hq : C.P.underlying t with
      | none => simp [hq, stuck] at this
      | some q => simp [hq] at this; rw [this]
    subst hsize hby
    have hm0 : 0 < m := by omega
    obtain ⟨cap2, hue, _, _, hrow⟩ := hu.there hm0
    have hlen : (cur.take (n * i.size)).length = n * i.size := by rw [List.length_take, hl]; exact Nat.min_eq_left (Nat.mul_le_mul_right _ hnc)
    have holds : ∀ j v, (cur.take (n * i.size))[j]? = some v → w.cell? ((⟨b, 0, none⟩ : Addr).add j) = some v := fun j v hj => (Row.of_blk hB).take (n * i.size) j v hj
    have hrun := run_append_grow (P := C.P) w t ty el i zv ht' hi hz ⟨b, 0, none⟩ n cap (cur.take (n * i.size)) hlen holds (sAddr u) m cap2 news hu.1 hrow (by omega) (by unfold maxLen at h63; omega) (growslice_fits (by omega) hbytes)
    have hge := grownCap_ge w (n + m) cap el
    have hcm2 : grownCap w (n + m) cap el ≤ maxLen := grownCap_le_maxLen w (n + m) cap el h63
    have hlen2 : (cur.take (n * i.size) ++ news).length = (n + m) * i.size := by rw [List.length_append, hlen, hu.1, Nat.add_mul]
    refine O.of_run (by simp) (fun a ha => by
      have e1 := ha.eval hy
      rw [hue] at e1
      simp [execOp, resolve, invoke, builtin, ha.eval hx, e1, hrun]; rfl) (hg _ _ ((Keep.drew 0 w).trans (Keep.alloc _ _ _)) ⟨hlen2, .inr ⟨w.heap.size, _, _, rfl, Nat.le_refl _, heap_alloc_new w.drew _, hge, hcm2, ?_, ?_⟩⟩)
    · simp only [Array.size_append, List.size_toArray, size_zeroCells, hzs, hlen2, ← Nat.add_mul]
      congr 1
      omega
    · rw [Array.toList_append, ← hlen2]
      exact List.take_left
/-- The first n units of a block of one's own. -/
def OwnP (base n : Nat) (xs : List Value) (v : Value) (w : World) : Prop := ∃ b cap cur, v = .slice (some ⟨b, 0, none⟩) n cap ∧ base ≤ b ∧ Blk w b cur 42 ∧ n ≤ cap ∧ cap ≤ maxLen ∧ cur.length = cap * 6 ∧ cur.take (n * 6) = xs
theorem OwnP.row {base n : Nat} {xs : List Value} {v : Value} {w : World} (h : OwnP base n xs v w) (hl : xs.length = n * 6) : w.ownsRow base 42 6 v n xs := by
  obtain ⟨b, cap, cur, h1, h2, h3, h4, h5, h6, h7⟩ := h
  exact ⟨hl, .inr ⟨b, cap, cur.toArray, h1, h2, h3, h4, h5, by simpa using h6, by simpa using h7⟩⟩
theorem OwnP.of_row {base base' n : Nat} {xs : List Value} {v : Value} {w : World} (h : w.ownsRow base 42 6 v n xs) (hb : base' ≤ base) (hn : 0 < n) : OwnP base' n xs v w := by
  rcases h.2 with ⟨_, h0⟩ | ⟨g, cap, cur, rfl, hbase, hg, hn', hm, hsz, htk⟩
  · omega
  · exact ⟨g, cap, cur.toList, rfl, by omega, by unfold Blk; simpa using hg, hn', hm, by simpa using hsz, htk⟩
/-- What an operation of the region may turn. -/
structure RelP (base n1 : Nat) (xs1 : List Value) (n2 : Nat) (xs2 : List Value) (w w' : World) : Prop where
  os : w'.os = w.os
  tape : w'.tape = w.tape
  output : w'.output = w.output
  size : w.heap.size ≤ w'.heap.size
  block : ∀ k, k < base → k < w.heap.size → w'.heap[k]? = w.heap[k]?
  own : ∀ b cur, base ≤ b → Blk w b cur 42 → ∃ cur', Blk w' b cur' 42 ∧ cur'.length = cur.length ∧ (cur.take (n1 * 6) = xs1 → cur'.take (n1 * 6) = xs1) ∧ (cur.take (n2 * 6) = xs2 → cur'.take (n2 * 6) = xs2)
theorem RelP.of_ext {base n1 n2 : Nat} {xs1 xs2 : List Value} {w w' : World} (h : Ext w w') : RelP base n1 xs1 n2 xs2 w w' :=
  ⟨h.os, h.tape, h.output, h.size, fun k _ hk => h.block k (Nat.zero_le _) hk, fun b cur _ hB => ⟨cur, hB.ext h, rfl, id, id⟩⟩
theorem OwnP.st1 {base n1 n2 : Nat} {xs1 xs2 : List Value} : ∀ v w w', RelP base n1 xs1 n2 xs2 w w' → OwnP base n1 xs1 v w → OwnP base n1 xs1 v w' := fun _ _ _ hr ⟨b, cap, cur, h1, h2, h3, h4, h5, h6, h7⟩ => by
  obtain ⟨cur', k1, k2, k3, _⟩ := hr.own b cur h2 h3
  exact ⟨b, cap, cur', h1, h2, k1, h4, h5, by rw [k2, h6], k3 h7⟩
theorem OwnP.st2 {base n1 n2 : Nat} {xs1 xs2 : List Value} : ∀ v w w', RelP base n1 xs1 n2 xs2 w w' → OwnP base n2 xs2 v w → OwnP base n2 xs2 v w' := fun _ _ _ hr ⟨b, cap, cur, h1, h2, h3, h4, h5, h6, h7⟩ => by
  obtain ⟨cur', k1, k2, _, k4⟩ := hr.own b cur h2 h3
  exact ⟨b, cap, cur', h1, h2, k1, h4, h5, by rw [k2, h6], k4 h7⟩
theorem RelP.keep {base n1 n2 : Nat} {xs1 xs2 : List Value} {w0 w w' : World} (h : RelP base n1 xs1 n2 xs2 w w') (k : Ext w0 w) (hb : w0.heap.size ≤ base) : Ext w0 w' :=
  ⟨h.os.trans k.os, h.tape.trans k.tape, h.output.trans k.output, Nat.le_trans k.size h.size, fun i _ hi => (h.block i (by omega) (Nat.lt_of_lt_of_le hi k.size)).trans (k.block i (Nat.zero_le _) hi)⟩
/-- The second append. -/
theorem RelP.upd {base b n1 n2 cap : Nat} {xs1 news : List Value} {cur : List Value} {w w' : World} (hu : Upd b w w') (hb : base ≤ b) (hB : Blk w b cur 42) (hl : cur.length = cap * 6) (hc : n2 ≤ cap) (h1 : cur.take (n1 * 6) = xs1) (hx1 : xs1.length = n1 * 6) (hn : n1 * 6 + news.length = n2 * 6)
    (hB' : Blk w' b (cur.take (n1 * 6) ++ news ++ cur.drop (n1 * 6 + news.length)) 42) : RelP base n1 xs1 n2 (xs1 ++ news) w w' := by
  have hlen : (cur.take (n1 * 6) ++ news ++ cur.drop (n1 * 6 + news.length)).length = cur.length := by
    simp only [List.length_append, List.length_take, List.length_drop]; omega
  refine ⟨hu.os, hu.tape, hu.output, Nat.le_of_eq hu.size.symm, fun k hk _ => hu.block k (by omega), fun b' cur' hb' hB2 => ?_⟩
  by_cases e : b' = b
  · subst e
    have e2 := hB2.symm.trans hB
    simp only [Option.some.injEq, Obj.cells.injEq] at e2
    have ecur : cur' = cur := by have := congrArg Array.toList e2.1; simpa using this
    subst ecur
    refine ⟨_, hB', hlen, fun _ => ?_, fun _ => ?_⟩
    · rw [h1, ← hx1, List.append_assoc, List.take_left]
    · rw [h1, ← hn, ← hx1, ← List.length_append, List.take_left]
  · exact ⟨cur', hB2.upd hu e, rfl, id, id⟩
theorem ucells_one_all {lo : Nat} {w : World} {v : Value} {us : List UnV} (h : Units lo w v us) : ∀ c ∈ ucells us, c.oneCell' = true := ucells_oneCell h.ok
theorem turn_room {base b n1 k m cap : Nat} {xs1 nw cur : List Value} {w0 w w' : World} (hu : Upd b w w') (hb : base ≤ b) (hB : Blk w b cur 42) (hl : cur.length = cap * 6) (hcm : cap ≤ maxLen) (hn1 : n1 = m - k) (hkm : k < m) (hc : n1 + k ≤ cap) (h1 : cur.take (n1 * 6) = xs1) (hx1 : xs1.length = n1 * 6) (hnw : nw.length = k * 6) (hext : Ext w0 w) (hb0 : w0.heap.size ≤ base)
    (hB' : Blk w' b (cur.take (n1 * 6) ++ nw ++ cur.drop (n1 * 6 + nw.length)) 42) : (RelP base n1 xs1 m (xs1 ++ nw) w w' ∧ Ext w0 w') ∧ OwnP base m (xs1 ++ nw) (.slice (some ⟨b, 0, none⟩) (n1 + k) cap) w' := by
  have e : n1 + k = m := by omega
  have hR := RelP.upd (n2 := m) hu hb hB hl (by omega) h1 hx1 (by omega) hB'
  refine ⟨⟨hR, hR.keep hext hb0⟩, b, cap, _, by rw [e], hb, hB', by omega, hcm, ?_, ?_⟩
  · simp only [List.length_append, List.length_take, List.length_drop]; omega
  · rw [h1, show m * 6 = (xs1 ++ nw).length by rw [List.length_append]; omega, List.take_left]
theorem turn_grow {base n1 k m : Nat} {xs1 nw cur : List Value} {v : Value} {w0 w w' : World} (he : Ext w w') (hO : w'.ownsRow w.heap.size 42 6 v (n1 + k) (cur.take (n1 * 6) ++ nw)) (hn1 : n1 = m - k) (hkm : k < m) (h1 : cur.take (n1 * 6) = xs1) (hext : Ext w0 w) (hb : base ≤ w.heap.size) : (RelP base n1 xs1 m (xs1 ++ nw) w w' ∧ Ext w0 w') ∧ OwnP base m (xs1 ++ nw) v w' := by
  have e : n1 + k = m := by omega
  rw [e, h1] at hO
  exact ⟨⟨RelP.of_ext he, hext.trans he⟩, OwnP.of_row hO hb (by omega)⟩
/-- 's[l:h]', its value. -/
def cutLH (sz : Nat) : Value → Nat → Nat → Value
  | .slice oa _ cap, l, h => .slice (if cap = l then oa else oa.map (·.add (l * sz))) (h - l) (cap - l)
  | v, _, _ => v
theorem Sl_cutLH {lo : Nat} {w : World} {v : Value} {n l h sz : Nat} {cs : List Value} (hv : Sl lo w v n sz cs) (h1 : l ≤ h) (h2 : h ≤ n) : Sl lo w (cutLH sz v l h) (h - l) sz ((cs.drop (l * sz)).take ((h - l) * sz)) := by
  obtain ⟨hl, oa, cap, rfl, hc, hm, hr⟩ := hv
  refine ⟨?_, _, cap - l, rfl, by omega, by omega, ?_⟩
  · rw [List.length_take, List.length_drop, hl]
    refine Nat.min_eq_left ?_
    rw [← Nat.sub_mul]; exact Nat.mul_le_mul_right _ (by omega)
  · rcases hr with hr | ⟨ad, e1, e2, e3⟩
    · left; omega
    · by_cases hc2 : cap = l
      · left; omega
      · refine .inr ⟨ad.add (l * sz), by rw [if_neg hc2, e1]; rfl, by rw [add_block]; exact e2, (e3.drop _).take _⟩
theorem O.cutLHx {C : Cx} {e : Env} {w w₁ : World} {K : Value → World → Prop} {d : Option Tmp} {ty : TypeId} {pos : String} {aft : Array Edge} {g : Option (Nat × Bool)} {x y z : Operand} {t : TypeId} {v : Value} {n sz lo l h : Nat} {cs : List Value} {el : TypeId} (hu : ∀ w, (underlying t).run C.P w = .ok (.slice el) w) (hs : ∀ w, (sizeOf el).run C.P w = .ok sz w) (hx : ev e x = some v) (hy : ev e y = some (.int .i64 l)) (hz : ev e z = some (.int .i64 h))
    (hv : Sl lo w₁ v n sz cs) (h1 : l ≤ h) (h2 : h ≤ n) (hk : K (cutLH sz v l h) w) : O C e ⟨d, .slice t x (some y) (some z) none, ty, pos, aft, g⟩ w K := by
  obtain ⟨hl, oa, cap, rfl, hc, hm, hr⟩ := hv
  exact O.of_run (by simp) (fun a ha => by
    simp [execOp, Instr.sliceAt, Instr.slice, Instr.sliceBounds, Instr.sliceBound, asIntOf, ha.eval hx, ha.eval hy, ha.eval hz, hu w, hs w, h1, show h ≤ cap by omega]
    rfl) hk
theorem O.cutLx {C : Cx} {e : Env} {w w₁ : World} {K : Value → World → Prop} {d : Option Tmp} {ty : TypeId} {pos : String} {aft : Array Edge} {g : Option (Nat × Bool)} {x y : Operand} {t : TypeId} {v : Value} {n sz lo l : Nat} {cs : List Value} {el : TypeId} (hu : ∀ w, (underlying t).run C.P w = .ok (.slice el) w) (hs : ∀ w, (sizeOf el).run C.P w = .ok sz w) (hx : ev e x = some v) (hy : ev e y = some (.int .i64 l))
    (hv : Sl lo w₁ v n sz cs) (h1 : l ≤ n) (hk : K (cutLH sz v l n) w) : O C e ⟨d, .slice t x (some y) none none, ty, pos, aft, g⟩ w K := by
  obtain ⟨hl, oa, cap, rfl, hc, hm, hr⟩ := hv
  exact O.of_run (by simp) (fun a ha => by
    simp [execOp, Instr.sliceAt, Instr.slice, Instr.sliceBounds, Instr.sliceBound, asIntOf, ha.eval hx, ha.eval hy, hu w, hs w, h1]
    rfl) hk
set_option maxHeartbeats 1000000 in
theorem UnitsTurned_calls (lo : Nat) (d : Dr) (tn : Int) (set : Nat) (w : World) (hd : d.ok lo w) (htn : Low8 tn) (hset : set < 18446744073709551616) :
    Calls Tryd.prog 3 #[d.val, .int .u8 tn, .int .u64 set] w (Ret fun v w' => v = .bool true ∧ Ext w w') := by
  refine T.enter (vs := [d.val, .int .u8 tn, .int .u64 set]) Tryd.func3 rfl Tryd.ntmps3 rfl ?_
  refine T.seq (T.region (L.op rfl rfl (O.box rfl (fun b5 w5 hb5 hz5 he5 hB5 => ?_))))
  unfold Low8 at htn
  have hD5 : Blk w5 b5 d.cells 27 := hB5
  refine L.op rfl rfl (O.assign rfl (L.nil (T.seq (T.seq (T.region (L.op rfl rfl (O.call (xs := []) Tryd.call8 rfl rfl (works_calls w5) (fun v0 w0 hq => ?_))))))))
  obtain ⟨rfl, he0⟩ := hq
  refine L.op rfl rfl (O.not rfl (L.nil (T.cond_false rfl (T.skip (T.seq (T.region (L.op rfl rfl (O.loadAgg Tryd.isAgg27 Tryd.sizeOf27 rfl rfl ((hD5.ext he0).row) (L.op rfl rfl (O.call (xs := [.tmp 25]) Tryd.call9 rfl rfl (DRoll_calls lo d w0 (hd.ext (he5.trans he0))) (fun v7 w7 hq => ?_)))))))))))
  obtain ⟨he7, n, r, rfl, hr7, hdr⟩ := hq
  refine L.op rfl rfl (O.alloc Tryd.zeroValue32 (fun b8 w8 hb8 hz8 he8 hB8 => ?_))
  refine L.op rfl rfl (O.storeAgg Tryd.sizeOf32 rfl rfl rfl hB8 (Nat.le_refl _) (by intro u hu; simp [RoV.cells] at hu; rcases hu with (rfl|rfl|rfl|rfl); rfl; rfl; rfl; exact hr7.one) (fun w9 hu9 hB9 => ?_))
  replace hu9 : Upd b8 w8 w9 := hu9
  have hC9 : Blk w9 b8 [.int .i64 r.G, .int .i64 r.P, .int .i64 r.L, r.uv] 32 := hB9
  have he79 : Ext w7 w9 := he8.upd hu9 (.inr (by omega))
  have hr9 := hr7.ext he79
  have he09 : Ext w w9 := ((he5.trans he0).trans he7).trans he79
  have hok := drafted_ok hdr hd.nl hd.g0 hd.p0 hd.l0 hd.a0
  have h0n := rollErr_ok hok
  have hbnd := roll_bnd h0n
  have hln := landsN_le r.us
  have hlp : 0 < landsN r.us := by
    rcases Nat.eq_zero_or_pos (landsN r.us) with e | e
    · have h1 := landsN_wet r.us (by omega)
      rw [e, (hok.good 0 (by omega)).first rfl] at h1
      cases h1
    · exact e
  obtain ⟨m, hm⟩ : ∃ m, m = landsN r.us := ⟨_, rfl⟩
  have hm64 : m ≤ 64 := by omega
  have hlr : landRes r = (m : Int) := by rw [landRes_ok h0n, hm]
  refine L.nil (T.seq (T.region (L.op rfl rfl (O.loadAgg Tryd.isAgg32 Tryd.sizeOf32 rfl rfl hC9.row (L.op rfl rfl (O.call (xs := [.tmp 28]) Tryd.call10 rfl rfl (Land_calls w0.heap.size r w9 hr9) (fun v10 w10 hq => ?_)))))))
  obtain ⟨rfl, he10⟩ := hq
  rw [hlr]
  refine L.op rfl rfl (O.move rfl (L.op rfl rfl (O.extract rfl rfl (L.op rfl rfl (O.extract rfl rfl (L.op rfl rfl (O.assign rfl (L.op rfl rfl (O.assign rfl (L.nil (T.seq (T.seq (T.region (L.op rfl rfl (O.move rfl (L.op rfl rfl (O.neq_f rfl rfl h0n (?_))))))))))))))))))
  obtain ⟨k, hk⟩ : ∃ k : Nat, tn % (m : Int) = k := ⟨(tn % (m : Int)).toNat, by have := Int.emod_nonneg tn (show (m : Int) ≠ 0 by omega); omega⟩
  have hkm : k < m := by have := Int.emod_lt_of_pos tn (show (0 : Int) < m by omega); omega
  refine L.nil (T.cond_false rfl (T.skip (T.seq (T.region (L.op rfl rfl (O.move rfl (L.op rfl rfl (O.conv_to rfl (fun w => ⟨_, Tryd.runUnderlying5 w⟩) Tryd.runUnderlying3 (IntWalk.i64_in _ ⟨by omega, by omega⟩) (L.op rfl rfl (O.move rfl (L.op rfl rfl (O.rem rfl rfl (by omega) (by omega) (?_)))))))))))))
  rw [hk]
  have hC10 := hC9.ext he10
  have hr10 := hr9.ext he10
  have hU10 : Units w0.heap.size w10 r.uv r.us := hr10
  have hlen : r.us.length ≤ 64 := by omega
  obtain ⟨xs1, hx1⟩ : ∃ xs1, xs1 = ucells ((r.us.take m).drop k) := ⟨_, rfl⟩
  obtain ⟨nw, hnw⟩ : ∃ nw, nw = ucells (r.us.take k) := ⟨_, rfl⟩
  have hx1l : xs1.length = (m - k) * 6 := by rw [hx1, ucells_len, List.length_drop, List.length_take]; congr 1; omega
  have hnwl : nw.length = k * 6 := by rw [hnw, ucells_len, List.length_take]; congr 1; omega
  have hone := ucells_one_all hU10
  have hone1 : ∀ c ∈ xs1, c.oneCell' = true := fun c hc => by
    rw [hx1, ← ucells_drop, ← ucells_take] at hc
    exact hone c (List.mem_of_mem_take (List.mem_of_mem_drop hc))
  have hone2 : ∀ c ∈ nw, c.oneCell' = true := fun c hc => by
    rw [hnw, ← ucells_take] at hc
    exact hone c (List.mem_of_mem_take hc)
  have hone3 : ∀ c ∈ ucells (r.us.drop m), c.oneCell' = true := fun c hc => by
    rw [← ucells_drop] at hc
    exact hone c (List.mem_of_mem_drop hc)
  have hb8 := hC10.lt
  have hsl1 : Sl 0 w10 (cutLH 6 r.uv k m) (m - k) 6 xs1 := by
    have := Sl_cutLH hU10.sl (show k ≤ m by omega) (show m ≤ r.us.length by omega)
    rw [ucells_drop, ucells_take, ← List.drop_take, ← hx1] at this
    exact this.mono (Nat.zero_le _)
  have hsl2 : Sl 0 w10 (cutH r.uv k) k 6 nw := by
    have := Sl_cutH hU10.sl (show k ≤ r.us.length by omega)
    rw [ucells_take, ← hnw] at this
    exact this.mono (Nat.zero_le _)
  have hsl3 : Sl 0 w10 (cutLH 6 r.uv m r.us.length) (r.us.length - m) 6 (ucells (r.us.drop m)) := by
    have := Sl_cutLH hU10.sl (show m ≤ r.us.length by omega) (Nat.le_refl _)
    rw [ucells_drop, List.take_of_length_le (by rw [ucells_len, List.length_drop]; exact Nat.le_refl _)] at this
    exact this.mono (Nat.zero_le _)
  refine L.op rfl rfl (O.assign rfl (L.nil (T.seq (T.region (L.op rfl rfl (O.assign rfl (L.nil (T.seq (?_)))))))))
  refine T.anyF mixed 16 0 [11, 7, 10, 8] rfl [.is _, .is _, .is _, .is _, .is _, .is _, .such (OwnP w10.heap.size (m - k) xs1), .is _, .is _, .is _, .is _, .such (OwnP w10.heap.size m (xs1 ++ nw)), .is _, .is _, .is _, .is _] [[], [], [1], [], [], [2, 3, 4], [0, 5], [], [7], [], [8, 9], [6, 10], [], [12], [], [13, 14]] [none, none, none, none, none, none, none, none, none, none, none, none, none, none, none, none] [[], [], [1], [], [], [1, 2, 3, 4], [0, 1, 2, 3, 4, 5], [], [7], [], [7, 8, 9], [0, 1, 2, 3, 4, 5, 6, 7, 8, 9, 10], [], [12], [], [12, 13, 14], [0, 1, 2, 3, 4, 5, 6, 7, 8, 9, 10, 11, 12, 13, 14, 15], [0, 1, 2, 3, 4, 5, 6, 7, 8, 9, 10, 11, 12, 13, 14, 15, 16]] [] [] (fun _ _ _ _ _ => True) (fun _ W => Ext w10 W) (RelP w10.heap.size (m - k) xs1 m (xs1 ++ nw)) (fun i f v w hi hf hh => by simp at hi) (fun _ _ _ _ _ _ _ _ => trivial) (by kernel_rfl) (by kernel_rfl) (by kernel_rfl) (by kernel_rfl) rfl ⟨OwnP.st1, OwnP.st2, trivial⟩ (Keep.drew _ _) ⟨fun c wx hx => ObX.op rfl (O.move rfl ⟨⟨RelP.of_ext (Keep.refl _ _), hx⟩, rfl, trivial, trivial⟩),
      fun c wx hx => ObX.op rfl (O.fieldAddr Tryd.runUnderlying32 rfl Tryd.sizeOf30 rfl ⟨⟨RelP.of_ext (Keep.refl _ _), hx⟩, rfl, trivial, trivial⟩),
      fun c wx hx => ObX.op rfl (O.load Tryd.isAgg30 rfl ((hC10.ext hx).cell rfl) ⟨⟨RelP.of_ext (Keep.refl _ _), hx⟩, rfl, trivial, trivial⟩),
      fun c wx hx => ObX.op rfl (O.move rfl ⟨⟨RelP.of_ext (Keep.refl _ _), hx⟩, rfl, trivial, trivial⟩),
      fun c wx hx => ObX.op rfl (O.move rfl ⟨⟨RelP.of_ext (Keep.refl _ _), hx⟩, rfl, trivial, trivial⟩),
      fun c wx hx => ObX.op rfl (O.cutLHx (l := k) (h := m) Tryd.runUnderlying30 Tryd.sizeOf42 rfl rfl rfl hU10.sl (by omega) (by omega) ⟨⟨RelP.of_ext (Keep.refl _ _), hx⟩, rfl, trivial, trivial⟩),
      fun c wx hx => ObX.op rfl (O.append (size := 6) (bytes := 104) Tryd.runUnderlying30 Tryd.infoOf42 rfl rfl rfl rfl (by decide) rfl rfl (owns_nil wx w10.heap.size 42 6) (hsl1.ext hx) hone1 (by omega) (by simp only [maxLen]; omega) hx.size (fun v44 w44 hO44 hG44 => and3 ⟨⟨RelP.of_ext (Keep.grown (Keep.refl _ _) hG44 (fun j hj => by cases hj)), hx.trans (Keep.grown (Keep.refl _ _) hG44 (fun j hj => by cases hj))⟩, OwnP.of_row (by simpa using hO44) (Nat.le_refl _) (by omega)⟩ ⟨trivial, trivial⟩)),
      fun c wx hx => ObX.op rfl (O.fieldAddr Tryd.runUnderlying32 rfl Tryd.sizeOf30 rfl ⟨⟨RelP.of_ext (Keep.refl _ _), hx⟩, rfl, trivial, trivial⟩),
      fun c wx hx => ObX.op rfl (O.load Tryd.isAgg30 rfl ((hC10.ext hx).cell rfl) ⟨⟨RelP.of_ext (Keep.refl _ _), hx⟩, rfl, trivial, trivial⟩),
      fun c wx hx => ObX.op rfl (O.move rfl ⟨⟨RelP.of_ext (Keep.refl _ _), hx⟩, rfl, trivial, trivial⟩),
      fun c wx hx => ObX.op rfl (O.cutH (m := k) Tryd.runUnderlying30 Tryd.sizeOf42 rfl rfl (Units.ext hU10 hx).sl (by omega) ⟨⟨RelP.of_ext (Keep.refl _ _), hx⟩, rfl, trivial, trivial⟩),
      fun c wx hx v44 hv44 => by { obtain ⟨bq, cap, cur, rfl, q2, q3, q4, q5, q6, q7⟩ := hv44; exact ObX.op rfl (O.append2 (size := 6) (bytes := 104) Tryd.runUnderlying30 Tryd.infoOf42 rfl rfl rfl rfl (by decide) rfl rfl q3 (hsl2.ext hx) hone2 q4 q5 q6 (by simp only [maxLen]; omega) (by omega) (fun w' hrm hu hB ↦ and3 (turn_room hu q2 q3 q6 q5 rfl hkm hrm q7 hx1l hnwl hx (Nat.le_refl _) hB) ⟨trivial, trivial⟩) (fun v49 w49 he49 hO49 => and3 (turn_grow he49 hO49 rfl hkm q7 hx hx.size) ⟨trivial, trivial⟩)) },
      fun c wx hx => ObX.op rfl (O.fieldAddr Tryd.runUnderlying32 rfl Tryd.sizeOf30 rfl ⟨⟨RelP.of_ext (Keep.refl _ _), hx⟩, rfl, trivial, trivial⟩),
      fun c wx hx => ObX.op rfl (O.load Tryd.isAgg30 rfl ((hC10.ext hx).cell rfl) ⟨⟨RelP.of_ext (Keep.refl _ _), hx⟩, rfl, trivial, trivial⟩),
      fun c wx hx => ObX.op rfl (O.move rfl ⟨⟨RelP.of_ext (Keep.refl _ _), hx⟩, rfl, trivial, trivial⟩),
      fun c wx hx => ObX.op rfl (O.cutLx (l := m) Tryd.runUnderlying30 Tryd.sizeOf42 rfl rfl hU10.sl (by omega) ⟨⟨RelP.of_ext (Keep.refl _ _), hx⟩, rfl, trivial, trivial⟩),
      trivial⟩ (fun w11 hI11 v44 hv44 v49 hv49 hp11 => ?_)
  refine L.op rfl rfl (O.append (size := 6) (bytes := 104) Tryd.runUnderlying30 Tryd.infoOf42 rfl rfl rfl rfl (by decide) rfl rfl (hv49.row (by rw [List.length_append, hx1l, hnwl]; omega)) (hsl3.ext hI11) hone3 (by omega) (by simp only [maxLen]; omega) hI11.size (fun v12 w12 hO12 hG12 => ?_))
  have hE12 : Ext w10 w12 := Keep.grown0 hI11 (hv49.row (by rw [List.length_append, hx1l, hnwl]; omega)) hG12 (Nat.le_refl _)
  have hcv : xs1 ++ nw ++ ucells (r.us.drop m) = ucells (turnU r.us k m) := by rw [hx1, hnw, turnU, ucells_append, ucells_append]
  have hmn : m ≤ r.us.length := by omega
  have htl := turn_len hkm hmn
  have hln2 : m + (r.us.length - m) = (turnU r.us k m).length := by omega
  rw [hcv, hln2] at hO12
  have hU12 : Units w0.heap.size w12 v12 (turnU r.us k m) := ⟨(Sl.of_owns hO12).mono (by have := he7.size; have := he79.size; have := he10.size; omega), fun x hx ↦ by
    refine (hU10.ok x ?_).ext hE12
    simp only [turnU, List.mem_append] at hx
    rcases hx with (hx | hx) | hx
    · exact List.mem_of_mem_take (List.mem_of_mem_drop hx)
    · exact List.mem_of_mem_take hx
    · exact List.mem_of_mem_drop hx⟩
  have hC12 := hC10.ext hE12
  have hr12 := hr10.ext hE12
  refine L.op rfl rfl (O.assign rfl (L.nil (T.seq (T.region (L.op rfl rfl (O.loadAgg Tryd.isAgg32 Tryd.sizeOf32 rfl rfl hC12.row (L.op rfl rfl (O.alloc Tryd.zeroValue32 (fun b13 w13 hb13 hz13 he13 hB13 => ?_)))))))))
  refine L.op rfl rfl (O.storeAgg Tryd.sizeOf32 rfl rfl rfl hB13 (Nat.le_refl _) (by intro u hu; simp at hu; rcases hu with (rfl|rfl|rfl|rfl); rfl; rfl; rfl; exact hr12.one) (fun w14 hu14 hB14 => ?_))
  replace hu14 : Upd b13 w13 w14 := hu14
  refine L.nil (T.seq (T.region (L.op rfl rfl (O.move rfl (L.op rfl rfl (O.fieldAddr Tryd.runUnderlying32 rfl Tryd.sizeOf30 rfl (L.op rfl rfl (O.store1 Tryd.sizeOf30 (Sl.one (Sl.of_owns hO12)) rfl rfl hB14 (by simp [Value.cells]) (fun w15 hu15 hB15 => ?_)))))))))
  replace hu15 : Upd b13 w14 w15 := hu15
  have hN15 : Blk w15 b13 [.int .i64 r.G, .int .i64 r.P, .int .i64 r.L, v12] 32 := hB15
  have he1215 : Ext w12 w15 := (he13.upd hu14 (.inr (by omega))).upd hu15 (.inr (by omega))
  have hC15 := hC12.ext he1215
  have hr15 := hr12.ext he1215
  have hU15 := hU12.ext he1215
  have hn15 : (⟨r.G, r.P, r.L, v12, turnU r.us k m⟩ : RoV).ok w0.heap.size w15 := hU15
  refine L.nil (T.seq (T.region (L.op rfl rfl (O.move rfl (L.op rfl rfl (O.move rfl (L.op rfl rfl (O.bit_u64 rfl rfl (by omega) (L.op rfl rfl (O.mask_u64 rfl rfl (by show (m : Int).toNat ≤ 64; omega) (?_)))))))))))
  rw [Int.toNat_natCast]
  have hpw := pow64 hm64
  have hp0 : 0 < 2 ^ m := Nat.pow_pos (by decide)
  refine L.op rfl rfl (O.and_u64 (b := 2 ^ m - 1) rfl rfl hset (by omega) rfl rfl (?_))
  obtain ⟨s, hs⟩ : ∃ s, s = set &&& (2 ^ m - 1) := ⟨_, rfl⟩
  rw [← hs]
  have hsm : s < 2 ^ landsN r.us := by rw [hs, ← hm]; exact low_mask _ _
  have hs64 : s < 18446744073709551616 := by rw [← hm] at hsm; omega
  refine L.op rfl rfl (O.assign rfl (L.nil (T.seq (T.region (L.op rfl rfl (O.assign rfl (L.nil (T.seq (T.seq (T.region (L.op rfl rfl (O.move rfl (L.op rfl rfl (O.move rfl (L.nil (T.block (?_)))))))))))))))))
  refine T.loop (σ := Nat) (fun i => [(2, .int .u64 s), (7, .pointer (some ⟨b8, 0, none⟩)), (8, .int .i64 m), (10, .int .i64 k), (11, v12), (12, .pointer (some ⟨b13, 0, none⟩)), (13, .int .u64 (mvTo s k m i)), (63, .int .i64 m), (64, .int .i64 i)]) (fun i w' => i ≤ m ∧ Ext w15 w') (fun i => m - i) (0) ⟨rfl, rfl, rfl, rfl, rfl, rfl, rfl, rfl, rfl, trivial⟩ ⟨Nat.zero_le _, Keep.refl _ _⟩ ?_
  rintro i w16 ⟨hi, he16⟩
  refine T.seq (T.region (L.op rfl rfl (O.lss_s rfl rfl (fun hlt => ?_) (fun hlt => ?_))))
  · refine L.nil (?_)
    have hlt' : i < m := by omega
    have hd2 := div_lt64 hs64 i
    have hbt := bit_test s i
    have hml := mvTo_lt s k m i
    refine T.seq (T.cond_true rfl (T.skip (T.seq (T.block (T.seq (T.region (L.op rfl rfl (O.move rfl (L.op rfl rfl (O.assign rfl (L.nil (T.seq (T.region (L.op rfl rfl (O.move rfl (L.op rfl rfl (O.move rfl (L.op rfl rfl (O.shr_u64 rfl rfl rfl hs64 (by omega) (L.op rfl rfl (O.and_u64 (b := 1) rfl rfl (by rw [Int.toNat_natCast]; exact hd2) (by decide) rfl rfl (?_))))))))))))))))))))))
    rcases hbit : s.testBit i with _ | _
    · refine L.op rfl rfl (O.eql_f rfl rfl (by rw [Int.toNat_natCast]; exact fun h => by have := hbt.1 h; rw [hbit] at this; cases this) (L.nil (T.cond_false rfl (T.skip (T.blk (T.region (L.op rfl rfl (O.add64 rfl rfl (by omega) (L.op rfl rfl (O.move rfl (L.nil (T.again (i + 1) (by omega) ⟨rfl, rfl, rfl, rfl, rfl, rfl, ?_, rfl, rfl, trivial⟩ ⟨by omega, he16⟩))))))))))))
      · rw [mvTo, hbit]; rfl
    · refine L.op rfl rfl (O.eql_t rfl rfl (by rw [Int.toNat_natCast]; exact hbt.2 hbit) (L.nil (T.cond_true rfl (T.region (L.op rfl rfl (O.move rfl (L.op rfl rfl (O.move rfl (L.op rfl rfl (O.move rfl (L.op rfl rfl (O.add64 rfl rfl (by omega) (L.op rfl rfl (O.move rfl (L.op rfl rfl (O.sub64 rfl rfl (by omega) (L.op rfl rfl (O.move rfl (L.op rfl rfl (O.rem rfl rfl (by omega) (by omega) (?_)))))))))))))))))))))
      have hmd : ((i : Int) + m - k) % m = (((i + m - k) % m : Nat) : Int) := by rw [show (i : Int) + m - k = ((i + m - k : Nat) : Int) by omega]; rfl
      rw [hmd]
      refine L.op rfl rfl (O.bit_u64 rfl rfl (by omega) (L.op rfl rfl (O.or_u64 rfl rfl hml (bit64_lt _) rfl rfl (L.op rfl rfl (O.assign rfl (L.nil (T.blk (T.region (L.op rfl rfl (O.add64 rfl rfl (by omega) (L.op rfl rfl (O.move rfl (L.nil (T.again (i + 1) (by omega) ⟨rfl, rfl, rfl, rfl, rfl, rfl, ?_, rfl, rfl, trivial⟩ ⟨by omega, he16⟩))))))))))))))
      · rw [mvTo, hbit, if_pos rfl]; rfl
  · refine L.nil (?_)
    obtain rfl : i = m := by omega
    obtain ⟨mv, hmv⟩ : ∃ mv, mv = mvTo s k i i := ⟨_, rfl⟩
    have hml := mvTo_lt s k i i
    rw [← hmv] at hml ⊢
    obtain ⟨tp, te, tg, tv⟩ := turned_tot (uv := v12) h0n (show k < landsN r.us by omega) hsm
    rw [← hm, ← hmv] at tp te tg tv
    refine T.seq (T.cond_false rfl (T.exit rfl (T.seq (T.region (L.op rfl rfl (O.loadAgg Tryd.isAgg32 Tryd.sizeOf32 rfl rfl ((hC15.ext he16).row) (L.op rfl rfl (O.move rfl (L.op rfl rfl (O.call (xs := [.tmp 84, .tmp 85]) Tryd.call11 rfl rfl (Total_calls w0.heap.size r s w16 (hr15.ext he16) hs64) (fun v17 w17 hq => ?_)))))))))))
    obtain ⟨he17, g1, x1, rfl, hg1, hx1⟩ := hq
    refine L.op rfl rfl (O.move rfl (L.op rfl rfl (O.extract rfl rfl (L.op rfl rfl (O.extract rfl rfl (L.op rfl rfl (O.extract rfl rfl (L.op rfl rfl (O.extract rfl rfl (L.op rfl rfl (O.assign rfl (L.op rfl rfl (O.assign rfl (L.op rfl rfl (O.assign rfl (L.op rfl rfl (O.assign rfl (L.nil (T.seq (T.seq (T.region (L.op rfl rfl (O.move rfl (L.op rfl rfl (O.neq_f rfl rfl (totErr_ok h0n hsm) (?_))))))))))))))))))))))))))
    have hn17 := (hN15.ext he16).ext he17
    refine L.op rfl rfl (O.move rfl (L.op rfl rfl (O.loadAgg Tryd.isAgg32 Tryd.sizeOf32 rfl rfl hn17.row (L.op rfl rfl (O.move rfl (L.op rfl rfl (O.move rfl (L.op rfl rfl (O.move rfl (L.op rfl rfl (O.move rfl (L.op rfl rfl (O.call (xs := [.tmp 94, .tmp 95, .tmp 96, .tmp 97, .tmp 98]) Tryd.call12 rfl rfl (totals_calls w0.heap.size _ _ ⟨r.G, r.P, r.L, v12, turnU r.us k i⟩ mv (totP r s) _ _ _ _ w17 ((hn15.ext he16).ext he17) hml hg1 hx1) (fun v18 w18 hq => ?_))))))))))))))
    obtain ⟨hv18, he18⟩ := hq
    rw [decide_eq_true (show _ ∧ _ ∧ _ ∧ _ from ⟨tp, te, tg, tv⟩)] at hv18
    subst hv18
    have he1518 := he16.trans (he17.trans he18)
    have hU18 := hU15.ext he1518
    refine L.op rfl rfl (O.not rfl (L.op rfl rfl (O.pick_false rfl rfl (L.nil (T.cond_false rfl (T.skip (T.seq (T.seq (T.region (L.op rfl rfl (O.move rfl (L.op rfl rfl (O.len Tryd.runUnderlying30 rfl (Sl.val hU18.sl) (L.op rfl rfl (O.move rfl (L.nil (T.block (?_))))))))))))))))))
    refine T.loop (σ := Nat) (fun j => [(7, .pointer (some ⟨b8, 0, none⟩)), (10, .int .i64 k), (12, .pointer (some ⟨b13, 0, none⟩)), (102, v12), (103, .int .i64 (turnU r.us k i).length), (104, .int .i64 j)]) (fun j w' => j ≤ (turnU r.us k i).length ∧ Ext w18 w') (fun j => (turnU r.us k i).length - j) (0) ⟨rfl, rfl, rfl, rfl, rfl, rfl, trivial⟩ ⟨Nat.zero_le _, Keep.refl _ _⟩ ?_
    rintro j w19 ⟨hj, he19⟩
    refine T.seq (T.region (L.op rfl rfl (O.lss_s rfl rfl (fun hltj => ?_) (fun hltj => ?_))))
    · refine L.nil (?_)
      have hj' : j < (turnU r.us k i).length := by omega
      have hU19 := hU18.ext he19
      have hat := hU19.at hj'
      refine T.seq (T.cond_true rfl (T.skip (T.seq (T.block (T.seq (T.region (L.op rfl rfl (O.move rfl (L.op rfl rfl (O.indexAddr Tryd.runUnderlying30 Tryd.sizeOf42 rfl rfl hU19.sl (by omega) (by omega) (L.op rfl rfl (O.loadAgg Tryd.isAgg42 Tryd.sizeOf42 rfl rfl (hU19.row hj') (L.op rfl rfl (O.alloc Tryd.zeroValue42 (fun b20 w20 hb20 hz20 he20 hB20 => ?_)))))))))))))))
      refine L.op rfl rfl (O.assign rfl (L.op rfl rfl (O.storeAgg Tryd.sizeOf42 rfl rfl rfl hB20 (Nat.le_refl _) hat.one (fun w21 hu21 hB21 => ?_))))
      replace hu21 : Upd b20 w20 w21 := hu21
      have hB21' : Blk w21 b20 ((turnU r.us k i).getD j u0).cells 42 := hB21
      have he21 : Ext w19 w21 := he20.upd hu21 (.inr (by omega))
      refine L.nil (T.seq (T.region (L.op rfl rfl (O.loadAgg Tryd.isAgg32 Tryd.sizeOf32 rfl rfl (((hN15.ext he1518).ext (he19.trans he21)).row) (L.op rfl rfl (O.fieldAddr Tryd.runUnderlying42 rfl Tryd.sizeOf9 rfl (L.op rfl rfl (O.load Tryd.isAgg9 rfl (hB21'.cell rfl) (L.op rfl rfl (O.call (xs := [.tmp 110, .tmp 112]) Tryd.call13 rfl rfl (Find_calls w0.heap.size ⟨r.G, r.P, r.L, v12, turnU r.us k i⟩ ((turnU r.us k i).getD j u0).nm w21 ((hn15.ext he1518).ext (he19.trans he21))) (fun v22 w22 hq => ?_)))))))))))
      obtain ⟨hv22, he22⟩ := hq
      have hfd := turned_find (uv := v12) h0n (show k < landsN r.us by omega) (show j < r.us.length by omega)
      rw [← hm] at hfd
      rw [hfd] at hv22
      subst hv22
      refine L.op rfl rfl (O.move rfl (L.op rfl rfl (O.extract rfl rfl (L.op rfl rfl (O.extract rfl rfl (L.op rfl rfl (O.assign rfl (L.op rfl rfl (O.assign rfl (L.nil (T.seq (T.region (L.op rfl rfl (O.move rfl (L.op rfl rfl (O.move rfl (L.op rfl rfl (O.neq_f rfl rfl rfl (L.op rfl rfl (O.move rfl (L.op rfl rfl (O.move rfl (L.op rfl rfl (O.neq_f rfl rfl rfl (L.op rfl rfl (O.pick_false rfl rfl (L.nil (T.cond_false rfl (T.skip (T.blk (T.region (L.op rfl rfl (O.add64 rfl rfl (by omega) (L.op rfl rfl (O.move rfl (L.nil (T.again (j + 1) (by omega) ⟨rfl, rfl, rfl, rfl, rfl, rfl, trivial⟩ ⟨by omega, he19.trans (he21.trans he22)⟩)))))))))))))))))))))))))))))))))))))
    · refine L.nil (?_)
      have hsm2 := turned_same (uv := v12) h0n (show k < landsN r.us by omega)
      rw [← hm] at hsm2
      refine T.seq (T.cond_false rfl (T.exit rfl (T.seq (T.region (L.op rfl rfl (O.loadAgg Tryd.isAgg32 Tryd.sizeOf32 rfl rfl (((hC15.ext he1518).ext he19).row) (L.op rfl rfl (O.loadAgg Tryd.isAgg32 Tryd.sizeOf32 rfl rfl (((hN15.ext he1518).ext he19).row) (L.op rfl rfl (O.call (xs := [.tmp 124, .tmp 125]) Tryd.call14 rfl rfl (SameRoll_calls w0.heap.size w0.heap.size r ⟨r.G, r.P, r.L, v12, turnU r.us k i⟩ w19 ((hr15.ext he1518).ext he19) ((hn15.ext he1518).ext he19)) (fun v20 w20 hq => ?_)))))))))))
      obtain ⟨hv20, he20⟩ := hq
      rw [hsm2] at hv20
      subst hv20
      refine L.op rfl rfl (O.move rfl (L.op rfl rfl (O.eql rfl rfl (L.op rfl rfl (O.eql_bool Tryd.runUnderlying4 rfl rfl (L.op rfl rfl (O.assign rfl (L.nil (T.ret1 Tryd.results3 rfl ⟨?_, ?_⟩)))))))))
      · simp
      · exact ((he09.trans (he10.trans (hE12.trans he1215))).trans he1518).trans (he19.trans he20)

end Go.Proofs.YtpgnaffcbbghgaaDoor
set_option linter.unusedVariables false
set_option linter.unusedSimpArgs false
set_option maxRecDepth 20000
namespace Go.Proofs.YtpgnaffcbbghgaaDoor
open Go Go.E RowKit ChangeShapes WideShapes
attribute [local irreducible] Go.E.T Go.E.L Go.E.O Go.E.Ob

set_option maxRecDepth 100000 in
theorem unitsTurned_lifted (os : Os) (started : os.Started) (H : Type) (enc : TypeId × Value → H) :
    ReturnsInHanded {} Tryd.checked os 3 .any (fun w args => (Rows.unitsTurnedSpec.pre enc Tryd.prog Tryd.f3 [] false w args ∧ laidMetH Tryd.prog laidL w) ∧ sizedMet enc Tryd.prog Tryd.f3 (OpenSpec.ofChange Rows.unitsTurnedSpec) false w args)
      (Rows.unitsTurnedSpec.post enc Tryd.prog Tryd.f3 false true false false) := by
  refine law_lifted (C := Tryd.checked) (X := fun w _ => laidMetH Tryd.prog laidL w) (tb := 4) (ts := [27, 5, 28]) (fun _ _ _ hh h => h.of_heap hh) own started (by kernel_rfl) Tryd.func3
    rfl Tryd.params3 (fun ds h => ?_) (by kernel_rfl) Tryd.underlying4 laidOut (by kernel_rfl)
    (ChangeSpec.witness_at (enc := enc) (C := Tryd.checked) (os := os) (X := fun w _ => laidMetH Tryd.prog laidL w) false (laidWorld os) #[.agg #[.int .u8 0, .int .u8 0, .slice none 0 0, .slice none 0 0, .bool false, .int .u8 0, .int .u8 0, .int .u8 0, .slice none 0 0, .int .u8 0], .int .u8 0, .int .u64 0] 8 rfl (by kernel_rfl) (by kernel_rfl) (by kernel_rfl) (by kernel_rfl) (by kernel_rfl) (laidWorld_met os _)) ?_
  · obtain ⟨a0, a1, a2, rfl⟩ := three h
    rfl
  · intro W vs hl ha hL
    obtain ⟨a0, a1, a2, rfl⟩ := three hl
    obtain ⟨d, rfl, hd⟩ := draft_of (ha 0 _ _ rfl rfl)
    obtain ⟨x, rfl, hx⟩ := (ha 1 _ _ rfl rfl).int Tryd.underlying5
    obtain ⟨y, rfl, hy⟩ := (ha 2 _ _ rfl rfl).int Tryd.underlying28
    obtain ⟨m, rfl, hm⟩ := wf_u64 hy
    exact UnitsTurned_calls 0 d x m W hd (wf_u8 hx) hm
theorem unitsTurned_over : Rows.UnitsTurnedSaid :=
  OpenClaim.holds_of_wide 3 Tryd.f3 rfl rfl rfl rfl rfl rfl rfl ⟨rfl, rfl, rfl, rfl, rfl⟩ rfl rfl rfl rfl rfl (by kernel_rfl) Tryd.func3 (by kernel_rfl)
    (of_decide_eq_true (by kernel_rfl)) (by unfold Func.isWrapper; first | (rw [if_pos (by decide +kernel)]; kernel_rfl) | (rw [if_neg (by decide +kernel)]; exact ⟨rfl, rfl⟩))
    (fun os started H enc _ => unitsTurned_lifted os started H enc)
theorem unitsTurned_holds : Rows.UnitsTurnedCardSaid :=
  Claim7.holds_tied_plain_at .later [] [.data, .pinned] true (true, "b5d2a6787cd311a4aa3a49cc99cf668e60f710bd562f8397d6b1be16cd78defe") false
    unitsTurned_over (fun _ h => by cases h) (by kernel_rfl) (fun _ h => by cases h) unitsTurned_row_tie rfl ⟨rfl, rfl⟩ (by kernel_rfl) rfl
    (fun f fn hf hfn => by
      obtain rfl : f = 3 := Option.some.inj ((show Tryd.prog.funcNamed Rows.unitsTurnedRow.func = some 3 by kernel_rfl).symm.trans hf) |>.symm
      obtain rfl : fn = Tryd.f3 := (Option.some.inj (Tryd.func3.symm.trans hfn)).symm
      exact ⟨by kernel_rfl, fun j t ht => by
        rw [Tryd.params3] at ht
        have hall : (([27, 5, 28] : List TypeId).all fun t => !Tryd.prog.wantsStandIn t) = true := by kernel_rfl
        have := List.all_eq_true.1 hall t (List.mem_of_getElem? (i := j) (by simpa using ht))
        have h2 : Tryd.prog.wantsStandIn t = false := by simpa using this
        exact h2⟩)
    (by kernel_rfl)
#print axioms unitsTurned_holds
end Go.Proofs.YtpgnaffcbbghgaaDoor
