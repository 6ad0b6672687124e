/-
  PlanChecks returns true for every input, and each argument reads behind the call as it read before. Conditions: the listed variable reads as the program's text lays it (tied by the card).
-/
import Derived.Test.YthjdljbghjelfaaDoorMg
import Derived.Test.YthjdljbghjelfaaDoorCards
set_option linter.unusedVariables false
set_option linter.unusedSimpArgs false
set_option maxRecDepth 20000
namespace Go.Proofs.YthjdljbghjelfaaDoor
open Go Go.E
attribute [local irreducible] Go.E.T Go.E.L Go.E.O Go.E.Ob

theorem PlanChecks_calls (N K B A n k : Int) (pv mv lv : Value) (ps ls : List Int) (ms : List (Int × Int)) (w : World) (hD : DraftOk w N K pv mv lv ps ls ms) (hB0 : 0 ≤ B) (hB1 : B ≤ 255) (hA0 : 0 ≤ A) (hA1 : A ≤ 255) (hT : Tab w) :
    Calls Tryd.prog 3 #[dV N pv mv lv K, beV B A n, .int .i64 k] w (Ret fun v w' => v = .bool true ∧ Ext w w') := by
  refine T.enter (vs := [dV N pv mv lv K, beV B A n, .int .i64 k]) Tryd.func3 rfl Tryd.ntmps3 rfl ?_
  refine T.seq (T.region (L.op rfl rfl (O.box rfl (fun b3 w3 hb3 hz3 he3 hB3 => ?_))))
  refine L.op rfl rfl (O.box rfl (fun b4 w4 hb4 hz4 he4 hB4 => ?_))
  refine L.op rfl rfl (O.assign rfl (L.nil (T.seq (T.seq (T.region (L.op rfl rfl (O.call (xs := []) Tryd.call10 rfl rfl (works_calls w4 (hT.keep (he3.trans he4))) (fun v5 w5 hq => ?_))))))))
  obtain ⟨rfl, he5⟩ := hq
  refine L.op rfl rfl (O.not rfl (L.nil (T.cond_false rfl (T.skip (T.seq (T.seq (T.region (L.op rfl rfl (O.loadAgg Tryd.isAgg25 Tryd.sizeOf25 rfl rfl ((hB3.keep (he4.trans he5) (Nat.zero_le _)).row) (L.op rfl rfl (O.loadAgg Tryd.isAgg27 Tryd.sizeOf27 rfl rfl ((hB4.keep he5 (Nat.zero_le _)).row) (?_))))))))))))
  have he05 := (he3.trans he4).trans he5
  refine L.op rfl rfl (O.move rfl (L.op rfl rfl (O.call (xs := [.tmp 21, .tmp 22, .tmp 23]) Tryd.call11 rfl rfl (samples_calls N K B A n k pv mv lv ps ls ms w5 (hD.keep he05) hB0 hB1 hA0 hA1) (fun v6 w6 hq => ?_))))
  obtain ⟨⟨css, hcl, hS6, hc4, hcs⟩, he6⟩ := hq
  have he06 := he05.trans he6
  refine L.op rfl rfl (O.len Tryd.runUnderlying29 rfl (Sl.val hS6) (L.op rfl rfl (O.move rfl (L.nil (T.block (?_))))))
  refine T.loop (σ := Nat) (fun i => [(24, v6), (25, .int .i64 ((6 : Nat) : Int)), (26, .int .i64 i)]) (fun i w' => i ≤ 6 ∧ Ext w6 w') (fun i => 6 - i) (0) ⟨rfl, rfl, rfl, trivial⟩ ⟨Nat.zero_le _, Keep.refl _ _⟩ ?_
  rintro i w7 ⟨hi, he7⟩
  refine T.seq (T.region (L.op rfl rfl (O.lss_s rfl rfl (fun hlt => ?_) (fun hlt => ?_))))
  · refine L.nil (?_)
    have hi6 : i < css.length := by omega
    obtain ⟨N', oa, nn, cap, pb, pn, pc, k', es, xs, hce, hE, hX⟩ := hcs css[i] (List.getElem_mem hi6)
    have hrow := Sl.elem (hS6.keep he7) hc4 (i := i) (x := [.int .i64 N', .slice oa nn cap, .slice pb pn pc, .int .i64 k']) (by rw [List.getElem?_eq_getElem hi6, hce]) (by omega)
    refine T.seq (T.cond_true rfl (T.skip (T.seq (T.block (T.seq (T.region (L.op rfl rfl (O.indexAddr Tryd.runUnderlying29 Tryd.sizeOf37 rfl rfl (hS6.keep he7) (by omega) (by omega) (L.op rfl rfl (O.loadAgg Tryd.isAgg37 Tryd.sizeOf37 rfl rfl hrow (L.op rfl rfl (O.alloc Tryd.zeroValue37 (fun b8 w8 hb8 hz8 he8 hB8 => ?_)))))))))))))
    refine L.op rfl rfl (O.storeAgg Tryd.sizeOf37 rfl rfl rfl hB8 (Nat.le_refl _) (by intro u hu; simp at hu; rcases hu with (rfl|rfl|rfl|rfl) <;> rfl) (fun w9 hu9 hB9 => ?_))
    have hB9 : Blk w9 b8 [.int .i64 N', .slice oa nn cap, .slice pb pn pc, .int .i64 k'] 37 := hB9
    have he79 : Ext w7 w9 := he8.upd hu9 (.inr (by omega))
    have hT9 := hT.keep ((he06.trans he7).trans he79)
    have hE9 := hE.keep (he7.trans he79)
    have hX9 := hX.keep (he7.trans he79)
    refine L.nil (T.seq (T.region (L.op rfl rfl (O.fieldAddr Tryd.runUnderlying37 rfl Tryd.sizeOf35 rfl (L.op rfl rfl (O.load Tryd.isAgg35 rfl (Blk.at hB9 rfl) (L.op rfl rfl (O.fieldAddr Tryd.runUnderlying37 rfl Tryd.sizeOf3 rfl (L.op rfl rfl (O.load Tryd.isAgg3 rfl (Blk.at hB9 rfl) (L.op rfl rfl (O.call (xs := [.tmp 32, .tmp 34]) Tryd.call12 rfl rfl (Masks_calls 0 _ xs k' w9 hX9) (fun v10 w10 hq => ?_)))))))))))))
    obtain ⟨he10, m1, rfl, hm1⟩ := hq
    have hB10 := hB9.keep he10 (Nat.zero_le _)
    refine L.op rfl rfl (O.move rfl (L.op rfl rfl (O.extract rfl rfl (L.op rfl rfl (O.extract rfl rfl (L.op rfl rfl (O.assign rfl (L.op rfl rfl (O.assign rfl (L.nil (T.seq (T.region (L.op rfl rfl (O.fieldAddr Tryd.runUnderlying37 rfl Tryd.sizeOf35 rfl (L.op rfl rfl (O.load Tryd.isAgg35 rfl (Blk.at hB10 rfl) (L.op rfl rfl (O.fieldAddr Tryd.runUnderlying37 rfl Tryd.sizeOf3 rfl (L.op rfl rfl (O.load Tryd.isAgg3 rfl (Blk.at hB10 rfl) (L.op rfl rfl (O.call (xs := [.tmp 40, .tmp 42]) Tryd.call13 rfl rfl (RMasks_calls 0 _ xs k' w10 (hX9.keep he10)) (fun v11 w11 hq => ?_)))))))))))))))))))))))
    obtain ⟨he11, m2, rfl, hm2⟩ := hq
    have he911 := he10.trans he11
    have hB11 := hB9.keep he911 (Nat.zero_le _)
    refine L.op rfl rfl (O.move rfl (L.op rfl rfl (O.extract rfl rfl (L.op rfl rfl (O.extract rfl rfl (L.op rfl rfl (O.assign rfl (L.op rfl rfl (O.assign rfl (L.nil (T.seq (T.region (L.op rfl rfl (O.fieldAddr Tryd.runUnderlying37 rfl Tryd.sizeOf33 rfl (L.op rfl rfl (O.loadAgg Tryd.isAgg33 Tryd.sizeOf33 rfl rfl (Row.part hB11.row 0 2) (L.op rfl rfl (O.fieldAddr Tryd.runUnderlying37 rfl Tryd.sizeOf35 rfl (L.op rfl rfl (O.load Tryd.isAgg35 rfl (Blk.at hB11 rfl) (L.op rfl rfl (O.fieldAddr Tryd.runUnderlying37 rfl Tryd.sizeOf3 rfl (L.op rfl rfl (O.load Tryd.isAgg3 rfl (Blk.at hB11 rfl) (L.op rfl rfl (O.call (xs := [.tmp 48, .tmp 50, .tmp 52]) Tryd.call14 rfl rfl (Contig_calls 0 0 N' k' _ _ es xs w11 (hE9.keep he911) (hX9.keep he911) (hT9.keep he911)) (fun v12 w12 hq => ?_)))))))))))))))))))))))))))
    obtain ⟨rfl, he12⟩ := hq
    have he912 := he911.trans he12
    have hB12 := hB9.keep he912 (Nat.zero_le _)
    refine L.op rfl rfl (O.move rfl (L.op rfl rfl (O.extract rfl rfl (L.op rfl rfl (O.extract rfl rfl (L.op rfl rfl (O.assign rfl (L.op rfl rfl (O.assign rfl (L.nil (T.seq (T.region (L.op rfl rfl (O.fieldAddr Tryd.runUnderlying37 rfl Tryd.sizeOf33 rfl (L.op rfl rfl (O.loadAgg Tryd.isAgg33 Tryd.sizeOf33 rfl rfl (Row.part hB12.row 0 2) (L.op rfl rfl (O.fieldAddr Tryd.runUnderlying37 rfl Tryd.sizeOf35 rfl (L.op rfl rfl (O.load Tryd.isAgg35 rfl (Blk.at hB12 rfl) (L.op rfl rfl (O.fieldAddr Tryd.runUnderlying37 rfl Tryd.sizeOf3 rfl (L.op rfl rfl (O.load Tryd.isAgg3 rfl (Blk.at hB12 rfl) (L.op rfl rfl (O.call (xs := [.tmp 58, .tmp 60, .tmp 62]) Tryd.call15 rfl rfl (RContig_calls 0 0 N' k' _ _ es xs w12 (hE9.keep he912) (hX9.keep he912)) (fun v13 w13 hq => ?_)))))))))))))))))))))))))))
    obtain ⟨rfl, he13⟩ := hq
    have he913 := he912.trans he13
    have hB13 := hB9.keep he913 (Nat.zero_le _)
    have hE13 := hE9.keep he913
    have hX13 := hX9.keep he913
    refine L.op rfl rfl (O.move rfl (L.op rfl rfl (O.extract rfl rfl (L.op rfl rfl (O.extract rfl rfl (L.op rfl rfl (O.assign rfl (L.op rfl rfl (O.assign rfl (L.nil (T.seq (T.seq (?_)))))))))))))
    refine T.anyE mixed 34 [8, 9, 11, 10, 12, 13, 15, 14, 16] rfl (.is _ :: .is _ :: .is _ :: .is _ :: .is _ :: .is _ :: .is _ :: .is _ :: .is _ :: .is _ :: .is _ :: .is _ :: .is _ :: .is _ :: .is _ :: .is _ :: .is _ :: .is _ :: .is (.bool true) :: .is _ :: .is _ :: .is _ :: .is _ :: .is _ :: .is _ :: .is _ :: .is _ :: .is _ :: .is _ :: .is _ :: .is _ :: .is _ :: .is _ :: .is _ :: []) ([] :: [0] :: [] :: [2] :: [] :: [4] :: [1, 3, 5] :: [] :: [7] :: [] :: [9] :: [] :: [11] :: [8, 10, 12] :: [6, 13] :: [14] :: [15] :: [15] :: [16, 17, 15] :: [18, 15] :: [15, 19] :: [20] :: [21] :: [21] :: [22, 23, 21] :: [21, 24] :: [25] :: [26] :: [26] :: [27, 28, 26] :: [26, 29] :: [30] :: [31] :: [31] :: []) ([] :: [0] :: [] :: [2] :: [] :: [4] :: [0, 1, 2, 3, 4, 5] :: [] :: [7] :: [] :: [9] :: [] :: [11] :: [0, 1, 2, 3, 4, 5, 6, 7, 8, 9, 10, 11, 12] :: [0, 1, 2, 3, 4, 5, 6, 7, 8, 9, 10, 11, 12, 13] :: [0, 1, 2, 3, 4, 5, 6, 7, 8, 9, 10, 11, 12, 13, 14] :: [0, 1, 2, 3, 4, 5, 6, 7, 8, 9, 10, 11, 12, 13, 14, 15] :: [0, 1, 2, 3, 4, 5, 6, 7, 8, 9, 10, 11, 12, 13, 14, 15] :: [0, 1, 2, 3, 4, 5, 6, 7, 8, 9, 10, 11, 12, 13, 14, 15, 16, 17] :: [0, 1, 2, 3, 4, 5, 6, 7, 8, 9, 10, 11, 12, 13, 14, 15, 16, 17, 18] :: [0, 1, 2, 3, 4, 5, 6, 7, 8, 9, 10, 11, 12, 13, 14, 15, 16, 17, 18, 19] :: [0, 1, 2, 3, 4, 5, 6, 7, 8, 9, 10, 11, 12, 13, 14, 15, 16, 17, 18, 19, 20] :: [0, 1, 2, 3, 4, 5, 6, 7, 8, 9, 10, 11, 12, 13, 14, 15, 16, 17, 18, 19, 20, 21] :: [0, 1, 2, 3, 4, 5, 6, 7, 8, 9, 10, 11, 12, 13, 14, 15, 16, 17, 18, 19, 20, 21] :: [0, 1, 2, 3, 4, 5, 6, 7, 8, 9, 10, 11, 12, 13, 14, 15, 16, 17, 18, 19, 20, 21, 22, 23] :: [0, 1, 2, 3, 4, 5, 6, 7, 8, 9, 10, 11, 12, 13, 14, 15, 16, 17, 18, 19, 20, 21, 22, 23, 24] :: [0, 1, 2, 3, 4, 5, 6, 7, 8, 9, 10, 11, 12, 13, 14, 15, 16, 17, 18, 19, 20, 21, 22, 23, 24, 25] :: [0, 1, 2, 3, 4, 5, 6, 7, 8, 9, 10, 11, 12, 13, 14, 15, 16, 17, 18, 19, 20, 21, 22, 23, 24, 25, 26] :: [0, 1, 2, 3, 4, 5, 6, 7, 8, 9, 10, 11, 12, 13, 14, 15, 16, 17, 18, 19, 20, 21, 22, 23, 24, 25, 26] :: [0, 1, 2, 3, 4, 5, 6, 7, 8, 9, 10, 11, 12, 13, 14, 15, 16, 17, 18, 19, 20, 21, 22, 23, 24, 25, 26, 27, 28] :: [0, 1, 2, 3, 4, 5, 6, 7, 8, 9, 10, 11, 12, 13, 14, 15, 16, 17, 18, 19, 20, 21, 22, 23, 24, 25, 26, 27, 28, 29] :: (0 :: 1 :: 2 :: 3 :: 4 :: 5 :: 6 :: 7 :: 8 :: 9 :: 10 :: 11 :: 12 :: 13 :: 14 :: 15 :: 16 :: 17 :: 18 :: 19 :: 20 :: 21 :: 22 :: 23 :: 24 :: 25 :: 26 :: 27 :: 28 :: 29 :: 30 :: []) :: (0 :: 1 :: 2 :: 3 :: 4 :: 5 :: 6 :: 7 :: 8 :: 9 :: 10 :: 11 :: 12 :: 13 :: 14 :: 15 :: 16 :: 17 :: 18 :: 19 :: 20 :: 21 :: 22 :: 23 :: 24 :: 25 :: 26 :: 27 :: 28 :: 29 :: 30 :: 31 :: []) :: (0 :: 1 :: 2 :: 3 :: 4 :: 5 :: 6 :: 7 :: 8 :: 9 :: 10 :: 11 :: 12 :: 13 :: 14 :: 15 :: 16 :: 17 :: 18 :: 19 :: 20 :: 21 :: 22 :: 23 :: 24 :: 25 :: 26 :: 27 :: 28 :: 29 :: 30 :: 31 :: []) :: (0 :: 1 :: 2 :: 3 :: 4 :: 5 :: 6 :: 7 :: 8 :: 9 :: 10 :: 11 :: 12 :: 13 :: 14 :: 15 :: 16 :: 17 :: 18 :: 19 :: 20 :: 21 :: 22 :: 23 :: 24 :: 25 :: 26 :: 27 :: 28 :: 29 :: 30 :: 31 :: 32 :: 33 :: []) :: (0 :: 1 :: 2 :: 3 :: 4 :: 5 :: 6 :: 7 :: 8 :: 9 :: 10 :: 11 :: 12 :: 13 :: 14 :: 15 :: 16 :: 17 :: 18 :: 19 :: 20 :: 21 :: 22 :: 23 :: 24 :: 25 :: 26 :: 27 :: 28 :: 29 :: 30 :: 31 :: 32 :: 33 :: 34 :: []) :: []) (by kernel_rfl) (by kernel_rfl) rfl (by kernel_rfl) trivial ⟨fun wx hx => Ob.op rfl (O.fieldAddr Tryd.runUnderlying37 rfl Tryd.sizeOf33 rfl ⟨Keep.refl _ _, rfl⟩),
        fun wx hx => Ob.op rfl (O.loadAgg Tryd.isAgg33 Tryd.sizeOf33 rfl rfl (Row.part (hB13.keep hx (Nat.zero_le _)).row 0 2) ⟨Keep.refl _ _, rfl⟩),
        fun wx hx => Ob.op rfl (O.fieldAddr Tryd.runUnderlying37 rfl Tryd.sizeOf35 rfl ⟨Keep.refl _ _, rfl⟩),
        fun wx hx => Ob.op rfl (O.load Tryd.isAgg35 rfl (Blk.at (hB13.keep hx (Nat.zero_le _)) rfl) ⟨Keep.refl _ _, rfl⟩),
        fun wx hx => Ob.op rfl (O.fieldAddr Tryd.runUnderlying37 rfl Tryd.sizeOf3 rfl ⟨Keep.refl _ _, rfl⟩),
        fun wx hx => Ob.op rfl (O.load Tryd.isAgg3 rfl (Blk.at (hB13.keep hx (Nat.zero_le _)) rfl) ⟨Keep.refl _ _, rfl⟩),
        fun wx hx => Ob.op rfl (O.call (xs := [.tmp 67, .tmp 69, .tmp 71]) Tryd.call16 rfl rfl (Check_calls 0 0 N' k' _ _ es xs wx (hE13.keep hx) (hX13.keep hx)) (fun v wy h => ⟨h.2, h.1⟩)),
        fun wx hx => Ob.op rfl (O.fieldAddr Tryd.runUnderlying37 rfl Tryd.sizeOf33 rfl ⟨Keep.refl _ _, rfl⟩),
        fun wx hx => Ob.op rfl (O.loadAgg Tryd.isAgg33 Tryd.sizeOf33 rfl rfl (Row.part (hB13.keep hx (Nat.zero_le _)).row 0 2) ⟨Keep.refl _ _, rfl⟩),
        fun wx hx => Ob.op rfl (O.fieldAddr Tryd.runUnderlying37 rfl Tryd.sizeOf35 rfl ⟨Keep.refl _ _, rfl⟩),
        fun wx hx => Ob.op rfl (O.load Tryd.isAgg35 rfl (Blk.at (hB13.keep hx (Nat.zero_le _)) rfl) ⟨Keep.refl _ _, rfl⟩),
        fun wx hx => Ob.op rfl (O.fieldAddr Tryd.runUnderlying37 rfl Tryd.sizeOf3 rfl ⟨Keep.refl _ _, rfl⟩),
        fun wx hx => Ob.op rfl (O.load Tryd.isAgg3 rfl (Blk.at (hB13.keep hx (Nat.zero_le _)) rfl) ⟨Keep.refl _ _, rfl⟩),
        fun wx hx => Ob.op rfl (O.call (xs := [.tmp 74, .tmp 76, .tmp 78]) Tryd.call17 rfl rfl (RPCheck_calls 0 0 N' k' _ _ es xs wx (hE13.keep hx) (hX13.keep hx)) (fun v wy h => ⟨h.2, h.1⟩)),
        fun wx hx => Ob.op rfl (O.neq_f rfl rfl rfl ⟨Keep.refl _ _, rfl⟩),
        fun wx hx => Ob.op rfl (O.move rfl ⟨Keep.refl _ _, rfl⟩),
        fun wx hx => Ob.op rfl (O.move rfl ⟨Keep.refl _ _, rfl⟩),
        fun wx hx => Ob.op rfl (O.move rfl ⟨Keep.refl _ _, rfl⟩),
        fun wx hx => Ob.op rfl (O.call (xs := [.tmp 82, .tmp 83]) Tryd.call18 rfl rfl (equalW_calls w9.heap.size w10.heap.size m1 m2 _ _ wx (hm1.keep ((he11.trans (he12.trans (he13.trans hx))).mono (Nat.zero_le _))) (hm2.keep ((he12.trans (he13.trans hx)).mono (Nat.zero_le _)))) (fun v wy h => ⟨h.2, self_eq _ h.1⟩)),
        fun wx hx => Ob.op rfl (O.not rfl ⟨Keep.refl _ _, rfl⟩),
        fun wx hx => Ob.op rfl (O.pick_false rfl rfl ⟨Keep.refl _ _, rfl⟩),
        fun wx hx => Ob.op rfl (O.move rfl ⟨Keep.refl _ _, rfl⟩),
        fun wx hx => Ob.op rfl (O.move rfl ⟨Keep.refl _ _, rfl⟩),
        fun wx hx => Ob.op rfl (O.move rfl ⟨Keep.refl _ _, rfl⟩),
        fun wx hx => Ob.op rfl (O.neq_f rfl rfl rfl ⟨Keep.refl _ _, rfl⟩),
        fun wx hx => Ob.op rfl (O.pick_false rfl rfl ⟨Keep.refl _ _, rfl⟩),
        fun wx hx => Ob.op rfl (O.move rfl ⟨Keep.refl _ _, rfl⟩),
        fun wx hx => Ob.op rfl (O.move rfl ⟨Keep.refl _ _, rfl⟩),
        fun wx hx => Ob.op rfl (O.move rfl ⟨Keep.refl _ _, rfl⟩),
        fun wx hx => Ob.op rfl (O.neq_bool_f Tryd.runUnderlying4 rfl rfl rfl ⟨Keep.refl _ _, rfl⟩),
        fun wx hx => Ob.op rfl (O.pick_false rfl rfl ⟨Keep.refl _ _, rfl⟩),
        fun wx hx => Ob.op rfl (O.move rfl ⟨Keep.refl _ _, rfl⟩),
        fun wx hx => Ob.op rfl (O.move rfl ⟨Keep.refl _ _, rfl⟩),
        fun wx hx => Ob.op rfl (O.move rfl ⟨Keep.refl _ _, rfl⟩),
        trivial⟩ (fun w14 he14 => ?_)
    refine L.op rfl rfl (O.neq_f rfl rfl rfl (?_))
    have he914 := he913.trans he14
    have hB14 := hB9.keep he914 (Nat.zero_le _)
    refine L.op rfl rfl (O.pick_false rfl rfl (L.nil (T.cond_false rfl (T.skip (T.seq (T.region (L.op rfl rfl (O.fieldAddr Tryd.runUnderlying37 rfl Tryd.sizeOf33 rfl (L.op rfl rfl (O.loadAgg Tryd.isAgg33 Tryd.sizeOf33 rfl rfl (Row.part hB14.row 0 2) (L.op rfl rfl (O.fieldAddr Tryd.runUnderlying37 rfl Tryd.sizeOf35 rfl (L.op rfl rfl (O.load Tryd.isAgg35 rfl (Blk.at hB14 rfl) (L.op rfl rfl (O.fieldAddr Tryd.runUnderlying37 rfl Tryd.sizeOf3 rfl (L.op rfl rfl (O.load Tryd.isAgg3 rfl (Blk.at hB14 rfl) (L.op rfl rfl (O.call (xs := [.tmp 104, .tmp 106, .tmp 108]) Tryd.call19 rfl rfl (Cut_calls 0 0 N' k' _ _ es xs w14 (hE9.keep he914) (hX9.keep he914)) (fun v15 w15 hq => ?_)))))))))))))))))))))
    obtain ⟨rfl, he15⟩ := hq
    have he915 := he914.trans he15
    have hB15 := hB9.keep he915 (Nat.zero_le _)
    refine L.op rfl rfl (O.move rfl (L.op rfl rfl (O.extract rfl rfl (L.op rfl rfl (O.extract rfl rfl (L.op rfl rfl (O.assign rfl (L.op rfl rfl (O.assign rfl (L.nil (T.seq (T.region (L.op rfl rfl (O.fieldAddr Tryd.runUnderlying37 rfl Tryd.sizeOf33 rfl (L.op rfl rfl (O.loadAgg Tryd.isAgg33 Tryd.sizeOf33 rfl rfl (Row.part hB15.row 0 2) (L.op rfl rfl (O.fieldAddr Tryd.runUnderlying37 rfl Tryd.sizeOf35 rfl (L.op rfl rfl (O.load Tryd.isAgg35 rfl (Blk.at hB15 rfl) (L.op rfl rfl (O.fieldAddr Tryd.runUnderlying37 rfl Tryd.sizeOf3 rfl (L.op rfl rfl (O.load Tryd.isAgg3 rfl (Blk.at hB15 rfl) (L.op rfl rfl (O.call (xs := [.tmp 114, .tmp 116, .tmp 118]) Tryd.call20 rfl rfl (RCut_calls 0 0 N' k' _ _ es xs w15 (hE9.keep he915) (hX9.keep he915)) (fun v16 w16 hq => ?_)))))))))))))))))))))))))))
    obtain ⟨rfl, he16⟩ := hq
    refine L.op rfl rfl (O.move rfl (L.op rfl rfl (O.extract rfl rfl (L.op rfl rfl (O.extract rfl rfl (L.op rfl rfl (O.assign rfl (L.op rfl rfl (O.assign rfl (L.nil (T.seq (T.region (L.op rfl rfl (O.move rfl (L.op rfl rfl (O.move rfl (L.op rfl rfl (O.neq_f rfl rfl rfl (L.op rfl rfl (O.move rfl (L.op rfl rfl (O.move rfl (L.op rfl rfl (O.move rfl (L.op rfl rfl (O.neq_f rfl rfl rfl (L.op rfl rfl (O.pick_false rfl rfl (L.nil (T.cond_false rfl (T.skip (T.blk (T.region (L.op rfl rfl (O.add64 rfl rfl (by omega) (L.op rfl rfl (O.move rfl (L.nil (?_)))))))))))))))))))))))))))))))))))))))
    refine T.again (i + 1) (by omega) ⟨rfl, rfl, rfl, trivial⟩ ⟨by omega, (he7.trans he79).trans (he915.trans he16)⟩
  · refine L.nil (T.seq (T.cond_false rfl (T.exit rfl (T.seq (T.region (L.op rfl rfl (O.assign rfl (L.nil (T.ret1 Tryd.results3 rfl ⟨rfl, he06.trans he7⟩)))))))))

end Go.Proofs.YthjdljbghjelfaaDoor
set_option linter.unusedVariables false
set_option linter.unusedSimpArgs false
set_option maxRecDepth 20000
namespace Go.Proofs.YthjdljbghjelfaaDoor
open Go Go.E RowKit ChangeShapes WideShapes
attribute [local irreducible] Go.E.T Go.E.L Go.E.O Go.E.Ob

set_option maxRecDepth 100000 in
theorem planChecks_lifted (os : Os) (started : os.Started) (H : Type) (enc : TypeId × Value → H) :
    ReturnsInHanded {} Tryd.checked os 3 .any (fun w args => (Rows.planChecksSpec.pre enc Tryd.prog Tryd.f3 [] false w args ∧ laidMetH Tryd.prog laidL w) ∧ sizedMet enc Tryd.prog Tryd.f3 (OpenSpec.ofChange Rows.planChecksSpec) false w args)
      (Rows.planChecksSpec.post enc Tryd.prog Tryd.f3 false true false false) := by
  refine law_lifted (C := Tryd.checked) (X := fun w _ => laidMetH Tryd.prog laidL w) (tb := 4) (ts := [25, 27, 3]) (fun _ _ _ hh h => h.of_heap hh) own started (by kernel_rfl) Tryd.func3
    rfl Tryd.params3 (fun ds h => ?_) (by kernel_rfl) Tryd.underlying4 laidOut (by kernel_rfl)
    (ChangeSpec.witness_at (enc := enc) (C := Tryd.checked) (os := os) (X := fun w _ => laidMetH Tryd.prog laidL w) false (laidWorld os) #[.agg #[.int .u8 0, .slice none 0 0, .slice none 0 0, .slice none 0 0, .int .u8 0], .agg #[.int .u8 0, .int .u8 0, .int .i64 0], .int .i64 0] 8 rfl (by kernel_rfl) (by kernel_rfl) (by kernel_rfl) (by kernel_rfl) (by kernel_rfl) (laidWorld_met os _)) ?_
  · obtain ⟨a0, a1, a2, rfl⟩ := three h
    rfl
  · intro W vs hl ha hL
    obtain ⟨a0, a1, a2, rfl⟩ := three hl
    obtain ⟨N, K, pv, mv, lv, ps, ls, ms, rfl, hD⟩ := draft_of (ha 0 _ _ rfl rfl)
    obtain ⟨B, A, n, rfl, b0, b1, c0, c1⟩ := bend_of (ha 1 _ _ rfl rfl)
    obtain ⟨k, rfl, _⟩ := (ha 2 _ _ rfl rfl).int Tryd.underlying3
    exact PlanChecks_calls N K B A n k pv mv lv ps ls ms W hD b0 b1 c0 c1 (tab_of_laid hL)
theorem planChecks_over : Rows.PlanChecksSaid :=
  OpenClaim.holds_of_wide 3 Tryd.f3 rfl rfl rfl rfl rfl rfl rfl ⟨rfl, rfl, rfl, rfl, rfl⟩ rfl rfl rfl rfl rfl (by kernel_rfl) Tryd.func3 (by kernel_rfl)
    (of_decide_eq_true (by kernel_rfl)) (by unfold Func.isWrapper; first | (rw [if_pos (by decide +kernel)]; kernel_rfl) | (rw [if_neg (by decide +kernel)]; exact ⟨rfl, rfl⟩))
    (fun os started H enc _ => planChecks_lifted os started H enc)
theorem planChecks_holds : Rows.PlanChecksCardSaid :=
  Claim7.holds_tied_plain_at .later [] [.data] true (true, "70ce77e6e465cb6f7bb54785c29c1fee9bd557921552f81cc09119473f9a84dc") false
    planChecks_over (fun _ h => by cases h) (by kernel_rfl) (fun _ h => by cases h) planChecks_row_tie rfl ⟨rfl, rfl⟩ (by kernel_rfl) rfl
    (fun f fn hf hfn => by
      obtain rfl : f = 3 := Option.some.inj ((show Tryd.prog.funcNamed "wardmote/wardmotelaw21.PlanChecks" = some 3 by kernel_rfl).symm.trans hf) |>.symm
      obtain rfl : fn = Tryd.f3 := (Option.some.inj (Tryd.func3.symm.trans hfn)).symm
      exact ⟨by kernel_rfl, fun j t ht => by
        rw [Tryd.params3] at ht
        have hall : (([25, 27, 3] : List TypeId).all fun t => !Tryd.prog.wantsStandIn t) = true := by kernel_rfl
        have := List.all_eq_true.1 hall t (List.mem_of_getElem? (i := j) (by simpa using ht))
        have h2 : Tryd.prog.wantsStandIn t = false := by simpa using this
        exact h2⟩)
    (by kernel_rfl)
#print axioms planChecks_holds
end Go.Proofs.YthjdljbghjelfaaDoor
