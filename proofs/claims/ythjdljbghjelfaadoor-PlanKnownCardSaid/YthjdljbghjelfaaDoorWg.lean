/-
  PlanKnown returns true for every input, and each argument reads behind the call as it read before. Conditions: the listed variable reads as the program's text lays it (tied by the card).
-/
import Derived.Test.YthjdljbghjelfaaDoorMg
import Derived.Test.YthjdljbghjelfaaDoorMh
import Derived.Test.YthjdljbghjelfaaDoorCards
set_option linter.unusedVariables false
set_option linter.unusedSimpArgs false
set_option maxRecDepth 20000
namespace Go.Proofs.YthjdljbghjelfaaDoor
open Go Go.E
attribute [local irreducible] Go.E.T Go.E.L Go.E.O Go.E.Ob

def fullTo : Nat → List Int
  | 0 => List.replicate 64 0
  | i + 1 => (fullTo i).set (i + 1) ((i : Int) / 8)
theorem fullTo_len : ∀ i, (fullTo i).length = 64
  | 0 => by simp [fullTo]
  | i + 1 => by simp [fullTo, fullTo_len i]
def pathTo : Nat → List (Int × Int)
  | 0 => []
  | i + 1 => pathTo i ++ [((i : Int), ((i + 1 : Nat) : Int))]
theorem pathTo_len : ∀ i, (pathTo i).length = i
  | 0 => rfl
  | i + 1 => by simp [pathTo, pathTo_len i]
theorem kn_plan : planErr 64 (pathTo 63) (fullTo 63) 8 = 0 := by decide +kernel
theorem kn_masksErr : masksErr (fullTo 63) 8 = 0 := by decide +kernel
theorem kn_m0 : (masksGot (fullTo 63) 8).getD 0 0 = 511 := by decide +kernel
theorem kn_m7 : (masksGot (fullTo 63) 8).getD 7 0 = 18302628885633695744 := by decide +kernel
theorem kn_mlen : (masksGot (fullTo 63) 8).length = 8 := by decide +kernel
theorem kn_cut : cutOf 64 (pathTo 63) (fullTo 63) 8 = 7 := by decide +kernel
theorem kn_two : twoErr (fullTo 63) (List.replicate 64 0) = 0 := by decide +kernel
theorem kn_apart : apartOf (fullTo 63) (List.replicate 64 0) = 55 := apart_by [0, 1, 2, 3, 4, 5, 6, 7] (by decide +kernel) kn_two (by decide) rfl (by decide +kernel) (by decide +kernel)
theorem kn_two2 : twoErr [0, 1, 2, 3, 4, 5, 6, 7] [7, 6, 5, 4, 3, 2, 1, 0] = 0 := by decide +kernel
theorem kn_apart2 : apartOf [0, 1, 2, 3, 4, 5, 6, 7] [7, 6, 5, 4, 3, 2, 1, 0] = 0 := apart_by [7, 6, 5, 4, 3, 2, 1, 0] (by decide) kn_two2 (by decide) rfl (by decide +kernel) (by decide +kernel)
theorem kn_two3 : twoErr [0, 0, 1, 1] [0, 1, 0, 1] = 0 := by decide +kernel
theorem kn_apart3 : apartOf [0, 0, 1, 1] [0, 1, 0, 1] = 2 := apart_by [0, 1, 2, 3, 4, 5, 6, 7] (by decide) kn_two3 (by decide) rfl (by decide +kernel) (by decide +kernel)
theorem kn_a1 : applyErr 4 lineE [0, 0, 1, 1] 2 (0, 0, 1) = 2 := by rw [applyErrD_eq]; decide +kernel
theorem kn_a2 : applyErr 4 lineE [0, 0, 1, 1] 2 (1, 1, 1) = 2 := by rw [applyErrD_eq]; decide +kernel
theorem kn_a3 : applyErr 4 lineE [0, 1, 1, 1] 2 (0, 0, 1) = 2 := by rw [applyErrD_eq]; decide +kernel
theorem kn_a4 : applyErr 4 lineE [0, 0, 1, 1] 2 (-1, 0, 1) = 2 := by rw [applyErrD_eq]; decide +kernel
theorem kn_a5 : applyErr 4 lineE [0, 1, 0, 1] 2 (1, 1, 0) = 0 := by rw [applyErrD_eq]; decide +kernel
theorem applied_no {N k : Int} {es : List (Int × Int)} {xs : List Int} {m : Mv} (h : applyErr N es xs k m = 2) : applied N es xs k m = [] := by rw [applied, h]; rfl
theorem kn_ap5 : applied 4 lineE [0, 1, 0, 1] 2 (1, 1, 0) = [0, 0, 0, 1] := by rw [applied, if_pos kn_a5]; rfl
theorem ints_rep {w : World} {b n : Nat} {t : TypeId} (h : Blk w b (List.replicate n (.int .i64 0)) t) (hm : n ≤ maxLen) : IntsF (List.replicate n 0) (.slice (some ⟨b, 0, none⟩) n n) w := lits_ints (xs := List.replicate n 0) (by rw [List.map_replicate]; exact h) (by simp) hm
set_option maxHeartbeats 4000000 in
theorem PlanKnown_calls (w : World) (hT : Tab w) :
    Calls Tryd.prog 9 #[] w (Ret fun v w' => v = .bool true ∧ Ext w w') := by
  refine T.enter (vs := []) Tryd.func9 rfl Tryd.ntmps9 rfl ?_
  refine T.seq (T.region (L.op rfl rfl (O.assign rfl (L.nil (T.seq (T.seq (T.region (L.op rfl rfl (O.call (xs := []) Tryd.call10 rfl rfl (works_calls w hT) (fun v1 w1 hq => ?_))))))))))
  obtain ⟨rfl, he1⟩ := hq
  refine L.op rfl rfl (O.not rfl (L.nil (T.cond_false rfl (T.skip (T.seq (T.region (L.op rfl rfl (O.call (xs := []) Tryd.call41 rfl rfl (line_calls w1) (fun v2 w2 hq => ?_)))))))))
  obtain ⟨he2, pe, rfl, hpe2⟩ := hq
  obtain ⟨oe, ce, rfl, _, _⟩ := Sl.val hpe2
  refine L.op rfl rfl (O.alloc Tryd.zeroValue33 (fun b3 w3 hb3 hz3 he3 hB3 => ?_))
  refine L.op rfl rfl (O.storeAgg Tryd.sizeOf33 rfl rfl rfl hB3 (Nat.le_refl _) (by intro u hu; simp at hu; rcases hu with (rfl|rfl) <;> rfl) (fun w4 hu4 hB4 => ?_))
  have hz1 := he1.size
  have hz2 := he2.size
  have hz4 := hu4.size
  have hB4 : Blk w4 b3 [.int .i64 4, .slice oe 3 ce] 33 := hB4
  have he24 : Ext w2 w4 := he3.upd hu4 (.inr (by omega))
  refine L.nil (T.seq (T.region (L.op rfl rfl (O.build (v := .agg #[.int .i64 (-1), .slice none 0 0]) (parts := [(0, .const (.int .i64 (-1)))]) (vs := [(0, _)]) rfl (fun w => by kernel_rfl) (L.op rfl rfl (O.alloc Tryd.zeroValue33 (fun b5 w5 hb5 hz5 he5 hB5 => ?_)))))))
  refine L.op rfl rfl (O.storeAgg Tryd.sizeOf33 rfl rfl rfl hB5 (Nat.le_refl _) (by simp [Value.oneCell']) (fun w6 hu6 hB6 => ?_))
  have hB6 : Blk w6 b5 [.int .i64 (-1), .slice none 0 0] 33 := hB6
  have hz6 := hu6.size
  have he46 : Ext w4 w6 := he5.upd hu6 (.inr (by omega))
  refine L.nil (T.seq (T.region (L.op rfl rfl (O.makeSlice Tryd.runUnderlying35 Tryd.typeInfo3 Tryd.sizeOf3 Tryd.zeroValue3 rfl rfl (n := 64) rfl (by decide) (by decide) (fun b7 w7 hb7 hz7 he7 hB7 => ?_)))))
  refine L.op rfl rfl (O.assign rfl (L.nil (T.seq (T.region (L.op rfl rfl (O.makeSlice Tryd.runUnderlying35 Tryd.typeInfo3 Tryd.sizeOf3 Tryd.zeroValue3 rfl rfl (n := 65) rfl (by decide) (by decide) (fun b8 w8 hb8 hz8 he8 hB8 => ?_)))))))
  refine L.op rfl rfl (O.assign rfl (L.nil (T.seq (T.region (L.op rfl rfl (O.build (v := .agg #[.int .i64 64, .slice none 0 0]) (parts := [(0, .const (.int .i64 64))]) (vs := [(0, _)]) rfl (fun w => by kernel_rfl) (L.op rfl rfl (O.alloc Tryd.zeroValue33 (fun b9 w9 hb9 hz9 he9 hB9 => ?_)))))))))
  refine L.op rfl rfl (O.storeAgg Tryd.sizeOf33 rfl rfl rfl hB9 (Nat.le_refl _) (by simp [Value.oneCell']) (fun w10 hu10 hB10 => ?_))
  have hB10 : Blk w10 b9 [.int .i64 64, .slice none 0 0] 33 := hB10
  have hz10 := hu10.size
  have he810 : Ext w8 w10 := he9.upd hu10 (.inr (by omega))
  have he06 := ((he1.trans he2).trans he24).trans he46
  have hB70 : Blk w10 b7 ((fullTo 0).map (Value.int .i64)) 3 := by rw [fullTo, List.map_replicate]; exact hB7.keep (he8.trans he810) (Nat.zero_le _)
  refine L.nil (T.seq (T.seq (T.region (L.op rfl rfl (O.move rfl (L.nil (T.block (?_))))))))
  refine T.loop (σ := Nat) (fun i => [(1, .pointer (some ⟨b3, 0, none⟩)), (2, .pointer (some ⟨b5, 0, none⟩)), (3, .slice (some ⟨b7, 0, none⟩) 64 64), (4, .slice (some ⟨b8, 0, none⟩) 65 65), (5, .pointer (some ⟨b9, 0, none⟩)), (31, .int .i64 i)]) (fun i w' => i ≤ 63 ∧ Ext w6 w' ∧ Blk w' b8 (List.replicate 65 (.int .i64 0)) 3 ∧ (∃ l, Blk w' b9 [.int .i64 64, l] 33 ∧ w'.ownsRow w10.heap.size 80 2 l (pathTo i).length (cellsOf (pathTo i))) ∧ Blk w' b7 ((fullTo i).map (Value.int .i64)) 3) (fun i => 63 - i) (0) ⟨rfl, rfl, rfl, rfl, rfl, rfl, trivial⟩ ⟨Nat.zero_le _, (he7.trans he8).trans he810, hB8.keep he810 (Nat.zero_le _), ⟨.slice none 0 0, hB10, owns_nil _ _ _ _⟩, hB70⟩ ?_
  rintro i w11 ⟨hi, he11, hL11, ⟨l11, hP11, hO11⟩, hF11⟩
  refine T.seq (T.region (L.op rfl rfl (O.lss_s rfl rfl (fun hlt => ?_) (fun hlt => ?_))))
  · refine L.nil (?_)
    have hpl := pathTo_len i
    have hfl := fullTo_len i
    have hz11 := hP11.lt
    refine T.seq (T.cond_true rfl (T.skip (T.seq (T.block (T.seq (T.region (L.op rfl rfl (O.move rfl (L.op rfl rfl (O.assign rfl (L.nil (T.seq (T.region (L.op rfl rfl (O.fieldAddr Tryd.runUnderlying33 rfl Tryd.sizeOf31 rfl (L.op rfl rfl (O.load Tryd.isAgg31 rfl (Blk.at hP11 rfl) (L.op rfl rfl (O.move rfl (L.op rfl rfl (O.move rfl (L.op rfl rfl (O.add64 rfl rfl (by omega) (L.op rfl rfl (O.build (v := .agg #[.int .i64 i, .int .i64 ((i + 1 : Nat) : Int)]) (parts := [(0, .tmp 36), (1, .tmp 38)]) (vs := [(0, _), (1, _)]) rfl (fun w => by kernel_rfl) (L.op rfl rfl (O.buildSlice (el := 80) (parts := [(0, .tmp 39)]) (vs := [(0, _)]) (cs := [.int .i64 i, .int .i64 ((i + 1 : Nat) : Int)]) rfl (fun w => by kernel_rfl) (fun b12 w12 hb12 hz12 he12 hB12 => ?_))))))))))))))))))))))))))))
    have hz12a := he12.size
    have hpt : w10.heap.size ≤ w11.heap.size := by have := hL11.lt; have := hF11.lt; omega
    refine L.op rfl rfl (O.append (size := 2) (bytes := 16) Tryd.runUnderlying31 Tryd.infoOf80 rfl rfl rfl rfl (by decide) rfl rfl (owns_keep hO11 he12 (Nat.zero_le _)) (Sl.of_blk (lo := 0) (n := 1) hB12 rfl (Nat.le_refl _) (by decide) (Nat.zero_le _)) (by intro c hc; simp at hc; rcases hc with (rfl|rfl) <;> rfl) (by omega) (by simp only [maxLen]; omega) (by omega) (fun v13 w13 hO13 hG13 => ?_))
    have hown := fun q hq => (own_at hO11 (j := q) hq).1
    have hP13 := (hP11.keep he12 (Nat.zero_le _)).grown hG13 (fun q hq => by have := hown q hq; omega)
    have hL13 := (hL11.keep he12 (Nat.zero_le _)).grown hG13 (fun q hq => by have := hown q hq; omega)
    have hF13 := (hF11.keep he12 (Nat.zero_le _)).grown hG13 (fun q hq => by have := hown q hq; omega)
    refine L.op rfl rfl (O.fieldAddr Tryd.runUnderlying33 rfl Tryd.sizeOf31 rfl (L.op rfl rfl (O.store1_at Tryd.sizeOf31 (Sl.one (Sl.of_owns hO13)) rfl rfl hP13 (by simp) (fun w14 hu14 hB14 => ?_))))
    refine L.nil (T.region (L.op rfl rfl (O.move rfl (L.op rfl rfl (O.move rfl (L.op rfl rfl (O.add64 rfl rfl (by omega) (L.op rfl rfl (O.move rfl (L.op rfl rfl (O.quo64 rfl rfl (by omega) (L.op rfl rfl (O.indexAddr Tryd.runUnderlying35 Tryd.sizeOf3 rfl rfl (Ints.of_blk (lo := 0) (hF13.upd hu14 (by omega)) hfl (by decide) (Nat.zero_le _)) (by omega) (by omega) (L.op rfl rfl (O.store1_at Tryd.sizeOf3 rfl rfl rfl (hF13.upd hu14 (by omega)) (by rw [List.length_map, hfl]; omega) (fun w15 hu15 hB15 => ?_))))))))))))))))
    refine L.nil (T.blk (T.region (L.op rfl rfl (O.add64 rfl rfl (by omega) (L.op rfl rfl (O.move rfl (L.nil (T.again (i + 1) (by omega) ⟨rfl, rfl, rfl, rfl, rfl, rfl, trivial⟩ ⟨by omega, (((he11.trans he12).grown0 hO11 hG13 (by omega)).upd hu14 (.inr (by omega))).upd hu15 (.inr (by omega)), (hL13.upd hu14 (by omega)).upd hu15 (by omega), ⟨v13, hB14.upd hu15 (by omega), ?_⟩, ?_⟩))))))))
    · have h9 := owns_upd (owns_upd hO13 hu14 (by omega)) hu15 (by omega)
      simp only [pathTo]
      rw [List.length_append, cellsOf_app]; exact h9
    · have h9 := hB15
      simp only [fullTo]
      rw [List.map_set]
      have e : (0 + ((i : Int) + 1).toNat * 1) = i + 1 := by omega
      rw [e] at h9; exact h9
  · refine L.nil (?_)
    obtain rfl : i = 63 := by omega
    have he611 := he11
    have hg11 : Pairs 0 w11 l11 (pathTo 63) := (Sl.of_owns hO11).mono (Nat.zero_le _)
    have hf11 : IntsF (fullTo 63) (.slice (some ⟨b7, 0, none⟩) 64 64) w11 := lits_ints hF11 (fullTo_len 63) (by decide)
    have hl11 : IntsF (List.replicate 65 0) (.slice (some ⟨b8, 0, none⟩) 65 65) w11 := ints_rep hL11 (by decide)
    have hb11 := hB6.keep he611 (Nat.zero_le _)
    have hr11 := (hB4.keep he46 (Nat.zero_le _)).keep he611 (Nat.zero_le _)
    have hpe11 : Pairs 0 w11 (.slice oe 3 ce) lineE := (((hpe2.mono (Nat.zero_le _)).keep he24).keep he46).keep he611
    have hT11 := hT.keep (he06.trans he611)
    refine T.seq (T.cond_false rfl (T.exit rfl (T.seq (T.region (L.op rfl rfl (O.move rfl (L.op rfl rfl (O.call (xs := [.tmp 51, .const (.int .i64 8)]) Tryd.call12 rfl rfl (Masks_calls 0 _ _ 8 w11 hf11) (fun v12 w12 hq => ?_)))))))))
    obtain ⟨he12, pm, rfl, hpm⟩ := hq
    rw [kn_masksErr]
    have hpm12 : Words 0 w12 pm (masksGot (fullTo 63) 8) := hpm.mono (Nat.zero_le _)
    have hf12 := IntsF.st _ _ _ he12 hf11
    have hg12 := hg11.keep he12
    have hP12 := hP11.keep he12 (Nat.zero_le _)
    refine L.op rfl rfl (O.move rfl (L.op rfl rfl (O.extract rfl rfl (L.op rfl rfl (O.extract rfl rfl (L.op rfl rfl (O.assign rfl (L.op rfl rfl (O.assign rfl (L.nil (T.seq (?_))))))))))))
    refine T.anyE mixed 41 [5, 3, 8, 7] rfl (.is _ :: .is _ :: .is (.int .i64 0) :: .is _ :: .is _ :: .is _ :: .is _ :: .is _ :: .is _ :: .is _ :: .is _ :: .is _ :: .is _ :: .is _ :: .is _ :: .is _ :: .is _ :: .is _ :: .is _ :: .is _ :: .is _ :: .is _ :: .is _ :: .is _ :: .is _ :: .is _ :: .such (NumF 7) :: .is _ :: .is _ :: .is (.tuple #[.int .i64 7, .int .i64 0]) :: .is _ :: .is _ :: .is (.bool true) :: .is _ :: .is _ :: .such (NumF 55) :: .is _ :: .such (IntsF (List.replicate 64 0)) :: .is (.tuple #[.int .i64 55, .int .i64 0]) :: .is _ :: .is _ :: []) ([] :: [] :: [0, 1] :: [2] :: [3] :: [4] :: [5, 4] :: [4, 6] :: [7] :: [8] :: [9, 8] :: [10, 8] :: [8, 11] :: [12] :: [13] :: [14, 13] :: [15, 13] :: [16, 13] :: [13, 17] :: [18] :: [19] :: [20, 19] :: [21, 19] :: [22, 19] :: [19, 23] :: [24] :: [25] :: [25] :: [25] :: [27, 28, 25] :: [29, 25] :: [29, 25] :: [26, 30, 31, 25] :: [25, 32] :: [33] :: [34] :: [34] :: [34] :: [36, 37, 34] :: [38, 34] :: [38, 34] :: []) ([] :: [] :: [0, 1] :: [0, 1, 2] :: [0, 1, 2, 3] :: [0, 1, 2, 3, 4] :: [0, 1, 2, 3, 4, 5] :: [0, 1, 2, 3, 4, 5, 6] :: [0, 1, 2, 3, 4, 5, 6, 7] :: [0, 1, 2, 3, 4, 5, 6, 7, 8] :: [0, 1, 2, 3, 4, 5, 6, 7, 8, 9] :: [0, 1, 2, 3, 4, 5, 6, 7, 8, 9, 10] :: [0, 1, 2, 3, 4, 5, 6, 7, 8, 9, 10, 11] :: [0, 1, 2, 3, 4, 5, 6, 7, 8, 9, 10, 11, 12] :: [0, 1, 2, 3, 4, 5, 6, 7, 8, 9, 10, 11, 12, 13] :: [0, 1, 2, 3, 4, 5, 6, 7, 8, 9, 10, 11, 12, 13, 14] :: [0, 1, 2, 3, 4, 5, 6, 7, 8, 9, 10, 11, 12, 13, 14, 15] :: [0, 1, 2, 3, 4, 5, 6, 7, 8, 9, 10, 11, 12, 13, 14, 15, 16] :: [0, 1, 2, 3, 4, 5, 6, 7, 8, 9, 10, 11, 12, 13, 14, 15, 16, 17] :: [0, 1, 2, 3, 4, 5, 6, 7, 8, 9, 10, 11, 12, 13, 14, 15, 16, 17, 18] :: [0, 1, 2, 3, 4, 5, 6, 7, 8, 9, 10, 11, 12, 13, 14, 15, 16, 17, 18, 19] :: [0, 1, 2, 3, 4, 5, 6, 7, 8, 9, 10, 11, 12, 13, 14, 15, 16, 17, 18, 19, 20] :: [0, 1, 2, 3, 4, 5, 6, 7, 8, 9, 10, 11, 12, 13, 14, 15, 16, 17, 18, 19, 20, 21] :: [0, 1, 2, 3, 4, 5, 6, 7, 8, 9, 10, 11, 12, 13, 14, 15, 16, 17, 18, 19, 20, 21, 22] :: [0, 1, 2, 3, 4, 5, 6, 7, 8, 9, 10, 11, 12, 13, 14, 15, 16, 17, 18, 19, 20, 21, 22, 23] :: [0, 1, 2, 3, 4, 5, 6, 7, 8, 9, 10, 11, 12, 13, 14, 15, 16, 17, 18, 19, 20, 21, 22, 23, 24] :: [0, 1, 2, 3, 4, 5, 6, 7, 8, 9, 10, 11, 12, 13, 14, 15, 16, 17, 18, 19, 20, 21, 22, 23, 24, 25] :: [0, 1, 2, 3, 4, 5, 6, 7, 8, 9, 10, 11, 12, 13, 14, 15, 16, 17, 18, 19, 20, 21, 22, 23, 24, 25] :: [0, 1, 2, 3, 4, 5, 6, 7, 8, 9, 10, 11, 12, 13, 14, 15, 16, 17, 18, 19, 20, 21, 22, 23, 24, 25] :: [0, 1, 2, 3, 4, 5, 6, 7, 8, 9, 10, 11, 12, 13, 14, 15, 16, 17, 18, 19, 20, 21, 22, 23, 24, 25, 26, 27, 28] :: [0, 1, 2, 3, 4, 5, 6, 7, 8, 9, 10, 11, 12, 13, 14, 15, 16, 17, 18, 19, 20, 21, 22, 23, 24, 25, 26, 27, 28, 29] :: [0, 1, 2, 3, 4, 5, 6, 7, 8, 9, 10, 11, 12, 13, 14, 15, 16, 17, 18, 19, 20, 21, 22, 23, 24, 25, 26, 27, 28, 29] :: (0 :: 1 :: 2 :: 3 :: 4 :: 5 :: 6 :: 7 :: 8 :: 9 :: 10 :: 11 :: 12 :: 13 :: 14 :: 15 :: 16 :: 17 :: 18 :: 19 :: 20 :: 21 :: 22 :: 23 :: 24 :: 25 :: 26 :: 27 :: 28 :: 29 :: 30 :: 31 :: []) :: (0 :: 1 :: 2 :: 3 :: 4 :: 5 :: 6 :: 7 :: 8 :: 9 :: 10 :: 11 :: 12 :: 13 :: 14 :: 15 :: 16 :: 17 :: 18 :: 19 :: 20 :: 21 :: 22 :: 23 :: 24 :: 25 :: 26 :: 27 :: 28 :: 29 :: 30 :: 31 :: 32 :: []) :: (0 :: 1 :: 2 :: 3 :: 4 :: 5 :: 6 :: 7 :: 8 :: 9 :: 10 :: 11 :: 12 :: 13 :: 14 :: 15 :: 16 :: 17 :: 18 :: 19 :: 20 :: 21 :: 22 :: 23 :: 24 :: 25 :: 26 :: 27 :: 28 :: 29 :: 30 :: 31 :: 32 :: 33 :: []) :: (0 :: 1 :: 2 :: 3 :: 4 :: 5 :: 6 :: 7 :: 8 :: 9 :: 10 :: 11 :: 12 :: 13 :: 14 :: 15 :: 16 :: 17 :: 18 :: 19 :: 20 :: 21 :: 22 :: 23 :: 24 :: 25 :: 26 :: 27 :: 28 :: 29 :: 30 :: 31 :: 32 :: 33 :: 34 :: []) :: (0 :: 1 :: 2 :: 3 :: 4 :: 5 :: 6 :: 7 :: 8 :: 9 :: 10 :: 11 :: 12 :: 13 :: 14 :: 15 :: 16 :: 17 :: 18 :: 19 :: 20 :: 21 :: 22 :: 23 :: 24 :: 25 :: 26 :: 27 :: 28 :: 29 :: 30 :: 31 :: 32 :: 33 :: 34 :: []) :: (0 :: 1 :: 2 :: 3 :: 4 :: 5 :: 6 :: 7 :: 8 :: 9 :: 10 :: 11 :: 12 :: 13 :: 14 :: 15 :: 16 :: 17 :: 18 :: 19 :: 20 :: 21 :: 22 :: 23 :: 24 :: 25 :: 26 :: 27 :: 28 :: 29 :: 30 :: 31 :: 32 :: 33 :: 34 :: []) :: (0 :: 1 :: 2 :: 3 :: 4 :: 5 :: 6 :: 7 :: 8 :: 9 :: 10 :: 11 :: 12 :: 13 :: 14 :: 15 :: 16 :: 17 :: 18 :: 19 :: 20 :: 21 :: 22 :: 23 :: 24 :: 25 :: 26 :: 27 :: 28 :: 29 :: 30 :: 31 :: 32 :: 33 :: 34 :: 35 :: 36 :: 37 :: []) :: (0 :: 1 :: 2 :: 3 :: 4 :: 5 :: 6 :: 7 :: 8 :: 9 :: 10 :: 11 :: 12 :: 13 :: 14 :: 15 :: 16 :: 17 :: 18 :: 19 :: 20 :: 21 :: 22 :: 23 :: 24 :: 25 :: 26 :: 27 :: 28 :: 29 :: 30 :: 31 :: 32 :: 33 :: 34 :: 35 :: 36 :: 37 :: 38 :: []) :: (0 :: 1 :: 2 :: 3 :: 4 :: 5 :: 6 :: 7 :: 8 :: 9 :: 10 :: 11 :: 12 :: 13 :: 14 :: 15 :: 16 :: 17 :: 18 :: 19 :: 20 :: 21 :: 22 :: 23 :: 24 :: 25 :: 26 :: 27 :: 28 :: 29 :: 30 :: 31 :: 32 :: 33 :: 34 :: 35 :: 36 :: 37 :: 38 :: []) :: (0 :: 1 :: 2 :: 3 :: 4 :: 5 :: 6 :: 7 :: 8 :: 9 :: 10 :: 11 :: 12 :: 13 :: 14 :: 15 :: 16 :: 17 :: 18 :: 19 :: 20 :: 21 :: 22 :: 23 :: 24 :: 25 :: 26 :: 27 :: 28 :: 29 :: 30 :: 31 :: 32 :: 33 :: 34 :: 35 :: 36 :: 37 :: 38 :: 39 :: 40 :: []) :: (0 :: 1 :: 2 :: 3 :: 4 :: 5 :: 6 :: 7 :: 8 :: 9 :: 10 :: 11 :: 12 :: 13 :: 14 :: 15 :: 16 :: 17 :: 18 :: 19 :: 20 :: 21 :: 22 :: 23 :: 24 :: 25 :: 26 :: 27 :: 28 :: 29 :: 30 :: 31 :: 32 :: 33 :: 34 :: 35 :: 36 :: 37 :: 38 :: 39 :: 40 :: 41 :: []) :: (0 :: 1 :: 2 :: 3 :: 4 :: 5 :: 6 :: 7 :: 8 :: 9 :: 10 :: 11 :: 12 :: 13 :: 14 :: 15 :: 16 :: 17 :: 18 :: 19 :: 20 :: 21 :: 22 :: 23 :: 24 :: 25 :: 26 :: 27 :: 28 :: 29 :: 30 :: 31 :: 32 :: 33 :: 34 :: 35 :: 36 :: 37 :: 38 :: 39 :: 40 :: 41 :: 42 :: []) :: []) (by kernel_rfl) (by kernel_rfl) rfl (by kernel_rfl) ⟨NumF.st, NumF.st, IntsF.st, trivial⟩ ⟨fun wx hx => Ob.op rfl (O.loadAgg Tryd.isAgg33 Tryd.sizeOf33 rfl rfl ((hP12.keep hx (Nat.zero_le _)).row) ⟨Keep.refl _ _, rfl⟩),
        fun wx hx => Ob.op rfl (O.move rfl ⟨Keep.refl _ _, rfl⟩),
        fun wx hx => Ob.op rfl (O.call (xs := [.tmp 55, .tmp 56, .const (.int .i64 8)]) Tryd.call16 rfl rfl (Check_calls 0 0 64 8 _ _ _ _ wx (hg12.keep hx) (Ints.keep hf12 hx)) (fun v wy h => ⟨h.2, by rw [h.1, kn_plan]; rfl⟩)),
        fun wx hx => Ob.op rfl (O.eql_t rfl rfl rfl ⟨Keep.refl _ _, rfl⟩),
        fun wx hx => Ob.op rfl (O.move rfl ⟨Keep.refl _ _, rfl⟩),
        fun wx hx => Ob.op rfl (O.move rfl ⟨Keep.refl _ _, rfl⟩),
        fun wx hx => Ob.op rfl (O.eql_t rfl rfl rfl ⟨Keep.refl _ _, rfl⟩),
        fun wx hx => Ob.op rfl (O.pick_true rfl rfl ⟨Keep.refl _ _, rfl⟩),
        fun wx hx => Ob.op rfl (O.move rfl ⟨Keep.refl _ _, rfl⟩),
        fun wx hx => Ob.op rfl (O.move rfl ⟨Keep.refl _ _, rfl⟩),
        fun wx hx => Ob.op rfl (O.len Tryd.runUnderlying38 rfl (Sl.val (hpm12.keep hx)) ⟨Keep.refl _ _, rfl⟩),
        fun wx hx => Ob.op rfl (O.eql_t rfl rfl (by rw [kn_mlen]; rfl) ⟨Keep.refl _ _, rfl⟩),
        fun wx hx => Ob.op rfl (O.pick_true rfl rfl ⟨Keep.refl _ _, rfl⟩),
        fun wx hx => Ob.op rfl (O.move rfl ⟨Keep.refl _ _, rfl⟩),
        fun wx hx => Ob.op rfl (O.move rfl ⟨Keep.refl _ _, rfl⟩),
        fun wx hx => Ob.op rfl (O.indexAddr Tryd.runUnderlying38 Tryd.sizeOf46 rfl rfl (hpm12.keep hx) (by decide) (by rw [kn_mlen]; decide) ⟨Keep.refl _ _, rfl⟩),
        fun wx hx => Ob.op rfl (O.load Tryd.isAgg46 rfl (by have := (hpm12.keep hx).cell (m := 0) (by decide) (by rw [kn_mlen]; decide); rw [show (0 : Int).toNat = 0 from rfl, kn_m0] at this; exact this) ⟨Keep.refl _ _, rfl⟩),
        fun wx hx => Ob.op rfl (O.eql_t rfl rfl rfl ⟨Keep.refl _ _, rfl⟩),
        fun wx hx => Ob.op rfl (O.pick_true rfl rfl ⟨Keep.refl _ _, rfl⟩),
        fun wx hx => Ob.op rfl (O.move rfl ⟨Keep.refl _ _, rfl⟩),
        fun wx hx => Ob.op rfl (O.move rfl ⟨Keep.refl _ _, rfl⟩),
        fun wx hx => Ob.op rfl (O.indexAddr Tryd.runUnderlying38 Tryd.sizeOf46 rfl rfl (hpm12.keep hx) (by decide) (by rw [kn_mlen]; decide) ⟨Keep.refl _ _, rfl⟩),
        fun wx hx => Ob.op rfl (O.load Tryd.isAgg46 rfl (by have := (hpm12.keep hx).cell (m := 7) (by decide) (by rw [kn_mlen]; decide); rw [show (7 : Int).toNat = 7 from rfl, kn_m7] at this; exact this) ⟨Keep.refl _ _, rfl⟩),
        fun wx hx => Ob.op rfl (O.eql_t rfl rfl rfl ⟨Keep.refl _ _, rfl⟩),
        fun wx hx => Ob.op rfl (O.pick_true rfl rfl ⟨Keep.refl _ _, rfl⟩),
        fun wx hx => Ob.op rfl (O.move rfl ⟨Keep.refl _ _, rfl⟩),
        fun wx hx => Ob.op rfl (O.call (xs := [.const (.int .i64 7)]) Tryd.call40 rfl rfl (number_calls 7 wx) (fun v wy h => ⟨h.1, _, h.2.1, h.2.2⟩)),
        fun wx hx => Ob.op rfl (O.loadAgg Tryd.isAgg33 Tryd.sizeOf33 rfl rfl ((hP12.keep hx (Nat.zero_le _)).row) ⟨Keep.refl _ _, rfl⟩),
        fun wx hx => Ob.op rfl (O.move rfl ⟨Keep.refl _ _, rfl⟩),
        fun wx hx => Ob.op rfl (O.call (xs := [.tmp 82, .tmp 83, .const (.int .i64 8)]) Tryd.call19 rfl rfl (Cut_calls 0 0 64 8 _ _ _ _ wx (hg12.keep hx) (Ints.keep hf12 hx)) (fun v wy h => ⟨h.2, by rw [h.1, kn_cut, kn_plan]; rfl⟩)),
        fun wx hx => Ob.op rfl (O.extract rfl rfl ⟨Keep.refl _ _, rfl⟩),
        fun wx hx => Ob.op rfl (O.extract rfl rfl ⟨Keep.refl _ _, rfl⟩),
        fun wx hx v81 hv81 => by { obtain ⟨b, rfl, hB⟩ := hv81; exact Ob.op rfl (O.call (xs := [.tmp 85, .tmp 86]) Tryd.call66 rfl rfl (number1_calls b 7 7 0 wx hB) (fun v wy h => ⟨Keep.of_eq h.2, h.1⟩)) },
        fun wx hx => Ob.op rfl (O.pick_true rfl rfl ⟨Keep.refl _ _, rfl⟩),
        fun wx hx => Ob.op rfl (O.move rfl ⟨Keep.refl _ _, rfl⟩),
        fun wx hx => Ob.op rfl (O.call (xs := [.const (.int .i64 55)]) Tryd.call40 rfl rfl (number_calls 55 wx) (fun v wy h => ⟨h.1, _, h.2.1, h.2.2⟩)),
        fun wx hx => Ob.op rfl (O.move rfl ⟨Keep.refl _ _, rfl⟩),
        fun wx hx => Ob.op rfl (O.makeSlice Tryd.runUnderlying35 Tryd.typeInfo3 Tryd.sizeOf3 Tryd.zeroValue3 rfl rfl (n := 64) rfl (by decide) (by decide) (fun b14 w14 hb14 hz14 he14 hB14 => ⟨he14, ints_rep hB14 (by decide)⟩)),
        fun wx hx v92 hv92 => Ob.op rfl (O.call (xs := [.tmp 91, .tmp 92]) Tryd.call34 rfl rfl (Apart_calls 0 0 _ v92 _ _ wx (Ints.keep hf12 hx) hv92) (fun v wy h => ⟨h.2, by rw [h.1, kn_apart, kn_two]; rfl⟩)),
        fun wx hx => Ob.op rfl (O.extract rfl rfl ⟨Keep.refl _ _, rfl⟩),
        fun wx hx => Ob.op rfl (O.extract rfl rfl ⟨Keep.refl _ _, rfl⟩),
        trivial⟩ (fun w13 he13 v81 hv81 v90 hv90 v92 hv92 => ?_)
    obtain ⟨b90, rfl, hF90⟩ := hv90
    refine L.op rfl rfl (O.call (xs := [.tmp 94, .tmp 95]) Tryd.call66 rfl rfl (number1_calls b90 55 55 0 w13 hF90) (fun v14 w14 hq => ?_))
    obtain ⟨rfl, hw14⟩ := hq
    subst hw14
    have he1114 := he12.trans he13
    refine L.op rfl rfl (O.pick_true rfl rfl (L.op rfl rfl (O.assign rfl (L.nil (T.seq (T.region (L.op rfl rfl (O.move rfl (L.op rfl rfl (O.call (xs := [.tmp 99, .const (.int .i64 9)]) Tryd.call12 rfl rfl (Masks_calls 0 _ (fullTo 63) 9 w14 (Ints.keep hf11 he1114)) (fun v15 w15 hq => ?_)))))))))))
    obtain ⟨hE15, l15, rfl, _⟩ := hq
    rw [show masksErr (fullTo 63) 9 = 2 by decide +kernel]
    have hA15 := he1114.trans hE15
    refine L.op rfl rfl (O.move rfl (L.op rfl rfl (O.extract rfl rfl (L.op rfl rfl (O.extract rfl rfl (L.op rfl rfl (O.assign rfl (L.op rfl rfl (O.assign rfl (L.nil (T.seq (T.region (L.op rfl rfl (O.move rfl (L.op rfl rfl (O.call (xs := [.tmp 104, .const (.int .i64 1)]) Tryd.call12 rfl rfl (Masks_calls 0 _ (List.replicate 65 0) 1 w15 (Ints.keep hl11 hA15)) (fun v16 w16 hq => ?_)))))))))))))))))
    obtain ⟨hE16, l16, rfl, _⟩ := hq
    rw [show masksErr (List.replicate 65 0) 1 = 210 by decide +kernel]
    have hA16 := hA15.trans hE16
    refine L.op rfl rfl (O.move rfl (L.op rfl rfl (O.extract rfl rfl (L.op rfl rfl (O.extract rfl rfl (L.op rfl rfl (O.assign rfl (L.op rfl rfl (O.assign rfl (L.nil (T.seq (T.region (L.op rfl rfl (O.buildSlice (el := 3) (parts := []) (vs := []) (cs := []) rfl (fun w => by kernel_rfl) (fun b17 w17 hb17 hz17 he17 hB17 => ?_)))))))))))))))
    have hI17 : IntsF [] (.slice (some ⟨b17, 0, none⟩) 0 0) w17 := lits_ints (xs := []) hB17 rfl (by decide)
    have hA17 := hA16.trans he17
    refine L.op rfl rfl (O.call (xs := [.tmp 109, .const (.int .i64 1)]) Tryd.call12 rfl rfl (Masks_calls 0 _ [] 1 w17 (hI17)) (fun v18 w18 hq => ?_))
    obtain ⟨hE18, l18, rfl, _⟩ := hq
    rw [show masksErr [] 1 = 210 by decide +kernel]
    have hA18 := hA17.trans hE18
    refine L.op rfl rfl (O.move rfl (L.op rfl rfl (O.extract rfl rfl (L.op rfl rfl (O.extract rfl rfl (L.op rfl rfl (O.assign rfl (L.op rfl rfl (O.assign rfl (L.nil (T.seq (T.region (L.op rfl rfl (O.buildSlice (el := 3) (parts := [(0, .const (.int .i64 0)), (1, .const (.int .i64 2))]) (vs := [(0, _), (1, _)]) (cs := [.int .i64 0, .int .i64 2]) rfl (fun w => by kernel_rfl) (fun b19 w19 hb19 hz19 he19 hB19 => ?_)))))))))))))))
    have hI19 : IntsF [0, 2] (.slice (some ⟨b19, 0, none⟩) 2 2) w19 := lits_ints (xs := [0, 2]) hB19 rfl (by decide)
    have hA19 := hA18.trans he19
    refine L.op rfl rfl (O.call (xs := [.tmp 114, .const (.int .i64 3)]) Tryd.call12 rfl rfl (Masks_calls 0 _ [0, 2] 3 w19 (hI19)) (fun v20 w20 hq => ?_))
    obtain ⟨hE20, l20, rfl, _⟩ := hq
    rw [show masksErr [0, 2] 3 = 210 by decide +kernel]
    have hA20 := hA19.trans hE20
    refine L.op rfl rfl (O.move rfl (L.op rfl rfl (O.extract rfl rfl (L.op rfl rfl (O.extract rfl rfl (L.op rfl rfl (O.assign rfl (L.op rfl rfl (O.assign rfl (L.nil (T.seq (T.region (L.op rfl rfl (O.move rfl (L.op rfl rfl (O.move rfl (L.op rfl rfl (O.move rfl (L.op rfl rfl (O.eql_t rfl rfl rfl (L.op rfl rfl (O.pick_true rfl rfl (L.op rfl rfl (O.move rfl (L.op rfl rfl (O.move rfl (L.op rfl rfl (O.eql_t rfl rfl rfl (L.op rfl rfl (O.pick_true rfl rfl (L.op rfl rfl (O.move rfl (L.op rfl rfl (O.move rfl (L.op rfl rfl (O.eql_t rfl rfl rfl (L.op rfl rfl (O.pick_true rfl rfl (L.op rfl rfl (O.move rfl (L.op rfl rfl (O.move rfl (L.op rfl rfl (O.eql_t rfl rfl rfl (?_)))))))))))))))))))))))))))))))))))))))))))))
    refine L.op rfl rfl (O.pick_true rfl rfl (L.op rfl rfl (O.move rfl (L.op rfl rfl (O.call (xs := [.const (.int .i64 210)]) Tryd.call42 rfl rfl (fails_calls 210 w20) (fun v21 w21 hq => ?_))))))
    obtain ⟨hE21, rfl, hF21⟩ := hq
    have hA21 := hA20.trans hE21
    refine L.op rfl rfl (O.move rfl (L.op rfl rfl (O.call (xs := [.tmp 137]) Tryd.call30 rfl rfl (Canon_calls 0 _ (List.replicate 65 0) w21 (Ints.keep hl11 hA21)) (fun v22 w22 hq => ?_))))
    obtain ⟨hC22, hD22⟩ := hq
    obtain ⟨hE22, l22, rfl, hl22⟩ := canon_no ⟨hC22, hD22⟩ (by decide +kernel)
    have hA22 := hA21.trans hE22
    refine L.op rfl rfl (O.extract rfl rfl (L.op rfl rfl (O.extract rfl rfl (L.op rfl rfl (O.call (xs := [.tmp 139, .tmp 140]) Tryd.call67 rfl rfl (fails1_calls _ 0 210 210 l22 [] w22 (hF21.keep (hE22) (Nat.zero_le _)) hl22) (fun v23 w23 hq => ?_))))))
    obtain ⟨rfl, hW23⟩ := hq
    subst hW23
    refine L.op rfl rfl (O.pick_true rfl rfl (L.op rfl rfl (O.move rfl (L.op rfl rfl (O.call (xs := [.const (.int .i64 210)]) Tryd.call42 rfl rfl (fails_calls 210 w23) (fun v24 w24 hq => ?_))))))
    obtain ⟨hE24, rfl, hF24⟩ := hq
    have hA24 := hA22.trans hE24
    refine L.op rfl rfl (O.call (xs := [.const (.slice none 0 0)]) Tryd.call30 rfl rfl (Canon_calls 0 _ [] w24 (Sl.nil _ _ _)) (fun v25 w25 hq => ?_))
    obtain ⟨hC25, hD25⟩ := hq
    obtain ⟨hE25, l25, rfl, hl25⟩ := canon_no ⟨hC25, hD25⟩ (by decide +kernel)
    have hA25 := hA24.trans hE25
    refine L.op rfl rfl (O.extract rfl rfl (L.op rfl rfl (O.extract rfl rfl (L.op rfl rfl (O.call (xs := [.tmp 146, .tmp 147]) Tryd.call67 rfl rfl (fails1_calls _ 0 210 210 l25 [] w25 (hF24.keep (hE25) (Nat.zero_le _)) hl25) (fun v26 w26 hq => ?_))))))
    obtain ⟨rfl, hW26⟩ := hq
    subst hW26
    refine L.op rfl rfl (O.pick_true rfl rfl (L.op rfl rfl (O.move rfl (L.op rfl rfl (O.call (xs := [.const (.int .i64 210)]) Tryd.call42 rfl rfl (fails_calls 210 w26) (fun v27 w27 hq => ?_))))))
    obtain ⟨hE27, rfl, hF27⟩ := hq
    have hA27 := hA25.trans hE27
    refine L.op rfl rfl (O.buildSlice (el := 3) (parts := [(0, .const (.int .i64 8))]) (vs := [(0, _)]) (cs := [.int .i64 8]) rfl (fun w => by kernel_rfl) (fun b28 w28 hb28 hz28 he28 hB28 => ?_))
    have hI28 : IntsF [8] (.slice (some ⟨b28, 0, none⟩) 1 1) w28 := lits_ints (xs := [8]) hB28 rfl (by decide)
    have hA28 := hA27.trans he28
    refine L.op rfl rfl (O.call (xs := [.tmp 152]) Tryd.call30 rfl rfl (Canon_calls 0 _ [8] w28 (hI28)) (fun v29 w29 hq => ?_))
    obtain ⟨hC29, hD29⟩ := hq
    obtain ⟨hE29, l29, rfl, hl29⟩ := canon_no ⟨hC29, hD29⟩ (by decide +kernel)
    have hA29 := hA28.trans hE29
    refine L.op rfl rfl (O.extract rfl rfl (L.op rfl rfl (O.extract rfl rfl (L.op rfl rfl (O.call (xs := [.tmp 154, .tmp 155]) Tryd.call67 rfl rfl (fails1_calls _ 0 210 210 l29 [] w29 (hF27.keep ((he28).trans hE29) (Nat.zero_le _)) hl29) (fun v30 w30 hq => ?_))))))
    obtain ⟨rfl, hW30⟩ := hq
    subst hW30
    refine L.op rfl rfl (O.pick_true rfl rfl (L.op rfl rfl (O.move rfl (L.op rfl rfl (O.call (xs := [.const (.int .i64 210)]) Tryd.call42 rfl rfl (fails_calls 210 w30) (fun v31 w31 hq => ?_))))))
    obtain ⟨hE31, rfl, hF31⟩ := hq
    have hA31 := hA29.trans hE31
    refine L.op rfl rfl (O.buildSlice (el := 3) (parts := [(0, .const (.int .i64 (-1)))]) (vs := [(0, _)]) (cs := [.int .i64 (-1)]) rfl (fun w => by kernel_rfl) (fun b32 w32 hb32 hz32 he32 hB32 => ?_))
    have hI32 : IntsF [-1] (.slice (some ⟨b32, 0, none⟩) 1 1) w32 := lits_ints (xs := [-1]) hB32 rfl (by decide)
    have hA32 := hA31.trans he32
    refine L.op rfl rfl (O.call (xs := [.tmp 160]) Tryd.call30 rfl rfl (Canon_calls 0 _ [-1] w32 (hI32)) (fun v33 w33 hq => ?_))
    obtain ⟨hC33, hD33⟩ := hq
    obtain ⟨hE33, l33, rfl, hl33⟩ := canon_no ⟨hC33, hD33⟩ (by decide +kernel)
    have hA33 := hA32.trans hE33
    refine L.op rfl rfl (O.extract rfl rfl (L.op rfl rfl (O.extract rfl rfl (L.op rfl rfl (O.call (xs := [.tmp 162, .tmp 163]) Tryd.call67 rfl rfl (fails1_calls _ 0 210 210 l33 [] w33 (hF31.keep ((he32).trans hE33) (Nat.zero_le _)) hl33) (fun v34 w34 hq => ?_))))))
    obtain ⟨rfl, hW34⟩ := hq
    subst hW34
    refine L.op rfl rfl (O.pick_true rfl rfl (L.op rfl rfl (O.move rfl (L.op rfl rfl (O.buildSlice (el := 3) (parts := [(0, .const (.int .i64 0))]) (vs := [(0, _)]) (cs := [.int .i64 0]) rfl (fun w => by kernel_rfl) (fun b35 w35 hb35 hz35 he35 hB35 => ?_))))))
    have hI35 : IntsF [0] (.slice (some ⟨b35, 0, none⟩) 1 1) w35 := lits_ints (xs := [0]) hB35 rfl (by decide)
    have hA35 := hA33.trans he35
    refine L.op rfl rfl (O.call (xs := [.tmp 167]) Tryd.call39 rfl rfl (is_calls _ w35 rfl) (fun v36 w36 hq => ?_))
    obtain ⟨hE36, rfl, hF36⟩ := hq
    have hA36 := hA35.trans hE36
    refine L.op rfl rfl (O.buildSlice (el := 3) (parts := [(0, .const (.int .i64 7))]) (vs := [(0, _)]) (cs := [.int .i64 7]) rfl (fun w => by kernel_rfl) (fun b37 w37 hb37 hz37 he37 hB37 => ?_))
    have hI37 : IntsF [7] (.slice (some ⟨b37, 0, none⟩) 1 1) w37 := lits_ints (xs := [7]) hB37 rfl (by decide)
    have hA37 := hA36.trans he37
    refine L.op rfl rfl (O.call (xs := [.tmp 169]) Tryd.call30 rfl rfl (Canon_calls 0 _ [7] w37 hI37) (fun v38 w38 hq => ?_))
    obtain ⟨hC38, hD38⟩ := hq
    obtain ⟨hE38, l38, rfl, hl38⟩ := canon_le ⟨hC38, hD38⟩ (by decide +kernel) (show canonOf [7] = [0] by decide +kernel)
    have hA38 := hA37.trans hE38
    refine L.op rfl rfl (O.extract rfl rfl (L.op rfl rfl (O.extract rfl rfl (L.op rfl rfl (O.call (xs := [.tmp 171, .tmp 172]) Tryd.call65 rfl rfl (is1_calls _ 0 0 l38 _ [0] [0] 0 w38 (hF36.keep (he37.trans hE38) (Nat.zero_le _)) hl38 (Ints.keep hI35 ((hE36.trans he37).trans hE38))) (fun v39 w39 hq => ?_))))))
    obtain ⟨rfl, hE39⟩ := hq
    have hA39 := hA38.trans hE39
    refine L.op rfl rfl (O.pick_true rfl rfl (L.op rfl rfl (O.assign rfl (L.nil (T.seq (T.region (L.op rfl rfl (O.move rfl (L.op rfl rfl (O.move rfl (L.op rfl rfl (O.loadAgg Tryd.isAgg33 Tryd.sizeOf33 rfl rfl ((hb11.keep hA39 (Nat.zero_le _)).row) (L.op rfl rfl (O.call (xs := [.tmp 177, .const (.slice none 0 0), .const (.int .i64 0)]) Tryd.call16 rfl rfl (Check_calls 0 0 (-1) 0 _ _ [] [] w39 (Sl.nil _ _ _) (Sl.nil _ _ _)) (fun v40 w40 hq => ?_)))))))))))))))
    obtain ⟨rfl, hE40⟩ := hq
    rw [show planErr (-1) [] [] 0 = 180 by decide +kernel]
    have hA40 := hA39.trans hE40
    refine L.op rfl rfl (O.neq_t rfl rfl (by decide) (L.op rfl rfl (O.pick_true rfl rfl (L.op rfl rfl (O.move rfl (L.op rfl rfl (O.loadAgg Tryd.isAgg33 Tryd.sizeOf33 rfl rfl ((hb11.keep hA40 (Nat.zero_le _)).row) (L.op rfl rfl (O.call (xs := [.tmp 182, .const (.slice none 0 0), .const (.int .i64 0)]) Tryd.call16 rfl rfl (Check_calls 0 0 (-1) 0 _ _ [] [] w40 (Sl.nil _ _ _) (Sl.nil _ _ _)) (fun v41 w41 hq => ?_))))))))))
    obtain ⟨rfl, hE41⟩ := hq
    rw [show planErr (-1) [] [] 0 = 180 by decide +kernel]
    have hA41 := hA40.trans hE41
    refine L.op rfl rfl (O.neq_t rfl rfl (by decide) (L.op rfl rfl (O.pick_true rfl rfl (L.op rfl rfl (O.move rfl (L.op rfl rfl (O.loadAgg Tryd.isAgg33 Tryd.sizeOf33 rfl rfl ((hr11.keep hA41 (Nat.zero_le _)).row) (L.op rfl rfl (O.call (xs := [.tmp 187, .const (.slice none 0 0), .const (.int .i64 0)]) Tryd.call16 rfl rfl (Check_calls 0 0 4 0 _ _ lineE [] w41 (hpe11.keep hA41) (Sl.nil _ _ _)) (fun v42 w42 hq => ?_))))))))))
    obtain ⟨rfl, hE42⟩ := hq
    rw [show planErr 4 lineE [] 0 = 2 by decide +kernel]
    have hA42 := hA41.trans hE42
    refine L.op rfl rfl (O.eql_t rfl rfl rfl (L.op rfl rfl (O.pick_true rfl rfl (L.op rfl rfl (O.move rfl (L.op rfl rfl (O.loadAgg Tryd.isAgg33 Tryd.sizeOf33 rfl rfl ((hr11.keep hA42 (Nat.zero_le _)).row) (L.op rfl rfl (O.buildSlice (el := 3) (parts := [(0, .const (.int .i64 0)), (1, .const (.int .i64 0)), (2, .const (.int .i64 0))]) (vs := [(0, _), (1, _), (2, _)]) (cs := [.int .i64 0, .int .i64 0, .int .i64 0]) rfl (fun w => by kernel_rfl) (fun b43 w43 hb43 hz43 he43 hB43 => ?_))))))))))
    have hI43 : IntsF [0, 0, 0] (.slice (some ⟨b43, 0, none⟩) 3 3) w43 := lits_ints (xs := [0, 0, 0]) hB43 rfl (by decide)
    have hA43 := hA42.trans he43
    refine L.op rfl rfl (O.call (xs := [.tmp 192, .tmp 193, .const (.int .i64 1)]) Tryd.call16 rfl rfl (Check_calls 0 0 4 1 _ _ lineE [0, 0, 0] w43 (hpe11.keep hA43) (hI43)) (fun v44 w44 hq => ?_))
    obtain ⟨rfl, hE44⟩ := hq
    rw [show planErr 4 lineE [0, 0, 0] 1 = 210 by decide +kernel]
    have hA44 := hA43.trans hE44
    refine L.op rfl rfl (O.eql_t rfl rfl rfl (L.op rfl rfl (O.pick_true rfl rfl (L.op rfl rfl (O.move rfl (L.op rfl rfl (O.loadAgg Tryd.isAgg33 Tryd.sizeOf33 rfl rfl ((hr11.keep hA44 (Nat.zero_le _)).row) (L.op rfl rfl (O.buildSlice (el := 3) (parts := [(0, .const (.int .i64 0)), (1, .const (.int .i64 1)), (2, .const (.int .i64 2)), (3, .const (.int .i64 3))]) (vs := [(0, _), (1, _), (2, _), (3, _)]) (cs := [.int .i64 0, .int .i64 1, .int .i64 2, .int .i64 3]) rfl (fun w => by kernel_rfl) (fun b45 w45 hb45 hz45 he45 hB45 => ?_))))))))))
    have hI45 : IntsF [0, 1, 2, 3] (.slice (some ⟨b45, 0, none⟩) 4 4) w45 := lits_ints (xs := [0, 1, 2, 3]) hB45 rfl (by decide)
    have hA45 := hA44.trans he45
    refine L.op rfl rfl (O.call (xs := [.tmp 198, .tmp 199, .const (.int .i64 4)]) Tryd.call16 rfl rfl (Check_calls 0 0 4 4 _ _ lineE [0, 1, 2, 3] w45 (hpe11.keep hA45) (hI45)) (fun v46 w46 hq => ?_))
    obtain ⟨rfl, hE46⟩ := hq
    rw [show planErr 4 lineE [0, 1, 2, 3] 4 = 0 by decide +kernel]
    have hA46 := hA45.trans hE46
    refine L.op rfl rfl (O.eql_t rfl rfl rfl (L.op rfl rfl (O.pick_true rfl rfl (L.op rfl rfl (O.move rfl (L.op rfl rfl (O.loadAgg Tryd.isAgg33 Tryd.sizeOf33 rfl rfl ((hr11.keep hA46 (Nat.zero_le _)).row) (L.op rfl rfl (O.buildSlice (el := 3) (parts := [(0, .const (.int .i64 0)), (1, .const (.int .i64 1)), (2, .const (.int .i64 2)), (3, .const (.int .i64 4))]) (vs := [(0, _), (1, _), (2, _), (3, _)]) (cs := [.int .i64 0, .int .i64 1, .int .i64 2, .int .i64 4]) rfl (fun w => by kernel_rfl) (fun b47 w47 hb47 hz47 he47 hB47 => ?_))))))))))
    have hI47 : IntsF [0, 1, 2, 4] (.slice (some ⟨b47, 0, none⟩) 4 4) w47 := lits_ints (xs := [0, 1, 2, 4]) hB47 rfl (by decide)
    have hA47 := hA46.trans he47
    refine L.op rfl rfl (O.call (xs := [.tmp 204, .tmp 205, .const (.int .i64 5)]) Tryd.call16 rfl rfl (Check_calls 0 0 4 5 _ _ lineE [0, 1, 2, 4] w47 (hpe11.keep hA47) (hI47)) (fun v48 w48 hq => ?_))
    obtain ⟨rfl, hE48⟩ := hq
    rw [show planErr 4 lineE [0, 1, 2, 4] 5 = 210 by decide +kernel]
    have hA48 := hA47.trans hE48
    refine L.op rfl rfl (O.eql_t rfl rfl rfl (L.op rfl rfl (O.pick_true rfl rfl (L.op rfl rfl (O.move rfl (L.op rfl rfl (O.loadAgg Tryd.isAgg33 Tryd.sizeOf33 rfl rfl ((hr11.keep hA48 (Nat.zero_le _)).row) (L.op rfl rfl (O.buildSlice (el := 3) (parts := [(0, .const (.int .i64 0)), (1, .const (.int .i64 1)), (2, .const (.int .i64 2)), (3, .const (.int .i64 (-1)))]) (vs := [(0, _), (1, _), (2, _), (3, _)]) (cs := [.int .i64 0, .int .i64 1, .int .i64 2, .int .i64 (-1)]) rfl (fun w => by kernel_rfl) (fun b49 w49 hb49 hz49 he49 hB49 => ?_))))))))))
    have hI49 : IntsF [0, 1, 2, -1] (.slice (some ⟨b49, 0, none⟩) 4 4) w49 := lits_ints (xs := [0, 1, 2, -1]) hB49 rfl (by decide)
    have hA49 := hA48.trans he49
    refine L.op rfl rfl (O.call (xs := [.tmp 210, .tmp 211, .const (.int .i64 3)]) Tryd.call16 rfl rfl (Check_calls 0 0 4 3 _ _ lineE [0, 1, 2, -1] w49 (hpe11.keep hA49) (hI49)) (fun v50 w50 hq => ?_))
    obtain ⟨rfl, hE50⟩ := hq
    rw [show planErr 4 lineE [0, 1, 2, -1] 3 = 210 by decide +kernel]
    have hA50 := hA49.trans hE50
    refine L.op rfl rfl (O.eql_t rfl rfl rfl (?_))
    have hr22 := hr11.keep hA50 (Nat.zero_le _)
    have hpe22 := hpe11.keep hA50
    have hT22 := hT11.keep hA50
    refine L.op rfl rfl (O.pick_true rfl rfl (L.op rfl rfl (O.assign rfl (L.nil (T.seq (?_))))))
    refine T.anyE mixed 50 [9, 1] rfl (.is _ :: .is _ :: .such (FailF 2) :: .is _ :: .such (IntsF [0, 0, 1, 1]) :: .is _ :: .such (LE [] 2) :: .such (IntsF []) :: .is (.int .i64 2) :: .is (.bool true) :: .is _ :: .is _ :: .such (FailF 2) :: .is _ :: .such (IntsF [0, 0, 1, 1]) :: .is _ :: .such (LE [] 2) :: .such (IntsF []) :: .is (.int .i64 2) :: .is (.bool true) :: .is _ :: .is _ :: .such (FailF 2) :: .is _ :: .such (IntsF [0, 1, 1, 1]) :: .is _ :: .such (LE [] 2) :: .such (IntsF []) :: .is (.int .i64 2) :: .is (.bool true) :: .is _ :: .is _ :: .such (FailF 2) :: .is _ :: .such (IntsF [0, 0, 1, 1]) :: .is _ :: .such (LE [] 2) :: .such (IntsF []) :: .is (.int .i64 2) :: .is (.bool true) :: .is _ :: .is _ :: .such (fun v w' => IntsF [0, 0, 0, 1] v w' ∧ v.cells = #[v]) :: .such (IsF [0, 0, 0, 1]) :: .is _ :: .such (IntsF [0, 1, 0, 1]) :: .is _ :: .such (LE [0, 0, 0, 1] 0) :: .such (IntsF [0, 0, 0, 1]) :: .is (.int .i64 0) :: []) ([] :: [0] :: [1] :: [1] :: [1] :: [1] :: [3, 4, 5, 1] :: [6, 1] :: [6, 1] :: [2, 7, 8, 1] :: [1, 9] :: [10] :: [11] :: [11] :: [11] :: [11] :: [13, 14, 15, 11] :: [16, 11] :: [16, 11] :: [12, 17, 18, 11] :: [11, 19] :: [20] :: [21] :: [21] :: [21] :: [21] :: [23, 24, 25, 21] :: [26, 21] :: [26, 21] :: [22, 27, 28, 21] :: [21, 29] :: [30] :: [31] :: [31] :: [31] :: [31] :: [33, 34, 35, 31] :: [36, 31] :: [36, 31] :: [32, 37, 38, 31] :: [31, 39] :: [40] :: [41] :: [42, 41] :: [41] :: [41] :: [41] :: [44, 45, 46, 41] :: [47, 41] :: [47, 41] :: []) ([] :: [0] :: [0, 1] :: [0, 1] :: [0, 1] :: [0, 1] :: [0, 1, 2, 3, 4, 5] :: [0, 1, 2, 3, 4, 5, 6] :: [0, 1, 2, 3, 4, 5, 6] :: [0, 1, 2, 3, 4, 5, 6, 7, 8] :: [0, 1, 2, 3, 4, 5, 6, 7, 8, 9] :: [0, 1, 2, 3, 4, 5, 6, 7, 8, 9, 10] :: [0, 1, 2, 3, 4, 5, 6, 7, 8, 9, 10, 11] :: [0, 1, 2, 3, 4, 5, 6, 7, 8, 9, 10, 11] :: [0, 1, 2, 3, 4, 5, 6, 7, 8, 9, 10, 11] :: [0, 1, 2, 3, 4, 5, 6, 7, 8, 9, 10, 11] :: [0, 1, 2, 3, 4, 5, 6, 7, 8, 9, 10, 11, 12, 13, 14, 15] :: [0, 1, 2, 3, 4, 5, 6, 7, 8, 9, 10, 11, 12, 13, 14, 15, 16] :: [0, 1, 2, 3, 4, 5, 6, 7, 8, 9, 10, 11, 12, 13, 14, 15, 16] :: [0, 1, 2, 3, 4, 5, 6, 7, 8, 9, 10, 11, 12, 13, 14, 15, 16, 17, 18] :: [0, 1, 2, 3, 4, 5, 6, 7, 8, 9, 10, 11, 12, 13, 14, 15, 16, 17, 18, 19] :: [0, 1, 2, 3, 4, 5, 6, 7, 8, 9, 10, 11, 12, 13, 14, 15, 16, 17, 18, 19, 20] :: [0, 1, 2, 3, 4, 5, 6, 7, 8, 9, 10, 11, 12, 13, 14, 15, 16, 17, 18, 19, 20, 21] :: [0, 1, 2, 3, 4, 5, 6, 7, 8, 9, 10, 11, 12, 13, 14, 15, 16, 17, 18, 19, 20, 21] :: [0, 1, 2, 3, 4, 5, 6, 7, 8, 9, 10, 11, 12, 13, 14, 15, 16, 17, 18, 19, 20, 21] :: [0, 1, 2, 3, 4, 5, 6, 7, 8, 9, 10, 11, 12, 13, 14, 15, 16, 17, 18, 19, 20, 21] :: [0, 1, 2, 3, 4, 5, 6, 7, 8, 9, 10, 11, 12, 13, 14, 15, 16, 17, 18, 19, 20, 21, 22, 23, 24, 25] :: [0, 1, 2, 3, 4, 5, 6, 7, 8, 9, 10, 11, 12, 13, 14, 15, 16, 17, 18, 19, 20, 21, 22, 23, 24, 25, 26] :: [0, 1, 2, 3, 4, 5, 6, 7, 8, 9, 10, 11, 12, 13, 14, 15, 16, 17, 18, 19, 20, 21, 22, 23, 24, 25, 26] :: [0, 1, 2, 3, 4, 5, 6, 7, 8, 9, 10, 11, 12, 13, 14, 15, 16, 17, 18, 19, 20, 21, 22, 23, 24, 25, 26, 27, 28] :: [0, 1, 2, 3, 4, 5, 6, 7, 8, 9, 10, 11, 12, 13, 14, 15, 16, 17, 18, 19, 20, 21, 22, 23, 24, 25, 26, 27, 28, 29] :: (0 :: 1 :: 2 :: 3 :: 4 :: 5 :: 6 :: 7 :: 8 :: 9 :: 10 :: 11 :: 12 :: 13 :: 14 :: 15 :: 16 :: 17 :: 18 :: 19 :: 20 :: 21 :: 22 :: 23 :: 24 :: 25 :: 26 :: 27 :: 28 :: 29 :: 30 :: []) :: (0 :: 1 :: 2 :: 3 :: 4 :: 5 :: 6 :: 7 :: 8 :: 9 :: 10 :: 11 :: 12 :: 13 :: 14 :: 15 :: 16 :: 17 :: 18 :: 19 :: 20 :: 21 :: 22 :: 23 :: 24 :: 25 :: 26 :: 27 :: 28 :: 29 :: 30 :: 31 :: []) :: (0 :: 1 :: 2 :: 3 :: 4 :: 5 :: 6 :: 7 :: 8 :: 9 :: 10 :: 11 :: 12 :: 13 :: 14 :: 15 :: 16 :: 17 :: 18 :: 19 :: 20 :: 21 :: 22 :: 23 :: 24 :: 25 :: 26 :: 27 :: 28 :: 29 :: 30 :: 31 :: []) :: (0 :: 1 :: 2 :: 3 :: 4 :: 5 :: 6 :: 7 :: 8 :: 9 :: 10 :: 11 :: 12 :: 13 :: 14 :: 15 :: 16 :: 17 :: 18 :: 19 :: 20 :: 21 :: 22 :: 23 :: 24 :: 25 :: 26 :: 27 :: 28 :: 29 :: 30 :: 31 :: []) :: (0 :: 1 :: 2 :: 3 :: 4 :: 5 :: 6 :: 7 :: 8 :: 9 :: 10 :: 11 :: 12 :: 13 :: 14 :: 15 :: 16 :: 17 :: 18 :: 19 :: 20 :: 21 :: 22 :: 23 :: 24 :: 25 :: 26 :: 27 :: 28 :: 29 :: 30 :: 31 :: []) :: (0 :: 1 :: 2 :: 3 :: 4 :: 5 :: 6 :: 7 :: 8 :: 9 :: 10 :: 11 :: 12 :: 13 :: 14 :: 15 :: 16 :: 17 :: 18 :: 19 :: 20 :: 21 :: 22 :: 23 :: 24 :: 25 :: 26 :: 27 :: 28 :: 29 :: 30 :: 31 :: 32 :: 33 :: 34 :: 35 :: []) :: (0 :: 1 :: 2 :: 3 :: 4 :: 5 :: 6 :: 7 :: 8 :: 9 :: 10 :: 11 :: 12 :: 13 :: 14 :: 15 :: 16 :: 17 :: 18 :: 19 :: 20 :: 21 :: 22 :: 23 :: 24 :: 25 :: 26 :: 27 :: 28 :: 29 :: 30 :: 31 :: 32 :: 33 :: 34 :: 35 :: 36 :: []) :: (0 :: 1 :: 2 :: 3 :: 4 :: 5 :: 6 :: 7 :: 8 :: 9 :: 10 :: 11 :: 12 :: 13 :: 14 :: 15 :: 16 :: 17 :: 18 :: 19 :: 20 :: 21 :: 22 :: 23 :: 24 :: 25 :: 26 :: 27 :: 28 :: 29 :: 30 :: 31 :: 32 :: 33 :: 34 :: 35 :: 36 :: []) :: (0 :: 1 :: 2 :: 3 :: 4 :: 5 :: 6 :: 7 :: 8 :: 9 :: 10 :: 11 :: 12 :: 13 :: 14 :: 15 :: 16 :: 17 :: 18 :: 19 :: 20 :: 21 :: 22 :: 23 :: 24 :: 25 :: 26 :: 27 :: 28 :: 29 :: 30 :: 31 :: 32 :: 33 :: 34 :: 35 :: 36 :: 37 :: 38 :: []) :: (0 :: 1 :: 2 :: 3 :: 4 :: 5 :: 6 :: 7 :: 8 :: 9 :: 10 :: 11 :: 12 :: 13 :: 14 :: 15 :: 16 :: 17 :: 18 :: 19 :: 20 :: 21 :: 22 :: 23 :: 24 :: 25 :: 26 :: 27 :: 28 :: 29 :: 30 :: 31 :: 32 :: 33 :: 34 :: 35 :: 36 :: 37 :: 38 :: 39 :: []) :: (0 :: 1 :: 2 :: 3 :: 4 :: 5 :: 6 :: 7 :: 8 :: 9 :: 10 :: 11 :: 12 :: 13 :: 14 :: 15 :: 16 :: 17 :: 18 :: 19 :: 20 :: 21 :: 22 :: 23 :: 24 :: 25 :: 26 :: 27 :: 28 :: 29 :: 30 :: 31 :: 32 :: 33 :: 34 :: 35 :: 36 :: 37 :: 38 :: 39 :: 40 :: []) :: (0 :: 1 :: 2 :: 3 :: 4 :: 5 :: 6 :: 7 :: 8 :: 9 :: 10 :: 11 :: 12 :: 13 :: 14 :: 15 :: 16 :: 17 :: 18 :: 19 :: 20 :: 21 :: 22 :: 23 :: 24 :: 25 :: 26 :: 27 :: 28 :: 29 :: 30 :: 31 :: 32 :: 33 :: 34 :: 35 :: 36 :: 37 :: 38 :: 39 :: 40 :: 41 :: []) :: (0 :: 1 :: 2 :: 3 :: 4 :: 5 :: 6 :: 7 :: 8 :: 9 :: 10 :: 11 :: 12 :: 13 :: 14 :: 15 :: 16 :: 17 :: 18 :: 19 :: 20 :: 21 :: 22 :: 23 :: 24 :: 25 :: 26 :: 27 :: 28 :: 29 :: 30 :: 31 :: 32 :: 33 :: 34 :: 35 :: 36 :: 37 :: 38 :: 39 :: 40 :: 41 :: 42 :: []) :: (0 :: 1 :: 2 :: 3 :: 4 :: 5 :: 6 :: 7 :: 8 :: 9 :: 10 :: 11 :: 12 :: 13 :: 14 :: 15 :: 16 :: 17 :: 18 :: 19 :: 20 :: 21 :: 22 :: 23 :: 24 :: 25 :: 26 :: 27 :: 28 :: 29 :: 30 :: 31 :: 32 :: 33 :: 34 :: 35 :: 36 :: 37 :: 38 :: 39 :: 40 :: 41 :: []) :: (0 :: 1 :: 2 :: 3 :: 4 :: 5 :: 6 :: 7 :: 8 :: 9 :: 10 :: 11 :: 12 :: 13 :: 14 :: 15 :: 16 :: 17 :: 18 :: 19 :: 20 :: 21 :: 22 :: 23 :: 24 :: 25 :: 26 :: 27 :: 28 :: 29 :: 30 :: 31 :: 32 :: 33 :: 34 :: 35 :: 36 :: 37 :: 38 :: 39 :: 40 :: 41 :: []) :: (0 :: 1 :: 2 :: 3 :: 4 :: 5 :: 6 :: 7 :: 8 :: 9 :: 10 :: 11 :: 12 :: 13 :: 14 :: 15 :: 16 :: 17 :: 18 :: 19 :: 20 :: 21 :: 22 :: 23 :: 24 :: 25 :: 26 :: 27 :: 28 :: 29 :: 30 :: 31 :: 32 :: 33 :: 34 :: 35 :: 36 :: 37 :: 38 :: 39 :: 40 :: 41 :: []) :: (0 :: 1 :: 2 :: 3 :: 4 :: 5 :: 6 :: 7 :: 8 :: 9 :: 10 :: 11 :: 12 :: 13 :: 14 :: 15 :: 16 :: 17 :: 18 :: 19 :: 20 :: 21 :: 22 :: 23 :: 24 :: 25 :: 26 :: 27 :: 28 :: 29 :: 30 :: 31 :: 32 :: 33 :: 34 :: 35 :: 36 :: 37 :: 38 :: 39 :: 40 :: 41 :: 42 :: 43 :: 44 :: 45 :: 46 :: []) :: (0 :: 1 :: 2 :: 3 :: 4 :: 5 :: 6 :: 7 :: 8 :: 9 :: 10 :: 11 :: 12 :: 13 :: 14 :: 15 :: 16 :: 17 :: 18 :: 19 :: 20 :: 21 :: 22 :: 23 :: 24 :: 25 :: 26 :: 27 :: 28 :: 29 :: 30 :: 31 :: 32 :: 33 :: 34 :: 35 :: 36 :: 37 :: 38 :: 39 :: 40 :: 41 :: 42 :: 43 :: 44 :: 45 :: 46 :: 47 :: []) :: (0 :: 1 :: 2 :: 3 :: 4 :: 5 :: 6 :: 7 :: 8 :: 9 :: 10 :: 11 :: 12 :: 13 :: 14 :: 15 :: 16 :: 17 :: 18 :: 19 :: 20 :: 21 :: 22 :: 23 :: 24 :: 25 :: 26 :: 27 :: 28 :: 29 :: 30 :: 31 :: 32 :: 33 :: 34 :: 35 :: 36 :: 37 :: 38 :: 39 :: 40 :: 41 :: 42 :: 43 :: 44 :: 45 :: 46 :: 47 :: []) :: (0 :: 1 :: 2 :: 3 :: 4 :: 5 :: 6 :: 7 :: 8 :: 9 :: 10 :: 11 :: 12 :: 13 :: 14 :: 15 :: 16 :: 17 :: 18 :: 19 :: 20 :: 21 :: 22 :: 23 :: 24 :: 25 :: 26 :: 27 :: 28 :: 29 :: 30 :: 31 :: 32 :: 33 :: 34 :: 35 :: 36 :: 37 :: 38 :: 39 :: 40 :: 41 :: 42 :: 43 :: 44 :: 45 :: 46 :: 47 :: 48 :: 49 :: []) :: (0 :: 1 :: 2 :: 3 :: 4 :: 5 :: 6 :: 7 :: 8 :: 9 :: 10 :: 11 :: 12 :: 13 :: 14 :: 15 :: 16 :: 17 :: 18 :: 19 :: 20 :: 21 :: 22 :: 23 :: 24 :: 25 :: 26 :: 27 :: 28 :: 29 :: 30 :: 31 :: 32 :: 33 :: 34 :: 35 :: 36 :: 37 :: 38 :: 39 :: 40 :: 41 :: 42 :: 43 :: 44 :: 45 :: 46 :: 47 :: 48 :: 49 :: 50 :: []) :: (0 :: 1 :: 2 :: 3 :: 4 :: 5 :: 6 :: 7 :: 8 :: 9 :: 10 :: 11 :: 12 :: 13 :: 14 :: 15 :: 16 :: 17 :: 18 :: 19 :: 20 :: 21 :: 22 :: 23 :: 24 :: 25 :: 26 :: 27 :: 28 :: 29 :: 30 :: 31 :: 32 :: 33 :: 34 :: 35 :: 36 :: 37 :: 38 :: 39 :: 40 :: 41 :: 42 :: 43 :: 44 :: 45 :: 46 :: 47 :: 48 :: 49 :: 50 :: 51 :: []) :: []) (by kernel_rfl) (by kernel_rfl) rfl (by kernel_rfl) ⟨FailF.st, IntsF.st, LE.st, IntsF.st, FailF.st, IntsF.st, LE.st, IntsF.st, FailF.st, IntsF.st, LE.st, IntsF.st, FailF.st, IntsF.st, LE.st, IntsF.st, fun v w w' he h => ⟨IntsF.st v w w' he h.1, h.2⟩, IsF.st, IntsF.st, LE.st, IntsF.st, trivial⟩ ⟨fun wx hx => Ob.op rfl (O.move rfl ⟨Keep.refl _ _, rfl⟩),
        fun wx hx => Ob.op rfl (O.move rfl ⟨Keep.refl _ _, rfl⟩),
        fun wx hx => Ob.op rfl (O.call (xs := [.const (.int .i64 2)]) Tryd.call42 rfl rfl (fails_calls 2 wx) (fun v wy h => ⟨h.1, _, h.2.1, h.2.2⟩)),
        fun wx hx => Ob.op rfl (O.loadAgg Tryd.isAgg33 Tryd.sizeOf33 rfl rfl ((hr22.keep hx (Nat.zero_le _)).row) ⟨Keep.refl _ _, rfl⟩),
        fun wx hx => Ob.op rfl (O.buildSlice (el := 3) (parts := [(0, .const (.int .i64 0)), (1, .const (.int .i64 0)), (2, .const (.int .i64 1)), (3, .const (.int .i64 1))]) (vs := [(0, _), (1, _), (2, _), (3, _)]) (cs := [.int .i64 0, .int .i64 0, .int .i64 1, .int .i64 1]) rfl (fun w => by kernel_rfl) (fun b90 w90 hb90 hz90 he90 hB90 => ⟨he90, lits_ints (xs := [0, 0, 1, 1]) hB90 rfl (by decide)⟩)),
        fun wx hx => Ob.op rfl (O.build (v := .agg #[.int .i64 0, .int .i64 0, .int .i64 1]) (parts := [(0, .const (.int .i64 0)), (1, .const (.int .i64 0)), (2, .const (.int .i64 1))]) (vs := [(0, _), (1, _), (2, _)]) rfl (fun w => by kernel_rfl) ⟨Keep.refl _ _, rfl⟩),
        fun wx hx v219 hv219 => Ob.op rfl (O.call (xs := [.tmp 218, .tmp 219, .const (.int .i64 2), .tmp 220]) Tryd.call24 rfl rfl (Apply_calls 0 0 4 2 (0, 0, 1) _ v219 lineE [0, 0, 1, 1] wx (hpe22.keep hx) hv219 (hT22.keep hx)) (fun v wy h => apply_le h kn_a1 (applied_no kn_a1))),
        fun wx hx v221 hv221 => by { obtain ⟨l, rfl, hl⟩ := hv221; exact Ob.op rfl (O.extract rfl rfl ⟨Keep.refl _ _, hl⟩) },
        fun wx hx v221 hv221 => by { obtain ⟨l, rfl, hl⟩ := hv221; exact Ob.op rfl (O.extract rfl rfl ⟨Keep.refl _ _, rfl⟩) },
        fun wx hx v217 hv217 v222 hv222 => by { obtain ⟨b, rfl, hB⟩ := hv217; exact Ob.op rfl (O.call (xs := [.tmp 222, .tmp 223]) Tryd.call67 rfl rfl (fails1_calls b 0 2 2 v222 [] wx hB hv222) (fun v wy h => ⟨Keep.of_eq h.2, h.1⟩)) },
        fun wx hx => Ob.op rfl (O.pick_true rfl rfl ⟨Keep.refl _ _, rfl⟩),
        fun wx hx => Ob.op rfl (O.move rfl ⟨Keep.refl _ _, rfl⟩),
        fun wx hx => Ob.op rfl (O.call (xs := [.const (.int .i64 2)]) Tryd.call42 rfl rfl (fails_calls 2 wx) (fun v wy h => ⟨h.1, _, h.2.1, h.2.2⟩)),
        fun wx hx => Ob.op rfl (O.loadAgg Tryd.isAgg33 Tryd.sizeOf33 rfl rfl ((hr22.keep hx (Nat.zero_le _)).row) ⟨Keep.refl _ _, rfl⟩),
        fun wx hx => Ob.op rfl (O.buildSlice (el := 3) (parts := [(0, .const (.int .i64 0)), (1, .const (.int .i64 0)), (2, .const (.int .i64 1)), (3, .const (.int .i64 1))]) (vs := [(0, _), (1, _), (2, _), (3, _)]) (cs := [.int .i64 0, .int .i64 0, .int .i64 1, .int .i64 1]) rfl (fun w => by kernel_rfl) (fun b90 w90 hb90 hz90 he90 hB90 => ⟨he90, lits_ints (xs := [0, 0, 1, 1]) hB90 rfl (by decide)⟩)),
        fun wx hx => Ob.op rfl (O.build (v := .agg #[.int .i64 1, .int .i64 1, .int .i64 1]) (parts := [(0, .const (.int .i64 1)), (1, .const (.int .i64 1)), (2, .const (.int .i64 1))]) (vs := [(0, _), (1, _), (2, _)]) rfl (fun w => by kernel_rfl) ⟨Keep.refl _ _, rfl⟩),
        fun wx hx v229 hv229 => Ob.op rfl (O.call (xs := [.tmp 228, .tmp 229, .const (.int .i64 2), .tmp 230]) Tryd.call24 rfl rfl (Apply_calls 0 0 4 2 (1, 1, 1) _ v229 lineE [0, 0, 1, 1] wx (hpe22.keep hx) hv229 (hT22.keep hx)) (fun v wy h => apply_le h kn_a2 (applied_no kn_a2))),
        fun wx hx v231 hv231 => by { obtain ⟨l, rfl, hl⟩ := hv231; exact Ob.op rfl (O.extract rfl rfl ⟨Keep.refl _ _, hl⟩) },
        fun wx hx v231 hv231 => by { obtain ⟨l, rfl, hl⟩ := hv231; exact Ob.op rfl (O.extract rfl rfl ⟨Keep.refl _ _, rfl⟩) },
        fun wx hx v227 hv227 v232 hv232 => by { obtain ⟨b, rfl, hB⟩ := hv227; exact Ob.op rfl (O.call (xs := [.tmp 232, .tmp 233]) Tryd.call67 rfl rfl (fails1_calls b 0 2 2 v232 [] wx hB hv232) (fun v wy h => ⟨Keep.of_eq h.2, h.1⟩)) },
        fun wx hx => Ob.op rfl (O.pick_true rfl rfl ⟨Keep.refl _ _, rfl⟩),
        fun wx hx => Ob.op rfl (O.move rfl ⟨Keep.refl _ _, rfl⟩),
        fun wx hx => Ob.op rfl (O.call (xs := [.const (.int .i64 2)]) Tryd.call42 rfl rfl (fails_calls 2 wx) (fun v wy h => ⟨h.1, _, h.2.1, h.2.2⟩)),
        fun wx hx => Ob.op rfl (O.loadAgg Tryd.isAgg33 Tryd.sizeOf33 rfl rfl ((hr22.keep hx (Nat.zero_le _)).row) ⟨Keep.refl _ _, rfl⟩),
        fun wx hx => Ob.op rfl (O.buildSlice (el := 3) (parts := [(0, .const (.int .i64 0)), (1, .const (.int .i64 1)), (2, .const (.int .i64 1)), (3, .const (.int .i64 1))]) (vs := [(0, _), (1, _), (2, _), (3, _)]) (cs := [.int .i64 0, .int .i64 1, .int .i64 1, .int .i64 1]) rfl (fun w => by kernel_rfl) (fun b90 w90 hb90 hz90 he90 hB90 => ⟨he90, lits_ints (xs := [0, 1, 1, 1]) hB90 rfl (by decide)⟩)),
        fun wx hx => Ob.op rfl (O.build (v := .agg #[.int .i64 0, .int .i64 0, .int .i64 1]) (parts := [(0, .const (.int .i64 0)), (1, .const (.int .i64 0)), (2, .const (.int .i64 1))]) (vs := [(0, _), (1, _), (2, _)]) rfl (fun w => by kernel_rfl) ⟨Keep.refl _ _, rfl⟩),
        fun wx hx v239 hv239 => Ob.op rfl (O.call (xs := [.tmp 238, .tmp 239, .const (.int .i64 2), .tmp 240]) Tryd.call24 rfl rfl (Apply_calls 0 0 4 2 (0, 0, 1) _ v239 lineE [0, 1, 1, 1] wx (hpe22.keep hx) hv239 (hT22.keep hx)) (fun v wy h => apply_le h kn_a3 (applied_no kn_a3))),
        fun wx hx v241 hv241 => by { obtain ⟨l, rfl, hl⟩ := hv241; exact Ob.op rfl (O.extract rfl rfl ⟨Keep.refl _ _, hl⟩) },
        fun wx hx v241 hv241 => by { obtain ⟨l, rfl, hl⟩ := hv241; exact Ob.op rfl (O.extract rfl rfl ⟨Keep.refl _ _, rfl⟩) },
        fun wx hx v237 hv237 v242 hv242 => by { obtain ⟨b, rfl, hB⟩ := hv237; exact Ob.op rfl (O.call (xs := [.tmp 242, .tmp 243]) Tryd.call67 rfl rfl (fails1_calls b 0 2 2 v242 [] wx hB hv242) (fun v wy h => ⟨Keep.of_eq h.2, h.1⟩)) },
        fun wx hx => Ob.op rfl (O.pick_true rfl rfl ⟨Keep.refl _ _, rfl⟩),
        fun wx hx => Ob.op rfl (O.move rfl ⟨Keep.refl _ _, rfl⟩),
        fun wx hx => Ob.op rfl (O.call (xs := [.const (.int .i64 2)]) Tryd.call42 rfl rfl (fails_calls 2 wx) (fun v wy h => ⟨h.1, _, h.2.1, h.2.2⟩)),
        fun wx hx => Ob.op rfl (O.loadAgg Tryd.isAgg33 Tryd.sizeOf33 rfl rfl ((hr22.keep hx (Nat.zero_le _)).row) ⟨Keep.refl _ _, rfl⟩),
        fun wx hx => Ob.op rfl (O.buildSlice (el := 3) (parts := [(0, .const (.int .i64 0)), (1, .const (.int .i64 0)), (2, .const (.int .i64 1)), (3, .const (.int .i64 1))]) (vs := [(0, _), (1, _), (2, _), (3, _)]) (cs := [.int .i64 0, .int .i64 0, .int .i64 1, .int .i64 1]) rfl (fun w => by kernel_rfl) (fun b90 w90 hb90 hz90 he90 hB90 => ⟨he90, lits_ints (xs := [0, 0, 1, 1]) hB90 rfl (by decide)⟩)),
        fun wx hx => Ob.op rfl (O.build (v := .agg #[.int .i64 (-1), .int .i64 0, .int .i64 1]) (parts := [(0, .const (.int .i64 (-1))), (1, .const (.int .i64 0)), (2, .const (.int .i64 1))]) (vs := [(0, _), (1, _), (2, _)]) rfl (fun w => by kernel_rfl) ⟨Keep.refl _ _, rfl⟩),
        fun wx hx v249 hv249 => Ob.op rfl (O.call (xs := [.tmp 248, .tmp 249, .const (.int .i64 2), .tmp 250]) Tryd.call24 rfl rfl (Apply_calls 0 0 4 2 (-1, 0, 1) _ v249 lineE [0, 0, 1, 1] wx (hpe22.keep hx) hv249 (hT22.keep hx)) (fun v wy h => apply_le h kn_a4 (applied_no kn_a4))),
        fun wx hx v251 hv251 => by { obtain ⟨l, rfl, hl⟩ := hv251; exact Ob.op rfl (O.extract rfl rfl ⟨Keep.refl _ _, hl⟩) },
        fun wx hx v251 hv251 => by { obtain ⟨l, rfl, hl⟩ := hv251; exact Ob.op rfl (O.extract rfl rfl ⟨Keep.refl _ _, rfl⟩) },
        fun wx hx v247 hv247 v252 hv252 => by { obtain ⟨b, rfl, hB⟩ := hv247; exact Ob.op rfl (O.call (xs := [.tmp 252, .tmp 253]) Tryd.call67 rfl rfl (fails1_calls b 0 2 2 v252 [] wx hB hv252) (fun v wy h => ⟨Keep.of_eq h.2, h.1⟩)) },
        fun wx hx => Ob.op rfl (O.pick_true rfl rfl ⟨Keep.refl _ _, rfl⟩),
        fun wx hx => Ob.op rfl (O.move rfl ⟨Keep.refl _ _, rfl⟩),
        fun wx hx => Ob.op rfl (O.buildSlice (el := 3) (parts := [(0, .const (.int .i64 0)), (1, .const (.int .i64 0)), (2, .const (.int .i64 0)), (3, .const (.int .i64 1))]) (vs := [(0, _), (1, _), (2, _), (3, _)]) (cs := [.int .i64 0, .int .i64 0, .int .i64 0, .int .i64 1]) rfl (fun w => by kernel_rfl) (fun b90 w90 hb90 hz90 he90 hB90 => ⟨he90, lits_ints (xs := [0, 0, 0, 1]) hB90 rfl (by decide), rfl⟩)),
        fun wx hx v257 hv257 => by { obtain ⟨hq, hc⟩ := hv257; exact Ob.op rfl (O.call (xs := [.tmp 257]) Tryd.call39 rfl rfl (is_calls v257 wx hc) (fun v wy h => ⟨h.1, _, _, h.2.1, h.2.2, hq.keep h.1⟩)) },
        fun wx hx => Ob.op rfl (O.loadAgg Tryd.isAgg33 Tryd.sizeOf33 rfl rfl ((hr22.keep hx (Nat.zero_le _)).row) ⟨Keep.refl _ _, rfl⟩),
        fun wx hx => Ob.op rfl (O.buildSlice (el := 3) (parts := [(0, .const (.int .i64 0)), (1, .const (.int .i64 1)), (2, .const (.int .i64 0)), (3, .const (.int .i64 1))]) (vs := [(0, _), (1, _), (2, _), (3, _)]) (cs := [.int .i64 0, .int .i64 1, .int .i64 0, .int .i64 1]) rfl (fun w => by kernel_rfl) (fun b90 w90 hb90 hz90 he90 hB90 => ⟨he90, lits_ints (xs := [0, 1, 0, 1]) hB90 rfl (by decide)⟩)),
        fun wx hx => Ob.op rfl (O.build (v := .agg #[.int .i64 1, .int .i64 1, .int .i64 0]) (parts := [(0, .const (.int .i64 1)), (1, .const (.int .i64 1)), (2, .const (.int .i64 0))]) (vs := [(0, _), (1, _), (2, _)]) rfl (fun w => by kernel_rfl) ⟨Keep.refl _ _, rfl⟩),
        fun wx hx v260 hv260 => Ob.op rfl (O.call (xs := [.tmp 259, .tmp 260, .const (.int .i64 2), .tmp 261]) Tryd.call24 rfl rfl (Apply_calls 0 0 4 2 (1, 1, 0) _ v260 lineE [0, 1, 0, 1] wx (hpe22.keep hx) hv260 (hT22.keep hx)) (fun v wy h => apply_le h kn_a5 kn_ap5)),
        fun wx hx v262 hv262 => by { obtain ⟨l, rfl, hl⟩ := hv262; exact Ob.op rfl (O.extract rfl rfl ⟨Keep.refl _ _, hl⟩) },
        fun wx hx v262 hv262 => by { obtain ⟨l, rfl, hl⟩ := hv262; exact Ob.op rfl (O.extract rfl rfl ⟨Keep.refl _ _, rfl⟩) },
        trivial⟩ (fun w90 he90 v217 hv217 v219 hv219 v221 hv221 v222 hv222 v227 hv227 v229 hv229 v231 hv231 v232 hv232 v237 hv237 v239 hv239 v241 hv241 v242 hv242 v247 hv247 v249 hv249 v251 hv251 v252 hv252 v257 hv257 v258 hv258 v260 hv260 v262 hv262 v263 hv263 => ?_)
    obtain ⟨b258, q258, rfl, hF258, hq258⟩ := hv258
    have hA90 := hA50.trans he90
    refine L.op rfl rfl (O.call (xs := [.tmp 263, .tmp 264]) Tryd.call65 rfl rfl (is1_calls b258 0 0 v263 q258 [0, 0, 0, 1] [0, 0, 0, 1] 0 w90 hF258 hv263 hq258) (fun v91 w91 hq => ?_))
    obtain ⟨rfl, hE91⟩ := hq
    have hA91 := hA90.trans hE91
    refine L.op rfl rfl (O.pick_true rfl rfl (L.op rfl rfl (O.assign rfl (L.nil (T.seq (T.region (L.op rfl rfl (O.buildSlice (el := 3) (parts := [(0, .const (.int .i64 0))]) (vs := [(0, _)]) (cs := [.int .i64 0]) rfl (fun w => by kernel_rfl) (fun b92 w92 hb92 hz92 he92 hB92 => ?_)))))))))
    have hI92 : IntsF [0] (.slice (some ⟨b92, 0, none⟩) 1 1) w92 := lits_ints (xs := [0]) hB92 rfl (by decide)
    have hA92 := hA91.trans he92
    refine L.op rfl rfl (O.buildSlice (el := 3) (parts := [(0, .const (.int .i64 0)), (1, .const (.int .i64 0))]) (vs := [(0, _), (1, _)]) (cs := [.int .i64 0, .int .i64 0]) rfl (fun w => by kernel_rfl) (fun b93 w93 hb93 hz93 he93 hB93 => ?_))
    have hI93 : IntsF [0, 0] (.slice (some ⟨b93, 0, none⟩) 2 2) w93 := lits_ints (xs := [0, 0]) hB93 rfl (by decide)
    have hA93 := hA92.trans he93
    refine L.op rfl rfl (O.call (xs := [.tmp 268, .tmp 269]) Tryd.call32 rfl rfl (Same_calls 0 0 _ _ [0] [0, 0] w93 (Ints.keep hI92 he93) hI93) (fun v94 w94 hq => ?_))
    obtain ⟨hE94, c94, rfl, _, _⟩ := hq
    rw [show twoErr [0] [0, 0] = 2 by decide +kernel]
    have hA94 := hA93.trans hE94
    refine L.op rfl rfl (O.move rfl (L.op rfl rfl (O.extract rfl rfl (L.op rfl rfl (O.extract rfl rfl (L.op rfl rfl (O.assign rfl (L.op rfl rfl (O.assign rfl (L.nil (T.seq (T.region (L.op rfl rfl (O.buildSlice (el := 3) (parts := [(0, .const (.int .i64 0))]) (vs := [(0, _)]) (cs := [.int .i64 0]) rfl (fun w => by kernel_rfl) (fun b95 w95 hb95 hz95 he95 hB95 => ?_)))))))))))))))
    have hI95 : IntsF [0] (.slice (some ⟨b95, 0, none⟩) 1 1) w95 := lits_ints (xs := [0]) hB95 rfl (by decide)
    have hA95 := hA94.trans he95
    refine L.op rfl rfl (O.buildSlice (el := 3) (parts := [(0, .const (.int .i64 0)), (1, .const (.int .i64 8))]) (vs := [(0, _), (1, _)]) (cs := [.int .i64 0, .int .i64 8]) rfl (fun w => by kernel_rfl) (fun b96 w96 hb96 hz96 he96 hB96 => ?_))
    have hI96 : IntsF [0, 8] (.slice (some ⟨b96, 0, none⟩) 2 2) w96 := lits_ints (xs := [0, 8]) hB96 rfl (by decide)
    have hA96 := hA95.trans he96
    refine L.op rfl rfl (O.call (xs := [.tmp 274, .tmp 275]) Tryd.call32 rfl rfl (Same_calls 0 0 _ _ [0] [0, 8] w96 (Ints.keep hI95 he96) hI96) (fun v97 w97 hq => ?_))
    obtain ⟨hE97, c97, rfl, _, _⟩ := hq
    rw [show twoErr [0] [0, 8] = 210 by decide +kernel]
    have hA97 := hA96.trans hE97
    refine L.op rfl rfl (O.move rfl (L.op rfl rfl (O.extract rfl rfl (L.op rfl rfl (O.extract rfl rfl (L.op rfl rfl (O.assign rfl (L.op rfl rfl (O.assign rfl (L.nil (T.seq (T.region (L.op rfl rfl (O.buildSlice (el := 3) (parts := [(0, .const (.int .i64 9))]) (vs := [(0, _)]) (cs := [.int .i64 9]) rfl (fun w => by kernel_rfl) (fun b98 w98 hb98 hz98 he98 hB98 => ?_)))))))))))))))
    have hI98 : IntsF [9] (.slice (some ⟨b98, 0, none⟩) 1 1) w98 := lits_ints (xs := [9]) hB98 rfl (by decide)
    have hA98 := hA97.trans he98
    refine L.op rfl rfl (O.buildSlice (el := 3) (parts := [(0, .const (.int .i64 0)), (1, .const (.int .i64 0))]) (vs := [(0, _), (1, _)]) (cs := [.int .i64 0, .int .i64 0]) rfl (fun w => by kernel_rfl) (fun b99 w99 hb99 hz99 he99 hB99 => ?_))
    have hI99 : IntsF [0, 0] (.slice (some ⟨b99, 0, none⟩) 2 2) w99 := lits_ints (xs := [0, 0]) hB99 rfl (by decide)
    have hA99 := hA98.trans he99
    refine L.op rfl rfl (O.call (xs := [.tmp 280, .tmp 281]) Tryd.call34 rfl rfl (Apart_calls 0 0 _ _ [9] [0, 0] w99 (Ints.keep hI98 he99) hI99) (fun v100 w100 hq => ?_))
    obtain ⟨rfl, hE100⟩ := hq
    rw [show twoErr [9] [0, 0] = 210 by decide +kernel]
    have hA100 := hA99.trans hE100
    refine L.op rfl rfl (O.move rfl (L.op rfl rfl (O.extract rfl rfl (L.op rfl rfl (O.extract rfl rfl (L.op rfl rfl (O.assign rfl (L.op rfl rfl (O.assign rfl (L.nil (T.seq (T.region (L.op rfl rfl (O.move rfl (L.op rfl rfl (O.move rfl (L.op rfl rfl (O.pick_true rfl rfl (L.op rfl rfl (O.move rfl (L.op rfl rfl (O.move rfl (L.op rfl rfl (O.eql_t rfl rfl rfl (L.op rfl rfl (O.pick_true rfl rfl (L.op rfl rfl (O.move rfl (L.op rfl rfl (O.move rfl (L.op rfl rfl (O.eql_t rfl rfl rfl (L.op rfl rfl (O.pick_true rfl rfl (L.op rfl rfl (O.move rfl (L.op rfl rfl (O.move rfl (L.op rfl rfl (O.eql_t rfl rfl rfl (L.op rfl rfl (O.pick_true rfl rfl (L.op rfl rfl (O.move rfl (?_)))))))))))))))))))))))))))))))))))))))))))))
    refine L.op rfl rfl (O.call (xs := [.const (.int .i64 0)]) Tryd.call40 rfl rfl (number_calls 0 w100) (fun v101 w101 hq => ?_))
    obtain ⟨hE101, rfl, hF101⟩ := hq
    have hA101 := hA100.trans hE101
    refine L.op rfl rfl (O.buildSlice (el := 3) (parts := [(0, .const (.int .i64 0)), (1, .const (.int .i64 1)), (2, .const (.int .i64 2)), (3, .const (.int .i64 3)), (4, .const (.int .i64 4)), (5, .const (.int .i64 5)), (6, .const (.int .i64 6)), (7, .const (.int .i64 7))]) (vs := [(0, _), (1, _), (2, _), (3, _), (4, _), (5, _), (6, _), (7, _)]) (cs := [.int .i64 0, .int .i64 1, .int .i64 2, .int .i64 3, .int .i64 4, .int .i64 5, .int .i64 6, .int .i64 7]) rfl (fun w => by kernel_rfl) (fun b102 w102 hb102 hz102 he102 hB102 => ?_))
    have hI102 : IntsF [0, 1, 2, 3, 4, 5, 6, 7] (.slice (some ⟨b102, 0, none⟩) 8 8) w102 := lits_ints (xs := [0, 1, 2, 3, 4, 5, 6, 7]) hB102 rfl (by decide)
    have hA102 := hA101.trans he102
    refine L.op rfl rfl (O.buildSlice (el := 3) (parts := [(0, .const (.int .i64 7)), (1, .const (.int .i64 6)), (2, .const (.int .i64 5)), (3, .const (.int .i64 4)), (4, .const (.int .i64 3)), (5, .const (.int .i64 2)), (6, .const (.int .i64 1)), (7, .const (.int .i64 0))]) (vs := [(0, _), (1, _), (2, _), (3, _), (4, _), (5, _), (6, _), (7, _)]) (cs := [.int .i64 7, .int .i64 6, .int .i64 5, .int .i64 4, .int .i64 3, .int .i64 2, .int .i64 1, .int .i64 0]) rfl (fun w => by kernel_rfl) (fun b103 w103 hb103 hz103 he103 hB103 => ?_))
    have hI103 : IntsF [7, 6, 5, 4, 3, 2, 1, 0] (.slice (some ⟨b103, 0, none⟩) 8 8) w103 := lits_ints (xs := [7, 6, 5, 4, 3, 2, 1, 0]) hB103 rfl (by decide)
    have hA103 := hA102.trans he103
    refine L.op rfl rfl (O.call (xs := [.tmp 302, .tmp 303]) Tryd.call34 rfl rfl (Apart_calls 0 0 _ _ [0, 1, 2, 3, 4, 5, 6, 7] [7, 6, 5, 4, 3, 2, 1, 0] w103 (Ints.keep hI102 he103) hI103) (fun v104 w104 hq => ?_))
    obtain ⟨rfl, hE104⟩ := hq
    rw [kn_apart2, kn_two2]
    have hA104 := hA103.trans hE104
    refine L.op rfl rfl (O.extract rfl rfl (L.op rfl rfl (O.extract rfl rfl (L.op rfl rfl (O.call (xs := [.tmp 305, .tmp 306]) Tryd.call66 rfl rfl (number1_calls _ 0 0 0 w104 (hF101.keep ((he102.trans he103).trans hE104) (Nat.zero_le _))) (fun v105 w105 hq => ?_))))))
    obtain ⟨rfl, hW105⟩ := hq
    subst hW105
    refine L.op rfl rfl (O.pick_true rfl rfl (L.op rfl rfl (O.move rfl (L.op rfl rfl (O.call (xs := [.const (.int .i64 2)]) Tryd.call40 rfl rfl (number_calls 2 w105) (fun v106 w106 hq => ?_))))))
    obtain ⟨hE106, rfl, hF106⟩ := hq
    have hA106 := hA104.trans hE106
    refine L.op rfl rfl (O.buildSlice (el := 3) (parts := [(0, .const (.int .i64 0)), (1, .const (.int .i64 0)), (2, .const (.int .i64 1)), (3, .const (.int .i64 1))]) (vs := [(0, _), (1, _), (2, _), (3, _)]) (cs := [.int .i64 0, .int .i64 0, .int .i64 1, .int .i64 1]) rfl (fun w => by kernel_rfl) (fun b107 w107 hb107 hz107 he107 hB107 => ?_))
    have hI107 : IntsF [0, 0, 1, 1] (.slice (some ⟨b107, 0, none⟩) 4 4) w107 := lits_ints (xs := [0, 0, 1, 1]) hB107 rfl (by decide)
    have hA107 := hA106.trans he107
    refine L.op rfl rfl (O.buildSlice (el := 3) (parts := [(0, .const (.int .i64 0)), (1, .const (.int .i64 1)), (2, .const (.int .i64 0)), (3, .const (.int .i64 1))]) (vs := [(0, _), (1, _), (2, _), (3, _)]) (cs := [.int .i64 0, .int .i64 1, .int .i64 0, .int .i64 1]) rfl (fun w => by kernel_rfl) (fun b108 w108 hb108 hz108 he108 hB108 => ?_))
    have hI108 : IntsF [0, 1, 0, 1] (.slice (some ⟨b108, 0, none⟩) 4 4) w108 := lits_ints (xs := [0, 1, 0, 1]) hB108 rfl (by decide)
    have hA108 := hA107.trans he108
    refine L.op rfl rfl (O.call (xs := [.tmp 311, .tmp 312]) Tryd.call34 rfl rfl (Apart_calls 0 0 _ _ [0, 0, 1, 1] [0, 1, 0, 1] w108 (Ints.keep hI107 he108) hI108) (fun v109 w109 hq => ?_))
    obtain ⟨rfl, hE109⟩ := hq
    rw [kn_apart3, kn_two3]
    have hA109 := hA108.trans hE109
    refine L.op rfl rfl (O.extract rfl rfl (L.op rfl rfl (O.extract rfl rfl (L.op rfl rfl (O.call (xs := [.tmp 314, .tmp 315]) Tryd.call66 rfl rfl (number1_calls _ 2 2 0 w109 (hF106.keep ((he107.trans he108).trans hE109) (Nat.zero_le _))) (fun v110 w110 hq => ?_))))))
    obtain ⟨rfl, hW110⟩ := hq
    subst hW110
    refine L.op rfl rfl (O.pick_true rfl rfl (L.op rfl rfl (O.assign rfl (L.nil (T.ret1 Tryd.results9 rfl ⟨rfl, (he06.trans he611).trans hA109⟩)))))

end Go.Proofs.YthjdljbghjelfaaDoor
set_option linter.unusedVariables false
set_option linter.unusedSimpArgs false
set_option maxRecDepth 20000
namespace Go.Proofs.YthjdljbghjelfaaDoor
open Go Go.E RowKit ChangeShapes WideShapes
attribute [local irreducible] Go.E.T Go.E.L Go.E.O Go.E.Ob

set_option maxRecDepth 100000 in
theorem planKnown_lifted (os : Os) (started : os.Started) (H : Type) (enc : TypeId × Value → H) :
    ReturnsInHanded {} Tryd.checked os 9 .any (fun w args => (Rows.planKnownSpec.pre enc Tryd.prog Tryd.f9 [] false w args ∧ laidMetH Tryd.prog laidL w) ∧ sizedMet enc Tryd.prog Tryd.f9 (OpenSpec.ofChange Rows.planKnownSpec) false w args)
      (Rows.planKnownSpec.post enc Tryd.prog Tryd.f9 false true false false) := by
  refine law_lifted (C := Tryd.checked) (X := fun w _ => laidMetH Tryd.prog laidL w) (tb := 4) (ts := []) (fun _ _ _ hh h => h.of_heap hh) own started (by kernel_rfl) Tryd.func9
    rfl Tryd.params9 (fun ds h => ?_) (by kernel_rfl) Tryd.underlying4 laidOut (by kernel_rfl)
    (ChangeSpec.witness_at (enc := enc) (C := Tryd.checked) (os := os) (X := fun w _ => laidMetH Tryd.prog laidL w) false (laidWorld os) #[] 8 rfl (by kernel_rfl) (by kernel_rfl) (by kernel_rfl) (by kernel_rfl) (by kernel_rfl) (laidWorld_met os _)) ?_
  · obtain rfl := nil_of h
    rfl
  · intro W vs hl ha hL
    obtain rfl := nil_of hl
    exact PlanKnown_calls W (tab_of_laid hL)
theorem planKnown_over : Rows.PlanKnownSaid :=
  OpenClaim.holds_of_wide 9 Tryd.f9 rfl rfl rfl rfl rfl rfl rfl ⟨rfl, rfl, rfl, rfl, rfl⟩ rfl rfl rfl rfl rfl (by kernel_rfl) Tryd.func9 (by kernel_rfl)
    (of_decide_eq_true (by kernel_rfl)) (by unfold Func.isWrapper; first | (rw [if_pos (by decide +kernel)]; kernel_rfl) | (rw [if_neg (by decide +kernel)]; exact ⟨rfl, rfl⟩))
    (fun os started H enc _ => planKnown_lifted os started H enc)
theorem planKnown_holds : Rows.PlanKnownCardSaid :=
  Claim7.holds_tied_plain_at .later [] [.data] true (true, "70ce77e6e465cb6f7bb54785c29c1fee9bd557921552f81cc09119473f9a84dc") false
    planKnown_over (fun _ h => by cases h) (by kernel_rfl) (fun _ h => by cases h) planKnown_row_tie rfl ⟨rfl, rfl⟩ (by kernel_rfl) rfl
    (fun f fn hf hfn => by
      obtain rfl : f = 9 := Option.some.inj ((show Tryd.prog.funcNamed Rows.planKnownRow.func = some 9 by kernel_rfl).symm.trans hf) |>.symm
      obtain rfl : fn = Tryd.f9 := (Option.some.inj (Tryd.func9.symm.trans hfn)).symm
      exact ⟨by kernel_rfl, fun j t ht => by
        rw [Tryd.params9] at ht
        simp at ht⟩)
    (by kernel_rfl)
#print axioms planKnown_holds
end Go.Proofs.YthjdljbghjelfaaDoor
