/-
  PlanMoves returns true for every input, and each argument reads behind the call as it read before. Conditions: the listed variable reads as the program's text lays it (tied by the card).
-/
import Derived.Test.YthjdljbghjelfaaDoorMg
import Derived.Test.YthjdljbghjelfaaDoorCards
set_option linter.unusedVariables false
set_option linter.unusedSimpArgs false
set_option maxRecDepth 20000
namespace Go.Proofs.YthjdljbghjelfaaDoor
open Go Go.E
attribute [local irreducible] Go.E.T Go.E.L Go.E.O Go.E.Ob

theorem PlanMoves_calls (N K B A n k a8 : Int) (m : Mv) (pv mv lv : Value) (ps ls : List Int) (ms : List (Int × Int)) (w : World) (hD : DraftOk w N K pv mv lv ps ls ms) (hB0 : 0 ≤ B) (hB1 : B ≤ 255) (hA0 : 0 ≤ A) (hA1 : A ≤ 255) (ha0 : 0 ≤ a8) (ha1 : a8 ≤ 255) (hT : Tab w) :
    Calls Tryd.prog 4 #[dV N pv mv lv K, beV B A n, .int .i64 k, .int .u8 a8, mV m] w (Ret fun v w' => v = .bool true ∧ Ext w w') := by
  refine T.enter (vs := [dV N pv mv lv K, beV B A n, .int .i64 k, .int .u8 a8, mV m]) Tryd.func4 rfl Tryd.ntmps4 rfl ?_
  refine T.seq (T.region (L.op rfl rfl (O.box rfl (fun b3 w3 hb3 hz3 he3 hB3 => ?_))))
  refine L.op rfl rfl (O.box rfl (fun b4 w4 hb4 hz4 he4 hB4 => ?_))
  refine L.op rfl rfl (O.box rfl (fun b2 w2 hb2 hz2 he2 hB2 => ?_))
  have hB2 : Blk w2 b2 [.int .i64 m.1, .int .i64 m.2.1, .int .i64 m.2.2] 51 := hB2
  refine L.op rfl rfl (O.assign rfl (L.nil (T.seq (T.seq (T.region (L.op rfl rfl (O.call (xs := []) Tryd.call10 rfl rfl (works_calls w2 (hT.keep ((he3.trans he4).trans he2))) (fun v5 w5 hq => ?_))))))))
  obtain ⟨rfl, he5⟩ := hq
  refine L.op rfl rfl (O.not rfl (L.nil (T.cond_false rfl (T.skip (T.seq (T.seq (T.region (L.op rfl rfl (O.loadAgg Tryd.isAgg25 Tryd.sizeOf25 rfl rfl ((((hB3.keep he4 (Nat.zero_le _)).keep he2 (Nat.zero_le _)).keep he5 (Nat.zero_le _)).row) (L.op rfl rfl (O.loadAgg Tryd.isAgg27 Tryd.sizeOf27 rfl rfl (((hB4.keep he2 (Nat.zero_le _)).keep he5 (Nat.zero_le _)).row) (?_))))))))))))
  have he05 := ((he3.trans he4).trans he2).trans he5
  refine L.op rfl rfl (O.move rfl (L.op rfl rfl (O.call (xs := [.tmp 26, .tmp 27, .tmp 28]) Tryd.call11 rfl rfl (samples_calls N K B A n k pv mv lv ps ls ms w5 (hD.keep he05) hB0 hB1 hA0 hA1) (fun v6 w6 hq => ?_))))
  obtain ⟨⟨css, hcl, hS6, hc4, hcs⟩, he6⟩ := hq
  have he06 := he05.trans he6
  have hB26 := hB2.keep (he5.trans he6) (Nat.zero_le _)
  refine L.op rfl rfl (O.len Tryd.runUnderlying29 rfl (Sl.val hS6) (L.op rfl rfl (O.move rfl (L.nil (T.block (?_))))))
  refine T.loop (σ := Nat) (fun i => [(3, .int .u8 a8), (9, .pointer (some ⟨b2, 0, none⟩)), (29, v6), (30, .int .i64 ((6 : Nat) : Int)), (31, .int .i64 i)]) (fun i w' => i ≤ 6 ∧ Ext w6 w') (fun i => 6 - i) (0) ⟨rfl, rfl, rfl, rfl, rfl, trivial⟩ ⟨Nat.zero_le _, Keep.refl _ _⟩ ?_
  rintro i w7 ⟨hi, he7⟩
  refine T.seq (T.region (L.op rfl rfl (O.lss_s rfl rfl (fun hlt => ?_) (fun hlt => ?_))))
  · refine L.nil (?_)
    have hi6 : i < css.length := by omega
    obtain ⟨N', oa, nn, cap, pb, pn, pc, k', es, xs, hce, hE, hX⟩ := hcs css[i] (List.getElem_mem hi6)
    have hrow := Sl.elem (hS6.keep he7) hc4 (i := i) (x := [.int .i64 N', .slice oa nn cap, .slice pb pn pc, .int .i64 k']) (by rw [List.getElem?_eq_getElem hi6, hce]) (by omega)
    refine T.seq (T.cond_true rfl (T.skip (T.seq (T.block (T.seq (T.region (L.op rfl rfl (O.indexAddr Tryd.runUnderlying29 Tryd.sizeOf37 rfl rfl (hS6.keep he7) (by omega) (by omega) (L.op rfl rfl (O.loadAgg Tryd.isAgg37 Tryd.sizeOf37 rfl rfl hrow (L.op rfl rfl (O.alloc Tryd.zeroValue37 (fun b8 w8 hb8 hz8 he8 hB8 => ?_)))))))))))))
    refine L.op rfl rfl (O.storeAgg Tryd.sizeOf37 rfl rfl rfl hB8 (Nat.le_refl _) (by intro u hu; simp at hu; rcases hu with (rfl|rfl|rfl|rfl) <;> rfl) (fun w9 hu9 hB9 => ?_))
    have hB9 : Blk w9 b8 [.int .i64 N', .slice oa nn cap, .slice pb pn pc, .int .i64 k'] 37 := hB9
    have he79 : Ext w7 w9 := he8.upd hu9 (.inr (by omega))
    have hT9 := hT.keep ((he06.trans he7).trans he79)
    have hE9 := hE.keep (he7.trans he79)
    have hX9 := hX.keep (he7.trans he79)
    refine L.nil (T.seq (T.region (L.op rfl rfl (O.fieldAddr Tryd.runUnderlying37 rfl Tryd.sizeOf33 rfl (L.op rfl rfl (O.loadAgg Tryd.isAgg33 Tryd.sizeOf33 rfl rfl (Row.part hB9.row 0 2) (L.op rfl rfl (O.fieldAddr Tryd.runUnderlying37 rfl Tryd.sizeOf35 rfl (L.op rfl rfl (O.load Tryd.isAgg35 rfl (Blk.at hB9 rfl) (L.op rfl rfl (O.fieldAddr Tryd.runUnderlying37 rfl Tryd.sizeOf3 rfl (L.op rfl rfl (O.load Tryd.isAgg3 rfl (Blk.at hB9 rfl) (L.op rfl rfl (O.call (xs := [.tmp 37, .tmp 39, .tmp 41]) Tryd.call21 rfl rfl (Moves_calls 0 0 N' k' _ _ es xs w9 hE9 hX9 hT9) (fun v10 w10 hq => ?_)))))))))))))))))
    obtain ⟨he10, m1, rfl, hm1⟩ := hq
    have hB10 := hB9.keep he10 (Nat.zero_le _)
    refine L.op rfl rfl (O.move rfl (L.op rfl rfl (O.extract rfl rfl (L.op rfl rfl (O.extract rfl rfl (L.op rfl rfl (O.assign rfl (L.op rfl rfl (O.assign rfl (L.nil (T.seq (T.region (L.op rfl rfl (O.fieldAddr Tryd.runUnderlying37 rfl Tryd.sizeOf33 rfl (L.op rfl rfl (O.loadAgg Tryd.isAgg33 Tryd.sizeOf33 rfl rfl (Row.part hB10.row 0 2) (L.op rfl rfl (O.fieldAddr Tryd.runUnderlying37 rfl Tryd.sizeOf35 rfl (L.op rfl rfl (O.load Tryd.isAgg35 rfl (Blk.at hB10 rfl) (L.op rfl rfl (O.fieldAddr Tryd.runUnderlying37 rfl Tryd.sizeOf3 rfl (L.op rfl rfl (O.load Tryd.isAgg3 rfl (Blk.at hB10 rfl) (L.op rfl rfl (O.call (xs := [.tmp 47, .tmp 49, .tmp 51]) Tryd.call22 rfl rfl (RMoves_calls 0 0 N' k' _ _ es xs w10 (hE9.keep he10) (hX9.keep he10)) (fun v11 w11 hq => ?_)))))))))))))))))))))))))))
    obtain ⟨he11, m2, rfl, hm2⟩ := hq
    have he911 := he10.trans he11
    generalize hml : (if planErr N' es xs k' = 0 then movesOf es xs k'.toNat N'.toNat else []) = ml at hm1 hm2
    have hm11 : MvSl w9.heap.size w11 m1 ml := Sl.keep hm1 (he11.mono (Nat.zero_le _))
    refine L.op rfl rfl (O.move rfl (L.op rfl rfl (O.extract rfl rfl (L.op rfl rfl (O.extract rfl rfl (L.op rfl rfl (O.assign rfl (L.op rfl rfl (O.assign rfl (L.nil (T.seq (T.seq (T.region (L.op rfl rfl (O.move rfl (L.op rfl rfl (O.move rfl (L.op rfl rfl (O.call (xs := [.tmp 55, .tmp 56]) Tryd.call23 rfl rfl (equalM_calls w9.heap.size w10.heap.size m1 m2 ml ml w11 hm11 hm2) (fun v12 w12 hq => ?_))))))))))))))))))))
    obtain ⟨hv12, he12⟩ := hq
    rw [decide_eq_true rfl] at hv12
    subst hv12
    refine L.op rfl rfl (O.not rfl (L.op rfl rfl (O.move rfl (L.op rfl rfl (O.move rfl (L.op rfl rfl (O.move rfl (L.op rfl rfl (O.neq_f rfl rfl rfl (?_))))))))))
    have he912 := he911.trans he12
    have hB212 := hB26.keep ((he7.trans he79).trans he912) (Nat.zero_le _)
    have hm2' : MvSl 0 w12 m2 ml := Sl.mono (Sl.keep hm2 (he12.mono (Nat.zero_le _))) (Nat.zero_le _)
    refine L.op rfl rfl (O.pick_false rfl rfl (L.nil (T.cond_false rfl (T.skip (T.seq (T.region (L.op rfl rfl (O.loadAgg Tryd.isAgg51 Tryd.sizeOf51 rfl rfl hB212.row (L.op rfl rfl (O.move rfl (L.op rfl rfl (O.rem rfl rfl (by omega) (by omega) (L.op rfl rfl (O.conv_to rfl (fun w => ⟨_, Tryd.runUnderlying5 w⟩) Tryd.runUnderlying3 (IntWalk.i64_in _ ⟨by omega, by omega⟩) (L.op rfl rfl (O.move rfl (L.op rfl rfl (O.quo8 rfl rfl (by omega) (L.op rfl rfl (O.rem rfl rfl (by omega) (by omega) (L.op rfl rfl (O.conv_to rfl (fun w => ⟨_, Tryd.runUnderlying5 w⟩) Tryd.runUnderlying3 (IntWalk.i64_in _ ⟨by omega, by omega⟩) (L.op rfl rfl (O.move rfl (L.op rfl rfl (O.quo8 rfl rfl (by omega) (L.op rfl rfl (O.rem rfl rfl (by omega) (by omega) (L.op rfl rfl (O.conv_to rfl (fun w => ⟨_, Tryd.runUnderlying5 w⟩) Tryd.runUnderlying3 (IntWalk.i64_in _ ⟨by omega, by omega⟩) (L.op rfl rfl (O.build (v := .agg #[.int .i64 (a8 % 9), .int .i64 (a8 / 9 % 3), .int .i64 (a8 / 27 % 3)]) (parts := [(0, .tmp 67), (1, .tmp 71), (2, .tmp 75)]) (vs := [(0, _), (1, _), (2, _)]) rfl (fun w => by kernel_rfl) (L.op rfl rfl (O.buildSlice (el := 51) (parts := [(0, .tmp 64), (1, .tmp 76)]) (vs := [(0, _), (1, _)]) (cs := [.int .i64 m.1, .int .i64 m.2.1, .int .i64 m.2.2, .int .i64 (a8 % 9), .int .i64 (a8 / 9 % 3), .int .i64 (a8 / 27 % 3)]) rfl (fun w => by kernel_rfl) (fun b13 w13 hb13 hz13 he13 hB13 => ?_)))))))))))))))))))))))))))))))))))
    have hM13 : MvSl 0 w13 (.slice (some ⟨b13, 0, none⟩) 2 2) [m, (a8 % 9, a8 / 9 % 3, a8 / 27 % 3)] := Sl.of_blk hB13 rfl (Nat.le_refl _) (by decide) (Nat.zero_le _)
    have hm213 : MvSl 0 w13 m2 ml := Sl.keep hm2' he13
    have he712 := he79.trans he912
    refine L.op rfl rfl (O.assign rfl (L.nil (T.seq (?_))))
    refine T.join (σ := Value × List Mv) (fun s => [(3, .int .u8 a8), (9, .pointer (some ⟨b2, 0, none⟩)), (12, .pointer (some ⟨b8, 0, none⟩)), (17, s.1), (29, v6), (30, .int .i64 ((6 : Nat) : Int)), (31, .int .i64 i)]) (fun s w' => Ext w12 w' ∧ MvSl 0 w' s.1 s.2) ?_ ?_
    · refine T.seq (T.region (L.op rfl rfl (O.move rfl (L.op rfl rfl (O.len Tryd.runUnderlying52 rfl (Sl.val hm213) (L.op rfl rfl (O.gtr_s rfl rfl (fun hpos => ?_) (fun hpos => ?_))))))))
      · refine L.nil (?_)
        obtain ⟨q, hq⟩ : ∃ q : Nat, a8 % (ml.length : Int) = q := ⟨(a8 % (ml.length : Int)).toNat, by have := Int.emod_nonneg a8 (show (ml.length : Int) ≠ 0 by omega); omega⟩
        have hql : q < ml.length := by have := Int.emod_lt_of_pos a8 (show (0 : Int) < ml.length by omega); omega
        refine T.cond_true rfl (T.region (L.op rfl rfl (O.move rfl (L.op rfl rfl (O.move rfl (L.op rfl rfl (O.move rfl (L.op rfl rfl (O.conv_to rfl (fun w => ⟨_, Tryd.runUnderlying5 w⟩) Tryd.runUnderlying3 (IntWalk.i64_in _ ⟨by omega, by omega⟩) (L.op rfl rfl (O.move rfl (L.op rfl rfl (O.len Tryd.runUnderlying52 rfl (Sl.val hm213) (L.op rfl rfl (O.rem rfl rfl (by omega) (by omega) (L.op rfl rfl (O.indexAddr Tryd.runUnderlying52 Tryd.sizeOf51 rfl rfl hm213 (by omega) (by omega) (L.op rfl rfl (O.loadAgg Tryd.isAgg51 Tryd.sizeOf51 rfl rfl (show Row w13 ((sAddr m2).add ((a8 % (ml.length : Int)).toNat * 3)) [.int .i64 (ml.getD q (0, 0, 0)).1, .int .i64 (ml.getD q (0, 0, 0)).2.1, .int .i64 (ml.getD q (0, 0, 0)).2.2] by rw [hq]; exact MvSl.row hm213 hql) (L.op rfl rfl (O.buildSlice (el := 51) (parts := [(0, .tmp 89)]) (vs := [(0, _)]) (cs := [.int .i64 (ml.getD q (0, 0, 0)).1, .int .i64 (ml.getD q (0, 0, 0)).2.1, .int .i64 (ml.getD q (0, 0, 0)).2.2]) rfl (fun w => by kernel_rfl) (fun b15 w15 hb15 hz15 he15 hB15 => ?_))))))))))))))))))))))
        have hO13 := owns_blk (base := w12.heap.size) hB13 (by omega) (Nat.le_refl 2) (by decide) (sz := 3) rfl
        refine L.op rfl rfl (O.append (size := 3) (bytes := 24) Tryd.runUnderlying52 Tryd.infoOf51 rfl rfl rfl rfl (by decide) rfl rfl (owns_keep hO13 he15 (Nat.zero_le _)) (Sl.of_blk (lo := 0) (n := 1) hB15 rfl (Nat.le_refl _) (by decide) (Nat.zero_le _)) (by intro c hc; simp at hc; rcases hc with (rfl|rfl|rfl) <;> rfl) (by omega) (by simp only [maxLen]; omega) (by have := he13.size; have := he15.size; omega) (fun v16 w16 hO16 hG16 => ?_))
        refine L.op rfl rfl (O.assign rfl (L.nil (T.meet ((v16, [m, (a8 % 9, a8 / 9 % 3, a8 / 27 % 3), ml.getD q (0, 0, 0)])) ⟨rfl, rfl, rfl, rfl, rfl, rfl, rfl, trivial⟩ ⟨(he13.trans he15).grown0 hO13 hG16 (Nat.le_refl _), (Sl.of_owns hO16).mono (Nat.zero_le _)⟩)))
      · refine L.nil (T.cond_false rfl (T.skip (T.meet ((.slice (some ⟨b13, 0, none⟩) 2 2, [m, (a8 % 9, a8 / 9 % 3, a8 / 27 % 3)])) ⟨rfl, rfl, rfl, rfl, rfl, rfl, rfl, trivial⟩ ⟨he13, hM13⟩)))
    rintro ⟨tv, tl⟩ w14 ⟨he14, hM14⟩
    simp only at he14 hM14
    have he714 := he712.trans he14
    have hle14 := Sl.le hM14
    refine T.seq (T.region (L.op rfl rfl (O.move rfl (L.op rfl rfl (O.len Tryd.runUnderlying52 rfl (Sl.val hM14) (L.op rfl rfl (O.move rfl (L.nil (T.block (?_))))))))))
    refine T.loop (σ := Nat) (fun j => [(3, .int .u8 a8), (9, .pointer (some ⟨b2, 0, none⟩)), (12, .pointer (some ⟨b8, 0, none⟩)), (29, v6), (30, .int .i64 ((6 : Nat) : Int)), (31, .int .i64 i), (92, tv), (93, .int .i64 (tl.length : Int)), (94, .int .i64 j)]) (fun j w' => j ≤ tl.length ∧ Ext w14 w') (fun j => tl.length - j) (0) ⟨rfl, rfl, rfl, rfl, rfl, rfl, rfl, rfl, rfl, trivial⟩ ⟨Nat.zero_le _, Keep.refl _ _⟩ ?_
    rintro j w15 ⟨hj, he15⟩
    refine T.seq (T.region (L.op rfl rfl (O.lss_s rfl rfl (fun hlt2 => ?_) (fun hlt2 => ?_))))
    · refine L.nil (?_)
      have hjl : j < tl.length := by omega
      have hM15 : MvSl 0 w15 tv tl := Sl.keep hM14 he15
      refine T.seq (T.cond_true rfl (T.skip (T.seq (T.block (T.seq (T.region (L.op rfl rfl (O.indexAddr Tryd.runUnderlying52 Tryd.sizeOf51 rfl rfl hM15 (by omega) (by omega) (L.op rfl rfl (O.loadAgg Tryd.isAgg51 Tryd.sizeOf51 rfl rfl (MvSl.row hM15 hjl) (L.op rfl rfl (O.alloc Tryd.zeroValue51 (fun b16 w16 hb16 hz16 he16 hB16 => ?_)))))))))))))
      refine L.op rfl rfl (O.storeAgg Tryd.sizeOf51 rfl rfl rfl hB16 (Nat.le_refl _) (by intro u hu; simp at hu; rcases hu with (rfl|rfl|rfl) <;> rfl) (fun w17 hu17 hB17 => ?_))
      have hB17 : Blk w17 b16 [.int .i64 (tl.getD j (0, 0, 0)).1, .int .i64 (tl.getD j (0, 0, 0)).2.1, .int .i64 (tl.getD j (0, 0, 0)).2.2] 51 := hB17
      have he1517 : Ext w15 w17 := he16.upd hu17 (.inr (by omega))
      have he917 := (he912.trans he14).trans (he15.trans he1517)
      have hB917 := hB9.keep he917 (Nat.zero_le _)
      refine L.nil (T.seq (T.region (L.op rfl rfl (O.fieldAddr Tryd.runUnderlying37 rfl Tryd.sizeOf33 rfl (L.op rfl rfl (O.loadAgg Tryd.isAgg33 Tryd.sizeOf33 rfl rfl (Row.part hB917.row 0 2) (L.op rfl rfl (O.fieldAddr Tryd.runUnderlying37 rfl Tryd.sizeOf35 rfl (L.op rfl rfl (O.load Tryd.isAgg35 rfl (Blk.at hB917 rfl) (L.op rfl rfl (O.fieldAddr Tryd.runUnderlying37 rfl Tryd.sizeOf3 rfl (L.op rfl rfl (O.load Tryd.isAgg3 rfl (Blk.at hB917 rfl) (L.op rfl rfl (O.loadAgg Tryd.isAgg51 Tryd.sizeOf51 rfl rfl hB17.row (L.op rfl rfl (O.call (xs := [.tmp 100, .tmp 102, .tmp 104, .tmp 105]) Tryd.call24 rfl rfl (Apply_calls 0 0 N' k' (tl.getD j (0, 0, 0)) _ _ es xs w17 (hE9.keep he917) (hX9.keep he917) (hT9.keep he917)) (fun v18 w18 hq => ?_)))))))))))))))))))
      obtain ⟨he18, p1, rfl, hp1⟩ := hq
      have hB918 := hB917.keep he18 (Nat.zero_le _)
      refine L.op rfl rfl (O.move rfl (L.op rfl rfl (O.extract rfl rfl (L.op rfl rfl (O.extract rfl rfl (L.op rfl rfl (O.assign rfl (L.op rfl rfl (O.assign rfl (L.nil (T.seq (T.region (L.op rfl rfl (O.fieldAddr Tryd.runUnderlying37 rfl Tryd.sizeOf33 rfl (L.op rfl rfl (O.loadAgg Tryd.isAgg33 Tryd.sizeOf33 rfl rfl (Row.part hB918.row 0 2) (L.op rfl rfl (O.fieldAddr Tryd.runUnderlying37 rfl Tryd.sizeOf35 rfl (L.op rfl rfl (O.load Tryd.isAgg35 rfl (Blk.at hB918 rfl) (L.op rfl rfl (O.fieldAddr Tryd.runUnderlying37 rfl Tryd.sizeOf3 rfl (L.op rfl rfl (O.load Tryd.isAgg3 rfl (Blk.at hB918 rfl) (L.op rfl rfl (O.loadAgg Tryd.isAgg51 Tryd.sizeOf51 rfl rfl ((hB17.keep he18 (Nat.zero_le _)).row) (L.op rfl rfl (O.call (xs := [.tmp 111, .tmp 113, .tmp 115, .tmp 116]) Tryd.call25 rfl rfl (RApply_calls 0 0 N' k' (tl.getD j (0, 0, 0)) _ _ es xs w18 (hE9.keep (he917.trans he18)) (hX9.keep (he917.trans he18))) (fun v19 w19 hq => ?_)))))))))))))))))))))))))))))
      obtain ⟨he19, p2, rfl, hp2⟩ := hq
      refine L.op rfl rfl (O.move rfl (L.op rfl rfl (O.extract rfl rfl (L.op rfl rfl (O.extract rfl rfl (L.op rfl rfl (O.assign rfl (L.op rfl rfl (O.assign rfl (L.nil (T.seq (T.region (L.op rfl rfl (O.move rfl (L.op rfl rfl (O.move rfl (L.op rfl rfl (O.call (xs := [.tmp 120, .tmp 121]) Tryd.call26 rfl rfl (equalP_calls w17.heap.size w18.heap.size p1 p2 _ _ w19 (hp1.keep (he19.mono (Nat.zero_le _))) hp2) (fun v20 w20 hq => ?_)))))))))))))))))))
      obtain ⟨hv20, he20⟩ := hq
      rw [decide_eq_true rfl] at hv20
      subst hv20
      refine L.op rfl rfl (O.not rfl (L.op rfl rfl (O.move rfl (L.op rfl rfl (O.move rfl (L.op rfl rfl (O.move rfl (L.op rfl rfl (O.neq_f rfl rfl rfl (L.op rfl rfl (O.pick_false rfl rfl (L.nil (T.cond_false rfl (T.skip (T.blk (T.region (L.op rfl rfl (O.add64 rfl rfl (by omega) (L.op rfl rfl (O.move rfl (L.nil (T.again (j + 1) (by omega) ⟨rfl, rfl, rfl, rfl, rfl, rfl, rfl, rfl, rfl, trivial⟩ ⟨by omega, ((he15.trans he1517).trans he18).trans (he19.trans he20)⟩))))))))))))))))))))))
    · refine L.nil (T.seq (T.cond_false rfl (T.exit rfl (T.blk (T.region (L.op rfl rfl (O.add64 rfl rfl (by omega) (L.op rfl rfl (O.move rfl (L.nil (T.again (i + 1) (by omega) ⟨rfl, rfl, rfl, rfl, rfl, trivial⟩ ⟨by omega, (he7.trans he714).trans he15⟩)))))))))))
  · refine L.nil (T.seq (T.cond_false rfl (T.exit rfl (T.seq (T.region (L.op rfl rfl (O.assign rfl (L.nil (T.ret1 Tryd.results4 rfl ⟨rfl, he06.trans he7⟩)))))))))

end Go.Proofs.YthjdljbghjelfaaDoor
set_option linter.unusedVariables false
set_option linter.unusedSimpArgs false
set_option maxRecDepth 20000
namespace Go.Proofs.YthjdljbghjelfaaDoor
open Go Go.E RowKit ChangeShapes WideShapes
attribute [local irreducible] Go.E.T Go.E.L Go.E.O Go.E.Ob

set_option maxRecDepth 100000 in
theorem planMoves_lifted (os : Os) (started : os.Started) (H : Type) (enc : TypeId × Value → H) :
    ReturnsInHanded {} Tryd.checked os 4 .any (fun w args => (Rows.planMovesSpec.pre enc Tryd.prog Tryd.f4 [] false w args ∧ laidMetH Tryd.prog laidL w) ∧ sizedMet enc Tryd.prog Tryd.f4 (OpenSpec.ofChange Rows.planMovesSpec) false w args)
      (Rows.planMovesSpec.post enc Tryd.prog Tryd.f4 false true false false) := by
  refine law_lifted (C := Tryd.checked) (X := fun w _ => laidMetH Tryd.prog laidL w) (tb := 4) (ts := [25, 27, 3, 5, 51]) (fun _ _ _ hh h => h.of_heap hh) own started (by kernel_rfl) Tryd.func4
    rfl Tryd.params4 (fun ds h => ?_) (by kernel_rfl) Tryd.underlying4 laidOut (by kernel_rfl)
    (ChangeSpec.witness_at (enc := enc) (C := Tryd.checked) (os := os) (X := fun w _ => laidMetH Tryd.prog laidL w) false (laidWorld os) #[.agg #[.int .u8 0, .slice none 0 0, .slice none 0 0, .slice none 0 0, .int .u8 0], .agg #[.int .u8 0, .int .u8 0, .int .i64 0], .int .i64 0, .int .u8 0, .agg #[.int .i64 0, .int .i64 0, .int .i64 0]] 8 rfl (by kernel_rfl) (by kernel_rfl) (by kernel_rfl) (by kernel_rfl) (by kernel_rfl) (laidWorld_met os _)) ?_
  · obtain ⟨a0, a1, a2, a3, a4, rfl⟩ := five h
    rfl
  · intro W vs hl ha hL
    obtain ⟨a0, a1, a2, a3, a4, rfl⟩ := five hl
    obtain ⟨N, K, pv, mv, lv, ps, ls, ms, rfl, hD⟩ := draft_of (ha 0 _ _ rfl rfl)
    obtain ⟨B, A, n, rfl, b0, b1, c0, c1⟩ := bend_of (ha 1 _ _ rfl rfl)
    obtain ⟨k, rfl, _⟩ := (ha 2 _ _ rfl rfl).int Tryd.underlying3
    obtain ⟨a8, rfl, h8⟩ := (ha 3 _ _ rfl rfl).int Tryd.underlying5
    obtain ⟨m, rfl⟩ := mv_of (ha 4 _ _ rfl rfl)
    exact PlanMoves_calls N K B A n k a8 m pv mv lv ps ls ms W hD b0 b1 c0 c1 (wf_u8 h8).1 (wf_u8 h8).2 (tab_of_laid hL)
theorem planMoves_over : Rows.PlanMovesSaid :=
  OpenClaim.holds_of_wide 4 Tryd.f4 rfl rfl rfl rfl rfl rfl rfl ⟨rfl, rfl, rfl, rfl, rfl⟩ rfl rfl rfl rfl rfl (by kernel_rfl) Tryd.func4 (by kernel_rfl)
    (of_decide_eq_true (by kernel_rfl)) (by unfold Func.isWrapper; first | (rw [if_pos (by decide +kernel)]; kernel_rfl) | (rw [if_neg (by decide +kernel)]; exact ⟨rfl, rfl⟩))
    (fun os started H enc _ => planMoves_lifted os started H enc)
theorem planMoves_holds : Rows.PlanMovesCardSaid :=
  Claim7.holds_tied_plain_at .later [] [.data] true (true, "70ce77e6e465cb6f7bb54785c29c1fee9bd557921552f81cc09119473f9a84dc") false
    planMoves_over (fun _ h => by cases h) (by kernel_rfl) (fun _ h => by cases h) planMoves_row_tie rfl ⟨rfl, rfl⟩ (by kernel_rfl) rfl
    (fun f fn hf hfn => by
      obtain rfl : f = 4 := Option.some.inj ((show Tryd.prog.funcNamed "wardmote/wardmotelaw21.PlanMoves" = some 4 by kernel_rfl).symm.trans hf) |>.symm
      obtain rfl : fn = Tryd.f4 := (Option.some.inj (Tryd.func4.symm.trans hfn)).symm
      exact ⟨by kernel_rfl, fun j t ht => by
        rw [Tryd.params4] at ht
        have hall : (([25, 27, 3, 5, 51] : List TypeId).all fun t => !Tryd.prog.wantsStandIn t) = true := by kernel_rfl
        have := List.all_eq_true.1 hall t (List.mem_of_getElem? (i := j) (by simpa using ht))
        have h2 : Tryd.prog.wantsStandIn t = false := by simpa using this
        exact h2⟩)
    (by kernel_rfl)
#print axioms planMoves_holds
end Go.Proofs.YthjdljbghjelfaaDoor
