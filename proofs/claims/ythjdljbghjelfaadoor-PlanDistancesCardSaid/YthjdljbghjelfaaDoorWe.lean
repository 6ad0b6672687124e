/-
  PlanDistances returns true for every input, and each argument reads behind the call as it read before. Conditions: the listed variable reads as the program's text lays it (tied by the card).
-/
import Derived.Test.YthjdljbghjelfaaDoorMg
import Derived.Test.YthjdljbghjelfaaDoorMh
import Derived.Test.YthjdljbghjelfaaDoorCards
set_option linter.unusedVariables false
set_option linter.unusedSimpArgs false
set_option maxRecDepth 20000
namespace Go.Proofs.YthjdljbghjelfaaDoor
open Go Go.E
attribute [local irreducible] Go.E.T Go.E.L Go.E.O Go.E.Ob

theorem rawTo_lab {ls : List Int} (ho : Octs ls) : ∀ (i j : Nat), j < i → 0 ≤ (rawTo ls i).getD j 0 ∧ (rawTo ls i).getD j 0 < 8
  | i + 1, j, h => by
    have hl := rawTo_len ls i
    have := labelOf_nn ho i
    simp only [rawTo]
    by_cases hj : j < (rawTo ls i).length
    · rw [getD_app_left hj]; exact rawTo_lab ho i j (by omega)
    · rw [show j = (rawTo ls i).length by omega, getD_app_last]; omega
theorem raw_ok {N : Int} (h0 : 0 ≤ N) {ls : List Int} (ho : Octs ls) : labelsOk (rawOf N ls) 8 = true := by
  have hun : 1 ≤ unitsOf N ∧ unitsOf N ≤ 9 := by unfold unitsOf; omega
  have hl := rawOf_len N ls
  exact labels_intro (by omega) (by omega) fun i hi => rawTo_lab ho _ i (by omega)
theorem raw_two {N : Int} (h0 : 0 ≤ N) {ls ls' : List Int} (ho : Octs ls) (ho' : Octs ls') : twoErr (rawOf N ls) (rawOf N ls') = 0 := twoErr_ok ⟨raw_ok h0 ho, raw_ok h0 ho'⟩ (by rw [rawOf_len, rawOf_len])
theorem same_zero {xs ys : List Int} {c : Bool} (h : twoErr xs ys = 0) (hc : twoErr xs ys = 0 → (c = true ↔ AlikeTo xs ys xs.length)) : decide (apartOf xs ys = 0) = c := by
  have h1 := hc h
  have h2 := apart_zero h
  cases c
  · rw [decide_eq_false]; intro h0; exact absurd (h1.2 (h2.1 h0)) (by decide)
  · rw [decide_eq_true]; exact h2.2 (h1.1 rfl)
theorem PlanDistances_calls (N1 K1 N2 K2 N3 K3 : Int) (pv1 mv1 lv1 pv2 mv2 lv2 pv3 mv3 lv3 : Value) (ps1 ls1 ps2 ls2 ps3 ls3 : List Int) (ms1 ms2 ms3 : List (Int × Int)) (w : World) (hD1 : DraftOk w N1 K1 pv1 mv1 lv1 ps1 ls1 ms1) (hD2 : DraftOk w N2 K2 pv2 mv2 lv2 ps2 ls2 ms2) (hD3 : DraftOk w N3 K3 pv3 mv3 lv3 ps3 ls3 ms3) (hT : Tab w) :
    Calls Tryd.prog 7 #[dV N1 pv1 mv1 lv1 K1, dV N2 pv2 mv2 lv2 K2, dV N3 pv3 mv3 lv3 K3] w (Ret fun v w' => v = .bool true ∧ Ext w w') := by
  refine T.enter (vs := [dV N1 pv1 mv1 lv1 K1, dV N2 pv2 mv2 lv2 K2, dV N3 pv3 mv3 lv3 K3]) Tryd.func7 rfl Tryd.ntmps7 rfl ?_
  refine T.seq (T.region (L.op rfl rfl (O.box rfl (fun b3 w3 hb3 hz3 he3 hB3 => ?_))))
  refine L.op rfl rfl (O.box rfl (fun b4 w4 hb4 hz4 he4 hB4 => ?_))
  refine L.op rfl rfl (O.box rfl (fun b5 w5 hb5 hz5 he5 hB5 => ?_))
  have hz3' := he3.size
  have hz4' := he4.size
  have hz5' := he5.size
  have hB3 : Blk w3 b3 [.int .u8 N1, pv1, mv1, lv1, .int .u8 K1] 25 := hB3
  have hB4 : Blk w4 b4 [.int .u8 N2, pv2, mv2, lv2, .int .u8 K2] 25 := hB4
  have hB5 : Blk w5 b5 [.int .u8 N3, pv3, mv3, lv3, .int .u8 K3] 25 := hB5
  refine L.op rfl rfl (O.assign rfl (L.nil (T.seq (T.seq (T.region (L.op rfl rfl (O.call (xs := []) Tryd.call10 rfl rfl (works_calls w5 (hT.keep ((he3.trans he4).trans he5))) (fun v6 w6 hq => ?_))))))))
  obtain ⟨rfl, he6⟩ := hq
  have he06 := ((he3.trans he4).trans he5).trans he6
  refine L.op rfl rfl (O.not rfl (L.nil (T.cond_false rfl (T.skip (T.seq (?_))))))
  refine T.any mixed 6 1 [3, 4] rfl [.is _, .is _, .is _, .is _, .is _, .is undef] [[], [0], [], [2], [], [4, 1]] [none, none, none, none, none, some 0] [[], [0], [], [2], [0, 1], [0, 1, 4], [0, 1, 2, 3, 4, 5], [0, 1, 2, 3, 4, 5, 6]] (fun c w' => Ext w w' ∧ Blk w' b3 [.int .u8 N1, pv1, mv1, lv1, .int .u8 K1] 25 ∧ Blk w' b4 [.int .u8 (match c with | 0 => N2 | _ + 1 => N1), pv2, mv2, lv2, .int .u8 K2] 25 ∧ Blk w' b5 [.int .u8 N3, pv3, mv3, lv3, .int .u8 K3] 25) (fun _ _ => True) (by kernel_rfl) (by kernel_rfl) (by kernel_rfl) rfl trivial ⟨he06.trans (Keep.drew 0 _), (hB3.keep ((he4.trans he5).trans he6) (Nat.zero_le _)).keep (Keep.drew 0 _) (Nat.zero_le _), (hB4.keep (he5.trans he6) (Nat.zero_le _)).keep (Keep.drew 0 _) (Nat.zero_le _), (hB5.keep he6 (Nat.zero_le _)).keep (Keep.drew 0 _) (Nat.zero_le _)⟩ ⟨fun c wx hx => ObK.op rfl (O.fieldAddr Tryd.runUnderlying25 rfl Tryd.sizeOf5 rfl ⟨⟨trivial, hx⟩, rfl⟩),
      fun c wx hx => ObK.op rfl (O.load Tryd.isAgg5 rfl (Blk.at hx.2.1 rfl) ⟨⟨trivial, hx⟩, rfl⟩),
      fun c wx hx => ObK.op rfl (O.fieldAddr Tryd.runUnderlying25 rfl Tryd.sizeOf5 rfl ⟨⟨trivial, hx⟩, rfl⟩),
      fun c wx hx => ObK.op rfl (O.load Tryd.isAgg5 rfl (Blk.at hx.2.1 rfl) ⟨⟨trivial, hx⟩, rfl⟩),
      fun c wx hx => ObK.op rfl (O.fieldAddr Tryd.runUnderlying25 rfl Tryd.sizeOf5 rfl ⟨⟨trivial, hx⟩, rfl⟩),
      fun wx hx => ObK.op rfl (O.store1_at Tryd.sizeOf5 rfl rfl rfl hx.2.2.1 (by simp) (fun w8 hu8 hB8 => ⟨⟨trivial, hx.1.upd hu8 (.inr (by omega)), hx.2.1.upd hu8 (by omega), hB8, hx.2.2.2.upd hu8 (by omega)⟩, rfl⟩)),
      trivial⟩ (fun w7 hI7 => ?_)
  obtain ⟨he7, hB37, hB47, hB57⟩ := hI7
  refine L.op rfl rfl (O.fieldAddr Tryd.runUnderlying25 rfl Tryd.sizeOf5 rfl (L.op rfl rfl (O.store1_at Tryd.sizeOf5 rfl rfl rfl hB57 (by simp) (fun w8 hu8 hB8 => ?_))))
  have he08 := he7.upd hu8 (.inr (by omega))
  have hB38 := hB37.upd hu8 (by omega)
  have hB48 : Blk w8 b4 [.int .u8 N1, pv2, mv2, lv2, .int .u8 K2] 25 := hB47.upd hu8 (by omega)
  have hB58 : Blk w8 b5 [.int .u8 N1, pv3, mv3, lv3, .int .u8 K3] 25 := hB8
  have hE1 := hD1.keep he08
  have hE2 := hD2.keep he08
  have hE3 := hD3.keep he08
  refine L.nil (T.seq (?_))
  refine T.anyE mixed 5 [3, 4, 5] rfl [.is _, .such (SlX (rawOf N1 ls1)), .is _, .such (SlX (rawOf N1 ls2)), .is _] [[], [0], [], [2], []] [[], [0], [], [0, 1, 2], [], [0, 1, 2, 3, 4], [0, 1, 2, 3, 4, 5], [0, 1, 2, 3, 4, 5, 6], [0, 1, 2, 3, 4, 5, 6, 7]] (by kernel_rfl) (by kernel_rfl) rfl (by kernel_rfl) ⟨SlX.st, SlX.st, trivial⟩ ⟨fun wx hx => Ob.op rfl (O.loadAgg Tryd.isAgg25 Tryd.sizeOf25 rfl rfl ((hB38.keep hx (Nat.zero_le _)).row) ⟨Keep.refl _ _, rfl⟩),
      fun wx hx => Ob.op rfl (O.call (xs := [.tmp 32]) Tryd.call28 rfl rfl (Raw_calls 0 N1 K1 pv1 mv1 lv1 ls1 wx hE1.n0 hE1.n1 (hE1.l.keep hx) hE1.lo) (fun v wy h => ⟨h.1, SlX.of h.2⟩)),
      fun wx hx => Ob.op rfl (O.loadAgg Tryd.isAgg25 Tryd.sizeOf25 rfl rfl ((hB48.keep hx (Nat.zero_le _)).row) ⟨Keep.refl _ _, rfl⟩),
      fun wx hx => Ob.op rfl (O.call (xs := [.tmp 34]) Tryd.call28 rfl rfl (Raw_calls 0 N1 K2 pv2 mv2 lv2 ls2 wx hE1.n0 hE1.n1 (hE2.l.keep hx) hE2.lo) (fun v wy h => ⟨h.1, SlX.of h.2⟩)),
      fun wx hx => Ob.op rfl (O.loadAgg Tryd.isAgg25 Tryd.sizeOf25 rfl rfl ((hB58.keep hx (Nat.zero_le _)).row) ⟨Keep.refl _ _, rfl⟩),
      trivial⟩ (fun w9 he9 v33 hv33 v35 hv35 => ?_)
  refine L.op rfl rfl (O.call (xs := [.tmp 36]) Tryd.call28 rfl rfl (Raw_calls 0 N1 K3 pv3 mv3 lv3 ls3 w9 hE1.n0 hE1.n1 (hE3.l.keep he9) hE3.lo) (fun v23 w23 hq => ?_))
  obtain ⟨he23, hz23⟩ := hq
  obtain ⟨o1, n1, c1, rfl, hx⟩ := hv33
  obtain ⟨o2, n2, c2, rfl, hy⟩ := hv35
  have hz : Ints .i64 0 w23 v23 _ := hz23.mono (Nat.zero_le _)
  have txy := raw_two hD1.n0 hD1.lo hD2.lo
  have tyx := two_symm txy
  have txz := raw_two hD1.n0 hD1.lo hD3.lo
  have tzy := raw_two hD1.n0 hD3.lo hD2.lo
  have kx := raw_ok hD1.n0 hD1.lo
  have ky := raw_ok hD1.n0 hD2.lo
  have lx := rawOf_len N1 ls1
  have lz := rawOf_len N1 ls3
  have ly := rawOf_len N1 ls2
  have hun : 1 ≤ unitsOf N1 ∧ unitsOf N1 ≤ 9 := by have := hD1.n0; unfold unitsOf; omega
  have kc := canon_ok ky
  have lc := canonOf_len (rawOf N1 ls2)
  have txc : twoErr (rawOf N1 ls1) (canonOf (rawOf N1 ls2)) = 0 := twoErr_ok ⟨kx, kc⟩ (by omega)
  have tyc : twoErr (rawOf N1 ls2) (canonOf (rawOf N1 ls2)) = 0 := twoErr_ok ⟨ky, kc⟩ (by omega)
  refine L.op rfl rfl (O.assign rfl (L.op rfl rfl (O.assign rfl (L.op rfl rfl (O.assign rfl (L.nil (T.seq (T.region (L.op rfl rfl (O.move rfl (L.op rfl rfl (O.move rfl (L.op rfl rfl (O.call (xs := [.tmp 39, .tmp 40]) Tryd.call34 rfl rfl (Apart_calls 0 0 _ _ _ _ w23 (hx.keep he23) (hy.keep he23)) (fun v10 w10 hq => ?_)))))))))))))))
  obtain ⟨rfl, he10⟩ := hq
  rw [txy]
  refine L.op rfl rfl (O.move rfl (L.op rfl rfl (O.extract rfl rfl (L.op rfl rfl (O.extract rfl rfl (L.op rfl rfl (O.assign rfl (L.op rfl rfl (O.assign rfl (L.nil (T.seq (T.region (L.op rfl rfl (O.move rfl (L.op rfl rfl (O.move rfl (L.op rfl rfl (O.call (xs := [.tmp 45, .tmp 46]) Tryd.call34 rfl rfl (Apart_calls 0 0 _ _ _ _ w10 (hy.keep (he23.trans he10)) (hx.keep (he23.trans he10))) (fun v11 w11 hq => ?_)))))))))))))))))))
  obtain ⟨rfl, he11⟩ := hq
  rw [tyx]
  have he911 := (he23.trans he10).trans he11
  refine L.op rfl rfl (O.move rfl (L.op rfl rfl (O.extract rfl rfl (L.op rfl rfl (O.extract rfl rfl (L.op rfl rfl (O.assign rfl (L.op rfl rfl (O.assign rfl (L.nil (T.seq (T.region (L.op rfl rfl (O.move rfl (L.op rfl rfl (O.move rfl (L.op rfl rfl (O.call (xs := [.tmp 51, .tmp 52]) Tryd.call34 rfl rfl (Apart_calls 0 0 _ _ _ _ w11 (hx.keep he911) (hz.keep (he10.trans he11))) (fun v12 w12 hq => ?_)))))))))))))))))))
  obtain ⟨rfl, he12⟩ := hq
  rw [txz]
  have he912 := he911.trans he12
  refine L.op rfl rfl (O.move rfl (L.op rfl rfl (O.extract rfl rfl (L.op rfl rfl (O.extract rfl rfl (L.op rfl rfl (O.assign rfl (L.op rfl rfl (O.assign rfl (L.nil (T.seq (T.region (L.op rfl rfl (O.move rfl (L.op rfl rfl (O.move rfl (L.op rfl rfl (O.call (xs := [.tmp 57, .tmp 58]) Tryd.call34 rfl rfl (Apart_calls 0 0 _ _ _ _ w12 (hz.keep ((he10.trans he11).trans he12)) (hy.keep he912)) (fun v13 w13 hq => ?_)))))))))))))))))))
  obtain ⟨rfl, he13⟩ := hq
  rw [tzy]
  have he913 := he912.trans he13
  refine L.op rfl rfl (O.move rfl (L.op rfl rfl (O.extract rfl rfl (L.op rfl rfl (O.extract rfl rfl (L.op rfl rfl (O.assign rfl (L.op rfl rfl (O.assign rfl (L.nil (T.seq (T.region (L.op rfl rfl (O.move rfl (L.op rfl rfl (O.move rfl (L.op rfl rfl (O.call (xs := [.tmp 63, .tmp 64]) Tryd.call32 rfl rfl (Same_calls 0 0 _ _ _ _ w13 (hx.keep he913) (hy.keep he913)) (fun v14 w14 hq => ?_)))))))))))))))))))
  obtain ⟨he14, cs, rfl, hcs0, hcs1⟩ := hq
  rw [txy]
  have he914 := he913.trans he14
  refine L.op rfl rfl (O.move rfl (L.op rfl rfl (O.extract rfl rfl (L.op rfl rfl (O.extract rfl rfl (L.op rfl rfl (O.assign rfl (L.op rfl rfl (O.assign rfl (L.nil (T.seq (T.region (L.op rfl rfl (O.move rfl (L.op rfl rfl (O.call (xs := [.tmp 69]) Tryd.call30 rfl rfl (Canon_calls 0 _ _ w14 (hy.keep he914)) (fun v15 w15 hq => ?_)))))))))))))))))
  obtain ⟨he15, l15, rfl, hl15⟩ := hq
  rw [canonErr, if_pos ky]
  rw [if_pos ky] at hl15
  have he915 := he914.trans he15
  have hc15 : Ints .i64 0 w15 l15 (canonOf (rawOf N1 ls2)) := hl15.mono (Nat.zero_le _)
  refine L.op rfl rfl (O.move rfl (L.op rfl rfl (O.extract rfl rfl (L.op rfl rfl (O.extract rfl rfl (L.op rfl rfl (O.assign rfl (L.op rfl rfl (O.assign rfl (L.nil (T.seq (T.region (L.op rfl rfl (O.move rfl (L.op rfl rfl (O.move rfl (L.op rfl rfl (O.call (xs := [.tmp 74, .tmp 75]) Tryd.call34 rfl rfl (Apart_calls 0 0 _ _ _ _ w15 (hx.keep he915) hc15) (fun v16 w16 hq => ?_)))))))))))))))))))
  obtain ⟨rfl, he16⟩ := hq
  rw [txc]
  have s1 := apart_symm txy
  have s2 := apart_tri txy txz tzy
  have s3 := apart_canon txy txc (canon_self _)
  have n1 := apart_nonneg txy
  have n2 := apart_lt txy
  have n3 := apart_nonneg txz
  have n4 := apart_lt txz
  have n5 := apart_nonneg tzy
  have n6 := apart_lt tzy
  have he916 := he915.trans he16
  refine L.op rfl rfl (O.move rfl (L.op rfl rfl (O.extract rfl rfl (L.op rfl rfl (O.extract rfl rfl (L.op rfl rfl (O.assign rfl (L.op rfl rfl (O.assign rfl (L.nil (T.seq (T.seq (T.region (L.op rfl rfl (O.move rfl (L.op rfl rfl (O.neq_f rfl rfl rfl (L.op rfl rfl (O.move rfl (L.op rfl rfl (O.move rfl (L.op rfl rfl (O.neq_f rfl rfl rfl (L.op rfl rfl (O.pick_false rfl rfl (L.op rfl rfl (O.move rfl (L.op rfl rfl (O.move rfl (L.op rfl rfl (O.neq_f rfl rfl rfl (L.op rfl rfl (O.pick_false rfl rfl (L.op rfl rfl (O.move rfl (L.op rfl rfl (O.move rfl (L.op rfl rfl (O.neq_f rfl rfl rfl (L.op rfl rfl (O.pick_false rfl rfl (L.op rfl rfl (O.move rfl (?_))))))))))))))))))))))))))))))))))))))))))))
  refine L.op rfl rfl (O.move rfl (L.op rfl rfl (O.neq_f rfl rfl rfl (L.op rfl rfl (O.pick_false rfl rfl (L.op rfl rfl (O.move rfl (L.op rfl rfl (O.move rfl (L.op rfl rfl (O.neq_f rfl rfl rfl (L.op rfl rfl (O.pick_false rfl rfl (L.op rfl rfl (O.move rfl (L.op rfl rfl (O.move rfl (L.op rfl rfl (O.neq_f rfl rfl rfl (L.op rfl rfl (O.pick_false rfl rfl (L.nil (T.cond_false rfl (T.skip (T.seq (T.region (L.op rfl rfl (O.move rfl (L.op rfl rfl (O.move rfl (L.op rfl rfl (O.eql_t rfl rfl s1 (L.op rfl rfl (O.move rfl (L.op rfl rfl (O.move rfl (L.op rfl rfl (O.move rfl (L.op rfl rfl (O.move rfl (L.op rfl rfl (O.add64 rfl rfl (by omega) (?_)))))))))))))))))))))))))))))))))))))))))))
  refine L.op rfl rfl (O.leq_t rfl rfl s2 (L.op rfl rfl (O.pick_true rfl rfl (L.op rfl rfl (O.move rfl (L.op rfl rfl (O.move rfl (L.op rfl rfl (O.eql rfl rfl (L.op rfl rfl (O.move rfl (L.op rfl rfl (O.eql_bool_t Tryd.runUnderlying4 rfl rfl (same_zero txy hcs1) (L.op rfl rfl (O.pick_true rfl rfl (L.op rfl rfl (O.move rfl (L.op rfl rfl (O.move rfl (L.op rfl rfl (O.move rfl (L.op rfl rfl (O.eql_t rfl rfl s3 (L.op rfl rfl (O.pick_true rfl rfl (L.op rfl rfl (O.move rfl (L.op rfl rfl (O.move rfl (L.op rfl rfl (O.geq_t rfl rfl n1 (L.op rfl rfl (O.pick_true rfl rfl (L.op rfl rfl (O.move rfl (L.op rfl rfl (O.move rfl (L.op rfl rfl (O.move rfl (L.op rfl rfl (O.len Tryd.runUnderlying35 rfl (Sl.val (hx.keep he916)) (L.op rfl rfl (O.lss_t rfl rfl (by omega) (L.op rfl rfl (O.pick_true rfl rfl (L.op rfl rfl (O.move rfl (?_))))))))))))))))))))))))))))))))))))))))))))))))
  refine L.op rfl rfl (O.call (xs := [.const (.bool true)]) Tryd.call38 rfl rfl (truth_calls true w16) (fun v17 w17 hq => ?_))
  obtain ⟨he17, rfl, hF17⟩ := hq
  refine L.op rfl rfl (O.move rfl (L.op rfl rfl (O.move rfl (L.op rfl rfl (O.call (xs := [.tmp 138, .tmp 139]) Tryd.call32 rfl rfl (Same_calls 0 0 _ _ _ _ w17 (hy.keep (he916.trans he17)) (hc15.keep (he16.trans he17))) (fun v18 w18 hq => ?_))))))
  obtain ⟨he18, c18, rfl, h18a, h18b⟩ := hq
  obtain rfl : c18 = true := (h18b tyc).2 (by have := alike_symm (canon_self (rawOf N1 ls2)); rwa [lc] at this)
  rw [tyc]
  refine L.op rfl rfl (O.extract rfl rfl (L.op rfl rfl (O.extract rfl rfl (L.op rfl rfl (O.call (xs := [.tmp 141, .tmp 142]) Tryd.call64 rfl rfl (truth1_calls _ true true 0 w18 (hF17.keep he18 (Nat.zero_le _))) (fun v19 w19 hq => ?_))))))
  obtain ⟨rfl, hw19⟩ := hq
  subst hw19
  refine L.op rfl rfl (O.pick_true rfl rfl (L.op rfl rfl (O.move rfl (L.op rfl rfl (O.move rfl (L.op rfl rfl (O.call (xs := [.tmp 146]) Tryd.call39 rfl rfl (is_calls l15 w19 (Sl.cells hl15)) (fun v20 w20 hq => ?_))))))))
  obtain ⟨he20, rfl, hF20⟩ := hq
  have he1520 := (((he16.trans he17).trans he18).trans he20)
  refine L.op rfl rfl (O.move rfl (L.op rfl rfl (O.call (xs := [.tmp 148]) Tryd.call30 rfl rfl (Canon_calls 0 _ _ w20 (hc15.keep he1520)) (fun v21 w21 hq => ?_))))
  obtain ⟨he21, l21, rfl, hl21⟩ := hq
  rw [canonErr, if_pos kc]
  rw [if_pos kc, canon_idem] at hl21
  refine L.op rfl rfl (O.extract rfl rfl (L.op rfl rfl (O.extract rfl rfl (L.op rfl rfl (O.call (xs := [.tmp 150, .tmp 151]) Tryd.call65 rfl rfl (is1_calls _ w20.heap.size 0 l21 l15 (canonOf (rawOf N1 ls2)) (canonOf (rawOf N1 ls2)) 0 w21 (hF20.keep he21 (Nat.zero_le _)) hl21 (hc15.keep (he1520.trans he21))) (fun v22 w22 hq => ?_))))))
  obtain ⟨hv22, he22⟩ := hq
  rw [decide_eq_true rfl] at hv22
  obtain rfl : v22 = .bool true := hv22
  refine L.op rfl rfl (O.pick_true rfl rfl (L.op rfl rfl (O.assign rfl (L.nil (T.ret1 Tryd.results7 rfl ⟨rfl, (((he08.trans he9).trans he915).trans he1520).trans (he21.trans he22)⟩)))))

end Go.Proofs.YthjdljbghjelfaaDoor
set_option linter.unusedVariables false
set_option linter.unusedSimpArgs false
set_option maxRecDepth 20000
namespace Go.Proofs.YthjdljbghjelfaaDoor
open Go Go.E RowKit ChangeShapes WideShapes
attribute [local irreducible] Go.E.T Go.E.L Go.E.O Go.E.Ob

set_option maxRecDepth 100000 in
theorem planDistances_lifted (os : Os) (started : os.Started) (H : Type) (enc : TypeId × Value → H) :
    ReturnsInHanded {} Tryd.checked os 7 .any (fun w args => (Rows.planDistancesSpec.pre enc Tryd.prog Tryd.f7 [] false w args ∧ laidMetH Tryd.prog laidL w) ∧ sizedMet enc Tryd.prog Tryd.f7 (OpenSpec.ofChange Rows.planDistancesSpec) false w args)
      (Rows.planDistancesSpec.post enc Tryd.prog Tryd.f7 false true false false) := by
  refine law_lifted (C := Tryd.checked) (X := fun w _ => laidMetH Tryd.prog laidL w) (tb := 4) (ts := [25, 25, 25]) (fun _ _ _ hh h => h.of_heap hh) own started (by kernel_rfl) Tryd.func7
    rfl Tryd.params7 (fun ds h => ?_) (by kernel_rfl) Tryd.underlying4 laidOut (by kernel_rfl)
    (ChangeSpec.witness_at (enc := enc) (C := Tryd.checked) (os := os) (X := fun w _ => laidMetH Tryd.prog laidL w) false (laidWorld os) #[.agg #[.int .u8 0, .slice none 0 0, .slice none 0 0, .slice none 0 0, .int .u8 0], .agg #[.int .u8 0, .slice none 0 0, .slice none 0 0, .slice none 0 0, .int .u8 0], .agg #[.int .u8 0, .slice none 0 0, .slice none 0 0, .slice none 0 0, .int .u8 0]] 8 rfl (by kernel_rfl) (by kernel_rfl) (by kernel_rfl) (by kernel_rfl) (by kernel_rfl) (laidWorld_met os _)) ?_
  · obtain ⟨a0, a1, a2, rfl⟩ := three h
    rfl
  · intro W vs hl ha hL
    obtain ⟨a0, a1, a2, rfl⟩ := three hl
    obtain ⟨N1, K1, pv1, mv1, lv1, ps1, ls1, ms1, rfl, hD1⟩ := draft_of (ha 0 _ _ rfl rfl)
    obtain ⟨N2, K2, pv2, mv2, lv2, ps2, ls2, ms2, rfl, hD2⟩ := draft_of (ha 1 _ _ rfl rfl)
    obtain ⟨N3, K3, pv3, mv3, lv3, ps3, ls3, ms3, rfl, hD3⟩ := draft_of (ha 2 _ _ rfl rfl)
    exact PlanDistances_calls N1 K1 N2 K2 N3 K3 pv1 mv1 lv1 pv2 mv2 lv2 pv3 mv3 lv3 ps1 ls1 ps2 ls2 ps3 ls3 ms1 ms2 ms3 W hD1 hD2 hD3 (tab_of_laid hL)
theorem planDistances_over : Rows.PlanDistancesSaid :=
  OpenClaim.holds_of_wide 7 Tryd.f7 rfl rfl rfl rfl rfl rfl rfl ⟨rfl, rfl, rfl, rfl, rfl⟩ rfl rfl rfl rfl rfl (by kernel_rfl) Tryd.func7 (by kernel_rfl)
    (of_decide_eq_true (by kernel_rfl)) (by unfold Func.isWrapper; first | (rw [if_pos (by decide +kernel)]; kernel_rfl) | (rw [if_neg (by decide +kernel)]; exact ⟨rfl, rfl⟩))
    (fun os started H enc _ => planDistances_lifted os started H enc)
theorem planDistances_holds : Rows.PlanDistancesCardSaid :=
  Claim7.holds_tied_plain_at .later [] [.data] true (true, "70ce77e6e465cb6f7bb54785c29c1fee9bd557921552f81cc09119473f9a84dc") false
    planDistances_over (fun _ h => by cases h) (by kernel_rfl) (fun _ h => by cases h) planDistances_row_tie rfl ⟨rfl, rfl⟩ (by kernel_rfl) rfl
    (fun f fn hf hfn => by
      obtain rfl : f = 7 := Option.some.inj ((show Tryd.prog.funcNamed Rows.planDistancesRow.func = some 7 by kernel_rfl).symm.trans hf) |>.symm
      obtain rfl : fn = Tryd.f7 := (Option.some.inj (Tryd.func7.symm.trans hfn)).symm
      exact ⟨by kernel_rfl, fun j t ht => by
        rw [Tryd.params7] at ht
        have hall : (([25, 25, 25] : List TypeId).all fun t => !Tryd.prog.wantsStandIn t) = true := by kernel_rfl
        have := List.all_eq_true.1 hall t (List.mem_of_getElem? (i := j) (by simpa using ht))
        have h2 : Tryd.prog.wantsStandIn t = false := by simpa using this
        exact h2⟩)
    (by kernel_rfl)
#print axioms planDistances_holds
end Go.Proofs.YthjdljbghjelfaaDoor
