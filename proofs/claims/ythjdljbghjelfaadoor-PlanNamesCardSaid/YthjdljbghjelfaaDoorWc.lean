/-
  PlanNames returns true for every input, and each argument reads behind the call as it read before. Conditions: the listed variable reads as the program's text lays it (tied by the card).
-/
import Derived.Test.YthjdljbghjelfaaDoorMg
import Derived.Test.YthjdljbghjelfaaDoorCards
set_option linter.unusedVariables false
set_option linter.unusedSimpArgs false
set_option maxRecDepth 20000
namespace Go.Proofs.YthjdljbghjelfaaDoor
open Go Go.E
attribute [local irreducible] Go.E.T Go.E.L Go.E.O Go.E.Ob

def SlX (xs : List Int) (v : Value) (w : World) : Prop := ∃ oa n cap, v = .slice oa n cap ∧ Ints .i64 0 w v xs
theorem SlX.st {xs : List Int} : ∀ v w w', Ext w w' → SlX xs v w → SlX xs v w' := fun v w w' he ⟨oa, n, cap, h1, h2⟩ => ⟨oa, n, cap, h1, h2.keep he⟩
theorem SlX.of {v : Value} {w : World} {xs : List Int} {lo : Nat} (h : Ints .i64 lo w v xs) : SlX xs v w := by
  obtain ⟨oa, cap, h1, _, _⟩ := Sl.val h
  exact ⟨oa, _, cap, h1, h.mono (Nat.zero_le _)⟩
theorem rawOf_len (N : Int) (ls : List Int) : (rawOf N ls).length = (unitsOf N).toNat := rawTo_len ls _
theorem same_c {xs ys : List Int} {c c' : Bool} {A : Prop} (h1 : twoErr xs ys ≠ 0 → c = false) (h2 : twoErr xs ys = 0 → (c = true ↔ A)) (k1 : twoErr xs ys ≠ 0 → c' = false) (k2 : twoErr xs ys = 0 → (c' = true ↔ A)) : c = c' := by
  by_cases he : twoErr xs ys = 0
  · have a := h2 he
    have b := k2 he
    cases c <;> cases c' <;> simp_all
  · rw [h1 he, k1 he]
theorem take_ints {w : World} {oa : Option Addr} {n cap m : Nat} {xs : List Int} (h : Ints .i64 0 w (.slice oa n cap) xs) (hm : m ≤ xs.length) : Ints .i64 0 w (.slice oa m cap) (xs.take m) := by
  obtain ⟨oa', cap', he, _, _⟩ := Sl.val h
  cases he
  have := Sl_take h hm
  unfold Ints
  rw [List.length_take, Nat.min_eq_left hm, List.map_take]; exact this
theorem PlanNames_calls (N K N2 K2 B A n : Int) (rv pv mv lv pv2 mv2 lv2 : Value) (rs ps ls ps2 ls2 : List Int) (ms ms2 : List (Int × Int)) (w : World) (hR : Ints .i64 0 w rv rs) (hD : DraftOk w N K pv mv lv ps ls ms) (hD2 : DraftOk w N2 K2 pv2 mv2 lv2 ps2 ls2 ms2) (hB0 : 0 ≤ B) (hB1 : B ≤ 255) (hA0 : 0 ≤ A) (hA1 : A ≤ 255) (hT : Tab w) :
    Calls Tryd.prog 5 #[rv, dV N pv mv lv K, dV N2 pv2 mv2 lv2 K2, beV B A n] w (Ret fun v w' => v = .bool true ∧ Ext w w') := by
  refine T.enter (vs := [rv, dV N pv mv lv K, dV N2 pv2 mv2 lv2 K2, beV B A n]) Tryd.func5 rfl Tryd.ntmps5 rfl ?_
  refine T.seq (T.region (L.op rfl rfl (O.box rfl (fun b5 w5 hb5 hz5 he5 hB5 => ?_))))
  refine L.op rfl rfl (O.box rfl (fun b6 w6 hb6 hz6 he6 hB6 => ?_))
  refine L.op rfl rfl (O.box rfl (fun b7 w7 hb7 hz7 he7 hB7 => ?_))
  have hz5 := he5.size
  have hz6' := he6.size
  have hz7' := he7.size
  have hB5 : Blk w5 b5 [.int .u8 N, pv, mv, lv, .int .u8 K] 25 := hB5
  have hB6 : Blk w6 b6 [.int .u8 N2, pv2, mv2, lv2, .int .u8 K2] 25 := hB6
  refine L.op rfl rfl (O.assign rfl (L.nil (T.seq (T.seq (T.region (L.op rfl rfl (O.call (xs := []) Tryd.call10 rfl rfl (works_calls w7 (hT.keep ((he5.trans he6).trans he7))) (fun v8 w8 hq => ?_))))))))
  obtain ⟨rfl, he8⟩ := hq
  refine L.op rfl rfl (O.not rfl (L.nil (T.cond_false rfl (T.skip (T.seq (T.region (L.op rfl rfl (O.fieldAddr Tryd.runUnderlying25 rfl Tryd.sizeOf5 rfl (L.op rfl rfl (O.load Tryd.isAgg5 rfl (Blk.at (hB5.keep ((he6.trans he7).trans he8) (Nat.zero_le _)) rfl) (L.op rfl rfl (O.fieldAddr Tryd.runUnderlying25 rfl Tryd.sizeOf5 rfl (L.op rfl rfl (O.store1_at Tryd.sizeOf5 rfl rfl rfl (hB6.keep (he7.trans he8) (Nat.zero_le _)) (by simp) (fun w9 hu9 hB9 => ?_)))))))))))))))
  have hB9 : Blk w9 b6 [.int .u8 N, pv2, mv2, lv2, .int .u8 K2] 25 := hB9
  have he09 : Ext w w9 := (((he5.trans he6).trans he7).trans he8).upd hu9 (.inr (by omega))
  have hB59 := (hB5.keep ((he6.trans he7).trans he8) (Nat.zero_le _)).upd hu9 (by omega)
  have hB79 := (hB7.keep he8 (Nat.zero_le _)).upd hu9 (by omega)
  have hD9 := hD.keep he09
  have hE9 : DraftOk w9 N K2 pv2 mv2 lv2 ps2 ls2 ms2 := ⟨hD.n0, hD.n1, hD2.k0, hD2.k1, hD2.p.keep he09, hD2.po, hD2.m.keep he09, hD2.mo, hD2.l.keep he09, hD2.lo⟩
  obtain ⟨ro, rcap, rfl, hrc, _⟩ := Sl.val hR
  have hRle := Sl.le hR
  refine L.nil (T.seq (T.region (L.op rfl rfl (O.loadAgg Tryd.isAgg25 Tryd.sizeOf25 rfl rfl hB9.row (L.op rfl rfl (O.call (xs := [.tmp 36]) Tryd.call27 rfl rfl (Loose_calls 0 N K2 pv2 mv2 lv2 ls2 w9 hE9.n0 hE9.n1 hE9.k0 hE9.k1 hE9.l hE9.lo) (fun v10 w10 hq => ?_)))))))
  obtain ⟨he10, lo, rfl, hlo⟩ := hq
  obtain ⟨oo, co, rfl, _, _⟩ := Sl.val hlo
  have hun : 1 ≤ unitsOf N ∧ unitsOf N ≤ 9 := by have := hD.n0; unfold unitsOf; omega
  have hrl := rawOf_len N ls
  have hD10 := hD9.keep he10
  have hE10 := hE9.keep he10
  have hR10 := hR.keep (he09.trans he10)
  refine L.op rfl rfl (O.move rfl (L.op rfl rfl (O.extract rfl rfl (L.op rfl rfl (O.extract rfl rfl (L.op rfl rfl (O.assign rfl (L.op rfl rfl (O.assign rfl (L.nil (T.seq (?_))))))))))))
  refine T.anyE mixed 14 [5, 6, 9, 7, 0] rfl [.is _, .such (SlX (rawOf N ls)), .is _, .such (SlX (rawOf N ls2)), .is _, .is _, .is _, .such (SlX (rawOf N ls)), .such SlF, .is _, .is _, .is _, .is _, .is _] [[], [0], [], [2], [], [], [], [6], [5, 7], [], [], [10], [11], [9, 12]] [[], [0], [], [0, 1, 2], [], [], [], [0, 1, 2, 3, 6], [0, 1, 2, 3, 5, 6, 7], [], [], [10], [10, 11], [9, 10, 11, 12], [0, 1, 2, 3, 4, 5, 6, 7, 8, 9, 10, 11, 12, 13], [0, 1, 2, 3, 4, 5, 6, 7, 8, 9, 10, 11, 12, 13, 14]] (by kernel_rfl) (by kernel_rfl) rfl (by kernel_rfl) ⟨SlX.st, SlX.st, SlX.st, SlF.st, trivial⟩ ⟨fun wx hx => Ob.op rfl (O.loadAgg Tryd.isAgg25 Tryd.sizeOf25 rfl rfl ((hB59.keep (he10.trans hx) (Nat.zero_le _)).row) ⟨Keep.refl _ _, rfl⟩),
      fun wx hx => Ob.op rfl (O.call (xs := [.tmp 40]) Tryd.call28 rfl rfl (Raw_calls 0 N K pv mv lv ls wx hD10.n0 hD10.n1 (hD10.l.keep hx) hD10.lo) (fun v wy h => ⟨h.1, SlX.of h.2⟩)),
      fun wx hx => Ob.op rfl (O.loadAgg Tryd.isAgg25 Tryd.sizeOf25 rfl rfl ((hB9.keep (he10.trans hx) (Nat.zero_le _)).row) ⟨Keep.refl _ _, rfl⟩),
      fun wx hx => Ob.op rfl (O.call (xs := [.tmp 42]) Tryd.call28 rfl rfl (Raw_calls 0 N K2 pv2 mv2 lv2 ls2 wx hE10.n0 hE10.n1 (hE10.l.keep hx) hE10.lo) (fun v wy h => ⟨h.1, SlX.of h.2⟩)),
      fun wx hx => Ob.op rfl (O.move rfl ⟨Keep.refl _ _, rfl⟩),
      fun wx hx => Ob.op rfl (O.loadAgg Tryd.isAgg27 Tryd.sizeOf27 rfl rfl ((hB79.keep (he10.trans hx) (Nat.zero_le _)).row) ⟨Keep.refl _ _, rfl⟩),
      fun wx hx => Ob.op rfl (O.loadAgg Tryd.isAgg25 Tryd.sizeOf25 rfl rfl ((hB59.keep (he10.trans hx) (Nat.zero_le _)).row) ⟨Keep.refl _ _, rfl⟩),
      fun wx hx => Ob.op rfl (O.call (xs := [.tmp 46]) Tryd.call28 rfl rfl (Raw_calls 0 N K pv mv lv ls wx hD10.n0 hD10.n1 (hD10.l.keep hx) hD10.lo) (fun v wy h => ⟨h.1, SlX.of h.2⟩)),
      fun wx hx v47 hv47 => by { obtain ⟨oa, nn, cap, rfl, h⟩ := hv47; exact Ob.op rfl (O.call (xs := [.tmp 45, .tmp 47]) Tryd.call29 rfl rfl (Of_calls 0 B A n _ (rawOf N ls) wx hB0 hB1 hA0 hA1 h (by omega) (by omega)) (fun v wy h => ⟨h.1, SlF.of h.2⟩)) },
      fun wx hx => Ob.op rfl (O.move rfl ⟨Keep.refl _ _, rfl⟩),
      fun wx hx => Ob.op rfl (O.move rfl ⟨Keep.refl _ _, rfl⟩),
      fun wx hx => Ob.op rfl (O.len Tryd.runUnderlying34 rfl (Sl.val (hR10.keep hx)) ⟨Keep.refl _ _, rfl⟩),
      fun wx hx => Ob.op rfl (O.min rfl rfl ⟨Keep.refl _ _, rfl⟩),
      fun wx hx => Ob.op rfl (O.slice_to Tryd.runUnderlying34 Tryd.sizeOf3 rfl rfl (by split <;> omega) (by split <;> omega) ⟨Keep.refl _ _, rfl⟩),
      trivial⟩ (fun w11 he11 v41 hv41 v43 hv43 v47 hv47 v48 hv48 => ?_)
  obtain ⟨o1, n1, c1, rfl, h1⟩ := hv41
  obtain ⟨o2, n2, c2, rfl, h2⟩ := hv43
  obtain ⟨o4, n4, c4, xs4, rfl, h4⟩ := hv48
  have h5 := take_ints (hR10.keep he11) (m := (if (66 : Int) < (rs.length : Int) then (66 : Int) else (rs.length : Int)).toNat) (by split <;> omega)
  have h3 : Ints .i64 0 w11 _ (canonOf (looseRaw N K2 ls2)) := (hlo.keep (he11.mono (Nat.zero_le _))).mono (Nat.zero_le _)
  generalize (if (66 : Int) < (rs.length : Int) then (66 : Int) else (rs.length : Int)).toNat = m5 at h5
  refine L.op rfl rfl (O.buildSlice (el := 35) (parts := [(0, .tmp 41), (1, .tmp 43), (2, .tmp 44), (3, .tmp 48), (4, .tmp 53)]) (vs := [(0, _), (1, _), (2, _), (3, _), (4, _)]) (cs := [.slice o1 n1 c1, .slice o2 n2 c2, .slice oo (canonOf (looseRaw N K2 ls2)).length co, .slice o4 n4 c4, .slice ro m5 rcap]) rfl (fun w => by kernel_rfl) (fun b12 w12 hb12 hz12 he12 hB12 => ?_))
  generalize (canonOf (looseRaw N K2 ls2)).length = n3 at h3 hB12
  have hS12 : Sl 0 w12 (.slice (some ⟨b12, 0, none⟩) 5 5) 5 1 [.slice o1 n1 c1, .slice o2 n2 c2, .slice oo n3 co, .slice o4 n4 c4, .slice ro m5 rcap] := Sl.of_blk hB12 rfl (Nat.le_refl _) (by decide) (Nat.zero_le _)
  have hall : ∀ i : Nat, i < 5 → ∃ p xs, [Value.slice o1 n1 c1, .slice o2 n2 c2, .slice oo n3 co, .slice o4 n4 c4, .slice ro m5 rcap][i]? = some p ∧ Ints .i64 0 w12 p xs := fun i hi => by
    rcases (show i = 0 ∨ i = 1 ∨ i = 2 ∨ i = 3 ∨ i = 4 by omega) with (rfl|rfl|rfl|rfl|rfl)
    · exact ⟨_, _, rfl, h1.keep he12⟩
    · exact ⟨_, _, rfl, h2.keep he12⟩
    · exact ⟨_, _, rfl, h3.keep he12⟩
    · exact ⟨_, _, rfl, h4.keep he12⟩
    · exact ⟨_, _, rfl, h5.keep he12⟩
  have he012 := ((he09.trans he10).trans he11).trans he12
  refine L.op rfl rfl (O.assign rfl (L.nil (T.seq (T.seq (T.region (L.op rfl rfl (O.move rfl (L.op rfl rfl (O.len Tryd.runUnderlying64 rfl (Sl.val hS12) (L.op rfl rfl (O.move rfl (L.nil (T.block (?_))))))))))))))
  refine T.loop (σ := Nat) (fun i => [(11, .slice (some ⟨b12, 0, none⟩) 5 5), (55, .slice (some ⟨b12, 0, none⟩) 5 5), (56, .int .i64 ((5 : Nat) : Int)), (57, .int .i64 i)]) (fun i w' => i ≤ 5 ∧ Ext w12 w') (fun i => 5 - i) (0) ⟨rfl, rfl, rfl, rfl, trivial⟩ ⟨Nat.zero_le _, Keep.refl _ _⟩ ?_
  rintro i w13 ⟨hi, he13⟩
  refine T.seq (T.region (L.op rfl rfl (O.lss_s rfl rfl (fun hlt => ?_) (fun hlt => ?_))))
  · refine L.nil (?_)
    obtain ⟨p, xs, hp, hx⟩ := hall i (by omega)
    have hS13 := hS12.keep he13
    refine T.seq (T.cond_true rfl (T.skip (T.seq (T.block (T.seq (T.region (L.op rfl rfl (O.indexAddr Tryd.runUnderlying64 Tryd.sizeOf35 rfl rfl hS13 (by omega) (by omega) (L.op rfl rfl (O.load Tryd.isAgg35 rfl (Sl.at1 hS13 hp) (?_)))))))))))
    have hx13 := hx.keep he13
    refine L.op rfl rfl (O.assign rfl (L.nil (T.seq (T.region (L.op rfl rfl (O.move rfl (L.op rfl rfl (O.call (xs := [.tmp 62]) Tryd.call30 rfl rfl (Canon_calls 0 p xs w13 hx13) (fun v14 w14 hq => ?_)))))))))
    obtain ⟨he14, l1, rfl, hl1⟩ := hq
    refine L.op rfl rfl (O.move rfl (L.op rfl rfl (O.extract rfl rfl (L.op rfl rfl (O.extract rfl rfl (L.op rfl rfl (O.assign rfl (L.op rfl rfl (O.assign rfl (L.nil (T.seq (T.region (L.op rfl rfl (O.move rfl (L.op rfl rfl (O.call (xs := [.tmp 67]) Tryd.call31 rfl rfl (RCanon_calls 0 p xs w14 (hx13.keep he14)) (fun v15 w15 hq => ?_)))))))))))))))))
    obtain ⟨he15, l2, rfl, hl2⟩ := hq
    refine L.op rfl rfl (O.move rfl (L.op rfl rfl (O.extract rfl rfl (L.op rfl rfl (O.extract rfl rfl (L.op rfl rfl (O.assign rfl (L.op rfl rfl (O.assign rfl (L.nil (T.seq (T.seq (T.region (L.op rfl rfl (O.move rfl (L.op rfl rfl (O.move rfl (L.op rfl rfl (O.call (xs := [.tmp 71, .tmp 72]) Tryd.call26 rfl rfl (equalP_calls w13.heap.size w14.heap.size l1 l2 _ _ w15 (hl1.keep (he15.mono (Nat.zero_le _))) hl2) (fun v16 w16 hq => ?_))))))))))))))))))))
    obtain ⟨hv16, he16⟩ := hq
    rw [decide_eq_true rfl] at hv16
    subst hv16
    refine L.op rfl rfl (O.not rfl (L.op rfl rfl (O.move rfl (L.op rfl rfl (O.move rfl (L.op rfl rfl (O.move rfl (L.op rfl rfl (O.neq_f rfl rfl rfl (?_))))))))))
    have he1316 := (he14.trans he15).trans he16
    refine L.op rfl rfl (O.pick_false rfl rfl (L.nil (T.cond_false rfl (T.skip (T.seq (T.region (L.op rfl rfl (O.move rfl (L.op rfl rfl (O.len Tryd.runUnderlying64 rfl (Sl.val (hS13.keep he1316)) (L.op rfl rfl (O.move rfl (L.nil (T.block (?_)))))))))))))))
    refine T.loop (σ := Nat) (fun j => [(11, .slice (some ⟨b12, 0, none⟩) 5 5), (13, p), (55, .slice (some ⟨b12, 0, none⟩) 5 5), (56, .int .i64 ((5 : Nat) : Int)), (57, .int .i64 i), (80, .slice (some ⟨b12, 0, none⟩) 5 5), (81, .int .i64 ((5 : Nat) : Int)), (82, .int .i64 j)]) (fun j w' => j ≤ 5 ∧ Ext w12 w') (fun j => 5 - j) (0) ⟨rfl, rfl, rfl, rfl, rfl, rfl, rfl, rfl, trivial⟩ ⟨Nat.zero_le _, he13.trans he1316⟩ ?_
    rintro j w17 ⟨hj, he17⟩
    refine T.seq (T.region (L.op rfl rfl (O.lss_s rfl rfl (fun hlt2 => ?_) (fun hlt2 => ?_))))
    · refine L.nil (?_)
      obtain ⟨q, ys, hq, hy⟩ := hall j (by omega)
      have hS17 := hS12.keep he17
      refine T.seq (T.cond_true rfl (T.skip (T.seq (T.block (T.seq (T.region (L.op rfl rfl (O.indexAddr Tryd.runUnderlying64 Tryd.sizeOf35 rfl rfl hS17 (by omega) (by omega) (L.op rfl rfl (O.load Tryd.isAgg35 rfl (Sl.at1 hS17 hq) (L.op rfl rfl (O.assign rfl (L.nil (T.seq (T.region (L.op rfl rfl (O.move rfl (L.op rfl rfl (O.move rfl (L.op rfl rfl (O.call (xs := [.tmp 87, .tmp 88]) Tryd.call32 rfl rfl (Same_calls 0 0 p q xs ys w17 (hx.keep he17) (hy.keep he17)) (fun v18 w18 hq => ?_))))))))))))))))))))))
      obtain ⟨he18, c18, rfl, s18, s18'⟩ := hq
      refine L.op rfl rfl (O.move rfl (L.op rfl rfl (O.extract rfl rfl (L.op rfl rfl (O.extract rfl rfl (L.op rfl rfl (O.assign rfl (L.op rfl rfl (O.assign rfl (L.nil (T.seq (T.region (L.op rfl rfl (O.move rfl (L.op rfl rfl (O.move rfl (L.op rfl rfl (O.call (xs := [.tmp 93, .tmp 94]) Tryd.call33 rfl rfl (RSame_calls 0 0 p q xs ys w18 (hx.keep (he17.trans he18)) (hy.keep (he17.trans he18))) (fun v19 w19 hq => ?_)))))))))))))))))))
      obtain ⟨he19, c19, rfl, s19, s19'⟩ := hq
      refine L.op rfl rfl (O.move rfl (L.op rfl rfl (O.extract rfl rfl (L.op rfl rfl (O.extract rfl rfl (L.op rfl rfl (O.assign rfl (L.op rfl rfl (O.assign rfl (L.nil (T.seq (T.region (L.op rfl rfl (O.move rfl (L.op rfl rfl (O.move rfl (L.op rfl rfl (O.neq_bool_f Tryd.runUnderlying4 rfl rfl (same_c s18 s18' s19 s19') (L.op rfl rfl (O.move rfl (L.op rfl rfl (O.move rfl (L.op rfl rfl (O.move rfl (L.op rfl rfl (O.neq_f rfl rfl rfl (L.op rfl rfl (O.pick_false rfl rfl (L.nil (T.cond_false rfl (T.skip (T.blk (T.region (L.op rfl rfl (O.add64 rfl rfl (by omega) (L.op rfl rfl (O.move rfl (L.nil (?_)))))))))))))))))))))))))))))))))))))))
      refine T.again (j + 1) (by omega) ⟨rfl, rfl, rfl, rfl, rfl, rfl, rfl, rfl, trivial⟩ ⟨by omega, (he17.trans he18).trans he19⟩
    · refine L.nil (T.seq (T.cond_false rfl (T.exit rfl (T.blk (T.region (L.op rfl rfl (O.add64 rfl rfl (by omega) (L.op rfl rfl (O.move rfl (L.nil (T.again (i + 1) (by omega) ⟨rfl, rfl, rfl, rfl, trivial⟩ ⟨by omega, he17⟩)))))))))))
  · refine L.nil (T.seq (T.cond_false rfl (T.exit rfl (T.seq (T.seq (?_))))))
    refine T.anyE mixed 30 [11] rfl [.is _, .is _, .is _, .is _, .is _, .is _, .is _, .is _, .is _, .is _, .is _, .is _, .is _, .is _, .is _, .is _, .is _, .is _, .is _, .is _, .is _, .is _, .is _, .is _, .is _, .is _, .is _, .is _, .is _, .is _] [[], [0], [1], [], [3], [4], [2, 5], [], [7], [8], [], [10], [11], [9, 12], [], [14], [15], [], [17], [18], [16, 19], [], [21], [22], [], [24], [25], [23, 26], [6, 13, 20, 27], []] [[], [0], [0, 1], [], [3], [3, 4], [0, 1, 2, 3, 4, 5], [], [7], [7, 8], [], [10], [10, 11], [7, 8, 9, 10, 11, 12], [], [14], [14, 15], [], [17], [17, 18], [14, 15, 16, 17, 18, 19], [], [21], [21, 22], [], [24], [24, 25], [21, 22, 23, 24, 25, 26], [0, 1, 2, 3, 4, 5, 6, 7, 8, 9, 10, 11, 12, 13, 14, 15, 16, 17, 18, 19, 20, 21, 22, 23, 24, 25, 26, 27], []] (by kernel_rfl) (by kernel_rfl) rfl (by kernel_rfl) trivial ⟨fun wx hx => Ob.op rfl (O.move rfl ⟨Keep.refl _ _, rfl⟩),
        fun wx hx => Ob.op rfl (O.indexAddr Tryd.runUnderlying64 Tryd.sizeOf35 rfl rfl (hS12.keep (he13.trans hx)) (by omega) (by omega) ⟨Keep.refl _ _, rfl⟩),
        fun wx hx => Ob.op rfl (O.load Tryd.isAgg35 rfl (Sl.cell (hS12.keep (he13.trans hx)) (j := (0 : Int).toNat * 1) rfl) ⟨Keep.refl _ _, rfl⟩),
        fun wx hx => Ob.op rfl (O.move rfl ⟨Keep.refl _ _, rfl⟩),
        fun wx hx => Ob.op rfl (O.indexAddr Tryd.runUnderlying64 Tryd.sizeOf35 rfl rfl (hS12.keep (he13.trans hx)) (by omega) (by omega) ⟨Keep.refl _ _, rfl⟩),
        fun wx hx => Ob.op rfl (O.load Tryd.isAgg35 rfl (Sl.cell (hS12.keep (he13.trans hx)) (j := (1 : Int).toNat * 1) rfl) ⟨Keep.refl _ _, rfl⟩),
        fun wx hx => Ob.op rfl (O.build (v := .agg #[.slice o1 n1 c1, .slice o2 n2 c2]) (parts := [(0, .tmp 110), (1, .tmp 113)]) (vs := [(0, _), (1, _)]) rfl (fun w => by kernel_rfl) ⟨Keep.refl _ _, rfl⟩),
        fun wx hx => Ob.op rfl (O.move rfl ⟨Keep.refl _ _, rfl⟩),
        fun wx hx => Ob.op rfl (O.indexAddr Tryd.runUnderlying64 Tryd.sizeOf35 rfl rfl (hS12.keep (he13.trans hx)) (by omega) (by omega) ⟨Keep.refl _ _, rfl⟩),
        fun wx hx => Ob.op rfl (O.load Tryd.isAgg35 rfl (Sl.cell (hS12.keep (he13.trans hx)) (j := (2 : Int).toNat * 1) rfl) ⟨Keep.refl _ _, rfl⟩),
        fun wx hx => Ob.op rfl (O.move rfl ⟨Keep.refl _ _, rfl⟩),
        fun wx hx => Ob.op rfl (O.indexAddr Tryd.runUnderlying64 Tryd.sizeOf35 rfl rfl (hS12.keep (he13.trans hx)) (by omega) (by omega) ⟨Keep.refl _ _, rfl⟩),
        fun wx hx => Ob.op rfl (O.load Tryd.isAgg35 rfl (Sl.cell (hS12.keep (he13.trans hx)) (j := (0 : Int).toNat * 1) rfl) ⟨Keep.refl _ _, rfl⟩),
        fun wx hx => Ob.op rfl (O.build (v := .agg #[.slice oo n3 co, .slice o1 n1 c1]) (parts := [(0, .tmp 117), (1, .tmp 120)]) (vs := [(0, _), (1, _)]) rfl (fun w => by kernel_rfl) ⟨Keep.refl _ _, rfl⟩),
        fun wx hx => Ob.op rfl (O.move rfl ⟨Keep.refl _ _, rfl⟩),
        fun wx hx => Ob.op rfl (O.indexAddr Tryd.runUnderlying64 Tryd.sizeOf35 rfl rfl (hS12.keep (he13.trans hx)) (by omega) (by omega) ⟨Keep.refl _ _, rfl⟩),
        fun wx hx => Ob.op rfl (O.load Tryd.isAgg35 rfl (Sl.cell (hS12.keep (he13.trans hx)) (j := (3 : Int).toNat * 1) rfl) ⟨Keep.refl _ _, rfl⟩),
        fun wx hx => Ob.op rfl (O.move rfl ⟨Keep.refl _ _, rfl⟩),
        fun wx hx => Ob.op rfl (O.indexAddr Tryd.runUnderlying64 Tryd.sizeOf35 rfl rfl (hS12.keep (he13.trans hx)) (by omega) (by omega) ⟨Keep.refl _ _, rfl⟩),
        fun wx hx => Ob.op rfl (O.load Tryd.isAgg35 rfl (Sl.cell (hS12.keep (he13.trans hx)) (j := (1 : Int).toNat * 1) rfl) ⟨Keep.refl _ _, rfl⟩),
        fun wx hx => Ob.op rfl (O.build (v := .agg #[.slice o4 n4 c4, .slice o2 n2 c2]) (parts := [(0, .tmp 124), (1, .tmp 127)]) (vs := [(0, _), (1, _)]) rfl (fun w => by kernel_rfl) ⟨Keep.refl _ _, rfl⟩),
        fun wx hx => Ob.op rfl (O.move rfl ⟨Keep.refl _ _, rfl⟩),
        fun wx hx => Ob.op rfl (O.indexAddr Tryd.runUnderlying64 Tryd.sizeOf35 rfl rfl (hS12.keep (he13.trans hx)) (by omega) (by omega) ⟨Keep.refl _ _, rfl⟩),
        fun wx hx => Ob.op rfl (O.load Tryd.isAgg35 rfl (Sl.cell (hS12.keep (he13.trans hx)) (j := (0 : Int).toNat * 1) rfl) ⟨Keep.refl _ _, rfl⟩),
        fun wx hx => Ob.op rfl (O.move rfl ⟨Keep.refl _ _, rfl⟩),
        fun wx hx => Ob.op rfl (O.indexAddr Tryd.runUnderlying64 Tryd.sizeOf35 rfl rfl (hS12.keep (he13.trans hx)) (by omega) (by omega) ⟨Keep.refl _ _, rfl⟩),
        fun wx hx => Ob.op rfl (O.load Tryd.isAgg35 rfl (Sl.cell (hS12.keep (he13.trans hx)) (j := (4 : Int).toNat * 1) rfl) ⟨Keep.refl _ _, rfl⟩),
        fun wx hx => Ob.op rfl (O.build (v := .agg #[.slice o1 n1 c1, .slice ro m5 rcap]) (parts := [(0, .tmp 131), (1, .tmp 134)]) (vs := [(0, _), (1, _)]) rfl (fun w => by kernel_rfl) ⟨Keep.refl _ _, rfl⟩),
        fun wx hx => Ob.op rfl (O.build (v := .agg #[.slice o1 n1 c1, .slice o2 n2 c2, .slice oo n3 co, .slice o1 n1 c1, .slice o4 n4 c4, .slice o2 n2 c2, .slice o1 n1 c1, .slice ro m5 rcap]) (parts := [(0, .tmp 114), (1, .tmp 121), (2, .tmp 128), (3, .tmp 135)]) (vs := [(0, _), (1, _), (2, _), (3, _)]) rfl (fun w => by kernel_rfl) ⟨Keep.refl _ _, rfl⟩),
        fun wx hx => Ob.op rfl (O.move rfl ⟨Keep.refl _ _, rfl⟩),
        trivial⟩ (fun w14 he14 => ?_)
    refine L.nil (?_)
    have hpair : ∀ t : Nat, t < 4 → ∃ p q xs ys, ([Value.slice o1 n1 c1, .slice o2 n2 c2, .slice oo n3 co, .slice o1 n1 c1, .slice o4 n4 c4, .slice o2 n2 c2, .slice o1 n1 c1, .slice ro m5 rcap].drop ((t : Int).toNat * 2)).take 2 = [p, q] ∧ p.oneCell' = true ∧ q.oneCell' = true ∧ Ints .i64 0 w12 p xs ∧ Ints .i64 0 w12 q ys := fun t ht => by
      rcases (show t = 0 ∨ t = 1 ∨ t = 2 ∨ t = 3 by omega) with (rfl|rfl|rfl|rfl)
      · exact ⟨_, _, _, _, rfl, rfl, rfl, h1.keep he12, h2.keep he12⟩
      · exact ⟨_, _, _, _, rfl, rfl, rfl, h3.keep he12, h1.keep he12⟩
      · exact ⟨_, _, _, _, rfl, rfl, rfl, h4.keep he12, h2.keep he12⟩
      · exact ⟨_, _, _, _, rfl, rfl, rfl, h1.keep he12, h5.keep he12⟩
    refine T.block (?_)
    refine T.loop (σ := Nat) (fun t => [(136, .agg [Value.slice o1 n1 c1, .slice o2 n2 c2, .slice oo n3 co, .slice o1 n1 c1, .slice o4 n4 c4, .slice o2 n2 c2, .slice o1 n1 c1, .slice ro m5 rcap].toArray), (137, .int .i64 t)]) (fun t w' => t ≤ 4 ∧ Ext w12 w') (fun t => 4 - t) (0) ⟨rfl, rfl, trivial⟩ ⟨Nat.zero_le _, he13.trans he14⟩ ?_
    rintro t w15 ⟨ht, he15⟩
    refine T.seq (T.region (L.op rfl rfl (O.lss_s rfl rfl (fun hlt3 => ?_) (fun hlt3 => ?_))))
    · refine L.nil (?_)
      obtain ⟨p, q, xs, ys, hpq, hp1, hq1, hx, hy⟩ := hpair t (by omega)
      refine T.seq (T.cond_true rfl (T.skip (T.seq (T.block (T.seq (T.region (L.op rfl rfl (O.index_agg_to Tryd.runUnderlying68 Tryd.isAgg67 Tryd.sizeOf67 rfl rfl (by omega) (by omega) hpq (L.op rfl rfl (O.alloc Tryd.zeroValue67 (fun b16 w16 hb16 hz16 he16 hB16 => ?_)))))))))))
      refine L.op rfl rfl (O.storeAgg Tryd.sizeOf67 rfl rfl rfl hB16 (Nat.le_refl _) (by intro u hu; simp at hu; rcases hu with (rfl|rfl); exact hp1; exact hq1) (fun w17 hu17 hB17 => ?_))
      have hB17 : Blk w17 b16 [p, q] 67 := hB17
      have he1517 : Ext w15 w17 := he16.upd hu17 (.inr (by omega))
      refine L.nil (T.seq (T.region (L.op rfl rfl (O.indexAddr_arr Tryd.runUnderlying67 Tryd.sizeOf35 rfl rfl (by decide) (by decide) (L.op rfl rfl (O.load Tryd.isAgg35 rfl (Blk.at hB17 rfl) (L.op rfl rfl (O.indexAddr_arr Tryd.runUnderlying67 Tryd.sizeOf35 rfl rfl (by decide) (by decide) (L.op rfl rfl (O.load Tryd.isAgg35 rfl (Blk.at hB17 rfl) (L.op rfl rfl (O.call (xs := [.tmp 142, .tmp 144]) Tryd.call34 rfl rfl (Apart_calls 0 0 p q xs ys w17 (hx.keep (he15.trans he1517)) (hy.keep (he15.trans he1517))) (fun v18 w18 hq => ?_)))))))))))))
      obtain ⟨rfl, he18⟩ := hq
      refine L.op rfl rfl (O.move rfl (L.op rfl rfl (O.extract rfl rfl (L.op rfl rfl (O.extract rfl rfl (L.op rfl rfl (O.assign rfl (L.op rfl rfl (O.assign rfl (L.nil (T.seq (T.region (L.op rfl rfl (O.indexAddr_arr Tryd.runUnderlying67 Tryd.sizeOf35 rfl rfl (by decide) (by decide) (L.op rfl rfl (O.load Tryd.isAgg35 rfl (Blk.at (hB17.keep he18 (Nat.zero_le _)) rfl) (L.op rfl rfl (O.indexAddr_arr Tryd.runUnderlying67 Tryd.sizeOf35 rfl rfl (by decide) (by decide) (L.op rfl rfl (O.load Tryd.isAgg35 rfl (Blk.at (hB17.keep he18 (Nat.zero_le _)) rfl) (L.op rfl rfl (O.call (xs := [.tmp 150, .tmp 152]) Tryd.call35 rfl rfl (RApart_calls 0 0 p q xs ys w18 (hx.keep ((he15.trans he1517).trans he18)) (hy.keep ((he15.trans he1517).trans he18))) (fun v19 w19 hq => ?_)))))))))))))))))))))))
      obtain ⟨rfl, he19⟩ := hq
      refine L.op rfl rfl (O.move rfl (L.op rfl rfl (O.extract rfl rfl (L.op rfl rfl (O.extract rfl rfl (L.op rfl rfl (O.assign rfl (L.op rfl rfl (O.assign rfl (L.nil (T.seq (T.region (L.op rfl rfl (O.move rfl (L.op rfl rfl (O.move rfl (L.op rfl rfl (O.neq_f rfl rfl rfl (L.op rfl rfl (O.move rfl (L.op rfl rfl (O.move rfl (L.op rfl rfl (O.move rfl (L.op rfl rfl (O.neq_f rfl rfl rfl (L.op rfl rfl (O.pick_false rfl rfl (L.nil (T.cond_false rfl (T.skip (T.blk (T.region (L.op rfl rfl (O.add64 rfl rfl (by omega) (L.op rfl rfl (O.move rfl (L.nil (?_)))))))))))))))))))))))))))))))))))))))
      refine T.again (t + 1) (by omega) ⟨rfl, rfl, trivial⟩ ⟨by omega, ((he15.trans he1517).trans he18).trans he19⟩
    · refine L.nil (T.seq (T.cond_false rfl (T.exit rfl (T.seq (T.region (L.op rfl rfl (O.assign rfl (L.nil (T.ret1 Tryd.results5 rfl ⟨rfl, he012.trans he15⟩)))))))))

end Go.Proofs.YthjdljbghjelfaaDoor
set_option linter.unusedVariables false
set_option linter.unusedSimpArgs false
set_option maxRecDepth 20000
namespace Go.Proofs.YthjdljbghjelfaaDoor
open Go Go.E RowKit ChangeShapes WideShapes
attribute [local irreducible] Go.E.T Go.E.L Go.E.O Go.E.Ob

set_option maxRecDepth 100000 in
theorem planNames_lifted (os : Os) (started : os.Started) (H : Type) (enc : TypeId × Value → H) :
    ReturnsInHanded {} Tryd.checked os 5 .any (fun w args => (Rows.planNamesSpec.pre enc Tryd.prog Tryd.f5 [] false w args ∧ laidMetH Tryd.prog laidL w) ∧ sizedMet enc Tryd.prog Tryd.f5 (OpenSpec.ofChange Rows.planNamesSpec) false w args)
      (Rows.planNamesSpec.post enc Tryd.prog Tryd.f5 false true false false) := by
  refine law_lifted (C := Tryd.checked) (X := fun w _ => laidMetH Tryd.prog laidL w) (tb := 4) (ts := [34, 25, 25, 27]) (fun _ _ _ hh h => h.of_heap hh) own started (by kernel_rfl) Tryd.func5
    rfl Tryd.params5 (fun ds h => ?_) (by kernel_rfl) Tryd.underlying4 laidOut (by kernel_rfl)
    (ChangeSpec.witness_at (enc := enc) (C := Tryd.checked) (os := os) (X := fun w _ => laidMetH Tryd.prog laidL w) false (laidWorld os) #[.slice none 0 0, .agg #[.int .u8 0, .slice none 0 0, .slice none 0 0, .slice none 0 0, .int .u8 0], .agg #[.int .u8 0, .slice none 0 0, .slice none 0 0, .slice none 0 0, .int .u8 0], .agg #[.int .u8 0, .int .u8 0, .int .i64 0]] 8 rfl (by kernel_rfl) (by kernel_rfl) (by kernel_rfl) (by kernel_rfl) (by kernel_rfl) (laidWorld_met os _)) ?_
  · obtain ⟨a0, a1, a2, a3, rfl⟩ := four_of h
    rfl
  · intro W vs hl ha hL
    obtain ⟨a0, a1, a2, a3, rfl⟩ := four_of hl
    obtain ⟨css, hs, hc⟩ := (ha 0 _ _ rfl rfl).slice Tryd.underlying34
    obtain ⟨rs, hR, _⟩ := sl_ints Tryd.underlying3 c3 hs hc
    obtain ⟨N, K, pv, mv, lv, ps, ls, ms, rfl, hD⟩ := draft_of (ha 1 _ _ rfl rfl)
    obtain ⟨N2, K2, pv2, mv2, lv2, ps2, ls2, ms2, rfl, hD2⟩ := draft_of (ha 2 _ _ rfl rfl)
    obtain ⟨B, A, n, rfl, b0, b1, c0, c1⟩ := bend_of (ha 3 _ _ rfl rfl)
    exact PlanNames_calls N K N2 K2 B A n _ pv mv lv pv2 mv2 lv2 rs ps ls ps2 ls2 ms ms2 W hR hD hD2 b0 b1 c0 c1 (tab_of_laid hL)
theorem planNames_over : Rows.PlanNamesSaid :=
  OpenClaim.holds_of_wide 5 Tryd.f5 rfl rfl rfl rfl rfl rfl rfl ⟨rfl, rfl, rfl, rfl, rfl⟩ rfl rfl rfl rfl rfl (by kernel_rfl) Tryd.func5 (by kernel_rfl)
    (of_decide_eq_true (by kernel_rfl)) (by unfold Func.isWrapper; first | (rw [if_pos (by decide +kernel)]; kernel_rfl) | (rw [if_neg (by decide +kernel)]; exact ⟨rfl, rfl⟩))
    (fun os started H enc _ => planNames_lifted os started H enc)
theorem planNames_holds : Rows.PlanNamesCardSaid :=
  Claim7.holds_tied_plain_at .later [] [.data] true (true, "70ce77e6e465cb6f7bb54785c29c1fee9bd557921552f81cc09119473f9a84dc") false
    planNames_over (fun _ h => by cases h) (by kernel_rfl) (fun _ h => by cases h) planNames_row_tie rfl ⟨rfl, rfl⟩ (by kernel_rfl) rfl
    (fun f fn hf hfn => by
      obtain rfl : f = 5 := Option.some.inj ((show Tryd.prog.funcNamed Rows.planNamesRow.func = some 5 by kernel_rfl).symm.trans hf) |>.symm
      obtain rfl : fn = Tryd.f5 := (Option.some.inj (Tryd.func5.symm.trans hfn)).symm
      exact ⟨by kernel_rfl, fun j t ht => by
        rw [Tryd.params5] at ht
        have hall : (([34, 25, 25, 27] : List TypeId).all fun t => !Tryd.prog.wantsStandIn t) = true := by kernel_rfl
        have := List.all_eq_true.1 hall t (List.mem_of_getElem? (i := j) (by simpa using ht))
        have h2 : Tryd.prog.wantsStandIn t = false := by simpa using this
        exact h2⟩)
    (by kernel_rfl)
#print axioms planNames_holds
end Go.Proofs.YthjdljbghjelfaaDoor
