/-
  PlanReturns returns true for every input, and each argument reads behind the call as it read before. Conditions: the listed variable reads as the program's text lays it (tied by the card).
-/
import Derived.Test.YthjdljbghjelfaaDoorMg
import Derived.Test.YthjdljbghjelfaaDoorMh
import Derived.Test.YthjdljbghjelfaaDoorCards
set_option linter.unusedVariables false
set_option linter.unusedSimpArgs false
set_option maxRecDepth 20000
namespace Go.Proofs.YthjdljbghjelfaaDoor
open Go Go.E
attribute [local irreducible] Go.E.T Go.E.L Go.E.O Go.E.Ob

theorem PlanReturns_calls (N K : Int) (pv mv lv : Value) (ps ls : List Int) (ms : List (Int × Int)) (w : World) (hD : DraftOk w N K pv mv lv ps ls ms) (hT : Tab w) :
    Calls Tryd.prog 6 #[dV N pv mv lv K] w (Ret fun v w' => v = .bool true ∧ Ext w w') := by
  refine T.enter (vs := [dV N pv mv lv K]) Tryd.func6 rfl Tryd.ntmps6 rfl ?_
  refine T.seq (T.region (L.op rfl rfl (O.box rfl (fun b1 w1 hb1 hz1 he1 hB1 => ?_))))
  refine L.op rfl rfl (O.assign rfl (L.nil (T.seq (T.seq (T.region (L.op rfl rfl (O.call (xs := []) Tryd.call10 rfl rfl (works_calls w1 (hT.keep he1)) (fun v2 w2 hq => ?_))))))))
  obtain ⟨rfl, he2⟩ := hq
  refine L.op rfl rfl (O.not rfl (L.nil (T.cond_false rfl (T.skip (T.seq (T.region (L.op rfl rfl (O.loadAgg Tryd.isAgg25 Tryd.sizeOf25 rfl rfl ((hB1.keep he2 (Nat.zero_le _)).row) (?_)))))))))
  have hD2 := hD.keep (he1.trans he2)
  refine L.op rfl rfl (O.call (xs := [.tmp 14]) Tryd.call36 rfl rfl (Graph_calls 0 0 N K pv mv lv ps ms w2 hD2.n0 hD2.n1 hD2.p hD2.po hD2.m hD2.mo) (fun v3 w3 hq => ?_))
  obtain ⟨he3, pe, rfl, hpe3⟩ := hq
  obtain ⟨oe, ce, rfl, _, _⟩ := Sl.val hpe3
  refine L.op rfl rfl (O.alloc Tryd.zeroValue33 (fun b4 w4 hb4 hz4 he4 hB4 => ?_))
  refine L.op rfl rfl (O.storeAgg Tryd.sizeOf33 rfl rfl rfl hB4 (Nat.le_refl _) (by intro u hu; simp at hu; rcases hu with (rfl|rfl) <;> rfl) (fun w5 hu5 hB5 => ?_))
  have hB5 : Blk w5 b4 [.int .i64 (unitsOf N), .slice oe (edgesOf N ps ms).length ce] 33 := hB5
  have he35 : Ext w3 w5 := he4.upd hu5 (.inr (by omega))
  have hz4' := he4.size
  have hz3' := he3.size
  have hz2' := he2.size
  refine L.nil (T.seq (T.region (L.op rfl rfl (O.loadAgg Tryd.isAgg25 Tryd.sizeOf25 rfl rfl (((hB1.keep (he2.trans he3) (Nat.zero_le _)).keep he35 (Nat.zero_le _)).row) (?_)))))
  have hD5 := hD2.keep (he3.trans he35)
  refine L.op rfl rfl (O.call (xs := [.tmp 17]) Tryd.call37 rfl rfl (Plan_calls 0 0 N K pv mv lv ps ls w5 hD5.n0 hD5.n1 hD5.k0 hD5.k1 hD5.p hD5.po hD5.l hD5.lo) (fun v6 w6 hq => ?_))
  obtain ⟨he6, pl, rfl, hpl6⟩ := hq
  obtain ⟨op, cp, rfl, _, _⟩ := Sl.val hpl6
  obtain ⟨k, hk, hcon⟩ := plan_contig (K := K) hD.n0 hD.k0 hD.po ls ms
  have hun : 1 ≤ unitsOf N ∧ unitsOf N ≤ 9 := by have := hD.n0; unfold unitsOf; omega
  obtain ⟨n, hn⟩ : ∃ n : Nat, unitsOf N = n := ⟨(unitsOf N).toNat, by omega⟩
  have hes6 : Pairs 0 w6 (.slice oe (edgesOf N ps ms).length ce) (edgesOf N ps ms) := (hpe3.mono (Nat.zero_le _)).keep (he35.trans he6)
  have hx6 : Ints .i64 0 w6 (.slice op (planOf N K ps ls).1.length cp) (planOf N K ps ls).1 := hpl6.mono (Nat.zero_le _)
  have hB6 := hB5.keep he6 (Nat.zero_le _)
  have hT6 := hT.keep ((((he1.trans he2).trans he3).trans he35).trans he6)
  have he06 := (((he1.trans he2).trans he3).trans he35).trans he6
  rw [hn] at hB6 hcon hun
  rw [hk]
  clear hpl6 hpe3 hB5 hB4 hk
  generalize (edgesOf N ps ms).length = en at hes6 hB6
  generalize (planOf N K ps ls).1.length = pn at hx6
  generalize edgesOf N ps ms = es at hes6 hcon
  generalize (planOf N K ps ls).1 = xs at hx6 hcon
  refine L.op rfl rfl (O.move rfl (L.op rfl rfl (O.extract rfl rfl (L.op rfl rfl (O.extract rfl rfl (L.op rfl rfl (O.assign rfl (L.op rfl rfl (O.assign rfl (L.nil (T.seq (T.seq (?_)))))))))))))
  refine T.anyE mixed 7 [3, 4, 5] rfl [.such (TruthF true), .is _, .is _, .is _, .is (.tuple #[.bool true, .int .i64 0]), .is _, .is _] [[], [], [], [], [1, 2, 3], [4], [4]] [[], [], [], [], [0, 1, 2, 3], [0, 1, 2, 3, 4], [0, 1, 2, 3, 4], [0, 1, 2, 3, 4, 5, 6], [0, 1, 2, 3, 4, 5, 6, 7]] (by kernel_rfl) (by kernel_rfl) rfl (by kernel_rfl) ⟨TruthF.st, trivial⟩ ⟨fun wx hx => Ob.op rfl (O.call (xs := [.const (.bool true)]) Tryd.call38 rfl rfl (truth_calls true wx) (fun v wy h => ⟨h.1, _, h.2.1, h.2.2⟩)),
      fun wx hx => Ob.op rfl (O.loadAgg Tryd.isAgg33 Tryd.sizeOf33 rfl rfl ((hB6.keep hx (Nat.zero_le _)).row) ⟨Keep.refl _ _, rfl⟩),
      fun wx hx => Ob.op rfl (O.move rfl ⟨Keep.refl _ _, rfl⟩),
      fun wx hx => Ob.op rfl (O.move rfl ⟨Keep.refl _ _, rfl⟩),
      fun wx hx => Ob.op rfl (O.call (xs := [.tmp 22, .tmp 23, .tmp 24]) Tryd.call14 rfl rfl (Contig_calls 0 0 n k _ _ es xs wx (hes6.keep hx) (hx6.keep hx) (hT6.keep hx)) (fun v wy h => ⟨h.2, by rw [h.1, hcon.b, hcon.ok]; rfl⟩)),
      fun wx hx => Ob.op rfl (O.extract rfl rfl ⟨Keep.refl _ _, rfl⟩),
      fun wx hx => Ob.op rfl (O.extract rfl rfl ⟨Keep.refl _ _, rfl⟩),
      trivial⟩ (fun w7 he7 v21 hv21 => ?_)
  obtain ⟨b21, rfl, hF21⟩ := hv21
  refine L.op rfl rfl (O.call (xs := [.tmp 26, .tmp 27]) Tryd.call64 rfl rfl (truth1_calls b21 true true 0 w7 hF21) (fun v8 w8 hq => ?_))
  obtain ⟨rfl, hw8⟩ := hq
  subst hw8
  refine L.op rfl rfl (O.not rfl (L.nil (T.cond_false rfl (T.skip (T.seq (T.region (L.op rfl rfl (O.loadAgg Tryd.isAgg33 Tryd.sizeOf33 rfl rfl ((hB6.keep he7 (Nat.zero_le _)).row) (L.op rfl rfl (O.move rfl (L.op rfl rfl (O.move rfl (L.op rfl rfl (O.call (xs := [.tmp 31, .tmp 32, .tmp 33]) Tryd.call21 rfl rfl (Moves_calls 0 0 n k _ _ es xs _ (hes6.keep he7) (hx6.keep he7) (hT6.keep he7)) (fun v9 w9 hq => ?_)))))))))))))))
  obtain ⟨he9, lm, rfl, hM9⟩ := hq
  rw [hcon.ok]
  rw [if_pos hcon.ok, Int.toNat_natCast, Int.toNat_natCast] at hM9
  refine L.op rfl rfl (O.move rfl (L.op rfl rfl (O.extract rfl rfl (L.op rfl rfl (O.extract rfl rfl (L.op rfl rfl (O.assign rfl (L.op rfl rfl (O.assign rfl (L.nil (T.seq (T.seq (T.region (L.op rfl rfl (O.move rfl (L.op rfl rfl (O.neq_f rfl rfl rfl (?_))))))))))))))))))
  have he69 := he7.trans he9
  have hM9' : MvSl 0 w9 lm (movesOf es xs k n) := Sl.mono hM9 (Nat.zero_le _)
  have hle9 := Sl.le hM9'
  refine L.nil (T.cond_false rfl (T.skip (T.seq (T.seq (T.region (L.op rfl rfl (O.move rfl (L.op rfl rfl (O.len Tryd.runUnderlying52 rfl (Sl.val hM9') (L.op rfl rfl (O.move rfl (L.nil (T.block (?_))))))))))))))
  refine T.loop (σ := Nat) (fun i => [(3, .pointer (some ⟨b4, 0, none⟩)), (4, .slice op pn cp), (5, .int .i64 k), (39, lm), (40, .int .i64 ((movesOf es xs k n).length : Int)), (41, .int .i64 i)]) (fun i w' => i ≤ (movesOf es xs k n).length ∧ Ext w9 w') (fun i => (movesOf es xs k n).length - i) (0) ⟨rfl, rfl, rfl, rfl, rfl, rfl, trivial⟩ ⟨Nat.zero_le _, Keep.refl _ _⟩ ?_
  rintro i w12 ⟨hi, he12⟩
  refine T.seq (T.region (L.op rfl rfl (O.lss_s rfl rfl (fun hlt => ?_) (fun hlt => ?_))))
  · refine L.nil (?_)
    have hil : i < (movesOf es xs k n).length := by omega
    have hmem : (movesOf es xs k n).getD i (0, 0, 0) ∈ movesOf es xs k n := by rw [getD_get hil]; exact List.getElem_mem hil
    obtain ⟨u, hm1, hun', hm2, d, hm3, hdk, hok⟩ := moves_mem hmem
    obtain ⟨c, hck, hxc, hcq, hokb, hsame⟩ := move_there hcon hun' hdk hok
    have hm : (movesOf es xs k n).getD i (0, 0, 0) = ((u : Int), (c : Int), (d : Int)) := Prod.ext hm1 (Prod.ext (hm2.trans hxc) hm3)
    have hM12 : MvSl 0 w12 lm (movesOf es xs k n) := Sl.keep hM9' he12
    have hrow := MvSl.row hM12 hil
    rw [hm] at hrow hmem
    have hap0 : applyErr n es xs k ((u : Int), (c : Int), (d : Int)) = 0 := applyErr_ok hcon.ok hmem
    have hlen := (planOk_of hcon.ok).len
    have hul : u < xs.length := by omega
    have hback : applyErr n es (xs.set u (d : Int)) k ((u : Int), (d : Int), (c : Int)) = 0 := applyErr_ok hcq.ok (by have := mem_allFrom hokb hck n 0 (Nat.zero_le _) (by omega); rwa [getD_setL hul, if_pos rfl] at this)
    have htwo : twoErr xs (xs.set u (d : Int)) = 0 := by
      have hp1 := planOk_of hcon.ok
      have hp2 := planOk_of hcq.ok
      have up : ∀ ys : List Int, labelsOk ys k = true → labelsOk ys 8 = true := fun ys h => by
        obtain ⟨a, b, e⟩ := labels_mem h
        have := hp1.eight
        exact labels_intro a b fun i hi => by have := e i hi; omega
      exact twoErr_ok ⟨up _ hp1.labels, up _ hp2.labels⟩ List.length_set.symm
    have hone := apart_one htwo (u := u) (fun j hj hne => by rw [getD_setL hul, if_neg (fun e => hne e.symm)])
    refine T.seq (T.cond_true rfl (T.skip (T.seq (T.block (T.seq (T.region (L.op rfl rfl (O.indexAddr Tryd.runUnderlying52 Tryd.sizeOf51 rfl rfl hM12 (by omega) (by omega) (L.op rfl rfl (O.loadAgg Tryd.isAgg51 Tryd.sizeOf51 rfl rfl hrow (L.op rfl rfl (O.alloc Tryd.zeroValue51 (fun b13 w13 hb13 hz13 he13 hB13 => ?_)))))))))))))
    refine L.op rfl rfl (O.storeAgg Tryd.sizeOf51 rfl rfl rfl hB13 (Nat.le_refl _) (by intro u hu; simp at hu; rcases hu with (rfl|rfl|rfl) <;> rfl) (fun w14 hu14 hB14 => ?_))
    have hM14 : Blk w14 b13 [.int .i64 (u : Int), .int .i64 (c : Int), .int .i64 (d : Int)] 51 := hB14
    have he1214 : Ext w12 w14 := he13.upd hu14 (.inr (by omega))
    have he614 := (he69.trans he12).trans he1214
    refine L.nil (T.seq (T.region (L.op rfl rfl (O.loadAgg Tryd.isAgg33 Tryd.sizeOf33 rfl rfl ((hB6.keep he614 (Nat.zero_le _)).row) (L.op rfl rfl (O.move rfl (L.op rfl rfl (O.move rfl (L.op rfl rfl (O.loadAgg Tryd.isAgg51 Tryd.sizeOf51 rfl rfl hM14.row (L.op rfl rfl (O.call (xs := [.tmp 46, .tmp 47, .tmp 48, .tmp 49]) Tryd.call24 rfl rfl (Apply_calls 0 0 n k ((u : Int), (c : Int), (d : Int)) _ _ es xs w14 (hes6.keep he614) (hx6.keep he614) (hT6.keep he614)) (fun v15 w15 hq => ?_)))))))))))))
    obtain ⟨he15, lq, rfl, hq⟩ := hq
    rw [hap0]
    rw [applied, if_pos hap0] at hq
    have hq15 : Ints .i64 0 w15 lq (xs.set u (d : Int)) := hq.mono (Nat.zero_le _)
    have hB15 := hB6.keep (he614.trans he15) (Nat.zero_le _)
    have hes15 := hes6.keep (he614.trans he15)
    have hx15 := hx6.keep (he614.trans he15)
    have hT15 := hT6.keep (he614.trans he15)
    have hM15 := hM14.keep he15 (Nat.zero_le _)
    have he1215 := he1214.trans he15
    rcases hone with hap | hap
    · refine L.op rfl rfl (O.move rfl (L.op rfl rfl (O.extract rfl rfl (L.op rfl rfl (O.extract rfl rfl (L.op rfl rfl (O.assign rfl (L.op rfl rfl (O.assign rfl (L.nil (T.seq (?_))))))))))))
      refine T.anyE mixed 48 [11, 3, 10, 5, 4, 9] rfl (.is _ :: .is _ :: .is _ :: .such (TruthF true) :: .is _ :: .is _ :: .is _ :: .is (.tuple #[.bool true, .int .i64 0]) :: .is _ :: .is _ :: .is (.bool true) :: .is _ :: .is _ :: .is _ :: .is _ :: .such (IsF xs) :: .is _ :: .is _ :: .is _ :: .is _ :: .is _ :: .is _ :: .is _ :: .is _ :: .is _ :: .is _ :: .such (LE xs 0) :: .such (IntsF xs) :: .is (.int .i64 0) :: .is (.bool true) :: .is _ :: .is _ :: .is _ :: .such (NumF 1) :: .is _ :: .is _ :: .is (.tuple #[.int .i64 0, .int .i64 0]) :: .is _ :: .is _ :: .is (.bool false) :: .is _ :: .is _ :: .such (NumF 0) :: .is _ :: .is _ :: .is (.tuple #[.int .i64 0, .int .i64 0]) :: .is _ :: .is _ :: []) ([] :: [0] :: [1] :: [2] :: [2] :: [2] :: [2] :: [4, 5, 6, 2] :: [7, 2] :: [7, 2] :: [3, 8, 9, 2] :: [10, 2] :: [2, 11] :: [12] :: [13] :: [14, 13] :: [13] :: [13] :: [13] :: [13] :: [19, 13] :: [13] :: [21, 13] :: [13] :: [23, 13] :: [20, 22, 24, 13] :: [16, 17, 18, 25, 13] :: [26, 13] :: [26, 13] :: [15, 27, 28, 13] :: [29, 13] :: [13, 30] :: [31] :: [32] :: [32] :: [32] :: [34, 35, 32] :: [36, 32] :: [36, 32] :: [33, 37, 38, 32] :: [39, 32] :: [40, 32] :: [41] :: [41] :: [41] :: [43, 44, 41] :: [45, 41] :: [45, 41] :: []) ([] :: [0] :: [0, 1] :: [0, 1, 2] :: [0, 1, 2] :: [0, 1, 2] :: [0, 1, 2] :: [0, 1, 2, 3, 4, 5, 6] :: [0, 1, 2, 3, 4, 5, 6, 7] :: [0, 1, 2, 3, 4, 5, 6, 7] :: [0, 1, 2, 3, 4, 5, 6, 7, 8, 9] :: [0, 1, 2, 3, 4, 5, 6, 7, 8, 9, 10] :: [0, 1, 2, 3, 4, 5, 6, 7, 8, 9, 10, 11] :: [0, 1, 2, 3, 4, 5, 6, 7, 8, 9, 10, 11, 12] :: [0, 1, 2, 3, 4, 5, 6, 7, 8, 9, 10, 11, 12, 13] :: [0, 1, 2, 3, 4, 5, 6, 7, 8, 9, 10, 11, 12, 13, 14] :: [0, 1, 2, 3, 4, 5, 6, 7, 8, 9, 10, 11, 12, 13] :: [0, 1, 2, 3, 4, 5, 6, 7, 8, 9, 10, 11, 12, 13] :: [0, 1, 2, 3, 4, 5, 6, 7, 8, 9, 10, 11, 12, 13] :: [0, 1, 2, 3, 4, 5, 6, 7, 8, 9, 10, 11, 12, 13] :: [0, 1, 2, 3, 4, 5, 6, 7, 8, 9, 10, 11, 12, 13, 19] :: [0, 1, 2, 3, 4, 5, 6, 7, 8, 9, 10, 11, 12, 13] :: [0, 1, 2, 3, 4, 5, 6, 7, 8, 9, 10, 11, 12, 13, 21] :: [0, 1, 2, 3, 4, 5, 6, 7, 8, 9, 10, 11, 12, 13] :: [0, 1, 2, 3, 4, 5, 6, 7, 8, 9, 10, 11, 12, 13, 23] :: [0, 1, 2, 3, 4, 5, 6, 7, 8, 9, 10, 11, 12, 13, 19, 20, 21, 22, 23, 24] :: [0, 1, 2, 3, 4, 5, 6, 7, 8, 9, 10, 11, 12, 13, 14, 15, 16, 17, 18, 19, 20, 21, 22, 23, 24, 25] :: [0, 1, 2, 3, 4, 5, 6, 7, 8, 9, 10, 11, 12, 13, 14, 15, 16, 17, 18, 19, 20, 21, 22, 23, 24, 25, 26] :: [0, 1, 2, 3, 4, 5, 6, 7, 8, 9, 10, 11, 12, 13, 14, 15, 16, 17, 18, 19, 20, 21, 22, 23, 24, 25, 26] :: [0, 1, 2, 3, 4, 5, 6, 7, 8, 9, 10, 11, 12, 13, 14, 15, 16, 17, 18, 19, 20, 21, 22, 23, 24, 25, 26, 27, 28] :: [0, 1, 2, 3, 4, 5, 6, 7, 8, 9, 10, 11, 12, 13, 14, 15, 16, 17, 18, 19, 20, 21, 22, 23, 24, 25, 26, 27, 28, 29] :: (0 :: 1 :: 2 :: 3 :: 4 :: 5 :: 6 :: 7 :: 8 :: 9 :: 10 :: 11 :: 12 :: 13 :: 14 :: 15 :: 16 :: 17 :: 18 :: 19 :: 20 :: 21 :: 22 :: 23 :: 24 :: 25 :: 26 :: 27 :: 28 :: 29 :: 30 :: []) :: (0 :: 1 :: 2 :: 3 :: 4 :: 5 :: 6 :: 7 :: 8 :: 9 :: 10 :: 11 :: 12 :: 13 :: 14 :: 15 :: 16 :: 17 :: 18 :: 19 :: 20 :: 21 :: 22 :: 23 :: 24 :: 25 :: 26 :: 27 :: 28 :: 29 :: 30 :: 31 :: []) :: (0 :: 1 :: 2 :: 3 :: 4 :: 5 :: 6 :: 7 :: 8 :: 9 :: 10 :: 11 :: 12 :: 13 :: 14 :: 15 :: 16 :: 17 :: 18 :: 19 :: 20 :: 21 :: 22 :: 23 :: 24 :: 25 :: 26 :: 27 :: 28 :: 29 :: 30 :: 31 :: 32 :: []) :: (0 :: 1 :: 2 :: 3 :: 4 :: 5 :: 6 :: 7 :: 8 :: 9 :: 10 :: 11 :: 12 :: 13 :: 14 :: 15 :: 16 :: 17 :: 18 :: 19 :: 20 :: 21 :: 22 :: 23 :: 24 :: 25 :: 26 :: 27 :: 28 :: 29 :: 30 :: 31 :: 32 :: []) :: (0 :: 1 :: 2 :: 3 :: 4 :: 5 :: 6 :: 7 :: 8 :: 9 :: 10 :: 11 :: 12 :: 13 :: 14 :: 15 :: 16 :: 17 :: 18 :: 19 :: 20 :: 21 :: 22 :: 23 :: 24 :: 25 :: 26 :: 27 :: 28 :: 29 :: 30 :: 31 :: 32 :: []) :: (0 :: 1 :: 2 :: 3 :: 4 :: 5 :: 6 :: 7 :: 8 :: 9 :: 10 :: 11 :: 12 :: 13 :: 14 :: 15 :: 16 :: 17 :: 18 :: 19 :: 20 :: 21 :: 22 :: 23 :: 24 :: 25 :: 26 :: 27 :: 28 :: 29 :: 30 :: 31 :: 32 :: 33 :: 34 :: 35 :: []) :: (0 :: 1 :: 2 :: 3 :: 4 :: 5 :: 6 :: 7 :: 8 :: 9 :: 10 :: 11 :: 12 :: 13 :: 14 :: 15 :: 16 :: 17 :: 18 :: 19 :: 20 :: 21 :: 22 :: 23 :: 24 :: 25 :: 26 :: 27 :: 28 :: 29 :: 30 :: 31 :: 32 :: 33 :: 34 :: 35 :: 36 :: []) :: (0 :: 1 :: 2 :: 3 :: 4 :: 5 :: 6 :: 7 :: 8 :: 9 :: 10 :: 11 :: 12 :: 13 :: 14 :: 15 :: 16 :: 17 :: 18 :: 19 :: 20 :: 21 :: 22 :: 23 :: 24 :: 25 :: 26 :: 27 :: 28 :: 29 :: 30 :: 31 :: 32 :: 33 :: 34 :: 35 :: 36 :: []) :: (0 :: 1 :: 2 :: 3 :: 4 :: 5 :: 6 :: 7 :: 8 :: 9 :: 10 :: 11 :: 12 :: 13 :: 14 :: 15 :: 16 :: 17 :: 18 :: 19 :: 20 :: 21 :: 22 :: 23 :: 24 :: 25 :: 26 :: 27 :: 28 :: 29 :: 30 :: 31 :: 32 :: 33 :: 34 :: 35 :: 36 :: 37 :: 38 :: []) :: (0 :: 1 :: 2 :: 3 :: 4 :: 5 :: 6 :: 7 :: 8 :: 9 :: 10 :: 11 :: 12 :: 13 :: 14 :: 15 :: 16 :: 17 :: 18 :: 19 :: 20 :: 21 :: 22 :: 23 :: 24 :: 25 :: 26 :: 27 :: 28 :: 29 :: 30 :: 31 :: 32 :: 33 :: 34 :: 35 :: 36 :: 37 :: 38 :: 39 :: []) :: (0 :: 1 :: 2 :: 3 :: 4 :: 5 :: 6 :: 7 :: 8 :: 9 :: 10 :: 11 :: 12 :: 13 :: 14 :: 15 :: 16 :: 17 :: 18 :: 19 :: 20 :: 21 :: 22 :: 23 :: 24 :: 25 :: 26 :: 27 :: 28 :: 29 :: 30 :: 31 :: 32 :: 33 :: 34 :: 35 :: 36 :: 37 :: 38 :: 39 :: 40 :: []) :: (0 :: 1 :: 2 :: 3 :: 4 :: 5 :: 6 :: 7 :: 8 :: 9 :: 10 :: 11 :: 12 :: 13 :: 14 :: 15 :: 16 :: 17 :: 18 :: 19 :: 20 :: 21 :: 22 :: 23 :: 24 :: 25 :: 26 :: 27 :: 28 :: 29 :: 30 :: 31 :: 32 :: 33 :: 34 :: 35 :: 36 :: 37 :: 38 :: 39 :: 40 :: 41 :: []) :: (0 :: 1 :: 2 :: 3 :: 4 :: 5 :: 6 :: 7 :: 8 :: 9 :: 10 :: 11 :: 12 :: 13 :: 14 :: 15 :: 16 :: 17 :: 18 :: 19 :: 20 :: 21 :: 22 :: 23 :: 24 :: 25 :: 26 :: 27 :: 28 :: 29 :: 30 :: 31 :: 32 :: 33 :: 34 :: 35 :: 36 :: 37 :: 38 :: 39 :: 40 :: 41 :: []) :: (0 :: 1 :: 2 :: 3 :: 4 :: 5 :: 6 :: 7 :: 8 :: 9 :: 10 :: 11 :: 12 :: 13 :: 14 :: 15 :: 16 :: 17 :: 18 :: 19 :: 20 :: 21 :: 22 :: 23 :: 24 :: 25 :: 26 :: 27 :: 28 :: 29 :: 30 :: 31 :: 32 :: 33 :: 34 :: 35 :: 36 :: 37 :: 38 :: 39 :: 40 :: 41 :: []) :: (0 :: 1 :: 2 :: 3 :: 4 :: 5 :: 6 :: 7 :: 8 :: 9 :: 10 :: 11 :: 12 :: 13 :: 14 :: 15 :: 16 :: 17 :: 18 :: 19 :: 20 :: 21 :: 22 :: 23 :: 24 :: 25 :: 26 :: 27 :: 28 :: 29 :: 30 :: 31 :: 32 :: 33 :: 34 :: 35 :: 36 :: 37 :: 38 :: 39 :: 40 :: 41 :: 42 :: 43 :: 44 :: []) :: (0 :: 1 :: 2 :: 3 :: 4 :: 5 :: 6 :: 7 :: 8 :: 9 :: 10 :: 11 :: 12 :: 13 :: 14 :: 15 :: 16 :: 17 :: 18 :: 19 :: 20 :: 21 :: 22 :: 23 :: 24 :: 25 :: 26 :: 27 :: 28 :: 29 :: 30 :: 31 :: 32 :: 33 :: 34 :: 35 :: 36 :: 37 :: 38 :: 39 :: 40 :: 41 :: 42 :: 43 :: 44 :: 45 :: []) :: (0 :: 1 :: 2 :: 3 :: 4 :: 5 :: 6 :: 7 :: 8 :: 9 :: 10 :: 11 :: 12 :: 13 :: 14 :: 15 :: 16 :: 17 :: 18 :: 19 :: 20 :: 21 :: 22 :: 23 :: 24 :: 25 :: 26 :: 27 :: 28 :: 29 :: 30 :: 31 :: 32 :: 33 :: 34 :: 35 :: 36 :: 37 :: 38 :: 39 :: 40 :: 41 :: 42 :: 43 :: 44 :: 45 :: []) :: (0 :: 1 :: 2 :: 3 :: 4 :: 5 :: 6 :: 7 :: 8 :: 9 :: 10 :: 11 :: 12 :: 13 :: 14 :: 15 :: 16 :: 17 :: 18 :: 19 :: 20 :: 21 :: 22 :: 23 :: 24 :: 25 :: 26 :: 27 :: 28 :: 29 :: 30 :: 31 :: 32 :: 33 :: 34 :: 35 :: 36 :: 37 :: 38 :: 39 :: 40 :: 41 :: 42 :: 43 :: 44 :: 45 :: 46 :: 47 :: []) :: (0 :: 1 :: 2 :: 3 :: 4 :: 5 :: 6 :: 7 :: 8 :: 9 :: 10 :: 11 :: 12 :: 13 :: 14 :: 15 :: 16 :: 17 :: 18 :: 19 :: 20 :: 21 :: 22 :: 23 :: 24 :: 25 :: 26 :: 27 :: 28 :: 29 :: 30 :: 31 :: 32 :: 33 :: 34 :: 35 :: 36 :: 37 :: 38 :: 39 :: 40 :: 41 :: 42 :: 43 :: 44 :: 45 :: 46 :: 47 :: 48 :: []) :: (0 :: 1 :: 2 :: 3 :: 4 :: 5 :: 6 :: 7 :: 8 :: 9 :: 10 :: 11 :: 12 :: 13 :: 14 :: 15 :: 16 :: 17 :: 18 :: 19 :: 20 :: 21 :: 22 :: 23 :: 24 :: 25 :: 26 :: 27 :: 28 :: 29 :: 30 :: 31 :: 32 :: 33 :: 34 :: 35 :: 36 :: 37 :: 38 :: 39 :: 40 :: 41 :: 42 :: 43 :: 44 :: 45 :: 46 :: 47 :: 48 :: 49 :: []) :: (0 :: 1 :: 2 :: 3 :: 4 :: 5 :: 6 :: 7 :: 8 :: 9 :: 10 :: 11 :: 12 :: 13 :: 14 :: 15 :: 16 :: 17 :: 18 :: 19 :: 20 :: 21 :: 22 :: 23 :: 24 :: 25 :: 26 :: 27 :: 28 :: 29 :: 30 :: 31 :: 32 :: 33 :: 34 :: 35 :: 36 :: 37 :: 38 :: 39 :: 40 :: 41 :: 42 :: 43 :: 44 :: 45 :: 46 :: 47 :: 48 :: 49 :: 50 :: []) :: []) (by kernel_rfl) (by kernel_rfl) rfl (by kernel_rfl) ⟨TruthF.st, IsF.st, LE.st, IntsF.st, NumF.st, NumF.st, trivial⟩ ⟨fun wx hx => Ob.op rfl (O.move rfl ⟨Keep.refl _ _, rfl⟩),
          fun wx hx => Ob.op rfl (O.neq_f rfl rfl rfl ⟨Keep.refl _ _, rfl⟩),
          fun wx hx => Ob.op rfl (O.move rfl ⟨Keep.refl _ _, rfl⟩),
          fun wx hx => Ob.op rfl (O.call (xs := [.const (.bool true)]) Tryd.call38 rfl rfl (truth_calls true wx) (fun v wy h => ⟨h.1, _, h.2.1, h.2.2⟩)),
          fun wx hx => Ob.op rfl (O.loadAgg Tryd.isAgg33 Tryd.sizeOf33 rfl rfl ((hB15.keep hx (Nat.zero_le _)).row) ⟨Keep.refl _ _, rfl⟩),
          fun wx hx => Ob.op rfl (O.move rfl ⟨Keep.refl _ _, rfl⟩),
          fun wx hx => Ob.op rfl (O.move rfl ⟨Keep.refl _ _, rfl⟩),
          fun wx hx => Ob.op rfl (O.call (xs := [.tmp 57, .tmp 58, .tmp 59]) Tryd.call14 rfl rfl (Contig_calls 0 0 n k _ _ es (xs.set u (d : Int)) wx (hes15.keep hx) (hq15.keep hx) (hT15.keep hx)) (fun v wy h => ⟨h.2, by rw [h.1, hcq.b, hcq.ok]; rfl⟩)),
          fun wx hx => Ob.op rfl (O.extract rfl rfl ⟨Keep.refl _ _, rfl⟩),
          fun wx hx => Ob.op rfl (O.extract rfl rfl ⟨Keep.refl _ _, rfl⟩),
          fun wx hx v56 hv56 => by { obtain ⟨b, rfl, hB⟩ := hv56; exact Ob.op rfl (O.call (xs := [.tmp 61, .tmp 62]) Tryd.call64 rfl rfl (truth1_calls b true true 0 wx hB) (fun v wy h => ⟨Keep.of_eq h.2, h.1⟩)) },
          fun wx hx => Ob.op rfl (O.not rfl ⟨Keep.refl _ _, rfl⟩),
          fun wx hx => Ob.op rfl (O.pick_false rfl rfl ⟨Keep.refl _ _, rfl⟩),
          fun wx hx => Ob.op rfl (O.move rfl ⟨Keep.refl _ _, rfl⟩),
          fun wx hx => Ob.op rfl (O.move rfl ⟨Keep.refl _ _, rfl⟩),
          fun wx hx => Ob.op rfl (O.call (xs := [.tmp 67]) Tryd.call39 rfl rfl (is_calls _ wx rfl) (fun v wy h => ⟨h.1, _, _, h.2.1, h.2.2, (hx15.keep hx).keep h.1⟩)),
          fun wx hx => Ob.op rfl (O.loadAgg Tryd.isAgg33 Tryd.sizeOf33 rfl rfl ((hB15.keep hx (Nat.zero_le _)).row) ⟨Keep.refl _ _, rfl⟩),
          fun wx hx => Ob.op rfl (O.move rfl ⟨Keep.refl _ _, rfl⟩),
          fun wx hx => Ob.op rfl (O.move rfl ⟨Keep.refl _ _, rfl⟩),
          fun wx hx => Ob.op rfl (O.fieldAddr Tryd.runUnderlying51 rfl Tryd.sizeOf3 rfl ⟨Keep.refl _ _, rfl⟩),
          fun wx hx => Ob.op rfl (O.load Tryd.isAgg3 rfl (Blk.at (hM15.keep hx (Nat.zero_le _)) rfl) ⟨Keep.refl _ _, rfl⟩),
          fun wx hx => Ob.op rfl (O.fieldAddr Tryd.runUnderlying51 rfl Tryd.sizeOf3 rfl ⟨Keep.refl _ _, rfl⟩),
          fun wx hx => Ob.op rfl (O.load Tryd.isAgg3 rfl (Blk.at (hM15.keep hx (Nat.zero_le _)) rfl) ⟨Keep.refl _ _, rfl⟩),
          fun wx hx => Ob.op rfl (O.fieldAddr Tryd.runUnderlying51 rfl Tryd.sizeOf3 rfl ⟨Keep.refl _ _, rfl⟩),
          fun wx hx => Ob.op rfl (O.load Tryd.isAgg3 rfl (Blk.at (hM15.keep hx (Nat.zero_le _)) rfl) ⟨Keep.refl _ _, rfl⟩),
          fun wx hx => Ob.op rfl (O.build (v := .agg #[.int .i64 (u : Int), .int .i64 (d : Int), .int .i64 (c : Int)]) (parts := [(0, .tmp 73), (1, .tmp 75), (2, .tmp 77)]) (vs := [(0, _), (1, _), (2, _)]) rfl (fun w => by kernel_rfl) ⟨Keep.refl _ _, rfl⟩),
          fun wx hx => Ob.op rfl (O.call (xs := [.tmp 69, .tmp 70, .tmp 71, .tmp 78]) Tryd.call24 rfl rfl (Apply_calls 0 0 n k ((u : Int), (d : Int), (c : Int)) _ _ es (xs.set u (d : Int)) wx (hes15.keep hx) (hq15.keep hx) (hT15.keep hx)) (fun v wy h => apply_le h hback (by rw [applied, if_pos hback]; exact hsame))),
          fun wx hx v79 hv79 => by { obtain ⟨l, rfl, hl⟩ := hv79; exact Ob.op rfl (O.extract rfl rfl ⟨Keep.refl _ _, hl⟩) },
          fun wx hx v79 hv79 => by { obtain ⟨l, rfl, hl⟩ := hv79; exact Ob.op rfl (O.extract rfl rfl ⟨Keep.refl _ _, rfl⟩) },
          fun wx hx v68 hv68 v80 hv80 => by { obtain ⟨b, q, rfl, hB, hq⟩ := hv68; exact Ob.op rfl (O.call (xs := [.tmp 80, .tmp 81]) Tryd.call65 rfl rfl (is1_calls b 0 0 v80 q xs xs 0 wx hB hv80 hq) (fun v wy h => ⟨h.2, by rw [h.1, decide_eq_true rfl]; rfl⟩)) },
          fun wx hx => Ob.op rfl (O.not rfl ⟨Keep.refl _ _, rfl⟩),
          fun wx hx => Ob.op rfl (O.pick_false rfl rfl ⟨Keep.refl _ _, rfl⟩),
          fun wx hx => Ob.op rfl (O.move rfl ⟨Keep.refl _ _, rfl⟩),
          fun wx hx => Ob.op rfl (O.call (xs := [.const (.int .i64 1)]) Tryd.call40 rfl rfl (number_calls 1 wx) (fun v wy h => ⟨h.1, _, h.2.1, h.2.2⟩)),
          fun wx hx => Ob.op rfl (O.move rfl ⟨Keep.refl _ _, rfl⟩),
          fun wx hx => Ob.op rfl (O.move rfl ⟨Keep.refl _ _, rfl⟩),
          fun wx hx => Ob.op rfl (O.call (xs := [.tmp 87, .tmp 88]) Tryd.call34 rfl rfl (Apart_calls 0 0 _ _ xs (xs.set u (d : Int)) wx (hx15.keep hx) (hq15.keep hx)) (fun v wy h => ⟨h.2, by rw [h.1, hap, htwo]; rfl⟩)),
          fun wx hx => Ob.op rfl (O.extract rfl rfl ⟨Keep.refl _ _, rfl⟩),
          fun wx hx => Ob.op rfl (O.extract rfl rfl ⟨Keep.refl _ _, rfl⟩),
          fun wx hx v86 hv86 => by { obtain ⟨b, rfl, hB⟩ := hv86; exact Ob.op rfl (O.call (xs := [.tmp 90, .tmp 91]) Tryd.call66 rfl rfl (number1_calls b 1 0 0 wx hB) (fun v wy h => ⟨Keep.of_eq h.2, h.1⟩)) },
          fun wx hx => Ob.op rfl (O.not rfl ⟨Keep.refl _ _, rfl⟩),
          fun wx hx => Ob.op rfl (O.move rfl ⟨Keep.refl _ _, rfl⟩),
          fun wx hx => Ob.op rfl (O.call (xs := [.const (.int .i64 0)]) Tryd.call40 rfl rfl (number_calls 0 wx) (fun v wy h => ⟨h.1, _, h.2.1, h.2.2⟩)),
          fun wx hx => Ob.op rfl (O.move rfl ⟨Keep.refl _ _, rfl⟩),
          fun wx hx => Ob.op rfl (O.move rfl ⟨Keep.refl _ _, rfl⟩),
          fun wx hx => Ob.op rfl (O.call (xs := [.tmp 96, .tmp 97]) Tryd.call34 rfl rfl (Apart_calls 0 0 _ _ xs (xs.set u (d : Int)) wx (hx15.keep hx) (hq15.keep hx)) (fun v wy h => ⟨h.2, by rw [h.1, hap, htwo]; rfl⟩)),
          fun wx hx => Ob.op rfl (O.extract rfl rfl ⟨Keep.refl _ _, rfl⟩),
          fun wx hx => Ob.op rfl (O.extract rfl rfl ⟨Keep.refl _ _, rfl⟩),
          trivial⟩ (fun w20 he20 v56 hv56 v68 hv68 v79 hv79 v80 hv80 v86 hv86 v95 hv95 => ?_)
      obtain ⟨b95, rfl, hB95⟩ := hv95
      refine L.op rfl rfl (O.call (xs := [.tmp 99, .tmp 100]) Tryd.call66 rfl rfl (number1_calls b95 0 0 0 w20 hB95) (fun v21 w21 hq => ?_))
      obtain ⟨rfl, hw21⟩ := hq
      subst hw21
      refine L.op rfl rfl (O.not rfl (L.op rfl rfl (O.pick_true rfl rfl (L.op rfl rfl (O.pick_false rfl rfl (L.nil (T.cond_false rfl (T.skip (T.blk (T.region (L.op rfl rfl (O.add64 rfl rfl (by omega) (L.op rfl rfl (O.move rfl (L.nil (T.again (i + 1) (by omega) ⟨rfl, rfl, rfl, rfl, rfl, rfl, trivial⟩ ⟨by omega, (he12.trans he1215).trans he20⟩))))))))))))))))
    · refine L.op rfl rfl (O.move rfl (L.op rfl rfl (O.extract rfl rfl (L.op rfl rfl (O.extract rfl rfl (L.op rfl rfl (O.assign rfl (L.op rfl rfl (O.assign rfl (L.nil (T.seq (?_))))))))))))
      refine T.anyE mixed 48 [11, 3, 10, 5, 4, 9] rfl (.is _ :: .is _ :: .is _ :: .such (TruthF true) :: .is _ :: .is _ :: .is _ :: .is (.tuple #[.bool true, .int .i64 0]) :: .is _ :: .is _ :: .is (.bool true) :: .is _ :: .is _ :: .is _ :: .is _ :: .such (IsF xs) :: .is _ :: .is _ :: .is _ :: .is _ :: .is _ :: .is _ :: .is _ :: .is _ :: .is _ :: .is _ :: .such (LE xs 0) :: .such (IntsF xs) :: .is (.int .i64 0) :: .is (.bool true) :: .is _ :: .is _ :: .is _ :: .such (NumF 1) :: .is _ :: .is _ :: .is (.tuple #[.int .i64 1, .int .i64 0]) :: .is _ :: .is _ :: .is (.bool true) :: .is _ :: .is _ :: .is undef :: .is undef :: .is undef :: .is undef :: .is undef :: .is undef :: []) ([] :: [0] :: [1] :: [2] :: [2] :: [2] :: [2] :: [4, 5, 6, 2] :: [7, 2] :: [7, 2] :: [3, 8, 9, 2] :: [10, 2] :: [2, 11] :: [12] :: [13] :: [14, 13] :: [13] :: [13] :: [13] :: [13] :: [19, 13] :: [13] :: [21, 13] :: [13] :: [23, 13] :: [20, 22, 24, 13] :: [16, 17, 18, 25, 13] :: [26, 13] :: [26, 13] :: [15, 27, 28, 13] :: [29, 13] :: [13, 30] :: [31] :: [32] :: [32] :: [32] :: [34, 35, 32] :: [36, 32] :: [36, 32] :: [33, 37, 38, 32] :: [39, 32] :: [40, 32] :: [41] :: [41] :: [41] :: [43, 44, 41] :: [45, 41] :: [45, 41] :: []) ([] :: [0] :: [0, 1] :: [0, 1, 2] :: [0, 1, 2] :: [0, 1, 2] :: [0, 1, 2] :: [0, 1, 2, 3, 4, 5, 6] :: [0, 1, 2, 3, 4, 5, 6, 7] :: [0, 1, 2, 3, 4, 5, 6, 7] :: [0, 1, 2, 3, 4, 5, 6, 7, 8, 9] :: [0, 1, 2, 3, 4, 5, 6, 7, 8, 9, 10] :: [0, 1, 2, 3, 4, 5, 6, 7, 8, 9, 10, 11] :: [0, 1, 2, 3, 4, 5, 6, 7, 8, 9, 10, 11, 12] :: [0, 1, 2, 3, 4, 5, 6, 7, 8, 9, 10, 11, 12, 13] :: [0, 1, 2, 3, 4, 5, 6, 7, 8, 9, 10, 11, 12, 13, 14] :: [0, 1, 2, 3, 4, 5, 6, 7, 8, 9, 10, 11, 12, 13] :: [0, 1, 2, 3, 4, 5, 6, 7, 8, 9, 10, 11, 12, 13] :: [0, 1, 2, 3, 4, 5, 6, 7, 8, 9, 10, 11, 12, 13] :: [0, 1, 2, 3, 4, 5, 6, 7, 8, 9, 10, 11, 12, 13] :: [0, 1, 2, 3, 4, 5, 6, 7, 8, 9, 10, 11, 12, 13, 19] :: [0, 1, 2, 3, 4, 5, 6, 7, 8, 9, 10, 11, 12, 13] :: [0, 1, 2, 3, 4, 5, 6, 7, 8, 9, 10, 11, 12, 13, 21] :: [0, 1, 2, 3, 4, 5, 6, 7, 8, 9, 10, 11, 12, 13] :: [0, 1, 2, 3, 4, 5, 6, 7, 8, 9, 10, 11, 12, 13, 23] :: [0, 1, 2, 3, 4, 5, 6, 7, 8, 9, 10, 11, 12, 13, 19, 20, 21, 22, 23, 24] :: [0, 1, 2, 3, 4, 5, 6, 7, 8, 9, 10, 11, 12, 13, 14, 15, 16, 17, 18, 19, 20, 21, 22, 23, 24, 25] :: [0, 1, 2, 3, 4, 5, 6, 7, 8, 9, 10, 11, 12, 13, 14, 15, 16, 17, 18, 19, 20, 21, 22, 23, 24, 25, 26] :: [0, 1, 2, 3, 4, 5, 6, 7, 8, 9, 10, 11, 12, 13, 14, 15, 16, 17, 18, 19, 20, 21, 22, 23, 24, 25, 26] :: [0, 1, 2, 3, 4, 5, 6, 7, 8, 9, 10, 11, 12, 13, 14, 15, 16, 17, 18, 19, 20, 21, 22, 23, 24, 25, 26, 27, 28] :: [0, 1, 2, 3, 4, 5, 6, 7, 8, 9, 10, 11, 12, 13, 14, 15, 16, 17, 18, 19, 20, 21, 22, 23, 24, 25, 26, 27, 28, 29] :: (0 :: 1 :: 2 :: 3 :: 4 :: 5 :: 6 :: 7 :: 8 :: 9 :: 10 :: 11 :: 12 :: 13 :: 14 :: 15 :: 16 :: 17 :: 18 :: 19 :: 20 :: 21 :: 22 :: 23 :: 24 :: 25 :: 26 :: 27 :: 28 :: 29 :: 30 :: []) :: (0 :: 1 :: 2 :: 3 :: 4 :: 5 :: 6 :: 7 :: 8 :: 9 :: 10 :: 11 :: 12 :: 13 :: 14 :: 15 :: 16 :: 17 :: 18 :: 19 :: 20 :: 21 :: 22 :: 23 :: 24 :: 25 :: 26 :: 27 :: 28 :: 29 :: 30 :: 31 :: []) :: (0 :: 1 :: 2 :: 3 :: 4 :: 5 :: 6 :: 7 :: 8 :: 9 :: 10 :: 11 :: 12 :: 13 :: 14 :: 15 :: 16 :: 17 :: 18 :: 19 :: 20 :: 21 :: 22 :: 23 :: 24 :: 25 :: 26 :: 27 :: 28 :: 29 :: 30 :: 31 :: 32 :: []) :: (0 :: 1 :: 2 :: 3 :: 4 :: 5 :: 6 :: 7 :: 8 :: 9 :: 10 :: 11 :: 12 :: 13 :: 14 :: 15 :: 16 :: 17 :: 18 :: 19 :: 20 :: 21 :: 22 :: 23 :: 24 :: 25 :: 26 :: 27 :: 28 :: 29 :: 30 :: 31 :: 32 :: []) :: (0 :: 1 :: 2 :: 3 :: 4 :: 5 :: 6 :: 7 :: 8 :: 9 :: 10 :: 11 :: 12 :: 13 :: 14 :: 15 :: 16 :: 17 :: 18 :: 19 :: 20 :: 21 :: 22 :: 23 :: 24 :: 25 :: 26 :: 27 :: 28 :: 29 :: 30 :: 31 :: 32 :: []) :: (0 :: 1 :: 2 :: 3 :: 4 :: 5 :: 6 :: 7 :: 8 :: 9 :: 10 :: 11 :: 12 :: 13 :: 14 :: 15 :: 16 :: 17 :: 18 :: 19 :: 20 :: 21 :: 22 :: 23 :: 24 :: 25 :: 26 :: 27 :: 28 :: 29 :: 30 :: 31 :: 32 :: 33 :: 34 :: 35 :: []) :: (0 :: 1 :: 2 :: 3 :: 4 :: 5 :: 6 :: 7 :: 8 :: 9 :: 10 :: 11 :: 12 :: 13 :: 14 :: 15 :: 16 :: 17 :: 18 :: 19 :: 20 :: 21 :: 22 :: 23 :: 24 :: 25 :: 26 :: 27 :: 28 :: 29 :: 30 :: 31 :: 32 :: 33 :: 34 :: 35 :: 36 :: []) :: (0 :: 1 :: 2 :: 3 :: 4 :: 5 :: 6 :: 7 :: 8 :: 9 :: 10 :: 11 :: 12 :: 13 :: 14 :: 15 :: 16 :: 17 :: 18 :: 19 :: 20 :: 21 :: 22 :: 23 :: 24 :: 25 :: 26 :: 27 :: 28 :: 29 :: 30 :: 31 :: 32 :: 33 :: 34 :: 35 :: 36 :: []) :: (0 :: 1 :: 2 :: 3 :: 4 :: 5 :: 6 :: 7 :: 8 :: 9 :: 10 :: 11 :: 12 :: 13 :: 14 :: 15 :: 16 :: 17 :: 18 :: 19 :: 20 :: 21 :: 22 :: 23 :: 24 :: 25 :: 26 :: 27 :: 28 :: 29 :: 30 :: 31 :: 32 :: 33 :: 34 :: 35 :: 36 :: 37 :: 38 :: []) :: (0 :: 1 :: 2 :: 3 :: 4 :: 5 :: 6 :: 7 :: 8 :: 9 :: 10 :: 11 :: 12 :: 13 :: 14 :: 15 :: 16 :: 17 :: 18 :: 19 :: 20 :: 21 :: 22 :: 23 :: 24 :: 25 :: 26 :: 27 :: 28 :: 29 :: 30 :: 31 :: 32 :: 33 :: 34 :: 35 :: 36 :: 37 :: 38 :: 39 :: []) :: (0 :: 1 :: 2 :: 3 :: 4 :: 5 :: 6 :: 7 :: 8 :: 9 :: 10 :: 11 :: 12 :: 13 :: 14 :: 15 :: 16 :: 17 :: 18 :: 19 :: 20 :: 21 :: 22 :: 23 :: 24 :: 25 :: 26 :: 27 :: 28 :: 29 :: 30 :: 31 :: 32 :: 33 :: 34 :: 35 :: 36 :: 37 :: 38 :: 39 :: 40 :: []) :: (0 :: 1 :: 2 :: 3 :: 4 :: 5 :: 6 :: 7 :: 8 :: 9 :: 10 :: 11 :: 12 :: 13 :: 14 :: 15 :: 16 :: 17 :: 18 :: 19 :: 20 :: 21 :: 22 :: 23 :: 24 :: 25 :: 26 :: 27 :: 28 :: 29 :: 30 :: 31 :: 32 :: 33 :: 34 :: 35 :: 36 :: 37 :: 38 :: 39 :: 40 :: 41 :: []) :: (0 :: 1 :: 2 :: 3 :: 4 :: 5 :: 6 :: 7 :: 8 :: 9 :: 10 :: 11 :: 12 :: 13 :: 14 :: 15 :: 16 :: 17 :: 18 :: 19 :: 20 :: 21 :: 22 :: 23 :: 24 :: 25 :: 26 :: 27 :: 28 :: 29 :: 30 :: 31 :: 32 :: 33 :: 34 :: 35 :: 36 :: 37 :: 38 :: 39 :: 40 :: 41 :: []) :: (0 :: 1 :: 2 :: 3 :: 4 :: 5 :: 6 :: 7 :: 8 :: 9 :: 10 :: 11 :: 12 :: 13 :: 14 :: 15 :: 16 :: 17 :: 18 :: 19 :: 20 :: 21 :: 22 :: 23 :: 24 :: 25 :: 26 :: 27 :: 28 :: 29 :: 30 :: 31 :: 32 :: 33 :: 34 :: 35 :: 36 :: 37 :: 38 :: 39 :: 40 :: 41 :: []) :: (0 :: 1 :: 2 :: 3 :: 4 :: 5 :: 6 :: 7 :: 8 :: 9 :: 10 :: 11 :: 12 :: 13 :: 14 :: 15 :: 16 :: 17 :: 18 :: 19 :: 20 :: 21 :: 22 :: 23 :: 24 :: 25 :: 26 :: 27 :: 28 :: 29 :: 30 :: 31 :: 32 :: 33 :: 34 :: 35 :: 36 :: 37 :: 38 :: 39 :: 40 :: 41 :: 42 :: 43 :: 44 :: []) :: (0 :: 1 :: 2 :: 3 :: 4 :: 5 :: 6 :: 7 :: 8 :: 9 :: 10 :: 11 :: 12 :: 13 :: 14 :: 15 :: 16 :: 17 :: 18 :: 19 :: 20 :: 21 :: 22 :: 23 :: 24 :: 25 :: 26 :: 27 :: 28 :: 29 :: 30 :: 31 :: 32 :: 33 :: 34 :: 35 :: 36 :: 37 :: 38 :: 39 :: 40 :: 41 :: 42 :: 43 :: 44 :: 45 :: []) :: (0 :: 1 :: 2 :: 3 :: 4 :: 5 :: 6 :: 7 :: 8 :: 9 :: 10 :: 11 :: 12 :: 13 :: 14 :: 15 :: 16 :: 17 :: 18 :: 19 :: 20 :: 21 :: 22 :: 23 :: 24 :: 25 :: 26 :: 27 :: 28 :: 29 :: 30 :: 31 :: 32 :: 33 :: 34 :: 35 :: 36 :: 37 :: 38 :: 39 :: 40 :: 41 :: 42 :: 43 :: 44 :: 45 :: []) :: (0 :: 1 :: 2 :: 3 :: 4 :: 5 :: 6 :: 7 :: 8 :: 9 :: 10 :: 11 :: 12 :: 13 :: 14 :: 15 :: 16 :: 17 :: 18 :: 19 :: 20 :: 21 :: 22 :: 23 :: 24 :: 25 :: 26 :: 27 :: 28 :: 29 :: 30 :: 31 :: 32 :: 33 :: 34 :: 35 :: 36 :: 37 :: 38 :: 39 :: 40 :: 41 :: 42 :: 43 :: 44 :: 45 :: 46 :: 47 :: []) :: (0 :: 1 :: 2 :: 3 :: 4 :: 5 :: 6 :: 7 :: 8 :: 9 :: 10 :: 11 :: 12 :: 13 :: 14 :: 15 :: 16 :: 17 :: 18 :: 19 :: 20 :: 21 :: 22 :: 23 :: 24 :: 25 :: 26 :: 27 :: 28 :: 29 :: 30 :: 31 :: 32 :: 33 :: 34 :: 35 :: 36 :: 37 :: 38 :: 39 :: 40 :: 41 :: 42 :: 43 :: 44 :: 45 :: 46 :: 47 :: 48 :: []) :: (0 :: 1 :: 2 :: 3 :: 4 :: 5 :: 6 :: 7 :: 8 :: 9 :: 10 :: 11 :: 12 :: 13 :: 14 :: 15 :: 16 :: 17 :: 18 :: 19 :: 20 :: 21 :: 22 :: 23 :: 24 :: 25 :: 26 :: 27 :: 28 :: 29 :: 30 :: 31 :: 32 :: 33 :: 34 :: 35 :: 36 :: 37 :: 38 :: 39 :: 40 :: 41 :: 42 :: 43 :: 44 :: 45 :: 46 :: 47 :: 48 :: 49 :: []) :: (0 :: 1 :: 2 :: 3 :: 4 :: 5 :: 6 :: 7 :: 8 :: 9 :: 10 :: 11 :: 12 :: 13 :: 14 :: 15 :: 16 :: 17 :: 18 :: 19 :: 20 :: 21 :: 22 :: 23 :: 24 :: 25 :: 26 :: 27 :: 28 :: 29 :: 30 :: 31 :: 32 :: 33 :: 34 :: 35 :: 36 :: 37 :: 38 :: 39 :: 40 :: 41 :: 42 :: 43 :: 44 :: 45 :: 46 :: 47 :: 48 :: 49 :: 50 :: []) :: []) (by kernel_rfl) (by kernel_rfl) rfl (by kernel_rfl) ⟨TruthF.st, IsF.st, LE.st, IntsF.st, NumF.st, trivial⟩ ⟨fun wx hx => Ob.op rfl (O.move rfl ⟨Keep.refl _ _, rfl⟩),
          fun wx hx => Ob.op rfl (O.neq_f rfl rfl rfl ⟨Keep.refl _ _, rfl⟩),
          fun wx hx => Ob.op rfl (O.move rfl ⟨Keep.refl _ _, rfl⟩),
          fun wx hx => Ob.op rfl (O.call (xs := [.const (.bool true)]) Tryd.call38 rfl rfl (truth_calls true wx) (fun v wy h => ⟨h.1, _, h.2.1, h.2.2⟩)),
          fun wx hx => Ob.op rfl (O.loadAgg Tryd.isAgg33 Tryd.sizeOf33 rfl rfl ((hB15.keep hx (Nat.zero_le _)).row) ⟨Keep.refl _ _, rfl⟩),
          fun wx hx => Ob.op rfl (O.move rfl ⟨Keep.refl _ _, rfl⟩),
          fun wx hx => Ob.op rfl (O.move rfl ⟨Keep.refl _ _, rfl⟩),
          fun wx hx => Ob.op rfl (O.call (xs := [.tmp 57, .tmp 58, .tmp 59]) Tryd.call14 rfl rfl (Contig_calls 0 0 n k _ _ es (xs.set u (d : Int)) wx (hes15.keep hx) (hq15.keep hx) (hT15.keep hx)) (fun v wy h => ⟨h.2, by rw [h.1, hcq.b, hcq.ok]; rfl⟩)),
          fun wx hx => Ob.op rfl (O.extract rfl rfl ⟨Keep.refl _ _, rfl⟩),
          fun wx hx => Ob.op rfl (O.extract rfl rfl ⟨Keep.refl _ _, rfl⟩),
          fun wx hx v56 hv56 => by { obtain ⟨b, rfl, hB⟩ := hv56; exact Ob.op rfl (O.call (xs := [.tmp 61, .tmp 62]) Tryd.call64 rfl rfl (truth1_calls b true true 0 wx hB) (fun v wy h => ⟨Keep.of_eq h.2, h.1⟩)) },
          fun wx hx => Ob.op rfl (O.not rfl ⟨Keep.refl _ _, rfl⟩),
          fun wx hx => Ob.op rfl (O.pick_false rfl rfl ⟨Keep.refl _ _, rfl⟩),
          fun wx hx => Ob.op rfl (O.move rfl ⟨Keep.refl _ _, rfl⟩),
          fun wx hx => Ob.op rfl (O.move rfl ⟨Keep.refl _ _, rfl⟩),
          fun wx hx => Ob.op rfl (O.call (xs := [.tmp 67]) Tryd.call39 rfl rfl (is_calls _ wx rfl) (fun v wy h => ⟨h.1, _, _, h.2.1, h.2.2, (hx15.keep hx).keep h.1⟩)),
          fun wx hx => Ob.op rfl (O.loadAgg Tryd.isAgg33 Tryd.sizeOf33 rfl rfl ((hB15.keep hx (Nat.zero_le _)).row) ⟨Keep.refl _ _, rfl⟩),
          fun wx hx => Ob.op rfl (O.move rfl ⟨Keep.refl _ _, rfl⟩),
          fun wx hx => Ob.op rfl (O.move rfl ⟨Keep.refl _ _, rfl⟩),
          fun wx hx => Ob.op rfl (O.fieldAddr Tryd.runUnderlying51 rfl Tryd.sizeOf3 rfl ⟨Keep.refl _ _, rfl⟩),
          fun wx hx => Ob.op rfl (O.load Tryd.isAgg3 rfl (Blk.at (hM15.keep hx (Nat.zero_le _)) rfl) ⟨Keep.refl _ _, rfl⟩),
          fun wx hx => Ob.op rfl (O.fieldAddr Tryd.runUnderlying51 rfl Tryd.sizeOf3 rfl ⟨Keep.refl _ _, rfl⟩),
          fun wx hx => Ob.op rfl (O.load Tryd.isAgg3 rfl (Blk.at (hM15.keep hx (Nat.zero_le _)) rfl) ⟨Keep.refl _ _, rfl⟩),
          fun wx hx => Ob.op rfl (O.fieldAddr Tryd.runUnderlying51 rfl Tryd.sizeOf3 rfl ⟨Keep.refl _ _, rfl⟩),
          fun wx hx => Ob.op rfl (O.load Tryd.isAgg3 rfl (Blk.at (hM15.keep hx (Nat.zero_le _)) rfl) ⟨Keep.refl _ _, rfl⟩),
          fun wx hx => Ob.op rfl (O.build (v := .agg #[.int .i64 (u : Int), .int .i64 (d : Int), .int .i64 (c : Int)]) (parts := [(0, .tmp 73), (1, .tmp 75), (2, .tmp 77)]) (vs := [(0, _), (1, _), (2, _)]) rfl (fun w => by kernel_rfl) ⟨Keep.refl _ _, rfl⟩),
          fun wx hx => Ob.op rfl (O.call (xs := [.tmp 69, .tmp 70, .tmp 71, .tmp 78]) Tryd.call24 rfl rfl (Apply_calls 0 0 n k ((u : Int), (d : Int), (c : Int)) _ _ es (xs.set u (d : Int)) wx (hes15.keep hx) (hq15.keep hx) (hT15.keep hx)) (fun v wy h => apply_le h hback (by rw [applied, if_pos hback]; exact hsame))),
          fun wx hx v79 hv79 => by { obtain ⟨l, rfl, hl⟩ := hv79; exact Ob.op rfl (O.extract rfl rfl ⟨Keep.refl _ _, hl⟩) },
          fun wx hx v79 hv79 => by { obtain ⟨l, rfl, hl⟩ := hv79; exact Ob.op rfl (O.extract rfl rfl ⟨Keep.refl _ _, rfl⟩) },
          fun wx hx v68 hv68 v80 hv80 => by { obtain ⟨b, q, rfl, hB, hq⟩ := hv68; exact Ob.op rfl (O.call (xs := [.tmp 80, .tmp 81]) Tryd.call65 rfl rfl (is1_calls b 0 0 v80 q xs xs 0 wx hB hv80 hq) (fun v wy h => ⟨h.2, by rw [h.1, decide_eq_true rfl]; rfl⟩)) },
          fun wx hx => Ob.op rfl (O.not rfl ⟨Keep.refl _ _, rfl⟩),
          fun wx hx => Ob.op rfl (O.pick_false rfl rfl ⟨Keep.refl _ _, rfl⟩),
          fun wx hx => Ob.op rfl (O.move rfl ⟨Keep.refl _ _, rfl⟩),
          fun wx hx => Ob.op rfl (O.call (xs := [.const (.int .i64 1)]) Tryd.call40 rfl rfl (number_calls 1 wx) (fun v wy h => ⟨h.1, _, h.2.1, h.2.2⟩)),
          fun wx hx => Ob.op rfl (O.move rfl ⟨Keep.refl _ _, rfl⟩),
          fun wx hx => Ob.op rfl (O.move rfl ⟨Keep.refl _ _, rfl⟩),
          fun wx hx => Ob.op rfl (O.call (xs := [.tmp 87, .tmp 88]) Tryd.call34 rfl rfl (Apart_calls 0 0 _ _ xs (xs.set u (d : Int)) wx (hx15.keep hx) (hq15.keep hx)) (fun v wy h => ⟨h.2, by rw [h.1, hap, htwo]; rfl⟩)),
          fun wx hx => Ob.op rfl (O.extract rfl rfl ⟨Keep.refl _ _, rfl⟩),
          fun wx hx => Ob.op rfl (O.extract rfl rfl ⟨Keep.refl _ _, rfl⟩),
          fun wx hx v86 hv86 => by { obtain ⟨b, rfl, hB⟩ := hv86; exact Ob.op rfl (O.call (xs := [.tmp 90, .tmp 91]) Tryd.call66 rfl rfl (number1_calls b 1 1 0 wx hB) (fun v wy h => ⟨Keep.of_eq h.2, h.1⟩)) },
          fun wx hx => Ob.op rfl (O.not rfl ⟨Keep.refl _ _, rfl⟩),
          fun wx hx => Ob.op rfl (O.move rfl ⟨Keep.refl _ _, rfl⟩),
          fun wx hx => Ob.pass rfl rfl,
          fun wx hx => Ob.pass rfl rfl,
          fun wx hx => Ob.pass rfl rfl,
          fun wx hx => Ob.pass rfl rfl,
          fun wx hx => Ob.pass rfl rfl,
          fun wx hx => Ob.pass rfl rfl,
          trivial⟩ (fun w20 he20 v56 hv56 v68 hv68 v79 hv79 v80 hv80 v86 hv86 => ?_)
      refine L.pass rfl rfl (L.pass rfl rfl (L.op rfl rfl (O.pick_false rfl rfl (L.op rfl rfl (O.pick_false rfl rfl (L.nil (T.cond_false rfl (T.skip (T.blk (T.region (L.op rfl rfl (O.add64 rfl rfl (by omega) (L.op rfl rfl (O.move rfl (L.nil (T.again (i + 1) (by omega) ⟨rfl, rfl, rfl, rfl, rfl, rfl, trivial⟩ ⟨by omega, (he12.trans he1215).trans he20⟩))))))))))))))))
  · refine L.nil (T.seq (T.cond_false rfl (T.exit rfl (T.seq (T.region (L.op rfl rfl (O.assign rfl (L.nil (T.ret1 Tryd.results6 rfl ⟨rfl, (he06.trans he69).trans he12⟩)))))))))

end Go.Proofs.YthjdljbghjelfaaDoor
set_option linter.unusedVariables false
set_option linter.unusedSimpArgs false
set_option maxRecDepth 20000
namespace Go.Proofs.YthjdljbghjelfaaDoor
open Go Go.E RowKit ChangeShapes WideShapes
attribute [local irreducible] Go.E.T Go.E.L Go.E.O Go.E.Ob

set_option maxRecDepth 100000 in
theorem planReturns_lifted (os : Os) (started : os.Started) (H : Type) (enc : TypeId × Value → H) :
    ReturnsInHanded {} Tryd.checked os 6 .any (fun w args => (Rows.planReturnsSpec.pre enc Tryd.prog Tryd.f6 [] false w args ∧ laidMetH Tryd.prog laidL w) ∧ sizedMet enc Tryd.prog Tryd.f6 (OpenSpec.ofChange Rows.planReturnsSpec) false w args)
      (Rows.planReturnsSpec.post enc Tryd.prog Tryd.f6 false true false false) := by
  refine law_lifted (C := Tryd.checked) (X := fun w _ => laidMetH Tryd.prog laidL w) (tb := 4) (ts := [25]) (fun _ _ _ hh h => h.of_heap hh) own started (by kernel_rfl) Tryd.func6
    rfl Tryd.params6 (fun ds h => ?_) (by kernel_rfl) Tryd.underlying4 laidOut (by kernel_rfl)
    (ChangeSpec.witness_at (enc := enc) (C := Tryd.checked) (os := os) (X := fun w _ => laidMetH Tryd.prog laidL w) false (laidWorld os) #[.agg #[.int .u8 0, .slice none 0 0, .slice none 0 0, .slice none 0 0, .int .u8 0]] 8 rfl (by kernel_rfl) (by kernel_rfl) (by kernel_rfl) (by kernel_rfl) (by kernel_rfl) (laidWorld_met os _)) ?_
  · obtain ⟨a0, rfl⟩ := one_of h
    rfl
  · intro W vs hl ha hL
    obtain ⟨a0, rfl⟩ := one_of hl
    obtain ⟨N, K, pv, mv, lv, ps, ls, ms, rfl, hD⟩ := draft_of (ha 0 _ _ rfl rfl)
    exact PlanReturns_calls N K pv mv lv ps ls ms W hD (tab_of_laid hL)
theorem planReturns_over : Rows.PlanReturnsSaid :=
  OpenClaim.holds_of_wide 6 Tryd.f6 rfl rfl rfl rfl rfl rfl rfl ⟨rfl, rfl, rfl, rfl, rfl⟩ rfl rfl rfl rfl rfl (by kernel_rfl) Tryd.func6 (by kernel_rfl)
    (of_decide_eq_true (by kernel_rfl)) (by unfold Func.isWrapper; first | (rw [if_pos (by decide +kernel)]; kernel_rfl) | (rw [if_neg (by decide +kernel)]; exact ⟨rfl, rfl⟩))
    (fun os started H enc _ => planReturns_lifted os started H enc)
theorem planReturns_holds : Rows.PlanReturnsCardSaid :=
  Claim7.holds_tied_plain_at .later [] [.data] true (true, "70ce77e6e465cb6f7bb54785c29c1fee9bd557921552f81cc09119473f9a84dc") false
    planReturns_over (fun _ h => by cases h) (by kernel_rfl) (fun _ h => by cases h) planReturns_row_tie rfl ⟨rfl, rfl⟩ (by kernel_rfl) rfl
    (fun f fn hf hfn => by
      obtain rfl : f = 6 := Option.some.inj ((show Tryd.prog.funcNamed Rows.planReturnsRow.func = some 6 by kernel_rfl).symm.trans hf) |>.symm
      obtain rfl : fn = Tryd.f6 := (Option.some.inj (Tryd.func6.symm.trans hfn)).symm
      exact ⟨by kernel_rfl, fun j t ht => by
        rw [Tryd.params6] at ht
        have hall : (([25] : List TypeId).all fun t => !Tryd.prog.wantsStandIn t) = true := by kernel_rfl
        have := List.all_eq_true.1 hall t (List.mem_of_getElem? (i := j) (by simpa using ht))
        have h2 : Tryd.prog.wantsStandIn t = false := by simpa using this
        exact h2⟩)
    (by kernel_rfl)
#print axioms planReturns_holds
end Go.Proofs.YthjdljbghjelfaaDoor
