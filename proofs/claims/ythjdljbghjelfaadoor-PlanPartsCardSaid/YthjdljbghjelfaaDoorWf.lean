/-
  PlanParts returns true for every input, and each argument reads behind the call as it read before. Conditions: the listed variable reads as the program's text lays it (tied by the card).
-/
import Derived.Test.YthjdljbghjelfaaDoorMg
import Derived.Test.YthjdljbghjelfaaDoorMh
import Derived.Test.YthjdljbghjelfaaDoorCards
set_option linter.unusedVariables false
set_option linter.unusedSimpArgs false
set_option maxRecDepth 20000
namespace Go.Proofs.YthjdljbghjelfaaDoor
open Go Go.E
attribute [local irreducible] Go.E.T Go.E.L Go.E.O Go.E.Ob

def unTo (xs : List Int) : Nat → Nat
  | 0 => 0
  | d + 1 => unTo xs d ||| mask xs (d : Int)
theorem unTo_lt (xs : List Int) : ∀ d, unTo xs d < 18446744073709551616
  | 0 => by simp [unTo]
  | d + 1 => or_lt (unTo_lt xs d) (mask_lt _ _)
theorem unTo_bit {xs : List Int} (h : xs.length ≤ 64) (h0 : ∀ i, i < xs.length → 0 ≤ xs.getD i 0) (i : Nat) : ∀ d : Nat, (unTo xs d).testBit i = true ↔ i < xs.length ∧ xs.getD i 0 < d
  | 0 => by
    simp only [unTo, Nat.zero_testBit]
    constructor
    · intro h; cases h
    · rintro ⟨h1, h2⟩; have := h0 i h1; omega
  | d + 1 => by
    simp only [unTo]
    rw [Nat.testBit_or, Bool.or_eq_true, unTo_bit h h0 i d, mask_bit h]
    constructor
    · rintro (⟨h1, h2⟩ | ⟨h1, h2⟩) <;> exact ⟨h1, by omega⟩
    · rintro ⟨h1, h2⟩
      by_cases he : xs.getD i 0 = d
      · exact .inr ⟨h1, he⟩
      · exact .inl ⟨h1, by omega⟩
theorem un_apart {xs : List Int} (h : xs.length ≤ 64) (h0 : ∀ i, i < xs.length → 0 ≤ xs.getD i 0) (d : Nat) : unTo xs d &&& mask xs (d : Int) = 0 := Nat.eq_of_testBit_eq fun i => by
  rw [Nat.zero_testBit, Nat.testBit_and]
  cases h1 : (unTo xs d).testBit i
  · rfl
  · cases h2 : (mask xs (d : Int)).testBit i
    · rfl
    · have a := ((unTo_bit h h0 i d).1 h1).2
      have b := ((mask_bit h _ _).1 h2).2
      omega
theorem bit64_eq {n : Nat} (h : n < 64) : bit64 n = 2 ^ n := by
  have h1 : (2 : Nat) ^ n < 2 ^ 64 := Nat.pow_lt_pow_right (by decide) h
  unfold bit64
  exact Nat.mod_eq_of_lt h1
theorem un_all {xs : List Int} {n : Nat} (h : xs.length = n) (hn : n ≤ 63) (h0 : ∀ i, i < xs.length → 0 ≤ xs.getD i 0) {k : Nat} (hk : ∀ i, i < xs.length → xs.getD i 0 < k) : unTo xs k = bit64 n - 1 := Nat.eq_of_testBit_eq fun i => by
  have e : bit64 n = 2 ^ n := bit64_eq (by omega)
  rw [e, Nat.testBit_two_pow_sub_one, Bool.eq_iff_iff, unTo_bit (by omega) h0, decide_eq_true_eq]
  exact ⟨fun hh => by omega, fun hh => ⟨by omega, hk i (by omega)⟩⟩
/-- Both ends lie in one of the first districts. -/
def insTo (xs : List Int) (a b : Nat) : Nat → Bool
  | 0 => false
  | d + 1 => insTo xs a b d || (decide (mask xs (d : Int) / 2 ^ a &&& 1 = 1) && decide (mask xs (d : Int) / 2 ^ b &&& 1 = 1))
theorem and_one_bit (m i : Nat) : m / 2 ^ i &&& 1 = 1 ↔ m.testBit i = true := by rw [Nat.and_one_is_mod, Nat.testBit_eq_decide_div_mod_eq, decide_eq_true_eq]
theorem insTo_iff {xs : List Int} (h : xs.length ≤ 64) {a b : Nat} (ha : a < xs.length) (hb : b < xs.length) (h0 : ∀ i, i < xs.length → 0 ≤ xs.getD i 0) : ∀ d : Nat, insTo xs a b d = true ↔ xs.getD a 0 = xs.getD b 0 ∧ xs.getD a 0 < d
  | 0 => by
    simp only [insTo]
    constructor
    · intro h; cases h
    · rintro ⟨_, h2⟩; have := h0 a ha; omega
  | d + 1 => by
    simp only [insTo]
    rw [Bool.or_eq_true, Bool.and_eq_true, decide_eq_true_eq, decide_eq_true_eq, insTo_iff h ha hb h0 d, and_one_bit, and_one_bit, mask_bit h, mask_bit h]
    constructor
    · rintro (⟨h1, h2⟩ | ⟨⟨_, h1⟩, _, h2⟩)
      · exact ⟨h1, by omega⟩
      · exact ⟨by rw [h1, h2], by omega⟩
    · rintro ⟨h1, h2⟩
      by_cases he : xs.getD a 0 = d
      · exact .inr ⟨⟨ha, he⟩, hb, by rw [← h1]; exact he⟩
      · exact .inl ⟨h1, by omega⟩
theorem loose_plan {N K : Int} (h0 : 0 ≤ N) (hk0 : 0 ≤ K) (ps ls : List Int) (ms : List (Int × Int)) : ∃ k : Nat, maxTo (canonOf (looseRaw N K ls)) (looseRaw N K ls).length = k ∧ planErr (unitsOf N) (edgesOf N ps ms) (canonOf (looseRaw N K ls)) k = 0 := by
  have hun : 1 ≤ unitsOf N ∧ unitsOf N ≤ 9 := by unfold unitsOf; omega
  have hok := looseRaw_ok (ls := ls) h0 hk0
  obtain ⟨h1, h2, h3, h4⟩ := canon_k hok
  have hl := looseRaw_len N K ls
  have hcl := canonOf_len (looseRaw N K ls)
  refine ⟨(maxTo (canonOf (looseRaw N K ls)) (looseRaw N K ls).length).toNat, by omega, ?_⟩
  rw [show (((maxTo (canonOf (looseRaw N K ls)) (looseRaw N K ls).length).toNat : Nat) : Int) = maxTo (canonOf (looseRaw N K ls)) (looseRaw N K ls).length by omega]
  exact planErr_intro (edges_ok h0 ps ms) ⟨h1, h2⟩ (by omega) (fun i hi => ⟨(canon_val (by omega)).1, h3 i (by omega)⟩) fun d hd => by
    obtain ⟨j, hj, he⟩ := h4 d hd
    exact ⟨j, by omega, he⟩
theorem masks_at {lo : Nat} {w : World} {v : Value} {xs : List Int} {k d : Nat} (h : Words lo w v (masksOf xs k)) (hd : d < k) : w.cell? ((sAddr v).add ((d : Int).toNat * 1)) = some (.int .u64 ((mask xs (d : Int) : Nat) : Int)) := by
  have h1 := h.at (i := d) (by rw [masks_len]; exact hd)
  rw [List.getD_eq_getElem?_getD] at h1
  unfold masksOf at h1
  rw [List.getElem?_map, List.getElem?_range hd] at h1
  exact h1
theorem PlanParts_calls (N K : Int) (pv mv lv : Value) (ps ls : List Int) (ms : List (Int × Int)) (w : World) (hD : DraftOk w N K pv mv lv ps ls ms) (hT : Tab w) :
    Calls Tryd.prog 8 #[dV N pv mv lv K] w (Ret fun v w' => v = .bool true ∧ Ext w w') := by
  refine T.enter (vs := [dV N pv mv lv K]) Tryd.func8 rfl Tryd.ntmps8 rfl ?_
  refine T.seq (T.region (L.op rfl rfl (O.box rfl (fun b1 w1 hb1 hz1 he1 hB1 => ?_))))
  refine L.op rfl rfl (O.assign rfl (L.nil (T.seq (T.seq (T.region (L.op rfl rfl (O.call (xs := []) Tryd.call10 rfl rfl (works_calls w1 (hT.keep he1)) (fun v2 w2 hq => ?_))))))))
  obtain ⟨rfl, he2⟩ := hq
  refine L.op rfl rfl (O.not rfl (L.nil (T.cond_false rfl (T.skip (T.seq (T.region (L.op rfl rfl (O.loadAgg Tryd.isAgg25 Tryd.sizeOf25 rfl rfl ((hB1.keep he2 (Nat.zero_le _)).row) (?_)))))))))
  have hD2 := hD.keep (he1.trans he2)
  refine L.op rfl rfl (O.call (xs := [.tmp 19]) Tryd.call36 rfl rfl (Graph_calls 0 0 N K pv mv lv ps ms w2 hD2.n0 hD2.n1 hD2.p hD2.po hD2.m hD2.mo) (fun v3 w3 hq => ?_))
  obtain ⟨he3, pe, rfl, hpe3⟩ := hq
  obtain ⟨oe, ce, rfl, _, _⟩ := Sl.val hpe3
  refine L.op rfl rfl (O.alloc Tryd.zeroValue33 (fun b4 w4 hb4 hz4 he4 hB4 => ?_))
  refine L.op rfl rfl (O.storeAgg Tryd.sizeOf33 rfl rfl rfl hB4 (Nat.le_refl _) (by intro u hu; simp at hu; rcases hu with (rfl|rfl) <;> rfl) (fun w5 hu5 hB5 => ?_))
  have hB5 : Blk w5 b4 [.int .i64 (unitsOf N), .slice oe (edgesOf N ps ms).length ce] 33 := hB5
  have he35 : Ext w3 w5 := he4.upd hu5 (.inr (by omega))
  have hz4' := he4.size
  have hz3' := he3.size
  have hz2' := he2.size
  refine L.nil (T.seq (T.region (L.op rfl rfl (O.loadAgg Tryd.isAgg25 Tryd.sizeOf25 rfl rfl (((hB1.keep (he2.trans he3) (Nat.zero_le _)).keep he35 (Nat.zero_le _)).row) (?_)))))
  have hD5 := hD2.keep (he3.trans he35)
  refine L.op rfl rfl (O.call (xs := [.tmp 22]) Tryd.call27 rfl rfl (Loose_calls 0 N K pv mv lv ls w5 hD5.n0 hD5.n1 hD5.k0 hD5.k1 hD5.l hD5.lo) (fun v6 w6 hq => ?_))
  obtain ⟨he6, pl, rfl, hpl6⟩ := hq
  obtain ⟨k, hk, hpe⟩ := loose_plan (K := K) hD.n0 hD.k0 ps ls ms
  have hun : 1 ≤ unitsOf N ∧ unitsOf N ≤ 9 := by have := hD.n0; unfold unitsOf; omega
  obtain ⟨n, hn⟩ : ∃ n : Nat, unitsOf N = n := ⟨(unitsOf N).toNat, by omega⟩
  have hes6 : Pairs 0 w6 (.slice oe (edgesOf N ps ms).length ce) (edgesOf N ps ms) := (hpe3.mono (Nat.zero_le _)).keep (he35.trans he6)
  have hx6 : Ints .i64 0 w6 pl (canonOf (looseRaw N K ls)) := hpl6.mono (Nat.zero_le _)
  have hB6 := hB5.keep he6 (Nat.zero_le _)
  have he06 := (((he1.trans he2).trans he3).trans he35).trans he6
  rw [hn] at hB6 hpe hun
  rw [hk]
  have hel := edges_len N ps ms
  clear hpl6 hpe3 hB5 hB4 hk
  have hen : (edgesOf N ps ms).length = (edgesOf N ps ms).length := rfl
  generalize hes : edgesOf N ps ms = es at hes6 hpe hB6 hel
  generalize canonOf (looseRaw N K ls) = xs at hx6 hpe
  have hP := planOk_of hpe
  have hlm := labels_mem hP.labels
  have hlen := hP.len
  have hk1 := hP.one
  have hk8 := hP.eight
  have hxl : xs.length = n := by omega
  have hg := Good.of hP.graph
  have hme : masksErr xs k = 0 := masksErr_ok ⟨hk1, hk8⟩ (by rw [hP.labels, hP.used]; rfl)
  refine L.op rfl rfl (O.move rfl (L.op rfl rfl (O.extract rfl rfl (L.op rfl rfl (O.extract rfl rfl (L.op rfl rfl (O.assign rfl (L.op rfl rfl (O.assign rfl (L.nil (T.seq (T.region (L.op rfl rfl (O.move rfl (L.op rfl rfl (O.move rfl (L.op rfl rfl (O.call (xs := [.tmp 27, .tmp 28]) Tryd.call12 rfl rfl (Masks_calls 0 _ xs k w6 hx6) (fun v7 w7 hq => ?_)))))))))))))))))))
  obtain ⟨he7, pm, rfl, hpm⟩ := hq
  rw [hme]
  rw [masksGot, if_pos hme, Int.toNat_natCast] at hpm
  have hpm7 : Words 0 w7 pm (masksOf xs k) := hpm.mono (Nat.zero_le _)
  have hml := masks_len xs k
  refine L.op rfl rfl (O.move rfl (L.op rfl rfl (O.extract rfl rfl (L.op rfl rfl (O.extract rfl rfl (L.op rfl rfl (O.assign rfl (L.op rfl rfl (O.assign rfl (L.nil (T.seq (T.seq (T.region (L.op rfl rfl (O.move rfl (L.op rfl rfl (O.neq_f rfl rfl rfl (L.op rfl rfl (O.move rfl (L.op rfl rfl (O.move rfl (L.op rfl rfl (O.len Tryd.runUnderlying38 rfl (Sl.val hpm7) (L.op rfl rfl (O.move rfl (L.op rfl rfl (O.neq_f rfl rfl (by rw [hml]) (L.op rfl rfl (O.pick_false rfl rfl (L.op rfl rfl (O.move rfl (L.op rfl rfl (O.loadAgg Tryd.isAgg33 Tryd.sizeOf33 rfl rfl ((hB6.keep he7 (Nat.zero_le _)).row) (L.op rfl rfl (O.move rfl (L.op rfl rfl (O.move rfl (L.op rfl rfl (O.call (xs := [.tmp 41, .tmp 42, .tmp 43]) Tryd.call16 rfl rfl (Check_calls 0 0 n k _ _ es xs w7 (hes6.keep he7) (hx6.keep he7)) (fun v8 w8 hq => ?_))))))))))))))))))))))))))))))))))))))))
  obtain ⟨rfl, he8⟩ := hq
  rw [hpe]
  refine L.op rfl rfl (O.neq_f rfl rfl rfl (?_))
  have he68 := he7.trans he8
  refine L.op rfl rfl (O.pick_false rfl rfl (L.nil (T.cond_false rfl (T.skip (T.seq (T.region (L.op rfl rfl (O.assign rfl (L.nil (T.seq (T.seq (T.region (L.op rfl rfl (O.move rfl (L.op rfl rfl (O.len Tryd.runUnderlying38 rfl (Sl.val (hpm7.keep he8)) (L.op rfl rfl (O.move rfl (L.nil (T.block (?_)))))))))))))))))))))
  refine T.loop (σ := Nat) (fun d => [(3, .pointer (some ⟨b4, 0, none⟩)), (4, pl), (5, .int .i64 k), (6, pm), (8, .int .u64 (unTo xs d)), (47, pm), (48, .int .i64 ((masksOf xs k).length : Int)), (49, .int .i64 d)]) (fun d w' => d ≤ k ∧ Ext w8 w') (fun d => k - d) (0) ⟨rfl, rfl, rfl, rfl, rfl, rfl, rfl, rfl, trivial⟩ ⟨Nat.zero_le _, Keep.refl _ _⟩ ?_
  rintro d w9 ⟨hd, he9⟩
  have hpm9 := hpm7.keep (he8.trans he9)
  have hul := unTo_lt xs d
  have hmlt := mask_lt xs (d : Int)
  refine T.seq (T.region (L.op rfl rfl (O.lss_s rfl rfl (fun hlt => ?_) (fun hlt => ?_))))
  · refine L.nil (?_)
    have hdk : d < k := by rw [hml] at hlt; omega
    refine T.seq (T.cond_true rfl (T.skip (T.seq (T.block (T.seq (T.region (L.op rfl rfl (O.indexAddr Tryd.runUnderlying38 Tryd.sizeOf46 rfl rfl hpm9 (by omega) (by omega) (L.op rfl rfl (O.load Tryd.isAgg46 rfl (masks_at hpm9 hdk) (?_)))))))))))
    have hmne : ¬ ((mask xs (d : Int) : Nat) : Int) = 0 := by
      have hu := List.all_eq_true.1 hP.used (mask xs (d : Int)) (List.mem_map.2 ⟨d, by simpa using hdk, rfl⟩)
      rw [Bool.not_eq_true', decide_eq_false_iff_not] at hu; omega
    refine L.op rfl rfl (O.assign rfl (L.nil (T.seq (T.seq (T.region (L.op rfl rfl (O.move rfl (L.op rfl rfl (O.eql_f rfl rfl hmne (L.op rfl rfl (O.move rfl (L.op rfl rfl (O.move rfl (L.op rfl rfl (O.move rfl (L.op rfl rfl (O.and_u64 rfl rfl hul hmlt rfl rfl (?_))))))))))))))))))
    rw [un_apart (by omega) (fun i hi => (hlm.2.2 i hi).1) d]
    refine L.op rfl rfl (O.neq_f rfl rfl rfl (L.op rfl rfl (O.pick_false rfl rfl (L.nil (T.cond_false rfl (T.skip (T.region (L.op rfl rfl (O.move rfl (L.op rfl rfl (O.move rfl (L.op rfl rfl (O.or_u64 rfl rfl hul hmlt rfl rfl (L.op rfl rfl (O.assign rfl (L.nil (T.blk (T.region (L.op rfl rfl (O.add64 rfl rfl (by omega) (L.op rfl rfl (O.move rfl (L.nil (T.again (d + 1) (by omega) ⟨rfl, rfl, rfl, rfl, rfl, rfl, rfl, rfl, trivial⟩ ⟨by omega, he9⟩))))))))))))))))))))))))
  · refine L.nil (?_)
    have hdk : d = k := by rw [hml] at hlt; omega
    subst hdk
    refine T.seq (T.cond_false rfl (T.exit rfl (T.seq (T.region (L.op rfl rfl (O.assign rfl (L.nil (T.seq (T.seq (T.region (L.op rfl rfl (O.fieldAddr Tryd.runUnderlying33 rfl Tryd.sizeOf31 rfl (L.op rfl rfl (O.load Tryd.isAgg31 rfl (Blk.at (hB6.keep (he68.trans he9) (Nat.zero_le _)) rfl) (L.op rfl rfl (O.len Tryd.runUnderlying31 rfl (Sl.val (hes6.keep (he68.trans he9))) (L.op rfl rfl (O.move rfl (L.nil (T.block (?_)))))))))))))))))))))
    refine T.loop (σ := Nat) (fun i => [(3, .pointer (some ⟨b4, 0, none⟩)), (4, pl), (5, .int .i64 d), (6, pm), (8, .int .u64 (unTo xs d)), (11, .int .i64 (cutTo es xs i)), (66, .slice oe es.length ce), (67, .int .i64 (es.length : Int)), (68, .int .i64 i)]) (fun i w' => i ≤ es.length ∧ Ext w8 w') (fun i => es.length - i) (0) ⟨rfl, rfl, rfl, rfl, rfl, rfl, rfl, rfl, rfl, trivial⟩ ⟨Nat.zero_le _, he9⟩ ?_
    rintro i w10 ⟨hi, he10⟩
    have hcl := cutTo_le es xs i
    refine T.seq (T.region (L.op rfl rfl (O.lss_s rfl rfl (fun hlt2 => ?_) (fun hlt2 => ?_))))
    · refine L.nil (?_)
      have hil : i < es.length := by omega
      have hgi := hg.2.2 i hil
      have hes10 := hes6.keep (he68.trans he10)
      refine T.seq (T.cond_true rfl (T.skip (T.seq (T.block (T.seq (T.region (L.op rfl rfl (O.indexAddr Tryd.runUnderlying31 Tryd.sizeOf80 rfl rfl hes10 (by omega) (by omega) (L.op rfl rfl (O.loadAgg Tryd.isAgg80 Tryd.sizeOf80 rfl rfl (Pairs.row hes10 hil) (L.op rfl rfl (O.alloc Tryd.zeroValue80 (fun b11 w11 hb11 hz11 he11 hB11 => ?_)))))))))))))
      refine L.op rfl rfl (O.storeAgg Tryd.sizeOf80 rfl rfl rfl hB11 (Nat.le_refl _) (by intro u hu; simp at hu; rcases hu with (rfl|rfl) <;> rfl) (fun w12 hu12 hB12 => ?_))
      have hB12 : Blk w12 b11 [.int .i64 (es.getD i (0, 0)).1, .int .i64 (es.getD i (0, 0)).2] 80 := hB12
      have he1012 : Ext w10 w12 := he11.upd hu12 (.inr (by omega))
      refine L.nil (T.seq (T.region (L.op rfl rfl (O.assign rfl (L.nil (T.seq (T.seq (T.region (L.op rfl rfl (O.move rfl (L.op rfl rfl (O.len Tryd.runUnderlying38 rfl (Sl.val (hpm7.keep ((he8.trans he10).trans he1012))) (L.op rfl rfl (O.move rfl (L.nil (T.block (?_)))))))))))))))))
      refine T.loop (σ := Nat) (fun q => [(3, .pointer (some ⟨b4, 0, none⟩)), (4, pl), (5, .int .i64 d), (6, pm), (8, .int .u64 (unTo xs d)), (11, .int .i64 (cutTo es xs i)), (13, .pointer (some ⟨b11, 0, none⟩)), (14, .bool (insTo xs (eA es i) (eB es i) q)), (66, .slice oe es.length ce), (67, .int .i64 (es.length : Int)), (68, .int .i64 i), (72, pm), (73, .int .i64 ((masksOf xs d).length : Int)), (74, .int .i64 q)]) (fun q w' => q ≤ d ∧ Ext w8 w' ∧ Blk w' b11 [.int .i64 (es.getD i (0, 0)).1, .int .i64 (es.getD i (0, 0)).2] 80) (fun q => d - q) (0) ⟨rfl, rfl, rfl, rfl, rfl, rfl, rfl, rfl, rfl, rfl, rfl, rfl, rfl, rfl, trivial⟩ ⟨Nat.zero_le _, he10.trans he1012, hB12⟩ ?_
      rintro q w13 ⟨hq, he13, hB13⟩
      have hpm13 := hpm7.keep (he8.trans he13)
      have hqlt := mask_lt xs (q : Int)
      refine T.seq (T.region (L.op rfl rfl (O.lss_s rfl rfl (fun hlt3 => ?_) (fun hlt3 => ?_))))
      · refine L.nil (?_)
        have hqd : q < d := by rw [hml] at hlt3; omega
        have hdv : ∀ j, mask xs (q : Int) / 2 ^ j < 18446744073709551616 := fun j => Nat.lt_of_le_of_lt (Nat.div_le_self _ _) hqlt
        have hinsq : insTo xs (eA es i) (eB es i) (q + 1) = (insTo xs (eA es i) (eB es i) q || (decide (mask xs (q : Int) / 2 ^ eA es i &&& 1 = 1) && decide (mask xs (q : Int) / 2 ^ eB es i &&& 1 = 1))) := rfl
        refine T.seq (T.cond_true rfl (T.skip (T.seq (T.block (T.seq (T.region (L.op rfl rfl (O.indexAddr Tryd.runUnderlying38 Tryd.sizeOf46 rfl rfl hpm13 (by omega) (by omega) (L.op rfl rfl (O.load Tryd.isAgg46 rfl (masks_at hpm13 hqd) (?_)))))))))))
        cases hins : insTo xs (eA es i) (eB es i) q
        · refine L.op rfl rfl (O.assign rfl (L.nil (T.region (L.op rfl rfl (O.move rfl (L.op rfl rfl (O.move rfl (L.op rfl rfl (O.move rfl (L.op rfl rfl (O.indexAddr_arr Tryd.runUnderlying80 Tryd.sizeOf3 rfl rfl (by decide) (by decide) (L.op rfl rfl (O.load Tryd.isAgg3 rfl (Blk.at hB13 rfl) (L.op rfl rfl (O.shr_u64 rfl rfl rfl hqlt (by omega) (L.op rfl rfl (O.and_u64 (b := 1) rfl rfl (hdv _) (by omega) rfl rfl (L.op rfl rfl (O.eql_s rfl rfl (fun hba => ?_) (fun hba => ?_))))))))))))))))))))
          · have hy1 : decide (mask xs (q : Int) / 2 ^ eA es i &&& 1 = 1) = true := decide_eq_true (by rw [show ((es.getD i (0, 0)).1).toNat = eA es i from rfl] at hba; omega)
            refine L.op rfl rfl (O.move rfl (L.op rfl rfl (O.move rfl (L.op rfl rfl (O.indexAddr_arr Tryd.runUnderlying80 Tryd.sizeOf3 rfl rfl (by decide) (by decide) (L.op rfl rfl (O.load Tryd.isAgg3 rfl (Blk.at hB13 rfl) (L.op rfl rfl (O.shr_u64 rfl rfl rfl hqlt (by omega) (L.op rfl rfl (O.and_u64 (b := 1) rfl rfl (hdv _) (by omega) rfl rfl (L.op rfl rfl (O.eql_s rfl rfl (fun hbb => ?_) (fun hbb => ?_))))))))))))))
            · have hy2 : decide (mask xs (q : Int) / 2 ^ eB es i &&& 1 = 1) = true := decide_eq_true (by rw [show ((es.getD i (0, 0)).2).toNat = eB es i from rfl] at hbb; omega)
              refine L.op rfl rfl (O.pick_true rfl rfl (L.op rfl rfl (O.pick_false rfl rfl (L.op rfl rfl (O.assign rfl (L.nil (T.blk (T.region (L.op rfl rfl (O.add64 rfl rfl (by omega) (L.op rfl rfl (O.move rfl (L.nil (T.again (q + 1) (by omega) ⟨rfl, rfl, rfl, rfl, rfl, rfl, rfl, ?_, rfl, rfl, rfl, rfl, rfl, rfl, trivial⟩ ⟨by omega, he13, hB13⟩))))))))))))))
              · exact congrArg (fun q => some (Value.bool q)) (by rw [hinsq, hins, hy1, hy2]; rfl)
            · have hn2 : decide (mask xs (q : Int) / 2 ^ eB es i &&& 1 = 1) = false := decide_eq_false (fun e => hbb (by rw [show ((es.getD i (0, 0)).2).toNat = eB es i from rfl, e]; rfl))
              refine L.op rfl rfl (O.pick_true rfl rfl (L.op rfl rfl (O.pick_false rfl rfl (L.op rfl rfl (O.assign rfl (L.nil (T.blk (T.region (L.op rfl rfl (O.add64 rfl rfl (by omega) (L.op rfl rfl (O.move rfl (L.nil (T.again (q + 1) (by omega) ⟨rfl, rfl, rfl, rfl, rfl, rfl, rfl, ?_, rfl, rfl, rfl, rfl, rfl, rfl, trivial⟩ ⟨by omega, he13, hB13⟩))))))))))))))
              · exact congrArg (fun q => some (Value.bool q)) (by rw [hinsq, hins, hy1, hn2]; rfl)
          · have hn1 : decide (mask xs (q : Int) / 2 ^ eA es i &&& 1 = 1) = false := decide_eq_false (fun e => hba (by rw [show ((es.getD i (0, 0)).1).toNat = eA es i from rfl, e]; rfl))
            refine L.op rfl rfl (O.move rfl (L.pass rfl rfl (L.pass rfl rfl (L.pass rfl rfl (L.pass rfl rfl (L.pass rfl rfl (L.pass rfl rfl (L.op rfl rfl (O.pick_false rfl rfl (L.op rfl rfl (O.pick_false rfl rfl (L.op rfl rfl (O.assign rfl (L.nil (T.blk (T.region (L.op rfl rfl (O.add64 rfl rfl (by omega) (L.op rfl rfl (O.move rfl (L.nil (T.again (q + 1) (by omega) ⟨rfl, rfl, rfl, rfl, rfl, rfl, rfl, ?_, rfl, rfl, rfl, rfl, rfl, rfl, trivial⟩ ⟨by omega, he13, hB13⟩))))))))))))))))))))))
            · exact congrArg (fun q => some (Value.bool q)) (by rw [hinsq, hins, hn1]; rfl)
        · refine L.op rfl rfl (O.assign rfl (L.nil (T.region (L.op rfl rfl (O.move rfl (L.op rfl rfl (O.move rfl (L.pass rfl rfl (L.pass rfl rfl (L.pass rfl rfl (L.pass rfl rfl (L.pass rfl rfl (L.pass rfl rfl (L.pass rfl rfl (L.pass rfl rfl (L.pass rfl rfl (L.pass rfl rfl (L.pass rfl rfl (L.pass rfl rfl (L.pass rfl rfl (L.pass rfl rfl (L.op rfl rfl (O.pick_true rfl rfl (L.op rfl rfl (O.assign rfl (L.nil (T.blk (T.region (?_)))))))))))))))))))))))))))))
          refine L.op rfl rfl (O.add64 rfl rfl (by omega) (L.op rfl rfl (O.move rfl (L.nil (T.again (q + 1) (by omega) ⟨rfl, rfl, rfl, rfl, rfl, rfl, rfl, ?_, rfl, rfl, rfl, rfl, rfl, rfl, trivial⟩ ⟨by omega, he13, hB13⟩)))))
          · exact congrArg (fun q => some (Value.bool q)) (by rw [hinsq, hins]; rfl)
      · refine L.nil (?_)
        have hqd : q = d := by rw [hml] at hlt3; omega
        subst hqd
        have hea : eA es i < xs.length := by simp only [eA]; omega
        have heb : eB es i < xs.length := by simp only [eB]; omega
        have hif := insTo_iff (xs := xs) (by omega) hea heb (fun i hi => (hlm.2.2 i hi).1) q
        have hlt4 := (hlm.2.2 _ hea).2
        refine T.seq (T.cond_false rfl (T.exit rfl (T.seq (T.region (L.op rfl rfl (O.move rfl (?_)))))))
        cases hins : insTo xs (eA es i) (eB es i) q
        · have hdiff : ¬ xs.getD (eA es i) 0 = xs.getD (eB es i) 0 := fun e => by rw [hif.2 ⟨e, hlt4⟩] at hins; cases hins
          refine L.op rfl rfl (O.not rfl (L.nil (T.cond_true rfl (T.region (L.op rfl rfl (O.move rfl (L.op rfl rfl (O.add64 rfl rfl (by omega) (L.op rfl rfl (O.assign rfl (L.nil (T.blk (T.region (L.op rfl rfl (O.add64 rfl rfl (by omega) (L.op rfl rfl (O.move rfl (L.nil (T.again (i + 1) (by omega) ⟨rfl, rfl, rfl, rfl, rfl, ?_, rfl, rfl, rfl, trivial⟩ ⟨by omega, he13⟩)))))))))))))))))))
          · exact congrArg (fun q : Nat => some (Value.int .i64 q)) (by simp only [cutTo]; rw [if_neg hdiff])
        · have hsame := (hif.1 hins).1
          refine L.op rfl rfl (O.not rfl (L.nil (T.cond_false rfl (T.skip (T.blk (T.region (L.op rfl rfl (O.add64 rfl rfl (by omega) (L.op rfl rfl (O.move rfl (L.nil (T.again (i + 1) (by omega) ⟨rfl, rfl, rfl, rfl, rfl, ?_, rfl, rfl, rfl, trivial⟩ ⟨by omega, he13⟩))))))))))))
          · exact congrArg (fun q : Nat => some (Value.int .i64 q)) (by simp only [cutTo]; rw [if_pos hsame]; rfl)
    · refine L.nil (?_)
      have hie : i = es.length := by omega
      subst hie
      have he610 := he68.trans he10
      have hbn : 1 ≤ bit64 n := by rw [bit64_eq (by omega)]; exact Nat.one_le_two_pow
      have hall := un_all hxl (by omega) (fun i hi => (hlm.2.2 i hi).1) (fun i hi => (hlm.2.2 i hi).2)
      have hcut : cutOf n es xs d = (cutTo es xs es.length : Int) := by rw [cutOf, if_pos hpe]
      refine T.seq (T.cond_false rfl (T.exit rfl (T.seq (?_))))
      refine T.anyE mixed 15 [8, 3, 11, 4, 5] rfl [.is _, .is _, .is _, .is _, .is _, .is _, .is _, .is _, .such (NumF (cutTo es xs es.length)), .is _, .is _, .is _, .is (.tuple #[.int .i64 (cutTo es xs es.length), .int .i64 0]), .is _, .is _] [[], [], [1], [2], [3], [0, 4], [5], [6], [7, 6], [6], [6], [6], [9, 10, 11, 6], [12, 6], [12, 6]] [[], [], [1], [1, 2], [1, 2, 3], [0, 1, 2, 3, 4], [0, 1, 2, 3, 4, 5], [0, 1, 2, 3, 4, 5, 6], [0, 1, 2, 3, 4, 5, 6, 7], [0, 1, 2, 3, 4, 5, 6], [0, 1, 2, 3, 4, 5, 6], [0, 1, 2, 3, 4, 5, 6], [0, 1, 2, 3, 4, 5, 6, 7, 8, 9, 10, 11], [0, 1, 2, 3, 4, 5, 6, 7, 8, 9, 10, 11, 12], [0, 1, 2, 3, 4, 5, 6, 7, 8, 9, 10, 11, 12], [0, 1, 2, 3, 4, 5, 6, 7, 8, 9, 10, 11, 12, 13, 14], [0, 1, 2, 3, 4, 5, 6, 7, 8, 9, 10, 11, 12, 13, 14, 15], [0, 1, 2, 3, 4, 5, 6, 7, 8, 9, 10, 11, 12, 13, 14, 15, 16]] (by kernel_rfl) (by kernel_rfl) rfl (by kernel_rfl) ⟨NumF.st, trivial⟩ ⟨fun wx hx => Ob.op rfl (O.move rfl ⟨Keep.refl _ _, rfl⟩),
          fun wx hx => Ob.op rfl (O.fieldAddr Tryd.runUnderlying33 rfl Tryd.sizeOf3 rfl ⟨Keep.refl _ _, rfl⟩),
          fun wx hx => Ob.op rfl (O.load Tryd.isAgg3 rfl (Blk.at (hB6.keep (he610.trans hx) (Nat.zero_le _)) rfl) ⟨Keep.refl _ _, rfl⟩),
          fun wx hx => Ob.op rfl (O.bit_u64 rfl rfl (by omega) ⟨Keep.refl _ _, rfl⟩),
          fun wx hx => Ob.op rfl (O.sub_u64 (a := bit64 n) (b := 1) rfl rfl (bit64_lt _) (by omega) rfl rfl (by omega) ⟨Keep.refl _ _, rfl⟩),
          fun wx hx => Ob.op rfl (O.eql_t rfl rfl (by rw [hall]) ⟨Keep.refl _ _, rfl⟩),
          fun wx hx => Ob.op rfl (O.move rfl ⟨Keep.refl _ _, rfl⟩),
          fun wx hx => Ob.op rfl (O.move rfl ⟨Keep.refl _ _, rfl⟩),
          fun wx hx => Ob.op rfl (O.call (xs := [.tmp 108]) Tryd.call40 rfl rfl (number_calls (cutTo es xs es.length) wx) (fun v wy h => ⟨h.1, _, h.2.1, h.2.2⟩)),
          fun wx hx => Ob.op rfl (O.loadAgg Tryd.isAgg33 Tryd.sizeOf33 rfl rfl ((hB6.keep (he610.trans hx) (Nat.zero_le _)).row) ⟨Keep.refl _ _, rfl⟩),
          fun wx hx => Ob.op rfl (O.move rfl ⟨Keep.refl _ _, rfl⟩),
          fun wx hx => Ob.op rfl (O.move rfl ⟨Keep.refl _ _, rfl⟩),
          fun wx hx => Ob.op rfl (O.call (xs := [.tmp 110, .tmp 111, .tmp 112]) Tryd.call19 rfl rfl (Cut_calls 0 0 n d _ _ es xs wx (hes6.keep (he610.trans hx)) (hx6.keep (he610.trans hx))) (fun v wy h => ⟨h.2, by rw [h.1, hcut, hpe]; rfl⟩)),
          fun wx hx => Ob.op rfl (O.extract rfl rfl ⟨Keep.refl _ _, rfl⟩),
          fun wx hx => Ob.op rfl (O.extract rfl rfl ⟨Keep.refl _ _, rfl⟩),
          trivial⟩ (fun w14 he14 v109 hv109 => ?_)
      obtain ⟨b15, rfl, hB15⟩ := hv109
      refine L.op rfl rfl (O.call (xs := [.tmp 114, .tmp 115]) Tryd.call66 rfl rfl (number1_calls b15 (cutTo es xs es.length) (cutTo es xs es.length) 0 w14 hB15) (fun v16 w16 hq => ?_))
      obtain ⟨hv16, hw16⟩ := hq
      rw [decide_eq_true rfl] at hv16
      obtain rfl : v16 = .bool true := hv16
      subst hw16
      refine L.op rfl rfl (O.pick_true rfl rfl (L.op rfl rfl (O.assign rfl (L.nil (T.ret1 Tryd.results8 rfl ⟨rfl, (he06.trans he610).trans he14⟩)))))

end Go.Proofs.YthjdljbghjelfaaDoor
set_option linter.unusedVariables false
set_option linter.unusedSimpArgs false
set_option maxRecDepth 20000
namespace Go.Proofs.YthjdljbghjelfaaDoor
open Go Go.E RowKit ChangeShapes WideShapes
attribute [local irreducible] Go.E.T Go.E.L Go.E.O Go.E.Ob

set_option maxRecDepth 100000 in
theorem planParts_lifted (os : Os) (started : os.Started) (H : Type) (enc : TypeId × Value → H) :
    ReturnsInHanded {} Tryd.checked os 8 .any (fun w args => (Rows.planPartsSpec.pre enc Tryd.prog Tryd.f8 [] false w args ∧ laidMetH Tryd.prog laidL w) ∧ sizedMet enc Tryd.prog Tryd.f8 (OpenSpec.ofChange Rows.planPartsSpec) false w args)
      (Rows.planPartsSpec.post enc Tryd.prog Tryd.f8 false true false false) := by
  refine law_lifted (C := Tryd.checked) (X := fun w _ => laidMetH Tryd.prog laidL w) (tb := 4) (ts := [25]) (fun _ _ _ hh h => h.of_heap hh) own started (by kernel_rfl) Tryd.func8
    rfl Tryd.params8 (fun ds h => ?_) (by kernel_rfl) Tryd.underlying4 laidOut (by kernel_rfl)
    (ChangeSpec.witness_at (enc := enc) (C := Tryd.checked) (os := os) (X := fun w _ => laidMetH Tryd.prog laidL w) false (laidWorld os) #[.agg #[.int .u8 0, .slice none 0 0, .slice none 0 0, .slice none 0 0, .int .u8 0]] 8 rfl (by kernel_rfl) (by kernel_rfl) (by kernel_rfl) (by kernel_rfl) (by kernel_rfl) (laidWorld_met os _)) ?_
  · obtain ⟨a0, rfl⟩ := one_of h
    rfl
  · intro W vs hl ha hL
    obtain ⟨a0, rfl⟩ := one_of hl
    obtain ⟨N, K, pv, mv, lv, ps, ls, ms, rfl, hD⟩ := draft_of (ha 0 _ _ rfl rfl)
    exact PlanParts_calls N K pv mv lv ps ls ms W hD (tab_of_laid hL)
theorem planParts_over : Rows.PlanPartsSaid :=
  OpenClaim.holds_of_wide 8 Tryd.f8 rfl rfl rfl rfl rfl rfl rfl ⟨rfl, rfl, rfl, rfl, rfl⟩ rfl rfl rfl rfl rfl (by kernel_rfl) Tryd.func8 (by kernel_rfl)
    (of_decide_eq_true (by kernel_rfl)) (by unfold Func.isWrapper; first | (rw [if_pos (by decide +kernel)]; kernel_rfl) | (rw [if_neg (by decide +kernel)]; exact ⟨rfl, rfl⟩))
    (fun os started H enc _ => planParts_lifted os started H enc)
theorem planParts_holds : Rows.PlanPartsCardSaid :=
  Claim7.holds_tied_plain_at .later [] [.data] true (true, "70ce77e6e465cb6f7bb54785c29c1fee9bd557921552f81cc09119473f9a84dc") false
    planParts_over (fun _ h => by cases h) (by kernel_rfl) (fun _ h => by cases h) planParts_row_tie rfl ⟨rfl, rfl⟩ (by kernel_rfl) rfl
    (fun f fn hf hfn => by
      obtain rfl : f = 8 := Option.some.inj ((show Tryd.prog.funcNamed Rows.planPartsRow.func = some 8 by kernel_rfl).symm.trans hf) |>.symm
      obtain rfl : fn = Tryd.f8 := (Option.some.inj (Tryd.func8.symm.trans hfn)).symm
      exact ⟨by kernel_rfl, fun j t ht => by
        rw [Tryd.params8] at ht
        have hall : (([25] : List TypeId).all fun t => !Tryd.prog.wantsStandIn t) = true := by kernel_rfl
        have := List.all_eq_true.1 hall t (List.mem_of_getElem? (i := j) (by simpa using ht))
        have h2 : Tryd.prog.wantsStandIn t = false := by simpa using this
        exact h2⟩)
    (by kernel_rfl)
#print axioms planParts_holds
end Go.Proofs.YthjdljbghjelfaaDoor
