/-
  Walks of the plans' functions (3). Conditions: those of each statement.
-/
import Derived.Test.YthjdljbghjelfaaDoorMd
import Derived.Test.YthjdljbghjelfaaDoorMb
set_option linter.unusedVariables false
set_option linter.unusedSimpArgs false
set_option maxRecDepth 20000
namespace Go.Proofs.YthjdljbghjelfaaDoor
open Go Go.E
attribute [local irreducible] Go.E.T Go.E.L Go.E.O Go.E.Ob

theorem maskTo_bit (xs : List Int) (d : Int) (b : Nat) : ∀ i, i ≤ 64 → ((maskTo xs d i).testBit b = true ↔ b < i ∧ xs.getD b 0 = d)
  | 0, _ => by simp [maskTo]
  | i + 1, h => by
    have ih := maskTo_bit xs d b i (by omega)
    simp only [maskTo]
    split
    · rename_i hx
      rw [Nat.testBit_or, testBit_bit64 _ _ (by omega), Bool.or_eq_true, decide_eq_true_eq, ih]
      constructor
      · rintro (⟨h1, h2⟩ | rfl)
        · exact ⟨by omega, h2⟩
        · exact ⟨by omega, hx⟩
      · rintro ⟨h1, h2⟩
        by_cases hb : b = i
        · exact .inr hb.symm
        · exact .inl ⟨by omega, h2⟩
    · rename_i hx
      rw [ih]
      constructor
      · rintro ⟨h1, h2⟩; exact ⟨by omega, h2⟩
      · rintro ⟨h1, h2⟩
        by_cases hb : b = i
        · subst hb; exact absurd h2 hx
        · exact ⟨by omega, h2⟩
theorem mask_bit {xs : List Int} (h : xs.length ≤ 64) (d : Int) (b : Nat) : (mask xs d).testBit b = true ↔ b < xs.length ∧ xs.getD b 0 = d := maskTo_bit xs d b _ h
/-- An edge leads from a unit to a district. -/
def Bor (es : List (Int × Int)) (xs : List Int) (u : Nat) (d : Int) (j : Nat) : Prop := (eA es j = u ∧ xs.getD (eB es j) 0 = d) ∨ (eB es j = u ∧ xs.getD (eA es j) 0 = d)
theorem bor_iff {N : Int} {es : List (Int × Int)} {xs : List Int} (hg : Good N es) (hn : (xs.length : Int) = N) (u : Nat) (d : Int) : (∃ j, j < es.length ∧ Bor es xs u d j) ↔ ¬ nbTo es (u : Int) es.length &&& mask xs d = 0 := by
  have hN := hg.2.1
  have hl : xs.length ≤ 64 := by omega
  constructor
  · rintro ⟨j, hj, hb⟩ h0
    have hgj := hg.2.2 j hj
    rcases hb with ⟨h1, h2⟩ | ⟨h1, h2⟩
    · have h3 := (nbTo_bit hg u (eB es j) _ (Nat.le_refl _)).2 ⟨j, hj, .inl ⟨h1, rfl⟩⟩
      have h4 := (mask_bit hl d (eB es j)).2 ⟨by simp only [eB]; omega, h2⟩
      have := congrArg (fun m => Nat.testBit m (eB es j)) h0
      simp only [Nat.testBit_and, h3, h4] at this; simp at this
    · have h3 := (nbTo_bit hg u (eA es j) _ (Nat.le_refl _)).2 ⟨j, hj, .inr ⟨h1, rfl⟩⟩
      have h4 := (mask_bit hl d (eA es j)).2 ⟨by simp only [eA]; omega, h2⟩
      have := congrArg (fun m => Nat.testBit m (eA es j)) h0
      simp only [Nat.testBit_and, h3, h4] at this; simp at this
  · intro h0
    obtain ⟨b, hb⟩ := Nat.exists_testBit_of_ne_zero h0
    rw [Nat.testBit_and, Bool.and_eq_true] at hb
    obtain ⟨j, hj, hh⟩ := (nbTo_bit hg u b _ (Nat.le_refl _)).1 hb.1
    have h2 := ((mask_bit hl d b).1 hb.2).2
    rcases hh with ⟨h3, h4⟩ | ⟨h3, h4⟩
    · exact ⟨j, hj, .inl ⟨h3, by rw [h4]; exact h2⟩⟩
    · exact ⟨j, hj, .inr ⟨h3, by rw [h4]; exact h2⟩⟩
theorem borders_calls (lo lo' n u : Nat) (d : Int) (pe pp : Value) (es : List (Int × Int)) (xs : List Int) (w : World) (hp : Pairs lo w pe es) (hx : Ints .i64 lo' w pp xs) (hg : Good n es) (hn : xs.length = n) :
    Calls Tryd.prog 54 #[gV n pe, pp, .int .i64 u, .int .i64 d] w (Ret fun v w' => Ext w w' ∧ v = .bool (!decide (nbTo es (u : Int) es.length &&& mask xs d = 0))) := by
  have hle := Sl.le hp
  have hbi := bor_iff (xs := xs) hg (by omega) u d
  have hyes : ∀ j, j < es.length → Bor es xs u d j → (!decide (nbTo es (u : Int) es.length &&& mask xs d = 0)) = true := fun j hj hb => by
    rw [decide_eq_false (hbi.1 ⟨j, hj, hb⟩)]; rfl
  refine T.enter (vs := [gV n pe, pp, .int .i64 u, .int .i64 d]) Tryd.func54 rfl Tryd.ntmps54 rfl ?_
  refine T.seq (T.region (L.op rfl rfl (O.box rfl (fun b1 w1 hb1 hz1 he1 hB1 => ?_))))
  have hp1 := hp.keep (he1.mono (Nat.zero_le lo))
  have hx1 := hx.keep (he1.mono (Nat.zero_le lo'))
  refine L.op rfl rfl (O.assign rfl (L.nil (T.seq (T.seq (T.region (L.op rfl rfl (O.assign rfl (L.nil (T.block (?_))))))))))
  refine T.loop (σ := Nat) (fun i => [(1, pp), (2, .int .i64 u), (3, .int .i64 d), (4, .pointer (some ⟨b1, 0, none⟩)), (9, .int .i64 i)]) (fun i w' => i ≤ es.length ∧ Ext w1 w' ∧ ∀ j, j < i → ¬ Bor es xs u d j) (fun i => es.length - i) (0) ⟨rfl, rfl, rfl, rfl, rfl, trivial⟩ ⟨Nat.zero_le _, Keep.refl _ _, fun j hj => absurd hj (Nat.not_lt_zero _)⟩ ?_
  rintro i w2 ⟨hi, he2, hno⟩
  have hB2 := hB1.keep he2 (Nat.zero_le _)
  have hp2 := hp1.keep (he2.mono (Nat.zero_le lo))
  have hx2 := hx1.keep (he2.mono (Nat.zero_le lo'))
  refine T.seq (T.seq (T.region (L.op rfl rfl (O.move rfl (L.op rfl rfl (O.fieldAddr Tryd.runUnderlying33 rfl Tryd.sizeOf31 rfl (L.op rfl rfl (O.load Tryd.isAgg31 rfl (Blk.at hB2 rfl) (L.op rfl rfl (O.len Tryd.runUnderlying31 rfl (Sl.val hp2) (L.op rfl rfl (O.lss_s rfl rfl (fun hlt => ?_) (fun hlt => ?_)))))))))))))
  · refine L.nil (?_)
    have hlt' : i < es.length := by omega
    have hgi := hg.2.2 i hlt'
    have hnext : ¬ Bor es xs u d i → ∀ j, j < i + 1 → ¬ Bor es xs u d j := fun h j hj => by
      by_cases hji : j = i
      · subst hji; exact h
      · exact hno j (by omega)
    refine T.cond_true rfl (T.skip (T.seq (T.block (T.seq (?_)))))
    refine T.par mixed 13 [4, 9] rfl [.is _, .is _, .is _, .is _, .is _, .is _, .is _, .is _, .is _, .is _, .is _, .is _, .is _] [[], [0], [], [1, 2], [3], [4], [], [6], [], [7, 8], [9], [10], [5]] (by kernel_rfl) rfl ⟨trivial, trivial, trivial, trivial, trivial, trivial, trivial, trivial, trivial, trivial, trivial, trivial, trivial, trivial⟩ ⟨fun wx hx => Ob.op rfl (O.fieldAddr Tryd.runUnderlying33 rfl Tryd.sizeOf31 rfl ⟨Keep.refl _ _, rfl⟩),
        fun wx hx => Ob.op rfl (O.load Tryd.isAgg31 rfl (Blk.at (hB2.keep hx (Nat.zero_le _)) rfl) ⟨Keep.refl _ _, rfl⟩),
        fun wx hx => Ob.op rfl (O.move rfl ⟨Keep.refl _ _, rfl⟩),
        fun wx hx => Ob.op rfl (O.indexAddr Tryd.runUnderlying31 Tryd.sizeOf80 rfl rfl (hp2.keep (hx.mono (Nat.zero_le lo))) (by omega) (by omega) ⟨Keep.refl _ _, rfl⟩),
        fun wx hx => Ob.op rfl (O.indexAddr_arr Tryd.runUnderlying80 Tryd.sizeOf3 rfl rfl (by decide) (by decide) ⟨Keep.refl _ _, rfl⟩),
        fun wx hx => Ob.op rfl (O.load Tryd.isAgg3 rfl ((hp2.keep (hx.mono (Nat.zero_le lo))).at0 hlt') ⟨Keep.refl _ _, rfl⟩),
        fun wx hx => Ob.op rfl (O.fieldAddr Tryd.runUnderlying33 rfl Tryd.sizeOf31 rfl ⟨Keep.refl _ _, rfl⟩),
        fun wx hx => Ob.op rfl (O.load Tryd.isAgg31 rfl (Blk.at (hB2.keep hx (Nat.zero_le _)) rfl) ⟨Keep.refl _ _, rfl⟩),
        fun wx hx => Ob.op rfl (O.move rfl ⟨Keep.refl _ _, rfl⟩),
        fun wx hx => Ob.op rfl (O.indexAddr Tryd.runUnderlying31 Tryd.sizeOf80 rfl rfl (hp2.keep (hx.mono (Nat.zero_le lo))) (by omega) (by omega) ⟨Keep.refl _ _, rfl⟩),
        fun wx hx => Ob.op rfl (O.indexAddr_arr Tryd.runUnderlying80 Tryd.sizeOf3 rfl rfl (by decide) (by decide) ⟨Keep.refl _ _, rfl⟩),
        fun wx hx => Ob.op rfl (O.load Tryd.isAgg3 rfl ((hp2.keep (hx.mono (Nat.zero_le lo))).at1 hlt') ⟨Keep.refl _ _, rfl⟩),
        fun wx hx => Ob.op rfl (O.assign rfl ⟨Keep.refl _ _, rfl⟩),
        trivial⟩ (fun w14 he14 => ?_)
    have hx3 := hx2.keep (he14.mono (Nat.zero_le lo'))
    have he := (he1.trans he2).trans he14
    refine L.op rfl rfl (O.assign rfl (L.nil (T.seq (T.region (L.op rfl rfl (O.move rfl (L.op rfl rfl (O.move rfl (L.op rfl rfl (O.eql_s rfl rfl (fun ha => ?_) (fun ha => ?_)))))))))))
    · refine L.op rfl rfl (O.move rfl (L.op rfl rfl (O.move rfl (L.op rfl rfl (O.move rfl (L.op rfl rfl (O.indexAddr Tryd.runUnderlying35 Tryd.sizeOf3 rfl rfl hx3 (by omega) (by omega) (L.op rfl rfl (O.load Tryd.isAgg3 rfl (Ints.cell hx3 (by omega) (by omega)) (L.op rfl rfl (O.move rfl (L.op rfl rfl (O.eql_s rfl rfl (fun hd1 => ?_) (fun hd1 => ?_))))))))))))))
      · refine L.op rfl rfl (O.pick_true rfl rfl (L.op rfl rfl (O.move rfl (L.pass rfl rfl (L.pass rfl rfl (L.pass rfl rfl (L.pass rfl rfl (L.pass rfl rfl (L.pass rfl rfl (L.pass rfl rfl (L.pass rfl rfl (L.pass rfl rfl (L.pass rfl rfl (L.pass rfl rfl (L.op rfl rfl (O.pick_true rfl rfl (L.nil (T.cond_true rfl (T.seq (T.region (L.op rfl rfl (O.assign rfl (L.nil (T.ret1 Tryd.results54 rfl ⟨he, by rw [hyes i hlt' (.inl ⟨by simp only [eA]; omega, hd1⟩)]⟩))))))))))))))))))))))))
      · refine L.op rfl rfl (O.pick_true rfl rfl (L.op rfl rfl (O.move rfl (L.op rfl rfl (O.move rfl (L.op rfl rfl (O.move rfl (L.op rfl rfl (O.eql_f rfl rfl (by omega) (L.op rfl rfl (O.move rfl (L.pass rfl rfl (L.pass rfl rfl (L.pass rfl rfl (L.pass rfl rfl (L.pass rfl rfl (L.pass rfl rfl (L.op rfl rfl (O.pick_false rfl rfl (L.op rfl rfl (O.pick_false rfl rfl (L.nil (T.cond_false rfl (T.skip (T.blk (T.region (L.op rfl rfl (O.move rfl (L.op rfl rfl (O.add64 rfl rfl (by omega) (L.op rfl rfl (O.assign rfl (L.nil (T.again (i + 1) (by omega) ⟨rfl, rfl, rfl, rfl, rfl, trivial⟩ ⟨hlt', he2.trans he14, hnext (by rintro (⟨h1, h2⟩ | ⟨h1, h2⟩); exact hd1 h2; simp only [eB] at h1; omega)⟩))))))))))))))))))))))))))))))))))
    · refine L.op rfl rfl (O.move rfl (L.pass rfl rfl (L.pass rfl rfl (L.pass rfl rfl (L.pass rfl rfl (L.pass rfl rfl (L.pass rfl rfl (L.op rfl rfl (O.pick_false rfl rfl (L.op rfl rfl (O.move rfl (L.op rfl rfl (O.move rfl (L.op rfl rfl (O.move rfl (L.op rfl rfl (O.eql_s rfl rfl (fun hb => ?_) (fun hb => ?_))))))))))))))))))
      · refine L.op rfl rfl (O.move rfl (L.op rfl rfl (O.move rfl (L.op rfl rfl (O.move rfl (L.op rfl rfl (O.indexAddr Tryd.runUnderlying35 Tryd.sizeOf3 rfl rfl hx3 (by omega) (by omega) (L.op rfl rfl (O.load Tryd.isAgg3 rfl (Ints.cell hx3 (by omega) (by omega)) (L.op rfl rfl (O.move rfl (L.op rfl rfl (O.eql_s rfl rfl (fun hd2 => ?_) (fun hd2 => ?_))))))))))))))
        · refine L.op rfl rfl (O.pick_true rfl rfl (L.op rfl rfl (O.pick_false rfl rfl (L.nil (T.cond_true rfl (T.seq (T.region (L.op rfl rfl (O.assign rfl (L.nil (T.ret1 Tryd.results54 rfl ⟨he, by rw [hyes i hlt' (.inr ⟨by simp only [eB]; omega, hd2⟩)]⟩)))))))))))
        · refine L.op rfl rfl (O.pick_true rfl rfl (L.op rfl rfl (O.pick_false rfl rfl (L.nil (T.cond_false rfl (T.skip (T.blk (T.region (L.op rfl rfl (O.move rfl (L.op rfl rfl (O.add64 rfl rfl (by omega) (L.op rfl rfl (O.assign rfl (L.nil (T.again (i + 1) (by omega) ⟨rfl, rfl, rfl, rfl, rfl, trivial⟩ ⟨hlt', he2.trans he14, hnext (by rintro (⟨h1, h2⟩ | ⟨h1, h2⟩); simp only [eA] at h1; omega; exact hd2 h2)⟩))))))))))))))))
      · refine L.op rfl rfl (O.move rfl (L.pass rfl rfl (L.pass rfl rfl (L.pass rfl rfl (L.pass rfl rfl (L.pass rfl rfl (L.pass rfl rfl (L.op rfl rfl (O.pick_false rfl rfl (L.op rfl rfl (O.pick_false rfl rfl (L.nil (T.cond_false rfl (T.skip (T.blk (T.region (L.op rfl rfl (O.move rfl (L.op rfl rfl (O.add64 rfl rfl (by omega) (L.op rfl rfl (O.assign rfl (L.nil (T.again (i + 1) (by omega) ⟨rfl, rfl, rfl, rfl, rfl, trivial⟩ ⟨hlt', he2.trans he14, hnext (by rintro (⟨h1, h2⟩ | ⟨h1, h2⟩); simp only [eA] at h1; omega; simp only [eB] at h1; omega)⟩))))))))))))))))))))))))
  · refine L.nil (?_)
    obtain rfl : i = es.length := by omega
    refine T.cond_false rfl (T.exit rfl (T.seq (T.region (L.op rfl rfl (O.assign rfl (L.nil (T.ret1 Tryd.results54 rfl ⟨he1.trans he2, ?_⟩)))))))
    have h0 : nbTo es (u : Int) es.length &&& mask xs d = 0 := Classical.byContradiction fun h => by
      obtain ⟨j, hj, hb⟩ := hbi.2 h
      exact hno j hj hb
    rw [decide_eq_true h0]; rfl

end Go.Proofs.YthjdljbghjelfaaDoor
set_option linter.unusedVariables false
set_option linter.unusedSimpArgs false
set_option maxRecDepth 20000
namespace Go.Proofs.YthjdljbghjelfaaDoor
open Go Go.E
attribute [local irreducible] Go.E.T Go.E.L Go.E.O Go.E.Ob

theorem RMoves_calls (lo lo' : Nat) (N k : Int) (pe pp : Value) (es : List (Int × Int)) (xs : List Int) (w : World) (hp : Pairs lo w pe es) (hx : Ints .i64 lo' w pp xs) :
    Calls Tryd.prog 22 #[gV N pe, pp, .int .i64 k] w (Ret fun v w' => MovesPost N es xs k w v w') := by
  refine T.enter (vs := [gV N pe, pp, .int .i64 k]) Tryd.func22 rfl Tryd.ntmps22 rfl ?_
  refine T.seq (T.region (L.op rfl rfl (O.box rfl (fun b1 w1 hb1 hz1 he1 hB1 => ?_))))
  refine L.op rfl rfl (O.assign rfl (L.op rfl rfl (O.assign rfl (L.nil (T.seq (T.seq (T.region (L.op rfl rfl (O.loadAgg Tryd.isAgg33 Tryd.sizeOf33 rfl rfl hB1.row (L.op rfl rfl (O.move rfl (L.op rfl rfl (O.move rfl (L.op rfl rfl (O.call (xs := [.tmp 13, .tmp 14, .tmp 15]) Tryd.call17 rfl rfl (RPCheck_calls lo lo' N k pe pp es xs w1 (hp.keep (he1.mono (Nat.zero_le lo))) (hx.keep (he1.mono (Nat.zero_le lo')))) (fun v2 w2 hq => ?_))))))))))))))))
  obtain ⟨rfl, he2⟩ := hq
  have he02 := he1.trans he2
  have hB2 := hB1.keep he2 (Nat.zero_le _)
  refine L.op rfl rfl (O.assign rfl (L.nil (T.seq (T.region (L.op rfl rfl (O.move rfl (L.op rfl rfl (O.neq_s rfl rfl (fun hE => ?_) (fun hE => ?_)))))))))
  · refine L.nil (T.cond_true rfl (T.seq (T.region (L.op rfl rfl (O.move rfl (L.op rfl rfl (O.assign rfl (L.op rfl rfl (O.assign rfl (L.nil (T.ret2 Tryd.results22 rfl rfl ⟨he02, _, rfl, by rw [if_neg hE]; exact Sl.nil _ _ _⟩)))))))))))
  · refine L.nil (?_)
    obtain ⟨hge, hk1, hk8, hlen, hl, hu⟩ := planOk_of hE
    obtain ⟨kk, rfl⟩ : ∃ kk : Nat, k = (kk : Int) := ⟨k.toNat, by omega⟩
    obtain ⟨n, rfl⟩ : ∃ n : Nat, N = (n : Int) := ⟨N.toNat, by omega⟩
    have hgood := Good.of hge
    have hm := labels_mem hl
    have hmv := moves_len (es := es) (xs := xs) (k := kk) (n := n) (by omega) (by omega)
    refine T.cond_false rfl (T.skip (T.seq (T.region (L.op rfl rfl (O.assign rfl (L.nil (T.seq (T.seq (T.region (L.op rfl rfl (O.assign rfl (L.nil (T.block (?_))))))))))))))
    refine T.loop (σ := Nat × List Mv × Value) (fun s => [(1, pp), (2, .int .i64 kk), (3, .pointer (some ⟨b1, 0, none⟩)), (9, s.2.2), (10, .int .i64 s.1)]) (fun s w' => s.1 ≤ n ∧ Ext w2 w' ∧ w'.ownsRow w2.heap.size 51 3 s.2.2 s.2.1.length (mcells s.2.1) ∧ s.2.1 ++ allFrom es xs kk s.1 (n - s.1) = movesOf es xs kk n) (fun s => n - s.1) ((0, [], .slice none 0 0)) ⟨rfl, rfl, rfl, rfl, rfl, trivial⟩ ⟨Nat.zero_le _, Keep.refl _ _, owns_nil _ _ _ _, rfl⟩ ?_
    rintro ⟨u, done, out⟩ w3 ⟨hu3, he3, hO3, hd3⟩
    simp only at hu3 he3 hO3 hd3
    have hB3 := hB2.keep he3 (Nat.zero_le _)
    have hx3 := hx.keep ((he02.trans he3).mono (Nat.zero_le lo'))
    refine T.seq (T.seq (T.region (L.op rfl rfl (O.move rfl (L.op rfl rfl (O.fieldAddr Tryd.runUnderlying33 rfl Tryd.sizeOf3 rfl (L.op rfl rfl (O.load Tryd.isAgg3 rfl (Blk.at hB3 rfl) (L.op rfl rfl (O.lss_s rfl rfl (fun hlt => ?_) (fun hlt => ?_)))))))))))
    · refine L.nil (?_)
      have hlt' : u < n := by simp only at hlt; omega
      have hfrom := hm.2.2 u (by omega)
      refine T.cond_true rfl (T.skip (T.seq (T.block (T.seq (?_)))))
      refine T.par mixed 9 [1, 10] rfl [.is _, .is _, .is _, .is _, .is _, .is _, .is _, .is _, .is _] [[], [], [], [1, 2], [3], [0, 4], [], [6], [5, 7]] (by kernel_rfl) rfl ⟨trivial, trivial, trivial, trivial, trivial, trivial, trivial, trivial, trivial, trivial⟩ ⟨fun wx hx => Ob.op rfl (O.move rfl ⟨Keep.refl _ _, rfl⟩),
          fun wx hx => Ob.op rfl (O.move rfl ⟨Keep.refl _ _, rfl⟩),
          fun wx hx => Ob.op rfl (O.move rfl ⟨Keep.refl _ _, rfl⟩),
          fun wx hx => Ob.op rfl (O.indexAddr Tryd.runUnderlying35 Tryd.sizeOf3 rfl rfl (hx3.keep (hx.mono (Nat.zero_le _))) (by omega) (by omega) ⟨Keep.refl _ _, rfl⟩),
          fun wx hx => Ob.op rfl (O.load Tryd.isAgg3 rfl (Ints.at (hx3.keep (hx.mono (Nat.zero_le _))) (by omega)) ⟨Keep.refl _ _, rfl⟩),
          fun wx hx => Ob.op rfl (O.call (xs := [.tmp 26, .tmp 30]) Tryd.call48 rfl rfl (RMask_calls lo' pp xs (xs.getD u 0) wx (hx3.keep (hx.mono (Nat.zero_le _)))) (fun v wy h => ⟨Keep.of_eq h.2, h.1⟩)),
          fun wx hx => Ob.op rfl (O.move rfl ⟨Keep.refl _ _, rfl⟩),
          fun wx hx => Ob.op rfl (O.bit_u64 rfl rfl (by omega) ⟨Keep.refl _ _, rfl⟩),
          fun wx hx => Ob.op rfl (O.andNot_u64 rfl rfl (mask_lt _ _) (bit64_lt _) rfl rfl ⟨Keep.refl _ _, rfl⟩),
          trivial⟩ (fun w4 he4 => ?_)
      rw [allFrom_step hlt'] at hd3
      refine L.op rfl rfl (O.assign rfl (L.nil (T.seq (T.region (L.op rfl rfl (O.assign rfl (L.nil (T.block (?_)))))))))
      refine T.loop (σ := Nat × List Mv × Value) (fun s => [(1, pp), (2, .int .i64 kk), (3, .pointer (some ⟨b1, 0, none⟩)), (9, s.2.2), (10, .int .i64 u), (11, .int .u64 (restOf xs u)), (12, .int .i64 s.1)]) (fun s w' => s.1 ≤ kk ∧ Ext w2 w' ∧ w'.ownsRow w2.heap.size 51 3 s.2.2 s.2.1.length (mcells s.2.1) ∧ s.2.1 ++ (rowFrom es xs u s.1 (kk - s.1) ++ allFrom es xs kk (u + 1) (n - (u + 1))) = movesOf es xs kk n) (fun s => kk - s.1) ((0, done, out)) ⟨rfl, rfl, rfl, rfl, rfl, rfl, rfl, trivial⟩ ⟨Nat.zero_le _, he3.trans he4, owns_keep hO3 he4 (Nat.zero_le _), hd3⟩ ?_
      rintro ⟨d, done5, out5⟩ w5 ⟨hd5', he5, hO5, hd5⟩
      simp only at hd5' he5 hO5 hd5
      refine T.seq (T.seq (T.region (L.op rfl rfl (O.move rfl (L.op rfl rfl (O.move rfl (L.op rfl rfl (O.lss_s rfl rfl (fun hlt2 => ?_) (fun hlt2 => ?_)))))))))
      · refine L.nil (?_)
        have hlt2' : d < kk := by simp only at hlt2; omega
        have hB5 := hB2.keep he5 (Nat.zero_le _)
        have hx5 := hx.keep ((he02.trans he5).mono (Nat.zero_le lo'))
        have hp5 := hp.keep ((he02.trans he5).mono (Nat.zero_le lo))
        rw [rowFrom_step hlt2'] at hd5
        have hskip : okMove es xs u d = false → done5 ++ (rowFrom es xs u (d + 1) (kk - (d + 1)) ++ allFrom es xs kk (u + 1) (n - (u + 1))) = movesOf es xs kk n := fun h => by rw [if_neg (by rw [h]; simp)] at hd5; exact hd5
        refine T.cond_true rfl (T.skip (T.seq (T.block (T.seq (T.region (L.op rfl rfl (O.move rfl (L.op rfl rfl (O.move rfl (L.op rfl rfl (O.move rfl (L.op rfl rfl (O.indexAddr Tryd.runUnderlying35 Tryd.sizeOf3 rfl rfl hx5 (by omega) (by omega) (L.op rfl rfl (O.load Tryd.isAgg3 rfl (Ints.at hx5 (by omega)) (L.op rfl rfl (O.neq_s rfl rfl (fun hto => ?_) (fun hto => ?_))))))))))))))))))
        · refine L.op rfl rfl (O.move rfl (L.op rfl rfl (O.loadAgg Tryd.isAgg33 Tryd.sizeOf33 rfl rfl hB5.row (L.op rfl rfl (O.move rfl (L.op rfl rfl (O.move rfl (L.op rfl rfl (O.move rfl (L.op rfl rfl (O.call (xs := [.tmp 47, .tmp 48, .tmp 49, .tmp 50]) Tryd.call54 rfl rfl (borders_calls lo lo' n u d pe pp es xs w5 hp5 hx5 hgood (by omega)) (fun v6 w6 hq => ?_))))))))))))
          obtain ⟨he6, rfl⟩ := hq
          have hne : ¬ xs.getD u 0 = (d : Int) := by simp only at hto; omega
          cases hnb : decide (nbTo es (u : Int) es.length &&& mask xs d = 0)
          · refine L.op rfl rfl (O.pick_true rfl rfl (L.op rfl rfl (O.move rfl (L.op rfl rfl (O.move rfl (L.op rfl rfl (O.neq_s rfl rfl (fun hrz => ?_) (fun hrz => ?_))))))))
            · refine L.op rfl rfl (O.pick_true rfl rfl (L.op rfl rfl (O.move rfl (L.op rfl rfl (O.loadAgg Tryd.isAgg33 Tryd.sizeOf33 rfl rfl ((hB5.keep he6 (Nat.zero_le _)).row) (L.op rfl rfl (O.move rfl (L.op rfl rfl (O.call (xs := [.tmp 58, .tmp 59]) Tryd.call51 rfl rfl (Rconnected_calls lo n pe es (restOf xs u) w6 (hp5.keep (he6.mono (Nat.zero_le lo))) hge (by rw [← hlen]; exact rest_small hm.2.1 u)) (fun v7 w7 hq => ?_))))))))))
              obtain ⟨he7, rfl⟩ := hq
              have hO7 := owns_keep hO5 (he6.trans he7) (Nat.zero_le _)
              cases hc : connB es (restOf xs u)
              · refine L.op rfl rfl (O.pick_true rfl rfl (L.nil (T.cond_false rfl (T.skip (T.blk (T.region (L.op rfl rfl (O.move rfl (L.op rfl rfl (O.add64 rfl rfl (by omega) (L.op rfl rfl (O.assign rfl (L.nil (T.again ((d + 1, done5, out5)) (by omega) ⟨rfl, rfl, rfl, rfl, rfl, rfl, rfl, trivial⟩ ⟨hlt2', (he5.trans he6).trans he7, hO7, hskip (by simp only [okMove]; rw [hc]; simp)⟩))))))))))))))
              · have hok : okMove es xs u d = true := by simp only [okMove]; rw [hc, hnb, decide_eq_false hne]; rfl
                rw [if_pos hok] at hd5
                have hx7 := hx5.keep ((he6.trans he7).mono (Nat.zero_le lo'))
                refine L.op rfl rfl (O.pick_true rfl rfl (L.nil (T.cond_true rfl (T.region (L.op rfl rfl (O.move rfl (L.op rfl rfl (O.move rfl (L.op rfl rfl (O.move rfl (L.op rfl rfl (O.move rfl (L.op rfl rfl (O.indexAddr Tryd.runUnderlying35 Tryd.sizeOf3 rfl rfl hx7 (by omega) (by omega) (L.op rfl rfl (O.load Tryd.isAgg3 rfl (Ints.at hx7 (by omega)) (L.op rfl rfl (O.move rfl (L.op rfl rfl (O.build (v := .agg #[.int .i64 u, .int .i64 (xs.getD u 0), .int .i64 d]) (parts := [(0, .tmp 63), (1, .tmp 67), (2, .tmp 68)]) (vs := [(0, _), (1, _), (2, _)]) rfl (fun w => by kernel_rfl) (L.op rfl rfl (O.buildSlice (el := 51) (parts := [(0, .tmp 69)]) (vs := [(0, _)]) (cs := [.int .i64 u, .int .i64 (xs.getD u 0), .int .i64 d]) rfl (fun w => by kernel_rfl) (fun b8 w8 hb8 hz8 he8 hB8 => ?_)))))))))))))))))))))))
                have hdl : done5.length < 512 := by have := congrArg List.length hd5; simp at this; omega
                refine L.op rfl rfl (O.append (size := 3) (bytes := 24) Tryd.runUnderlying52 Tryd.infoOf51 rfl rfl rfl rfl (by decide) rfl rfl (owns_keep hO7 he8 (Nat.zero_le _)) (Sl.of_blk (lo := 0) hB8 rfl (Nat.le_refl _) (by decide) (Nat.zero_le _)) (by intro c hc; simp at hc; rcases hc with (rfl|rfl|rfl) <;> rfl) (by omega) (by simp only [maxLen]; omega) (Nat.le_trans (he5.trans (he6.trans he7)).size he8.size) (fun v9 w9 hO9 hG9 => ?_))
                refine L.op rfl rfl (O.assign rfl (L.nil (T.blk (T.region (L.op rfl rfl (O.move rfl (L.op rfl rfl (O.add64 rfl rfl (by omega) (L.op rfl rfl (O.assign rfl (L.nil (T.again ((d + 1, done5 ++ [((u : Int), xs.getD u 0, (d : Int))], v9)) (by omega) ⟨rfl, rfl, rfl, rfl, rfl, rfl, rfl, trivial⟩ ⟨hlt2', ((he5.trans (he6.trans he7)).trans he8).grown0 hO7 hG9 (Nat.le_refl _), ?_, by rw [List.append_assoc]; exact hd5⟩))))))))))))
                · show w9.ownsRow _ _ _ _ _ _
                  rw [mcells_snoc, List.length_append]
                  exact hO9
            · refine L.op rfl rfl (O.pick_true rfl rfl (L.op rfl rfl (O.move rfl (L.pass rfl rfl (L.pass rfl rfl (L.pass rfl rfl (L.op rfl rfl (O.pick_false rfl rfl (L.nil (T.cond_false rfl (T.skip (T.blk (T.region (L.op rfl rfl (O.move rfl (L.op rfl rfl (O.add64 rfl rfl (by omega) (L.op rfl rfl (O.assign rfl (L.nil (T.again ((d + 1, done5, out5)) (by omega) ⟨rfl, rfl, rfl, rfl, rfl, rfl, rfl, trivial⟩ ⟨hlt2', he5.trans he6, owns_keep hO5 he6 (Nat.zero_le _), hskip (by simp only [okMove]; rw [show restOf xs u = 0 by omega, connB_zero]; simp)⟩)))))))))))))))))))))
          · refine L.op rfl rfl (O.pick_true rfl rfl (L.op rfl rfl (O.move rfl (L.pass rfl rfl (L.pass rfl rfl (L.op rfl rfl (O.pick_false rfl rfl (L.op rfl rfl (O.move rfl (L.pass rfl rfl (L.pass rfl rfl (L.pass rfl rfl (L.op rfl rfl (O.pick_false rfl rfl (L.nil (T.cond_false rfl (T.skip (T.blk (T.region (L.op rfl rfl (O.move rfl (L.op rfl rfl (O.add64 rfl rfl (by omega) (L.op rfl rfl (O.assign rfl (L.nil (T.again ((d + 1, done5, out5)) (by omega) ⟨rfl, rfl, rfl, rfl, rfl, rfl, rfl, trivial⟩ ⟨hlt2', he5.trans he6, owns_keep hO5 he6 (Nat.zero_le _), hskip (by simp only [okMove]; rw [hnb]; simp)⟩)))))))))))))))))))))))))))
        · refine L.op rfl rfl (O.move rfl (L.pass rfl rfl (L.pass rfl rfl (L.pass rfl rfl (L.pass rfl rfl (L.pass rfl rfl (L.op rfl rfl (O.pick_false rfl rfl (L.op rfl rfl (O.move rfl (L.pass rfl rfl (L.pass rfl rfl (L.op rfl rfl (O.pick_false rfl rfl (L.op rfl rfl (O.move rfl (L.pass rfl rfl (L.pass rfl rfl (L.pass rfl rfl (L.op rfl rfl (O.pick_false rfl rfl (L.nil (T.cond_false rfl (T.skip (T.blk (T.region (L.op rfl rfl (O.move rfl (L.op rfl rfl (O.add64 rfl rfl (by omega) (L.op rfl rfl (O.assign rfl (?_)))))))))))))))))))))))))))))))))
          refine L.nil (T.again ((d + 1, done5, out5)) (by omega) ⟨rfl, rfl, rfl, rfl, rfl, rfl, rfl, trivial⟩ ⟨hlt2', he5, hO5, hskip (by simp only [okMove]; rw [decide_eq_true (show xs.getD u 0 = (d : Int) by simp only at hto; omega)]; rfl)⟩)
      · refine L.nil (?_)
        obtain rfl : d = kk := by simp only at hlt2; omega
        rw [Nat.sub_self] at hd5
        refine T.cond_false rfl (T.exit rfl (T.blk (T.region (L.op rfl rfl (O.move rfl (L.op rfl rfl (O.add64 rfl rfl (by omega) (L.op rfl rfl (O.assign rfl (L.nil (T.again ((u + 1, done5, out5)) (by omega) ⟨rfl, rfl, rfl, rfl, rfl, trivial⟩ ⟨hlt', he5, hO5, hd5⟩)))))))))))
    · refine L.nil (?_)
      obtain rfl : u = n := by simp only at hlt; omega
      rw [Nat.sub_self] at hd3
      refine T.cond_false rfl (T.exit rfl (T.seq (T.region (L.op rfl rfl (O.move rfl (L.op rfl rfl (O.assign rfl (L.op rfl rfl (O.assign rfl (L.nil (T.ret2 Tryd.results22 rfl rfl ⟨he02.trans he3, _, by rw [hE], ?_⟩)))))))))))
      rw [if_pos hE, Int.toNat_natCast, Int.toNat_natCast, ← hd3]
      show MvSl _ _ _ (done ++ [])
      rw [List.append_nil]
      exact (Sl.of_owns hO3).mono he02.size

end Go.Proofs.YthjdljbghjelfaaDoor
set_option linter.unusedVariables false
set_option linter.unusedSimpArgs false
set_option maxRecDepth 20000
namespace Go.Proofs.YthjdljbghjelfaaDoor
open Go Go.E
attribute [local irreducible] Go.E.T Go.E.L Go.E.O Go.E.Ob

/-- What 'Apply' hands back. -/
noncomputable def applyErr (N : Int) (es : List (Int × Int)) (xs : List Int) (k : Int) (m : Mv) : Int := if planErr N es xs k = 0 then (if m ∈ movesOf es xs k.toNat N.toNat then 0 else 2) else planErr N es xs k
noncomputable def applied (N : Int) (es : List (Int × Int)) (xs : List Int) (k : Int) (m : Mv) : List Int := if applyErr N es xs k m = 0 then xs.set m.1.toNat m.2.2 else []
def ApplyPost (N : Int) (es : List (Int × Int)) (xs : List Int) (k : Int) (m : Mv) (w : World) (v : Value) (w' : World) : Prop :=
  Ext w w' ∧ ∃ l, v = .tuple #[l, .int .i64 (applyErr N es xs k m)] ∧ Ints .i64 w.heap.size w' l (applied N es xs k m)
theorem apply_bad {N : Int} {es : List (Int × Int)} {xs : List Int} {k : Int} {m : Mv} {w w' : World} {e : Int} (he : Ext w w') (h : applyErr N es xs k m = e) (h0 : e ≠ 0) : ApplyPost N es xs k m w (.tuple #[.slice none 0 0, .int .i64 e]) w' := by
  refine ⟨he, _, by rw [h], ?_⟩
  rw [applied, if_neg (by rw [h]; exact h0)]; exact Sl.nil _ _ _
theorem applyErr_plan {N : Int} {es : List (Int × Int)} {xs : List Int} {k : Int} {m : Mv} (h : planErr N es xs k ≠ 0) : applyErr N es xs k m = planErr N es xs k := by rw [applyErr, if_neg h]
theorem applyErr_arg {n kk : Nat} {es : List (Int × Int)} {xs : List Int} {m : Mv} (h : planErr n es xs kk = 0) (hm : m ∉ movesOf es xs kk n) : applyErr n es xs kk m = 2 := by rw [applyErr, if_pos h, Int.toNat_natCast, Int.toNat_natCast, if_neg hm]
theorem applyErr_ok {n kk : Nat} {es : List (Int × Int)} {xs : List Int} {m : Mv} (h : planErr n es xs kk = 0) (hm : m ∈ movesOf es xs kk n) : applyErr n es xs kk m = 0 := by rw [applyErr, if_pos h, Int.toNat_natCast, Int.toNat_natCast, if_pos hm]
theorem rowFrom_mem {es : List (Int × Int)} {xs : List Int} {u : Nat} {m : Mv} : ∀ {c d : Nat}, m ∈ rowFrom es xs u d c → m.1 = u ∧ m.2.1 = xs.getD u 0 ∧ ∃ e : Nat, m.2.2 = e ∧ d ≤ e ∧ e < d + c ∧ okMove es xs u e = true
  | 0, d, h => by simp [rowFrom] at h
  | c + 1, d, h => by
    simp only [rowFrom] at h
    split at h
    · rename_i hok
      rcases List.mem_cons.1 h with rfl | h
      · exact ⟨rfl, rfl, d, rfl, Nat.le_refl _, by omega, hok⟩
      · obtain ⟨h1, h2, e, h3, h4, h5, h6⟩ := rowFrom_mem h
        exact ⟨h1, h2, e, h3, by omega, by omega, h6⟩
    · obtain ⟨h1, h2, e, h3, h4, h5, h6⟩ := rowFrom_mem h
      exact ⟨h1, h2, e, h3, by omega, by omega, h6⟩
theorem allFrom_mem {es : List (Int × Int)} {xs : List Int} {k : Nat} {m : Mv} : ∀ {c u : Nat}, m ∈ allFrom es xs k u c → ∃ v : Nat, m.1 = v ∧ u ≤ v ∧ v < u + c ∧ m.2.1 = xs.getD v 0 ∧ ∃ e : Nat, m.2.2 = e ∧ e < k ∧ okMove es xs v e = true
  | 0, u, h => by simp [allFrom] at h
  | c + 1, u, h => by
    simp only [allFrom] at h
    rcases List.mem_append.1 h with h | h
    · obtain ⟨h1, h2, e, h3, h4, h5, h6⟩ := rowFrom_mem h
      exact ⟨u, h1, Nat.le_refl _, by omega, h2, e, h3, by omega, h6⟩
    · obtain ⟨v, h1, h2, h3, h4⟩ := allFrom_mem h
      exact ⟨v, h1, by omega, by omega, h4⟩
theorem moves_mem {es : List (Int × Int)} {xs : List Int} {k n : Nat} {m : Mv} (h : m ∈ movesOf es xs k n) : ∃ v : Nat, m.1 = v ∧ v < n ∧ m.2.1 = xs.getD v 0 ∧ ∃ e : Nat, m.2.2 = e ∧ e < k ∧ okMove es xs v e = true := by
  obtain ⟨v, h1, _, h2, h3⟩ := allFrom_mem h
  exact ⟨v, h1, by omega, h3⟩
theorem mv_eq {a b : Mv} : a = b ↔ a.1 = b.1 ∧ a.2.1 = b.2.1 ∧ a.2.2 = b.2.2 := ⟨fun h => by subst h; exact ⟨rfl, rfl, rfl⟩, fun h => Prod.ext h.1 (Prod.ext h.2.1 h.2.2)⟩
theorem O.eqlMv_t {C : Cx} {e : Env} {w : World} {K : Value → World → Prop} {d : Option Tmp} {ty : TypeId} {pos : String} {aft : Array Edge} {g : Option (Nat × Bool)} {x y : Operand} {m m' : Mv} (hP : C.P = Tryd.prog) (hx : ev e x = some (.agg #[.int .i64 m.1, .int .i64 m.2.1, .int .i64 m.2.2])) (hy : ev e y = some (.agg #[.int .i64 m'.1, .int .i64 m'.2.1, .int .i64 m'.2.2]))
    (hm : m = m') (h : K (.bool true) w) : O C e ⟨d, .binOp .eql 51 x y 51, ty, pos, aft, g⟩ w K :=
  O.eqlMove hP hx hy (by subst hm; simpa using h)
theorem O.eqlMv_f {C : Cx} {e : Env} {w : World} {K : Value → World → Prop} {d : Option Tmp} {ty : TypeId} {pos : String} {aft : Array Edge} {g : Option (Nat × Bool)} {x y : Operand} {m m' : Mv} (hP : C.P = Tryd.prog) (hx : ev e x = some (.agg #[.int .i64 m.1, .int .i64 m.2.1, .int .i64 m.2.2])) (hy : ev e y = some (.agg #[.int .i64 m'.1, .int .i64 m'.2.1, .int .i64 m'.2.2]))
    (hm : ¬ m = m') (h : K (.bool false) w) : O C e ⟨d, .binOp .eql 51 x y 51, ty, pos, aft, g⟩ w K :=
  O.eqlMove hP hx hy (by
    have e : (decide (m.1 = m'.1) && (decide (m.2.1 = m'.2.1) && decide (m.2.2 = m'.2.2))) = false := by
      rw [mv_eq] at hm
      simpa using hm
    rw [e]; exact h)
theorem RApply_calls (lo lo' : Nat) (N k : Int) (m : Mv) (pe pp : Value) (es : List (Int × Int)) (xs : List Int) (w : World) (hp : Pairs lo w pe es) (hx : Ints .i64 lo' w pp xs) :
    Calls Tryd.prog 25 #[gV N pe, pp, .int .i64 k, mV m] w (Ret fun v w' => ApplyPost N es xs k m w v w') := by
  refine T.enter (vs := [gV N pe, pp, .int .i64 k, mV m]) Tryd.func25 rfl Tryd.ntmps25 rfl ?_
  refine T.seq (T.region (L.op rfl rfl (O.box rfl (fun b1 w1 hb1 hz1 he1 hB1 => ?_))))
  refine L.op rfl rfl (O.box rfl (fun b2 w2 hb2 hz2 he2 hB2 => ?_))
  have hBm2 : Blk w2 b2 [.int .i64 m.1, .int .i64 m.2.1, .int .i64 m.2.2] 51 := hB2
  have he12 := he1.trans he2
  refine L.op rfl rfl (O.assign rfl (L.op rfl rfl (O.assign rfl (L.nil (T.seq (T.region (L.op rfl rfl (O.loadAgg Tryd.isAgg33 Tryd.sizeOf33 rfl rfl ((hB1.keep he2 (Nat.zero_le _)).row) (L.op rfl rfl (O.move rfl (L.op rfl rfl (O.move rfl (L.op rfl rfl (O.call (xs := [.tmp 15, .tmp 16, .tmp 17]) Tryd.call22 rfl rfl (RMoves_calls lo lo' N k pe pp es xs w2 (hp.keep (he12.mono (Nat.zero_le lo))) (hx.keep (he12.mono (Nat.zero_le lo')))) (fun v3 w3 hq => ?_)))))))))))))))
  obtain ⟨he3, l, rfl, hl3⟩ := hq
  have he03 := he12.trans he3
  refine L.op rfl rfl (O.move rfl (L.op rfl rfl (O.extract rfl rfl (L.op rfl rfl (O.extract rfl rfl (L.op rfl rfl (O.assign rfl (L.op rfl rfl (O.assign rfl (L.nil (T.seq (T.seq (T.region (L.op rfl rfl (O.move rfl (L.op rfl rfl (O.neq_s rfl rfl (fun hE => ?_) (fun hE => ?_))))))))))))))))))
  · refine L.nil (T.cond_true rfl (T.seq (T.region (L.op rfl rfl (O.move rfl (L.op rfl rfl (O.assign rfl (L.op rfl rfl (O.assign rfl (L.nil (T.ret2 Tryd.results25 rfl rfl (apply_bad he03 (applyErr_plan hE) hE))))))))))))
  · refine L.nil (?_)
    rw [if_pos hE] at hl3
    obtain ⟨hge, hk1, hk8, hlen, hl, hu⟩ := planOk_of hE
    obtain ⟨kk, rfl⟩ : ∃ kk : Nat, k = (kk : Int) := ⟨k.toNat, by omega⟩
    obtain ⟨n, rfl⟩ : ∃ n : Nat, N = (n : Int) := ⟨N.toNat, by omega⟩
    rw [Int.toNat_natCast, Int.toNat_natCast] at hl3
    have hm := labels_mem hl
    have hml := moves_len (es := es) (xs := xs) (k := kk) (n := n) (by omega) (by omega)
    refine T.cond_false rfl (T.skip (T.seq (T.seq (T.region (L.op rfl rfl (O.assign rfl (L.nil (T.block (?_)))))))))
    refine T.loop (σ := Nat) (fun i => [(1, pp), (7, .pointer (some ⟨b2, 0, none⟩)), (10, l), (12, .int .i64 i)]) (fun i w' => i ≤ (movesOf es xs kk n).length ∧ Ext w3 w' ∧ ∀ j, j < i → (movesOf es xs kk n).getD j (0, 0, 0) ≠ m) (fun i => (movesOf es xs kk n).length - i) (0) ⟨rfl, rfl, rfl, rfl, trivial⟩ ⟨Nat.zero_le _, Keep.refl _ _, fun j hj => absurd hj (Nat.not_lt_zero _)⟩ ?_
    rintro i w4 ⟨hi, he4, hno⟩
    have hl4 := hl3.keep (he4.mono (Nat.zero_le _))
    refine T.seq (T.seq (T.region (L.op rfl rfl (O.move rfl (L.op rfl rfl (O.move rfl (L.op rfl rfl (O.len Tryd.runUnderlying52 rfl (Sl.val hl4) (L.op rfl rfl (O.lss_s rfl rfl (fun hlt => ?_) (fun hlt => ?_)))))))))))
    · refine L.nil (?_)
      have hlt' : i < (movesOf es xs kk n).length := by omega
      by_cases heq : (movesOf es xs kk n).getD i (0, 0, 0) = m
      · refine T.cond_true rfl (T.skip (T.seq (T.block (T.seq (?_)))))
        refine T.par mixed 6 [10, 12, 7] rfl [.is _, .is _, .is _, .is _, .is _, .is _] [[], [], [0, 1], [2], [], [3, 4]] (by kernel_rfl) rfl ⟨trivial, trivial, trivial, trivial, trivial, trivial, trivial⟩ ⟨fun wx hx => Ob.op rfl (O.move rfl ⟨Keep.refl _ _, rfl⟩),
            fun wx hx => Ob.op rfl (O.move rfl ⟨Keep.refl _ _, rfl⟩),
            fun wx hx => Ob.op rfl (O.indexAddr Tryd.runUnderlying52 Tryd.sizeOf51 rfl rfl hl4 (by omega) (by omega) ⟨Keep.refl _ _, rfl⟩),
            fun wx hx => Ob.op rfl (O.loadAgg Tryd.isAgg51 Tryd.sizeOf51 rfl rfl (MvSl.row (Sl.keep hl4 (hx.mono (Nat.zero_le _))) hlt') ⟨Keep.refl _ _, rfl⟩),
            fun wx hx => Ob.op rfl (O.loadAgg Tryd.isAgg51 Tryd.sizeOf51 rfl rfl (((hBm2.keep (he3.trans he4) (Nat.zero_le _)).keep hx (Nat.zero_le _)).row) ⟨Keep.refl _ _, rfl⟩),
            fun wx hx => Ob.op rfl (O.eqlMv_t rfl rfl rfl heq ⟨Keep.refl _ _, rfl⟩),
            trivial⟩ (fun w5 he5 => ?_)
        refine L.nil (?_)
        have he45 := he4.trans he5
        have hx5 := hx.keep ((he03.trans he45).mono (Nat.zero_le lo'))
        have hmem : m ∈ movesOf es xs kk n := by rw [← heq, getD_get hlt']; exact List.getElem_mem hlt'
        obtain ⟨v0, hv1, hv2, hv3, e0, hv4, hv5, _⟩ := moves_mem hmem
        have hBm5 := hBm2.keep (he3.trans he45) (Nat.zero_le _)
        refine T.cond_true rfl (T.seq (T.region (L.op rfl rfl (O.assign rfl (L.nil (T.seq (T.region (L.op rfl rfl (O.move rfl (L.op rfl rfl (O.move rfl (L.op rfl rfl (O.append (size := 1) (bytes := 8) Tryd.runUnderlying35 Tryd.infoOf3 rfl rfl rfl rfl (by decide) rfl rfl (owns_nil w5 w5.heap.size 3 1) hx5 (by intro c hc; simp at hc; obtain ⟨a, _, rfl⟩ := hc; rfl) (by omega) (by simp only [maxLen]; omega) (Nat.le_refl _) (fun v6 w6 hO6 hG6 => ?_))))))))))))))
        have he56 : Ext w5 w6 := (Keep.refl 0 w5).grown0 (owns_nil w5 w5.heap.size 3 1) hG6 (Nat.le_refl _)
        refine L.op rfl rfl (O.assign rfl (L.nil (T.seq (T.region (L.op rfl rfl (O.move rfl (L.op rfl rfl (O.fieldAddr Tryd.runUnderlying51 rfl Tryd.sizeOf3 rfl (L.op rfl rfl (O.load Tryd.isAgg3 rfl (Blk.at (hBm5.keep he56 (Nat.zero_le _)) rfl) (L.op rfl rfl (O.fieldAddr Tryd.runUnderlying51 rfl Tryd.sizeOf3 rfl (L.op rfl rfl (O.load Tryd.isAgg3 rfl (Blk.at (hBm5.keep he56 (Nat.zero_le _)) rfl) (?_)))))))))))))))
        obtain ⟨g6, cap6, cur6, rfl, hg6, hBg6, hnc6, hcm6, hlc6, htk6⟩ := own_parts hO6 (by omega)
        refine L.op rfl rfl (O.indexAddr Tryd.runUnderlying35 Tryd.sizeOf3 rfl rfl (Sl.of_owns hO6) (by omega) (by omega) (L.op rfl rfl (O.store1_at Tryd.sizeOf3 rfl rfl rfl hBg6 (by omega) (fun w7 hu7 hB7 => ?_))))
        refine L.nil (T.seq (T.region (L.op rfl rfl (O.move rfl (L.op rfl rfl (O.assign rfl (L.op rfl rfl (O.assign rfl (L.nil (T.ret2 Tryd.results25 rfl rfl ⟨((he03.trans he45).trans he56).upd hu7 (.inr ?_), _, by rw [applyErr_ok hE hmem], ?_⟩))))))))))
        · have h1 := he03.size
          have h2 := he45.size
          omega
        · rw [applied, if_pos (applyErr_ok hE hmem)]
          have hs := sl_set (lo := w.heap.size) (n := 0 + xs.length) hB7 hnc6 hcm6 hlc6 htk6 (by have h1 := he03.size; have h2 := he45.size; omega)
          simp only [Nat.zero_add, Nat.mul_one, List.nil_append] at hs
          unfold Ints
          rw [List.length_set, List.map_set]
          simpa using hs
      · refine T.cond_true rfl (T.skip (T.seq (T.block (T.seq (?_)))))
        refine T.par mixed 6 [10, 12, 7] rfl [.is _, .is _, .is _, .is _, .is _, .is _] [[], [], [0, 1], [2], [], [3, 4]] (by kernel_rfl) rfl ⟨trivial, trivial, trivial, trivial, trivial, trivial, trivial⟩ ⟨fun wx hx => Ob.op rfl (O.move rfl ⟨Keep.refl _ _, rfl⟩),
            fun wx hx => Ob.op rfl (O.move rfl ⟨Keep.refl _ _, rfl⟩),
            fun wx hx => Ob.op rfl (O.indexAddr Tryd.runUnderlying52 Tryd.sizeOf51 rfl rfl hl4 (by omega) (by omega) ⟨Keep.refl _ _, rfl⟩),
            fun wx hx => Ob.op rfl (O.loadAgg Tryd.isAgg51 Tryd.sizeOf51 rfl rfl (MvSl.row (Sl.keep hl4 (hx.mono (Nat.zero_le _))) hlt') ⟨Keep.refl _ _, rfl⟩),
            fun wx hx => Ob.op rfl (O.loadAgg Tryd.isAgg51 Tryd.sizeOf51 rfl rfl (((hBm2.keep (he3.trans he4) (Nat.zero_le _)).keep hx (Nat.zero_le _)).row) ⟨Keep.refl _ _, rfl⟩),
            fun wx hx => Ob.op rfl (O.eqlMv_f rfl rfl rfl heq ⟨Keep.refl _ _, rfl⟩),
            trivial⟩ (fun w5 he5 => ?_)
        refine L.nil (?_)
        have he45 := he4.trans he5
        have hx5 := hx.keep ((he03.trans he45).mono (Nat.zero_le lo'))
        refine T.cond_false rfl (T.skip (T.blk (T.region (L.op rfl rfl (O.move rfl (L.op rfl rfl (O.add64 rfl rfl (by omega) (L.op rfl rfl (O.assign rfl (L.nil (T.again (i + 1) (by omega) ⟨rfl, rfl, rfl, rfl, trivial⟩ ⟨hlt', he45, fun j hj => ?_⟩)))))))))))
        · by_cases hji : j = i
          · subst hji; exact heq
          · exact hno j (by omega)
    · refine L.nil (T.cond_false rfl (T.exit rfl (T.seq (T.region (L.op rfl rfl (O.assign rfl (L.op rfl rfl (O.assign rfl (L.nil (T.ret2 Tryd.results25 rfl rfl (apply_bad (he03.trans he4) (applyErr_arg hE (fun h => ?_)) (by decide))))))))))))
      obtain ⟨j, hj, he⟩ := List.mem_iff_getElem.1 h
      exact hno j (by omega) (by rw [getD_get hj]; exact he)

theorem Apply_calls (lo lo' : Nat) (N k : Int) (m : Mv) (pe pp : Value) (es : List (Int × Int)) (xs : List Int) (w : World) (hp : Pairs lo w pe es) (hx : Ints .i64 lo' w pp xs) (hT : Tab w) :
    Calls Tryd.prog 24 #[gV N pe, pp, .int .i64 k, mV m] w (Ret fun v w' => ApplyPost N es xs k m w v w') := by
  refine T.enterM (vs := [gV N pe, pp, .int .i64 k, mV m]) Tryd.func24 rfl Tryd.ntmps24 rfl ?_
  refine T.seq (T.region (L.op rfl rfl (O.box rfl (fun b1 w1 hb1 hz1 he1 hB1 => ?_))))
  refine L.op rfl rfl (O.box rfl (fun b2 w2 hb2 hz2 he2 hB2 => ?_))
  refine L.op rfl rfl (O.box rfl (fun b3 w3 hb3 hz3 he3 hB3 => ?_))
  have hBp3 : Blk w2 b2 [pp] 35 := by have := hB2; rw [Sl.cells hx] at this; exact this
  have hBm3 : Blk w3 b3 [.int .i64 m.1, .int .i64 m.2.1, .int .i64 m.2.2] 51 := hB3
  refine L.op rfl rfl (O.alloc Tryd.zeroValue35 (fun b4 w4 hb4 hz4 he4 hB4 => ?_))
  refine L.op rfl rfl (O.alloc Tryd.zeroValue39 (fun b5 w5 hb5 hz5 he5 hB5 => ?_))
  have he25 := (he3.trans he4).trans he5
  have he05 := (he1.trans he2).trans he25
  have hBp5 := hBp3.keep he25 (Nat.zero_le _)
  have hBm5 := hBm3.keep (he4.trans he5) (Nat.zero_le _)
  have hBr4 : Blk w5 b4 [.slice none 0 0] 35 := hB4.keep he5 (Nat.zero_le _)
  have hBr5 : Blk w5 b5 [.int .i64 0] 39 := hB5
  refine L.nil (T.seq (T.region (L.op rfl rfl (O.loadAgg Tryd.isAgg33 Tryd.sizeOf33 rfl rfl (((hB1.keep he2 (Nat.zero_le _)).keep he25 (Nat.zero_le _)).row) (L.op rfl rfl (O.load Tryd.isAgg35 rfl (hBp5.cell rfl) (L.op rfl rfl (O.move rfl (L.op rfl rfl (O.call (xs := [.tmp 15, .tmp 16, .tmp 17]) Tryd.call49 rfl rfl (drawn_calls lo lo' N k pe pp es xs w5 (hp.keep (he05.mono (Nat.zero_le lo))) (hx.keep (he05.mono (Nat.zero_le lo')))) (fun v6 w6 hq => ?_)))))))))))
  obtain ⟨he6, hq6⟩ := hq
  have he06 := he05.trans he6
  have hBr46 := hBr4.keep he6 (Nat.zero_le _)
  have hBr56 := hBr5.keep he6 (Nat.zero_le _)
  rcases hq6 with ⟨hE, rfl⟩ | ⟨hE, b, pm, rfl, hb, hB6, hW6⟩
  · refine L.op rfl rfl (O.move rfl (L.op rfl rfl (O.extract rfl rfl (L.op rfl rfl (O.extract rfl rfl (L.op rfl rfl (O.assign rfl (L.op rfl rfl (O.assign rfl (L.nil (T.seq (T.seq (T.region (L.op rfl rfl (O.move rfl (L.op rfl rfl (O.neq_t rfl rfl hE (L.nil (T.cond_true rfl (T.seq (T.region (L.op rfl rfl (O.move rfl (L.op rfl rfl (O.store1 Tryd.sizeOf35 rfl rfl rfl hBr46 (by simp [Value.cells]) (fun w7 hu7 hB7 => ?_))))))))))))))))))))))))))
    refine L.op rfl rfl (O.store1 Tryd.sizeOf39 rfl rfl rfl (hBr56.upd hu7 (by omega)) (by simp [Value.cells]) (fun w8 hu8 hB8 => ?_))
    refine L.nil (T.retC2 Tryd.results24 Tryd.isAgg35 Tryd.isAgg39 rfl rfl (Opn.nil _) (fun w' hs => ⟨(hB7.upd hu8 (by omega)).cell rfl |> fun h => (Keep.refl 0 w8).shut hs (fun r hr => by cases hr) |>.cell (Nat.zero_le _) h, ((Keep.refl 0 w8).shut hs (fun r hr => by cases hr)).cell (Nat.zero_le _) (hB8.cell rfl)⟩) (fun w' hs => apply_bad (((he06.upd hu7 (.inr (by omega))).upd hu8 (.inr (by omega))).shut hs (fun r hr => by cases hr)) (applyErr_plan hE) hE))
  · refine L.op rfl rfl (O.move rfl (L.op rfl rfl (O.extract rfl rfl (L.op rfl rfl (O.extract rfl rfl (L.op rfl rfl (O.assign rfl (L.op rfl rfl (O.assign rfl (L.nil (T.seq (T.seq (T.region (L.op rfl rfl (O.move rfl (L.op rfl rfl (O.neq_f rfl rfl (by decide) (?_))))))))))))))))))
    obtain ⟨hge, hk1, hk8, hlen, hl, hu⟩ := planOk_of hE
    obtain ⟨kk, rfl⟩ : ∃ kk : Nat, k = (kk : Int) := ⟨k.toNat, by omega⟩
    obtain ⟨n, rfl⟩ : ∃ n : Nat, N = (n : Int) := ⟨N.toNat, by omega⟩
    rw [Int.toNat_natCast] at hW6
    have hm := labels_mem hl
    have hT6 := hT.keep he06
    refine L.nil (T.cond_false rfl (T.skip (T.seq (T.seq (T.region (L.op rfl rfl (O.move rfl (L.op rfl rfl (O.call (xs := [.tmp 24]) Tryd.call53 rfl rfl (moves_calls b w6) (fun v7 w7 hq => ?_))))))))))
    obtain ⟨he7, rfl, hBc7⟩ := hq
    have hz7 := he7.size
    have hbc7 := hBc7.lt
    have hz05 := he05.size
    have hz6 := he6.size
    have hr4 := hBr4.lt
    have hr5 := hBr5.lt
    have hx6 := hx.keep (he06.mono (Nat.zero_le lo'))
    refine L.nil (T.block (?_))
    refine T.rangeFuncM (e1 := fun v x => [(5, .pointer (some ⟨b2, 0, none⟩)), (7, .pointer (some ⟨b3, 0, none⟩)), (8, .pointer (some ⟨b4, 0, none⟩)), (9, .pointer (some ⟨b5, 0, none⟩)), (12, .pointer (some ⟨x, 0, none⟩))]) (fun rem S w' => Ext w6 w' ∧ Blk w' w6.heap.size [.pointer (some ⟨b, 0, none⟩)] 87 ∧ (∀ k, S k → w7.heap.size ≤ k ∧ k < w'.heap.size) ∧ w7.heap.size ≤ w'.heap.size ∧ ∃ done : List Mv, done ++ rem = movesOf es xs kk n ∧ m ∉ done) (fun c S w' => c = .ret ∧ m ∈ movesOf es xs kk n ∧ w7.heap.size ≤ w'.heap.size ∧ (∀ k, S k → w7.heap.size ≤ k ∧ k < w'.heap.size) ∧ ∃ g cap : Nat, Ext w w' ∧ ¬ S g ∧ Blk w' b4 [.slice (some ⟨g, 0, none⟩) xs.length cap] 35 ∧ Blk w' b5 [.int .i64 0] 39 ∧ w7.heap.size ≤ g ∧ xs.length ≤ cap ∧ cap ≤ maxLen ∧ Blk w' g ((xs.set m.1.toNat m.2.2).map (Value.int .i64)) 3) (fun v x w' => ∃ m : Mv, v = mV m ∧ Blk w' x [.int .i64 m.1, .int .i64 m.2.1, .int .i64 m.2.2] 51) rfl Tryd.call71 rfl (moves_seq w6.heap.size b lo lo' w5.heap.size n kk pe pp pm es xs w6 hE hB6 (hp.keep (he06.mono (Nat.zero_le lo))) hx6 hW6 hT6) ?_ ?_ ?_ ?_ ?_ ?_ ?_ ?_ ?_ ?_ ?_
    · refine ⟨?_, ?_⟩
      · rintro i S S' W W' ⟨h1, h2, h3, hsz, done, h4, h5⟩ he hS
        refine ⟨h1.trans he, h2.keep he (Nat.zero_le _), fun k hk => ?_, Nat.le_trans hsz he.size, done, h4, h5⟩
        rcases hS _ hk with h | h
        · exact ⟨(h3 k h).1, Nat.lt_of_lt_of_le (h3 k h).2 he.size⟩
        · exact ⟨by omega, h.2⟩
      · rintro i S W W' b' ⟨h1, h2, h3, hsz, done, h4, h5⟩ hb hu
        have hb' := (h3 b' hb).1
        exact ⟨h1.upd hu (.inr (by omega)), h2.upd hu (by omega), fun k hk => by rw [hu.size]; exact h3 k hk, by rw [hu.size]; exact hsz, done, h4, h5⟩
    · rintro c S W W' b' ⟨h1, h2, h3, h4, g, cap, h5, h6, h7, h8, h9, h10, h11, h12⟩ hb hu
      have hb' := (h4 b' hb).1
      exact ⟨h1, h2, by rw [hu.size]; exact h3, fun k hk => by rw [hu.size]; exact h4 k hk, g, cap, h5.upd hu (.inr (by omega)), h6, h7.upd hu (by omega), h8.upd hu (by omega), h9, h10, h11, h12.upd hu (fun e => h6 (e ▸ hb))⟩
    · exact fun i S W h => ⟨h.1, h.2.1⟩
    · exact ⟨he7, hBc7, fun k hk => hk.elim, Nat.le_refl _, [], rfl, List.not_mem_nil⟩
    · exact fun k hk => hk.elim
    · exact fun W hW => trivial
    · rintro v x W W' b' ⟨m, h1, h2⟩ hne hu
      exact ⟨m, h1, h2.upd hu (Ne.symm hne)⟩
    · intro l Q i j v k W hn hK
      obtain ⟨m1, _, rfl⟩ := hn
      refine T.region (L.op rfl rfl (O.alloc Tryd.zeroValue51 (fun b8 w8 hb8 hz8 he8 hB8 => ?_)))
      refine L.op rfl rfl (O.storeAgg Tryd.sizeOf51 rfl rfl rfl hB8 (Nat.le_refl _) (by simp [Value.oneCell']) (fun w9 hu9 hB9 => ?_))
      refine L.nil (T.sub ?_ (hK b8 _ (by omega) (he8.upd hu9 (.inr (by omega))) ⟨m1, rfl, hB9⟩))
      exact ⟨rfl, rfl, rfl, rfl, rfl, trivial⟩
    · rintro l rem v x rem' S w10 ⟨m', rfl, rfl⟩ ⟨he10, hBc10, hS10, hsz10, done, hd10, hnd10⟩ ⟨m1, hmm, hBx10⟩
      obtain rfl : m' = m1 := by
        have h := congrArg Value.cells hmm
        simp [mV, Value.cells] at h
        exact Prod.ext h.1 (Prod.ext h.2.1 h.2.2)
      have he6x := he6.trans he10
      refine T.block (T.seq (T.region (L.op rfl rfl (O.loadAgg Tryd.isAgg51 Tryd.sizeOf51 rfl rfl hBx10.row (L.op rfl rfl (O.loadAgg Tryd.isAgg51 Tryd.sizeOf51 rfl rfl ((hBm5.keep he6x (Nat.zero_le _)).row) (?_)))))))
      by_cases heq : m' = m
      · refine L.op rfl rfl (O.eqlMv_t rfl rfl rfl heq (?_))
        subst heq
        have hmem : m' ∈ movesOf es xs kk n := by rw [← hd10]; simp
        obtain ⟨v0, hv1, hv2, hv3, e0, hv4, hv5, _⟩ := moves_mem hmem
        have hx10 := hx6.keep (he10.mono (Nat.zero_le lo'))
        have hpos : 0 < xs.length := by omega
        refine L.nil (T.cond_true rfl (T.seq (T.region (L.op rfl rfl (O.load Tryd.isAgg35 rfl ((hBp5.keep he6x (Nat.zero_le _)).cell rfl) (L.op rfl rfl (O.len Tryd.runUnderlying35 rfl (Sl.val hx10) (L.op rfl rfl (O.makeSlice Tryd.runUnderlying35 Tryd.typeInfo3 Tryd.sizeOf3 Tryd.zeroValue3 rfl rfl rfl (by show xs.length * 8 ≤ _; omega) (by omega) (fun b11 w11 hb11 hz11 he11 hB11 => ?_))))))))))
        have he6y := he6x.trans he11
        refine L.op rfl rfl (O.assign rfl (L.nil (T.seq (T.region (L.op rfl rfl (O.move rfl (L.op rfl rfl (O.load Tryd.isAgg35 rfl ((hBp5.keep he6y (Nat.zero_le _)).cell rfl) (L.op rfl rfl (O.copy Tryd.runUnderlying35 Tryd.sizeOf3 rfl rfl hB11 (by simp) (hx10.keep (he11.mono (Nat.zero_le lo'))) hpos (by intro c hc; simp at hc; obtain ⟨a, _, rfl⟩ := hc; rfl) (fun w12 hu12 hB12 => ?_)))))))))))
        have hz11 := he11.size
        have hm12 := (hBm5.keep he6y (Nat.zero_le _)).upd hu12 (by omega)
        have hi12 : Ints .i64 0 w12 (.slice (some ⟨b11, 0, none⟩) xs.length xs.length) xs := Ints.of_blk hB12 rfl (Sl.le hx) (Nat.zero_le _)
        refine L.nil (T.seq (T.region (L.op rfl rfl (O.move rfl (L.op rfl rfl (O.fieldAddr Tryd.runUnderlying51 rfl Tryd.sizeOf3 rfl (L.op rfl rfl (O.load Tryd.isAgg3 rfl (Blk.at hm12 rfl) (L.op rfl rfl (O.fieldAddr Tryd.runUnderlying51 rfl Tryd.sizeOf3 rfl (L.op rfl rfl (O.load Tryd.isAgg3 rfl (Blk.at hm12 rfl) (L.op rfl rfl (O.indexAddr Tryd.runUnderlying35 Tryd.sizeOf3 rfl rfl hi12 (by omega) (by omega) (L.op rfl rfl (O.store1_at Tryd.sizeOf3 rfl rfl rfl hB12 (by rw [List.length_map]; omega) (fun w13 hu13 hB13 => ?_)))))))))))))))))
        have hr4' := ((((hBr46.keep he10 (Nat.zero_le _)).keep he11 (Nat.zero_le _)).upd hu12 (by omega)).upd hu13 (by omega))
        have hr5' := ((((hBr56.keep he10 (Nat.zero_le _)).keep he11 (Nat.zero_le _)).upd hu12 (by omega)).upd hu13 (by omega))
        refine L.nil (T.seq (T.region (L.op rfl rfl (O.move rfl (L.op rfl rfl (O.store1 Tryd.sizeOf35 rfl rfl rfl hr4' (by simp [Value.cells]) (fun w14 hu14 hB14 => ?_)))))))
        refine L.op rfl rfl (O.store1 Tryd.sizeOf39 rfl rfl rfl (hr5'.upd hu14 (by omega)) (by simp [Value.cells]) (fun w15 hu15 hB15 => ?_))
        have hB13' : Blk w13 b11 ((xs.set m'.1.toNat m'.2.2).map (Value.int .i64)) 3 := by have := hB13; simp only [Nat.zero_add, Nat.mul_one] at this; rw [List.map_set]; exact this
        have hzz : w15.heap.size = w11.heap.size := by rw [hu15.size, hu14.size, hu13.size, hu12.size]
        refine L.nil (T.roundRet ⟨⟨rfl, hmem, by omega, fun k hk => ⟨(hS10 k hk).1, by have := (hS10 k hk).2; omega⟩, b11, xs.length, ?_, fun h => by have := (hS10 _ h).2; omega, hB14.upd hu15 (by omega), hB15, by omega, Nat.le_refl _, Sl.le hx, (hB13'.upd hu14 (by omega)).upd hu15 (by omega)⟩, fun k hk => ?_⟩)
        · exact (((((he06.trans he10).trans he11).upd hu12 (.inr (by omega))).upd hu13 (.inr (by omega))).upd hu14 (.inr (by omega))).upd hu15 (.inr (by omega))
        · have h1 := hS10 k hk
          rw [hu15.block k (by omega), hu14.block k (by omega), hu13.block k (by omega), hu12.block k (by omega), he11.block k (Nat.zero_le _) h1.2]
      · refine L.op rfl rfl (O.eqlMv_f rfl rfl rfl heq (L.nil (T.cond_false rfl (T.skip (T.blk (T.roundEnd ⟨⟨he10, hBc10, hS10, hsz10, done ++ [m'], by rw [List.append_assoc]; exact hd10, fun h => ?_⟩, fun k hk => rfl⟩))))))
        · rcases List.mem_append.1 h with h | h
          · exact hnd10 h
          · rw [List.mem_singleton] at h; exact heq h.symm
    · rintro S D w10 hD hS0 hSD ⟨he10, hBc10, hS10, hsz10, done, hd10, hnd10⟩ hD10
      rw [List.append_nil] at hd10
      refine T.blk (T.seq (T.region (L.op rfl rfl (O.store1 Tryd.sizeOf35 rfl rfl rfl (hBr46.keep he10 (Nat.zero_le _)) (by simp [Value.cells]) (fun w11 hu11 hB11 => ?_)))))
      refine L.op rfl rfl (O.store1 Tryd.sizeOf39 rfl rfl rfl ((hBr56.keep he10 (Nat.zero_le _)).upd hu11 (by omega)) (by simp [Value.cells]) (fun w12 hu12 hB12 => ?_))
      have ho12 : Opn [D] w12 := ⟨List.nodup_cons.2 ⟨List.not_mem_nil, List.nodup_nil⟩, fun r hr => by rw [List.mem_singleton] at hr; subst hr; exact hu12.blk (by omega) (hu11.blk (by omega) hD10)⟩
      have hle12 : Ext w w12 := ((he06.trans he10).upd hu11 (.inr (by omega))).upd hu12 (.inr (by omega))
      refine L.nil (T.retC2 Tryd.results24 Tryd.isAgg35 Tryd.isAgg39 rfl rfl ho12 (fun w' hs => ⟨(hs.block b4 (by simp; omega)).trans (hB11.upd hu12 (by omega)) |> fun h => Blk.cell (b := b4) h rfl, (hs.block b5 (by simp; omega)).trans hB12 |> fun h => Blk.cell (b := b5) h rfl⟩) (fun w' hs => apply_bad (hle12.shut hs (fun r hr => by rw [List.mem_singleton] at hr; exact .inr (by omega))) (applyErr_arg hE (by rw [← hd10]; exact hnd10)) (by decide)))
    · rintro c S D w10 hD hSD ⟨rfl, hmem, hz10, hS10, g, cap, he10, hSg, hr4', hr5', hg10, hc1, hc2, hBg10⟩ hD10
      have ho10 : Opn [D] w10 := ⟨List.nodup_cons.2 ⟨List.not_mem_nil, List.nodup_nil⟩, fun r hr => by rw [List.mem_singleton] at hr; subst hr; exact hD10⟩
      refine T.retC2 Tryd.results24 Tryd.isAgg35 Tryd.isAgg39 rfl rfl ho10 (fun w' hs => ⟨(hs.block b4 (by simp; omega)).trans hr4' |> fun h => Blk.cell (b := b4) h rfl, (hs.block b5 (by simp; omega)).trans hr5' |> fun h => Blk.cell (b := b5) h rfl⟩) (fun w' hs => ⟨he10.shut hs (fun r hr => by rw [List.mem_singleton] at hr; exact .inr (by omega)), _, by rw [applyErr_ok hE hmem], ?_⟩)
      rw [applied, if_pos (applyErr_ok hE hmem)]
      have hgD : g ≠ D := fun e => hSg (e ▸ hSD)
      have hB' : Blk w' g ((xs.set m.1.toNat m.2.2).map (Value.int .i64)) 3 := (hs.block g (by simp; exact hgD)).trans hBg10
      unfold Ints
      rw [List.length_set]
      exact Sl.of_blk hB' (by simp) hc1 hc2 (by omega)

end Go.Proofs.YthjdljbghjelfaaDoor
set_option linter.unusedVariables false
set_option linter.unusedSimpArgs false
set_option maxRecDepth 20000
namespace Go.Proofs.YthjdljbghjelfaaDoor
open Go Go.E
attribute [local irreducible] Go.E.T Go.E.L Go.E.O Go.E.Ob

/-- What is wrong with two lists of labels. -/
def twoErr (xs ys : List Int) : Int := if labelsOk xs 8 = true ∧ labelsOk ys 8 = true then (if xs.length = ys.length then 0 else 2) else 210
theorem twoErr_bad {xs ys : List Int} (h : ¬ (labelsOk xs 8 = true ∧ labelsOk ys 8 = true)) : twoErr xs ys = 210 := by rw [twoErr, if_neg h]
theorem twoErr_arg {xs ys : List Int} (h : labelsOk xs 8 = true ∧ labelsOk ys 8 = true) (hl : xs.length ≠ ys.length) : twoErr xs ys = 2 := by rw [twoErr, if_pos h, if_neg hl]
theorem twoErr_ok {xs ys : List Int} (h : labelsOk xs 8 = true ∧ labelsOk ys 8 = true) (hl : xs.length = ys.length) : twoErr xs ys = 0 := by rw [twoErr, if_pos h, if_pos hl]
theorem list_eq_of {α : Type} {xs ys : List α} {d : α} (hl : xs.length = ys.length) (h : ∀ j, j < xs.length → xs.getD j d = ys.getD j d) : xs = ys := by
  apply List.ext_getElem hl
  intro j h1 h2
  have := h j h1
  rwa [getD_get h1, getD_get h2] at this
theorem two_calls (lo lo' : Nat) (p q : Value) (xs ys : List Int) (w : World) (hp : Ints .i64 lo w p xs) (hq : Ints .i64 lo' w q ys) :
    Calls Tryd.prog 57 #[p, q] w (Ret fun v w' => v = .int .i64 (twoErr xs ys) ∧ w' = w) := by
  refine T.enter (vs := [p, q]) Tryd.func57 rfl Tryd.ntmps57 rfl ?_
  refine T.seq (T.region (L.op rfl rfl (O.assign rfl (L.nil (T.seq (T.block (T.seq (T.region (L.op rfl rfl (O.move rfl (L.op rfl rfl (O.call (xs := [.tmp 6, .const (.int .i64 8)]) Tryd.call44 rfl rfl (labels_calls lo p xs 8 w hp) (fun v1 w1 hq => ?_)))))))))))))
  obtain ⟨rfl, rfl⟩ := hq
  cases h1 : labelsOk xs 8
  · refine L.op rfl rfl (O.not rfl (L.op rfl rfl (O.move rfl (L.pass rfl rfl (L.pass rfl rfl (L.pass rfl rfl (L.op rfl rfl (O.pick_true rfl rfl (L.op rfl rfl (O.assign rfl (L.nil (T.cond_true rfl (T.seq (T.region (L.op rfl rfl (O.assign rfl (L.nil (T.ret1 Tryd.results57 rfl ⟨by rw [twoErr_bad (by rw [h1]; simp)], rfl⟩))))))))))))))))))
  · refine L.op rfl rfl (O.not rfl (L.op rfl rfl (O.move rfl (L.op rfl rfl (O.move rfl (L.op rfl rfl (O.call (xs := [.tmp 10, .const (.int .i64 8)]) Tryd.call44 rfl rfl (labels_calls lo' q ys 8 w1 hq) (fun v2 w2 hq => ?_))))))))
    obtain ⟨rfl, rfl⟩ := hq
    cases h2 : labelsOk ys 8
    · refine L.op rfl rfl (O.not rfl (L.op rfl rfl (O.pick_false rfl rfl (L.op rfl rfl (O.assign rfl (L.nil (T.cond_true rfl (T.seq (T.region (L.op rfl rfl (O.assign rfl (L.nil (T.ret1 Tryd.results57 rfl ⟨by rw [twoErr_bad (by rw [h2]; simp)], rfl⟩)))))))))))))
    · refine L.op rfl rfl (O.not rfl (L.op rfl rfl (O.pick_false rfl rfl (L.op rfl rfl (O.assign rfl (L.nil (T.cond_false rfl (T.seq (T.region (L.op rfl rfl (O.move rfl (L.op rfl rfl (O.len Tryd.runUnderlying35 rfl (Sl.val hp) (L.op rfl rfl (O.move rfl (L.op rfl rfl (O.len Tryd.runUnderlying35 rfl (Sl.val hq) (L.op rfl rfl (O.neq_s rfl rfl (fun hl => ?_) (fun hl => ?_))))))))))))))))))))
      · refine L.op rfl rfl (O.assign rfl (L.nil (T.cond_true rfl (T.seq (T.region (L.op rfl rfl (O.assign rfl (L.nil (T.ret1 Tryd.results57 rfl ⟨by rw [twoErr_arg ⟨h1, h2⟩ (by omega)], rfl⟩)))))))))
      · refine L.op rfl rfl (O.assign rfl (L.nil (T.cond_false rfl (T.skip (T.blk (T.seq (T.region (L.op rfl rfl (O.assign rfl (L.nil (T.ret1 Tryd.results57 rfl ⟨by rw [twoErr_ok ⟨h1, h2⟩ (by omega)], rfl⟩)))))))))))

theorem Rtwo_calls (lo lo' : Nat) (p q : Value) (xs ys : List Int) (w : World) (hp : Ints .i64 lo w p xs) (hq : Ints .i64 lo' w q ys) :
    Calls Tryd.prog 58 #[p, q] w (Ret fun v w' => v = .int .i64 (twoErr xs ys) ∧ w' = w) := by
  refine T.enter (vs := [p, q]) Tryd.func58 rfl Tryd.ntmps58 rfl ?_
  refine T.seq (T.region (L.op rfl rfl (O.assign rfl (L.nil (T.seq (T.seq (T.region (L.op rfl rfl (O.move rfl (L.op rfl rfl (O.call (xs := [.tmp 5, .const (.int .i64 8)]) Tryd.call46 rfl rfl (RLabels_calls lo p xs 8 w hp) (fun v1 w1 hq => ?_))))))))))))
  obtain ⟨rfl, rfl⟩ := hq
  cases h1 : labelsOk xs 8
  · refine L.op rfl rfl (O.not rfl (L.op rfl rfl (O.move rfl (L.pass rfl rfl (L.pass rfl rfl (L.pass rfl rfl (L.op rfl rfl (O.pick_true rfl rfl (L.nil (T.cond_true rfl (T.seq (T.region (L.op rfl rfl (O.assign rfl (L.nil (T.ret1 Tryd.results58 rfl ⟨by rw [twoErr_bad (by rw [h1]; simp)], rfl⟩))))))))))))))))
  · refine L.op rfl rfl (O.not rfl (L.op rfl rfl (O.move rfl (L.op rfl rfl (O.move rfl (L.op rfl rfl (O.call (xs := [.tmp 9, .const (.int .i64 8)]) Tryd.call46 rfl rfl (RLabels_calls lo' q ys 8 w1 hq) (fun v2 w2 hq => ?_))))))))
    obtain ⟨rfl, rfl⟩ := hq
    cases h2 : labelsOk ys 8
    · refine L.op rfl rfl (O.not rfl (L.op rfl rfl (O.pick_false rfl rfl (L.nil (T.cond_true rfl (T.seq (T.region (L.op rfl rfl (O.assign rfl (L.nil (T.ret1 Tryd.results58 rfl ⟨by rw [twoErr_bad (by rw [h2]; simp)], rfl⟩)))))))))))
    · refine L.op rfl rfl (O.not rfl (L.op rfl rfl (O.pick_false rfl rfl (L.nil (T.cond_false rfl (T.skip (T.seq (T.seq (T.region (L.op rfl rfl (O.move rfl (L.op rfl rfl (O.len Tryd.runUnderlying35 rfl (Sl.val hp) (L.op rfl rfl (O.move rfl (L.op rfl rfl (O.len Tryd.runUnderlying35 rfl (Sl.val hq) (L.op rfl rfl (O.neq_s rfl rfl (fun hl => ?_) (fun hl => ?_))))))))))))))))))))
      · refine L.nil (T.cond_true rfl (T.seq (T.region (L.op rfl rfl (O.assign rfl (L.nil (T.ret1 Tryd.results58 rfl ⟨by rw [twoErr_arg ⟨h1, h2⟩ (by omega)], rfl⟩)))))))
      · refine L.nil (T.cond_false rfl (T.skip (T.seq (T.region (L.op rfl rfl (O.assign rfl (L.nil (T.ret1 Tryd.results58 rfl ⟨by rw [twoErr_ok ⟨h1, h2⟩ (by omega)], rfl⟩))))))))

theorem equalP_calls (lo lo' : Nat) (p q : Value) (xs ys : List Int) (w : World) (hp : Ints .i64 lo w p xs) (hq : Ints .i64 lo' w q ys) :
    Calls Tryd.prog 26 #[p, q] w (Ret fun v w' => v = .bool (decide (xs = ys)) ∧ Ext w w') := by
  have hle := Sl.le hp
  refine T.enter (vs := [p, q]) Tryd.func26 rfl Tryd.ntmps26 rfl ?_
  refine T.seq (T.region (L.op rfl rfl (O.assign rfl (L.nil (T.seq (T.seq (T.region (L.op rfl rfl (O.move rfl (L.op rfl rfl (O.len Tryd.runUnderlying35 rfl (Sl.val hp) (L.op rfl rfl (O.move rfl (L.op rfl rfl (O.len Tryd.runUnderlying35 rfl (Sl.val hq) (L.op rfl rfl (O.neq_s rfl rfl (fun hl => ?_) (fun hl => ?_))))))))))))))))))
  · refine L.nil (T.cond_true rfl (T.seq (T.region (L.op rfl rfl (O.assign rfl (L.nil (T.ret1 Tryd.results26 rfl ⟨by rw [decide_eq_false (fun h => hl (by rw [h]))], Keep.refl _ _⟩)))))))
  · refine L.nil (?_)
    have hlen : xs.length = ys.length := by omega
    refine T.cond_false rfl (T.skip (T.seq (T.seq (T.region (L.op rfl rfl (O.move rfl (L.op rfl rfl (O.len Tryd.runUnderlying35 rfl (Sl.val hp) (L.op rfl rfl (O.move rfl (L.nil (T.block (?_)))))))))))))
    refine T.loop (σ := Nat) (fun i => [(0, p), (1, q), (12, .int .i64 xs.length), (13, .int .i64 i)]) (fun i w' => i ≤ xs.length ∧ Ext w w' ∧ ∀ j, j < i → xs.getD j 0 = ys.getD j 0) (fun i => xs.length - i) (0) ⟨rfl, rfl, rfl, rfl, trivial⟩ ⟨Nat.zero_le _, Keep.refl _ _, fun j hj => absurd hj (Nat.not_lt_zero _)⟩ ?_
    rintro i w1 ⟨hi, he1, hall⟩
    have hp1 := hp.keep (he1.mono (Nat.zero_le lo))
    have hq1 := hq.keep (he1.mono (Nat.zero_le lo'))
    refine T.seq (T.region (L.op rfl rfl (O.lss_s rfl rfl (fun hlt => ?_) (fun hlt => ?_))))
    · refine L.nil (?_)
      have hlt' : i < xs.length := by omega
      by_cases heq : xs.getD i 0 = ys.getD i 0
      · refine T.seq (T.cond_true rfl (T.skip (T.seq (T.block (T.seq (T.region (L.op rfl rfl (O.move rfl (L.op rfl rfl (O.assign rfl (L.nil (T.seq (?_)))))))))))))
        refine T.par mixed 9 [0, 5, 1] rfl [.is _, .is _, .is _, .is _, .is _, .is _, .is _, .is _, .is _] [[], [], [0, 1], [2], [], [], [4, 5], [6], [3, 7]] (by kernel_rfl) rfl ⟨trivial, trivial, trivial, trivial, trivial, trivial, trivial, trivial, trivial, trivial⟩ ⟨fun wx hx => Ob.op rfl (O.move rfl ⟨Keep.refl _ _, rfl⟩),
            fun wx hx => Ob.op rfl (O.move rfl ⟨Keep.refl _ _, rfl⟩),
            fun wx hx => Ob.op rfl (O.indexAddr Tryd.runUnderlying35 Tryd.sizeOf3 rfl rfl hp1 (by omega) (by omega) ⟨Keep.refl _ _, rfl⟩),
            fun wx hx => Ob.op rfl (O.load Tryd.isAgg3 rfl (Ints.at (hp1.keep (hx.mono (Nat.zero_le _))) hlt') ⟨Keep.refl _ _, rfl⟩),
            fun wx hx => Ob.op rfl (O.move rfl ⟨Keep.refl _ _, rfl⟩),
            fun wx hx => Ob.op rfl (O.move rfl ⟨Keep.refl _ _, rfl⟩),
            fun wx hx => Ob.op rfl (O.indexAddr Tryd.runUnderlying35 Tryd.sizeOf3 rfl rfl hq1 (by omega) (by omega) ⟨Keep.refl _ _, rfl⟩),
            fun wx hx => Ob.op rfl (O.load Tryd.isAgg3 rfl (Ints.at (hq1.keep (hx.mono (Nat.zero_le _))) (by omega)) ⟨Keep.refl _ _, rfl⟩),
            fun wx hx => Ob.op rfl (O.neq_f rfl rfl heq ⟨Keep.refl _ _, rfl⟩),
            trivial⟩ (fun w2 he2 => ?_)
        refine L.nil (T.cond_false rfl (T.skip (T.blk (T.region (L.op rfl rfl (O.add64 rfl rfl (by omega) (L.op rfl rfl (O.move rfl (L.nil (T.again (i + 1) (by omega) ⟨rfl, rfl, rfl, rfl, trivial⟩ ⟨hlt', he1.trans he2, fun j hj => ?_⟩))))))))))
        · by_cases hji : j = i
          · subst hji; exact heq
          · exact hall j (by omega)
      · refine T.seq (T.cond_true rfl (T.skip (T.seq (T.block (T.seq (T.region (L.op rfl rfl (O.move rfl (L.op rfl rfl (O.assign rfl (L.nil (T.seq (?_)))))))))))))
        refine T.par mixed 9 [0, 5, 1] rfl [.is _, .is _, .is _, .is _, .is _, .is _, .is _, .is _, .is _] [[], [], [0, 1], [2], [], [], [4, 5], [6], [3, 7]] (by kernel_rfl) rfl ⟨trivial, trivial, trivial, trivial, trivial, trivial, trivial, trivial, trivial, trivial⟩ ⟨fun wx hx => Ob.op rfl (O.move rfl ⟨Keep.refl _ _, rfl⟩),
            fun wx hx => Ob.op rfl (O.move rfl ⟨Keep.refl _ _, rfl⟩),
            fun wx hx => Ob.op rfl (O.indexAddr Tryd.runUnderlying35 Tryd.sizeOf3 rfl rfl hp1 (by omega) (by omega) ⟨Keep.refl _ _, rfl⟩),
            fun wx hx => Ob.op rfl (O.load Tryd.isAgg3 rfl (Ints.at (hp1.keep (hx.mono (Nat.zero_le _))) hlt') ⟨Keep.refl _ _, rfl⟩),
            fun wx hx => Ob.op rfl (O.move rfl ⟨Keep.refl _ _, rfl⟩),
            fun wx hx => Ob.op rfl (O.move rfl ⟨Keep.refl _ _, rfl⟩),
            fun wx hx => Ob.op rfl (O.indexAddr Tryd.runUnderlying35 Tryd.sizeOf3 rfl rfl hq1 (by omega) (by omega) ⟨Keep.refl _ _, rfl⟩),
            fun wx hx => Ob.op rfl (O.load Tryd.isAgg3 rfl (Ints.at (hq1.keep (hx.mono (Nat.zero_le _))) (by omega)) ⟨Keep.refl _ _, rfl⟩),
            fun wx hx => Ob.op rfl (O.neq_t rfl rfl heq ⟨Keep.refl _ _, rfl⟩),
            trivial⟩ (fun w2 he2 => ?_)
        refine L.nil (T.cond_true rfl (T.seq (T.region (L.op rfl rfl (O.assign rfl (L.nil (T.ret1 Tryd.results26 rfl ⟨by rw [decide_eq_false (fun h => heq (by rw [h]))], he1.trans he2⟩)))))))
    · refine L.nil (T.seq (T.cond_false rfl (T.exit rfl (T.seq (T.region (L.op rfl rfl (O.assign rfl (L.nil (T.ret1 Tryd.results26 rfl ⟨by rw [decide_eq_true (list_eq_of (d := 0) hlen (fun j hj => hall j (by omega)))], he1⟩)))))))))

theorem Requal_calls (lo lo' : Nat) (p q : Value) (xs ys : List Int) (w : World) (hp : Ints .i64 lo w p xs) (hq : Ints .i64 lo' w q ys) :
    Calls Tryd.prog 59 #[p, q] w (Ret fun v w' => v = .bool (decide (xs = ys)) ∧ Ext w w') := by
  have hle := Sl.le hp
  refine T.enter (vs := [p, q]) Tryd.func59 rfl Tryd.ntmps59 rfl ?_
  refine T.seq (T.region (L.op rfl rfl (O.assign rfl (L.nil (T.seq (T.seq (T.region (L.op rfl rfl (O.move rfl (L.op rfl rfl (O.len Tryd.runUnderlying35 rfl (Sl.val hp) (L.op rfl rfl (O.move rfl (L.op rfl rfl (O.len Tryd.runUnderlying35 rfl (Sl.val hq) (L.op rfl rfl (O.neq_s rfl rfl (fun hl => ?_) (fun hl => ?_))))))))))))))))))
  · refine L.nil (T.cond_true rfl (T.seq (T.region (L.op rfl rfl (O.assign rfl (L.nil (T.ret1 Tryd.results59 rfl ⟨by rw [decide_eq_false (fun h => hl (by rw [h]))], Keep.refl _ _⟩)))))))
  · refine L.nil (?_)
    have hlen : xs.length = ys.length := by omega
    refine T.cond_false rfl (T.skip (T.seq (T.seq (T.region (L.op rfl rfl (O.assign rfl (L.nil (T.block (?_)))))))))
    refine T.loop (σ := Nat) (fun i => [(0, p), (1, q), (5, .int .i64 i)]) (fun i w' => i ≤ xs.length ∧ Ext w w' ∧ ∀ j, j < i → xs.getD j 0 = ys.getD j 0) (fun i => xs.length - i) (0) ⟨rfl, rfl, rfl, trivial⟩ ⟨Nat.zero_le _, Keep.refl _ _, fun j hj => absurd hj (Nat.not_lt_zero _)⟩ ?_
    rintro i w1 ⟨hi, he1, hall⟩
    have hp1 := hp.keep (he1.mono (Nat.zero_le lo))
    have hq1 := hq.keep (he1.mono (Nat.zero_le lo'))
    refine T.seq (T.seq (T.region (L.op rfl rfl (O.move rfl (L.op rfl rfl (O.move rfl (L.op rfl rfl (O.len Tryd.runUnderlying35 rfl (Sl.val hp1) (L.op rfl rfl (O.lss_s rfl rfl (fun hlt => ?_) (fun hlt => ?_)))))))))))
    · refine L.nil (?_)
      have hlt' : i < xs.length := by omega
      by_cases heq : xs.getD i 0 = ys.getD i 0
      · refine T.cond_true rfl (T.skip (T.seq (T.block (T.seq (?_)))))
        refine T.par mixed 9 [0, 5, 1] rfl [.is _, .is _, .is _, .is _, .is _, .is _, .is _, .is _, .is _] [[], [], [0, 1], [2], [], [], [4, 5], [6], [3, 7]] (by kernel_rfl) rfl ⟨trivial, trivial, trivial, trivial, trivial, trivial, trivial, trivial, trivial, trivial⟩ ⟨fun wx hx => Ob.op rfl (O.move rfl ⟨Keep.refl _ _, rfl⟩),
            fun wx hx => Ob.op rfl (O.move rfl ⟨Keep.refl _ _, rfl⟩),
            fun wx hx => Ob.op rfl (O.indexAddr Tryd.runUnderlying35 Tryd.sizeOf3 rfl rfl hp1 (by omega) (by omega) ⟨Keep.refl _ _, rfl⟩),
            fun wx hx => Ob.op rfl (O.load Tryd.isAgg3 rfl (Ints.at (hp1.keep (hx.mono (Nat.zero_le _))) hlt') ⟨Keep.refl _ _, rfl⟩),
            fun wx hx => Ob.op rfl (O.move rfl ⟨Keep.refl _ _, rfl⟩),
            fun wx hx => Ob.op rfl (O.move rfl ⟨Keep.refl _ _, rfl⟩),
            fun wx hx => Ob.op rfl (O.indexAddr Tryd.runUnderlying35 Tryd.sizeOf3 rfl rfl hq1 (by omega) (by omega) ⟨Keep.refl _ _, rfl⟩),
            fun wx hx => Ob.op rfl (O.load Tryd.isAgg3 rfl (Ints.at (hq1.keep (hx.mono (Nat.zero_le _))) (by omega)) ⟨Keep.refl _ _, rfl⟩),
            fun wx hx => Ob.op rfl (O.neq_f rfl rfl heq ⟨Keep.refl _ _, rfl⟩),
            trivial⟩ (fun w2 he2 => ?_)
        refine L.nil (T.cond_false rfl (T.skip (T.blk (T.region (L.op rfl rfl (O.move rfl (L.op rfl rfl (O.add64 rfl rfl (by omega) (L.op rfl rfl (O.assign rfl (L.nil (T.again (i + 1) (by omega) ⟨rfl, rfl, rfl, trivial⟩ ⟨hlt', he1.trans he2, fun j hj => ?_⟩))))))))))))
        · by_cases hji : j = i
          · subst hji; exact heq
          · exact hall j (by omega)
      · refine T.cond_true rfl (T.skip (T.seq (T.block (T.seq (?_)))))
        refine T.par mixed 9 [0, 5, 1] rfl [.is _, .is _, .is _, .is _, .is _, .is _, .is _, .is _, .is _] [[], [], [0, 1], [2], [], [], [4, 5], [6], [3, 7]] (by kernel_rfl) rfl ⟨trivial, trivial, trivial, trivial, trivial, trivial, trivial, trivial, trivial, trivial⟩ ⟨fun wx hx => Ob.op rfl (O.move rfl ⟨Keep.refl _ _, rfl⟩),
            fun wx hx => Ob.op rfl (O.move rfl ⟨Keep.refl _ _, rfl⟩),
            fun wx hx => Ob.op rfl (O.indexAddr Tryd.runUnderlying35 Tryd.sizeOf3 rfl rfl hp1 (by omega) (by omega) ⟨Keep.refl _ _, rfl⟩),
            fun wx hx => Ob.op rfl (O.load Tryd.isAgg3 rfl (Ints.at (hp1.keep (hx.mono (Nat.zero_le _))) hlt') ⟨Keep.refl _ _, rfl⟩),
            fun wx hx => Ob.op rfl (O.move rfl ⟨Keep.refl _ _, rfl⟩),
            fun wx hx => Ob.op rfl (O.move rfl ⟨Keep.refl _ _, rfl⟩),
            fun wx hx => Ob.op rfl (O.indexAddr Tryd.runUnderlying35 Tryd.sizeOf3 rfl rfl hq1 (by omega) (by omega) ⟨Keep.refl _ _, rfl⟩),
            fun wx hx => Ob.op rfl (O.load Tryd.isAgg3 rfl (Ints.at (hq1.keep (hx.mono (Nat.zero_le _))) (by omega)) ⟨Keep.refl _ _, rfl⟩),
            fun wx hx => Ob.op rfl (O.neq_t rfl rfl heq ⟨Keep.refl _ _, rfl⟩),
            trivial⟩ (fun w2 he2 => ?_)
        refine L.nil (T.cond_true rfl (T.seq (T.region (L.op rfl rfl (O.assign rfl (L.nil (T.ret1 Tryd.results59 rfl ⟨by rw [decide_eq_false (fun h => heq (by rw [h]))], he1.trans he2⟩)))))))
    · refine L.nil (T.cond_false rfl (T.exit rfl (T.seq (T.region (L.op rfl rfl (O.assign rfl (L.nil (T.ret1 Tryd.results59 rfl ⟨by rw [decide_eq_true (list_eq_of (d := 0) hlen (fun j hj => hall j (by omega)))], he1⟩))))))))

theorem equalW_calls (lo lo' : Nat) (p q : Value) (xs ys : List Nat) (w : World) (hp : Words lo w p xs) (hq : Words lo' w q ys) :
    Calls Tryd.prog 18 #[p, q] w (Ret fun v w' => v = .bool (decide (xs = ys)) ∧ Ext w w') := by
  have hle := Sl.le hp
  refine T.enter (vs := [p, q]) Tryd.func18 rfl Tryd.ntmps18 rfl ?_
  refine T.seq (T.region (L.op rfl rfl (O.assign rfl (L.nil (T.seq (T.seq (T.region (L.op rfl rfl (O.move rfl (L.op rfl rfl (O.len Tryd.runUnderlying38 rfl (Sl.val hp) (L.op rfl rfl (O.move rfl (L.op rfl rfl (O.len Tryd.runUnderlying38 rfl (Sl.val hq) (L.op rfl rfl (O.neq_s rfl rfl (fun hl => ?_) (fun hl => ?_))))))))))))))))))
  · refine L.nil (T.cond_true rfl (T.seq (T.region (L.op rfl rfl (O.assign rfl (L.nil (T.ret1 Tryd.results18 rfl ⟨by rw [decide_eq_false (fun h => hl (by rw [h]))], Keep.refl _ _⟩)))))))
  · refine L.nil (?_)
    have hlen : xs.length = ys.length := by omega
    refine T.cond_false rfl (T.skip (T.seq (T.seq (T.region (L.op rfl rfl (O.move rfl (L.op rfl rfl (O.len Tryd.runUnderlying38 rfl (Sl.val hp) (L.op rfl rfl (O.move rfl (L.nil (T.block (?_)))))))))))))
    refine T.loop (σ := Nat) (fun i => [(0, p), (1, q), (12, .int .i64 xs.length), (13, .int .i64 i)]) (fun i w' => i ≤ xs.length ∧ Ext w w' ∧ ∀ j, j < i → xs.getD j 0 = ys.getD j 0) (fun i => xs.length - i) (0) ⟨rfl, rfl, rfl, rfl, trivial⟩ ⟨Nat.zero_le _, Keep.refl _ _, fun j hj => absurd hj (Nat.not_lt_zero _)⟩ ?_
    rintro i w1 ⟨hi, he1, hall⟩
    have hp1 := hp.keep (he1.mono (Nat.zero_le lo))
    have hq1 := hq.keep (he1.mono (Nat.zero_le lo'))
    refine T.seq (T.region (L.op rfl rfl (O.lss_s rfl rfl (fun hlt => ?_) (fun hlt => ?_))))
    · refine L.nil (?_)
      have hlt' : i < xs.length := by omega
      by_cases heq : xs.getD i 0 = ys.getD i 0
      · refine T.seq (T.cond_true rfl (T.skip (T.seq (T.block (T.seq (T.region (L.op rfl rfl (O.move rfl (L.op rfl rfl (O.assign rfl (L.nil (T.seq (?_)))))))))))))
        refine T.par mixed 9 [0, 5, 1] rfl [.is _, .is _, .is _, .is _, .is _, .is _, .is _, .is _, .is _] [[], [], [0, 1], [2], [], [], [4, 5], [6], [3, 7]] (by kernel_rfl) rfl ⟨trivial, trivial, trivial, trivial, trivial, trivial, trivial, trivial, trivial, trivial⟩ ⟨fun wx hx => Ob.op rfl (O.move rfl ⟨Keep.refl _ _, rfl⟩),
            fun wx hx => Ob.op rfl (O.move rfl ⟨Keep.refl _ _, rfl⟩),
            fun wx hx => Ob.op rfl (O.indexAddr Tryd.runUnderlying38 Tryd.sizeOf46 rfl rfl hp1 (by omega) (by omega) ⟨Keep.refl _ _, rfl⟩),
            fun wx hx => Ob.op rfl (O.load Tryd.isAgg46 rfl (Words.at (hp1.keep (hx.mono (Nat.zero_le _))) hlt') ⟨Keep.refl _ _, rfl⟩),
            fun wx hx => Ob.op rfl (O.move rfl ⟨Keep.refl _ _, rfl⟩),
            fun wx hx => Ob.op rfl (O.move rfl ⟨Keep.refl _ _, rfl⟩),
            fun wx hx => Ob.op rfl (O.indexAddr Tryd.runUnderlying38 Tryd.sizeOf46 rfl rfl hq1 (by omega) (by omega) ⟨Keep.refl _ _, rfl⟩),
            fun wx hx => Ob.op rfl (O.load Tryd.isAgg46 rfl (Words.at (hq1.keep (hx.mono (Nat.zero_le _))) (by omega)) ⟨Keep.refl _ _, rfl⟩),
            fun wx hx => Ob.op rfl (O.neq_f rfl rfl (by omega) ⟨Keep.refl _ _, rfl⟩),
            trivial⟩ (fun w2 he2 => ?_)
        refine L.nil (T.cond_false rfl (T.skip (T.blk (T.region (L.op rfl rfl (O.add64 rfl rfl (by omega) (L.op rfl rfl (O.move rfl (L.nil (T.again (i + 1) (by omega) ⟨rfl, rfl, rfl, rfl, trivial⟩ ⟨hlt', he1.trans he2, fun j hj => ?_⟩))))))))))
        · by_cases hji : j = i
          · subst hji; exact heq
          · exact hall j (by omega)
      · refine T.seq (T.cond_true rfl (T.skip (T.seq (T.block (T.seq (T.region (L.op rfl rfl (O.move rfl (L.op rfl rfl (O.assign rfl (L.nil (T.seq (?_)))))))))))))
        refine T.par mixed 9 [0, 5, 1] rfl [.is _, .is _, .is _, .is _, .is _, .is _, .is _, .is _, .is _] [[], [], [0, 1], [2], [], [], [4, 5], [6], [3, 7]] (by kernel_rfl) rfl ⟨trivial, trivial, trivial, trivial, trivial, trivial, trivial, trivial, trivial, trivial⟩ ⟨fun wx hx => Ob.op rfl (O.move rfl ⟨Keep.refl _ _, rfl⟩),
            fun wx hx => Ob.op rfl (O.move rfl ⟨Keep.refl _ _, rfl⟩),
            fun wx hx => Ob.op rfl (O.indexAddr Tryd.runUnderlying38 Tryd.sizeOf46 rfl rfl hp1 (by omega) (by omega) ⟨Keep.refl _ _, rfl⟩),
            fun wx hx => Ob.op rfl (O.load Tryd.isAgg46 rfl (Words.at (hp1.keep (hx.mono (Nat.zero_le _))) hlt') ⟨Keep.refl _ _, rfl⟩),
            fun wx hx => Ob.op rfl (O.move rfl ⟨Keep.refl _ _, rfl⟩),
            fun wx hx => Ob.op rfl (O.move rfl ⟨Keep.refl _ _, rfl⟩),
            fun wx hx => Ob.op rfl (O.indexAddr Tryd.runUnderlying38 Tryd.sizeOf46 rfl rfl hq1 (by omega) (by omega) ⟨Keep.refl _ _, rfl⟩),
            fun wx hx => Ob.op rfl (O.load Tryd.isAgg46 rfl (Words.at (hq1.keep (hx.mono (Nat.zero_le _))) (by omega)) ⟨Keep.refl _ _, rfl⟩),
            fun wx hx => Ob.op rfl (O.neq_t rfl rfl (by omega) ⟨Keep.refl _ _, rfl⟩),
            trivial⟩ (fun w2 he2 => ?_)
        refine L.nil (T.cond_true rfl (T.seq (T.region (L.op rfl rfl (O.assign rfl (L.nil (T.ret1 Tryd.results18 rfl ⟨by rw [decide_eq_false (fun h => heq (by rw [h]))], he1.trans he2⟩)))))))
    · refine L.nil (T.seq (T.cond_false rfl (T.exit rfl (T.seq (T.region (L.op rfl rfl (O.assign rfl (L.nil (T.ret1 Tryd.results18 rfl ⟨by rw [decide_eq_true (list_eq_of (d := 0) hlen (fun j hj => hall j (by omega)))], he1⟩)))))))))

end Go.Proofs.YthjdljbghjelfaaDoor
set_option linter.unusedVariables false
set_option linter.unusedSimpArgs false
set_option maxRecDepth 20000
namespace Go.Proofs.YthjdljbghjelfaaDoor
open Go Go.E
attribute [local irreducible] Go.E.T Go.E.L Go.E.O Go.E.Ob

def nmStep (kvs : List KV) (x : Int) : List KV := if (getI kvs x).isSome then kvs else kvs ++ [(x, (kvs.length : Int))]
/-- The names that the first labels have got. -/
def nmTo (xs : List Int) : Nat → List KV
  | 0 => []
  | i + 1 => nmStep (nmTo xs i) (xs.getD i 0)
def canTo (xs : List Int) : Nat → List Int
  | 0 => []
  | i + 1 => canTo xs i ++ [(getI (nmTo xs (i + 1)) (xs.getD i 0)).getD 0]
def canonOf (xs : List Int) : List Int := canTo xs xs.length
theorem canTo_len (xs : List Int) : ∀ i, (canTo xs i).length = i
  | 0 => rfl
  | i + 1 => by simp [canTo, canTo_len xs i]
theorem findI_snoc (k x v : Int) : ∀ (kvs : List KV) (n : Nat), findI (kvs ++ [(x, v)]) k n = match findI kvs k n with | some p => some p | none => if k = x then some (n + kvs.length, v) else none
  | [], n => by simp [findI]
  | p :: r, n => by
    simp only [List.cons_append, findI]
    split
    · rfl
    · rw [findI_snoc k x v r (n + 1), List.length_cons, show n + 1 + r.length = n + (r.length + 1) by omega]
theorem getI_snoc {kvs : List KV} {k x v : Int} (h : getI kvs x = none) : getI (kvs ++ [(x, v)]) k = if k = x then some v else getI kvs k := by
  unfold getI at h ⊢
  rw [findI_snoc]
  by_cases hk : k = x
  · subst hk
    cases hf : findI kvs k 0 with
    | none => simp
    | some p => rw [hf] at h; cases h
  · cases hf : findI kvs k 0 with
    | none => simp [hk]
    | some p => simp [hk]
theorem putI_none {kvs : List KV} {k v : Int} (h : getI kvs k = none) : putI kvs k v = kvs ++ [(k, v)] := by
  unfold getI at h; unfold putI
  cases hf : findI kvs k 0 with
  | none => rfl
  | some p => rw [hf] at h; cases h
/-- All names are numbers from 0 on. -/
theorem nm_pos (xs : List Int) : ∀ (i : Nat) (k v : Int), getI (nmTo xs i) k = some v → 0 ≤ v
  | 0, k, v, h => by simp [nmTo, getI, findI] at h
  | i + 1, k, v, h => by
    simp only [nmTo, nmStep] at h
    split at h
    · exact nm_pos xs i k v h
    · rename_i hn
      rw [getI_snoc (by simpa using hn)] at h
      split at h
      · cases h; omega
      · exact nm_pos xs i k v h
theorem nmTo_len (xs : List Int) : ∀ i, (nmTo xs i).length ≤ i
  | 0 => Nat.le_refl _
  | i + 1 => by
    simp only [nmTo, nmStep]
    have := nmTo_len xs i
    split
    · omega
    · simp; omega
def canonErr (xs : List Int) : Int := if labelsOk xs 8 = true then 0 else 210
/-- What 'Canon' hands back. -/
def CanonPost (xs : List Int) (w : World) (v : Value) (w' : World) : Prop :=
  Ext w w' ∧ ∃ l, v = .tuple #[l, .int .i64 (canonErr xs)] ∧ Ints .i64 w.heap.size w' l (if labelsOk xs 8 = true then canonOf xs else [])
theorem canon_bad {xs : List Int} {w w' : World} (he : Ext w w') (h : labelsOk xs 8 = false) : CanonPost xs w (.tuple #[.slice none 0 0, .int .i64 210]) w' := by
  refine ⟨he, _, by rw [canonErr, if_neg (by rw [h]; simp)], ?_⟩
  rw [if_neg (by rw [h]; simp)]; exact Sl.nil _ _ _
theorem can_set (xs : List Int) (n i : Nat) (h : i < n) (v : Int) : (((canTo xs i).map (Value.int .i64)) ++ List.replicate (n - i) (Value.int .i64 0)).set (0 + i * 1) (.int .i64 v) = (canTo xs i).map (Value.int .i64) ++ [Value.int .i64 v] ++ List.replicate (n - (i + 1)) (Value.int .i64 0) := by
  have hl : ((canTo xs i).map (Value.int .i64)).length = i := by simp [canTo_len]
  rw [Nat.zero_add, Nat.mul_one, show n - i = (n - (i + 1)) + 1 by omega, List.replicate_succ, List.set_append_right _ _ (by omega), hl, Nat.sub_self, List.set_cons_zero, List.append_assoc]
  rfl
theorem Canon_calls (lo : Nat) (p : Value) (xs : List Int) (w : World) (hp : Ints .i64 lo w p xs) :
    Calls Tryd.prog 30 #[p] w (Ret fun v w' => CanonPost xs w v w') := by
  refine T.enter (vs := [p]) Tryd.func30 rfl Tryd.ntmps30 rfl ?_
  refine T.seq (T.region (L.op rfl rfl (O.assign rfl (L.op rfl rfl (O.assign rfl (L.nil (T.seq (T.seq (T.region (L.op rfl rfl (O.move rfl (L.op rfl rfl (O.call (xs := [.tmp 10, .const (.int .i64 8)]) Tryd.call44 rfl rfl (labels_calls lo p xs 8 w hp) (fun v1 w1 hq => ?_))))))))))))))
  obtain ⟨rfl, rfl⟩ := hq
  cases hl : labelsOk xs 8
  · refine L.op rfl rfl (O.not rfl (L.nil (T.cond_true rfl (T.seq (T.region (L.op rfl rfl (O.assign rfl (L.op rfl rfl (O.assign rfl (L.nil (T.ret2 Tryd.results30 rfl rfl (canon_bad (Keep.refl _ _) hl))))))))))))
  · have hm := labels_mem hl
    refine L.op rfl rfl (O.not rfl (L.nil (T.cond_false rfl (T.skip (T.seq (T.region (L.op rfl rfl (O.makeMap (fun b2 w2 hb2 hz2 he2 hM2 => ?_)))))))))
    have hp2 := hp.keep (he2.mono (Nat.zero_le lo))
    refine L.op rfl rfl (O.assign rfl (L.nil (T.seq (T.region (L.op rfl rfl (O.move rfl (L.op rfl rfl (O.len Tryd.runUnderlying35 rfl (Sl.val hp2) (L.op rfl rfl (O.makeSlice Tryd.runUnderlying35 Tryd.typeInfo3 Tryd.sizeOf3 Tryd.zeroValue3 rfl rfl rfl (by show xs.length * 8 ≤ _; omega) (by omega) (fun b3 w3 hb3 hz3 he3 hB3 => ?_)))))))))))
    have hp3 := hp2.keep (he3.mono (Nat.zero_le lo))
    refine L.op rfl rfl (O.assign rfl (L.nil (T.seq (T.seq (T.region (L.op rfl rfl (O.move rfl (L.op rfl rfl (O.len Tryd.runUnderlying35 rfl (Sl.val hp3) (L.op rfl rfl (O.move rfl (L.nil (T.block (?_))))))))))))))
    refine T.loop (σ := Nat) (fun i => [(4, .map (some b2)), (5, .slice (some ⟨b3, 0, none⟩) xs.length xs.length), (17, p), (18, .int .i64 xs.length), (19, .int .i64 i)]) (fun i w' => i ≤ xs.length ∧ Ext w1 w' ∧ MapI w' b2 (nmTo xs i) ∧ Blk w' b3 ((canTo xs i).map (Value.int .i64) ++ List.replicate (xs.length - i) (Value.int .i64 0)) 3) (fun i => xs.length - i) (0) ⟨rfl, rfl, rfl, rfl, rfl, trivial⟩ ⟨Nat.zero_le _, he2.trans he3, hM2.keep he3 (Nat.zero_le _), hB3⟩ ?_
    rintro i w4 ⟨hi, he4, hM4, hB4⟩
    refine T.seq (T.region (L.op rfl rfl (O.lss_s rfl rfl (fun hlt => ?_) (fun hlt => ?_))))
    · refine L.nil (?_)
      have hlt' : i < xs.length := by omega
      have hp4 := hp.keep (he4.mono (Nat.zero_le lo))
      have hlen := nmTo_len xs i
      refine T.seq (T.cond_true rfl (T.skip (T.seq (T.block (T.seq (T.region (L.op rfl rfl (O.move rfl (L.op rfl rfl (O.indexAddr Tryd.runUnderlying35 Tryd.sizeOf3 rfl rfl hp4 (by omega) (by omega) (L.op rfl rfl (O.load Tryd.isAgg3 rfl (Ints.at hp4 hlt') (L.op rfl rfl (O.assign rfl (L.op rfl rfl (O.assign rfl (L.nil (T.seq (T.region (L.op rfl rfl (O.move rfl (L.op rfl rfl (O.move rfl (L.op rfl rfl (O.lookupOk Tryd.runUnderlying100 Tryd.runUnderlying3 Tryd.zeroValue3 rfl rfl hM4 (?_))))))))))))))))))))))))))
      have hit : Ints .i64 0 w4 (.slice (some ⟨b3, 0, none⟩) xs.length xs.length) (canTo xs i ++ List.replicate (xs.length - i) 0) := Ints.of_blk (by simpa using hB4) (by simp [canTo_len]; omega) (Sl.le hp) (Nat.zero_le _)
      cases hg : getI (nmTo xs i) (xs.getD i 0)
      · refine L.op rfl rfl (O.move rfl (L.op rfl rfl (O.extract rfl rfl (L.op rfl rfl (O.extract rfl rfl (L.op rfl rfl (O.assign rfl (L.op rfl rfl (O.assign rfl (L.nil (T.seq (T.seq (T.region (L.op rfl rfl (O.move rfl (L.op rfl rfl (O.not rfl (L.nil (T.cond_true rfl (T.seq (T.region (L.op rfl rfl (O.move rfl (L.op rfl rfl (O.lenMap Tryd.runUnderlying100 rfl hM4 (L.op rfl rfl (O.assign rfl (L.nil (T.region (L.op rfl rfl (O.move rfl (L.op rfl rfl (O.move rfl (L.op rfl rfl (O.move rfl (L.op rfl rfl (O.mapUpdate Tryd.runUnderlying100 Tryd.runUnderlying3 rfl rfl rfl hM4 (fun w5 hu5 hM5 => ?_))))))))))))))))))))))))))))))))))))))
        have hB5 := hB4.upd hu5 (by omega)
        have hst : nmTo xs (i + 1) = nmTo xs i ++ [(xs.getD i 0, ((nmTo xs i).length : Int))] := by simp only [nmTo, nmStep]; rw [hg]; rfl
        have hval : (getI (nmTo xs (i + 1)) (xs.getD i 0)).getD 0 = ((nmTo xs i).length : Int) := by rw [hst, getI_snoc hg, if_pos rfl]; rfl
        refine L.nil (T.region (L.op rfl rfl (O.move rfl (L.op rfl rfl (O.move rfl (L.op rfl rfl (O.move rfl (L.op rfl rfl (O.indexAddr Tryd.runUnderlying35 Tryd.sizeOf3 rfl rfl hit (by omega) (by simp [canTo_len]; omega) (L.op rfl rfl (O.store1_at Tryd.sizeOf3 rfl rfl rfl hB5 (by simp [canTo_len]; omega) (fun w6 hu6 hB6 => ?_))))))))))))
        rw [Int.toNat_natCast, can_set xs xs.length i hlt'] at hB6
        refine L.nil (T.blk (T.region (L.op rfl rfl (O.add64 rfl rfl (by omega) (L.op rfl rfl (O.move rfl (L.nil (T.again (i + 1) (by omega) ⟨rfl, rfl, rfl, rfl, rfl, trivial⟩ ⟨hlt', (he4.upd hu5 (.inr (by omega))).upd hu6 (.inr (by have := he2.size; omega)), ?_, ?_⟩))))))))
        · rw [hst, ← putI_none hg]; exact hM5.upd hu6 (by omega)
        · simp only [canTo, List.map_append, List.map_cons, List.map_nil]
          rw [hval]; exact hB6
      · rename_i v9
        have hst : nmTo xs (i + 1) = nmTo xs i := by simp only [nmTo, nmStep]; rw [hg]; rfl
        have hval : (getI (nmTo xs (i + 1)) (xs.getD i 0)).getD 0 = v9 := by rw [hst, hg]; rfl
        refine L.op rfl rfl (O.move rfl (L.op rfl rfl (O.extract rfl rfl (L.op rfl rfl (O.extract rfl rfl (L.op rfl rfl (O.assign rfl (L.op rfl rfl (O.assign rfl (L.nil (T.seq (T.seq (T.region (L.op rfl rfl (O.move rfl (L.op rfl rfl (O.not rfl (L.nil (T.cond_false rfl (T.skip (T.region (L.op rfl rfl (O.move rfl (L.op rfl rfl (O.move rfl (L.op rfl rfl (O.move rfl (L.op rfl rfl (O.indexAddr Tryd.runUnderlying35 Tryd.sizeOf3 rfl rfl hit (by omega) (by simp [canTo_len]; omega) (L.op rfl rfl (O.store1_at Tryd.sizeOf3 rfl rfl rfl hB4 (by simp [canTo_len]; omega) (fun w6 hu6 hB6 => ?_))))))))))))))))))))))))))))))))
        have hB7 : Blk w6 b3 (((canTo xs i).map (Value.int .i64) ++ List.replicate (xs.length - i) (Value.int .i64 0)).set (0 + i * 1) (.int .i64 v9)) 3 := hB6
        rw [can_set xs xs.length i hlt'] at hB7
        refine L.nil (T.blk (T.region (L.op rfl rfl (O.add64 rfl rfl (by omega) (L.op rfl rfl (O.move rfl (L.nil (T.again (i + 1) (by omega) ⟨rfl, rfl, rfl, rfl, rfl, trivial⟩ ⟨hlt', he4.upd hu6 (.inr (by have := he2.size; omega)), ?_, ?_⟩))))))))
        · rw [hst]; exact hM4.upd hu6 (by omega)
        · simp only [canTo, List.map_append, List.map_cons, List.map_nil]
          rw [hval]; exact hB7
    · refine L.nil (?_)
      obtain rfl : i = xs.length := by omega
      refine T.seq (T.cond_false rfl (T.exit rfl (T.seq (T.region (L.op rfl rfl (O.move rfl (L.op rfl rfl (O.assign rfl (L.op rfl rfl (O.assign rfl (L.nil (T.ret2 Tryd.results30 rfl rfl ⟨he4, _, by rw [canonErr, if_pos hl], ?_⟩))))))))))))
      rw [if_pos hl]
      rw [Nat.sub_self, List.replicate_zero, List.append_nil] at hB4
      have h5 := Ints.of_blk (lo := w1.heap.size) (n := xs.length) hB4 (canTo_len _ _) (Sl.le hp) (by have := he2.size; omega)
      exact h5

def nmInts (kvs : List KV) : List Int := (List.range 8).map fun d : Nat => (getI kvs (d : Int)).getD (-1)
theorem nmInts_len (kvs : List KV) : (nmInts kvs).length = 8 := by simp [nmInts]
theorem nmInts_get {kvs : List KV} {x : Int} (h0 : 0 ≤ x) (h1 : x < 8) : (nmInts kvs).getD x.toNat 0 = (getI kvs x).getD (-1) := by
  have h : x.toNat < 8 := by omega
  simp [nmInts, List.getD, h, Int.toNat_of_nonneg h0]
theorem nmInts_set {kvs : List KV} {x v : Int} (h0 : 0 ≤ x) (h1 : x < 8) (hn : getI kvs x = none) : ((nmInts kvs).map (Value.int .i64)).set (0 + x.toNat * 1) (.int .i64 v) = (nmInts (kvs ++ [(x, v)])).map (Value.int .i64) := by
  rw [Nat.zero_add, Nat.mul_one]
  apply List.ext_getElem
  · simp [nmInts]
  · intro j h2 h3
    have hj : j < 8 := by simpa [nmInts] using h3
    by_cases hjx : x.toNat = j
    · subst hjx
      rw [List.getElem_set_self]
      simp only [nmInts, List.getElem_map, List.getElem_range]
      rw [getI_snoc hn, if_pos (by omega)]; rfl
    · rw [List.getElem_set_ne hjx]
      simp only [nmInts, List.getElem_map, List.getElem_range]
      rw [getI_snoc hn, if_neg (by omega)]
theorem RCanon_calls (lo : Nat) (p : Value) (xs : List Int) (w : World) (hp : Ints .i64 lo w p xs) :
    Calls Tryd.prog 31 #[p] w (Ret fun v w' => CanonPost xs w v w') := by
  refine T.enter (vs := [p]) Tryd.func31 rfl Tryd.ntmps31 rfl ?_
  refine T.seq (T.region (L.op rfl rfl (O.assign rfl (L.op rfl rfl (O.assign rfl (L.nil (T.seq (T.seq (T.region (L.op rfl rfl (O.move rfl (L.op rfl rfl (O.call (xs := [.tmp 8, .const (.int .i64 8)]) Tryd.call46 rfl rfl (RLabels_calls lo p xs 8 w hp) (fun v1 w1 hq => ?_))))))))))))))
  obtain ⟨rfl, rfl⟩ := hq
  cases hl : labelsOk xs 8
  · refine L.op rfl rfl (O.not rfl (L.nil (T.cond_true rfl (T.seq (T.region (L.op rfl rfl (O.assign rfl (L.op rfl rfl (O.assign rfl (L.nil (T.ret2 Tryd.results31 rfl rfl (canon_bad (Keep.refl _ _) hl))))))))))))
  · have hm := labels_mem hl
    refine L.op rfl rfl (O.not rfl (L.nil (T.cond_false rfl (T.skip (T.seq (T.region (L.op rfl rfl (O.buildSlice (el := 3) (parts := [(0, .const (.int .i64 (-1))), (1, .const (.int .i64 (-1))), (2, .const (.int .i64 (-1))), (3, .const (.int .i64 (-1))), (4, .const (.int .i64 (-1))), (5, .const (.int .i64 (-1))), (6, .const (.int .i64 (-1))), (7, .const (.int .i64 (-1)))]) (vs := [(0, _), (1, _), (2, _), (3, _), (4, _), (5, _), (6, _), (7, _)]) (cs := [.int .i64 (-1), .int .i64 (-1), .int .i64 (-1), .int .i64 (-1), .int .i64 (-1), .int .i64 (-1), .int .i64 (-1), .int .i64 (-1)]) rfl (fun w => by kernel_rfl) (fun b2 w2 hb2 hz2 he2 hB2 => ?_)))))))))
    refine L.op rfl rfl (O.assign rfl (L.nil (T.seq (T.region (L.op rfl rfl (O.assign rfl (L.nil (T.seq (T.region (L.op rfl rfl (O.assign rfl (L.nil (T.seq (T.seq (T.region (L.op rfl rfl (O.assign rfl (L.nil (T.block (?_))))))))))))))))))))
    refine T.loop (σ := Nat × Value) (fun s => [(0, p), (4, .slice (some ⟨b2, 0, none⟩) 8 8), (5, .int .i64 (nmTo xs s.1).length), (6, s.2), (7, .int .i64 s.1)]) (fun s w' => s.1 ≤ xs.length ∧ Ext w1 w' ∧ w2.heap.size ≤ w'.heap.size ∧ Blk w' b2 ((nmInts (nmTo xs s.1)).map (Value.int .i64)) 3 ∧ w'.ownsRow w2.heap.size 3 1 s.2 s.1 ((canTo xs s.1).map (Value.int .i64))) (fun s => xs.length - s.1) ((0, .slice none 0 0)) ⟨rfl, rfl, rfl, rfl, rfl, trivial⟩ ⟨Nat.zero_le _, he2, Nat.le_refl _, hB2, owns_nil _ _ _ _⟩ ?_
    rintro ⟨i, out⟩ w3 ⟨hi, he3, hsz3, hB3, hO3⟩
    simp only at hi he3 hB3 hO3
    have hp3 := hp.keep (he3.mono (Nat.zero_le lo))
    have hlen := nmTo_len xs i
    have hIt3 : Ints .i64 0 w3 (.slice (some ⟨b2, 0, none⟩) 8 8) (nmInts (nmTo xs i)) := Ints.of_blk hB3 (nmInts_len _) (by decide) (Nat.zero_le _)
    refine T.seq (T.seq (T.region (L.op rfl rfl (O.move rfl (L.op rfl rfl (O.move rfl (L.op rfl rfl (O.len Tryd.runUnderlying35 rfl (Sl.val hp3) (L.op rfl rfl (O.lss_s rfl rfl (fun hlt => ?_) (fun hlt => ?_)))))))))))
    · refine L.nil (?_)
      have hlt' : i < xs.length := by simp only at hlt; omega
      have hxi := hm.2.2 i hlt'
      refine T.cond_true rfl (T.skip (T.seq (T.block (T.seq (T.seq (T.region (L.op rfl rfl (O.move rfl (L.op rfl rfl (O.move rfl (L.op rfl rfl (O.move rfl (L.op rfl rfl (O.indexAddr Tryd.runUnderlying35 Tryd.sizeOf3 rfl rfl hp3 (by omega) (by omega) (L.op rfl rfl (O.load Tryd.isAgg3 rfl (Ints.at hp3 hlt') (L.op rfl rfl (O.indexAddr Tryd.runUnderlying34 Tryd.sizeOf3 rfl rfl hIt3 hxi.1 (by rw [nmInts_len]; exact hxi.2) (L.op rfl rfl (O.load Tryd.isAgg3 rfl (Ints.cell hIt3 hxi.1 (by rw [nmInts_len]; exact hxi.2)) (?_)))))))))))))))))))))
      have hget := nmInts_get (kvs := nmTo xs i) hxi.1 hxi.2
      have hpos := nm_pos xs i (xs.getD i 0)
      refine L.op rfl rfl (O.lss_s rfl rfl (fun hneg => ?_) (fun hneg => ?_))
      · refine L.nil (?_)
        have hg : getI (nmTo xs i) (xs.getD i 0) = none := by
          rw [hget] at hneg
          cases hg : getI (nmTo xs i) (xs.getD i 0) with
          | none => rfl
          | some v => rw [hg] at hneg; have := hpos v hg; simp at hneg; omega
        have hst : nmTo xs (i + 1) = nmTo xs i ++ [(xs.getD i 0, ((nmTo xs i).length : Int))] := by simp only [nmTo, nmStep]; rw [hg]; rfl
        have hval : (getI (nmTo xs (i + 1)) (xs.getD i 0)).getD 0 = ((nmTo xs i).length : Int) := by rw [hst, getI_snoc hg, if_pos rfl]; rfl
        refine T.cond_true rfl (T.seq (T.region (L.op rfl rfl (O.move rfl (L.op rfl rfl (O.move rfl (L.op rfl rfl (O.move rfl (L.op rfl rfl (O.indexAddr Tryd.runUnderlying35 Tryd.sizeOf3 rfl rfl hp3 (by omega) (by omega) (L.op rfl rfl (O.load Tryd.isAgg3 rfl (Ints.at hp3 hlt') (L.op rfl rfl (O.move rfl (L.op rfl rfl (O.indexAddr Tryd.runUnderlying34 Tryd.sizeOf3 rfl rfl hIt3 hxi.1 (by rw [nmInts_len]; exact hxi.2) (L.op rfl rfl (O.store1_at Tryd.sizeOf3 rfl rfl rfl hB3 (by rw [List.length_map, nmInts_len]; simp only; omega) (fun w4 hu4 hB4 => ?_)))))))))))))))))))
        have hB4' : Blk w4 b2 (((nmInts (nmTo xs i)).map (Value.int .i64)).set (0 + (xs.getD i 0).toNat * 1) (.int .i64 ((nmTo xs i).length : Int))) 3 := hB4
        rw [nmInts_set hxi.1 hxi.2 hg, ← hst] at hB4'
        have hIt4 : Ints .i64 0 w4 (.slice (some ⟨b2, 0, none⟩) 8 8) (nmInts (nmTo xs (i + 1))) := Ints.of_blk hB4' (nmInts_len _) (by decide) (Nat.zero_le _)
        have he4 := he3.upd hu4 (.inr (by omega))
        have hp4 := hp.keep (he4.mono (Nat.zero_le lo))
        have hget4 := nmInts_get (kvs := nmTo xs (i + 1)) hxi.1 hxi.2
        refine L.nil (T.region (L.op rfl rfl (O.move rfl (L.op rfl rfl (O.add64 rfl rfl (by simp only; omega) (L.op rfl rfl (O.assign rfl (L.nil (T.region (L.op rfl rfl (O.move rfl (L.op rfl rfl (O.move rfl (L.op rfl rfl (O.move rfl (L.op rfl rfl (O.move rfl (L.op rfl rfl (O.indexAddr Tryd.runUnderlying35 Tryd.sizeOf3 rfl rfl hp4 (by omega) (by omega) (L.op rfl rfl (O.load Tryd.isAgg3 rfl (Ints.at hp4 hlt') (L.op rfl rfl (O.indexAddr Tryd.runUnderlying34 Tryd.sizeOf3 rfl rfl hIt4 hxi.1 (by rw [nmInts_len]; exact hxi.2) (L.op rfl rfl (O.load Tryd.isAgg3 rfl (Ints.cell hIt4 hxi.1 (by rw [nmInts_len]; exact hxi.2)) (?_))))))))))))))))))))))))))
        have hcell : (nmInts (nmTo xs (i + 1))).getD (xs.getD i 0).toNat 0 = ((nmTo xs i).length : Int) := by rw [hget4, hst, getI_snoc hg, if_pos rfl]; rfl
        refine L.op rfl rfl (O.buildSlice (el := 3) (parts := [(0, .tmp 42)]) (vs := [(0, _)]) (cs := [.int .i64 ((nmInts (nmTo xs (i + 1))).getD (xs.getD i 0).toNat 0)]) rfl (fun w => by kernel_rfl) (fun b5 w5 hb5 hz5 he5 hB5 => ?_))
        refine L.op rfl rfl (O.append (size := 1) (bytes := 8) Tryd.runUnderlying35 Tryd.infoOf3 rfl rfl rfl rfl (by decide) rfl rfl (owns_keep (owns_upd hO3 hu4 (by omega)) he5 (Nat.zero_le _)) (Sl.of_blk (lo := 0) hB5 rfl (Nat.le_refl _) (by decide) (Nat.zero_le _)) (by intro c hc; simp at hc; simp [hc, Value.oneCell']) (by omega) (by simp only [maxLen]; omega) (by have h2 := he5.size; have h3 := hu4.size; omega) (fun v6 w6 hO6 hG6 => ?_))
        have h56 := hG6.size
        have h45 := he5.size
        have h34 := hu4.size
        refine L.op rfl rfl (O.assign rfl (L.nil (T.blk (T.region (L.op rfl rfl (O.move rfl (L.op rfl rfl (O.add64 rfl rfl (by omega) (L.op rfl rfl (O.assign rfl (L.nil (T.again ((i + 1, v6)) (by omega) ⟨rfl, rfl, ?_, rfl, rfl, trivial⟩ ⟨hlt', (he4.trans he5).grown0 hO3 hG6 he2.size, by omega, (hB4'.keep he5 (Nat.zero_le _)).grown hG6 (fun j hj => by have := (own_at hO3 hj).1; omega), ?_⟩))))))))))))
        · show some (Value.int .i64 (((nmTo xs i).length : Int) + 1)) = _; rw [hst]; simp
        · show w6.ownsRow _ _ _ _ _ _
          simp only [canTo, List.map_append, List.map_cons, List.map_nil]
          rw [hval, ← hcell]; exact hO6
      · refine L.nil (?_)
        obtain ⟨v9, hg⟩ : ∃ v9, getI (nmTo xs i) (xs.getD i 0) = some v9 := by
          rw [hget] at hneg
          cases hg : getI (nmTo xs i) (xs.getD i 0) with
          | none => rw [hg] at hneg; simp at hneg
          | some v => exact ⟨v, rfl⟩
        have hst : nmTo xs (i + 1) = nmTo xs i := by simp only [nmTo, nmStep]; rw [hg]; rfl
        have hval : (getI (nmTo xs (i + 1)) (xs.getD i 0)).getD 0 = v9 := by rw [hst, hg]; rfl
        refine T.cond_false rfl (T.skip (T.region (L.op rfl rfl (O.move rfl (L.op rfl rfl (O.move rfl (L.op rfl rfl (O.move rfl (L.op rfl rfl (O.move rfl (L.op rfl rfl (O.indexAddr Tryd.runUnderlying35 Tryd.sizeOf3 rfl rfl hp3 (by omega) (by omega) (L.op rfl rfl (O.load Tryd.isAgg3 rfl (Ints.at hp3 hlt') (L.op rfl rfl (O.indexAddr Tryd.runUnderlying34 Tryd.sizeOf3 rfl rfl hIt3 hxi.1 (by rw [nmInts_len]; exact hxi.2) (L.op rfl rfl (O.load Tryd.isAgg3 rfl (Ints.cell hIt3 hxi.1 (by rw [nmInts_len]; exact hxi.2)) (?_)))))))))))))))))))
        have hcell : (nmInts (nmTo xs i)).getD (xs.getD i 0).toNat 0 = v9 := by rw [hget, hg]; rfl
        refine L.op rfl rfl (O.buildSlice (el := 3) (parts := [(0, .tmp 42)]) (vs := [(0, _)]) (cs := [.int .i64 ((nmInts (nmTo xs i)).getD (xs.getD i 0).toNat 0)]) rfl (fun w => by kernel_rfl) (fun b5 w5 hb5 hz5 he5 hB5 => ?_))
        refine L.op rfl rfl (O.append (size := 1) (bytes := 8) Tryd.runUnderlying35 Tryd.infoOf3 rfl rfl rfl rfl (by decide) rfl rfl (owns_keep hO3 he5 (Nat.zero_le _)) (Sl.of_blk (lo := 0) hB5 rfl (Nat.le_refl _) (by decide) (Nat.zero_le _)) (by intro c hc; simp at hc; simp [hc, Value.oneCell']) (by omega) (by simp only [maxLen]; omega) (by have h2 := he5.size; omega) (fun v6 w6 hO6 hG6 => ?_))
        have h56 := hG6.size
        have h45 := he5.size
        refine L.op rfl rfl (O.assign rfl (L.nil (T.blk (T.region (L.op rfl rfl (O.move rfl (L.op rfl rfl (O.add64 rfl rfl (by omega) (L.op rfl rfl (O.assign rfl (L.nil (T.again ((i + 1, v6)) (by omega) ⟨rfl, rfl, ?_, rfl, rfl, trivial⟩ ⟨hlt', (he3.trans he5).grown0 hO3 hG6 he2.size, by omega, by rw [hst]; exact (hB3.keep he5 (Nat.zero_le _)).grown hG6 (fun j hj => by have := (own_at hO3 hj).1; omega), ?_⟩))))))))))))
        · show some (Value.int .i64 ((nmTo xs i).length : Int)) = _; rw [hst]
        · show w6.ownsRow _ _ _ _ _ _
          simp only [canTo, List.map_append, List.map_cons, List.map_nil]
          rw [hval, ← hcell]; exact hO6
    · refine L.nil (?_)
      obtain rfl : i = xs.length := by simp only at hlt; omega
      refine T.cond_false rfl (T.exit rfl (T.seq (T.region (L.op rfl rfl (O.move rfl (L.op rfl rfl (O.assign rfl (L.op rfl rfl (O.assign rfl (L.nil (T.ret2 Tryd.results31 rfl rfl ⟨he3, _, by rw [canonErr, if_pos hl], ?_⟩)))))))))))
      rw [if_pos hl]
      have h5 := (Sl.of_owns hO3).mono (show w1.heap.size ≤ w2.heap.size from he2.size)
      unfold Ints
      rw [show (canonOf xs).length = xs.length from canTo_len _ _]
      exact h5

end Go.Proofs.YthjdljbghjelfaaDoor
set_option linter.unusedVariables false
set_option linter.unusedSimpArgs false
set_option maxRecDepth 20000
namespace Go.Proofs.YthjdljbghjelfaaDoor
open Go Go.E
attribute [local irreducible] Go.E.T Go.E.L Go.E.O Go.E.Ob

/-- Two lists have equal labels at the same places. -/
def AlikeTo (xs ys : List Int) (i : Nat) : Prop := ∀ j k, j < i → k < i → (xs.getD j 0 = xs.getD k 0 ↔ ys.getD j 0 = ys.getD k 0)
theorem findI_set (k v : Int) : ∀ (kvs : List KV) (n i : Nat) (v0 k' : Int), findI kvs k n = some (n + i, v0) → findI (kvs.set i (k, v)) k' n = if k' = k then some (n + i, v) else findI kvs k' n
  | [], _, _, _, _, h => by cases h
  | p :: r, n, i, v0, k', h => by
    simp only [findI] at h
    split at h
    · rename_i hk
      simp only [Option.some.injEq, Prod.mk.injEq] at h
      have : i = 0 := by omega
      subst this
      simp only [List.set_cons_zero, findI]
      by_cases h2 : k' = k
      · rw [if_pos h2, if_pos h2]; rfl
      · rw [if_neg h2, if_neg h2, if_neg (by rw [← hk]; exact h2)]
    · rename_i hk
      have hi : n + 1 ≤ n + i := (findI_get r k (n + 1) h).1
      obtain ⟨i', rfl⟩ : ∃ i', i = i' + 1 := ⟨i - 1, by omega⟩
      simp only [List.set_cons_succ, findI]
      rw [show n + (i' + 1) = n + 1 + i' by omega] at h ⊢
      rw [findI_set k v r (n + 1) i' v0 k' h]
      by_cases h2 : k' = p.1
      · have : ¬ k' = k := fun e => hk (e ▸ h2)
        rw [if_pos h2, if_neg this, if_pos h2]
      · rw [if_neg h2, if_neg h2]
theorem getI_put (kvs : List KV) (k v k' : Int) : getI (putI kvs k v) k' = if k' = k then some v else getI kvs k' := by
  cases h : findI kvs k 0 with
  | none =>
    have hn : getI kvs k = none := by rw [getI, h]; rfl
    rw [putI_none hn, getI_snoc hn]
  | some p =>
    have e : putI kvs k v = kvs.set p.1 (k, v) := by rw [putI, h]
    rw [e, getI, getI, findI_set k v kvs 0 p.1 p.2 k' (by rw [h, Nat.zero_add])]
    split <;> rfl
/-- What a map from labels to labels says. -/
def Says (m : List KV) (xs ys : List Int) (i : Nat) : Prop := ∀ x v, getI m x = some v ↔ ∃ j, j < i ∧ xs.getD j 0 = x ∧ ys.getD j 0 = v
theorem Says.start (xs ys : List Int) : Says [] xs ys 0 := fun x v => ⟨fun h => by simp [getI, findI] at h, fun ⟨j, hj, _⟩ => absurd hj (Nat.not_lt_zero _)⟩
theorem Says.next {m : List KV} {xs ys : List Int} {i : Nat} (h : Says m xs ys i) (ha : AlikeTo xs ys (i + 1)) : Says (putI m (xs.getD i 0) (ys.getD i 0)) xs ys (i + 1) := by
  intro x v
  rw [getI_put]
  constructor
  · intro h1
    split at h1
    · rename_i hx; cases h1; exact ⟨i, by omega, hx.symm, rfl⟩
    · obtain ⟨j, hj, h2⟩ := (h x v).1 h1; exact ⟨j, by omega, h2⟩
  · rintro ⟨j, hj, h1, h2⟩
    by_cases hx : x = xs.getD i 0
    · rw [if_pos hx]
      have := (ha j i hj (by omega)).1 (by rw [h1, hx])
      rw [← this, h2]
    · rw [if_neg hx]
      have hji : j ≠ i := fun e => hx (by rw [← h1, e])
      exact (h x v).2 ⟨j, by omega, h1, h2⟩
theorem says_none {m : List KV} {xs ys : List Int} {i : Nat} (h : Says m xs ys i) {x : Int} (hn : getI m x = none) : ∀ j, j < i → xs.getD j 0 ≠ x := fun j hj e => by
  have := (h x (ys.getD j 0)).2 ⟨j, hj, e, rfl⟩
  rw [hn] at this; cases this
theorem AlikeTo.zero (xs ys : List Int) : AlikeTo xs ys 0 := fun j k hj => absurd hj (Nat.not_lt_zero _)
theorem AlikeTo.next {xs ys : List Int} {i : Nat} (h : AlikeTo xs ys i) (hi : ∀ j, j < i → (xs.getD j 0 = xs.getD i 0 ↔ ys.getD j 0 = ys.getD i 0)) : AlikeTo xs ys (i + 1) := by
  intro j k hj hk
  by_cases h1 : j = i
  · by_cases h2 : k = i
    · subst h1; subst h2; simp
    · subst h1
      have := hi k (by omega)
      exact ⟨fun e => (this.1 e.symm).symm, fun e => (this.2 e.symm).symm⟩
  · by_cases h2 : k = i
    · subst h2; exact hi j (by omega)
    · exact h j k (by omega) (by omega)
theorem AlikeTo.mono {xs ys : List Int} {i n : Nat} (h : AlikeTo xs ys n) (hi : i ≤ n) : AlikeTo xs ys i := fun j k hj hk => h j k (by omega) (by omega)
/-- What 'Same' hands back. -/
def SamePost (xs ys : List Int) (w : World) (v : Value) (w' : World) : Prop :=
  Ext w w' ∧ ∃ c, v = .tuple #[.bool c, .int .i64 (twoErr xs ys)] ∧ (twoErr xs ys ≠ 0 → c = false) ∧ (twoErr xs ys = 0 → (c = true ↔ AlikeTo xs ys xs.length))
theorem same_no {xs ys : List Int} {i j : Nat} (hi : i < xs.length) (hj : j < i) (h : ¬ (xs.getD j 0 = xs.getD i 0 ↔ ys.getD j 0 = ys.getD i 0)) : ¬ AlikeTo xs ys xs.length := fun ha => h (ha j i (by omega) hi)
theorem two_len {xs ys : List Int} (h : twoErr xs ys = 0) : labelsOk xs 8 = true ∧ labelsOk ys 8 = true ∧ xs.length = ys.length := by
  unfold twoErr at h
  split at h
  · rename_i h1
    split at h
    · rename_i h2; exact ⟨h1.1, h1.2, h2⟩
    · cases h
  · cases h
theorem Same_calls (lo lo' : Nat) (p q : Value) (xs ys : List Int) (w : World) (hp : Ints .i64 lo w p xs) (hq : Ints .i64 lo' w q ys) :
    Calls Tryd.prog 32 #[p, q] w (Ret fun v w' => SamePost xs ys w v w') := by
  refine T.enter (vs := [p, q]) Tryd.func32 rfl Tryd.ntmps32 rfl ?_
  refine T.seq (T.region (L.op rfl rfl (O.assign rfl (L.op rfl rfl (O.assign rfl (L.nil (T.seq (T.seq (T.region (L.op rfl rfl (O.move rfl (L.op rfl rfl (O.move rfl (L.op rfl rfl (O.call (xs := [.tmp 15, .tmp 16]) Tryd.call57 rfl rfl (two_calls lo lo' p q xs ys w hp hq) (fun v1 w1 hq => ?_))))))))))))))))
  obtain ⟨rfl, rfl⟩ := hq
  refine L.op rfl rfl (O.assign rfl (L.nil (T.seq (T.region (L.op rfl rfl (O.move rfl (L.op rfl rfl (O.neq_s rfl rfl (fun hE => ?_) (fun hE => ?_)))))))))
  · refine L.nil (T.cond_true rfl (T.seq (T.region (L.op rfl rfl (O.move rfl (L.op rfl rfl (O.assign rfl (L.op rfl rfl (O.assign rfl (L.nil (T.ret2 Tryd.results32 rfl rfl ⟨Keep.refl _ _, _, rfl, fun _ => rfl, fun h => absurd h hE⟩)))))))))))
  · refine L.nil (?_)
    obtain ⟨hlx, hly, hlen⟩ := two_len hE
    have hle := Sl.le hp
    refine T.cond_false rfl (T.skip (T.seq (T.region (L.op rfl rfl (O.makeMap (fun b2 w2 hb2 hz2 he2 hM2 => ?_))))))
    refine L.op rfl rfl (O.makeMap (fun b3 w3 hb3 hz3 he3 hM3 => ?_))
    have he13 := he2.trans he3
    refine L.op rfl rfl (O.assign rfl (L.op rfl rfl (O.assign rfl (L.nil (T.seq (T.seq (T.region (L.op rfl rfl (O.move rfl (L.op rfl rfl (O.len Tryd.runUnderlying35 rfl (Sl.val (hp.keep (he13.mono (Nat.zero_le lo)))) (L.op rfl rfl (O.move rfl (L.nil (T.block (?_))))))))))))))))
    refine T.loop (σ := Nat × List KV × List KV) (fun s => [(1, q), (7, .map (some b2)), (8, .map (some b3)), (23, p), (24, .int .i64 xs.length), (25, .int .i64 s.1)]) (fun s w' => s.1 ≤ xs.length ∧ Ext w1 w' ∧ MapI w' b2 s.2.1 ∧ MapI w' b3 s.2.2 ∧ Says s.2.1 xs ys s.1 ∧ Says s.2.2 ys xs s.1 ∧ AlikeTo xs ys s.1) (fun s => xs.length - s.1) ((0, [], [])) ⟨rfl, rfl, rfl, rfl, rfl, rfl, trivial⟩ ⟨Nat.zero_le _, he13, hM2.keep he3 (Nat.zero_le _), hM3, Says.start _ _, Says.start _ _, AlikeTo.zero _ _⟩ ?_
    rintro ⟨i, tm, bm⟩ w4 ⟨hi, he4, hT4, hB4, hsT, hsB, hal⟩
    simp only at hi he4 hT4 hB4 hsT hsB hal
    have hp4 := hp.keep (he4.mono (Nat.zero_le lo))
    have hq4 := hq.keep (he4.mono (Nat.zero_le lo'))
    refine T.seq (T.region (L.op rfl rfl (O.lss_s rfl rfl (fun hlt => ?_) (fun hlt => ?_))))
    · refine L.nil (?_)
      have hlt' : i < xs.length := by simp only at hlt; omega
      refine T.seq (T.cond_true rfl (T.skip (T.seq (T.block (T.seq (T.region (L.op rfl rfl (O.move rfl (L.op rfl rfl (O.indexAddr Tryd.runUnderlying35 Tryd.sizeOf3 rfl rfl hp4 (by omega) (by omega) (L.op rfl rfl (O.load Tryd.isAgg3 rfl (Ints.at hp4 hlt') (L.op rfl rfl (O.assign rfl (L.op rfl rfl (O.assign rfl (L.nil (T.seq (T.region (L.op rfl rfl (O.move rfl (L.op rfl rfl (O.move rfl (L.op rfl rfl (O.lookupOk Tryd.runUnderlying100 Tryd.runUnderlying3 Tryd.zeroValue3 rfl rfl hT4 (L.op rfl rfl (O.move rfl (L.op rfl rfl (O.extract rfl rfl (L.op rfl rfl (O.extract rfl rfl (L.op rfl rfl (O.assign rfl (L.op rfl rfl (O.assign rfl (L.nil (?_)))))))))))))))))))))))))))))))))))))
      refine T.seq (T.region (L.op rfl rfl (O.move rfl (L.op rfl rfl (O.move rfl (L.op rfl rfl (O.move rfl (L.op rfl rfl (O.indexAddr Tryd.runUnderlying35 Tryd.sizeOf3 rfl rfl hq4 (by omega) (by omega) (L.op rfl rfl (O.load Tryd.isAgg3 rfl (Ints.at hq4 (by omega)) (L.op rfl rfl (O.lookupOk Tryd.runUnderlying100 Tryd.runUnderlying3 Tryd.zeroValue3 rfl rfl hB4 (?_))))))))))))))
      obtain ⟨tv, htv⟩ := entI_get tm (xs.getD i 0)
      obtain ⟨bv, hbv⟩ := entI_get bm (ys.getD i 0)
      rcases hgT : getI tm (xs.getD i 0) with _ | v
      · refine L.op rfl rfl (O.move rfl (?_))
        rcases hgB : getI bm (ys.getD i 0) with _ | u
        · have hnx : AlikeTo xs ys (i + 1) := hal.next fun j hj => ⟨fun h => absurd h (says_none hsT hgT j hj), fun h => absurd h (says_none hsB hgB j hj)⟩
          refine L.op rfl rfl (O.extract rfl rfl (L.op rfl rfl (O.extract rfl rfl (L.op rfl rfl (O.assign rfl (L.op rfl rfl (O.assign rfl (L.nil (T.seq (T.seq (T.region (L.op rfl rfl (O.move rfl (L.op rfl rfl (O.move rfl (L.op rfl rfl (O.neq_bool Tryd.runUnderlying4 rfl rfl (L.op rfl rfl (O.move rfl (L.op rfl rfl (O.move rfl (L.op rfl rfl (O.move rfl (L.pass rfl rfl (L.pass rfl rfl (L.pass rfl rfl (L.pass rfl rfl (L.pass rfl rfl (L.pass rfl rfl (L.pass rfl rfl (L.pass rfl rfl (L.pass rfl rfl (L.pass rfl rfl (?_))))))))))))))))))))))))))))))))))
          refine L.pass rfl rfl (L.op rfl rfl (O.pick_false rfl rfl (L.op rfl rfl (O.pick_false rfl rfl (L.nil (T.cond_false rfl (T.skip (?_))))))))
          refine T.chain mixed 4 [7, 10, 8, 1, 9] rfl [.is _, .is _, .is _, .is _, .is _, .is _, .is _, .is _, .is _, .is _, .is _, .is _, .is _, .is _, .is undef, .is _, .is _, .is undef] [[], [], [], [], [], [3, 4], [5], [], [], [7, 8], [9], [], [0, 1], [12], [0, 13, 10], [2, 6], [15], [2, 16, 11]] [none, none, none, none, none, none, none, none, none, none, none, none, some 0, none, some 1, some 2, none, some 3] (fun c w' => Ext w1 w' ∧ MapI w' b2 (if c = 0 then tm else if c = 1 then entI tm (xs.getD i 0) else putI tm (xs.getD i 0) (ys.getD i 0)) ∧ MapI w' b3 (if c ≤ 2 then bm else if c = 3 then entI bm (ys.getD i 0) else putI bm (ys.getD i 0) (xs.getD i 0))) (by kernel_rfl) (by kernel_rfl) rfl trivial ⟨he4.trans (Keep.drew 0 _), hT4.keep (Keep.drew 0 _) (Nat.zero_le _), hB4.keep (Keep.drew 0 _) (Nat.zero_le _)⟩ ⟨fun c wx hx => ObK.op rfl (O.move rfl ⟨hx, rfl⟩),
              fun c wx hx => ObK.op rfl (O.move rfl ⟨hx, rfl⟩),
              fun c wx hx => ObK.op rfl (O.move rfl ⟨hx, rfl⟩),
              fun c wx hx => ObK.op rfl (O.move rfl ⟨hx, rfl⟩),
              fun c wx hx => ObK.op rfl (O.move rfl ⟨hx, rfl⟩),
              fun c wx hx => ObK.op rfl (O.indexAddr Tryd.runUnderlying35 Tryd.sizeOf3 rfl rfl hq4 (by omega) (by omega) ⟨hx, rfl⟩),
              fun c wx hx => ObK.op rfl (O.load Tryd.isAgg3 rfl (Ints.at (hq.keep (hx.1.mono (Nat.zero_le lo'))) (by omega)) ⟨hx, rfl⟩),
              fun c wx hx => ObK.op rfl (O.move rfl ⟨hx, rfl⟩),
              fun c wx hx => ObK.op rfl (O.move rfl ⟨hx, rfl⟩),
              fun c wx hx => ObK.op rfl (O.indexAddr Tryd.runUnderlying35 Tryd.sizeOf3 rfl rfl hq4 (by omega) (by omega) ⟨hx, rfl⟩),
              fun c wx hx => ObK.op rfl (O.load Tryd.isAgg3 rfl (Ints.at (hq.keep (hx.1.mono (Nat.zero_le lo'))) (by omega)) ⟨hx, rfl⟩),
              fun c wx hx => ObK.op rfl (O.move rfl ⟨hx, rfl⟩),
              fun wx hx => ObK.op rfl (O.mapEntry Tryd.runUnderlying100 Tryd.runUnderlying3 Tryd.zeroValue3 rfl rfl hx.2.1 (fun wy hu hM => ⟨⟨hx.1.upd hu (.inr (by omega)), hM, hx.2.2.upd hu (by omega)⟩, rfl⟩)),
              fun c wx hx => ObK.op rfl (O.extract rfl rfl ⟨hx, rfl⟩),
              fun wx hx => ObK.op rfl (O.entryStore rfl rfl rfl hx.2.1 htv (fun wy hu hM => ⟨⟨hx.1.upd hu (.inr (by omega)), by have h9 : MapI wy b2 ((entI tm (xs.getD i 0)).set (entIx tm (xs.getD i 0)) (xs.getD i 0, ys.getD i 0)) := hM; rw [entI_put] at h9; exact h9, hx.2.2.upd hu (by omega)⟩, rfl⟩)),
              fun wx hx => ObK.op rfl (O.mapEntry Tryd.runUnderlying100 Tryd.runUnderlying3 Tryd.zeroValue3 rfl rfl hx.2.2 (fun wy hu hM => ⟨⟨hx.1.upd hu (.inr (by omega)), hx.2.1.upd hu (by omega), hM⟩, rfl⟩)),
              fun c wx hx => ObK.op rfl (O.extract rfl rfl ⟨hx, rfl⟩),
              fun wx hx => ObK.op rfl (O.entryStore rfl rfl rfl hx.2.2 hbv (fun wy hu hM => ⟨⟨hx.1.upd hu (.inr (by omega)), hx.2.1.upd hu (by omega), by have h9 : MapI wy b3 ((entI bm (ys.getD i 0)).set (entIx bm (ys.getD i 0)) (ys.getD i 0, xs.getD i 0)) := hM; rw [entI_put] at h9; exact h9⟩, rfl⟩)),
              trivial⟩ (fun w6 hI6 => ?_)
          refine T.blk (T.region (L.op rfl rfl (O.add64 rfl rfl (by omega) (L.op rfl rfl (O.move rfl (L.nil (T.again ((i + 1, putI tm (xs.getD i 0) (ys.getD i 0), putI bm (ys.getD i 0) (xs.getD i 0))) (by omega) ⟨rfl, rfl, rfl, rfl, rfl, rfl, trivial⟩ ⟨hlt', hI6.1, hI6.2.1, hI6.2.2, hsT.next hnx, hsB.next (fun j k hj hk => (hnx j k hj hk).symm), hnx⟩)))))))
        · obtain ⟨j, hj, h1, h2⟩ := (hsB _ _).1 hgB
          have hno := same_no hlt' hj (fun h => says_none hsT hgT j hj (h.2 h1))
          refine L.op rfl rfl (O.extract rfl rfl (L.op rfl rfl (O.extract rfl rfl (L.op rfl rfl (O.assign rfl (L.op rfl rfl (O.assign rfl (L.nil (T.seq (T.seq (T.region (L.op rfl rfl (O.move rfl (L.op rfl rfl (O.move rfl (L.op rfl rfl (O.neq_bool Tryd.runUnderlying4 rfl rfl (L.op rfl rfl (O.move rfl (L.pass rfl rfl (L.pass rfl rfl (L.pass rfl rfl (L.pass rfl rfl (L.pass rfl rfl (L.pass rfl rfl (L.pass rfl rfl (L.pass rfl rfl (L.pass rfl rfl (L.pass rfl rfl (L.pass rfl rfl (L.pass rfl rfl (?_))))))))))))))))))))))))))))))))
          refine L.pass rfl rfl (L.pass rfl rfl (L.op rfl rfl (O.pick_true rfl rfl (L.nil (T.cond_true rfl (T.seq (T.region (L.op rfl rfl (O.assign rfl (L.op rfl rfl (O.assign rfl (L.nil (T.ret2 Tryd.results32 rfl rfl ⟨he4, false, by rw [hE], fun _ => rfl, fun _ => ⟨fun h => (by cases h), fun h => absurd h hno⟩⟩)))))))))))))
      · refine L.op rfl rfl (O.move rfl (?_))
        rcases hgB : getI bm (ys.getD i 0) with _ | u
        · obtain ⟨j, hj, h1, h2⟩ := (hsT _ _).1 hgT
          have hno := same_no hlt' hj (fun h => says_none hsB hgB j hj (h.1 h1))
          refine L.op rfl rfl (O.extract rfl rfl (L.op rfl rfl (O.extract rfl rfl (L.op rfl rfl (O.assign rfl (L.op rfl rfl (O.assign rfl (L.nil (T.seq (T.seq (T.region (L.op rfl rfl (O.move rfl (L.op rfl rfl (O.move rfl (L.op rfl rfl (O.neq_bool Tryd.runUnderlying4 rfl rfl (L.op rfl rfl (O.move rfl (L.pass rfl rfl (L.pass rfl rfl (L.pass rfl rfl (L.pass rfl rfl (L.pass rfl rfl (L.pass rfl rfl (L.pass rfl rfl (L.pass rfl rfl (L.pass rfl rfl (L.pass rfl rfl (L.pass rfl rfl (L.pass rfl rfl (?_))))))))))))))))))))))))))))))))
          refine L.pass rfl rfl (L.pass rfl rfl (L.op rfl rfl (O.pick_true rfl rfl (L.nil (T.cond_true rfl (T.seq (T.region (L.op rfl rfl (O.assign rfl (L.op rfl rfl (O.assign rfl (L.nil (T.ret2 Tryd.results32 rfl rfl ⟨he4, false, by rw [hE], fun _ => rfl, fun _ => ⟨fun h => (by cases h), fun h => absurd h hno⟩⟩)))))))))))))
        · obtain ⟨j, hj, h1, h2⟩ := (hsT _ _).1 hgT
          obtain ⟨j', hj', h1', h2'⟩ := (hsB _ _).1 hgB
          refine L.op rfl rfl (O.extract rfl rfl (L.op rfl rfl (O.extract rfl rfl (L.op rfl rfl (O.assign rfl (L.op rfl rfl (O.assign rfl (L.nil (T.seq (T.seq (T.region (L.op rfl rfl (O.move rfl (L.op rfl rfl (O.move rfl (L.op rfl rfl (O.neq_bool Tryd.runUnderlying4 rfl rfl (L.op rfl rfl (O.move rfl (L.op rfl rfl (O.move rfl (L.op rfl rfl (O.move rfl (L.op rfl rfl (O.move rfl (L.op rfl rfl (O.move rfl (L.op rfl rfl (O.move rfl (L.op rfl rfl (O.indexAddr Tryd.runUnderlying35 Tryd.sizeOf3 rfl rfl hq4 (by omega) (by omega) (L.op rfl rfl (O.load Tryd.isAgg3 rfl (Ints.at hq4 (by omega)) (L.op rfl rfl (O.neq_s rfl rfl (fun hv => ?_) (fun hv => ?_))))))))))))))))))))))))))))))))))))
          · have hno := same_no hlt' hj (fun h => hv (by have := h.1 h1; show v = _; rw [← h2]; exact this))
            refine L.op rfl rfl (O.move rfl (L.pass rfl rfl (L.pass rfl rfl (L.pass rfl rfl (L.op rfl rfl (O.pick_true rfl rfl (L.op rfl rfl (O.pick_true rfl rfl (L.op rfl rfl (O.pick_false rfl rfl (L.nil (T.cond_true rfl (T.seq (T.region (L.op rfl rfl (O.assign rfl (L.op rfl rfl (O.assign rfl (L.nil (T.ret2 Tryd.results32 rfl rfl ⟨he4, false, by rw [hE], fun _ => rfl, fun _ => ⟨fun h => (by cases h), fun h => absurd h hno⟩⟩))))))))))))))))))))
          · refine L.op rfl rfl (O.move rfl (L.op rfl rfl (O.move rfl (L.op rfl rfl (O.move rfl (L.op rfl rfl (O.neq_s rfl rfl (fun hu => ?_) (fun hu => ?_))))))))
            · have hno := same_no hlt' hj' (fun h => hu (by have := h.2 h1'; show u = _; rw [← h2']; exact this))
              refine L.op rfl rfl (O.pick_false rfl rfl (L.op rfl rfl (O.pick_true rfl rfl (L.op rfl rfl (O.pick_false rfl rfl (L.nil (T.cond_true rfl (T.seq (T.region (L.op rfl rfl (O.assign rfl (L.op rfl rfl (O.assign rfl (L.nil (T.ret2 Tryd.results32 rfl rfl ⟨he4, false, by rw [hE], fun _ => rfl, fun _ => ⟨fun h => (by cases h), fun h => absurd h hno⟩⟩)))))))))))))))
            · have hv' : v = ys.getD i 0 := hv
              have hu' : u = xs.getD i 0 := hu
              have hnx : AlikeTo xs ys (i + 1) := hal.next fun a ha => ⟨fun h => by rw [(hal a j ha hj).1 (by rw [h, h1]), h2, hv'], fun h => by rw [(hal a j' ha hj').2 (by rw [h, h1']), h2', hu']⟩
              refine L.op rfl rfl (O.pick_false rfl rfl (L.op rfl rfl (O.pick_true rfl rfl (L.op rfl rfl (O.pick_false rfl rfl (L.nil (T.cond_false rfl (T.skip (?_)))))))))
              refine T.chain mixed 4 [7, 10, 8, 1, 9] rfl [.is _, .is _, .is _, .is _, .is _, .is _, .is _, .is _, .is _, .is _, .is _, .is _, .is _, .is _, .is undef, .is _, .is _, .is undef] [[], [], [], [], [], [3, 4], [5], [], [], [7, 8], [9], [], [0, 1], [12], [0, 13, 10], [2, 6], [15], [2, 16, 11]] [none, none, none, none, none, none, none, none, none, none, none, none, some 0, none, some 1, some 2, none, some 3] (fun c w' => Ext w1 w' ∧ MapI w' b2 (if c = 0 then tm else if c = 1 then entI tm (xs.getD i 0) else putI tm (xs.getD i 0) (ys.getD i 0)) ∧ MapI w' b3 (if c ≤ 2 then bm else if c = 3 then entI bm (ys.getD i 0) else putI bm (ys.getD i 0) (xs.getD i 0))) (by kernel_rfl) (by kernel_rfl) rfl trivial ⟨he4.trans (Keep.drew 0 _), hT4.keep (Keep.drew 0 _) (Nat.zero_le _), hB4.keep (Keep.drew 0 _) (Nat.zero_le _)⟩ ⟨fun c wx hx => ObK.op rfl (O.move rfl ⟨hx, rfl⟩),
                  fun c wx hx => ObK.op rfl (O.move rfl ⟨hx, rfl⟩),
                  fun c wx hx => ObK.op rfl (O.move rfl ⟨hx, rfl⟩),
                  fun c wx hx => ObK.op rfl (O.move rfl ⟨hx, rfl⟩),
                  fun c wx hx => ObK.op rfl (O.move rfl ⟨hx, rfl⟩),
                  fun c wx hx => ObK.op rfl (O.indexAddr Tryd.runUnderlying35 Tryd.sizeOf3 rfl rfl hq4 (by omega) (by omega) ⟨hx, rfl⟩),
                  fun c wx hx => ObK.op rfl (O.load Tryd.isAgg3 rfl (Ints.at (hq.keep (hx.1.mono (Nat.zero_le lo'))) (by omega)) ⟨hx, rfl⟩),
                  fun c wx hx => ObK.op rfl (O.move rfl ⟨hx, rfl⟩),
                  fun c wx hx => ObK.op rfl (O.move rfl ⟨hx, rfl⟩),
                  fun c wx hx => ObK.op rfl (O.indexAddr Tryd.runUnderlying35 Tryd.sizeOf3 rfl rfl hq4 (by omega) (by omega) ⟨hx, rfl⟩),
                  fun c wx hx => ObK.op rfl (O.load Tryd.isAgg3 rfl (Ints.at (hq.keep (hx.1.mono (Nat.zero_le lo'))) (by omega)) ⟨hx, rfl⟩),
                  fun c wx hx => ObK.op rfl (O.move rfl ⟨hx, rfl⟩),
                  fun wx hx => ObK.op rfl (O.mapEntry Tryd.runUnderlying100 Tryd.runUnderlying3 Tryd.zeroValue3 rfl rfl hx.2.1 (fun wy hu hM => ⟨⟨hx.1.upd hu (.inr (by omega)), hM, hx.2.2.upd hu (by omega)⟩, rfl⟩)),
                  fun c wx hx => ObK.op rfl (O.extract rfl rfl ⟨hx, rfl⟩),
                  fun wx hx => ObK.op rfl (O.entryStore rfl rfl rfl hx.2.1 htv (fun wy hu hM => ⟨⟨hx.1.upd hu (.inr (by omega)), by have h9 : MapI wy b2 ((entI tm (xs.getD i 0)).set (entIx tm (xs.getD i 0)) (xs.getD i 0, ys.getD i 0)) := hM; rw [entI_put] at h9; exact h9, hx.2.2.upd hu (by omega)⟩, rfl⟩)),
                  fun wx hx => ObK.op rfl (O.mapEntry Tryd.runUnderlying100 Tryd.runUnderlying3 Tryd.zeroValue3 rfl rfl hx.2.2 (fun wy hu hM => ⟨⟨hx.1.upd hu (.inr (by omega)), hx.2.1.upd hu (by omega), hM⟩, rfl⟩)),
                  fun c wx hx => ObK.op rfl (O.extract rfl rfl ⟨hx, rfl⟩),
                  fun wx hx => ObK.op rfl (O.entryStore rfl rfl rfl hx.2.2 hbv (fun wy hu hM => ⟨⟨hx.1.upd hu (.inr (by omega)), hx.2.1.upd hu (by omega), by have h9 : MapI wy b3 ((entI bm (ys.getD i 0)).set (entIx bm (ys.getD i 0)) (ys.getD i 0, xs.getD i 0)) := hM; rw [entI_put] at h9; exact h9⟩, rfl⟩)),
                  trivial⟩ (fun w6 hI6 => ?_)
              refine T.blk (T.region (L.op rfl rfl (O.add64 rfl rfl (by omega) (L.op rfl rfl (O.move rfl (L.nil (T.again ((i + 1, putI tm (xs.getD i 0) (ys.getD i 0), putI bm (ys.getD i 0) (xs.getD i 0))) (by omega) ⟨rfl, rfl, rfl, rfl, rfl, rfl, trivial⟩ ⟨hlt', hI6.1, hI6.2.1, hI6.2.2, hsT.next hnx, hsB.next (fun j k hj hk => (hnx j k hj hk).symm), hnx⟩)))))))
    · refine L.nil (?_)
      obtain rfl : i = xs.length := by simp only at hlt; omega
      refine T.seq (T.cond_false rfl (T.exit rfl (T.seq (T.region (L.op rfl rfl (O.assign rfl (L.op rfl rfl (O.assign rfl (L.nil (T.ret2 Tryd.results32 rfl rfl ⟨he4, true, by rw [hE], fun h => absurd hE h, fun _ => ⟨fun _ => hal, fun _ => rfl⟩⟩))))))))))

end Go.Proofs.YthjdljbghjelfaaDoor
set_option linter.unusedVariables false
set_option linter.unusedSimpArgs false
set_option maxRecDepth 20000
namespace Go.Proofs.YthjdljbghjelfaaDoor
open Go Go.E
attribute [local irreducible] Go.E.T Go.E.L Go.E.O Go.E.Ob

theorem nmTo_mono (xs : List Int) {x v : Int} : ∀ {i n : Nat}, i ≤ n → getI (nmTo xs i) x = some v → getI (nmTo xs n) x = some v
  | i, 0, h, hg => by rw [show i = 0 by omega] at hg; exact hg
  | i, n + 1, h, hg => by
    by_cases hi : i = n + 1
    · rw [hi] at hg; exact hg
    · have ih := nmTo_mono xs (i := i) (n := n) (by omega) hg
      simp only [nmTo, nmStep]
      split
      · exact ih
      · rename_i hn
        rw [getI_snoc (by simpa using hn)]
        split
        · rename_i hx; subst hx; rw [ih] at hn; simp at hn
        · exact ih
theorem nmTo_has (xs : List Int) : ∀ {i j : Nat}, j < i → ∃ v, getI (nmTo xs i) (xs.getD j 0) = some v
  | i + 1, j, h => by
    by_cases hj : j = i
    · subst hj
      simp only [nmTo, nmStep]
      split
      · rename_i hs; exact Option.isSome_iff_exists.1 hs
      · rename_i hn; exact ⟨_, by rw [getI_snoc (by simpa using hn), if_pos rfl]⟩
    · obtain ⟨v, hv⟩ := nmTo_has xs (i := i) (j := j) (by omega)
      exact ⟨v, nmTo_mono xs (Nat.le_succ i) hv⟩
/-- Names are below the number of names, and different ones for different labels. -/
theorem nm_lt (xs : List Int) : ∀ (i : Nat) {k v : Int}, getI (nmTo xs i) k = some v → v < (nmTo xs i).length
  | 0, k, v, h => by simp [nmTo, getI, findI] at h
  | i + 1, k, v, h => by
    simp only [nmTo, nmStep] at h ⊢
    split at h
    · rename_i hs; rw [if_pos hs]; exact nm_lt xs i h
    · rename_i hn
      rw [if_neg hn]
      rw [getI_snoc (by simpa using hn)] at h
      split at h
      · cases h; simp only [List.length_append, List.length_cons, List.length_nil]; omega
      · have := nm_lt xs i h; simp only [List.length_append, List.length_cons, List.length_nil]; omega
theorem nm_inj (xs : List Int) : ∀ (i : Nat) {k k' v : Int}, getI (nmTo xs i) k = some v → getI (nmTo xs i) k' = some v → k = k'
  | 0, k, k', v, h, _ => by simp [nmTo, getI, findI] at h
  | i + 1, k, k', v, h, h' => by
    simp only [nmTo, nmStep] at h h'
    split at h
    · rename_i hs; rw [if_pos hs] at h'; exact nm_inj xs i h h'
    · rename_i hn
      rw [if_neg hn] at h'
      rw [getI_snoc (by simpa using hn)] at h h'
      split at h
      · rename_i hk
        split at h'
        · rename_i hk'; rw [hk, hk']
        · cases h; have := nm_lt xs i h'; omega
      · split at h'
        · cases h'; have := nm_lt xs i h; omega
        · exact nm_inj xs i h h'
theorem canTo_get (xs : List Int) : ∀ {i j : Nat}, j < i → (canTo xs i).getD j 0 = (getI (nmTo xs i) (xs.getD j 0)).getD 0
  | i + 1, j, h => by
    have hl := canTo_len xs i
    obtain ⟨v, hv⟩ := nmTo_has xs (i := j + 1) (j := j) (by omega)
    have hv2 := nmTo_mono xs (i := j + 1) (n := i + 1) (by omega) hv
    rw [hv2]
    simp only [canTo]
    by_cases hj : j = i
    · subst hj
      rw [List.getD_eq_getElem?_getD, List.getElem?_append_right (by omega), hl, Nat.sub_self, hv]; rfl
    · rw [List.getD_eq_getElem?_getD, List.getElem?_append_left (by omega), ← List.getD_eq_getElem?_getD, canTo_get xs (i := i) (j := j) (by omega), nmTo_mono xs (i := j + 1) (n := i) (by omega) hv]
theorem canon_alike {xs ys : List Int} (hl : xs.length = ys.length) (h : canonOf xs = canonOf ys) : AlikeTo xs ys xs.length := by
  have key : ∀ (zs : List Int) (j k : Nat), j < zs.length → k < zs.length → ((canonOf zs).getD j 0 = (canonOf zs).getD k 0 ↔ zs.getD j 0 = zs.getD k 0) := by
    intro zs j k hj hk
    unfold canonOf
    rw [canTo_get zs hj, canTo_get zs hk]
    obtain ⟨v, hv⟩ := nmTo_has zs hj
    obtain ⟨u, hu⟩ := nmTo_has zs hk
    constructor
    · intro h
      rw [hv, hu] at h
      simp at h; subst h
      exact nm_inj zs _ hv hu
    · intro h; rw [h]
  intro j k hj hk
  rw [← key xs j k hj hk, ← key ys j k (by omega) (by omega), h]
theorem nm_from (xs : List Int) : ∀ (i : Nat) {x v : Int}, getI (nmTo xs i) x = some v → ∃ j, j < i ∧ xs.getD j 0 = x
  | 0, x, v, h => by simp [nmTo, getI, findI] at h
  | i + 1, x, v, h => by
    simp only [nmTo, nmStep] at h
    split at h
    · obtain ⟨j, hj, h2⟩ := nm_from xs i h; exact ⟨j, by omega, h2⟩
    · rename_i hn
      rw [getI_snoc (by simpa using hn)] at h
      split at h
      · rename_i hx; exact ⟨i, by omega, hx.symm⟩
      · obtain ⟨j, hj, h2⟩ := nm_from xs i h; exact ⟨j, by omega, h2⟩
theorem alike_canon {xs ys : List Int} (h : AlikeTo xs ys xs.length) : ∀ i, i ≤ xs.length → canTo xs i = canTo ys i ∧ (nmTo xs i).length = (nmTo ys i).length ∧ ∀ j, j < i → getI (nmTo xs i) (xs.getD j 0) = getI (nmTo ys i) (ys.getD j 0)
  | 0, _ => ⟨rfl, rfl, fun j hj => absurd hj (Nat.not_lt_zero _)⟩
  | i + 1, hi => by
    obtain ⟨h1, h2, h3⟩ := alike_canon h i (by omega)
    have heq : getI (nmTo xs i) (xs.getD i 0) = getI (nmTo ys i) (ys.getD i 0) := by
      cases hx : getI (nmTo xs i) (xs.getD i 0) with
      | some v =>
        obtain ⟨j, hj, he⟩ := nm_from xs i hx
        have hy := (h j i (by omega) (by omega)).1 he
        rw [← hy, ← h3 j hj, he, hx]
      | none =>
        cases hy : getI (nmTo ys i) (ys.getD i 0) with
        | none => rfl
        | some v =>
          obtain ⟨j, hj, he⟩ := nm_from ys i hy
          have he2 := (h j i (by omega) (by omega)).2 he
          have := h3 j hj
          rw [he, he2, hx, hy] at this; cases this
    have hnm : ∀ j, j < i + 1 → getI (nmTo xs (i + 1)) (xs.getD j 0) = getI (nmTo ys (i + 1)) (ys.getD j 0) := by
      intro j hj
      cases hx : getI (nmTo xs i) (xs.getD i 0) with
      | some v =>
        have hy : getI (nmTo ys i) (ys.getD i 0) = some v := by rw [← heq, hx]
        simp only [nmTo, nmStep, hx, hy, Option.isSome_some, if_true]
        by_cases hji : j = i
        · subst hji; exact heq
        · exact h3 j (by omega)
      | none =>
        have hy : getI (nmTo ys i) (ys.getD i 0) = none := by rw [← heq, hx]
        simp only [nmTo, nmStep, hx, hy, Option.isSome_none, Bool.false_eq_true, if_false]
        rw [getI_snoc hx, getI_snoc hy]
        by_cases hji : j = i
        · subst hji; rw [if_pos rfl, if_pos rfl, h2]
        · have := h j i (by omega) (by omega)
          by_cases he : xs.getD j 0 = xs.getD i 0
          · rw [if_pos he, if_pos (this.1 he), h2]
          · rw [if_neg he, if_neg (fun e => he (this.2 e))]; exact h3 j (by omega)
    refine ⟨?_, ?_, hnm⟩
    · show canTo xs i ++ [_] = canTo ys i ++ [_]
      rw [h1, hnm i (by omega)]
    · simp only [nmTo, nmStep, heq]
      split
      · exact h2
      · simp [h2]
theorem canon_iff {xs ys : List Int} (hl : xs.length = ys.length) : canonOf xs = canonOf ys ↔ AlikeTo xs ys xs.length :=
  ⟨canon_alike hl, fun h => by have := (alike_canon h xs.length (Nat.le_refl _)).1; unfold canonOf; rw [this, hl]⟩
theorem RSame_calls (lo lo' : Nat) (p q : Value) (xs ys : List Int) (w : World) (hp : Ints .i64 lo w p xs) (hq : Ints .i64 lo' w q ys) :
    Calls Tryd.prog 33 #[p, q] w (Ret fun v w' => SamePost xs ys w v w') := by
  refine T.enter (vs := [p, q]) Tryd.func33 rfl Tryd.ntmps33 rfl ?_
  refine T.seq (T.region (L.op rfl rfl (O.assign rfl (L.op rfl rfl (O.assign rfl (L.nil (T.seq (T.seq (T.region (L.op rfl rfl (O.move rfl (L.op rfl rfl (O.move rfl (L.op rfl rfl (O.call (xs := [.tmp 11, .tmp 12]) Tryd.call58 rfl rfl (Rtwo_calls lo lo' p q xs ys w hp hq) (fun v1 w1 hq => ?_))))))))))))))))
  obtain ⟨rfl, rfl⟩ := hq
  refine L.op rfl rfl (O.assign rfl (L.nil (T.seq (T.region (L.op rfl rfl (O.move rfl (L.op rfl rfl (O.neq_s rfl rfl (fun hE => ?_) (fun hE => ?_)))))))))
  · refine L.nil (T.cond_true rfl (T.seq (T.region (L.op rfl rfl (O.move rfl (L.op rfl rfl (O.assign rfl (L.op rfl rfl (O.assign rfl (L.nil (T.ret2 Tryd.results33 rfl rfl ⟨Keep.refl _ _, _, rfl, fun _ => rfl, fun h => absurd h hE⟩)))))))))))
  · refine L.nil (?_)
    obtain ⟨hlx, hly, hlen⟩ := two_len hE
    refine T.cond_false rfl (T.skip (T.seq (T.region (L.op rfl rfl (O.move rfl (L.op rfl rfl (O.call (xs := [.tmp 18]) Tryd.call31 rfl rfl (RCanon_calls lo p xs w1 hp) (fun v2 w2 hq => ?_))))))))
    obtain ⟨he2, l2, rfl, hc2⟩ := hq
    refine L.op rfl rfl (O.move rfl (L.op rfl rfl (O.extract rfl rfl (L.op rfl rfl (O.extract rfl rfl (L.op rfl rfl (O.assign rfl (L.op rfl rfl (O.assign rfl (L.nil (T.seq (T.region (L.op rfl rfl (O.move rfl (L.op rfl rfl (O.call (xs := [.tmp 23]) Tryd.call31 rfl rfl (RCanon_calls lo' q ys w2 (hq.keep (he2.mono (Nat.zero_le lo')))) (fun v3 w3 hq => ?_)))))))))))))))))
    obtain ⟨he3, l3, rfl, hc3⟩ := hq
    rw [if_pos hlx] at hc2
    rw [if_pos hly] at hc3
    refine L.op rfl rfl (O.move rfl (L.op rfl rfl (O.extract rfl rfl (L.op rfl rfl (O.extract rfl rfl (L.op rfl rfl (O.assign rfl (L.op rfl rfl (O.assign rfl (L.nil (T.seq (T.region (L.op rfl rfl (O.move rfl (L.op rfl rfl (O.move rfl (L.op rfl rfl (O.call (xs := [.tmp 27, .tmp 28]) Tryd.call59 rfl rfl (Requal_calls w1.heap.size w2.heap.size l2 l3 _ _ w3 (hc2.keep (he3.mono (Nat.zero_le _))) hc3) (fun v4 w4 hq => ?_)))))))))))))))))))
    obtain ⟨rfl, he4⟩ := hq
    refine L.op rfl rfl (O.assign rfl (L.op rfl rfl (O.assign rfl (L.nil (T.ret2 Tryd.results33 rfl rfl ⟨(he2.trans he3).trans he4, _, by rw [hE], fun h => absurd hE h, fun _ => by simp only [decide_eq_true_eq]; exact canon_iff hlen⟩)))))

end Go.Proofs.YthjdljbghjelfaaDoor
set_option linter.unusedVariables false
set_option linter.unusedSimpArgs false
set_option maxRecDepth 20000
namespace Go.Proofs.YthjdljbghjelfaaDoor
open Go Go.E
attribute [local irreducible] Go.E.T Go.E.L Go.E.O Go.E.Ob

theorem greater_calls (a b : Int) (w : World) :
    Calls Tryd.prog 60 #[.int .i64 a, .int .i64 b] w (Ret fun v w' => v = .int .i64 (if a < b then b else a) ∧ w' = w) := by
  refine T.enter (vs := [.int .i64 a, .int .i64 b]) Tryd.func60 rfl Tryd.ntmps60 rfl ?_
  refine T.seq (T.region (L.op rfl rfl (O.assign rfl (L.nil (T.seq (T.seq (T.region (L.op rfl rfl (O.move rfl (L.op rfl rfl (O.move rfl (L.op rfl rfl (O.lss_s rfl rfl (fun h => ?_) (fun h => ?_))))))))))))))
  · refine L.nil (T.cond_true rfl (T.seq (T.region (L.op rfl rfl (O.move rfl (L.op rfl rfl (O.assign rfl (L.nil (T.ret1 Tryd.results60 rfl ⟨by rw [if_pos h], rfl⟩)))))))))
  · refine L.nil (T.cond_false rfl (T.skip (T.seq (T.region (L.op rfl rfl (O.move rfl (L.op rfl rfl (O.assign rfl (L.nil (T.ret1 Tryd.results60 rfl ⟨by rw [if_neg h], rfl⟩))))))))))

theorem truth_calls (c : Bool) (w : World) :
    Calls Tryd.prog 38 #[.bool c] w (Ret fun v w' => Ext w w' ∧ v = .func (.func 64) #[] #[.pointer (some ⟨w.heap.size, 0, none⟩)] ∧ Blk w' w.heap.size [.bool c] 4) := by
  refine T.enter (vs := [.bool c]) Tryd.func38 rfl Tryd.ntmps38 rfl ?_
  refine T.seq (T.region (L.op rfl rfl (O.box rfl (fun b1 w1 hb1 hz1 he1 hB1 => ?_))))
  subst hb1
  refine L.op rfl rfl (O.assign rfl (L.nil (T.seq (T.region (L.op rfl rfl (O.makeFunc (fi := []) (ca := [.tmp 1]) rfl rfl (L.op rfl rfl (O.assign rfl (L.nil (T.ret1 Tryd.results38 rfl ⟨he1, rfl, hB1⟩))))))))))

theorem truth1_calls (b : Nat) (c d : Bool) (e : Int) (w : World) (hB : Blk w b [.bool c] 4) :
    Calls Tryd.prog 64 #[.bool d, .int .i64 e, .pointer (some ⟨b, 0, none⟩)] w (Ret fun v w' => v = .bool ((d == c) && decide (e = 0)) ∧ w' = w) := by
  refine T.enter (vs := [.bool d, .int .i64 e, .pointer (some ⟨b, 0, none⟩)]) Tryd.func64 rfl Tryd.ntmps64 rfl ?_
  rcases d with _ | _
  · rcases c with _ | _
    · refine T.seq (T.region (L.op rfl rfl (O.assign rfl (L.nil (T.seq (T.region (L.op rfl rfl (O.move rfl (L.op rfl rfl (O.load Tryd.isAgg4 rfl (hB.cell rfl) (L.op rfl rfl (O.eql_bool Tryd.runUnderlying4 rfl rfl (L.op rfl rfl (O.move rfl (L.op rfl rfl (O.move rfl (L.op rfl rfl (O.eql rfl rfl (L.op rfl rfl (O.pick_true rfl rfl (L.op rfl rfl (O.assign rfl (L.nil (T.ret1 Tryd.results64 rfl ⟨rfl, rfl⟩))))))))))))))))))))))))
    · refine T.seq (T.region (L.op rfl rfl (O.assign rfl (L.nil (T.seq (T.region (L.op rfl rfl (O.move rfl (L.op rfl rfl (O.load Tryd.isAgg4 rfl (hB.cell rfl) (L.op rfl rfl (O.eql_bool Tryd.runUnderlying4 rfl rfl (L.op rfl rfl (O.move rfl (L.pass rfl rfl (L.pass rfl rfl (L.op rfl rfl (O.pick_false rfl rfl (L.op rfl rfl (O.assign rfl (L.nil (T.ret1 Tryd.results64 rfl ⟨rfl, rfl⟩))))))))))))))))))))))
  · rcases c with _ | _
    · refine T.seq (T.region (L.op rfl rfl (O.assign rfl (L.nil (T.seq (T.region (L.op rfl rfl (O.move rfl (L.op rfl rfl (O.load Tryd.isAgg4 rfl (hB.cell rfl) (L.op rfl rfl (O.eql_bool Tryd.runUnderlying4 rfl rfl (L.op rfl rfl (O.move rfl (L.pass rfl rfl (L.pass rfl rfl (L.op rfl rfl (O.pick_false rfl rfl (L.op rfl rfl (O.assign rfl (L.nil (T.ret1 Tryd.results64 rfl ⟨rfl, rfl⟩))))))))))))))))))))))
    · refine T.seq (T.region (L.op rfl rfl (O.assign rfl (L.nil (T.seq (T.region (L.op rfl rfl (O.move rfl (L.op rfl rfl (O.load Tryd.isAgg4 rfl (hB.cell rfl) (L.op rfl rfl (O.eql_bool Tryd.runUnderlying4 rfl rfl (L.op rfl rfl (O.move rfl (L.op rfl rfl (O.move rfl (L.op rfl rfl (O.eql rfl rfl (L.op rfl rfl (O.pick_true rfl rfl (L.op rfl rfl (O.assign rfl (L.nil (T.ret1 Tryd.results64 rfl ⟨rfl, rfl⟩))))))))))))))))))))))))

theorem is_calls (p : Value) (w : World) (hp : p.cells = #[p]) :
    Calls Tryd.prog 39 #[p] w (Ret fun v w' => Ext w w' ∧ v = .func (.func 65) #[] #[.pointer (some ⟨w.heap.size, 0, none⟩)] ∧ Blk w' w.heap.size [p] 34) := by
  refine T.enter (vs := [p]) Tryd.func39 rfl Tryd.ntmps39 rfl ?_
  refine T.seq (T.region (L.op rfl rfl (O.box rfl (fun b1 w1 hb1 hz1 he1 hB1 => ?_))))
  subst hb1
  have hB2 : Blk w1 w.heap.size [p] 34 := by have := hB1; simp only [hp] at this; exact this
  refine L.op rfl rfl (O.assign rfl (L.nil (T.seq (T.region (L.op rfl rfl (O.makeFunc (fi := []) (ca := [.tmp 1]) rfl rfl (L.op rfl rfl (O.assign rfl (L.nil (T.ret1 Tryd.results39 rfl ⟨he1, rfl, hB2⟩))))))))))

theorem is1_calls (b lo lo' : Nat) (p q : Value) (xs ys : List Int) (e : Int) (w : World) (hB : Blk w b [q] 34) (hp : Ints .i64 lo w p xs) (hq : Ints .i64 lo' w q ys) :
    Calls Tryd.prog 65 #[p, .int .i64 e, .pointer (some ⟨b, 0, none⟩)] w (Ret fun v w' => v = .bool (decide (xs = ys) && decide (e = 0)) ∧ Ext w w') := by
  refine T.enter (vs := [p, .int .i64 e, .pointer (some ⟨b, 0, none⟩)]) Tryd.func65 rfl Tryd.ntmps65 rfl ?_
  refine T.seq (T.region (L.op rfl rfl (O.assign rfl (L.nil (T.seq (T.region (L.op rfl rfl (O.move rfl (L.op rfl rfl (O.load Tryd.isAgg34 rfl (hB.cell rfl) (L.op rfl rfl (O.call (xs := [.tmp 6, .tmp 7]) Tryd.call26 rfl rfl (equalP_calls lo lo' p q xs ys w hp hq) (fun v1 w1 hq => ?_)))))))))))))
  obtain ⟨rfl, he1⟩ := hq
  cases h : decide (xs = ys)
  · refine L.op rfl rfl (O.move rfl (L.pass rfl rfl (L.pass rfl rfl (L.op rfl rfl (O.pick_false rfl rfl (L.op rfl rfl (O.assign rfl (L.nil (T.ret1 Tryd.results65 rfl ⟨rfl, he1⟩)))))))))
  · refine L.op rfl rfl (O.move rfl (L.op rfl rfl (O.move rfl (L.op rfl rfl (O.eql rfl rfl (L.op rfl rfl (O.pick_true rfl rfl (L.op rfl rfl (O.assign rfl (L.nil (T.ret1 Tryd.results65 rfl ⟨rfl, he1⟩)))))))))))

theorem number_calls (c : Int) (w : World) :
    Calls Tryd.prog 40 #[.int .i64 c] w (Ret fun v w' => Ext w w' ∧ v = .func (.func 66) #[] #[.pointer (some ⟨w.heap.size, 0, none⟩)] ∧ Blk w' w.heap.size [.int .i64 c] 3) := by
  refine T.enter (vs := [.int .i64 c]) Tryd.func40 rfl Tryd.ntmps40 rfl ?_
  refine T.seq (T.region (L.op rfl rfl (O.box rfl (fun b1 w1 hb1 hz1 he1 hB1 => ?_))))
  subst hb1
  refine L.op rfl rfl (O.assign rfl (L.nil (T.seq (T.region (L.op rfl rfl (O.makeFunc (fi := []) (ca := [.tmp 1]) rfl rfl (L.op rfl rfl (O.assign rfl (L.nil (T.ret1 Tryd.results40 rfl ⟨he1, rfl, hB1⟩))))))))))

theorem number1_calls (b : Nat) (c d e : Int) (w : World) (hB : Blk w b [.int .i64 c] 3) :
    Calls Tryd.prog 66 #[.int .i64 d, .int .i64 e, .pointer (some ⟨b, 0, none⟩)] w (Ret fun v w' => v = .bool (decide (d = c) && decide (e = 0)) ∧ w' = w) := by
  refine T.enter (vs := [.int .i64 d, .int .i64 e, .pointer (some ⟨b, 0, none⟩)]) Tryd.func66 rfl Tryd.ntmps66 rfl ?_
  refine T.seq (T.region (L.op rfl rfl (O.assign rfl (L.nil (T.seq (T.region (L.op rfl rfl (O.move rfl (L.op rfl rfl (O.load Tryd.isAgg3 rfl (hB.cell rfl) (L.op rfl rfl (O.eql_s rfl rfl (fun h => ?_) (fun h => ?_)))))))))))))
  · refine L.op rfl rfl (O.move rfl (L.op rfl rfl (O.move rfl (L.op rfl rfl (O.eql rfl rfl (L.op rfl rfl (O.pick_true rfl rfl (L.op rfl rfl (O.assign rfl (L.nil (T.ret1 Tryd.results66 rfl ⟨by rw [decide_eq_true h]; rfl, rfl⟩)))))))))))
  · refine L.op rfl rfl (O.move rfl (L.pass rfl rfl (L.pass rfl rfl (L.op rfl rfl (O.pick_false rfl rfl (L.op rfl rfl (O.assign rfl (L.nil (T.ret1 Tryd.results66 rfl ⟨by rw [decide_eq_false h]; rfl, rfl⟩)))))))))

theorem fails_calls (c : Int) (w : World) :
    Calls Tryd.prog 42 #[.int .i64 c] w (Ret fun v w' => Ext w w' ∧ v = .func (.func 67) #[] #[.pointer (some ⟨w.heap.size, 0, none⟩)] ∧ Blk w' w.heap.size [.int .i64 c] 39) := by
  refine T.enter (vs := [.int .i64 c]) Tryd.func42 rfl Tryd.ntmps42 rfl ?_
  refine T.seq (T.region (L.op rfl rfl (O.box rfl (fun b1 w1 hb1 hz1 he1 hB1 => ?_))))
  subst hb1
  refine L.op rfl rfl (O.assign rfl (L.nil (T.seq (T.region (L.op rfl rfl (O.makeFunc (fi := []) (ca := [.tmp 1]) rfl rfl (L.op rfl rfl (O.assign rfl (L.nil (T.ret1 Tryd.results42 rfl ⟨he1, rfl, hB1⟩))))))))))

theorem fails1_calls (b lo : Nat) (c e : Int) (p : Value) (xs : List Int) (w : World) (hB : Blk w b [.int .i64 c] 39) (hp : Ints .i64 lo w p xs) :
    Calls Tryd.prog 67 #[p, .int .i64 e, .pointer (some ⟨b, 0, none⟩)] w (Ret fun v w' => v = .bool (decide (xs.length = 0) && decide (e = c)) ∧ w' = w) := by
  refine T.enter (vs := [p, .int .i64 e, .pointer (some ⟨b, 0, none⟩)]) Tryd.func67 rfl Tryd.ntmps67 rfl ?_
  refine T.seq (T.region (L.op rfl rfl (O.assign rfl (L.nil (T.seq (T.region (L.op rfl rfl (O.move rfl (L.op rfl rfl (O.len Tryd.runUnderlying35 rfl (Sl.val hp) (L.op rfl rfl (O.eql_s rfl rfl (fun h => ?_) (fun h => ?_)))))))))))))
  · refine L.op rfl rfl (O.move rfl (L.op rfl rfl (O.move rfl (L.op rfl rfl (O.load Tryd.isAgg39 rfl (hB.cell rfl) (L.op rfl rfl (O.eql rfl rfl (L.op rfl rfl (O.pick_true rfl rfl (L.op rfl rfl (O.assign rfl (L.nil (T.ret1 Tryd.results67 rfl ⟨by rw [decide_eq_true (show xs.length = 0 by omega)]; rfl, rfl⟩)))))))))))))
  · refine L.op rfl rfl (O.move rfl (L.pass rfl rfl (L.pass rfl rfl (L.pass rfl rfl (L.op rfl rfl (O.pick_false rfl rfl (L.op rfl rfl (O.assign rfl (L.nil (T.ret1 Tryd.results67 rfl ⟨by rw [decide_eq_false (show ¬ xs.length = 0 by omega)]; rfl, rfl⟩))))))))))

end Go.Proofs.YthjdljbghjelfaaDoor
set_option linter.unusedVariables false
set_option linter.unusedSimpArgs false
set_option maxRecDepth 20000
namespace Go.Proofs.YthjdljbghjelfaaDoor
open Go Go.E
attribute [local irreducible] Go.E.T Go.E.L Go.E.O Go.E.Ob

theorem line_calls (w : World) :
    Calls Tryd.prog 41 #[] w (Ret fun v w' => Ext w w' ∧ ∃ p, v = gV 4 p ∧ Pairs w.heap.size w' p [(0, 1), (1, 2), (2, 3)]) := by
  refine T.enter (vs := []) Tryd.func41 rfl Tryd.ntmps41 rfl ?_
  refine T.seq (T.region (L.op rfl rfl (O.alloc Tryd.zeroValue33 (fun b1 w1 hb1 hz1 he1 hB1 => ?_))))
  refine L.nil (T.seq (T.region (L.op rfl rfl (O.build (v := .agg #[.int .i64 0, .int .i64 1]) (parts := [(0, .const (.int .i64 0)), (1, .const (.int .i64 1))]) (vs := [(0, _), (1, _)]) rfl (fun w => by kernel_rfl) (L.op rfl rfl (O.build (v := .agg #[.int .i64 1, .int .i64 2]) (parts := [(0, .const (.int .i64 1)), (1, .const (.int .i64 2))]) (vs := [(0, _), (1, _)]) rfl (fun w => by kernel_rfl) (L.op rfl rfl (O.build (v := .agg #[.int .i64 2, .int .i64 3]) (parts := [(0, .const (.int .i64 2)), (1, .const (.int .i64 3))]) (vs := [(0, _), (1, _)]) rfl (fun w => by kernel_rfl) (L.op rfl rfl (O.buildSlice (el := 80) (parts := [(0, .tmp 1), (1, .tmp 2), (2, .tmp 3)]) (vs := [(0, _), (1, _), (2, _)]) (cs := [.int .i64 0, .int .i64 1, .int .i64 1, .int .i64 2, .int .i64 2, .int .i64 3]) rfl (fun w => by kernel_rfl) (fun b2 w2 hb2 hz2 he2 hB2 => ?_)))))))))))
  refine L.op rfl rfl (O.build (v := .agg #[.int .i64 4, .slice (some ⟨b2, 0, none⟩) 3 3]) (parts := [(0, .const (.int .i64 4)), (1, .tmp 4)]) (vs := [(0, _), (1, _)]) rfl (fun w => by kernel_rfl) (L.op rfl rfl (O.storeAgg Tryd.sizeOf33 rfl rfl rfl (hB1.keep he2 (Nat.zero_le _)) (Nat.le_refl _) (by simp [Value.oneCell']) (fun w3 hu3 hB3 => ?_))))
  refine L.nil (T.retA Tryd.results41 Tryd.isAgg33 Tryd.sizeOf33 rfl rfl hB3.row ⟨(he1.trans he2).upd hu3 (.inr (by omega)), _, rfl, Sl.of_blk (hB2.upd hu3 (by omega)) rfl (Nat.le_refl _) (by decide) (by omega)⟩)

end Go.Proofs.YthjdljbghjelfaaDoor
