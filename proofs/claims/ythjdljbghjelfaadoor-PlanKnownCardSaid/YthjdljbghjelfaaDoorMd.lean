/-
  Walks of the plans' functions (2). Conditions: those of each statement.
-/
import Derived.Test.YthjdljbghjelfaaDoorMc
import Derived.Laws.StructEq
import Derived.Test.YthjdljbghjelfaaDoorMb
set_option linter.unusedVariables false
set_option linter.unusedSimpArgs false
set_option maxRecDepth 20000
namespace Go.Proofs.YthjdljbghjelfaaDoor
open Go Go.E
attribute [local irreducible] Go.E.T Go.E.L Go.E.O Go.E.Ob

/-- The part and the neighbours of those of its nodes that have been gone over. -/
def GrownBut (es : List (Int × Int)) (m p rest x : Nat) : Prop := ∀ b, x.testBit b = true ↔ (p.testBit b = true ∨ (m.testBit b = true ∧ ∃ a, p.testBit a = true ∧ rest.testBit a = false ∧ (nbTo es (a : Int) es.length).testBit b = true))
theorem GrownBut.start (es : List (Int × Int)) (m p : Nat) : GrownBut es m p p p := fun b => ⟨.inl, fun h => h.elim id fun ⟨_, a, h1, h2, _⟩ => by rw [h1] at h2; cases h2⟩
theorem GrownBut.done {es : List (Int × Int)} {m p x : Nat} (h : GrownBut es m p 0 x) : Grown es m p x := fun b => (h b).trans (by simp)
theorem GrownBut.step {es : List (Int × Int)} {m p rest x t : Nat} (h : GrownBut es m p rest x) (ht : Low rest t) (hi : Inc rest p) : GrownBut es m p (rest &&& (rest - 1)) (x ||| ((nbTo es (t : Int) es.length) &&& m)) := by
  intro b
  rw [Nat.testBit_or, Nat.testBit_and, Bool.or_eq_true, Bool.and_eq_true, h b]
  constructor
  · rintro ((h1 | ⟨h1, a, h2, h3, h4⟩) | ⟨h1, h2⟩)
    · exact .inl h1
    · exact .inr ⟨h1, a, h2, by rw [ht.rest, h3]; rfl, h4⟩
    · exact .inr ⟨h2, t, hi t ht.bit, by rw [ht.rest]; simp, h1⟩
  · rintro (h1 | ⟨h1, a, h2, h3, h4⟩)
    · exact .inl (.inl h1)
    · rw [ht.rest] at h3
      cases hr : rest.testBit a
      · exact .inl (.inr ⟨h1, a, h2, hr, h4⟩)
      · rw [hr] at h3
        have : a = t := by simpa using h3
        subst this
        exact .inr ⟨h4, h1⟩
theorem inc_rest {m t : Nat} (h : Low m t) : Inc (m &&& (m - 1)) m := fun i hi => by rw [h.rest] at hi; simp at hi; exact hi.1
theorem nbs_get {es : List (Int × Int)} {n t : Nat} (h : t < n) : (nbs es n).getD t 0 = nbTo es (t : Int) es.length := nbsAt_get h
theorem nbs_len (es : List (Int × Int)) (n : Nat) : (nbs es n).length = n := nbsAt_len _ _ _
theorem lt_of_bit {m n t : Nat} (hm : m < 2 ^ n) (ht : m.testBit t = true) : t < n := by
  rcases Nat.lt_or_ge t n with h1 | h1
  · exact h1
  · rw [Nat.testBit_lt_two_pow (Nat.lt_of_lt_of_le hm (Nat.pow_le_pow_right (n := 2) (by decide) h1))] at ht; cases ht
theorem pow_le64 {n : Nat} (h : n ≤ 64) : 2 ^ n ≤ 18446744073709551616 := (Nat.pow_le_pow_right (n := 2) (by decide) h : 2 ^ n ≤ 2 ^ 64)
theorem one_bit {r t : Nat} (h : Low r t) (hr : r < 18446744073709551616) (i : Nat) : (r &&& (18446744073709551616 - r)).testBit i = decide (t = i) := by rw [h.one hr, Nat.testBit_two_pow]
theorem andNot_lt (a b : Nat) (h : a < 18446744073709551616) : a &&& b < 18446744073709551616 := Nat.lt_of_le_of_lt Nat.and_le_left h
theorem andNot_bit {a b : Nat} (ha : a < 18446744073709551616) (hb : b < 18446744073709551616) (i : Nat) : (a &&& (18446744073709551615 - b)).testBit i = (a.testBit i && !b.testBit i) := by
  rw [Nat.testBit_and, testBit_not hb]
  cases h : a.testBit i
  · rfl
  · rw [decide_eq_true (bit_small ha h)]; rfl
theorem andNot_dec {a b t : Nat} (ha : a < 18446744073709551616) (hb : b < 18446744073709551616) (h1 : a.testBit t = true) (h2 : b.testBit t = true) : a &&& (18446744073709551615 - b) < a := by
  have hle : a &&& (18446744073709551615 - b) ≤ a := Nat.and_le_left
  rcases Nat.lt_or_ge (a &&& (18446744073709551615 - b)) a with h | h
  · exact h
  · have e : a &&& (18446744073709551615 - b) = a := Nat.le_antisymm hle h
    have := andNot_bit ha hb t
    rw [e, h1, h2] at this; simp at this
theorem comps_calls (lo n : Nat) (p : Value) (es : List (Int × Int)) (m : Nat) (w : World) (hp : Pairs lo w p es) (hg : Good n es) (hm : m < 2 ^ n) (hT : Tab w) :
    Calls Tryd.prog 75 #[gV n p, .int .u64 m] w (Ret fun v w' => Ext w w' ∧ ∃ k xs, Sl w.heap.size w' v k 1 xs ∧ (k = 1 ↔ Conn es m)) := by
  have hg1 := hg.1
  have hg2 := hg.2.1
  have hn64 : n ≤ 64 := by omega
  have hm64 : m < 18446744073709551616 := Nat.lt_of_lt_of_le hm (pow_le64 hn64)
  have hml : n ≤ maxLen := by unfold maxLen; omega
  refine T.enterM (vs := [gV n p, .int .u64 m]) Tryd.func75 rfl Tryd.ntmps75 rfl ?_
  refine T.seq (T.region (L.op rfl rfl (O.box rfl (fun b1 w1 hb1 hz1 he1 hB1 => ?_))))
  refine L.op rfl rfl (O.box rfl (fun b2 w2 hb2 hz2 he2 hB2 => ?_))
  refine L.op rfl rfl (O.assign rfl (L.nil (T.seq (T.region (L.op rfl rfl (O.loadAgg Tryd.isAgg33 Tryd.sizeOf33 rfl rfl ((hB1.keep he2 (Nat.zero_le _)).row) (?_)))))))
  have he02 := he1.trans he2
  refine L.op rfl rfl (O.call (xs := [.tmp 11]) Tryd.call81 rfl rfl (around_calls lo n p es w2 (hp.keep (he02.mono (Nat.zero_le lo))) hg) (fun v3 w3 hq => ?_))
  obtain ⟨he3, hW3⟩ := hq
  refine L.op rfl rfl (O.alloc Tryd.zeroValue38 (fun b4 w4 hb4 hz4 he4 hB4 => ?_))
  refine L.op rfl rfl (O.store1 Tryd.sizeOf38 (Sl.one hW3) rfl rfl hB4 (by simp [Value.cells]) (fun w5 hu5 hB5 => ?_))
  have he5 : Ext w3 w5 := he4.upd hu5 (.inr (by omega))
  have hW5 : Words w2.heap.size w5 v3 (nbs es n) := hW3.keep (he5.mono (Nat.zero_le _))
  have hBs : Blk w5 b2 [.int .u64 m] 46 := hB2.keep (he3.trans he5) (Nat.zero_le _)
  have hBl : Blk w5 b4 [v3] 38 := hB5
  have he05 : Ext w w5 := (he02.trans he3).trans he5
  have hT5 : Tab w5 := hT.keep he05
  refine L.nil (T.seq (T.region (L.op rfl rfl (O.assign rfl (L.nil (T.seq (T.seq (T.region (L.op rfl rfl (O.load Tryd.isAgg46 rfl (hBs.cell rfl) (L.op rfl rfl (O.assign rfl (L.nil (T.block (?_)))))))))))))))
  refine T.loopD (σ := List Nat × Nat × Value × Nat × List Value) (fun s => s.1) (fun s => [(2, .pointer (some ⟨b1, 0, none⟩)), (3, .pointer (some ⟨b2, 0, none⟩)), (5, .pointer (some ⟨b4, 0, none⟩)), (6, s.2.2.1), (7, .int .u64 s.2.1)]) (fun s w' => Ext w5 w' ∧ Opn s.1 w' ∧ (∀ r ∈ s.1, w5.heap.size ≤ r) ∧ w'.ownsRow w5.heap.size 46 1 s.2.2.1 s.2.2.2.1 s.2.2.2.2 ∧ s.2.1 < 18446744073709551616 ∧ (∀ i, s.2.1.testBit i = true → s.2.2.2.1 ≤ i) ∧ Found es m s.2.1 s.2.2.2.1) (fun s => s.2.1) (([], m, .slice none 0 0, 0, [])) rfl ⟨rfl, rfl, rfl, rfl, rfl, trivial⟩ ⟨Keep.refl _ _, Opn.nil _, (fun r hr => by cases hr), owns_nil _ _ _ _, hm64, fun _ _ => Nat.zero_le _, Found.start es m⟩ ?_
  rintro ⟨ds, rest, out, k, xs⟩ w6 ⟨he6, ho6, hds6, hO6, hr6, hk6, hF6⟩
  simp only at he6 ho6 hds6 hO6 hr6 hk6 hF6
  refine T.seq (T.seq (T.region (L.op rfl rfl (O.move rfl (L.op rfl rfl (O.neq_s rfl rfl (fun hz => ?_) (fun hz => ?_)))))))
  · refine L.nil (?_)
    have hz0 : rest ≠ 0 := by simp only at hz; omega
    obtain ⟨t, ht⟩ := Low.ex hz0
    have htm := hF6.1 t ht.bit
    have htk := hk6 t ht.bit
    have ht64 := ht.lt hr6
    refine T.cond_true rfl (T.skip (T.block (T.seq (T.region (L.op rfl rfl (O.move rfl (L.op rfl rfl (O.move rfl (L.op rfl rfl (O.neg rfl (L.op rfl rfl (O.and_u64 (b := 18446744073709551616 - rest) rfl (by simp only; rw [IntKind.wrap_u64]; omega) hr6 (by omega) rfl rfl (L.op rfl rfl (O.assign rfl (L.nil (T.seq (T.block (?_))))))))))))))))))
    refine T.loopD (σ := List Nat × Nat) (fun s => s.1) (fun s => [(2, .pointer (some ⟨b1, 0, none⟩)), (3, .pointer (some ⟨b2, 0, none⟩)), (5, .pointer (some ⟨b4, 0, none⟩)), (6, out), (7, .int .u64 rest), (8, .int .u64 s.2)]) (fun s w' => Ext w5 w' ∧ Opn s.1 w' ∧ (∀ r ∈ s.1, w5.heap.size ≤ r) ∧ w'.ownsRow w5.heap.size 46 1 out k xs ∧ s.2 < 18446744073709551616 ∧ Least es m t s.2) (fun s => 18446744073709551616 - s.2) ((ds, rest &&& (18446744073709551616 - rest))) rfl ⟨rfl, rfl, rfl, rfl, rfl, rfl, trivial⟩ ⟨he6, ho6, hds6, hO6, andNot_lt _ _ hr6, Least.start htm (one_bit ht hr6)⟩ ?_
    rintro ⟨ds7, part⟩ w7 ⟨he7, ho7, hds7, hO7, hp7, hL7⟩
    simp only at he7 ho7 hds7 hO7 hp7 hL7
    refine T.block (T.seq (T.region (L.op rfl rfl (O.move rfl (L.op rfl rfl (O.alloc Tryd.zeroValue46 (fun b8 w8 hb8 hz8 he8 hB8 => ?_)))))))
    refine L.op rfl rfl (O.store1 Tryd.sizeOf46 rfl rfl rfl hB8 (by simp [Value.cells]) (fun w9 hu9 hB9 => ?_))
    have hB9' : Blk w9 b8 [.int .u64 part] 46 := hB9
    have he79 : Ext w7 w9 := he8.upd hu9 (.inr (by omega))
    refine L.nil (T.seq (T.seq (T.region (L.op rfl rfl (O.move rfl (L.op rfl rfl (O.call (xs := [.tmp 21]) Tryd.call82 rfl rfl (nodes_calls part w9) (fun v10 w10 hq => ?_))))))))
    obtain ⟨he10, rfl, hB10, hz10⟩ := hq
    have he710 := he79.trans he10
    have hs79 := hu9.size
    have hs910 := he10.size
    refine L.nil (T.block (?_))
    refine T.rangeFuncM (e1 := fun v x => [(3, .pointer (some ⟨b2, 0, none⟩)), (5, .pointer (some ⟨b4, 0, none⟩)), (9, .pointer (some ⟨b8, 0, none⟩)), (10, v)]) (fun rest' S w' => Ext w7 w' ∧ ¬ S b8 ∧ (∀ k, S k → w7.heap.size ≤ k ∧ k < w'.heap.size) ∧ Inc rest' part ∧ ∃ x : Nat, Blk w' b8 [.int .u64 x] 46 ∧ x < 18446744073709551616 ∧ GrownBut es m part rest' x) (fun _ _ _ => False) (fun _ _ _ => True) rfl Tryd.call85 rfl (nodes_seq w9.heap.size part hp7) ?_ ?_ ?_ ?_ ?_ ?_ ?_ ?_ ?_ ?_ ?_
    · refine ⟨?_, ?_⟩
      · rintro i S S' W W' ⟨h1, h2, h3, h4, x, h5, h6, h7⟩ he hS
        refine ⟨h1.trans he, fun h => ?_, fun k hk => ?_, h4, x, h5.keep he (Nat.zero_le _), h6, h7⟩
        · rcases hS _ h with h | h
          · exact h2 h
          · have := h5.lt; omega
        · rcases hS _ hk with h | h
          · exact ⟨(h3 k h).1, Nat.lt_of_lt_of_le (h3 k h).2 he.size⟩
          · have := h1.size; omega
      · rintro i S W W' b ⟨h1, h2, h3, h4, x, h5, h6, h7⟩ hb hu
        exact ⟨h1.upd hu (.inr (h3 b hb).1), h2, fun k hk => by rw [hu.size]; exact h3 k hk, h4, x, h5.upd hu (fun e => h2 (e ▸ hb)), h6, h7⟩
    · exact fun _ _ _ _ _ h _ _ => h.elim
    · exact fun i S W h => hT5.keep (he7.trans h.1)
    · exact ⟨he710, by omega, fun k hk => by omega, Inc.refl _, part, hB9'.keep he10 (Nat.zero_le _), hp7, GrownBut.start _ _ _⟩
    · exact fun k hk => by omega
    · exact fun W hW => hB10.keep hW (Nat.zero_le _)
    · exact fun _ _ _ _ _ _ _ _ => trivial
    · intro l Q i j v k W hn hK
      refine T.region (L.op rfl rfl (O.assign rfl (L.nil (T.sub ?_ (hK _ _ (Nat.le_refl _) (Keep.refl _ _) trivial)))))
      exact ⟨rfl, rfl, rfl, rfl, trivial⟩
    · rintro l rest' v x' j S w11 ⟨t', ht', rfl, rfl⟩ ⟨he11, hnS, hSb, hi11, x, hB11, hx11, hG11⟩ _
      have hWl := hW5.keep ((he7.trans he11).mono (Nat.zero_le w2.heap.size))
      have htp := hi11 t' ht'.bit
      have htn : t' < n := lt_of_bit hm (hL7.inc t' htp)
      have hg11 := nbs_get (es := es) htn
      refine T.block (?_)
      refine T.par mixed 8 [9, 5, 10, 3] rfl [.is _, .is _, .is _, .is _, .is _, .is _, .is _, .is _] [[], [], [], [1, 2], [3], [], [4, 5], [0, 6]] (by kernel_rfl) rfl ⟨trivial, trivial, trivial, trivial, trivial, trivial, trivial, trivial, trivial⟩ ⟨fun wx hx => Ob.op rfl (O.load Tryd.isAgg46 rfl ((hB11.keep hx (Nat.zero_le _)).cell rfl) ⟨Keep.refl _ _, rfl⟩),
          fun wx hx => Ob.op rfl (O.load Tryd.isAgg38 rfl (((hBl.keep ((he7.trans he11).trans hx)) (Nat.zero_le _)).cell rfl) ⟨Keep.refl _ _, rfl⟩),
          fun wx hx => Ob.op rfl (O.move rfl ⟨Keep.refl _ _, rfl⟩),
          fun wx hx => Ob.op rfl (O.indexAddr Tryd.runUnderlying38 Tryd.sizeOf46 rfl rfl (hWl.keep (hx.mono (Nat.zero_le _))) (by omega) (by rw [nbs_len]; omega) ⟨Keep.refl _ _, rfl⟩),
          fun wx hx => Ob.op rfl (O.load Tryd.isAgg46 rfl (Words.at (hWl.keep (hx.mono (Nat.zero_le _))) (by rw [nbs_len]; omega)) ⟨Keep.refl _ _, rfl⟩),
          fun wx hx => Ob.op rfl (O.load Tryd.isAgg46 rfl (((hBs.keep ((he7.trans he11).trans hx)) (Nat.zero_le _)).cell rfl) ⟨Keep.refl _ _, rfl⟩),
          fun wx hx => Ob.op rfl (O.and_u64 rfl rfl (by rw [hg11]; exact nbTo_lt _ _ _) hm64 rfl rfl ⟨Keep.refl _ _, rfl⟩),
          fun wx hx => Ob.op rfl (O.or_u64 rfl rfl hx11 (andNot_lt _ _ (by rw [hg11]; exact nbTo_lt _ _ _)) rfl rfl ⟨Keep.refl _ _, rfl⟩),
          trivial⟩ (fun w12 he12 => ?_)
      refine L.op rfl rfl (O.store1 Tryd.sizeOf46 rfl rfl rfl (hB11.keep he12 (Nat.zero_le _)) (by simp [Value.cells]) (fun w13 hu13 hB13 => ?_))
      refine L.nil (T.blk (T.roundEnd ⟨⟨(he11.trans he12).upd hu13 (.inr (by omega)), hnS, (fun k hk => by rw [hu13.size]; exact ⟨(hSb k hk).1, Nat.lt_of_lt_of_le (hSb k hk).2 he12.size⟩), (inc_rest ht').trans hi11, _, hB13, or_lt hx11 (andNot_lt _ _ (by rw [hg11]; exact nbTo_lt _ _ _)), by rw [hg11]; exact hG11.step ht' hi11⟩, fun k hk => ?_⟩))
      · rw [hu13.block k (fun e => hnS (e ▸ hk))]
        exact he12.block k (Nat.zero_le _) (hSb k hk).2
    · rintro S D w11 hD hS0 hSD ⟨he11, hnS, hSb, hi11, x, hB11, hx11, hG11⟩ hD11
      have hG := hG11.done
      have hL11 := hL7.grow hg hG
      have ho11 : Opn (D :: ds7) w11 := (ho7.ext he11).cons hD11 (fun h => by have := ho7.lt _ h; have := he10.size; omega)
      have hds11 : ∀ r ∈ D :: ds7, w5.heap.size ≤ r := fun r hr => (List.mem_cons.1 hr).elim (fun e => by have := he7.size; have := he10.size; omega) (hds7 r)
      refine T.blk (T.seq (T.seq (T.region (L.op rfl rfl (O.load Tryd.isAgg46 rfl (hB11.cell rfl) (L.op rfl rfl (O.move rfl (L.op rfl rfl (O.eql_s rfl rfl (fun heq => ?_) (fun heq => ?_))))))))))
      · refine L.nil (?_)
        obtain rfl : x = part := by simp only at heq; omega
        have hcl := hG.closed hg
        refine T.cond_true rfl (T.exit rfl (T.seq (T.region (L.op rfl rfl (O.move rfl (L.op rfl rfl (O.move rfl (L.op rfl rfl (O.buildSlice (el := 46) (parts := [(0, .tmp 37)]) (vs := [(0, _)]) (cs := [.int .u64 x]) rfl (fun w => by kernel_rfl) (fun b12 w12 hb12 hz12 he12 hB12 => ?_))))))))))
        refine L.op rfl rfl (O.append (size := 1) (bytes := 8) Tryd.runUnderlying38 Tryd.infoOf46 rfl rfl rfl rfl (by decide) rfl rfl (owns_keep (owns_keep hO7 he11 (Nat.zero_le _)) he12 (Nat.zero_le _)) (Sl.of_blk (lo := 0) hB12 rfl (Nat.le_refl _) (by decide) (Nat.zero_le _)) (by intro c hc; simp at hc; simp [hc, Value.oneCell']) (by omega) (by simp only [maxLen]; omega) (Nat.le_trans (he7.trans he11).size he12.size) (fun v13 w13 hO13 hG13 => ?_))
        refine L.op rfl rfl (O.assign rfl (L.nil (T.region (L.op rfl rfl (O.move rfl (L.op rfl rfl (O.move rfl (L.op rfl rfl (O.andNot_u64 rfl rfl hr6 hx11 rfl rfl (L.op rfl rfl (O.assign rfl (L.nil (T.blk (T.againD ((D :: ds7, rest &&& (18446744073709551615 - x), v13, k + 1, xs ++ [.int .u64 x])) (andNot_dec hr6 hx11 ht.bit hL11.has) rfl ⟨rfl, rfl, rfl, rfl, rfl, trivial⟩ ⟨((he7.trans he11).trans he12).grown0 hO7 hG13 (Nat.le_refl _), (ho11.ext he12).grown (owns_keep (owns_keep hO7 he11 (Nat.zero_le _)) he12 (Nat.zero_le _)) hG13, hds11, hO13, andNot_lt _ _ hr6, ?_, hF6.next hz0 hL11 hcl (andNot_bit hr6 hx11)⟩))))))))))))))
        · intro i hi
          rw [andNot_bit hr6 hx11] at hi
          simp only [Bool.and_eq_true] at hi
          have h1 : ¬ i < t := fun h => by rw [ht.low i h] at hi; cases hi.1
          have h2 : i ≠ t := fun h => by subst h; rw [hL11.has] at hi; simp at hi
          show k + 1 ≤ i
          omega
      · refine L.nil (T.cond_false rfl (T.skip (T.region (L.op rfl rfl (O.load Tryd.isAgg46 rfl (hB11.cell rfl) (L.op rfl rfl (O.assign rfl (L.nil (T.blk (T.againD ((D :: ds7, x)) (by have h1 := hG.inc.le; simp only at heq ⊢; omega) rfl ⟨rfl, rfl, rfl, rfl, rfl, rfl, trivial⟩ ⟨he7.trans he11, ho11, hds11, owns_keep hO7 he11 (Nat.zero_le _), hx11, hL11⟩))))))))))
    · exact fun _ _ _ _ _ _ h _ => h.elim
  · refine L.nil (?_)
    have hz0 : rest = 0 := by simp only at hz; omega
    subst hz0
    refine T.cond_false rfl (T.exit rfl (T.seq (T.region (L.op rfl rfl (O.move rfl (L.op rfl rfl (O.assign rfl (L.nil (T.retM1 Tryd.results75 rfl ho6 (fun w' hs => ⟨(he05.trans he6).shut hs (fun r hr => .inr (Nat.le_trans he05.size (hds6 r hr))), k, xs, ?_, hF6.done hm64⟩))))))))))
    exact (Sl.of_owns (ho6.shut_owns hO6 hs)).mono he05.size

theorem gConn_calls (lo : Nat) (N : Int) (p : Value) (es : List (Int × Int)) (m : Nat) (w : World) (hp : Pairs lo w p es) (hm : m < 18446744073709551616) (hT : Tab w) :
    Calls Tryd.prog 69 #[gV N p, .int .u64 m] w (Ret fun v w' => Ext w w' ∧ ∃ c, v = .tuple #[.bool c, .int .i64 (setErr N es m)] ∧ (setErr N es m ≠ 0 → c = false) ∧ (setErr N es m = 0 → (c = true ↔ Conn es m))) := by
  refine T.enter (vs := [gV N p, .int .u64 m]) Tryd.func69 rfl Tryd.ntmps69 rfl ?_
  refine T.seq (T.region (L.op rfl rfl (O.box rfl (fun b1 w1 hb1 hz1 he1 hB1 => ?_))))
  refine L.op rfl rfl (O.assign rfl (L.op rfl rfl (O.assign rfl (L.nil (T.seq (T.seq (T.region (L.op rfl rfl (O.loadAgg Tryd.isAgg33 Tryd.sizeOf33 rfl rfl hB1.row (?_))))))))))
  have hp1 := hp.keep (he1.mono (Nat.zero_le lo))
  refine L.op rfl rfl (O.move rfl (L.op rfl rfl (O.call (xs := [.tmp 7, .tmp 8]) Tryd.call74 rfl rfl (gcheck_calls lo N p es m w1 hp1 hm) (fun v2 w2 hq => ?_))))
  obtain ⟨rfl, he2⟩ := hq
  refine L.op rfl rfl (O.assign rfl (L.nil (T.seq (T.region (L.op rfl rfl (O.move rfl (L.op rfl rfl (O.neq_s rfl rfl (fun hne => ?_) (fun hne => ?_)))))))))
  · refine L.nil (T.cond_true rfl (T.seq (T.region (L.op rfl rfl (O.move rfl (L.op rfl rfl (O.assign rfl (L.op rfl rfl (O.assign rfl (L.nil (T.ret2 Tryd.results69 rfl rfl ⟨he1.trans he2, _, rfl, fun _ => rfl, fun h => absurd h hne⟩)))))))))))
  · refine L.nil (?_)
    have hge : graphErr N es = 0 := by
      rw [setErr] at hne
      split at hne
      · assumption
      · assumption
    have hmN : m < 2 ^ N.toNat := by
      rw [setErr, if_pos hge] at hne
      split at hne
      · assumption
      · cases hne
    have hN := (graphErr_ok hge).1
    obtain ⟨n, rfl⟩ : ∃ n : Nat, N = n := ⟨N.toNat, by omega⟩
    refine T.cond_false rfl (T.skip (T.seq (T.region (L.op rfl rfl (O.loadAgg Tryd.isAgg33 Tryd.sizeOf33 rfl rfl ((hB1.keep he2 (Nat.zero_le _)).row) (L.op rfl rfl (O.move rfl (L.op rfl rfl (O.call (xs := [.tmp 13, .tmp 14]) Tryd.call75 rfl rfl (comps_calls lo n p es m w2 (hp1.keep (he2.mono (Nat.zero_le lo))) (Good.of hge) (by simpa using hmN) (hT.keep (he1.trans he2))) (fun v3 w3 hq => ?_))))))))))
    obtain ⟨he3, k, xs, hS3, hk3⟩ := hq
    refine L.op rfl rfl (O.len Tryd.runUnderlying38 rfl (Sl.val hS3) (L.op rfl rfl (O.eql rfl rfl (L.op rfl rfl (O.assign rfl (L.op rfl rfl (O.assign rfl (L.nil (T.ret2 Tryd.results69 rfl rfl ⟨(he1.trans he2).trans he3, _, by rw [hne], fun h => absurd hne h, fun _ => by simp only [decide_eq_true_eq]; rw [← hk3]; omega⟩)))))))))

end Go.Proofs.YthjdljbghjelfaaDoor
set_option linter.unusedVariables false
set_option linter.unusedSimpArgs false
set_option maxRecDepth 20000
namespace Go.Proofs.YthjdljbghjelfaaDoor
open Go Go.E
attribute [local irreducible] Go.E.T Go.E.L Go.E.O Go.E.Ob

/-- How many of the first edges have both ends in a set. -/
def settled (es : List (Int × Int)) (p : Nat) : Nat → Nat
  | 0 => 0
  | i + 1 => settled es p i + (if p.testBit (eA es i) && p.testBit (eB es i) then 1 else 0)
theorem settled_le (es : List (Int × Int)) (p : Nat) : ∀ i, settled es p i ≤ i
  | 0 => Nat.le_refl _
  | i + 1 => by simp only [settled]; have := settled_le es p i; split <;> omega
theorem settled_mono {es : List (Int × Int)} {p q : Nat} (h : Inc p q) : ∀ i, settled es p i ≤ settled es q i
  | 0 => Nat.le_refl _
  | i + 1 => by
    have ih := settled_mono (es := es) h i
    simp only [settled]
    by_cases hp : (p.testBit (eA es i) && p.testBit (eB es i)) = true
    · have h2 := hp
      simp only [Bool.and_eq_true] at h2
      rw [if_pos hp, if_pos (by rw [h _ h2.1, h _ h2.2]; rfl)]; omega
    · rw [if_neg hp]; omega
theorem settled_lt {es : List (Int × Int)} {p q : Nat} (h : Inc p q) {j : Nat} (h1 : ¬ (p.testBit (eA es j) && p.testBit (eB es j)) = true) (h2 : (q.testBit (eA es j) && q.testBit (eB es j)) = true) : ∀ i, j < i → settled es p i < settled es q i
  | 0, hj => absurd hj (Nat.not_lt_zero _)
  | i + 1, hj => by
    simp only [settled]
    by_cases hji : j = i
    · subst hji
      rw [if_neg h1, if_pos h2]
      have := settled_mono (es := es) h j; omega
    · have ih := settled_lt h h1 h2 i (by omega)
      by_cases hp : (p.testBit (eA es i) && p.testBit (eB es i)) = true
      · have h3 := hp
        simp only [Bool.and_eq_true] at h3
        rw [if_pos hp, if_pos (by rw [h _ h3.1, h _ h3.2]; rfl)]; omega
      · rw [if_neg hp]; split <;> omega
theorem settled_all {es : List (Int × Int)} {p : Nat} : ∀ {i : Nat}, i ≤ settled es p i → ∀ j, j < i → p.testBit (eA es j) = true ∧ p.testBit (eB es j) = true
  | i + 1, h, j, hj => by
    simp only [settled] at h
    have h1 := settled_le es p i
    by_cases hp : (p.testBit (eA es i) && p.testBit (eB es i)) = true
    · rw [if_pos hp] at h
      by_cases hji : j = i
      · subst hji; simpa using hp
      · exact settled_all (i := i) (by omega) j (by omega)
    · rw [if_neg hp] at h; omega
/-- One sweep, up to an edge. -/
def Swept (es : List (Int × Int)) (m p x i : Nat) : Prop := Inc p x ∧ ∀ j, j < i → m.testBit (eA es j) = true → m.testBit (eB es j) = true → (p.testBit (eA es j) = true ∨ p.testBit (eB es j) = true) → x.testBit (eA es j) = true ∧ x.testBit (eB es j) = true
theorem Swept.start (es : List (Int × Int)) (m p : Nat) : Swept es m p p 0 := ⟨Inc.refl _, fun j hj => by omega⟩
theorem Swept.stay {es : List (Int × Int)} {m p x i : Nat} (h : Swept es m p x i) (hn : ¬ (m.testBit (eA es i) = true ∧ m.testBit (eB es i) = true ∧ (x.testBit (eA es i) = true ∨ x.testBit (eB es i) = true))) : Swept es m p x (i + 1) := by
  refine ⟨h.1, fun j hj h1 h2 h3 => ?_⟩
  by_cases hji : j = i
  · subst hji; exact absurd ⟨h1, h2, h3.imp (h.1 _) (h.1 _)⟩ hn
  · exact h.2 j (by omega) h1 h2 h3
theorem Swept.add {es : List (Int × Int)} {m p x y i : Nat} (h : Swept es m p x i) (hy : ∀ b, y.testBit b = (x.testBit b || decide (eA es i = b) || decide (eB es i = b))) : Swept es m p y (i + 1) := by
  have hxy : Inc x y := fun b hb => by rw [hy, hb]; rfl
  refine ⟨h.1.trans hxy, fun j hj h1 h2 h3 => ?_⟩
  by_cases hji : j = i
  · subst hji; rw [hy, hy]; simp
  · have := h.2 j (by omega) h1 h2 h3
    exact ⟨hxy _ this.1, hxy _ this.2⟩
theorem Least.add {es : List (Int × Int)} {m t x y i : Nat} (h : Least es m t x) (hi : i < es.length) (ha : m.testBit (eA es i) = true) (hb : m.testBit (eB es i) = true) (hx : x.testBit (eA es i) = true ∨ x.testBit (eB es i) = true) (hy : ∀ b, y.testBit b = (x.testBit b || decide (eA es i = b) || decide (eB es i = b))) : Least es m t y := by
  refine ⟨fun b h1 => ?_, by rw [hy, h.has]; rfl, fun q hq hqt b h1 => ?_⟩
  · rw [hy] at h1
    simp only [Bool.or_eq_true, decide_eq_true_eq] at h1
    rcases h1 with (h1 | rfl) | rfl
    · exact h.inc b h1
    · exact ha
    · exact hb
  · have hqq : q.testBit (eA es i) = true ∧ q.testBit (eB es i) = true := by
      have e := hq i hi ha hb
      rcases hx with h2 | h2
      · have h3 := h.least q hq hqt _ h2; exact ⟨h3, by rw [← e]; exact h3⟩
      · have h3 := h.least q hq hqt _ h2; exact ⟨by rw [e]; exact h3, h3⟩
    rw [hy] at h1
    simp only [Bool.or_eq_true, decide_eq_true_eq] at h1
    rcases h1 with (h1 | rfl) | rfl
    · exact h.least q hq hqt b h1
    · exact hqq.1
    · exact hqq.2
/-- After some sweeps. -/
def Sweeps (es : List (Int × Int)) (m p r : Nat) : Prop := Closed es m p ∨ r ≤ settled es p es.length
theorem Sweeps.next {es : List (Int × Int)} {m t p x r : Nat} (h : Sweeps es m p r) (hp : Least es m t p) (hx : Least es m t x) (hs : Swept es m p x es.length) : Sweeps es m x (r + 1) := by
  by_cases hc : Closed es m p
  · have : x = p := (hx.least p hc hp.has).anti hs.1
    subst this; exact .inl hc
  · have hr := h.resolve_left hc
    simp only [Closed, Classical.not_forall] at hc
    obtain ⟨i, hi, ha, hb, hne⟩ := hc
    have h1 := hs.2 i hi ha hb (by
      cases h1 : p.testBit (eA es i)
      · cases h2 : p.testBit (eB es i)
        · exact absurd (h1.trans h2.symm) hne
        · exact .inr rfl
      · exact .inl rfl)
    have := settled_lt (es := es) hs.1 (j := i) (by
      intro h2
      simp only [Bool.and_eq_true] at h2
      exact hne (h2.1.trans h2.2.symm)) (by rw [h1.1, h1.2]; rfl) es.length hi
    exact .inr (by omega)
theorem Sweeps.done {es : List (Int × Int)} {m p : Nat} (h : Sweeps es m p es.length) : Closed es m p := by
  rcases h with h | h
  · exact h
  · intro i hi _ _
    have := settled_all h i hi
    rw [this.1, this.2]
theorem Reach_calls (lo n : Nat) (p : Value) (es : List (Int × Int)) (m t : Nat) (w : World) (hp : Pairs lo w p es) (hg : Good n es) (hm : m < 18446744073709551616) (htm : m.testBit t = true) :
    Calls Tryd.prog 88 #[gV n p, .int .u64 m, .int .i64 t, .int .i64 (-1)] w (Ret fun v w' => Ext w w' ∧ ∃ x : Nat, v = .int .u64 x ∧ x < 18446744073709551616 ∧ Least es m t x ∧ Closed es m x) := by
  have hle := Sl.le hp
  have hg2 := hg.2.1
  have ht64 := bit_small hm htm
  refine T.enter (vs := [gV n p, .int .u64 m, .int .i64 t, .int .i64 (-1)]) Tryd.func88 rfl Tryd.ntmps88 rfl ?_
  refine T.seq (T.region (L.op rfl rfl (O.box rfl (fun b1 w1 hb1 hz1 he1 hB1 => ?_))))
  have hp1 := hp.keep (he1.mono (Nat.zero_le lo))
  refine L.op rfl rfl (O.assign rfl (L.nil (T.seq (T.region (L.op rfl rfl (O.move rfl (L.op rfl rfl (O.call (xs := [.tmp 13]) Tryd.call89 rfl rfl (One_calls t w1 (by omega) (by omega)) (fun v2 w2 hq => ?_)))))))))
  obtain ⟨rfl, rfl⟩ := hq
  refine L.op rfl rfl (O.assign rfl (L.nil (T.seq (T.seq (T.region (L.op rfl rfl (O.fieldAddr Tryd.runUnderlying33 rfl Tryd.sizeOf31 rfl (L.op rfl rfl (O.load Tryd.isAgg31 rfl (Blk.at hB1 rfl) (L.op rfl rfl (O.len Tryd.runUnderlying31 rfl (Sl.val hp1) (L.op rfl rfl (O.move rfl (L.nil (T.block (?_))))))))))))))))
  refine T.loop (σ := Nat × Nat) (fun s => [(1, .int .u64 m), (3, .int .i64 (-1)), (4, .pointer (some ⟨b1, 0, none⟩)), (9, .int .u64 s.2), (17, .int .i64 es.length), (18, .int .i64 s.1)]) (fun s w' => s.1 ≤ es.length ∧ Ext w2 w' ∧ s.2 < 18446744073709551616 ∧ Least es m t s.2 ∧ Sweeps es m s.2 s.1) (fun s => es.length - s.1) ((0, bit64 t)) ⟨rfl, rfl, rfl, rfl, rfl, rfl, trivial⟩ ⟨Nat.zero_le _, Keep.refl _ _, bit64_lt _, Least.start htm (fun i => testBit_bit64 _ _ ht64), .inr (Nat.zero_le _)⟩ ?_
  rintro ⟨r, x⟩ w3 ⟨hr, he3, hx64, hL, hS⟩
  simp only at hr he3 hx64 hL hS
  refine T.seq (T.region (L.op rfl rfl (O.lss_s rfl rfl (fun hlt => ?_) (fun hlt => ?_))))
  · refine L.nil (?_)
    have hlt' : r < es.length := by simp only at hlt; omega
    refine T.seq (T.cond_true rfl (T.skip (T.seq (T.block (T.seq (T.region (L.op rfl rfl (O.assign rfl (L.nil (T.block (?_)))))))))))
    refine T.loop (σ := Nat × Nat) (fun s => [(1, .int .u64 m), (3, .int .i64 (-1)), (4, .pointer (some ⟨b1, 0, none⟩)), (9, .int .u64 s.2), (10, .int .i64 s.1), (17, .int .i64 es.length), (18, .int .i64 r)]) (fun s w' => s.1 ≤ es.length ∧ Ext w2 w' ∧ s.2 < 18446744073709551616 ∧ Least es m t s.2 ∧ Swept es m x s.2 s.1) (fun s => es.length - s.1) ((0, x)) ⟨rfl, rfl, rfl, rfl, rfl, rfl, rfl, trivial⟩ ⟨Nat.zero_le _, he3, hx64, hL, Swept.start _ _ _⟩ ?_
    rintro ⟨i, y⟩ w4 ⟨hi, he4, hy64, hLy, hSy⟩
    simp only at hi he4 hy64 hLy hSy
    have hB4 := hB1.keep he4 (Nat.zero_le _)
    have hp4 := hp1.keep (he4.mono (Nat.zero_le lo))
    refine T.seq (T.seq (T.region (L.op rfl rfl (O.move rfl (L.op rfl rfl (O.fieldAddr Tryd.runUnderlying33 rfl Tryd.sizeOf31 rfl (L.op rfl rfl (O.load Tryd.isAgg31 rfl (Blk.at hB4 rfl) (L.op rfl rfl (O.len Tryd.runUnderlying31 rfl (Sl.val hp4) (L.op rfl rfl (O.lss_s rfl rfl (fun hil => ?_) (fun hil => ?_)))))))))))))
    · refine L.nil (?_)
      have hil' : i < es.length := by simp only at hil; omega
      have hgi := hg.2.2 i hil'
      refine T.cond_true rfl (T.skip (T.seq (T.block (T.seq (?_)))))
      refine T.par mixed 13 [4, 10] rfl [.is _, .is _, .is _, .is _, .is _, .is _, .is _, .is _, .is _, .is _, .is _, .is _, .is _] [[], [0], [], [1, 2], [3], [4], [], [6], [], [7, 8], [9], [10], [5]] (by kernel_rfl) rfl ⟨trivial, trivial, trivial, trivial, trivial, trivial, trivial, trivial, trivial, trivial, trivial, trivial, trivial, trivial⟩ ⟨fun wx hx => Ob.op rfl (O.fieldAddr Tryd.runUnderlying33 rfl Tryd.sizeOf31 rfl ⟨Keep.refl _ _, rfl⟩),
          fun wx hx => Ob.op rfl (O.load Tryd.isAgg31 rfl (Blk.at (hB4.keep hx (Nat.zero_le _)) rfl) ⟨Keep.refl _ _, rfl⟩),
          fun wx hx => Ob.op rfl (O.move rfl ⟨Keep.refl _ _, rfl⟩),
          fun wx hx => Ob.op rfl (O.indexAddr Tryd.runUnderlying31 Tryd.sizeOf80 rfl rfl (hp4.keep (hx.mono (Nat.zero_le lo))) (by omega) (by omega) ⟨Keep.refl _ _, rfl⟩),
          fun wx hx => Ob.op rfl (O.indexAddr_arr Tryd.runUnderlying80 Tryd.sizeOf3 rfl rfl (by decide) (by decide) ⟨Keep.refl _ _, rfl⟩),
          fun wx hx => Ob.op rfl (O.load Tryd.isAgg3 rfl ((hp4.keep (hx.mono (Nat.zero_le lo))).at0 hil') ⟨Keep.refl _ _, rfl⟩),
          fun wx hx => Ob.op rfl (O.fieldAddr Tryd.runUnderlying33 rfl Tryd.sizeOf31 rfl ⟨Keep.refl _ _, rfl⟩),
          fun wx hx => Ob.op rfl (O.load Tryd.isAgg31 rfl (Blk.at (hB4.keep hx (Nat.zero_le _)) rfl) ⟨Keep.refl _ _, rfl⟩),
          fun wx hx => Ob.op rfl (O.move rfl ⟨Keep.refl _ _, rfl⟩),
          fun wx hx => Ob.op rfl (O.indexAddr Tryd.runUnderlying31 Tryd.sizeOf80 rfl rfl (hp4.keep (hx.mono (Nat.zero_le lo))) (by omega) (by omega) ⟨Keep.refl _ _, rfl⟩),
          fun wx hx => Ob.op rfl (O.indexAddr_arr Tryd.runUnderlying80 Tryd.sizeOf3 rfl rfl (by decide) (by decide) ⟨Keep.refl _ _, rfl⟩),
          fun wx hx => Ob.op rfl (O.load Tryd.isAgg3 rfl ((hp4.keep (hx.mono (Nat.zero_le lo))).at1 hil') ⟨Keep.refl _ _, rfl⟩),
          fun wx hx => Ob.op rfl (O.assign rfl ⟨Keep.refl _ _, rfl⟩),
          trivial⟩ (fun w14 he14 => ?_)
      refine L.op rfl rfl (O.assign rfl (L.nil (T.seq (T.region (L.op rfl rfl (O.move rfl (L.op rfl rfl (O.move rfl (L.op rfl rfl (O.neq_t rfl rfl (by simp only; omega) (L.op rfl rfl (O.move rfl (L.op rfl rfl (O.move rfl (L.op rfl rfl (O.move rfl (L.op rfl rfl (O.call (xs := [.tmp 43, .tmp 44]) Tryd.call87 rfl rfl (Has_calls m _ w14 hm (by simp only; omega) (by simp only; omega)) (fun v15 w15 hq => ?_)))))))))))))))))))
      obtain ⟨rfl, rfl⟩ := hq
      cases ha : m.testBit (eA es i)
      · refine L.op rfl rfl (O.pick_true rfl rfl (L.op rfl rfl (O.move rfl (L.pass rfl rfl (L.pass rfl rfl (L.pass rfl rfl (L.op rfl rfl (O.pick_false rfl rfl (L.op rfl rfl (O.move rfl (L.pass rfl rfl (L.pass rfl rfl (L.pass rfl rfl (L.pass rfl rfl (L.pass rfl rfl (L.pass rfl rfl (L.pass rfl rfl (L.pass rfl rfl (L.op rfl rfl (O.pick_false rfl rfl (L.nil (T.cond_false rfl (T.skip (T.blk (T.region (L.op rfl rfl (O.move rfl (L.op rfl rfl (O.add64 rfl rfl (by omega) (L.op rfl rfl (O.assign rfl (?_))))))))))))))))))))))))))))))))
        refine L.nil (T.again ((i + 1, y)) (by omega) ⟨rfl, rfl, rfl, rfl, rfl, rfl, rfl, trivial⟩ ⟨hil', he4.trans he14, hy64, hLy, hSy.stay (by rw [ha]; simp)⟩)
      · refine L.op rfl rfl (O.pick_true rfl rfl (L.op rfl rfl (O.move rfl (L.op rfl rfl (O.move rfl (L.op rfl rfl (O.move rfl (L.op rfl rfl (O.call (xs := [.tmp 48, .tmp 49]) Tryd.call87 rfl rfl (Has_calls m _ w15 hm (by simp only; omega) (by simp only; omega)) (fun v16 w16 hq => ?_))))))))))
        obtain ⟨rfl, rfl⟩ := hq
        cases hb : m.testBit (eB es i)
        · refine L.op rfl rfl (O.pick_true rfl rfl (L.op rfl rfl (O.move rfl (L.pass rfl rfl (L.pass rfl rfl (L.pass rfl rfl (L.pass rfl rfl (L.pass rfl rfl (L.pass rfl rfl (L.pass rfl rfl (L.pass rfl rfl (L.op rfl rfl (O.pick_false rfl rfl (L.nil (T.cond_false rfl (T.skip (T.blk (T.region (L.op rfl rfl (O.move rfl (L.op rfl rfl (O.add64 rfl rfl (by omega) (L.op rfl rfl (O.assign rfl (L.nil (T.again ((i + 1, y)) (by omega) ⟨rfl, rfl, rfl, rfl, rfl, rfl, rfl, trivial⟩ ⟨hil', he4.trans he14, hy64, hLy, hSy.stay (by rw [hb]; simp)⟩))))))))))))))))))))))))))
        · refine L.op rfl rfl (O.pick_true rfl rfl (L.op rfl rfl (O.move rfl (L.op rfl rfl (O.move rfl (L.op rfl rfl (O.move rfl (L.op rfl rfl (O.call (xs := [.tmp 53, .tmp 54]) Tryd.call87 rfl rfl (Has_calls y _ w16 hy64 (by simp only; omega) (by simp only; omega)) (fun v17 w17 hq => ?_))))))))))
          obtain ⟨rfl, rfl⟩ := hq
          cases hya : y.testBit (eA es i)
          · refine L.op rfl rfl (O.move rfl (L.op rfl rfl (O.move rfl (L.op rfl rfl (O.move rfl (L.op rfl rfl (O.call (xs := [.tmp 57, .tmp 58]) Tryd.call87 rfl rfl (Has_calls y _ w17 hy64 (by simp only; omega) (by simp only; omega)) (fun v17b w17b hq => ?_))))))))
            obtain ⟨rfl, rfl⟩ := hq
            cases hyb : y.testBit (eB es i)
            · refine L.op rfl rfl (O.pick_false rfl rfl (L.op rfl rfl (O.pick_true rfl rfl (L.nil (T.cond_false rfl (T.skip (T.blk (T.region (L.op rfl rfl (O.move rfl (L.op rfl rfl (O.add64 rfl rfl (by omega) (L.op rfl rfl (O.assign rfl (L.nil (T.again ((i + 1, y)) (by omega) ⟨rfl, rfl, rfl, rfl, rfl, rfl, rfl, trivial⟩ ⟨hil', he4.trans he14, hy64, hLy, hSy.stay (by rw [hya, hyb]; simp)⟩))))))))))))))))
            · refine L.op rfl rfl (O.pick_false rfl rfl (L.op rfl rfl (O.pick_true rfl rfl (L.nil (T.cond_true rfl (T.region (L.op rfl rfl (O.move rfl (L.op rfl rfl (O.move rfl (L.op rfl rfl (O.call (xs := [.tmp 63]) Tryd.call89 rfl rfl (One_calls _ w17b (by simp only; omega) (by simp only; omega)) (fun v18 w18 hq => ?_)))))))))))))
              obtain ⟨rfl, rfl⟩ := hq
              refine L.op rfl rfl (O.or_u64 rfl rfl hy64 (bit64_lt _) rfl rfl (L.op rfl rfl (O.move rfl (L.op rfl rfl (O.call (xs := [.tmp 66]) Tryd.call89 rfl rfl (One_calls _ w18 (by simp only; omega) (by simp only; omega)) (fun v19 w19 hq => ?_))))))
              obtain ⟨rfl, rfl⟩ := hq
              refine L.op rfl rfl (O.or_u64 rfl rfl (or_lt hy64 (bit64_lt _)) (bit64_lt _) rfl rfl (?_))
              have hyy : ∀ b, (y ||| bit64 (eA es i) ||| bit64 (eB es i)).testBit b = (y.testBit b || decide (eA es i = b) || decide (eB es i = b)) := fun b => by rw [Nat.testBit_or, Nat.testBit_or, testBit_bit64 _ _ (by simp only [eA]; omega), testBit_bit64 _ _ (by simp only [eB]; omega)]
              refine L.op rfl rfl (O.assign rfl (L.nil (T.blk (T.region (L.op rfl rfl (O.move rfl (L.op rfl rfl (O.add64 rfl rfl (by omega) (L.op rfl rfl (O.assign rfl (L.nil (T.again ((i + 1, y ||| bit64 (eA es i) ||| bit64 (eB es i))) (by omega) ⟨rfl, rfl, rfl, rfl, rfl, rfl, rfl, trivial⟩ ⟨hil', he4.trans he14, or_lt (or_lt hy64 (bit64_lt _)) (bit64_lt _), hLy.add hil' ha hb (.inr hyb) hyy, hSy.add hyy⟩))))))))))))
          · refine L.op rfl rfl (O.move rfl (L.pass rfl rfl (L.pass rfl rfl (L.pass rfl rfl (L.op rfl rfl (O.pick_true rfl rfl (L.op rfl rfl (O.pick_true rfl rfl (L.nil (T.cond_true rfl (T.region (L.op rfl rfl (O.move rfl (L.op rfl rfl (O.move rfl (L.op rfl rfl (O.call (xs := [.tmp 63]) Tryd.call89 rfl rfl (One_calls _ w17 (by simp only; omega) (by simp only; omega)) (fun v18 w18 hq => ?_))))))))))))))))))
            obtain ⟨rfl, rfl⟩ := hq
            refine L.op rfl rfl (O.or_u64 rfl rfl hy64 (bit64_lt _) rfl rfl (L.op rfl rfl (O.move rfl (L.op rfl rfl (O.call (xs := [.tmp 66]) Tryd.call89 rfl rfl (One_calls _ w18 (by simp only; omega) (by simp only; omega)) (fun v19 w19 hq => ?_))))))
            obtain ⟨rfl, rfl⟩ := hq
            refine L.op rfl rfl (O.or_u64 rfl rfl (or_lt hy64 (bit64_lt _)) (bit64_lt _) rfl rfl (?_))
            have hyy : ∀ b, (y ||| bit64 (eA es i) ||| bit64 (eB es i)).testBit b = (y.testBit b || decide (eA es i = b) || decide (eB es i = b)) := fun b => by rw [Nat.testBit_or, Nat.testBit_or, testBit_bit64 _ _ (by simp only [eA]; omega), testBit_bit64 _ _ (by simp only [eB]; omega)]
            refine L.op rfl rfl (O.assign rfl (L.nil (T.blk (T.region (L.op rfl rfl (O.move rfl (L.op rfl rfl (O.add64 rfl rfl (by omega) (L.op rfl rfl (O.assign rfl (L.nil (T.again ((i + 1, y ||| bit64 (eA es i) ||| bit64 (eB es i))) (by omega) ⟨rfl, rfl, rfl, rfl, rfl, rfl, rfl, trivial⟩ ⟨hil', he4.trans he14, or_lt (or_lt hy64 (bit64_lt _)) (bit64_lt _), hLy.add hil' ha hb (.inl hya) hyy, hSy.add hyy⟩))))))))))))
    · refine L.nil (?_)
      obtain rfl : i = es.length := by simp only at hil; omega
      refine T.cond_false rfl (T.exit rfl (T.blk (T.region (L.op rfl rfl (O.add64 rfl rfl (by omega) (L.op rfl rfl (O.move rfl (L.nil (T.again ((r + 1, y)) (by omega) ⟨rfl, rfl, rfl, rfl, rfl, rfl, trivial⟩ ⟨hlt', he4, hy64, hLy, hS.next hL hLy hSy⟩)))))))))
  · refine L.nil (?_)
    obtain rfl : r = es.length := by simp only at hlt; omega
    refine T.seq (T.cond_false rfl (T.exit rfl (T.seq (T.region (L.op rfl rfl (O.move rfl (L.op rfl rfl (O.assign rfl (L.nil (T.ret1 Tryd.results88 rfl ⟨he1.trans he3, x, rfl, hx64, hL, hS.done⟩))))))))))

end Go.Proofs.YthjdljbghjelfaaDoor
set_option linter.unusedVariables false
set_option linter.unusedSimpArgs false
set_option maxRecDepth 20000
namespace Go.Proofs.YthjdljbghjelfaaDoor
open Go Go.E
attribute [local irreducible] Go.E.T Go.E.L Go.E.O Go.E.Ob

noncomputable def connB (es : List (Int × Int)) (m : Nat) : Bool := @decide (Conn es m) (Classical.propDecidable _)
theorem connB_of {es : List (Int × Int)} {m : Nat} {c : Bool} (h : c = true ↔ Conn es m) : c = connB es m := by
  unfold connB
  cases c
  · have hn : ¬ Conn es m := fun hc => by have := h.2 hc; cases this
    exact (@decide_eq_false _ (Classical.propDecidable _) hn).symm
  · exact (@decide_eq_true _ (Classical.propDecidable _) (h.1 rfl)).symm
theorem connB_dec {es : List (Int × Int)} {m : Nat} {q : Prop} {dq : Decidable q} (h : q ↔ Conn es m) : decide q = connB es m := connB_of (by simpa using h)
theorem connB_zero (es : List (Int × Int)) : connB es 0 = false := (connB_of (c := false) ⟨fun h => (by cases h), fun h => absurd rfl h.1⟩).symm
/-- What is left of a set. -/
def left (m done : Nat) : Nat := m &&& (18446744073709551615 - done)
theorem graphErr_of {N : Int} {es : List (Int × Int)} {m : Nat} (h : setErr N es m = 0) : graphErr N es = 0 ∧ m < 2 ^ N.toNat := by
  unfold setErr at h
  split at h
  · rename_i h1
    split at h
    · rename_i h2; exact ⟨h1, h2⟩
    · cases h
  · exact ⟨h, by rename_i h1; exact absurd h h1⟩
theorem Parts_calls (lo n : Nat) (p : Value) (es : List (Int × Int)) (m : Nat) (w : World) (hp : Pairs lo w p es) (hg : Good n es) (hm : m < 2 ^ n) :
    Calls Tryd.prog 83 #[gV n p, .int .u64 m] w (Ret fun v w' => Ext w w' ∧ ∃ k xs, Sl w.heap.size w' v k 1 xs ∧ (k = 1 ↔ Conn es m)) := by
  have hg1 := hg.1
  have hg2 := hg.2.1
  have hn64 : n ≤ 64 := by omega
  have hm64 : m < 18446744073709551616 := Nat.lt_of_lt_of_le hm (pow_le64 hn64)
  refine T.enter (vs := [gV n p, .int .u64 m]) Tryd.func83 rfl Tryd.ntmps83 rfl ?_
  refine T.seq (T.region (L.op rfl rfl (O.box rfl (fun b1 w1 hb1 hz1 he1 hB1 => ?_))))
  have hp1 := hp.keep (he1.mono (Nat.zero_le lo))
  refine L.op rfl rfl (O.assign rfl (L.nil (T.seq (T.region (L.op rfl rfl (O.assign rfl (L.nil (T.seq (T.region (L.op rfl rfl (O.assign rfl (L.nil (T.seq (T.seq (T.region (L.op rfl rfl (O.assign rfl (L.nil (T.block (?_))))))))))))))))))))
  refine T.loop (σ := Nat × Nat × Value × Nat × List Value) (fun s => [(1, .int .u64 m), (2, .pointer (some ⟨b1, 0, none⟩)), (5, s.2.2.1), (6, .int .u64 s.2.1), (7, .int .i64 s.1)]) (fun s w' => s.1 ≤ n ∧ Ext w1 w' ∧ w'.ownsRow w1.heap.size 46 1 s.2.2.1 s.2.2.2.1 s.2.2.2.2 ∧ s.2.1 < 18446744073709551616 ∧ s.2.2.2.1 ≤ s.1 ∧ (∀ i, m.testBit i = true → i < s.1 → s.2.1.testBit i = true) ∧ Found es m (left m s.2.1) s.2.2.2.1) (fun s => n - s.1) ((0, 0, .slice none 0 0, 0, [])) ⟨rfl, rfl, rfl, rfl, rfl, trivial⟩ ⟨Nat.zero_le _, Keep.refl _ _, owns_nil _ _ _ _, by decide, Nat.zero_le _, fun i _ h => absurd h (Nat.not_lt_zero _), ?_⟩ ?_
  · have e : left m 0 = m := Nat.eq_of_testBit_eq fun i => by rw [left, andNot_bit hm64 (by decide)]; simp
    show Found es m (left m 0) 0
    rw [e]; exact Found.start es m
  rintro ⟨i, done, out, k, xs⟩ w2 ⟨hi, he2, hO2, hd2, hk2, hl2, hF2⟩
  simp only at hi he2 hO2 hd2 hk2 hl2 hF2
  have hB2 := hB1.keep he2 (Nat.zero_le _)
  have hp2 := hp1.keep (he2.mono (Nat.zero_le lo))
  refine T.seq (T.seq (T.region (L.op rfl rfl (O.move rfl (L.op rfl rfl (O.fieldAddr Tryd.runUnderlying33 rfl Tryd.sizeOf3 rfl (L.op rfl rfl (O.load Tryd.isAgg3 rfl (Blk.at hB2 rfl) (L.op rfl rfl (O.lss_s rfl rfl (fun hlt => ?_) (fun hlt => ?_)))))))))))
  · refine L.nil (?_)
    have hlt' : i < n := by simp only at hlt; omega
    refine T.cond_true rfl (T.skip (T.seq (T.block (T.seq (T.region (L.op rfl rfl (O.move rfl (L.op rfl rfl (O.move rfl (L.op rfl rfl (O.call (xs := [.tmp 15, .tmp 16]) Tryd.call87 rfl rfl (Has_calls m i w2 hm64 (by omega) (by omega)) (fun v3 w3 hq => ?_))))))))))))
    obtain ⟨rfl, rfl⟩ := hq
    cases hmi : m.testBit (i : Int).toNat
    · rw [Int.toNat_natCast] at hmi
      refine L.op rfl rfl (O.move rfl (L.pass rfl rfl (L.pass rfl rfl (L.pass rfl rfl (L.pass rfl rfl (L.op rfl rfl (O.pick_false rfl rfl (L.nil (T.cond_false rfl (T.skip (T.blk (T.region (L.op rfl rfl (O.move rfl (L.op rfl rfl (O.add64 rfl rfl (by omega) (L.op rfl rfl (O.assign rfl (L.nil (T.again ((i + 1, done, out, k, xs)) (by omega) ⟨rfl, rfl, rfl, rfl, rfl, trivial⟩ ⟨hlt', he2, hO2, hd2, Nat.le_succ_of_le hk2, fun j hj hlt2 => ?_, hF2⟩))))))))))))))))))))
      · have hne : j ≠ i := fun e => by subst e; rw [hmi] at hj; cases hj
        have hlt3 : j < i + 1 := hlt2
        exact hl2 j hj (by omega)
    · rw [Int.toNat_natCast] at hmi
      refine L.op rfl rfl (O.move rfl (L.op rfl rfl (O.move rfl (L.op rfl rfl (O.move rfl (L.op rfl rfl (O.call (xs := [.tmp 19, .tmp 20]) Tryd.call87 rfl rfl (Has_calls done i w3 hd2 (by omega) (by omega)) (fun v4 w4 hq => ?_))))))))
      obtain ⟨rfl, rfl⟩ := hq
      cases hdi : done.testBit (i : Int).toNat
      · rw [Int.toNat_natCast] at hdi
        refine L.op rfl rfl (O.not rfl (L.op rfl rfl (O.pick_true rfl rfl (L.nil (T.cond_true rfl (T.seq (T.region (L.op rfl rfl (O.loadAgg Tryd.isAgg33 Tryd.sizeOf33 rfl rfl (hB2.row) (L.op rfl rfl (O.move rfl (L.op rfl rfl (O.move rfl (L.op rfl rfl (O.call (xs := [.tmp 24, .tmp 25, .tmp 26, .const (.int .i64 (-1))]) Tryd.call88 rfl rfl (Reach_calls lo n p es m i w4 hp2 hg hm64 hmi) (fun v5 w5 hq => ?_))))))))))))))))
        obtain ⟨he5, x, rfl, hx5, hL5, hC5⟩ := hq
        refine L.op rfl rfl (O.assign rfl (L.nil (T.seq (T.region (L.op rfl rfl (O.move rfl (L.op rfl rfl (O.move rfl (L.op rfl rfl (O.buildSlice (el := 46) (parts := [(0, .tmp 29)]) (vs := [(0, _)]) (cs := [.int .u64 x]) rfl (fun w => by kernel_rfl) (fun b6 w6 hb6 hz6 he6 hB6 => ?_)))))))))))
        refine L.op rfl rfl (O.append (size := 1) (bytes := 8) Tryd.runUnderlying38 Tryd.infoOf46 rfl rfl rfl rfl (by decide) rfl rfl (owns_keep (owns_keep hO2 he5 (Nat.zero_le _)) he6 (Nat.zero_le _)) (Sl.of_blk (lo := 0) hB6 rfl (Nat.le_refl _) (by decide) (Nat.zero_le _)) (by intro c hc; simp at hc; simp [hc, Value.oneCell']) (by omega) (by simp only [maxLen]; omega) (Nat.le_trans (he2.trans he5).size he6.size) (fun v7 w7 hO7 hG7 => ?_))
        refine L.op rfl rfl (O.assign rfl (L.nil (T.region (L.op rfl rfl (O.move rfl (L.op rfl rfl (O.move rfl (L.op rfl rfl (O.or_u64 rfl rfl hd2 hx5 rfl rfl (L.op rfl rfl (O.assign rfl (L.nil (T.blk (T.region (L.op rfl rfl (O.move rfl (L.op rfl rfl (O.add64 rfl rfl (by omega) (L.op rfl rfl (O.assign rfl (L.nil (T.again ((i + 1, done ||| x, v7, k + 1, xs ++ [.int .u64 x])) (by omega) ⟨rfl, rfl, rfl, rfl, rfl, trivial⟩ ⟨hlt', ((he2.trans he5).trans he6).grown0 hO2 hG7 (Nat.le_refl _), hO7, or_lt hd2 hx5, Nat.succ_le_succ hk2, fun j hj hlt2 => ?_, ?_⟩))))))))))))))))))))))
        · show (done ||| x).testBit j = true
          rw [Nat.testBit_or]
          by_cases hne : j = i
          · subst hne; rw [hL5.has]; simp
          · have hlt3 : j < i + 1 := hlt2
            rw [hl2 j hj (by omega)]; rfl
        · refine hF2.next (t := i) (p := x) ?_ hL5 hC5 fun j => ?_
          · intro e
            have h1 := andNot_bit hm64 hd2 i
            rw [← left, e, hmi, hdi] at h1; simp at h1
          · show (left m (done ||| x)).testBit j = _
            rw [left, left, andNot_bit hm64 (or_lt hd2 hx5), andNot_bit hm64 hd2, Nat.testBit_or]
            cases m.testBit j <;> cases done.testBit j <;> rfl
      · rw [Int.toNat_natCast] at hdi
        refine L.op rfl rfl (O.not rfl (L.op rfl rfl (O.pick_true rfl rfl (L.nil (T.cond_false rfl (T.skip (T.blk (T.region (L.op rfl rfl (O.move rfl (L.op rfl rfl (O.add64 rfl rfl (by omega) (L.op rfl rfl (O.assign rfl (L.nil (T.again ((i + 1, done, out, k, xs)) (by omega) ⟨rfl, rfl, rfl, rfl, rfl, trivial⟩ ⟨hlt', he2, hO2, hd2, Nat.le_succ_of_le hk2, fun j hj hlt2 => ?_, hF2⟩))))))))))))))))
        · by_cases hne : j = i
          · subst hne; exact hdi
          · have hlt3 : j < i + 1 := hlt2
            exact hl2 j hj (by omega)
  · refine L.nil (?_)
    obtain rfl : i = n := by simp only at hlt; omega
    have e0 : left m done = 0 := Nat.eq_of_testBit_eq fun j => by
      rw [left, andNot_bit hm64 hd2]
      cases hj : m.testBit j
      · simp
      · rw [hl2 j hj (lt_of_bit hm hj)]; simp
    rw [e0] at hF2
    refine T.cond_false rfl (T.exit rfl (T.seq (T.region (L.op rfl rfl (O.move rfl (L.op rfl rfl (O.assign rfl (L.nil (T.ret1 Tryd.results83 rfl ⟨he1.trans he2, k, xs, (Sl.of_owns hO2).mono he1.size, hF2.done hm64⟩)))))))))

theorem Joined_calls (lo n : Nat) (p : Value) (es : List (Int × Int)) (m : Nat) (w : World) (hp : Pairs lo w p es) (hg : Good n es) (hm : m < 2 ^ n) :
    Calls Tryd.prog 77 #[gV n p, .int .u64 m] w (Ret fun v w' => Ext w w' ∧ v = .bool (connB es m)) := by
  refine T.enter (vs := [gV n p, .int .u64 m]) Tryd.func77 rfl Tryd.ntmps77 rfl ?_
  refine T.seq (T.region (L.op rfl rfl (O.box rfl (fun b1 w1 hb1 hz1 he1 hB1 => ?_))))
  refine L.op rfl rfl (O.assign rfl (L.nil (T.seq (T.region (L.op rfl rfl (O.loadAgg Tryd.isAgg33 Tryd.sizeOf33 rfl rfl hB1.row (L.op rfl rfl (O.move rfl (L.op rfl rfl (O.call (xs := [.tmp 5, .tmp 6]) Tryd.call83 rfl rfl (Parts_calls lo n p es m w1 (hp.keep (he1.mono (Nat.zero_le lo))) hg hm) (fun v2 w2 hq => ?_)))))))))))
  obtain ⟨he2, k, xs, hS2, hk2⟩ := hq
  refine L.op rfl rfl (O.len Tryd.runUnderlying38 rfl (Sl.val hS2) (L.op rfl rfl (O.eql rfl rfl (L.op rfl rfl (O.assign rfl (L.nil (T.ret1 Tryd.results77 rfl ⟨he1.trans he2, by rw [← connB_dec (q := (k : Int) = 1) (by rw [← hk2]; omega)]⟩)))))))

theorem RConn_calls (lo : Nat) (N : Int) (p : Value) (es : List (Int × Int)) (m : Nat) (w : World) (hp : Pairs lo w p es) (hm : m < 18446744073709551616) :
    Calls Tryd.prog 70 #[gV N p, .int .u64 m] w (Ret fun v w' => Ext w w' ∧ ∃ c, v = .tuple #[.bool c, .int .i64 (setErr N es m)] ∧ (setErr N es m ≠ 0 → c = false) ∧ (setErr N es m = 0 → c = connB es m)) := by
  refine T.enter (vs := [gV N p, .int .u64 m]) Tryd.func70 rfl Tryd.ntmps70 rfl ?_
  refine T.seq (T.region (L.op rfl rfl (O.box rfl (fun b1 w1 hb1 hz1 he1 hB1 => ?_))))
  refine L.op rfl rfl (O.assign rfl (L.op rfl rfl (O.assign rfl (L.nil (T.seq (T.seq (T.region (L.op rfl rfl (O.loadAgg Tryd.isAgg33 Tryd.sizeOf33 rfl rfl hB1.row (?_))))))))))
  have hp1 := hp.keep (he1.mono (Nat.zero_le lo))
  refine L.op rfl rfl (O.move rfl (L.op rfl rfl (O.call (xs := [.tmp 7, .tmp 8]) Tryd.call76 rfl rfl (Fitted_calls lo N p es m w1 hp1 hm) (fun v2 w2 hq => ?_))))
  obtain ⟨rfl, he2⟩ := hq
  refine L.op rfl rfl (O.assign rfl (L.nil (T.seq (T.region (L.op rfl rfl (O.move rfl (L.op rfl rfl (O.neq_s rfl rfl (fun hne => ?_) (fun hne => ?_)))))))))
  · refine L.nil (T.cond_true rfl (T.seq (T.region (L.op rfl rfl (O.move rfl (L.op rfl rfl (O.assign rfl (L.op rfl rfl (O.assign rfl (L.nil (T.ret2 Tryd.results70 rfl rfl ⟨he1.trans he2, _, rfl, fun _ => rfl, fun h => absurd h hne⟩)))))))))))
  · refine L.nil (?_)
    have hge := graphErr_of hne
    have hN := (graphErr_ok hge.1).1
    obtain ⟨n, rfl⟩ : ∃ n : Nat, N = n := ⟨N.toNat, by omega⟩
    refine T.cond_false rfl (T.skip (T.seq (T.region (L.op rfl rfl (O.loadAgg Tryd.isAgg33 Tryd.sizeOf33 rfl rfl ((hB1.keep he2 (Nat.zero_le _)).row) (L.op rfl rfl (O.move rfl (L.op rfl rfl (O.call (xs := [.tmp 13, .tmp 14]) Tryd.call77 rfl rfl (Joined_calls lo n p es m w2 (hp1.keep (he2.mono (Nat.zero_le lo))) (Good.of hge.1) (by simpa using hge.2)) (fun v3 w3 hq => ?_))))))))))
    obtain ⟨he3, rfl⟩ := hq
    refine L.op rfl rfl (O.assign rfl (L.op rfl rfl (O.assign rfl (L.nil (T.ret2 Tryd.results70 rfl rfl ⟨(he1.trans he2).trans he3, _, by rw [hne], fun h => absurd hne h, fun _ => rfl⟩)))))

end Go.Proofs.YthjdljbghjelfaaDoor
set_option linter.unusedVariables false
set_option linter.unusedSimpArgs false
set_option maxRecDepth 20000
namespace Go.Proofs.YthjdljbghjelfaaDoor
open Go Go.E
attribute [local irreducible] Go.E.T Go.E.L Go.E.O Go.E.Ob

theorem setErr_fits {N : Int} {es : List (Int × Int)} {m : Nat} (h : graphErr N es = 0) (hm : m < 2 ^ N.toNat) : setErr N es m = 0 := setErr_ok h hm
theorem lt64_of {N : Int} {es : List (Int × Int)} {m : Nat} (h : graphErr N es = 0) (hm : m < 2 ^ N.toNat) : m < 18446744073709551616 := Nat.lt_of_lt_of_le hm (pow_le64 (by have := (graphErr_ok h).2.1; omega))
/-- What is wrong with a plan. -/
def planErr (N : Int) (es : List (Int × Int)) (xs : List Int) (k : Int) : Int :=
  if graphErr N es ≠ 0 then graphErr N es else if 1 ≤ k ∧ k ≤ 8 then (if (xs.length : Int) = N ∧ labelsOk xs k = true ∧ allUsed xs k.toNat = true then 0 else 210) else 2
theorem planErr_graph {N : Int} {es : List (Int × Int)} {xs : List Int} {k : Int} (h : graphErr N es ≠ 0) : planErr N es xs k = graphErr N es := by rw [planErr, if_pos h]
theorem planErr_arg {N : Int} {es : List (Int × Int)} {xs : List Int} {k : Int} (h : graphErr N es = 0) (hk : ¬ (1 ≤ k ∧ k ≤ 8)) : planErr N es xs k = 2 := by rw [planErr, if_neg (by simpa using h), if_neg hk]
theorem planErr_bad {N : Int} {es : List (Int × Int)} {xs : List Int} {k : Int} (h : graphErr N es = 0) (hk : 1 ≤ k ∧ k ≤ 8) (hn : ¬ ((xs.length : Int) = N ∧ labelsOk xs k = true ∧ allUsed xs k.toNat = true)) : planErr N es xs k = 210 := by rw [planErr, if_neg (by simpa using h), if_pos hk, if_neg hn]
theorem planErr_ok {N : Int} {es : List (Int × Int)} {xs : List Int} {k : Int} (h : graphErr N es = 0) (hk : 1 ≤ k ∧ k ≤ 8) (hn : (xs.length : Int) = N ∧ labelsOk xs k = true ∧ allUsed xs k.toNat = true) : planErr N es xs k = 0 := by rw [planErr, if_neg (by simpa using h), if_pos hk, if_pos hn]
structure PlanOk (N : Int) (es : List (Int × Int)) (xs : List Int) (k : Int) : Prop where
  graph : graphErr N es = 0
  one : 1 ≤ k
  eight : k ≤ 8
  len : (xs.length : Int) = N
  labels : labelsOk xs k = true
  used : allUsed xs k.toNat = true
theorem planOk_of {N : Int} {es : List (Int × Int)} {xs : List Int} {k : Int} (h : planErr N es xs k = 0) : PlanOk N es xs k := by
  unfold planErr at h
  split at h
  · rename_i h1; exact absurd h h1
  · rename_i h1
    split at h
    · rename_i h2
      split at h
      · rename_i h3; exact ⟨by simpa using h1, h2.1, h2.2, h3.1, h3.2.1, h3.2.2⟩
      · cases h
    · cases h
theorem maskTo_small (xs : List Int) (d : Int) : ∀ i, i ≤ 64 → maskTo xs d i < 2 ^ i
  | 0, _ => by simp [maskTo]
  | i + 1, h => by
    have ih := maskTo_small xs d i (by omega)
    have h2 : 2 ^ i < 2 ^ (i + 1) := Nat.pow_lt_pow_right (by decide) (by omega)
    simp only [maskTo]
    split
    · refine Nat.or_lt_two_pow (by omega) ?_
      unfold bit64
      exact Nat.lt_of_le_of_lt (Nat.mod_le _ _) h2
    · omega
theorem mask_small {xs : List Int} (h : xs.length ≤ 64) (d : Int) : mask xs d < 2 ^ xs.length := maskTo_small xs d _ h
/-- The plan's districts are connected. -/
noncomputable def contig (es : List (Int × Int)) (xs : List Int) (k : Int) : Bool := (masksOf xs k.toNat).all (connB es)
noncomputable def contigB (N : Int) (es : List (Int × Int)) (xs : List Int) (k : Int) : Bool := decide (planErr N es xs k = 0) && contig es xs k
theorem masks_len (xs : List Int) (k : Nat) : (masksOf xs k).length = k := by simp [masksOf]
theorem whole_calls (b lo : Nat) (N : Int) (pe pp pm : Value) (es : List (Int × Int)) (m : Nat) (w : World) (hB : Blk w b [.int .i64 N, pe, pp, pm] 91) (hp : Pairs lo w pe es) (hg : graphErr N es = 0) (hm : m < 2 ^ N.toNat) (hT : Tab w) :
    Calls Tryd.prog 50 #[.pointer (some ⟨b, 0, none⟩), .int .u64 m] w (Ret fun v w' => Ext w w' ∧ v = .bool (connB es m)) := by
  have hm64 := lt64_of hg hm
  refine T.enter (vs := [.pointer (some ⟨b, 0, none⟩), .int .u64 m]) Tryd.func50 rfl Tryd.ntmps50 rfl ?_
  refine T.seq (T.region (L.op rfl rfl (O.assign rfl (L.nil (T.seq (T.seq (T.region (L.op rfl rfl (O.move rfl (L.op rfl rfl (O.eql_s rfl rfl (fun hz => ?_) (fun hz => ?_))))))))))))
  · refine L.nil (?_)
    obtain rfl : m = 0 := by omega
    refine T.cond_true rfl (T.seq (T.region (L.op rfl rfl (O.assign rfl (L.nil (T.ret1 Tryd.results50 rfl ⟨Keep.refl _ _, by rw [connB_zero]⟩))))))
  · refine L.nil (T.cond_false rfl (T.skip (T.seq (T.region (L.op rfl rfl (O.move rfl (L.op rfl rfl (O.nilCheck rfl (L.op rfl rfl (O.fieldAddr Tryd.runUnderlying91 rfl Tryd.sizeOf33 rfl (L.op rfl rfl (O.loadAgg Tryd.isAgg33 Tryd.sizeOf33 rfl rfl (hB.row.take 2) (L.op rfl rfl (O.move rfl (L.op rfl rfl (O.call (xs := [.tmp 13, .tmp 14]) Tryd.call69 rfl rfl (gConn_calls lo N pe es m w hp hm64 hT) (fun v2 w2 hq => ?_)))))))))))))))))
    obtain ⟨he2, c, rfl, hc1, hc2⟩ := hq
    have hse := setErr_fits hg hm
    obtain rfl := connB_of (hc2 hse)
    cases hcc : connB es m
    · refine L.op rfl rfl (O.move rfl (L.op rfl rfl (O.extract rfl rfl (L.op rfl rfl (O.extract rfl rfl (L.op rfl rfl (O.assign rfl (L.op rfl rfl (O.assign rfl (L.nil (T.seq (T.region (L.op rfl rfl (O.move rfl (L.op rfl rfl (O.move rfl (L.pass rfl rfl (L.pass rfl rfl (L.op rfl rfl (O.pick_false rfl rfl (L.op rfl rfl (O.assign rfl (L.nil (T.ret1 Tryd.results50 rfl ⟨he2, rfl⟩))))))))))))))))))))))))
    · refine L.op rfl rfl (O.move rfl (L.op rfl rfl (O.extract rfl rfl (L.op rfl rfl (O.extract rfl rfl (L.op rfl rfl (O.assign rfl (L.op rfl rfl (O.assign rfl (L.nil (T.seq (T.region (L.op rfl rfl (O.move rfl (L.op rfl rfl (O.move rfl (L.op rfl rfl (O.move rfl (L.op rfl rfl (O.eql_t rfl rfl hse (L.op rfl rfl (O.pick_true rfl rfl (L.op rfl rfl (O.assign rfl (L.nil (T.ret1 Tryd.results50 rfl ⟨he2, rfl⟩))))))))))))))))))))))))))

theorem Rconnected_calls (lo : Nat) (N : Int) (p : Value) (es : List (Int × Int)) (m : Nat) (w : World) (hp : Pairs lo w p es) (hg : graphErr N es = 0) (hm : m < 2 ^ N.toNat) :
    Calls Tryd.prog 51 #[gV N p, .int .u64 m] w (Ret fun v w' => Ext w w' ∧ v = .bool (connB es m)) := by
  have hm64 := lt64_of hg hm
  refine T.enter (vs := [gV N p, .int .u64 m]) Tryd.func51 rfl Tryd.ntmps51 rfl ?_
  refine T.seq (T.region (L.op rfl rfl (O.box rfl (fun b1 w1 hb1 hz1 he1 hB1 => ?_))))
  refine L.op rfl rfl (O.assign rfl (L.nil (T.seq (T.region (L.op rfl rfl (O.loadAgg Tryd.isAgg33 Tryd.sizeOf33 rfl rfl hB1.row (L.op rfl rfl (O.move rfl (L.op rfl rfl (O.call (xs := [.tmp 8, .tmp 9]) Tryd.call70 rfl rfl (RConn_calls lo N p es m w1 (hp.keep (he1.mono (Nat.zero_le lo))) hm64) (fun v2 w2 hq => ?_)))))))))))
  obtain ⟨he2, c, rfl, hc1, hc2⟩ := hq
  have hse := setErr_fits hg hm
  obtain rfl := (hc2 hse)
  cases hcc : connB es m
  · refine L.op rfl rfl (O.move rfl (L.op rfl rfl (O.extract rfl rfl (L.op rfl rfl (O.extract rfl rfl (L.op rfl rfl (O.assign rfl (L.op rfl rfl (O.assign rfl (L.nil (T.seq (T.region (L.op rfl rfl (O.move rfl (L.op rfl rfl (O.move rfl (L.pass rfl rfl (L.pass rfl rfl (L.op rfl rfl (O.pick_false rfl rfl (L.op rfl rfl (O.assign rfl (L.nil (T.ret1 Tryd.results51 rfl ⟨he1.trans he2, rfl⟩))))))))))))))))))))))))
  · refine L.op rfl rfl (O.move rfl (L.op rfl rfl (O.extract rfl rfl (L.op rfl rfl (O.extract rfl rfl (L.op rfl rfl (O.assign rfl (L.op rfl rfl (O.assign rfl (L.nil (T.seq (T.region (L.op rfl rfl (O.move rfl (L.op rfl rfl (O.move rfl (L.op rfl rfl (O.move rfl (L.op rfl rfl (O.eql_t rfl rfl hse (L.op rfl rfl (O.pick_true rfl rfl (L.op rfl rfl (O.assign rfl (L.nil (T.ret1 Tryd.results51 rfl ⟨he1.trans he2, rfl⟩))))))))))))))))))))))))))

/-- What 'drawn' hands back. -/
def DrawnPost (N : Int) (pe pp : Value) (es : List (Int × Int)) (xs : List Int) (k : Int) (w : World) (v : Value) (w' : World) : Prop :=
  Ext w w' ∧ ((planErr N es xs k ≠ 0 ∧ v = .tuple #[.pointer none, .int .i64 (planErr N es xs k)]) ∨ (planErr N es xs k = 0 ∧ ∃ b pm, v = .tuple #[.pointer (some ⟨b, 0, none⟩), .int .i64 0] ∧ w.heap.size ≤ b ∧ Blk w' b [.int .i64 N, pe, pp, pm] 91 ∧ Words w.heap.size w' pm (masksOf xs k.toNat)))
theorem DrawnPost.bad {N : Int} {pe pp : Value} {es : List (Int × Int)} {xs : List Int} {k : Int} {w w' : World} {v : Value} {e : Int} (he : Ext w w') (hE : planErr N es xs k = e) (h0 : e ≠ 0) (hv : v = .tuple #[.pointer none, .int .i64 e]) : DrawnPost N pe pp es xs k w v w' :=
  ⟨he, .inl ⟨by rw [hE]; exact h0, by rw [hE]; exact hv⟩⟩
theorem drawn_calls (lo lo' : Nat) (N k : Int) (pe pp : Value) (es : List (Int × Int)) (xs : List Int) (w : World) (hp : Pairs lo w pe es) (hx : Ints .i64 lo' w pp xs) :
    Calls Tryd.prog 49 #[gV N pe, pp, .int .i64 k] w (Ret fun v w' => DrawnPost N pe pp es xs k w v w') := by
  refine T.enter (vs := [gV N pe, pp, .int .i64 k]) Tryd.func49 rfl Tryd.ntmps49 rfl ?_
  refine T.seq (T.region (L.op rfl rfl (O.box rfl (fun b1 w1 hb1 hz1 he1 hB1 => ?_))))
  refine L.op rfl rfl (O.assign rfl (L.op rfl rfl (O.assign rfl (L.nil (T.seq (T.seq (T.region (L.op rfl rfl (O.loadAgg Tryd.isAgg33 Tryd.sizeOf33 rfl rfl hB1.row (L.op rfl rfl (O.call (xs := [.tmp 11]) Tryd.call68 rfl rfl (gCheck_calls lo N pe es w1 (hp.keep (he1.mono (Nat.zero_le lo)))) (fun v2 w2 hq => ?_))))))))))))
  obtain ⟨rfl, he2⟩ := hq
  have he02 := he1.trans he2
  have hx2 := hx.keep (he02.mono (Nat.zero_le lo'))
  have hB2 := hB1.keep he2 (Nat.zero_le _)
  refine L.op rfl rfl (O.assign rfl (L.nil (T.seq (T.region (L.op rfl rfl (O.move rfl (L.op rfl rfl (O.neq_s rfl rfl (fun hge => ?_) (fun hge => ?_)))))))))
  · refine L.nil (T.cond_true rfl (T.seq (T.region (L.op rfl rfl (O.move rfl (L.op rfl rfl (O.assign rfl (L.op rfl rfl (O.assign rfl (L.nil (T.ret2 Tryd.results49 rfl rfl (DrawnPost.bad he02 (planErr_graph hge) hge rfl))))))))))))
  · refine L.nil (T.cond_false rfl (T.skip (T.seq (T.seq (T.region (L.op rfl rfl (O.move rfl (L.op rfl rfl (O.lss_s rfl rfl (fun h1 => ?_) (fun h1 => ?_))))))))))
    · refine L.op rfl rfl (O.move rfl (L.pass rfl rfl (L.pass rfl rfl (L.op rfl rfl (O.pick_true rfl rfl (L.nil (T.cond_true rfl (T.seq (T.region (L.op rfl rfl (O.assign rfl (L.op rfl rfl (O.assign rfl (L.nil (T.ret2 Tryd.results49 rfl rfl (DrawnPost.bad he02 (planErr_arg hge (by omega)) (by decide) rfl))))))))))))))))
    · refine L.op rfl rfl (O.move rfl (L.op rfl rfl (O.move rfl (L.op rfl rfl (O.gtr_s rfl rfl (fun h8 => ?_) (fun h8 => ?_))))))
      · refine L.op rfl rfl (O.pick_false rfl rfl (L.nil (T.cond_true rfl (T.seq (T.region (L.op rfl rfl (O.assign rfl (L.op rfl rfl (O.assign rfl (L.nil (T.ret2 Tryd.results49 rfl rfl (DrawnPost.bad he02 (planErr_arg hge (by omega)) (by decide) rfl))))))))))))
      · have hk18 : 1 ≤ k ∧ k ≤ 8 := by omega
        refine L.op rfl rfl (O.pick_false rfl rfl (L.nil (T.cond_false rfl (T.skip (T.seq (T.seq (T.region (L.op rfl rfl (O.move rfl (L.op rfl rfl (O.len Tryd.runUnderlying35 rfl (Sl.val hx2) (L.op rfl rfl (O.fieldAddr Tryd.runUnderlying33 rfl Tryd.sizeOf3 rfl (L.op rfl rfl (O.load Tryd.isAgg3 rfl (Blk.at hB2 rfl) (L.op rfl rfl (O.neq_s rfl rfl (fun hlen => ?_) (fun hlen => ?_))))))))))))))))))
        · refine L.op rfl rfl (O.move rfl (L.pass rfl rfl (L.pass rfl rfl (L.pass rfl rfl (L.pass rfl rfl (L.op rfl rfl (O.pick_true rfl rfl (L.nil (T.cond_true rfl (T.seq (T.region (L.op rfl rfl (O.assign rfl (L.op rfl rfl (O.assign rfl (L.nil (T.ret2 Tryd.results49 rfl rfl (DrawnPost.bad he02 (planErr_bad hge hk18 (fun h => hlen h.1)) (by decide) rfl))))))))))))))))))
        · refine L.op rfl rfl (O.move rfl (L.op rfl rfl (O.move rfl (L.op rfl rfl (O.move rfl (L.op rfl rfl (O.call (xs := [.tmp 28, .tmp 29]) Tryd.call44 rfl rfl (labels_calls lo' pp xs k w2 hx2) (fun v3 w3 hq => ?_))))))))
          obtain ⟨rfl, rfl⟩ := hq
          cases hl : labelsOk xs k
          · refine L.op rfl rfl (O.not rfl (L.op rfl rfl (O.pick_false rfl rfl (L.nil (T.cond_true rfl (T.seq (T.region (L.op rfl rfl (O.assign rfl (L.op rfl rfl (O.assign rfl (L.nil (T.ret2 Tryd.results49 rfl rfl (DrawnPost.bad he02 (planErr_bad hge hk18 (fun h => by rw [hl] at h; cases h.2.1)) (by decide) rfl))))))))))))))
          · obtain ⟨kk, rfl⟩ : ∃ kk : Nat, k = (kk : Int) := ⟨k.toNat, by omega⟩
            have hm := labels_mem hl
            refine L.op rfl rfl (O.not rfl (L.op rfl rfl (O.pick_false rfl rfl (L.nil (T.cond_false rfl (T.skip (T.seq (T.region (L.op rfl rfl (O.move rfl (L.op rfl rfl (O.move rfl (L.op rfl rfl (O.call (xs := [.tmp 34, .tmp 35]) Tryd.call45 rfl rfl (parts_calls lo' pp xs kk w3 hx2 (by omega) hm.2.1 hm.2.2) (fun v4 w4 hq => ?_)))))))))))))))
            obtain ⟨he4, hq4⟩ := hq
            rcases hq4 with ⟨ha, rfl⟩ | ⟨ha, l, rfl, hW⟩
            · refine L.op rfl rfl (O.move rfl (L.op rfl rfl (O.extract rfl rfl (L.op rfl rfl (O.extract rfl rfl (L.op rfl rfl (O.assign rfl (L.op rfl rfl (O.assign rfl (L.nil (T.seq (T.seq (T.region (L.op rfl rfl (O.move rfl (L.op rfl rfl (O.not rfl (L.nil (T.cond_true rfl (T.seq (T.region (L.op rfl rfl (O.assign rfl (L.op rfl rfl (O.assign rfl (L.nil (T.ret2 Tryd.results49 rfl rfl (DrawnPost.bad (he02.trans he4) (planErr_bad hge hk18 (fun h => by rw [Int.toNat_natCast, ha] at h; cases h.2.2)) (by decide) rfl))))))))))))))))))))))))))))
            · refine L.op rfl rfl (O.move rfl (L.op rfl rfl (O.extract rfl rfl (L.op rfl rfl (O.extract rfl rfl (L.op rfl rfl (O.assign rfl (L.op rfl rfl (O.assign rfl (L.nil (T.seq (T.seq (T.region (L.op rfl rfl (O.move rfl (L.op rfl rfl (O.not rfl (L.nil (T.cond_false rfl (T.skip (T.seq (T.region (L.op rfl rfl (O.loadAgg Tryd.isAgg33 Tryd.sizeOf33 rfl rfl ((hB2.keep he4 (Nat.zero_le _)).row) (?_)))))))))))))))))))))))))
              obtain ⟨oa1, cap1, rfl, _⟩ := Sl.val hp
              obtain ⟨oa2, cap2, rfl, _⟩ := Sl.val hx
              obtain ⟨oa3, cap3, hl3, _⟩ := Sl.val hW
              subst hl3
              refine L.op rfl rfl (O.move rfl (L.op rfl rfl (O.move rfl (L.op rfl rfl (O.build (v := .agg #[.int .i64 N, .slice oa1 es.length cap1, .slice oa2 xs.length cap2, .slice oa3 (masksOf xs kk).length cap3]) (parts := [(0, .tmp 41), (1, .tmp 42), (2, .tmp 43)]) (vs := [(0, _), (1, _), (2, _)]) rfl (fun w => by kernel_rfl) (L.op rfl rfl (O.box rfl (fun b5 w5 hb5 hz5 he5 hB5 => ?_))))))))
              refine L.op rfl rfl (O.assign rfl (L.op rfl rfl (O.assign rfl (L.nil (T.ret2 Tryd.results49 rfl rfl ⟨(he02.trans he4).trans he5, .inr ⟨planErr_ok hge hk18 ⟨by simpa using hlen, hl, by simpa using ha⟩, b5, _, rfl, ?_, hB5, (hW.keep (he5.mono (Nat.zero_le _))).mono he02.size⟩⟩)))))
              have h1 := he02.size
              have h2 := he4.size
              omega

theorem Check_calls (lo lo' : Nat) (N k : Int) (pe pp : Value) (es : List (Int × Int)) (xs : List Int) (w : World) (hp : Pairs lo w pe es) (hx : Ints .i64 lo' w pp xs) :
    Calls Tryd.prog 16 #[gV N pe, pp, .int .i64 k] w (Ret fun v w' => v = .int .i64 (planErr N es xs k) ∧ Ext w w') := by
  refine T.enter (vs := [gV N pe, pp, .int .i64 k]) Tryd.func16 rfl Tryd.ntmps16 rfl ?_
  refine T.seq (T.region (L.op rfl rfl (O.box rfl (fun b1 w1 hb1 hz1 he1 hB1 => ?_))))
  refine L.op rfl rfl (O.assign rfl (L.nil (T.seq (T.region (L.op rfl rfl (O.loadAgg Tryd.isAgg33 Tryd.sizeOf33 rfl rfl hB1.row (L.op rfl rfl (O.move rfl (L.op rfl rfl (O.move rfl (L.op rfl rfl (O.call (xs := [.tmp 10, .tmp 11, .tmp 12]) Tryd.call49 rfl rfl (drawn_calls lo lo' N k pe pp es xs w1 (hp.keep (he1.mono (Nat.zero_le lo))) (hx.keep (he1.mono (Nat.zero_le lo')))) (fun v2 w2 hq => ?_)))))))))))))
  obtain ⟨he2, hq2⟩ := hq
  rcases hq2 with ⟨hE, rfl⟩ | ⟨hE, b, pm, rfl, hrest⟩
  · refine L.op rfl rfl (O.move rfl (L.op rfl rfl (O.extract rfl rfl (L.op rfl rfl (O.extract rfl rfl (L.op rfl rfl (O.assign rfl (L.op rfl rfl (O.assign rfl (L.nil (T.seq (T.region (L.op rfl rfl (O.move rfl (L.op rfl rfl (O.assign rfl (L.nil (T.ret1 Tryd.results16 rfl ⟨rfl, he1.trans he2⟩))))))))))))))))))
  · refine L.op rfl rfl (O.move rfl (L.op rfl rfl (O.extract rfl rfl (L.op rfl rfl (O.extract rfl rfl (L.op rfl rfl (O.assign rfl (L.op rfl rfl (O.assign rfl (L.nil (T.seq (T.region (L.op rfl rfl (O.move rfl (L.op rfl rfl (O.assign rfl (L.nil (T.ret1 Tryd.results16 rfl ⟨by rw [hE]; rfl, he1.trans he2⟩))))))))))))))))))

theorem RPCheck_calls (lo lo' : Nat) (N k : Int) (pe pp : Value) (es : List (Int × Int)) (xs : List Int) (w : World) (hp : Pairs lo w pe es) (hx : Ints .i64 lo' w pp xs) :
    Calls Tryd.prog 17 #[gV N pe, pp, .int .i64 k] w (Ret fun v w' => v = .int .i64 (planErr N es xs k) ∧ Ext w w') := by
  refine T.enter (vs := [gV N pe, pp, .int .i64 k]) Tryd.func17 rfl Tryd.ntmps17 rfl ?_
  refine T.seq (T.region (L.op rfl rfl (O.box rfl (fun b1 w1 hb1 hz1 he1 hB1 => ?_))))
  refine L.op rfl rfl (O.assign rfl (L.nil (T.seq (T.seq (T.region (L.op rfl rfl (O.loadAgg Tryd.isAgg33 Tryd.sizeOf33 rfl rfl hB1.row (L.op rfl rfl (O.call (xs := [.tmp 8]) Tryd.call52 rfl rfl (RCheck_calls lo N pe es w1 (hp.keep (he1.mono (Nat.zero_le lo)))) (fun v2 w2 hq => ?_))))))))))
  obtain ⟨rfl, he2⟩ := hq
  have he02 := he1.trans he2
  have hx2 := hx.keep (he02.mono (Nat.zero_le lo'))
  have hB2 := hB1.keep he2 (Nat.zero_le _)
  refine L.op rfl rfl (O.assign rfl (L.nil (T.seq (T.region (L.op rfl rfl (O.move rfl (L.op rfl rfl (O.neq_s rfl rfl (fun hge => ?_) (fun hge => ?_)))))))))
  · refine L.nil (T.cond_true rfl (T.seq (T.region (L.op rfl rfl (O.move rfl (L.op rfl rfl (O.assign rfl (L.nil (T.ret1 Tryd.results17 rfl ⟨by rw [planErr_graph hge], he02⟩)))))))))
  · refine L.nil (T.cond_false rfl (T.skip (T.seq (T.seq (T.region (L.op rfl rfl (O.move rfl (L.op rfl rfl (O.lss_s rfl rfl (fun h1 => ?_) (fun h1 => ?_))))))))))
    · refine L.op rfl rfl (O.move rfl (L.pass rfl rfl (L.pass rfl rfl (L.op rfl rfl (O.pick_true rfl rfl (L.nil (T.cond_true rfl (T.seq (T.region (L.op rfl rfl (O.assign rfl (L.nil (T.ret1 Tryd.results17 rfl ⟨by rw [planErr_arg hge (by omega)], he02⟩)))))))))))))
    · refine L.op rfl rfl (O.move rfl (L.op rfl rfl (O.move rfl (L.op rfl rfl (O.gtr_s rfl rfl (fun h8 => ?_) (fun h8 => ?_))))))
      · refine L.op rfl rfl (O.pick_false rfl rfl (L.nil (T.cond_true rfl (T.seq (T.region (L.op rfl rfl (O.assign rfl (L.nil (T.ret1 Tryd.results17 rfl ⟨by rw [planErr_arg hge (by omega)], he02⟩)))))))))
      · have hk18 : 1 ≤ k ∧ k ≤ 8 := by omega
        refine L.op rfl rfl (O.pick_false rfl rfl (L.nil (T.cond_false rfl (T.skip (T.seq (T.seq (T.region (L.op rfl rfl (O.move rfl (L.op rfl rfl (O.len Tryd.runUnderlying35 rfl (Sl.val hx2) (L.op rfl rfl (O.fieldAddr Tryd.runUnderlying33 rfl Tryd.sizeOf3 rfl (L.op rfl rfl (O.load Tryd.isAgg3 rfl (Blk.at hB2 rfl) (L.op rfl rfl (O.neq_s rfl rfl (fun hlen => ?_) (fun hlen => ?_))))))))))))))))))
        · refine L.op rfl rfl (O.move rfl (L.pass rfl rfl (L.pass rfl rfl (L.pass rfl rfl (L.pass rfl rfl (L.op rfl rfl (O.pick_true rfl rfl (L.op rfl rfl (O.move rfl (L.pass rfl rfl (L.pass rfl rfl (L.pass rfl rfl (L.pass rfl rfl (L.op rfl rfl (O.pick_true rfl rfl (L.nil (T.cond_true rfl (T.seq (T.region (L.op rfl rfl (O.assign rfl (L.nil (T.ret1 Tryd.results17 rfl ⟨by rw [planErr_bad hge hk18 (fun h => hlen h.1)], he02⟩)))))))))))))))))))))))
        · refine L.op rfl rfl (O.move rfl (L.op rfl rfl (O.move rfl (L.op rfl rfl (O.move rfl (L.op rfl rfl (O.call (xs := [.tmp 25, .tmp 26]) Tryd.call46 rfl rfl (RLabels_calls lo' pp xs k w2 hx2) (fun v3 w3 hq => ?_))))))))
          obtain ⟨rfl, rfl⟩ := hq
          cases hl : labelsOk xs k
          · refine L.op rfl rfl (O.not rfl (L.op rfl rfl (O.pick_false rfl rfl (L.op rfl rfl (O.move rfl (L.pass rfl rfl (L.pass rfl rfl (L.pass rfl rfl (L.pass rfl rfl (L.op rfl rfl (O.pick_true rfl rfl (L.nil (T.cond_true rfl (T.seq (T.region (L.op rfl rfl (O.assign rfl (L.nil (T.ret1 Tryd.results17 rfl ⟨by rw [planErr_bad hge hk18 (fun h => by rw [hl] at h; cases h.2.1)], he02⟩)))))))))))))))))))
          · obtain ⟨kk, rfl⟩ : ∃ kk : Nat, k = (kk : Int) := ⟨k.toNat, by omega⟩
            refine L.op rfl rfl (O.not rfl (L.op rfl rfl (O.pick_false rfl rfl (L.op rfl rfl (O.move rfl (L.op rfl rfl (O.move rfl (L.op rfl rfl (O.move rfl (L.op rfl rfl (O.call (xs := [.tmp 31, .tmp 32]) Tryd.call47 rfl rfl (Rall_calls lo' pp xs kk w3 hx2 (by omega)) (fun v4 w4 hq => ?_))))))))))))
            obtain ⟨rfl, rfl⟩ := hq
            cases ha : allUsed xs kk
            · refine L.op rfl rfl (O.not rfl (L.op rfl rfl (O.pick_false rfl rfl (L.nil (T.cond_true rfl (T.seq (T.region (L.op rfl rfl (O.assign rfl (L.nil (T.ret1 Tryd.results17 rfl ⟨by rw [planErr_bad hge hk18 (fun h => by rw [Int.toNat_natCast, ha] at h; cases h.2.2)], he02⟩)))))))))))
            · refine L.op rfl rfl (O.not rfl (L.op rfl rfl (O.pick_false rfl rfl (L.nil (T.cond_false rfl (T.skip (T.seq (T.region (L.op rfl rfl (O.assign rfl (L.nil (T.ret1 Tryd.results17 rfl ⟨by rw [planErr_ok hge hk18 ⟨by simpa using hlen, hl, by simpa using ha⟩], he02⟩))))))))))))

end Go.Proofs.YthjdljbghjelfaaDoor
set_option linter.unusedVariables false
set_option linter.unusedSimpArgs false
set_option maxRecDepth 20000
namespace Go.Proofs.YthjdljbghjelfaaDoor
open Go Go.E
attribute [local irreducible] Go.E.T Go.E.L Go.E.O Go.E.Ob

theorem masks_get {xs : List Int} {k d : Nat} (h : d < k) : (masksOf xs k).getD d 0 = mask xs d := masks_getElem h
theorem masks_all_no {xs : List Int} {k d : Nat} {f : Nat → Bool} (h : d < k) (h0 : f (mask xs d) = false) : (masksOf xs k).all f = false := by
  refine all_no (i := d) (d := 0) (by rw [masks_len]; exact h) ?_
  rw [masks_getElem h]; exact h0
theorem masks_take {xs : List Int} {k d : Nat} {f : Nat → Bool} (h : d < k) (h1 : ((masksOf xs k).take d).all f = true) (h0 : f (mask xs d) = true) : ((masksOf xs k).take (d + 1)).all f = true := by
  refine take_all_succ (d := 0) (by rw [masks_len]; exact h) h1 ?_
  rw [masks_getElem h]; exact h0
theorem masks_done {xs : List Int} {k d : Nat} {f : Nat → Bool} (h : d = k) (h1 : ((masksOf xs k).take d).all f = true) : (masksOf xs k).all f = true := by
  rw [List.take_of_length_le (by rw [masks_len]; omega)] at h1; exact h1
/-- How many of the first edges are cut. -/
def cutTo (es : List (Int × Int)) (xs : List Int) : Nat → Nat
  | 0 => 0
  | i + 1 => cutTo es xs i + (if xs.getD (eA es i) 0 = xs.getD (eB es i) 0 then 0 else 1)
theorem cutTo_le (es : List (Int × Int)) (xs : List Int) : ∀ i, cutTo es xs i ≤ i
  | 0 => Nat.le_refl _
  | i + 1 => by simp only [cutTo]; have := cutTo_le es xs i; split <;> omega
def cutOf (N : Int) (es : List (Int × Int)) (xs : List Int) (k : Int) : Int := if planErr N es xs k = 0 then (cutTo es xs es.length : Int) else 0
theorem contigB_bad {N : Int} {es : List (Int × Int)} {xs : List Int} {k : Int} (h : planErr N es xs k ≠ 0) : contigB N es xs k = false := by rw [contigB, decide_eq_false h]; rfl
theorem contigB_ok {N : Int} {es : List (Int × Int)} {xs : List Int} {k : Int} (h : planErr N es xs k = 0) : contigB N es xs k = contig es xs k := by rw [contigB, decide_eq_true h]; rfl
theorem Contig_calls (lo lo' : Nat) (N k : Int) (pe pp : Value) (es : List (Int × Int)) (xs : List Int) (w : World) (hp : Pairs lo w pe es) (hx : Ints .i64 lo' w pp xs) (hT : Tab w) :
    Calls Tryd.prog 14 #[gV N pe, pp, .int .i64 k] w (Ret fun v w' => v = .tuple #[.bool (contigB N es xs k), .int .i64 (planErr N es xs k)] ∧ Ext w w') := by
  refine T.enter (vs := [gV N pe, pp, .int .i64 k]) Tryd.func14 rfl Tryd.ntmps14 rfl ?_
  refine T.seq (T.region (L.op rfl rfl (O.box rfl (fun b1 w1 hb1 hz1 he1 hB1 => ?_))))
  refine L.op rfl rfl (O.assign rfl (L.op rfl rfl (O.assign rfl (L.nil (T.seq (T.region (L.op rfl rfl (O.loadAgg Tryd.isAgg33 Tryd.sizeOf33 rfl rfl hB1.row (L.op rfl rfl (O.move rfl (L.op rfl rfl (O.move rfl (L.op rfl rfl (O.call (xs := [.tmp 13, .tmp 14, .tmp 15]) Tryd.call49 rfl rfl (drawn_calls lo lo' N k pe pp es xs w1 (hp.keep (he1.mono (Nat.zero_le lo))) (hx.keep (he1.mono (Nat.zero_le lo')))) (fun v2 w2 hq => ?_)))))))))))))))
  obtain ⟨he2, hq2⟩ := hq
  have he02 := he1.trans he2
  rcases hq2 with ⟨hE, rfl⟩ | ⟨hE, b, pm, rfl, hb, hB2, hW2⟩
  · refine L.op rfl rfl (O.move rfl (L.op rfl rfl (O.extract rfl rfl (L.op rfl rfl (O.extract rfl rfl (L.op rfl rfl (O.assign rfl (L.op rfl rfl (O.assign rfl (L.nil (T.seq (T.seq (T.region (L.op rfl rfl (O.move rfl (L.op rfl rfl (O.neq_t rfl rfl hE (L.nil (T.cond_true rfl (T.seq (T.region (L.op rfl rfl (O.move rfl (L.op rfl rfl (O.assign rfl (L.op rfl rfl (O.assign rfl (L.nil (T.ret2 Tryd.results14 rfl rfl ⟨by rw [contigB_bad hE]; rfl, he02⟩)))))))))))))))))))))))))))))
  · refine L.op rfl rfl (O.move rfl (L.op rfl rfl (O.extract rfl rfl (L.op rfl rfl (O.extract rfl rfl (L.op rfl rfl (O.assign rfl (L.op rfl rfl (O.assign rfl (L.nil (T.seq (T.seq (T.region (L.op rfl rfl (O.move rfl (L.op rfl rfl (O.neq_f rfl rfl (by decide) (?_))))))))))))))))))
    obtain ⟨hge, hk1, hk8, hlen, hl, hu⟩ := planOk_of hE
    obtain ⟨kk, rfl⟩ : ∃ kk : Nat, k = (kk : Int) := ⟨k.toNat, by omega⟩
    rw [Int.toNat_natCast] at hW2
    have hm := labels_mem hl
    have hml := masks_len xs kk
    refine L.nil (T.cond_false rfl (T.skip (T.seq (T.seq (T.region (L.op rfl rfl (O.move rfl (L.op rfl rfl (O.nilCheck rfl (L.op rfl rfl (O.fieldAddr Tryd.runUnderlying91 rfl Tryd.sizeOf38 rfl (L.op rfl rfl (O.load Tryd.isAgg38 rfl (hB2.cell rfl) (L.op rfl rfl (O.len Tryd.runUnderlying38 rfl (Sl.val hW2) (L.op rfl rfl (O.move rfl (L.nil (T.block (?_))))))))))))))))))))
    refine T.loop (σ := Nat) (fun i => [(8, .pointer (some ⟨b, 0, none⟩)), (25, pm), (26, .int .i64 (masksOf xs kk).length), (27, .int .i64 i)]) (fun i w' => i ≤ kk ∧ Ext w2 w' ∧ ((masksOf xs kk).take i).all (connB es) = true) (fun i => kk - i) (0) ⟨rfl, rfl, rfl, rfl, trivial⟩ ⟨Nat.zero_le _, Keep.refl _ _, rfl⟩ ?_
    rintro i w3 ⟨hi, he3, hall⟩
    refine T.seq (T.region (L.op rfl rfl (O.lss_s rfl rfl (fun hlt => ?_) (fun hlt => ?_))))
    · refine L.nil (?_)
      have hlt' : i < kk := by omega
      have hW3 := hW2.keep (he3.mono (Nat.zero_le _))
      refine T.seq (T.cond_true rfl (T.skip (T.seq (T.block (T.seq (T.region (L.op rfl rfl (O.indexAddr Tryd.runUnderlying38 Tryd.sizeOf46 rfl rfl hW3 (by omega) (by omega) (L.op rfl rfl (O.load Tryd.isAgg46 rfl (Words.at hW3 (by omega)) (?_)))))))))))
      have hmi : (masksOf xs kk).getD i 0 = mask xs i := masks_getElem hlt'
      refine L.op rfl rfl (O.assign rfl (L.nil (T.seq (T.region (L.op rfl rfl (O.move rfl (L.op rfl rfl (O.move rfl (L.op rfl rfl (O.call (xs := [.tmp 31, .tmp 32]) Tryd.call50 rfl rfl (whole_calls b lo N pe pp pm es _ w3 (hB2.keep he3 (Nat.zero_le _)) (hp.keep ((he02.trans he3).mono (Nat.zero_le lo))) hge (by rw [hmi, ← hlen, Int.toNat_natCast]; exact mask_small hm.2.1 _) (hT.keep (he02.trans he3))) (fun v4 w4 hq => ?_)))))))))))
      obtain ⟨he4, rfl⟩ := hq
      cases hc : connB es ((masksOf xs kk).getD i 0)
      · refine L.op rfl rfl (O.not rfl (L.nil (T.cond_true rfl (T.seq (T.region (L.op rfl rfl (O.assign rfl (L.op rfl rfl (O.assign rfl (L.nil (T.ret2 Tryd.results14 rfl rfl ⟨by rw [contigB_ok hE, contig, Int.toNat_natCast, masks_all_no hlt' (by rw [← hmi]; exact hc), hE], (he02.trans he3).trans he4⟩)))))))))))
      · refine L.op rfl rfl (O.not rfl (L.nil (T.cond_false rfl (T.skip (T.blk (T.region (L.op rfl rfl (O.add64 rfl rfl (by omega) (L.op rfl rfl (O.move rfl (L.nil (T.again (i + 1) (by omega) ⟨rfl, rfl, rfl, rfl, trivial⟩ ⟨hlt', he3.trans he4, masks_take hlt' hall (by rw [← hmi]; exact hc)⟩))))))))))))
    · refine L.nil (T.seq (T.cond_false rfl (T.exit rfl (T.seq (T.region (L.op rfl rfl (O.assign rfl (L.op rfl rfl (O.assign rfl (L.nil (T.ret2 Tryd.results14 rfl rfl ⟨by rw [contigB_ok hE, contig, Int.toNat_natCast, masks_done (by omega) hall, hE], he02.trans he3⟩)))))))))))

theorem RContig_calls (lo lo' : Nat) (N k : Int) (pe pp : Value) (es : List (Int × Int)) (xs : List Int) (w : World) (hp : Pairs lo w pe es) (hx : Ints .i64 lo' w pp xs) :
    Calls Tryd.prog 15 #[gV N pe, pp, .int .i64 k] w (Ret fun v w' => v = .tuple #[.bool (contigB N es xs k), .int .i64 (planErr N es xs k)] ∧ Ext w w') := by
  refine T.enter (vs := [gV N pe, pp, .int .i64 k]) Tryd.func15 rfl Tryd.ntmps15 rfl ?_
  refine T.seq (T.region (L.op rfl rfl (O.box rfl (fun b1 w1 hb1 hz1 he1 hB1 => ?_))))
  refine L.op rfl rfl (O.assign rfl (L.op rfl rfl (O.assign rfl (L.nil (T.seq (T.seq (T.region (L.op rfl rfl (O.loadAgg Tryd.isAgg33 Tryd.sizeOf33 rfl rfl hB1.row (L.op rfl rfl (O.move rfl (L.op rfl rfl (O.move rfl (L.op rfl rfl (O.call (xs := [.tmp 10, .tmp 11, .tmp 12]) Tryd.call17 rfl rfl (RPCheck_calls lo lo' N k pe pp es xs w1 (hp.keep (he1.mono (Nat.zero_le lo))) (hx.keep (he1.mono (Nat.zero_le lo')))) (fun v2 w2 hq => ?_))))))))))))))))
  obtain ⟨rfl, he2⟩ := hq
  have he02 := he1.trans he2
  have hB2 := hB1.keep he2 (Nat.zero_le _)
  refine L.op rfl rfl (O.assign rfl (L.nil (T.seq (T.region (L.op rfl rfl (O.move rfl (L.op rfl rfl (O.neq_s rfl rfl (fun hE => ?_) (fun hE => ?_)))))))))
  · refine L.nil (T.cond_true rfl (T.seq (T.region (L.op rfl rfl (O.move rfl (L.op rfl rfl (O.assign rfl (L.op rfl rfl (O.assign rfl (L.nil (T.ret2 Tryd.results15 rfl rfl ⟨by rw [contigB_bad hE], he02⟩)))))))))))
  · refine L.nil (?_)
    obtain ⟨hge, hk1, hk8, hlen, hl, hu⟩ := planOk_of hE
    obtain ⟨kk, rfl⟩ : ∃ kk : Nat, k = (kk : Int) := ⟨k.toNat, by omega⟩
    have hm := labels_mem hl
    refine T.cond_false rfl (T.skip (T.seq (T.seq (T.region (L.op rfl rfl (O.assign rfl (L.nil (T.block (?_)))))))))
    refine T.loop (σ := Nat) (fun i => [(1, pp), (2, .int .i64 kk), (3, .pointer (some ⟨b1, 0, none⟩)), (9, .int .i64 i)]) (fun i w' => i ≤ kk ∧ Ext w2 w' ∧ ((masksOf xs kk).take i).all (connB es) = true) (fun i => kk - i) (0) ⟨rfl, rfl, rfl, rfl, trivial⟩ ⟨Nat.zero_le _, Keep.refl _ _, rfl⟩ ?_
    rintro i w3 ⟨hi, he3, hall⟩
    refine T.seq (T.seq (T.region (L.op rfl rfl (O.move rfl (L.op rfl rfl (O.move rfl (L.op rfl rfl (O.lss_s rfl rfl (fun hlt => ?_) (fun hlt => ?_)))))))))
    · refine L.nil (?_)
      have hlt' : i < kk := by omega
      have hx3 := hx.keep ((he02.trans he3).mono (Nat.zero_le lo'))
      have hp3 := hp.keep ((he02.trans he3).mono (Nat.zero_le lo))
      have hB3 := hB2.keep he3 (Nat.zero_le _)
      refine T.cond_true rfl (T.skip (T.seq (T.block (T.seq (?_)))))
      refine T.par mixed 6 [3, 1, 9] rfl [.is _, .is _, .is _, .is _, .is _, .is _] [[], [], [], [1, 2], [0, 3], [4]] (by kernel_rfl) rfl ⟨trivial, trivial, trivial, trivial, trivial, trivial, trivial⟩ ⟨fun wx hx => Ob.op rfl (O.loadAgg Tryd.isAgg33 Tryd.sizeOf33 rfl rfl ((hB3.keep hx (Nat.zero_le _)).row) ⟨Keep.refl _ _, rfl⟩),
          fun wx hx => Ob.op rfl (O.move rfl ⟨Keep.refl _ _, rfl⟩),
          fun wx hx => Ob.op rfl (O.move rfl ⟨Keep.refl _ _, rfl⟩),
          fun wx hx => Ob.op rfl (O.call (xs := [.tmp 23, .tmp 24]) Tryd.call48 rfl rfl (RMask_calls lo' pp xs i wx (hx3.keep (hx.mono (Nat.zero_le _)))) (fun v wy h => ⟨Keep.of_eq h.2, h.1⟩)),
          fun wx hx => Ob.op rfl (O.call (xs := [.tmp 22, .tmp 25]) Tryd.call51 rfl rfl (Rconnected_calls lo N pe es (mask xs i) wx (hp3.keep (hx.mono (Nat.zero_le _))) hge (by rw [← hlen, Int.toNat_natCast]; exact mask_small hm.2.1 _)) (fun v wy h => h)),
          fun wx hx => Ob.op rfl (O.not rfl ⟨Keep.refl _ _, rfl⟩),
          trivial⟩ (fun w4 he4 => ?_)
      refine L.nil (?_)
      cases hc : connB es (mask xs i)
      · refine T.cond_true rfl (T.seq (T.region (L.op rfl rfl (O.assign rfl (L.op rfl rfl (O.assign rfl (L.nil (T.ret2 Tryd.results15 rfl rfl ⟨by rw [contigB_ok hE, contig, Int.toNat_natCast, masks_all_no hlt' hc, hE], (he02.trans he3).trans he4⟩))))))))
      · refine T.cond_false rfl (T.skip (T.blk (T.region (L.op rfl rfl (O.move rfl (L.op rfl rfl (O.add64 rfl rfl (by omega) (L.op rfl rfl (O.assign rfl (L.nil (T.again (i + 1) (by omega) ⟨rfl, rfl, rfl, rfl, trivial⟩ ⟨hlt', he3.trans he4, masks_take hlt' hall hc⟩)))))))))))
    · refine L.nil (T.cond_false rfl (T.exit rfl (T.seq (T.region (L.op rfl rfl (O.assign rfl (L.op rfl rfl (O.assign rfl (L.nil (T.ret2 Tryd.results15 rfl rfl ⟨by rw [contigB_ok hE, contig, Int.toNat_natCast, masks_done (by omega) hall, hE], he02.trans he3⟩))))))))))

theorem Cut_calls (lo lo' : Nat) (N k : Int) (pe pp : Value) (es : List (Int × Int)) (xs : List Int) (w : World) (hp : Pairs lo w pe es) (hx : Ints .i64 lo' w pp xs) :
    Calls Tryd.prog 19 #[gV N pe, pp, .int .i64 k] w (Ret fun v w' => v = .tuple #[.int .i64 (cutOf N es xs k), .int .i64 (planErr N es xs k)] ∧ Ext w w') := by
  have hle := Sl.le hp
  refine T.enter (vs := [gV N pe, pp, .int .i64 k]) Tryd.func19 rfl Tryd.ntmps19 rfl ?_
  refine T.seq (T.region (L.op rfl rfl (O.box rfl (fun b1 w1 hb1 hz1 he1 hB1 => ?_))))
  refine L.op rfl rfl (O.assign rfl (L.op rfl rfl (O.assign rfl (L.nil (T.seq (T.region (L.op rfl rfl (O.loadAgg Tryd.isAgg33 Tryd.sizeOf33 rfl rfl hB1.row (L.op rfl rfl (O.move rfl (L.op rfl rfl (O.move rfl (L.op rfl rfl (O.call (xs := [.tmp 14, .tmp 15, .tmp 16]) Tryd.call49 rfl rfl (drawn_calls lo lo' N k pe pp es xs w1 (hp.keep (he1.mono (Nat.zero_le lo))) (hx.keep (he1.mono (Nat.zero_le lo')))) (fun v2 w2 hq => ?_)))))))))))))))
  obtain ⟨he2, hq2⟩ := hq
  have he02 := he1.trans he2
  rcases hq2 with ⟨hE, rfl⟩ | ⟨hE, b, pm, rfl, hb, hB2, hW2⟩
  · refine L.op rfl rfl (O.move rfl (L.op rfl rfl (O.extract rfl rfl (L.op rfl rfl (O.extract rfl rfl (L.op rfl rfl (O.assign rfl (L.op rfl rfl (O.assign rfl (L.nil (T.seq (T.seq (T.region (L.op rfl rfl (O.move rfl (L.op rfl rfl (O.neq_t rfl rfl hE (L.nil (T.cond_true rfl (T.seq (T.region (L.op rfl rfl (O.move rfl (L.op rfl rfl (O.assign rfl (L.op rfl rfl (O.assign rfl (L.nil (T.ret2 Tryd.results19 rfl rfl ⟨by rw [cutOf, if_neg hE]; rfl, he02⟩)))))))))))))))))))))))))))))
  · refine L.op rfl rfl (O.move rfl (L.op rfl rfl (O.extract rfl rfl (L.op rfl rfl (O.extract rfl rfl (L.op rfl rfl (O.assign rfl (L.op rfl rfl (O.assign rfl (L.nil (T.seq (T.seq (T.region (L.op rfl rfl (O.move rfl (L.op rfl rfl (O.neq_f rfl rfl (by decide) (?_))))))))))))))))))
    obtain ⟨hge, hk1, hk8, hlen, hl, hu⟩ := planOk_of hE
    have hgood := Good.of hge
    have hp2 := hp.keep (he02.mono (Nat.zero_le lo))
    refine L.nil (T.cond_false rfl (T.skip (T.seq (T.region (L.op rfl rfl (O.assign rfl (L.nil (T.seq (T.seq (T.region (L.op rfl rfl (O.move rfl (L.op rfl rfl (O.nilCheck rfl (L.op rfl rfl (O.fieldAddr Tryd.runUnderlying91 rfl Tryd.sizeOf33 rfl (L.op rfl rfl (O.fieldAddr Tryd.runUnderlying33 rfl Tryd.sizeOf31 rfl (L.op rfl rfl (O.load Tryd.isAgg31 rfl (Blk.at2 hB2 rfl) (L.op rfl rfl (O.len Tryd.runUnderlying31 rfl (Sl.val hp2) (L.op rfl rfl (O.move rfl (L.nil (T.block (?_)))))))))))))))))))))))))))
    refine T.loop (σ := Nat) (fun i => [(8, .pointer (some ⟨b, 0, none⟩)), (10, .int .i64 (cutTo es xs i)), (27, pe), (28, .int .i64 es.length), (29, .int .i64 i)]) (fun i w' => i ≤ es.length ∧ Ext w2 w') (fun i => es.length - i) (0) ⟨rfl, rfl, rfl, rfl, rfl, trivial⟩ ⟨Nat.zero_le _, Keep.refl _ _⟩ ?_
    rintro i w3 ⟨hi, he3⟩
    refine T.seq (T.region (L.op rfl rfl (O.lss_s rfl rfl (fun hlt => ?_) (fun hlt => ?_))))
    · refine L.nil (?_)
      have hlt' : i < es.length := by omega
      have hgi := hgood.2.2 i hlt'
      have hct := cutTo_le es xs i
      have hp3 := hp2.keep (he3.mono (Nat.zero_le lo))
      refine T.seq (T.cond_true rfl (T.skip (T.seq (T.block (T.seq (T.region (L.op rfl rfl (O.indexAddr Tryd.runUnderlying31 Tryd.sizeOf80 rfl rfl hp3 (by omega) (by omega) (L.op rfl rfl (O.loadAgg Tryd.isAgg80 Tryd.sizeOf80 rfl rfl (Pairs.row hp3 hlt') (L.op rfl rfl (O.alloc Tryd.zeroValue80 (fun b5 w5 hb5 hz5 he5 hB5 => ?_)))))))))))))
      refine L.op rfl rfl (O.storeAgg Tryd.sizeOf80 rfl rfl rfl hB5 (Nat.le_refl _) (by simp [Value.oneCell']) (fun w6 hu6 hB6 => ?_))
      have hB6' : Blk w6 b5 [.int .i64 (es.getD i (0, 0)).1, .int .i64 (es.getD i (0, 0)).2] 80 := hB6
      have he36 : Ext w3 w6 := he5.upd hu6 (.inr (by omega))
      have he26 := he3.trans he36
      have hx6 := hx.keep ((he02.trans he26).mono (Nat.zero_le lo'))
      have hB26 := hB2.keep he26 (Nat.zero_le _)
      by_cases heq : xs.getD (eA es i) 0 = xs.getD (eB es i) 0
      · refine L.nil (T.seq (?_))
        refine T.par mixed 17 [8, 12] rfl [.is _, .is _, .is _, .is _, .is _, .is _, .is _, .is _, .is _, .is _, .is _, .is _, .is _, .is _, .is _, .is _, .is _] [[], [0], [1], [2], [], [4], [3, 5], [6], [], [8], [9], [10], [], [12], [11, 13], [14], [7, 15]] (by kernel_rfl) rfl ⟨trivial, trivial, trivial, trivial, trivial, trivial, trivial, trivial, trivial, trivial, trivial, trivial, trivial, trivial, trivial, trivial, trivial, trivial⟩ ⟨fun wx hx => Ob.op rfl (O.move rfl ⟨Keep.refl _ _, rfl⟩),
            fun wx hx => Ob.op rfl (O.nilCheck rfl ⟨Keep.refl _ _, rfl⟩),
            fun wx hx => Ob.op rfl (O.fieldAddr Tryd.runUnderlying91 rfl Tryd.sizeOf35 rfl ⟨Keep.refl _ _, rfl⟩),
            fun wx hx => Ob.op rfl (O.load Tryd.isAgg35 rfl (Blk.at (hB26.keep hx (Nat.zero_le _)) rfl) ⟨Keep.refl _ _, rfl⟩),
            fun wx hx => Ob.op rfl (O.indexAddr_arr Tryd.runUnderlying80 Tryd.sizeOf3 rfl rfl (by decide) (by decide) ⟨Keep.refl _ _, rfl⟩),
            fun wx hx => Ob.op rfl (O.load Tryd.isAgg3 rfl (Blk.at (hB6'.keep hx (Nat.zero_le _)) rfl) ⟨Keep.refl _ _, rfl⟩),
            fun wx hx => Ob.op rfl (O.indexAddr Tryd.runUnderlying35 Tryd.sizeOf3 rfl rfl hx6 hgi.1 (by omega) ⟨Keep.refl _ _, rfl⟩),
            fun wx hx => Ob.op rfl (O.load Tryd.isAgg3 rfl (Ints.cell (hx6.keep (hx.mono (Nat.zero_le _))) hgi.1 (by omega)) ⟨Keep.refl _ _, rfl⟩),
            fun wx hx => Ob.op rfl (O.move rfl ⟨Keep.refl _ _, rfl⟩),
            fun wx hx => Ob.op rfl (O.nilCheck rfl ⟨Keep.refl _ _, rfl⟩),
            fun wx hx => Ob.op rfl (O.fieldAddr Tryd.runUnderlying91 rfl Tryd.sizeOf35 rfl ⟨Keep.refl _ _, rfl⟩),
            fun wx hx => Ob.op rfl (O.load Tryd.isAgg35 rfl (Blk.at (hB26.keep hx (Nat.zero_le _)) rfl) ⟨Keep.refl _ _, rfl⟩),
            fun wx hx => Ob.op rfl (O.indexAddr_arr Tryd.runUnderlying80 Tryd.sizeOf3 rfl rfl (by decide) (by decide) ⟨Keep.refl _ _, rfl⟩),
            fun wx hx => Ob.op rfl (O.load Tryd.isAgg3 rfl (Blk.at (hB6'.keep hx (Nat.zero_le _)) rfl) ⟨Keep.refl _ _, rfl⟩),
            fun wx hx => Ob.op rfl (O.indexAddr Tryd.runUnderlying35 Tryd.sizeOf3 rfl rfl hx6 (by omega) (by omega) ⟨Keep.refl _ _, rfl⟩),
            fun wx hx => Ob.op rfl (O.load Tryd.isAgg3 rfl (Ints.cell (hx6.keep (hx.mono (Nat.zero_le _))) (by omega) (by omega)) ⟨Keep.refl _ _, rfl⟩),
            fun wx hx => Ob.op rfl (O.neq_f rfl rfl heq ⟨Keep.refl _ _, rfl⟩),
            trivial⟩ (fun w7 he7 => ?_)
        refine L.nil (T.cond_false rfl (T.skip (T.blk (T.region (L.op rfl rfl (O.add64 rfl rfl (by omega) (L.op rfl rfl (O.move rfl (L.nil (T.again (i + 1) (by omega) ⟨rfl, ?_, rfl, rfl, rfl, trivial⟩ ⟨hlt', he26.trans he7⟩))))))))))
        · simp only [cutTo]; rw [if_pos heq]; rfl
      · refine L.nil (T.seq (?_))
        refine T.par mixed 17 [8, 12] rfl [.is _, .is _, .is _, .is _, .is _, .is _, .is _, .is _, .is _, .is _, .is _, .is _, .is _, .is _, .is _, .is _, .is _] [[], [0], [1], [2], [], [4], [3, 5], [6], [], [8], [9], [10], [], [12], [11, 13], [14], [7, 15]] (by kernel_rfl) rfl ⟨trivial, trivial, trivial, trivial, trivial, trivial, trivial, trivial, trivial, trivial, trivial, trivial, trivial, trivial, trivial, trivial, trivial, trivial⟩ ⟨fun wx hx => Ob.op rfl (O.move rfl ⟨Keep.refl _ _, rfl⟩),
            fun wx hx => Ob.op rfl (O.nilCheck rfl ⟨Keep.refl _ _, rfl⟩),
            fun wx hx => Ob.op rfl (O.fieldAddr Tryd.runUnderlying91 rfl Tryd.sizeOf35 rfl ⟨Keep.refl _ _, rfl⟩),
            fun wx hx => Ob.op rfl (O.load Tryd.isAgg35 rfl (Blk.at (hB26.keep hx (Nat.zero_le _)) rfl) ⟨Keep.refl _ _, rfl⟩),
            fun wx hx => Ob.op rfl (O.indexAddr_arr Tryd.runUnderlying80 Tryd.sizeOf3 rfl rfl (by decide) (by decide) ⟨Keep.refl _ _, rfl⟩),
            fun wx hx => Ob.op rfl (O.load Tryd.isAgg3 rfl (Blk.at (hB6'.keep hx (Nat.zero_le _)) rfl) ⟨Keep.refl _ _, rfl⟩),
            fun wx hx => Ob.op rfl (O.indexAddr Tryd.runUnderlying35 Tryd.sizeOf3 rfl rfl hx6 hgi.1 (by omega) ⟨Keep.refl _ _, rfl⟩),
            fun wx hx => Ob.op rfl (O.load Tryd.isAgg3 rfl (Ints.cell (hx6.keep (hx.mono (Nat.zero_le _))) hgi.1 (by omega)) ⟨Keep.refl _ _, rfl⟩),
            fun wx hx => Ob.op rfl (O.move rfl ⟨Keep.refl _ _, rfl⟩),
            fun wx hx => Ob.op rfl (O.nilCheck rfl ⟨Keep.refl _ _, rfl⟩),
            fun wx hx => Ob.op rfl (O.fieldAddr Tryd.runUnderlying91 rfl Tryd.sizeOf35 rfl ⟨Keep.refl _ _, rfl⟩),
            fun wx hx => Ob.op rfl (O.load Tryd.isAgg35 rfl (Blk.at (hB26.keep hx (Nat.zero_le _)) rfl) ⟨Keep.refl _ _, rfl⟩),
            fun wx hx => Ob.op rfl (O.indexAddr_arr Tryd.runUnderlying80 Tryd.sizeOf3 rfl rfl (by decide) (by decide) ⟨Keep.refl _ _, rfl⟩),
            fun wx hx => Ob.op rfl (O.load Tryd.isAgg3 rfl (Blk.at (hB6'.keep hx (Nat.zero_le _)) rfl) ⟨Keep.refl _ _, rfl⟩),
            fun wx hx => Ob.op rfl (O.indexAddr Tryd.runUnderlying35 Tryd.sizeOf3 rfl rfl hx6 (by omega) (by omega) ⟨Keep.refl _ _, rfl⟩),
            fun wx hx => Ob.op rfl (O.load Tryd.isAgg3 rfl (Ints.cell (hx6.keep (hx.mono (Nat.zero_le _))) (by omega) (by omega)) ⟨Keep.refl _ _, rfl⟩),
            fun wx hx => Ob.op rfl (O.neq_t rfl rfl heq ⟨Keep.refl _ _, rfl⟩),
            trivial⟩ (fun w7 he7 => ?_)
        refine L.nil (T.cond_true rfl (T.region (L.op rfl rfl (O.move rfl (L.op rfl rfl (O.add64 rfl rfl (by omega) (L.op rfl rfl (O.assign rfl (L.nil (T.blk (T.region (L.op rfl rfl (O.add64 rfl rfl (by omega) (L.op rfl rfl (O.move rfl (L.nil (T.again (i + 1) (by omega) ⟨rfl, ?_, rfl, rfl, rfl, trivial⟩ ⟨hlt', he26.trans he7⟩)))))))))))))))))
        · simp only [cutTo]; rw [if_neg heq]; rfl
    · refine L.nil (?_)
      obtain rfl : i = es.length := by omega
      refine T.seq (T.cond_false rfl (T.exit rfl (T.seq (T.region (L.op rfl rfl (O.move rfl (L.op rfl rfl (O.assign rfl (L.op rfl rfl (O.assign rfl (L.nil (T.ret2 Tryd.results19 rfl rfl ⟨by rw [cutOf, if_pos hE, hE], he02.trans he3⟩))))))))))))

theorem RCut_calls (lo lo' : Nat) (N k : Int) (pe pp : Value) (es : List (Int × Int)) (xs : List Int) (w : World) (hp : Pairs lo w pe es) (hx : Ints .i64 lo' w pp xs) :
    Calls Tryd.prog 20 #[gV N pe, pp, .int .i64 k] w (Ret fun v w' => v = .tuple #[.int .i64 (cutOf N es xs k), .int .i64 (planErr N es xs k)] ∧ Ext w w') := by
  have hle := Sl.le hp
  refine T.enter (vs := [gV N pe, pp, .int .i64 k]) Tryd.func20 rfl Tryd.ntmps20 rfl ?_
  refine T.seq (T.region (L.op rfl rfl (O.box rfl (fun b1 w1 hb1 hz1 he1 hB1 => ?_))))
  refine L.op rfl rfl (O.assign rfl (L.op rfl rfl (O.assign rfl (L.nil (T.seq (T.seq (T.region (L.op rfl rfl (O.loadAgg Tryd.isAgg33 Tryd.sizeOf33 rfl rfl hB1.row (L.op rfl rfl (O.move rfl (L.op rfl rfl (O.move rfl (L.op rfl rfl (O.call (xs := [.tmp 11, .tmp 12, .tmp 13]) Tryd.call17 rfl rfl (RPCheck_calls lo lo' N k pe pp es xs w1 (hp.keep (he1.mono (Nat.zero_le lo))) (hx.keep (he1.mono (Nat.zero_le lo')))) (fun v2 w2 hq => ?_))))))))))))))))
  obtain ⟨rfl, he2⟩ := hq
  have he02 := he1.trans he2
  have hB2 := hB1.keep he2 (Nat.zero_le _)
  refine L.op rfl rfl (O.assign rfl (L.nil (T.seq (T.region (L.op rfl rfl (O.move rfl (L.op rfl rfl (O.neq_s rfl rfl (fun hE => ?_) (fun hE => ?_)))))))))
  · refine L.nil (T.cond_true rfl (T.seq (T.region (L.op rfl rfl (O.move rfl (L.op rfl rfl (O.assign rfl (L.op rfl rfl (O.assign rfl (L.nil (T.ret2 Tryd.results20 rfl rfl ⟨by rw [cutOf, if_neg hE], he02⟩)))))))))))
  · refine L.nil (?_)
    obtain ⟨hge, hk1, hk8, hlen, hl, hu⟩ := planOk_of hE
    have hgood := Good.of hge
    refine T.cond_false rfl (T.skip (T.seq (T.region (L.op rfl rfl (O.assign rfl (L.nil (T.seq (T.seq (T.region (L.op rfl rfl (O.assign rfl (L.nil (T.block (?_))))))))))))))
    refine T.loop (σ := Nat) (fun i => [(1, pp), (3, .pointer (some ⟨b1, 0, none⟩)), (9, .int .i64 (cutTo es xs i)), (10, .int .i64 i)]) (fun i w' => i ≤ es.length ∧ Ext w2 w') (fun i => es.length - i) (0) ⟨rfl, rfl, rfl, rfl, trivial⟩ ⟨Nat.zero_le _, Keep.refl _ _⟩ ?_
    rintro i w3 ⟨hi, he3⟩
    have hp3 := hp.keep ((he02.trans he3).mono (Nat.zero_le lo))
    have hx3 := hx.keep ((he02.trans he3).mono (Nat.zero_le lo'))
    have hB3 := hB2.keep he3 (Nat.zero_le _)
    refine T.seq (T.seq (T.region (L.op rfl rfl (O.move rfl (L.op rfl rfl (O.fieldAddr Tryd.runUnderlying33 rfl Tryd.sizeOf31 rfl (L.op rfl rfl (O.load Tryd.isAgg31 rfl (Blk.at hB3 rfl) (L.op rfl rfl (O.len Tryd.runUnderlying31 rfl (Sl.val hp3) (L.op rfl rfl (O.lss_s rfl rfl (fun hlt => ?_) (fun hlt => ?_)))))))))))))
    · refine L.nil (?_)
      have hlt' : i < es.length := by omega
      have hgi := hgood.2.2 i hlt'
      have hct := cutTo_le es xs i
      by_cases heq : xs.getD (eA es i) 0 = xs.getD (eB es i) 0
      · refine T.cond_true rfl (T.skip (T.seq (T.block (T.seq (?_)))))
        refine T.par mixed 19 [1, 3, 10] rfl [.is _, .is _, .is _, .is _, .is _, .is _, .is _, .is _, .is _, .is _, .is _, .is _, .is _, .is _, .is _, .is _, .is _, .is _, .is _] [[], [], [1], [], [2, 3], [4], [5], [0, 6], [7], [], [], [10], [], [11, 12], [13], [14], [9, 15], [16], [8, 17]] (by kernel_rfl) rfl ⟨trivial, trivial, trivial, trivial, trivial, trivial, trivial, trivial, trivial, trivial, trivial, trivial, trivial, trivial, trivial, trivial, trivial, trivial, trivial, trivial⟩ ⟨fun wx hx => Ob.op rfl (O.move rfl ⟨Keep.refl _ _, rfl⟩),
            fun wx hx => Ob.op rfl (O.fieldAddr Tryd.runUnderlying33 rfl Tryd.sizeOf31 rfl ⟨Keep.refl _ _, rfl⟩),
            fun wx hx => Ob.op rfl (O.load Tryd.isAgg31 rfl (Blk.at (hB3.keep hx (Nat.zero_le _)) rfl) ⟨Keep.refl _ _, rfl⟩),
            fun wx hx => Ob.op rfl (O.move rfl ⟨Keep.refl _ _, rfl⟩),
            fun wx hx => Ob.op rfl (O.indexAddr Tryd.runUnderlying31 Tryd.sizeOf80 rfl rfl hp3 (by omega) (by omega) ⟨Keep.refl _ _, rfl⟩),
            fun wx hx => Ob.op rfl (O.indexAddr_arr Tryd.runUnderlying80 Tryd.sizeOf3 rfl rfl (by decide) (by decide) ⟨Keep.refl _ _, rfl⟩),
            fun wx hx => Ob.op rfl (O.load Tryd.isAgg3 rfl ((hp3.keep (hx.mono (Nat.zero_le lo))).at0 hlt') ⟨Keep.refl _ _, rfl⟩),
            fun wx hx => Ob.op rfl (O.indexAddr Tryd.runUnderlying35 Tryd.sizeOf3 rfl rfl hx3 hgi.1 (by omega) ⟨Keep.refl _ _, rfl⟩),
            fun wx hx => Ob.op rfl (O.load Tryd.isAgg3 rfl (Ints.cell (hx3.keep (hx.mono (Nat.zero_le _))) hgi.1 (by omega)) ⟨Keep.refl _ _, rfl⟩),
            fun wx hx => Ob.op rfl (O.move rfl ⟨Keep.refl _ _, rfl⟩),
            fun wx hx => Ob.op rfl (O.fieldAddr Tryd.runUnderlying33 rfl Tryd.sizeOf31 rfl ⟨Keep.refl _ _, rfl⟩),
            fun wx hx => Ob.op rfl (O.load Tryd.isAgg31 rfl (Blk.at (hB3.keep hx (Nat.zero_le _)) rfl) ⟨Keep.refl _ _, rfl⟩),
            fun wx hx => Ob.op rfl (O.move rfl ⟨Keep.refl _ _, rfl⟩),
            fun wx hx => Ob.op rfl (O.indexAddr Tryd.runUnderlying31 Tryd.sizeOf80 rfl rfl hp3 (by omega) (by omega) ⟨Keep.refl _ _, rfl⟩),
            fun wx hx => Ob.op rfl (O.indexAddr_arr Tryd.runUnderlying80 Tryd.sizeOf3 rfl rfl (by decide) (by decide) ⟨Keep.refl _ _, rfl⟩),
            fun wx hx => Ob.op rfl (O.load Tryd.isAgg3 rfl ((hp3.keep (hx.mono (Nat.zero_le lo))).at1 hlt') ⟨Keep.refl _ _, rfl⟩),
            fun wx hx => Ob.op rfl (O.indexAddr Tryd.runUnderlying35 Tryd.sizeOf3 rfl rfl hx3 (by omega) (by omega) ⟨Keep.refl _ _, rfl⟩),
            fun wx hx => Ob.op rfl (O.load Tryd.isAgg3 rfl (Ints.cell (hx3.keep (hx.mono (Nat.zero_le _))) (by omega) (by omega)) ⟨Keep.refl _ _, rfl⟩),
            fun wx hx => Ob.op rfl (O.neq_f rfl rfl heq ⟨Keep.refl _ _, rfl⟩),
            trivial⟩ (fun w4 he4 => ?_)
        refine L.nil (T.cond_false rfl (T.skip (T.blk (T.region (L.op rfl rfl (O.move rfl (L.op rfl rfl (O.add64 rfl rfl (by omega) (L.op rfl rfl (O.assign rfl (L.nil (T.again (i + 1) (by omega) ⟨rfl, rfl, ?_, rfl, trivial⟩ ⟨hlt', he3.trans he4⟩))))))))))))
        · simp only [cutTo]; rw [if_pos heq]; rfl
      · refine T.cond_true rfl (T.skip (T.seq (T.block (T.seq (?_)))))
        refine T.par mixed 19 [1, 3, 10] rfl [.is _, .is _, .is _, .is _, .is _, .is _, .is _, .is _, .is _, .is _, .is _, .is _, .is _, .is _, .is _, .is _, .is _, .is _, .is _] [[], [], [1], [], [2, 3], [4], [5], [0, 6], [7], [], [], [10], [], [11, 12], [13], [14], [9, 15], [16], [8, 17]] (by kernel_rfl) rfl ⟨trivial, trivial, trivial, trivial, trivial, trivial, trivial, trivial, trivial, trivial, trivial, trivial, trivial, trivial, trivial, trivial, trivial, trivial, trivial, trivial⟩ ⟨fun wx hx => Ob.op rfl (O.move rfl ⟨Keep.refl _ _, rfl⟩),
            fun wx hx => Ob.op rfl (O.fieldAddr Tryd.runUnderlying33 rfl Tryd.sizeOf31 rfl ⟨Keep.refl _ _, rfl⟩),
            fun wx hx => Ob.op rfl (O.load Tryd.isAgg31 rfl (Blk.at (hB3.keep hx (Nat.zero_le _)) rfl) ⟨Keep.refl _ _, rfl⟩),
            fun wx hx => Ob.op rfl (O.move rfl ⟨Keep.refl _ _, rfl⟩),
            fun wx hx => Ob.op rfl (O.indexAddr Tryd.runUnderlying31 Tryd.sizeOf80 rfl rfl hp3 (by omega) (by omega) ⟨Keep.refl _ _, rfl⟩),
            fun wx hx => Ob.op rfl (O.indexAddr_arr Tryd.runUnderlying80 Tryd.sizeOf3 rfl rfl (by decide) (by decide) ⟨Keep.refl _ _, rfl⟩),
            fun wx hx => Ob.op rfl (O.load Tryd.isAgg3 rfl ((hp3.keep (hx.mono (Nat.zero_le lo))).at0 hlt') ⟨Keep.refl _ _, rfl⟩),
            fun wx hx => Ob.op rfl (O.indexAddr Tryd.runUnderlying35 Tryd.sizeOf3 rfl rfl hx3 hgi.1 (by omega) ⟨Keep.refl _ _, rfl⟩),
            fun wx hx => Ob.op rfl (O.load Tryd.isAgg3 rfl (Ints.cell (hx3.keep (hx.mono (Nat.zero_le _))) hgi.1 (by omega)) ⟨Keep.refl _ _, rfl⟩),
            fun wx hx => Ob.op rfl (O.move rfl ⟨Keep.refl _ _, rfl⟩),
            fun wx hx => Ob.op rfl (O.fieldAddr Tryd.runUnderlying33 rfl Tryd.sizeOf31 rfl ⟨Keep.refl _ _, rfl⟩),
            fun wx hx => Ob.op rfl (O.load Tryd.isAgg31 rfl (Blk.at (hB3.keep hx (Nat.zero_le _)) rfl) ⟨Keep.refl _ _, rfl⟩),
            fun wx hx => Ob.op rfl (O.move rfl ⟨Keep.refl _ _, rfl⟩),
            fun wx hx => Ob.op rfl (O.indexAddr Tryd.runUnderlying31 Tryd.sizeOf80 rfl rfl hp3 (by omega) (by omega) ⟨Keep.refl _ _, rfl⟩),
            fun wx hx => Ob.op rfl (O.indexAddr_arr Tryd.runUnderlying80 Tryd.sizeOf3 rfl rfl (by decide) (by decide) ⟨Keep.refl _ _, rfl⟩),
            fun wx hx => Ob.op rfl (O.load Tryd.isAgg3 rfl ((hp3.keep (hx.mono (Nat.zero_le lo))).at1 hlt') ⟨Keep.refl _ _, rfl⟩),
            fun wx hx => Ob.op rfl (O.indexAddr Tryd.runUnderlying35 Tryd.sizeOf3 rfl rfl hx3 (by omega) (by omega) ⟨Keep.refl _ _, rfl⟩),
            fun wx hx => Ob.op rfl (O.load Tryd.isAgg3 rfl (Ints.cell (hx3.keep (hx.mono (Nat.zero_le _))) (by omega) (by omega)) ⟨Keep.refl _ _, rfl⟩),
            fun wx hx => Ob.op rfl (O.neq_t rfl rfl heq ⟨Keep.refl _ _, rfl⟩),
            trivial⟩ (fun w4 he4 => ?_)
        refine L.nil (T.cond_true rfl (T.region (L.op rfl rfl (O.move rfl (L.op rfl rfl (O.add64 rfl rfl (by omega) (L.op rfl rfl (O.assign rfl (L.nil (T.blk (T.region (L.op rfl rfl (O.move rfl (L.op rfl rfl (O.add64 rfl rfl (by omega) (L.op rfl rfl (O.assign rfl (L.nil (T.again (i + 1) (by omega) ⟨rfl, rfl, ?_, rfl, trivial⟩ ⟨hlt', he3.trans he4⟩)))))))))))))))))))
        · simp only [cutTo]; rw [if_neg heq]; rfl
    · refine L.nil (?_)
      obtain rfl : i = es.length := by omega
      refine T.cond_false rfl (T.exit rfl (T.seq (T.region (L.op rfl rfl (O.move rfl (L.op rfl rfl (O.assign rfl (L.op rfl rfl (O.assign rfl (L.nil (T.ret2 Tryd.results20 rfl rfl ⟨by rw [cutOf, if_pos hE, hE], he02.trans he3⟩)))))))))))

end Go.Proofs.YthjdljbghjelfaaDoor
set_option linter.unusedVariables false
set_option linter.unusedSimpArgs false
set_option maxRecDepth 20000
namespace Go.Proofs.YthjdljbghjelfaaDoor
open Go Go.E
attribute [local irreducible] Go.E.T Go.E.L Go.E.O Go.E.Ob

theorem run_part3 (cs : Array Value) (i : Nat) (v : Value) (w : World) (h : cs[i]? = some v) : (part 3 cs i).run Tryd.prog w = .ok v w := by
  simp [part, Tryd.isAgg3 w, h]
theorem eqMove_guard : Tryd.prog.eqGuardType Tryd.prog.depth 51 = false := by kernel_rfl
theorem eqMove (a b c a' b' c' : Int) (w : World) : (Op.equalIn 10000 51 (.agg #[.int .i64 a, .int .i64 b, .int .i64 c]) (.agg #[.int .i64 a', .int .i64 b', .int .i64 c'])).run Tryd.prog w = .ok (decide (a = a') && (decide (b = b') && decide (c = c'))) w := by
  have h3 : Tryd.prog.underlying 3 = some (.int .i64) := by kernel_rfl
  rw [run_equalIn_struct w 9999 51 _ _ (by kernel_rfl) (by kernel_rfl)]
  rw [show (Tryd.prog.fieldsOf 51).toList = [{ name := "Unit", type := 3, offset := 0, embedded := false, tag := "", pkgPath := "", byteOffset := 0 }, { name := "From", type := 3, offset := 1, embedded := false, tag := "", pkgPath := "", byteOffset := 8 }, { name := "To", type := 3, offset := 2, embedded := false, tag := "", pkgPath := "", byteOffset := 16 }] from by kernel_rfl]
  have p0 : ∀ (x y z : Int) (w : World), (part 3 #[Value.int .i64 x, Value.int .i64 y, Value.int .i64 z] 0).run Tryd.prog w = .ok (.int .i64 x) w := fun x y z w => run_part3 _ _ _ w rfl
  have p1 : ∀ (x y z : Int) (w : World), (part 3 #[Value.int .i64 x, Value.int .i64 y, Value.int .i64 z] 1).run Tryd.prog w = .ok (.int .i64 y) w := fun x y z w => run_part3 _ _ _ w rfl
  have p2 : ∀ (x y z : Int) (w : World), (part 3 #[Value.int .i64 x, Value.int .i64 y, Value.int .i64 z] 2).run Tryd.prog w = .ok (.int .i64 z) w := fun x y z w => run_part3 _ _ _ w rfl
  have e3 : ∀ (x y : Int) (w : World), (Op.equalIn 9999 3 (.int .i64 x) (.int .i64 y)).run Tryd.prog w = .ok (x == y) w := fun x y w => run_equalIn_int w 9998 3 _ _ x y h3
  simp only [Op.eqFields]
  by_cases h1 : a = a' <;> by_cases h2 : b = b' <;> by_cases h4 : c = c' <;> simp [h1, h2, h4, p0, p1, p2, e3]
theorem O.eqlMove {C : Cx} {e : Env} {w : World} {K : Value → World → Prop} {d : Option Tmp} {ty : TypeId} {pos : String} {aft : Array Edge} {g : Option (Nat × Bool)} {x y : Operand} {a b c a' b' c' : Int} (hP : C.P = Tryd.prog) (hx : ev e x = some (.agg #[.int .i64 a, .int .i64 b, .int .i64 c])) (hy : ev e y = some (.agg #[.int .i64 a', .int .i64 b', .int .i64 c']))
    (h : K (.bool (decide (a = a') && (decide (b = b') && decide (c = c')))) w) : O C e ⟨d, .binOp .eql 51 x y 51, ty, pos, aft, g⟩ w K :=
  O.of_run (by simp) (fun q hq => by
    rw [hP]
    simp only [execOp, hq.eval hx, hq.eval hy, Sem.run_bind, run_eqGuard_agg w _ _ _ _ _ _ eqMove_guard, Result.andThen_ok, run_eql_struct, eqMove]
    rfl) h
theorem O.neqMove {C : Cx} {e : Env} {w : World} {K : Value → World → Prop} {d : Option Tmp} {ty : TypeId} {pos : String} {aft : Array Edge} {g : Option (Nat × Bool)} {x y : Operand} {a b c a' b' c' : Int} (hP : C.P = Tryd.prog) (hx : ev e x = some (.agg #[.int .i64 a, .int .i64 b, .int .i64 c])) (hy : ev e y = some (.agg #[.int .i64 a', .int .i64 b', .int .i64 c']))
    (h : K (.bool (!(decide (a = a') && (decide (b = b') && decide (c = c'))))) w) : O C e ⟨d, .binOp .neq 51 x y 51, ty, pos, aft, g⟩ w K :=
  O.of_run (by simp) (fun q hq => by
    rw [hP]
    simp only [execOp, hq.eval hx, hq.eval hy, Sem.run_bind, run_eqGuard_agg w _ _ _ _ _ _ eqMove_guard, Result.andThen_ok, run_neq_struct, eqMove]
    rfl) h
end Go.Proofs.YthjdljbghjelfaaDoor
set_option linter.unusedVariables false
set_option linter.unusedSimpArgs false
set_option maxRecDepth 20000
namespace Go.Proofs.YthjdljbghjelfaaDoor
open Go Go.E
attribute [local irreducible] Go.E.T Go.E.L Go.E.O Go.E.Ob

theorem near1_calls (bl bs n : Nat) (a c : Int) (ms : List Nat) (w : World) (hBl : Blk w bl [.slice (some ⟨bs, 0, none⟩) n n] 38) (hBs : Blk w bs (ms.map wordV) 46) (hn : ms.length = n) (hml : n ≤ maxLen) (h0 : 0 ≤ a) (h1 : a < n) (h2 : 0 ≤ c) (hlt : ms.getD a.toNat 0 < 18446744073709551616) :
    Calls Tryd.prog 78 #[.int .i64 a, .int .i64 c, .pointer (some ⟨bl, 0, none⟩)] w (Ret fun _ w' => ∃ m, Ext w m ∧ Upd bs m w' ∧ Blk w' bs ((ms.map wordV).set (0 + a.toNat * 1) (.int .u64 ((ms.getD a.toNat 0 ||| bit64 c.toNat : Nat) : Int))) 46) := by
  refine T.enter (vs := [.int .i64 a, .int .i64 c, .pointer (some ⟨bl, 0, none⟩)]) Tryd.func78 rfl Tryd.ntmps78 rfl ?_
  refine T.par mixed 7 [2, 0, 1] rfl [.is _, .is _, .is _, .is _, .is _, .is _, .is _] [[], [], [0, 1], [2], [], [4], [3, 5]] (by kernel_rfl) rfl ⟨trivial, trivial, trivial, trivial, trivial, trivial, trivial, trivial⟩ ⟨fun wx hx => Ob.op rfl (O.load Tryd.isAgg38 rfl ((hBl.keep hx (Nat.zero_le _)).cell rfl) ⟨Keep.refl _ _, rfl⟩),
      fun wx hx => Ob.op rfl (O.move rfl ⟨Keep.refl _ _, rfl⟩),
      fun wx hx => Ob.op rfl (O.indexAddr Tryd.runUnderlying38 Tryd.sizeOf46 rfl rfl (Words.of_blk (lo := 0) (hBs.keep hx (Nat.zero_le _)) hn hml (Nat.zero_le _)) h0 (by rw [hn]; exact h1) ⟨Keep.refl _ _, rfl⟩),
      fun wx hx => Ob.op rfl (O.load Tryd.isAgg46 rfl (Words.cell (Words.of_blk (lo := 0) (hBs.keep hx (Nat.zero_le _)) hn hml (Nat.zero_le _)) h0 (by rw [hn]; exact h1)) ⟨Keep.refl _ _, rfl⟩),
      fun wx hx => Ob.op rfl (O.move rfl ⟨Keep.refl _ _, rfl⟩),
      fun wx hx => Ob.op rfl (O.bit_u64 rfl rfl (by omega) ⟨Keep.refl _ _, rfl⟩),
      fun wx hx => Ob.op rfl (O.or_u64 rfl rfl hlt (bit64_lt _) rfl rfl ⟨Keep.refl _ _, rfl⟩),
      trivial⟩ (fun w1 he1 => ?_)
  have hBs1 := hBs.keep he1 (Nat.zero_le _)
  refine L.op rfl rfl (O.indexAddr Tryd.runUnderlying38 Tryd.sizeOf46 rfl rfl (Words.of_blk (lo := 0) hBs1 hn hml (Nat.zero_le _)) h0 (by rw [hn]; exact h1) (L.op rfl rfl (O.store1_at Tryd.sizeOf46 rfl rfl rfl hBs1 (by rw [List.length_map, hn]; omega) (fun w2 hu2 hB2 => ?_))))
  refine L.nil (T.end0 Tryd.results78 ⟨w1, he1, hu2, hB2⟩)

theorem near_calls (b lo n : Nat) (pe pp pm : Value) (es : List (Int × Int)) (w : World) (hB : Blk w b [.int .i64 n, pe, pp, pm] 91) (hp : Pairs lo w pe es) (hg : Good n es) :
    Calls Tryd.prog 72 #[.pointer (some ⟨b, 0, none⟩)] w (Ret fun v w' => Ext w w' ∧ Words w.heap.size w' v (nbs es n) ∧ w.heap.size < w'.heap.size) := by
  have hle := Sl.le hp
  have hg2 := hg.2.1
  have hml : n ≤ maxLen := by unfold maxLen; omega
  refine T.enter (vs := [.pointer (some ⟨b, 0, none⟩)]) Tryd.func72 rfl Tryd.ntmps72 rfl ?_
  refine T.seq (T.region (L.op rfl rfl (O.assign rfl (L.nil (T.seq (T.region (L.op rfl rfl (O.move rfl (L.op rfl rfl (O.nilCheck rfl (L.op rfl rfl (O.fieldAddr Tryd.runUnderlying91 rfl Tryd.sizeOf33 rfl (L.op rfl rfl (O.fieldAddr Tryd.runUnderlying33 rfl Tryd.sizeOf3 rfl (L.op rfl rfl (O.load Tryd.isAgg3 rfl (Blk.at2 hB rfl) (L.op rfl rfl (O.makeSlice Tryd.runUnderlying38 Tryd.typeInfo46 Tryd.sizeOf46 Tryd.zeroValue46 rfl rfl rfl (by show n * 8 ≤ _; omega) (by omega) (fun b2 w2 hb2 hz2 he2 hB2 => ?_)))))))))))))))))))
  refine L.op rfl rfl (O.alloc Tryd.zeroValue38 (fun b3 w3 hb3 hz3 he3 hB3 => ?_))
  refine L.op rfl rfl (O.store1 Tryd.sizeOf38 rfl rfl rfl hB3 (by simp [Value.cells]) (fun w4 hu4 hB4 => ?_))
  have hBl4 : Blk w4 b3 [.slice (some ⟨b2, 0, none⟩) n n] 38 := hB4
  have he24 : Ext w2 w4 := he3.upd hu4 (.inr (by omega))
  have he04 := he2.trans he24
  have hb23 : b2 ≠ b3 := by omega
  have hB24 : Blk w4 b2 ((nbsAt es n 0).map wordV) 46 := by rw [← nbsAt_zero]; exact hB2.keep he24 (Nat.zero_le _)
  refine L.nil (T.seq (T.region (L.op rfl rfl (O.makeFunc (fi := []) (ca := [.tmp 3]) rfl rfl (L.op rfl rfl (O.assign rfl (L.nil (T.seq (T.seq (T.region (L.op rfl rfl (O.move rfl (L.op rfl rfl (O.nilCheck rfl (L.op rfl rfl (O.fieldAddr Tryd.runUnderlying91 rfl Tryd.sizeOf33 rfl (L.op rfl rfl (O.fieldAddr Tryd.runUnderlying33 rfl Tryd.sizeOf31 rfl (L.op rfl rfl (O.load Tryd.isAgg31 rfl (Blk.at2 (hB.keep he04 (Nat.zero_le _)) rfl) (?_)))))))))))))))))))))
  have hp4 := hp.keep (he04.mono (Nat.zero_le lo))
  refine L.op rfl rfl (O.len Tryd.runUnderlying31 rfl (Sl.val hp4) (L.op rfl rfl (O.move rfl (L.nil (T.block (?_))))))
  refine T.loop (σ := Nat) (fun i => [(3, .pointer (some ⟨b3, 0, none⟩)), (4, .func (.func 78) #[] #[.pointer (some ⟨b3, 0, none⟩)]), (18, pe), (19, .int .i64 es.length), (20, .int .i64 i)]) (fun i w' => i ≤ es.length ∧ Ext w w' ∧ Blk w' b3 [.slice (some ⟨b2, 0, none⟩) n n] 38 ∧ Blk w' b2 ((nbsAt es n i).map wordV) 46) (fun i => es.length - i) (0) ⟨rfl, rfl, rfl, rfl, rfl, trivial⟩ ⟨Nat.zero_le _, he04, hBl4, hB24⟩ ?_
  rintro i w5 ⟨hi, he5, hBl5, hB25⟩
  refine T.seq (T.region (L.op rfl rfl (O.lss_s rfl rfl (fun hlt => ?_) (fun hlt => ?_))))
  · refine L.nil (?_)
    have hlt' : i < es.length := by omega
    have hgi := hg.2.2 i hlt'
    have hp5 := hp.keep (he5.mono (Nat.zero_le lo))
    refine T.seq (T.cond_true rfl (T.skip (T.seq (T.block (T.seq (T.region (L.op rfl rfl (O.indexAddr Tryd.runUnderlying31 Tryd.sizeOf80 rfl rfl hp5 (by omega) (by omega) (L.op rfl rfl (O.loadAgg Tryd.isAgg80 Tryd.sizeOf80 rfl rfl (Pairs.row hp5 hlt') (L.op rfl rfl (O.alloc Tryd.zeroValue80 (fun b6 w6 hb6 hz6 he6 hB6 => ?_)))))))))))))
    refine L.op rfl rfl (O.storeAgg Tryd.sizeOf80 rfl rfl rfl hB6 (Nat.le_refl _) (by simp [Value.oneCell']) (fun w7 hu7 hB7 => ?_))
    have hB7' : Blk w7 b6 [.int .i64 (es.getD i (0, 0)).1, .int .i64 (es.getD i (0, 0)).2] 80 := hB7
    have hlt2 := hB25.lt
    have hlt3 := hBl5.lt
    have he57 : Ext w5 w7 := he6.upd hu7 (.inr (by omega))
    have hBl7 := hBl5.keep he57 (Nat.zero_le _)
    have hB27 := hB25.keep he57 (Nat.zero_le _)
    refine L.nil (T.seq (T.region (L.op rfl rfl (O.move rfl (L.op rfl rfl (O.indexAddr_arr Tryd.runUnderlying80 Tryd.sizeOf3 rfl rfl (by decide) (by decide) (L.op rfl rfl (O.load Tryd.isAgg3 rfl (Blk.at hB7' rfl) (L.op rfl rfl (O.indexAddr_arr Tryd.runUnderlying80 Tryd.sizeOf3 rfl rfl (by decide) (by decide) (L.op rfl rfl (O.load Tryd.isAgg3 rfl (Blk.at hB7' rfl) (L.op rfl rfl (O.call (xs := [.tmp 26, .tmp 28]) Tryd.call78 rfl rfl (near1_calls b3 b2 n _ _ _ w7 hBl7 hB27 (nbsAt_len _ _ _) hml hgi.1 (by omega) (by omega) (by rw [nbsAt_get (by omega)]; exact nbTo_lt _ _ _)) (fun v8 w8 hq => ?_)))))))))))))))
    obtain ⟨m8, hem8, hu8, hB28⟩ := hq
    rw [nbs_mid rfl hg hlt'] at hB28
    have hB7'' := (hB7'.keep hem8 (Nat.zero_le _)).upd hu8 (by omega)
    have hBl8 := (hBl7.keep hem8 (Nat.zero_le _)).upd hu8 (by omega)
    refine L.nil (T.region (L.op rfl rfl (O.move rfl (L.op rfl rfl (O.indexAddr_arr Tryd.runUnderlying80 Tryd.sizeOf3 rfl rfl (by decide) (by decide) (L.op rfl rfl (O.load Tryd.isAgg3 rfl (Blk.at hB7'' rfl) (L.op rfl rfl (O.indexAddr_arr Tryd.runUnderlying80 Tryd.sizeOf3 rfl rfl (by decide) (by decide) (L.op rfl rfl (O.load Tryd.isAgg3 rfl (Blk.at hB7'' rfl) (L.op rfl rfl (O.call (xs := [.tmp 32, .tmp 34]) Tryd.call78 rfl rfl (near1_calls b3 b2 n _ _ _ w8 hBl8 hB28 (nbsMid_len _ _ _) hml (by omega) (by omega) hgi.1 (by rw [nbsMid_get rfl hg hlt']; exact nbTo_lt _ _ _)) (fun v9 w9 hq => ?_))))))))))))))
    obtain ⟨m9, hem9, hu9, hB29⟩ := hq
    rw [nbs_set rfl hg hlt'] at hB29
    have hBl9 := (hBl8.keep hem9 (Nat.zero_le _)).upd hu9 (by omega)
    refine L.nil (T.blk (T.region (L.op rfl rfl (O.add64 rfl rfl (by omega) (L.op rfl rfl (O.move rfl (L.nil (T.again (i + 1) (by omega) ⟨rfl, rfl, rfl, rfl, rfl, trivial⟩ ⟨hlt', ((((he5.trans he57).trans hem8).upd hu8 (.inr (by omega))).trans hem9).upd hu9 (.inr (by omega)), hBl9, hB29⟩))))))))
  · refine L.nil (?_)
    obtain rfl : i = es.length := by omega
    refine T.seq (T.cond_false rfl (T.exit rfl (T.seq (T.region (L.op rfl rfl (O.load Tryd.isAgg38 rfl (hBl5.cell rfl) (L.op rfl rfl (O.assign rfl (L.nil (T.ret1 Tryd.results72 rfl ⟨he5, Words.of_blk hB25 (nbsAt_len _ _ _) hml (by omega), by have := hBl5.lt; omega⟩))))))))))

end Go.Proofs.YthjdljbghjelfaaDoor
set_option linter.unusedVariables false
set_option linter.unusedSimpArgs false
set_option maxRecDepth 20000
namespace Go.Proofs.YthjdljbghjelfaaDoor
open Go Go.E
attribute [local irreducible] Go.E.T Go.E.L Go.E.O Go.E.Ob

abbrev Mv := Int × Int × Int
def mV (m : Mv) : Value := .agg #[.int .i64 m.1, .int .i64 m.2.1, .int .i64 m.2.2]
def restOf (xs : List Int) (u : Nat) : Nat := mask xs (xs.getD u 0) &&& (18446744073709551615 - bit64 u)
/-- A unit may move to a district. -/
noncomputable def okMove (es : List (Int × Int)) (xs : List Int) (u d : Nat) : Bool := !decide (xs.getD u 0 = (d : Int)) && (!decide (nbTo es (u : Int) es.length &&& mask xs (d : Int) = 0) && connB es (restOf xs u))
noncomputable def rowFrom (es : List (Int × Int)) (xs : List Int) (u : Nat) : Nat → Nat → List Mv
  | _, 0 => []
  | d, c + 1 => if okMove es xs u d then ((u : Int), xs.getD u 0, (d : Int)) :: rowFrom es xs u (d + 1) c else rowFrom es xs u (d + 1) c
noncomputable def allFrom (es : List (Int × Int)) (xs : List Int) (k : Nat) : Nat → Nat → List Mv
  | _, 0 => []
  | u, c + 1 => rowFrom es xs u 0 k ++ allFrom es xs k (u + 1) c
noncomputable def movesOf (es : List (Int × Int)) (xs : List Int) (k n : Nat) : List Mv := allFrom es xs k 0 n
theorem rowFrom_step {es : List (Int × Int)} {xs : List Int} {u d k : Nat} (h : d < k) : rowFrom es xs u d (k - d) = if okMove es xs u d then ((u : Int), xs.getD u 0, (d : Int)) :: rowFrom es xs u (d + 1) (k - (d + 1)) else rowFrom es xs u (d + 1) (k - (d + 1)) := by
  rw [show k - d = (k - (d + 1)) + 1 by omega]; rfl
theorem allFrom_step {es : List (Int × Int)} {xs : List Int} {k u n : Nat} (h : u < n) : allFrom es xs k u (n - u) = rowFrom es xs u 0 k ++ allFrom es xs k (u + 1) (n - (u + 1)) := by
  rw [show n - u = (n - (u + 1)) + 1 by omega]; rfl
theorem rowFrom_none {es : List (Int × Int)} {xs : List Int} {u : Nat} (h : connB es (restOf xs u) = false) : ∀ c d, rowFrom es xs u d c = []
  | 0, _ => rfl
  | c + 1, d => by
    simp only [rowFrom]
    rw [if_neg (by simp [okMove, h])]
    exact rowFrom_none h c (d + 1)
def NextMv (l : List Mv) (v : Value) (l' : List Mv) : Prop := ∃ m, l = m :: l' ∧ v = mV m
theorem keep_round {w1 wB W W' : World} {a : Nat} (hk : Keep a wB W) (h1 : Ext w1 wB) (h2 : Ext w1 W') (hs : ∀ k, a ≤ k ∧ k < wB.heap.size → W'.heap[k]? = W.heap[k]?) (hne : a < wB.heap.size) : Keep a wB W' := by
  refine ⟨h2.os.trans h1.os.symm, h2.tape.trans h1.tape.symm, h2.output.trans h1.output.symm, ?_, fun k hl hlt => (hs k ⟨hl, hlt⟩).trans (hk.block k hl hlt)⟩
  have hlt : wB.heap.size - 1 < wB.heap.size := by omega
  have h3 := ((hs (wB.heap.size - 1) ⟨by omega, hlt⟩).trans (hk.block _ (by omega) hlt)).trans (Array.getElem?_eq_getElem hlt)
  have := (Array.getElem?_eq_some_iff.1 h3).1
  omega
theorem Words.cell_eq {lo : Nat} {w : World} {v : Value} {ms : List Nat} {m : Int} {x : Nat} (h : Words lo w v ms) (h0 : 0 ≤ m) (h1 : m < ms.length) (hx : ms.getD m.toNat 0 = x) : w.cell? ((sAddr v).add (m.toNat * 1)) = some (.int .u64 (x : Int)) := by subst hx; exact h.cell h0 h1
theorem rest_small {xs : List Int} (h : xs.length ≤ 64) (u : Nat) : restOf xs u < 2 ^ xs.length := Nat.lt_of_le_of_lt Nat.and_le_left (mask_small h _)
theorem moves_calls (b : Nat) (w : World) :
    Calls Tryd.prog 53 #[.pointer (some ⟨b, 0, none⟩)] w (Ret fun v w' => Ext w w' ∧ v = .func (.func 71) #[] #[.pointer (some ⟨w.heap.size, 0, none⟩)] ∧ Blk w' w.heap.size [.pointer (some ⟨b, 0, none⟩)] 87) := by
  refine T.enter (vs := [.pointer (some ⟨b, 0, none⟩)]) Tryd.func53 rfl Tryd.ntmps53 rfl ?_
  refine T.seq (T.region (L.op rfl rfl (O.box rfl (fun b1 w1 hb1 hz1 he1 hB1 => ?_))))
  subst hb1
  refine L.op rfl rfl (O.assign rfl (L.nil (T.seq (T.region (L.op rfl rfl (O.makeFunc (fi := []) (ca := [.tmp 1]) rfl rfl (L.op rfl rfl (O.assign rfl (L.nil (T.ret1 Tryd.results53 rfl ⟨he1, rfl, hB1⟩))))))))))

theorem moves1_calls (l bc b lo lo' lo'' n kk : Nat) (pe pp pm : Value) (es : List (Int × Int)) (xs : List Int) (w1 : World) (hE : planErr n es xs kk = 0) (hB : Blk w1 b [.int .i64 n, pe, pp, pm] 91) (hp : Pairs lo w1 pe es) (hx : Ints .i64 lo' w1 pp xs) (hW : Words lo'' w1 pm (masksOf xs kk)) (hT : Tab w1) (J : List Mv → (Nat → Prop) → World → Prop) (X : World → Prop) (w : World) (hJ : Stab J) (hInv' : ∀ i S W, J i S W → Ext w1 W ∧ Blk W bc [.pointer (some ⟨b, 0, none⟩)] 87) (hround : ∀ i v j S W, NextMv i v j → J i S W → Yld Tryd.prog l #[v] W fun u W' => (u = .bool true ∧ J j S W' ∧ ∀ k, S k → W'.heap[k]? = W.heap[k]?) ∨ (u = .bool false ∧ X W')) (h0 : J (movesOf es xs kk n) (fun _ => False) w) :
    Calls Tryd.prog 71 #[.func (.yield l) #[] #[], .pointer (some ⟨bc, 0, none⟩)] w (Ret fun _ w' => (∃ S, (∀ k, False → S k) ∧ J [] S w') ∨ X w') := by
  obtain ⟨hge, hk1, hk8, hlen, hl, hu⟩ := planOk_of hE
  have hgood := Good.of hge
  have hm := labels_mem hl
  have hml := masks_len xs kk
  have hInv := fun i S W h => (hInv' i S W h).1
  have he1w := hInv _ _ _ h0
  refine T.enter (vs := [.func (.yield l) #[] #[], .pointer (some ⟨bc, 0, none⟩)]) Tryd.func71 rfl Tryd.ntmps71 rfl ?_
  refine T.seq (T.region (L.op rfl rfl (O.load Tryd.isAgg87 rfl ((hInv' _ _ _ h0).2.cell rfl) (L.op rfl rfl (O.call (xs := [.tmp 8]) Tryd.call72 rfl rfl (near_calls b lo n pe pp pm es w (hB.keep he1w (Nat.zero_le _)) (hp.keep (he1w.mono (Nat.zero_le lo))) hgood) (fun v2 w2 hq => ?_))))))
  obtain ⟨he2, hN2, hsz2⟩ := hq
  have he12 := he1w.trans he2
  have hJ2 := hJ.1 _ _ (fun k => w.heap.size ≤ k ∧ k < w2.heap.size) _ _ h0 he2 (fun k hk => .inr hk)
  refine L.op rfl rfl (O.assign rfl (L.nil (T.seq (T.region (L.op rfl rfl (O.load Tryd.isAgg87 rfl ((hInv' _ _ _ hJ2).2.cell rfl) (L.op rfl rfl (O.nilCheck rfl (L.op rfl rfl (O.fieldAddr Tryd.runUnderlying91 rfl Tryd.sizeOf35 rfl (L.op rfl rfl (O.load Tryd.isAgg35 rfl (Blk.at (hB.keep he12 (Nat.zero_le _)) rfl) (L.op rfl rfl (O.len Tryd.runUnderlying35 rfl (Sl.val hx) (L.op rfl rfl (O.move rfl (L.nil (T.block (?_)))))))))))))))))))
  refine T.loop (σ := Nat) (fun u => [(0, .func (.yield l) #[] #[]), (1, .pointer (some ⟨bc, 0, none⟩)), (3, v2), (13, pp), (14, .int .i64 xs.length), (15, .int .i64 u)]) (fun u w' => u ≤ n ∧ Ext w1 w' ∧ Keep w.heap.size w2 w' ∧ J (allFrom es xs kk u (n - u)) (fun k => w.heap.size ≤ k ∧ k < w2.heap.size) w') (fun u => n - u) (0) ⟨rfl, rfl, rfl, rfl, rfl, rfl, trivial⟩ ⟨Nat.zero_le _, he12, Keep.refl _ _, hJ2⟩ ?_
  rintro u w3 ⟨hu3, he3, hk3, hJ3⟩
  refine T.seq (T.region (L.op rfl rfl (O.lss_s rfl rfl (fun hlt => ?_) (fun hlt => ?_))))
  · refine L.nil (?_)
    have hlt' : u < n := by omega
    have hfrom := hm.2.2 u (by omega)
    have hx3 := hx.keep (he3.mono (Nat.zero_le lo'))
    refine T.seq (T.cond_true rfl (T.skip (T.seq (T.block (T.seq (T.region (L.op rfl rfl (O.move rfl (L.op rfl rfl (O.indexAddr Tryd.runUnderlying35 Tryd.sizeOf3 rfl rfl hx3 (by omega) (by omega) (L.op rfl rfl (O.load Tryd.isAgg3 rfl (Ints.at hx3 (by omega)) (?_)))))))))))))
    have hgm : (masksOf xs kk).getD (xs.getD u 0).toNat 0 = mask xs (xs.getD u 0) := by rw [masks_getElem (by omega), Int.toNat_of_nonneg hfrom.1]
    have hB3 := hB.keep he3 (Nat.zero_le _)
    have hBc3 := (hInv' _ _ _ hJ3).2
    have hW3 := hW.keep (he3.mono (Nat.zero_le lo''))
    have hp3 := hp.keep (he3.mono (Nat.zero_le lo))
    refine L.op rfl rfl (O.assign rfl (L.op rfl rfl (O.assign rfl (L.nil (T.seq (T.seq (?_)))))))
    refine T.par mixed 13 [1, 5, 4] rfl [.is _, .is _, .is _, .is _, .is _, .is _, .is _, .is _, .is _, .is _, .is _, .is _, .is _] [[], [], [1], [2], [3], [], [4, 5], [6], [], [8], [7, 9], [0, 10], [11]] (by kernel_rfl) rfl ⟨trivial, trivial, trivial, trivial, trivial, trivial, trivial, trivial, trivial, trivial, trivial, trivial, trivial, trivial⟩ ⟨fun wx hx => Ob.op rfl (O.load Tryd.isAgg87 rfl ((hBc3.keep hx (Nat.zero_le _)).cell rfl) ⟨Keep.refl _ _, rfl⟩),
        fun wx hx => Ob.op rfl (O.load Tryd.isAgg87 rfl ((hBc3.keep hx (Nat.zero_le _)).cell rfl) ⟨Keep.refl _ _, rfl⟩),
        fun wx hx => Ob.op rfl (O.nilCheck rfl ⟨Keep.refl _ _, rfl⟩),
        fun wx hx => Ob.op rfl (O.fieldAddr Tryd.runUnderlying91 rfl Tryd.sizeOf38 rfl ⟨Keep.refl _ _, rfl⟩),
        fun wx hx => Ob.op rfl (O.load Tryd.isAgg38 rfl (Blk.at (hB3.keep hx (Nat.zero_le _)) rfl) ⟨Keep.refl _ _, rfl⟩),
        fun wx hx => Ob.op rfl (O.move rfl ⟨Keep.refl _ _, rfl⟩),
        fun wx hx => Ob.op rfl (O.indexAddr Tryd.runUnderlying38 Tryd.sizeOf46 rfl rfl (hW3.keep (hx.mono (Nat.zero_le _))) hfrom.1 (by rw [hml]; omega) ⟨Keep.refl _ _, rfl⟩),
        fun wx hx => Ob.op rfl (O.load Tryd.isAgg46 rfl (Words.cell_eq (hW3.keep (hx.mono (Nat.zero_le _))) hfrom.1 (by rw [hml]; omega) hgm) ⟨Keep.refl _ _, rfl⟩),
        fun wx hx => Ob.op rfl (O.move rfl ⟨Keep.refl _ _, rfl⟩),
        fun wx hx => Ob.op rfl (O.bit_u64 rfl rfl (by omega) ⟨Keep.refl _ _, rfl⟩),
        fun wx hx => Ob.op rfl (O.andNot_u64 rfl rfl (mask_lt _ _) (bit64_lt _) rfl rfl ⟨Keep.refl _ _, rfl⟩),
        fun wx hx => Ob.op rfl (O.call (xs := [.tmp 20, .tmp 30]) Tryd.call50 rfl rfl (whole_calls b lo n pe pp pm es (restOf xs u) wx (hB3.keep hx (Nat.zero_le _)) (hp3.keep (hx.mono (Nat.zero_le _))) hge (by rw [← hlen]; exact rest_small hm.2.1 u) (hT.keep (he3.trans hx))) (fun v wy h => h)),
        fun wx hx => Ob.op rfl (O.not rfl ⟨Keep.refl _ _, rfl⟩),
        trivial⟩ (fun w4 he4 => ?_)
    refine L.nil (?_)
    have hJ4 := hJ.1 _ _ (fun k => w.heap.size ≤ k ∧ k < w2.heap.size) _ _ hJ3 he4 (fun k hk => .inl hk)
    have he14 := he3.trans he4
    have hk4 := hk3.ext he4
    rw [allFrom_step hlt'] at hJ4
    cases hc : connB es (restOf xs u)
    · rw [show rowFrom es xs u 0 kk = [] from rowFrom_none hc _ _, List.nil_append] at hJ4
      refine T.cond_true rfl (T.exit rfl (T.region (L.op rfl rfl (O.add64 rfl rfl (by omega) (L.op rfl rfl (O.move rfl (L.nil (T.again (u + 1) (by omega) ⟨rfl, rfl, rfl, rfl, rfl, rfl, trivial⟩ ⟨hlt', he14, hk4, hJ4⟩))))))))
    · have hB4 := hB.keep he14 (Nat.zero_le _)
      have hBc4 := (hInv' _ _ _ hJ4).2
      have hW4 := hW.keep (he14.mono (Nat.zero_le lo''))
      refine T.cond_false rfl (T.skip (T.seq (T.region (L.op rfl rfl (O.load Tryd.isAgg87 rfl (hBc4.cell rfl) (L.op rfl rfl (O.nilCheck rfl (L.op rfl rfl (O.fieldAddr Tryd.runUnderlying91 rfl Tryd.sizeOf38 rfl (L.op rfl rfl (O.load Tryd.isAgg38 rfl (Blk.at hB4 rfl) (L.op rfl rfl (O.len Tryd.runUnderlying38 rfl (Sl.val hW4) (L.op rfl rfl (O.move rfl (L.nil (T.block (?_))))))))))))))))))
      refine T.loop (σ := Nat) (fun d => [(0, .func (.yield l) #[] #[]), (1, .pointer (some ⟨bc, 0, none⟩)), (3, v2), (4, .int .i64 u), (5, .int .i64 (xs.getD u 0)), (13, pp), (14, .int .i64 xs.length), (15, .int .i64 u), (36, pm), (37, .int .i64 (masksOf xs kk).length), (38, .int .i64 d)]) (fun d w' => d ≤ kk ∧ Ext w1 w' ∧ Keep w.heap.size w2 w' ∧ J (rowFrom es xs u d (kk - d) ++ allFrom es xs kk (u + 1) (n - (u + 1))) (fun k => w.heap.size ≤ k ∧ k < w2.heap.size) w') (fun d => kk - d) (0) ⟨rfl, rfl, rfl, rfl, rfl, rfl, rfl, rfl, rfl, rfl, rfl, trivial⟩ ⟨Nat.zero_le _, he14, hk4, hJ4⟩ ?_
      rintro d w5 ⟨hd5, he5, hk5, hJ5⟩
      refine T.seq (T.region (L.op rfl rfl (O.lss_s rfl rfl (fun hlt2 => ?_) (fun hlt2 => ?_))))
      · refine L.nil (?_)
        have hlt2' : d < kk := by omega
        have hW5 := hW.keep (he5.mono (Nat.zero_le lo''))
        have hN5 := hN2.keep hk5
        have hmd : (masksOf xs kk).getD d 0 = mask xs d := masks_getElem hlt2'
        have hnu := nbs_get (es := es) hlt'
        rw [rowFrom_step hlt2'] at hJ5
        refine T.seq (T.cond_true rfl (T.skip (T.seq (T.block (T.seq (T.region (L.op rfl rfl (O.move rfl (L.op rfl rfl (O.indexAddr Tryd.runUnderlying38 Tryd.sizeOf46 rfl rfl hW5 (by omega) (by omega) (L.op rfl rfl (O.load Tryd.isAgg46 rfl (Words.cell_eq hW5 (m := (d : Int)) (by omega) (by omega) hmd) (L.op rfl rfl (O.assign rfl (L.op rfl rfl (O.assign rfl (L.nil (T.seq (T.region (L.op rfl rfl (O.move rfl (L.op rfl rfl (O.move rfl (L.op rfl rfl (O.neq_s rfl rfl (fun hto => ?_) (fun hto => ?_))))))))))))))))))))))))))
        · refine L.op rfl rfl (O.move rfl (L.op rfl rfl (O.move rfl (L.op rfl rfl (O.move rfl (L.op rfl rfl (O.indexAddr Tryd.runUnderlying38 Tryd.sizeOf46 rfl rfl hN5 (by omega) (by rw [nbs_len]; omega) (L.op rfl rfl (O.load Tryd.isAgg46 rfl (Words.cell_eq hN5 (m := (u : Int)) (by omega) (by rw [nbs_len]; omega) hnu) (L.op rfl rfl (O.move rfl (L.op rfl rfl (O.and_u64 rfl rfl (nbTo_lt _ _ _) (mask_lt _ _) rfl rfl (L.op rfl rfl (O.neq_s rfl rfl (fun hnb => ?_) (fun hnb => ?_))))))))))))))))
          · have hok : okMove es xs u d = true := by
              simp only [okMove, Bool.and_eq_true, Bool.not_eq_true', decide_eq_false_iff_not]
              exact ⟨by omega, by omega, hc⟩
            rw [if_pos hok, List.cons_append] at hJ5
            refine L.op rfl rfl (O.pick_true rfl rfl (L.op rfl rfl (O.move rfl (L.op rfl rfl (O.move rfl (L.op rfl rfl (O.move rfl (L.op rfl rfl (O.move rfl (L.op rfl rfl (O.move rfl (L.op rfl rfl (O.build (v := .agg #[.int .i64 u, .int .i64 (xs.getD u 0), .int .i64 d]) (parts := [(0, .tmp 57), (1, .tmp 58), (2, .tmp 59)]) (vs := [(0, _), (1, _), (2, _)]) rfl (fun w => by kernel_rfl) (L.op rfl rfl (O.yield (xs := [.tmp 60]) rfl rfl rfl (hround _ _ _ _ _ ⟨((u : Int), xs.getD u 0, (d : Int)), rfl, rfl⟩ hJ5) (fun v6 w6 hq => ?_))))))))))))))))
            obtain hq := hq
            rcases hq with ⟨rfl, hj6, hk6⟩ | ⟨rfl, hX⟩
            · refine L.op rfl rfl (O.not rfl (L.op rfl rfl (O.pick_true rfl rfl (L.nil (T.cond_false rfl (T.skip (T.blk (T.region (L.op rfl rfl (O.add64 rfl rfl (by omega) (L.op rfl rfl (O.move rfl (L.nil (T.again (d + 1) (by omega) ⟨rfl, rfl, rfl, rfl, rfl, rfl, rfl, rfl, rfl, rfl, rfl, trivial⟩ ⟨hlt2', hInv _ _ _ hj6, keep_round hk5 he12 (hInv _ _ _ hj6) hk6 hsz2, hj6⟩))))))))))))))
            · refine L.op rfl rfl (O.not rfl (L.op rfl rfl (O.pick_true rfl rfl (L.nil (T.cond_true rfl (T.ret0 Tryd.results71 (.inr hX)))))))
          · rw [if_neg (by simp only [okMove, Bool.and_eq_true, Bool.not_eq_true', decide_eq_false_iff_not]; omega)] at hJ5
            refine L.op rfl rfl (O.pick_true rfl rfl (L.op rfl rfl (O.move rfl (L.pass rfl rfl (L.pass rfl rfl (L.pass rfl rfl (L.pass rfl rfl (L.pass rfl rfl (L.pass rfl rfl (L.pass rfl rfl (L.op rfl rfl (O.pick_false rfl rfl (L.nil (T.cond_false rfl (T.skip (T.blk (T.region (L.op rfl rfl (O.add64 rfl rfl (by omega) (L.op rfl rfl (O.move rfl (L.nil (T.again (d + 1) (by omega) ⟨rfl, rfl, rfl, rfl, rfl, rfl, rfl, rfl, rfl, rfl, rfl, trivial⟩ ⟨hlt2', he5, hk5, hJ5⟩)))))))))))))))))))))))
        · rw [if_neg (by simp only [okMove]; rw [decide_eq_true (show xs.getD u 0 = (d : Int) by omega)]; simp)] at hJ5
          refine L.op rfl rfl (O.move rfl (L.pass rfl rfl (L.pass rfl rfl (L.pass rfl rfl (L.pass rfl rfl (L.pass rfl rfl (L.pass rfl rfl (L.pass rfl rfl (L.op rfl rfl (O.pick_false rfl rfl (L.op rfl rfl (O.move rfl (L.pass rfl rfl (L.pass rfl rfl (L.pass rfl rfl (L.pass rfl rfl (L.pass rfl rfl (L.pass rfl rfl (L.pass rfl rfl (L.op rfl rfl (O.pick_false rfl rfl (L.nil (T.cond_false rfl (T.skip (T.blk (T.region (L.op rfl rfl (O.add64 rfl rfl (by omega) (?_)))))))))))))))))))))))))))))
          refine L.op rfl rfl (O.move rfl (L.nil (T.again (d + 1) (by omega) ⟨rfl, rfl, rfl, rfl, rfl, rfl, rfl, rfl, rfl, rfl, rfl, trivial⟩ ⟨hlt2', he5, hk5, hJ5⟩)))
      · refine L.nil (?_)
        obtain rfl : d = kk := by omega
        rw [Nat.sub_self] at hJ5
        refine T.seq (T.cond_false rfl (T.exit rfl (T.blk (T.region (L.op rfl rfl (O.add64 rfl rfl (by omega) (L.op rfl rfl (O.move rfl (L.nil (T.again (u + 1) (by omega) ⟨rfl, rfl, rfl, rfl, rfl, rfl, trivial⟩ ⟨hlt', he5, hk5, hJ5⟩))))))))))
  · refine L.nil (?_)
    obtain rfl : u = n := by omega
    rw [Nat.sub_self] at hJ3
    refine T.seq (T.cond_false rfl (T.exit rfl (T.end0 Tryd.results71 (.inl ⟨_, fun _ h => h.elim, hJ3⟩))))

theorem moves_seq (bc b lo lo' lo'' n kk : Nat) (pe pp pm : Value) (es : List (Int × Int)) (xs : List Int) (w1 : World) (hE : planErr n es xs kk = 0) (hB : Blk w1 b [.int .i64 n, pe, pp, pm] 91) (hp : Pairs lo w1 pe es) (hx : Ints .i64 lo' w1 pp xs) (hW : Words lo'' w1 pm (masksOf xs kk)) (hT : Tab w1) :
    SeqC Tryd.prog 71 #[.pointer (some ⟨bc, 0, none⟩)] NextMv (movesOf es xs kk n) [] (fun W => Ext w1 W ∧ Blk W bc [.pointer (some ⟨b, 0, none⟩)] 87) (fun _ => False) (fun _ => True) :=
  fun l J X W hJ hInv hround h0 _ => moves1_calls l bc b lo lo' lo'' n kk pe pp pm es xs w1 hE hB hp hx hW hT J X W hJ hInv hround h0
end Go.Proofs.YthjdljbghjelfaaDoor
set_option linter.unusedVariables false
set_option linter.unusedSimpArgs false
set_option maxRecDepth 20000
namespace Go.Proofs.YthjdljbghjelfaaDoor
open Go Go.E
attribute [local irreducible] Go.E.T Go.E.L Go.E.O Go.E.Ob

def mcells : List Mv → List Value
  | [] => []
  | m :: r => .int .i64 m.1 :: .int .i64 m.2.1 :: .int .i64 m.2.2 :: mcells r
theorem mcells_len : ∀ ms, (mcells ms).length = ms.length * 3
  | [] => rfl
  | m :: r => by simp [mcells, mcells_len r]; omega
theorem mcells_snoc : ∀ (ms : List Mv) (m : Mv), mcells (ms ++ [m]) = mcells ms ++ [.int .i64 m.1, .int .i64 m.2.1, .int .i64 m.2.2]
  | [], _ => rfl
  | x :: r, m => by simp [mcells, mcells_snoc r m]
theorem mcells_at : ∀ (ms : List Mv) (i : Nat), i < ms.length → (mcells ms)[i * 3]? = some (.int .i64 (ms.getD i (0, 0, 0)).1) ∧ (mcells ms)[i * 3 + 1]? = some (.int .i64 (ms.getD i (0, 0, 0)).2.1) ∧ (mcells ms)[i * 3 + 2]? = some (.int .i64 (ms.getD i (0, 0, 0)).2.2)
  | m :: r, 0, _ => ⟨rfl, rfl, rfl⟩
  | m :: r, i + 1, h => by
    rw [show (i + 1) * 3 = i * 3 + 3 by omega, show i * 3 + 3 + 1 = i * 3 + 1 + 3 by omega, show i * 3 + 3 + 2 = i * 3 + 2 + 3 by omega]
    simpa [mcells] using mcells_at r i (by simpa using h)
def MvSl (lo : Nat) (w : World) (v : Value) (ms : List Mv) : Prop := Sl lo w v ms.length 3 (mcells ms)
theorem MvSl.row {w : World} {v : Value} {lo : Nat} {ms : List Mv} (h : MvSl lo w v ms) {i : Nat} (hi : i < ms.length) : Row w ((sAddr v).add ((i : Int).toNat * 3)) [.int .i64 (ms.getD i (0, 0, 0)).1, .int .i64 (ms.getD i (0, 0, 0)).2.1, .int .i64 (ms.getD i (0, 0, 0)).2.2] := by
  intro j u hj
  obtain ⟨h0, h1, h2⟩ := mcells_at ms i hi
  rcases j with _ | _ | _ | j
  · simp only [List.getElem?_cons_zero, Option.some.injEq] at hj; subst hj
    exact Sl.at h h0
  · simp only [Nat.zero_add, List.getElem?_cons_succ, List.getElem?_cons_zero, Option.some.injEq] at hj; subst hj
    exact Sl.at h h1
  · simp only [Nat.zero_add, List.getElem?_cons_succ, List.getElem?_cons_zero, Option.some.injEq] at hj; subst hj
    exact Sl.at h h2
  · simp at hj
theorem rowFrom_len (es : List (Int × Int)) (xs : List Int) (u : Nat) : ∀ c d, (rowFrom es xs u d c).length ≤ c
  | 0, _ => by simp [rowFrom]
  | c + 1, d => by
    have := rowFrom_len es xs u c (d + 1)
    simp only [rowFrom]
    split
    · simp only [List.length_cons]; omega
    · omega
theorem allFrom_len (es : List (Int × Int)) (xs : List Int) (k : Nat) : ∀ c u, (allFrom es xs k u c).length ≤ c * k
  | 0, _ => by simp [allFrom]
  | c + 1, u => by
    have h1 := allFrom_len es xs k c (u + 1)
    have h2 := rowFrom_len es xs u k 0
    simp only [allFrom, List.length_append]
    rw [Nat.add_mul]; omega
theorem moves_len {es : List (Int × Int)} {xs : List Int} {k n : Nat} (hn : n ≤ 64) (hk : k ≤ 8) : (movesOf es xs k n).length ≤ 512 := by
  have h1 := allFrom_len es xs k n 0
  have h2 : n * k ≤ 64 * 8 := Nat.mul_le_mul hn hk
  unfold movesOf; omega
/-- What 'Moves' hands back. -/
def MovesPost (N : Int) (es : List (Int × Int)) (xs : List Int) (k : Int) (w : World) (v : Value) (w' : World) : Prop :=
  Ext w w' ∧ ∃ l, v = .tuple #[l, .int .i64 (planErr N es xs k)] ∧ MvSl w.heap.size w' l (if planErr N es xs k = 0 then movesOf es xs k.toNat N.toNat else [])
theorem Moves_calls (lo lo' : Nat) (N k : Int) (pe pp : Value) (es : List (Int × Int)) (xs : List Int) (w : World) (hp : Pairs lo w pe es) (hx : Ints .i64 lo' w pp xs) (hT : Tab w) :
    Calls Tryd.prog 21 #[gV N pe, pp, .int .i64 k] w (Ret fun v w' => MovesPost N es xs k w v w') := by
  refine T.enterM (vs := [gV N pe, pp, .int .i64 k]) Tryd.func21 rfl Tryd.ntmps21 rfl ?_
  refine T.seq (T.region (L.op rfl rfl (O.box rfl (fun b1 w1 hb1 hz1 he1 hB1 => ?_))))
  refine L.op rfl rfl (O.assign rfl (L.op rfl rfl (O.assign rfl (L.nil (T.seq (T.region (L.op rfl rfl (O.loadAgg Tryd.isAgg33 Tryd.sizeOf33 rfl rfl hB1.row (L.op rfl rfl (O.move rfl (L.op rfl rfl (O.move rfl (L.op rfl rfl (O.call (xs := [.tmp 13, .tmp 14, .tmp 15]) Tryd.call49 rfl rfl (drawn_calls lo lo' N k pe pp es xs w1 (hp.keep (he1.mono (Nat.zero_le lo))) (hx.keep (he1.mono (Nat.zero_le lo')))) (fun v2 w2 hq => ?_)))))))))))))))
  obtain ⟨he2, hq2⟩ := hq
  have he02 := he1.trans he2
  rcases hq2 with ⟨hE, rfl⟩ | ⟨hE, b, pm, rfl, hb, hB2, hW2⟩
  · refine L.op rfl rfl (O.move rfl (L.op rfl rfl (O.extract rfl rfl (L.op rfl rfl (O.extract rfl rfl (L.op rfl rfl (O.assign rfl (L.op rfl rfl (O.assign rfl (L.nil (T.seq (T.seq (T.region (L.op rfl rfl (O.move rfl (L.op rfl rfl (O.neq_t rfl rfl hE (L.nil (T.cond_true rfl (T.seq (T.region (L.op rfl rfl (O.move rfl (L.op rfl rfl (O.assign rfl (L.op rfl rfl (O.assign rfl (L.nil (T.retM2 Tryd.results21 rfl rfl (Opn.nil _) (fun w' hs => ⟨he02.shut hs (fun r hr => by cases hr), _, rfl, by rw [if_neg hE]; exact Sl.nil _ _ _⟩))))))))))))))))))))))))))))))
  · refine L.op rfl rfl (O.move rfl (L.op rfl rfl (O.extract rfl rfl (L.op rfl rfl (O.extract rfl rfl (L.op rfl rfl (O.assign rfl (L.op rfl rfl (O.assign rfl (L.nil (T.seq (T.seq (T.region (L.op rfl rfl (O.move rfl (L.op rfl rfl (O.neq_f rfl rfl (by decide) (?_))))))))))))))))))
    obtain ⟨hge, hk1, hk8, hlen, hl, hu⟩ := planOk_of hE
    obtain ⟨kk, rfl⟩ : ∃ kk : Nat, k = (kk : Int) := ⟨k.toNat, by omega⟩
    obtain ⟨n, rfl⟩ : ∃ n : Nat, N = (n : Int) := ⟨N.toNat, by omega⟩
    rw [Int.toNat_natCast] at hW2
    have hm := labels_mem hl
    have hml := moves_len (es := es) (xs := xs) (k := kk) (n := n) (by omega) (by omega)
    have hT2 := hT.keep he02
    refine L.nil (T.cond_false rfl (T.skip (T.seq (T.region (L.op rfl rfl (O.alloc Tryd.zeroValue52 (fun b3 w3 hb3 hz3 he3 hB3 => ?_)))))))
    refine L.nil (T.seq (T.seq (T.region (L.op rfl rfl (O.move rfl (L.op rfl rfl (O.call (xs := [.tmp 22]) Tryd.call53 rfl rfl (moves_calls b w3) (fun v4 w4 hq => ?_))))))))
    obtain ⟨he4, rfl, hBc4⟩ := hq
    have he24 := he3.trans he4
    have hz4 := he4.size
    have hbc4 := hBc4.lt
    have hB34 : Blk w4 b3 [.slice none 0 0] 52 := hB3.keep he4 (Nat.zero_le _)
    refine L.nil (T.block (?_))
    refine T.rangeFuncM (e1 := fun v x => [(10, .pointer (some ⟨b3, 0, none⟩)), (11, .pointer (some ⟨x, 0, none⟩))]) (fun rem S w' => Ext w2 w' ∧ Blk w' w3.heap.size [.pointer (some ⟨b, 0, none⟩)] 87 ∧ (∀ k, S k → w4.heap.size ≤ k ∧ k < w'.heap.size) ∧ w4.heap.size ≤ w'.heap.size ∧ ∃ (done : List Mv) (lv : Value), done ++ rem = movesOf es xs kk n ∧ Blk w' b3 [lv] 52 ∧ w'.ownsRow w4.heap.size 51 3 lv done.length (mcells done) ∧ ∀ j, lv.ownBlock = some j → ¬ S j) (fun _ _ _ => False) (fun v x w' => ∃ m : Mv, v = mV m ∧ Blk w' x [.int .i64 m.1, .int .i64 m.2.1, .int .i64 m.2.2] 51) rfl Tryd.call71 rfl (moves_seq w3.heap.size b lo lo' w1.heap.size n kk pe pp pm es xs w2 hE hB2 (hp.keep (he02.mono (Nat.zero_le lo))) (hx.keep (he02.mono (Nat.zero_le lo'))) hW2 hT2) ?_ ?_ ?_ ?_ ?_ ?_ ?_ ?_ ?_ ?_ ?_
    · refine ⟨?_, ?_⟩
      · rintro i S S' W W' ⟨h1, h2, h3, hsz, done, lv, h4, h5, h6, h7⟩ he hS
        refine ⟨h1.trans he, h2.keep he (Nat.zero_le _), fun k hk => ?_, Nat.le_trans hsz he.size, done, lv, h4, h5.keep he (Nat.zero_le _), owns_keep h6 he (Nat.zero_le _), fun j hj hs => ?_⟩
        · rcases hS _ hk with h | h
          · exact ⟨(h3 k h).1, Nat.lt_of_lt_of_le (h3 k h).2 he.size⟩
          · exact ⟨by omega, h.2⟩
        · rcases hS _ hs with h | h
          · exact h7 j hj h
          · have := (own_at h6 hj).2; omega
      · rintro i S W W' b' ⟨h1, h2, h3, hsz, done, lv, h4, h5, h6, h7⟩ hb hu
        have hb' := (h3 b' hb).1
        refine ⟨h1.upd hu (.inr (by have := he24.size; omega)), h2.upd hu (by omega), fun k hk => by rw [hu.size]; exact h3 k hk, by rw [hu.size]; exact hsz, done, lv, h4, h5.upd hu (by omega), owns_upd' h6 (fun j hj e => h7 j hj (e ▸ hb)) hu, h7⟩
    · exact fun _ _ _ _ _ h _ _ => h.elim
    · exact fun i S W h => ⟨h.1, h.2.1⟩
    · exact ⟨he24, hBc4, fun k hk => hk.elim, Nat.le_refl _, [], .slice none 0 0, rfl, hB34, owns_nil _ _ _ _, fun j hj => (by cases hj)⟩
    · exact fun k hk => hk.elim
    · exact fun W hW => trivial
    · rintro v x W W' b' ⟨m, h1, h2⟩ hne hu
      exact ⟨m, h1, h2.upd hu (Ne.symm hne)⟩
    · intro l Q i j v k W hn hK
      obtain ⟨m, _, rfl⟩ := hn
      refine T.region (L.op rfl rfl (O.alloc Tryd.zeroValue51 (fun b5 w5 hb5 hz5 he5 hB5 => ?_)))
      refine L.op rfl rfl (O.storeAgg Tryd.sizeOf51 rfl rfl rfl hB5 (Nat.le_refl _) (by simp [Value.oneCell']) (fun w6 hu6 hB6 => ?_))
      refine L.nil (T.sub ?_ (hK b5 _ (by omega) (he5.upd hu6 (.inr (by omega))) ⟨m, rfl, hB6⟩))
      exact ⟨rfl, rfl, trivial⟩
    · rintro l rem v x rem' S w7 ⟨m', rfl, rfl⟩ ⟨he7, hBc7, hS7, hsz7, done, lv, hd7, hB37, hO7, hF7⟩ ⟨m, hmm, hBx7⟩
      obtain rfl : m' = m := by
        have h := congrArg Value.cells hmm
        simp [mV, Value.cells] at h
        exact Prod.ext h.1 (Prod.ext h.2.1 h.2.2)
      refine T.block (T.region (L.op rfl rfl (O.load Tryd.isAgg52 rfl (hB37.cell rfl) (L.op rfl rfl (O.loadAgg Tryd.isAgg51 Tryd.sizeOf51 rfl rfl hBx7.row (L.op rfl rfl (O.buildSlice (el := 51) (parts := [(0, .tmp 26)]) (vs := [(0, _)]) (cs := [.int .i64 m'.1, .int .i64 m'.2.1, .int .i64 m'.2.2]) rfl (fun w => by kernel_rfl) (fun b8 w8 hb8 hz8 he8 hB8 => ?_))))))))
      have hdl : done.length < 512 := by have := congrArg List.length hd7; simp at this; omega
      refine L.op rfl rfl (O.appendF (size := 3) (bytes := 24) Tryd.runUnderlying52 Tryd.infoOf51 rfl rfl rfl rfl (by decide) rfl rfl (owns_keep hO7 he8 (Nat.zero_le _)) (show [Value.int .i64 m'.1, .int .i64 m'.2.1, .int .i64 m'.2.2].length = 1 * 3 from rfl) hB8.row (by intro c hc; simp at hc; rcases hc with (rfl|rfl|rfl) <;> rfl) (by omega) (by simp only [maxLen]; omega) (by have := he8.size; omega) (fun v9 w9 hO9 hG9 hF9 => ?_))
      have hOwn7 : ∀ j, lv.ownBlock = some j → w4.heap.size ≤ j := fun j hj => (own_at hO7 hj).1
      have hOwn9 : ∀ j, v9.ownBlock = some j → w4.heap.size ≤ j := fun j hj => (own_at hO9 hj).1
      have hB39 := (hB37.keep he8 (Nat.zero_le _)).grown hG9 (fun j hj => by have := hOwn7 j hj; omega)
      have hBc9 := (hBc7.keep he8 (Nat.zero_le _)).grown hG9 (fun j hj => by have := hOwn7 j hj; omega)
      have h89 := hG9.size
      refine L.op rfl rfl (O.store1 Tryd.sizeOf52 (Sl.one (Sl.of_owns hO9)) rfl rfl hB39 (by simp [Value.cells]) (fun w10 hu10 hB10 => ?_))
      refine L.nil (T.blk (T.roundEnd ⟨⟨((he7.trans he8).grown0 hO7 hG9 he24.size).upd hu10 (.inr (by have := he3.size; omega)), hBc9.upd hu10 (by omega), fun k hk => ?_, ?_, done ++ [m'], v9, ?_, hB10, ?_, fun j hj hs => ?_⟩, fun k hk => ?_⟩))
      · rw [hu10.size]; have := hS7 k hk; have := he8.size; omega
      · rw [hu10.size]; have := he8.size; omega
      · rw [List.append_assoc]; exact hd7
      · rw [mcells_snoc, List.length_append]
        exact owns_upd' hO9 (fun j hj e => by have := hOwn9 j hj; omega) hu10
      · rcases hF9 j hj with h | h
        · exact hF7 j h hs
        · have := (hS7 j hs).2; have := he8.size; omega
      · have h1 := hS7 k hk
        rw [hu10.block k (by omega), hG9.block k (by have := he8.size; omega) (fun e => hF7 k e.symm hk), he8.block k (Nat.zero_le _) h1.2]
    · rintro S D w7 hD hS0 hSD ⟨he7, hBc7, hS7, hsz7, done, lv, hd7, hB37, hO7, hF7⟩ hD7
      refine T.blk (T.seq (T.region (L.op rfl rfl (O.load Tryd.isAgg52 rfl (hB37.cell rfl) (?_)))))
      rw [List.append_nil] at hd7
      refine L.op rfl rfl (O.assign rfl (L.op rfl rfl (O.assign rfl (L.nil (T.retM2 Tryd.results21 rfl rfl ⟨List.nodup_cons.2 ⟨List.not_mem_nil, List.nodup_nil⟩, fun r hr => by rw [List.mem_singleton] at hr; subst hr; exact hD7⟩ (fun w' hs => ⟨(he02.trans he7).shut hs (fun r hr => ?_), lv, by rw [hE], ?_⟩))))))
      · rw [List.mem_singleton] at hr; subst hr; have := he24.size; have := he02.size; exact .inr (by omega)
      · rw [if_pos hE, Int.toNat_natCast, Int.toNat_natCast, ← hd7]
        have ho : Opn [D] w7 := ⟨List.nodup_cons.2 ⟨List.not_mem_nil, List.nodup_nil⟩, fun r hr => by rw [List.mem_singleton] at hr; subst hr; exact hD7⟩
        exact (Sl.of_owns (ho.shut_owns hO7 hs)).mono (Nat.le_trans he02.size he24.size)
    · exact fun _ _ _ _ _ _ h _ => h.elim

end Go.Proofs.YthjdljbghjelfaaDoor
