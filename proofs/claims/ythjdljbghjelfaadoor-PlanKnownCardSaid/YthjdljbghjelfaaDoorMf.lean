/-
  Walks of the plans' functions (4). Conditions: those of each statement.
-/
import Derived.Test.YthjdljbghjelfaaDoorMe
import Derived.Test.YthjdljbghjelfaaDoorMb
set_option linter.unusedVariables false
set_option linter.unusedSimpArgs false
set_option maxRecDepth 20000
namespace Go.Proofs.YthjdljbghjelfaaDoor
open Go Go.E
attribute [local irreducible] Go.E.T Go.E.L Go.E.O Go.E.Ob

/-- The greatest one of some numbers, one after the other. -/
def mostTo (mat : List Int) (f : Nat → Int) (d taken : Nat) : Nat → Int
  | 0 => 0
  | x + 1 => if taken / 2 ^ x % 2 = 0 then (if mostTo mat f d taken x < mat.getD (x * 8 + d) 0 + f (taken + 2 ^ x) then mat.getD (x * 8 + d) 0 + f (taken + 2 ^ x) else mostTo mat f d taken x) else mostTo mat f d taken x
/-- The greatest number of units with equal labels, for the last labels. -/
def alikeF (mat : List Int) : Nat → Nat → Int
  | 0, _ => 0
  | c + 1, taken => mostTo mat (alikeF mat c) (8 - (c + 1)) taken 8
def Small (mat : List Int) : Prop := ∀ j, 0 ≤ mat.getD j 0 ∧ mat.getD j 0 ≤ 64
theorem mostTo_le {mat : List Int} (hm : Small mat) {f : Nat → Int} {b : Int} (h0 : 0 ≤ b) (hf : ∀ t, 0 ≤ f t ∧ f t ≤ b) (d taken : Nat) : ∀ x, 0 ≤ mostTo mat f d taken x ∧ mostTo mat f d taken x ≤ b + 64
  | 0 => by simp only [mostTo]; omega
  | x + 1 => by
    have ih := mostTo_le hm h0 hf d taken x
    have h1 := hm (x * 8 + d)
    have h2 := hf (taken + 2 ^ x)
    simp only [mostTo]
    split
    · split <;> omega
    · exact ih
theorem alikeF_le {mat : List Int} (hm : Small mat) : ∀ c t, 0 ≤ alikeF mat c t ∧ alikeF mat c t ≤ 64 * c
  | 0, t => by simp [alikeF]
  | c + 1, t => by
    have := mostTo_le hm (b := 64 * c) (by omega) (fun t => alikeF_le hm c t) (8 - (c + 1)) t 8
    simp only [alikeF]; omega
def matV (mat : List Int) : Value := .agg (mat.map (Value.int .i64)).toArray
theorem alike_fix {mat : List Int} {a b a' b' : Int} {w : World} {R : Ending → World → Prop} (h : Calls Tryd.prog 61 #[matV mat, .int .i64 a, .int .i64 b] w R) (ha : a = a') (hb : b = b') : Calls Tryd.prog 61 #[matV mat, .int .i64 a', .int .i64 b'] w R := by subst ha; subst hb; exact h
theorem mat_cell {mat : List Int} {w : World} {b : Nat} {t : TypeId} (hB : Blk w b (mat.map (Value.int .i64)) t) {x d : Nat} (h : x * 8 + d < mat.length) : w.cell? (((⟨b, 0, none⟩ : Addr).add ((x : Int).toNat * 8)).add ((d : Int).toNat * 1)) = some (.int .i64 (mat.getD (x * 8 + d) 0)) := by
  refine Blk.at2 hB ?_
  rw [Int.toNat_natCast, Int.toNat_natCast, Nat.mul_one, Nat.zero_add]
  simp [h, List.getD]
theorem alike_step (mat : List Int) (c t : Nat) (w : World) (hl : mat.length = 64) (hs : Small mat) (hc : c ≤ 8) (ht : t ≤ 128 * (8 - c)) (ih : ∀ c' t' w', c = c' + 1 → t' ≤ 128 * (8 - c') → Calls Tryd.prog 61 #[matV mat, .int .i64 ((8 - c' : Nat) : Int), .int .i64 t'] w' (Ret fun v w'' => v = .int .i64 (alikeF mat c' t') ∧ Ext w' w'')) :
    Calls Tryd.prog 61 #[matV mat, .int .i64 ((8 - c : Nat) : Int), .int .i64 t] w (Ret fun v w' => v = .int .i64 (alikeF mat c t) ∧ Ext w w') := by
  refine T.enter (vs := [matV mat, .int .i64 ((8 - c : Nat) : Int), .int .i64 t]) Tryd.func61 rfl Tryd.ntmps61 rfl ?_
  refine T.seq (T.region (L.op rfl rfl (O.box rfl (fun b1 w1 hb1 hz1 he1 hB1 => ?_))))
  have hB1' : Blk w1 b1 (mat.map (Value.int .i64)) 104 := hB1
  refine L.op rfl rfl (O.assign rfl (L.nil (T.seq (T.seq (T.region (L.op rfl rfl (O.move rfl (L.op rfl rfl (O.eql_s rfl rfl (fun h0 => ?_) (fun h0 => ?_))))))))))
  · refine L.nil (?_)
    obtain rfl : c = 0 := by omega
    refine T.cond_true rfl (T.seq (T.region (L.op rfl rfl (O.assign rfl (L.nil (T.ret1 Tryd.results61 rfl ⟨rfl, he1⟩))))))
  · refine L.nil (?_)
    obtain ⟨c', rfl⟩ : ∃ c', c = c' + 1 := ⟨c - 1, by omega⟩
    refine T.cond_false rfl (T.skip (T.seq (T.region (L.op rfl rfl (O.assign rfl (L.nil (T.seq (T.seq (T.region (L.op rfl rfl (O.assign rfl (L.nil (T.block (?_))))))))))))))
    refine T.loop (σ := Nat) (fun x => [(1, .int .i64 ((8 - (c' + 1) : Nat) : Int)), (2, .int .i64 t), (3, .pointer (some ⟨b1, 0, none⟩)), (7, .int .i64 (mostTo mat (alikeF mat c') (8 - (c' + 1)) t x)), (8, .int .i64 x)]) (fun x w' => x ≤ 8 ∧ Ext w1 w') (fun x => 8 - x) (0) ⟨rfl, rfl, rfl, rfl, rfl, trivial⟩ ⟨Nat.zero_le _, Keep.refl _ _⟩ ?_
    rintro x w2 ⟨hx2, he2⟩
    refine T.seq (T.seq (T.region (L.op rfl rfl (O.move rfl (L.op rfl rfl (O.lss_s rfl rfl (fun hlt => ?_) (fun hlt => ?_)))))))
    · refine L.nil (?_)
      have hlt' : x < 8 := by omega
      have hB2 := hB1'.keep he2 (Nat.zero_le _)
      have hpw : 2 ^ x ≤ 128 := Nat.pow_le_pow_right (n := 2) (by decide) (show x ≤ 7 by omega)
      have hpw0 : (0 : Int) ≤ ((2 ^ x : Nat) : Int) := Int.natCast_nonneg _
      have hmx := mostTo_le hs (b := 64 * c') (by omega) (fun t => alikeF_le hs c' t) (8 - (c' + 1)) t x
      have hmat := hs (x * 8 + (8 - (c' + 1)))
      have hal := alikeF_le hs c' (t + 2 ^ x)
      refine T.cond_true rfl (T.skip (T.seq (T.block (T.seq (T.region (L.op rfl rfl (O.move rfl (L.op rfl rfl (O.move rfl (L.op rfl rfl (O.shr_i64 rfl rfl (by omega) (L.op rfl rfl (O.rem rfl rfl (Int.natCast_nonneg _) (by omega) (L.op rfl rfl (O.eql_s rfl rfl (fun hfree => ?_) (fun hfree => ?_))))))))))))))))
      · refine L.nil (?_)
        have hfr : t / 2 ^ x % 2 = 0 := by omega
        refine T.cond_true rfl (?_)
        refine T.par mixed 16 [7, 8, 1, 3, 2] rfl [.is _, .is _, .is _, .is _, .is _, .is _, .is _, .is _, .is _, .is _, .is _, .is _, .is _, .is _, .is _, .is _] [[], [], [], [1], [3, 2], [4], [], [], [7], [], [], [10], [9, 11], [6, 8, 12], [5, 13], [0, 14]] (by kernel_rfl) rfl ⟨trivial, trivial, trivial, trivial, trivial, trivial, trivial, trivial, trivial, trivial, trivial, trivial, trivial, trivial, trivial, trivial, trivial⟩ ⟨fun wx hx => Ob.op rfl (O.move rfl ⟨Keep.refl _ _, rfl⟩),
            fun wx hx => Ob.op rfl (O.move rfl ⟨Keep.refl _ _, rfl⟩),
            fun wx hx => Ob.op rfl (O.move rfl ⟨Keep.refl _ _, rfl⟩),
            fun wx hx => Ob.op rfl (O.indexAddr_arr Tryd.runUnderlying104 Tryd.sizeOf103 rfl rfl (by omega) (by omega) ⟨Keep.refl _ _, rfl⟩),
            fun wx hx => Ob.op rfl (O.indexAddr_arr Tryd.runUnderlying103 Tryd.sizeOf3 rfl rfl (by omega) (by omega) ⟨Keep.refl _ _, rfl⟩),
            fun wx hx => Ob.op rfl (O.load Tryd.isAgg3 rfl (mat_cell (hB2.keep hx (Nat.zero_le _)) (by omega)) ⟨Keep.refl _ _, rfl⟩),
            fun wx hx => Ob.op rfl (O.loadAgg Tryd.isAgg104 Tryd.sizeOf104 (by rw [List.length_map, hl]) rfl ((hB2.keep hx (Nat.zero_le _)).row) ⟨Keep.refl _ _, rfl⟩),
            fun wx hx => Ob.op rfl (O.move rfl ⟨Keep.refl _ _, rfl⟩),
            fun wx hx => Ob.op rfl (O.add64 rfl rfl (by omega) ⟨Keep.refl _ _, rfl⟩),
            fun wx hx => Ob.op rfl (O.move rfl ⟨Keep.refl _ _, rfl⟩),
            fun wx hx => Ob.op rfl (O.move rfl ⟨Keep.refl _ _, rfl⟩),
            fun wx hx => Ob.op rfl (O.bit_i64 rfl rfl (by omega) ⟨Keep.refl _ _, rfl⟩),
            fun wx hx => Ob.op rfl (O.add64 rfl rfl (by omega) ⟨Keep.refl _ _, rfl⟩),
            fun wx hx => Ob.op rfl (O.call (xs := [.tmp 26, .tmp 28, .tmp 32]) Tryd.call61 rfl rfl (alike_fix (ih c' (t + 2 ^ x) wx rfl (by omega)) (by omega) (by omega)) (fun v wy h => ⟨h.2, h.1⟩)),
            fun wx hx => Ob.op rfl (O.add64 rfl rfl (by omega) ⟨Keep.refl _ _, rfl⟩),
            fun wx hx => Ob.op rfl (O.max rfl rfl ⟨Keep.refl _ _, rfl⟩),
            trivial⟩ (fun w3 he3 => ?_)
        refine L.op rfl rfl (O.assign rfl (L.nil (T.blk (T.region (L.op rfl rfl (O.move rfl (L.op rfl rfl (O.add64 rfl rfl (by omega) (L.op rfl rfl (O.assign rfl (L.nil (T.again (x + 1) (by omega) ⟨rfl, rfl, rfl, ?_, rfl, trivial⟩ ⟨hlt', he2.trans he3⟩))))))))))))
        · simp only [mostTo]; rw [if_pos hfr]; rfl
      · refine L.nil (T.cond_false rfl (T.skip (T.blk (T.region (L.op rfl rfl (O.move rfl (L.op rfl rfl (O.add64 rfl rfl (by omega) (L.op rfl rfl (O.assign rfl (L.nil (T.again (x + 1) (by omega) ⟨rfl, rfl, rfl, ?_, rfl, trivial⟩ ⟨hlt', he2⟩))))))))))))
        · simp only [mostTo]; rw [if_neg (by omega)]; rfl
    · refine L.nil (?_)
      obtain rfl : x = 8 := by omega
      refine T.cond_false rfl (T.exit rfl (T.seq (T.region (L.op rfl rfl (O.move rfl (L.op rfl rfl (O.assign rfl (L.nil (T.ret1 Tryd.results61 rfl ⟨rfl, he1.trans he2⟩)))))))))

theorem alike_calls (mat : List Int) (hl : mat.length = 64) (hs : Small mat) : ∀ (c t : Nat) (w : World), c ≤ 8 → t ≤ 128 * (8 - c) → Calls Tryd.prog 61 #[matV mat, .int .i64 ((8 - c : Nat) : Int), .int .i64 t] w (Ret fun v w' => v = .int .i64 (alikeF mat c t) ∧ Ext w w')
  | 0, t, w, hc, ht => alike_step mat 0 t w hl hs hc ht (fun c' t' w' h => by cases h)
  | c + 1, t, w, hc, ht => alike_step mat (c + 1) t w hl hs hc ht (fun c' t' w' h h2 => by
      obtain rfl : c = c' := by omega
      exact alike_calls mat hl hs c t' w' (by omega) h2)
end Go.Proofs.YthjdljbghjelfaaDoor
set_option linter.unusedVariables false
set_option linter.unusedSimpArgs false
set_option maxRecDepth 20000
namespace Go.Proofs.YthjdljbghjelfaaDoor
open Go Go.E
attribute [local irreducible] Go.E.T Go.E.L Go.E.O Go.E.Ob

/-- How many units have this label in the first list, and that in the second one. -/
def matTo (xs ys : List Int) : Nat → List Int
  | 0 => List.replicate 64 0
  | i + 1 => (matTo xs ys i).set ((xs.getD i 0).toNat * 8 + (ys.getD i 0).toNat) ((matTo xs ys i).getD ((xs.getD i 0).toNat * 8 + (ys.getD i 0).toNat) 0 + 1)
theorem matTo_len (xs ys : List Int) : ∀ i, (matTo xs ys i).length = 64
  | 0 => by simp [matTo]
  | i + 1 => by simp [matTo, matTo_len xs ys i]
theorem getD_set {l : List Int} {i j : Nat} {v : Int} : (l.set i v).getD j 0 = if i = j ∧ j < l.length then v else l.getD j 0 := by
  simp only [List.getD_eq_getElem?_getD, List.getElem?_set]
  by_cases h : i = j
  · subst h
    by_cases h2 : i < l.length
    · simp [h2]
    · simp [h2]
  · simp [h]
theorem matTo_le (xs ys : List Int) : ∀ i j, 0 ≤ (matTo xs ys i).getD j 0 ∧ (matTo xs ys i).getD j 0 ≤ i
  | 0, j => by
    simp only [matTo, List.getD_eq_getElem?_getD, List.getElem?_replicate]
    split <;> simp
  | i + 1, j => by
    have h1 := matTo_le xs ys i j
    have h2 := matTo_le xs ys i ((xs.getD i 0).toNat * 8 + (ys.getD i 0).toNat)
    simp only [matTo]
    rw [getD_set]
    split <;> omega
theorem int_at {k : IntKind} {lo : Nat} {w : World} {v : Value} {xs : List Int} {i : Nat} {x : Int} (h : Ints k lo w v xs) (hi : i < xs.length) (hx : xs.getD i 0 = x) : w.cell? ((sAddr v).add ((i : Int).toNat * 1)) = some (.int k x) := by subst hx; exact h.at hi
/-- What 'Apart' hands back. -/
def apartOf (xs ys : List Int) : Int := if twoErr xs ys = 0 then xs.length - alikeF (matTo xs ys xs.length) 8 0 else 0
theorem RApart_calls (lo lo' : Nat) (p q : Value) (xs ys : List Int) (w : World) (hp : Ints .i64 lo w p xs) (hq : Ints .i64 lo' w q ys) :
    Calls Tryd.prog 35 #[p, q] w (Ret fun v w' => v = .tuple #[.int .i64 (apartOf xs ys), .int .i64 (twoErr xs ys)] ∧ Ext w w') := by
  refine T.enter (vs := [p, q]) Tryd.func35 rfl Tryd.ntmps35 rfl ?_
  refine T.seq (T.region (L.op rfl rfl (O.assign rfl (L.op rfl rfl (O.assign rfl (L.nil (T.seq (T.seq (T.region (L.op rfl rfl (O.move rfl (L.op rfl rfl (O.move rfl (L.op rfl rfl (O.call (xs := [.tmp 9, .tmp 10]) Tryd.call58 rfl rfl (Rtwo_calls lo lo' p q xs ys w hp hq) (fun v1 w1 hq => ?_))))))))))))))))
  obtain ⟨rfl, rfl⟩ := hq
  refine L.op rfl rfl (O.assign rfl (L.nil (T.seq (T.region (L.op rfl rfl (O.move rfl (L.op rfl rfl (O.neq_s rfl rfl (fun hE => ?_) (fun hE => ?_)))))))))
  · refine L.nil (T.cond_true rfl (T.seq (T.region (L.op rfl rfl (O.move rfl (L.op rfl rfl (O.assign rfl (L.op rfl rfl (O.assign rfl (L.nil (T.ret2 Tryd.results35 rfl rfl ⟨by rw [apartOf, if_neg hE], Keep.refl _ _⟩)))))))))))
  · refine L.nil (?_)
    obtain ⟨hlx, hly, hlen⟩ := two_len hE
    have hmx := labels_mem hlx
    have hmy := labels_mem hly
    refine T.cond_false rfl (T.skip (T.seq (T.region (L.op rfl rfl (O.alloc Tryd.zeroValue104 (fun b2 w2 hb2 hz2 he2 hB2 => ?_))))))
    have hB2' : Blk w2 b2 ((matTo xs ys 0).map (Value.int .i64)) 104 := hB2
    refine L.nil (T.seq (T.seq (T.region (L.op rfl rfl (O.assign rfl (L.nil (T.block (?_))))))))
    refine T.loop (σ := Nat) (fun i => [(0, p), (1, q), (7, .pointer (some ⟨b2, 0, none⟩)), (8, .int .i64 i)]) (fun i w' => i ≤ xs.length ∧ Ext w1 w' ∧ Blk w' b2 ((matTo xs ys i).map (Value.int .i64)) 104) (fun i => xs.length - i) (0) ⟨rfl, rfl, rfl, rfl, trivial⟩ ⟨Nat.zero_le _, he2, hB2'⟩ ?_
    rintro i w3 ⟨hi, he3, hB3⟩
    have hp3 := hp.keep (he3.mono (Nat.zero_le lo))
    have hq3 := hq.keep (he3.mono (Nat.zero_le lo'))
    have hml := matTo_len xs ys i
    refine T.seq (T.seq (T.region (L.op rfl rfl (O.move rfl (L.op rfl rfl (O.move rfl (L.op rfl rfl (O.len Tryd.runUnderlying35 rfl (Sl.val hp3) (L.op rfl rfl (O.lss_s rfl rfl (fun hlt => ?_) (fun hlt => ?_)))))))))))
    · refine L.nil (?_)
      have hlt' : i < xs.length := by omega
      have hxi := hmx.2.2 i hlt'
      have hyi := hmy.2.2 i (by omega)
      have hle := matTo_le xs ys i ((xs.getD i 0).toNat * 8 + (ys.getD i 0).toNat)
      obtain ⟨a, ha⟩ : ∃ a : Nat, xs.getD i 0 = a := ⟨(xs.getD i 0).toNat, by omega⟩
      obtain ⟨c0, hc⟩ : ∃ c0 : Nat, ys.getD i 0 = c0 := ⟨(ys.getD i 0).toNat, by omega⟩
      rw [ha, hc, Int.toNat_natCast, Int.toNat_natCast] at hle
      refine T.cond_true rfl (T.skip (T.seq (T.block (?_))))
      refine T.chain mixed 2 [0, 8, 1, 7] rfl [.is _, .is _, .is _, .is _, .is _, .is _, .is _, .is _, .is _, .is _, .is _, .is _, .is _, .is _, .is undef] [[], [], [0, 1], [2], [], [], [4, 5], [6], [3], [8, 7], [9], [10], [3], [12, 7], [13, 11]] [none, none, none, none, none, none, none, none, none, none, some 0, none, none, none, some 1] (fun c w' => Ext w1 w' ∧ Blk w' b2 (if c ≤ 1 then (matTo xs ys i).map (Value.int .i64) else ((matTo xs ys i).map (Value.int .i64)).set (0 + ((a : Int).toNat * 8 + (c0 : Int).toNat * 1)) (.int .i64 ((matTo xs ys i).getD (a * 8 + c0) 0 + 1))) 104) (by kernel_rfl) (by kernel_rfl) rfl trivial ⟨he3.trans (Keep.drew 0 _), hB3.keep (Keep.drew 0 _) (Nat.zero_le _)⟩ ⟨fun c wx hx => ObK.op rfl (O.move rfl ⟨hx, rfl⟩),
          fun c wx hx => ObK.op rfl (O.move rfl ⟨hx, rfl⟩),
          fun c wx hx => ObK.op rfl (O.indexAddr Tryd.runUnderlying35 Tryd.sizeOf3 rfl rfl hp3 (by omega) (by omega) ⟨hx, rfl⟩),
          fun c wx hx => ObK.op rfl (O.load Tryd.isAgg3 rfl (int_at (hp.keep (hx.1.mono (Nat.zero_le _))) hlt' ha) ⟨hx, rfl⟩),
          fun c wx hx => ObK.op rfl (O.move rfl ⟨hx, rfl⟩),
          fun c wx hx => ObK.op rfl (O.move rfl ⟨hx, rfl⟩),
          fun c wx hx => ObK.op rfl (O.indexAddr Tryd.runUnderlying35 Tryd.sizeOf3 rfl rfl hq3 (by omega) (by omega) ⟨hx, rfl⟩),
          fun c wx hx => ObK.op rfl (O.load Tryd.isAgg3 rfl (int_at (hq.keep (hx.1.mono (Nat.zero_le _))) (by omega) hc) ⟨hx, rfl⟩),
          fun c wx hx => ObK.op rfl (O.indexAddr_arr Tryd.runUnderlying104 Tryd.sizeOf103 rfl rfl (by omega) (by omega) ⟨hx, rfl⟩),
          fun c wx hx => ObK.op rfl (O.indexAddr_arr Tryd.runUnderlying103 Tryd.sizeOf3 rfl rfl (by omega) (by omega) ⟨hx, rfl⟩),
          fun wx hx => ObK.op rfl (O.load Tryd.isAgg3 rfl (mat_cell hx.2 (by omega)) ⟨hx, rfl⟩),
          fun c wx hx => ObK.op rfl (O.add64 rfl rfl (by omega) ⟨hx, rfl⟩),
          fun c wx hx => ObK.op rfl (O.indexAddr_arr Tryd.runUnderlying104 Tryd.sizeOf103 rfl rfl (by omega) (by omega) ⟨hx, rfl⟩),
          fun c wx hx => ObK.op rfl (O.indexAddr_arr Tryd.runUnderlying103 Tryd.sizeOf3 rfl rfl (by omega) (by omega) ⟨hx, rfl⟩),
          fun wx hx => ObK.op rfl (O.store1_at2 Tryd.sizeOf3 rfl rfl rfl hx.2 (by simp [hml]; omega) (fun wy hu hB => ⟨⟨hx.1.upd hu (.inr (by omega)), hB⟩, rfl⟩)),
          trivial⟩ (fun w5 hI5 => ?_)
      refine T.blk (T.region (L.op rfl rfl (O.move rfl (L.op rfl rfl (O.add64 rfl rfl (by omega) (L.op rfl rfl (O.assign rfl (L.nil (T.again (i + 1) (by omega) ⟨rfl, rfl, rfl, rfl, trivial⟩ ⟨hlt', hI5.1, ?_⟩)))))))))
      · simp only [matTo]
        rw [ha, hc, List.map_set]
        have h9 := hI5.2
        simp only [Nat.zero_add, Nat.mul_one, Int.toNat_natCast, Nat.one_ne_zero, if_false] at h9 ⊢
        exact h9
    · refine L.nil (?_)
      obtain rfl : i = xs.length := by omega
      have hsm : Small (matTo xs ys xs.length) := fun j => ⟨(matTo_le xs ys xs.length j).1, by have := (matTo_le xs ys xs.length j).2; omega⟩
      refine T.cond_false rfl (T.exit rfl (T.seq (T.region (L.op rfl rfl (O.move rfl (L.op rfl rfl (O.len Tryd.runUnderlying35 rfl (Sl.val hp3) (L.op rfl rfl (O.loadAgg Tryd.isAgg104 Tryd.sizeOf104 (by rw [List.length_map, hml]) rfl hB3.row (L.op rfl rfl (O.call (xs := [.tmp 37, .const (.int .i64 0), .const (.int .i64 0)]) Tryd.call61 rfl rfl (alike_calls (matTo xs ys xs.length) hml hsm 8 0 w3 (by omega) (by omega)) (fun v4 w4 hq => ?_))))))))))))
      obtain ⟨rfl, he4⟩ := hq
      have hal := alikeF_le hsm 8 0
      refine L.op rfl rfl (O.sub64 rfl rfl (by omega) (L.op rfl rfl (O.assign rfl (L.op rfl rfl (O.assign rfl (L.nil (T.ret2 Tryd.results35 rfl rfl ⟨by rw [apartOf, if_pos hE, hE], he3.trans he4⟩)))))))

end Go.Proofs.YthjdljbghjelfaaDoor
set_option linter.unusedVariables false
set_option linter.unusedSimpArgs false
set_option maxRecDepth 20000
namespace Go.Proofs.YthjdljbghjelfaaDoor
open Go Go.E
attribute [local irreducible] Go.E.T Go.E.L Go.E.O Go.E.Ob

def dV (N : Int) (pv mv lv : Value) (K : Int) : Value := .agg #[.int .u8 N, pv, mv, lv, .int .u8 K]
/-- Octets. -/
def Octs (xs : List Int) : Prop := ∀ j, 0 ≤ xs.getD j 0 ∧ xs.getD j 0 ≤ 255
def unitsOf (N : Int) : Int := 1 + N % 9
def labelOf (ls : List Int) (i : Nat) : Int := if i < ls.length then ls.getD i 0 else 0
def parentOf (ps : List Int) (i : Nat) : Int := if i - 1 < ps.length then ps.getD (i - 1) 0 % i else i - 1
theorem int_at' {k : IntKind} {lo : Nat} {w : World} {v : Value} {xs : List Int} {i : Nat} {m : Int} (h : Ints k lo w v xs) (hm : m = (i : Int)) (hi : i < xs.length) : w.cell? ((sAddr v).add (m.toNat * 1)) = some (.int k (xs.getD i 0)) := by subst hm; exact h.at hi
theorem Units_calls (N K : Int) (pv mv lv : Value) (w : World) (h0 : 0 ≤ N) (h1 : N ≤ 255) :
    Calls Tryd.prog 55 #[dV N pv mv lv K] w (Ret fun v w' => v = .int .i64 (unitsOf N) ∧ Ext w w') := by
  refine T.enter (vs := [dV N pv mv lv K]) Tryd.func55 rfl Tryd.ntmps55 rfl ?_
  refine T.seq (T.region (L.op rfl rfl (O.box rfl (fun b1 w1 hb1 hz1 he1 hB1 => ?_))))
  refine L.op rfl rfl (O.assign rfl (L.nil (T.seq (T.region (L.op rfl rfl (O.fieldAddr Tryd.runUnderlying25 rfl Tryd.sizeOf5 rfl (L.op rfl rfl (O.load Tryd.isAgg5 rfl (Blk.at hB1 rfl) (L.op rfl rfl (O.rem rfl rfl (by omega) (by omega) (L.op rfl rfl (O.conv_to rfl (fun w => ⟨_, Tryd.runUnderlying5 w⟩) Tryd.runUnderlying3 (IntWalk.i64_in _ ⟨by omega, by omega⟩) (L.op rfl rfl (O.add64 rfl rfl (by omega) (L.op rfl rfl (O.assign rfl (L.nil (T.ret1 Tryd.results55 rfl ⟨rfl, he1⟩))))))))))))))))))

theorem label_calls (lo : Nat) (N K : Int) (pv mv lv : Value) (ls : List Int) (i : Nat) (w : World) (hl : Ints .u8 lo w lv ls) (ho : Octs ls) :
    Calls Tryd.prog 56 #[dV N pv mv lv K, .int .i64 i] w (Ret fun v w' => v = .int .i64 (labelOf ls i) ∧ Ext w w') := by
  refine T.enter (vs := [dV N pv mv lv K, .int .i64 i]) Tryd.func56 rfl Tryd.ntmps56 rfl ?_
  refine T.seq (T.region (L.op rfl rfl (O.box rfl (fun b1 w1 hb1 hz1 he1 hB1 => ?_))))
  have hl1 := hl.keep (he1.mono (Nat.zero_le lo))
  have hoi := ho i
  refine L.op rfl rfl (O.assign rfl (L.nil (T.seq (T.seq (T.region (L.op rfl rfl (O.move rfl (L.op rfl rfl (O.fieldAddr Tryd.runUnderlying25 rfl Tryd.sizeOf22 rfl (L.op rfl rfl (O.load Tryd.isAgg22 rfl (Blk.at hB1 rfl) (L.op rfl rfl (O.len Tryd.runUnderlying22 rfl (Sl.val hl1) (L.op rfl rfl (O.lss_s rfl rfl (fun h => ?_) (fun h => ?_))))))))))))))))
  · refine L.nil (T.cond_true rfl (T.seq (T.region (L.op rfl rfl (O.fieldAddr Tryd.runUnderlying25 rfl Tryd.sizeOf22 rfl (L.op rfl rfl (O.load Tryd.isAgg22 rfl (Blk.at hB1 rfl) (L.op rfl rfl (O.move rfl (L.op rfl rfl (O.indexAddr Tryd.runUnderlying22 Tryd.sizeOf5 rfl rfl hl1 (by omega) (by omega) (L.op rfl rfl (O.load Tryd.isAgg5 rfl (Ints.at hl1 (by omega)) (L.op rfl rfl (O.conv_to rfl (fun w => ⟨_, Tryd.runUnderlying5 w⟩) Tryd.runUnderlying3 (IntWalk.i64_in _ ⟨by omega, by omega⟩) (L.op rfl rfl (O.assign rfl (L.nil (T.ret1 Tryd.results56 rfl ⟨by rw [labelOf, if_pos (by omega)], he1⟩)))))))))))))))))))
  · refine L.nil (T.cond_false rfl (T.skip (T.seq (T.region (L.op rfl rfl (O.assign rfl (L.nil (T.ret1 Tryd.results56 rfl ⟨by rw [labelOf, if_neg (by omega)], he1⟩))))))))

theorem parent_calls (lo : Nat) (N K : Int) (pv mv lv : Value) (ps : List Int) (i : Nat) (w : World) (hl : Ints .u8 lo w pv ps) (ho : Octs ps) (hi : 1 ≤ i) (hi2 : i ≤ 1000) :
    Calls Tryd.prog 63 #[dV N pv mv lv K, .int .i64 i] w (Ret fun v w' => v = .int .i64 (parentOf ps i) ∧ Ext w w') := by
  refine T.enter (vs := [dV N pv mv lv K, .int .i64 i]) Tryd.func63 rfl Tryd.ntmps63 rfl ?_
  refine T.seq (T.region (L.op rfl rfl (O.box rfl (fun b1 w1 hb1 hz1 he1 hB1 => ?_))))
  have hl1 := hl.keep (he1.mono (Nat.zero_le lo))
  have hoi := ho (i - 1)
  refine L.op rfl rfl (O.assign rfl (L.nil (T.seq (T.seq (T.region (L.op rfl rfl (O.move rfl (L.op rfl rfl (O.sub64 rfl rfl (by omega) (L.op rfl rfl (O.fieldAddr Tryd.runUnderlying25 rfl Tryd.sizeOf22 rfl (L.op rfl rfl (O.load Tryd.isAgg22 rfl (Blk.at hB1 rfl) (L.op rfl rfl (O.len Tryd.runUnderlying22 rfl (Sl.val hl1) (L.op rfl rfl (O.lss_s rfl rfl (fun h => ?_) (fun h => ?_))))))))))))))))))
  · refine L.nil (?_)
    have hlt : i - 1 < ps.length := by omega
    refine T.cond_true rfl (T.seq (T.region (L.op rfl rfl (O.fieldAddr Tryd.runUnderlying25 rfl Tryd.sizeOf22 rfl (L.op rfl rfl (O.load Tryd.isAgg22 rfl (Blk.at hB1 rfl) (L.op rfl rfl (O.move rfl (L.op rfl rfl (O.sub64 rfl rfl (by omega) (L.op rfl rfl (O.indexAddr Tryd.runUnderlying22 Tryd.sizeOf5 rfl rfl hl1 (by omega) (by omega) (L.op rfl rfl (O.load Tryd.isAgg5 rfl (int_at' hl1 (i := i - 1) (by omega) (by omega)) (L.op rfl rfl (O.conv_to rfl (fun w => ⟨_, Tryd.runUnderlying5 w⟩) Tryd.runUnderlying3 (IntWalk.i64_in _ ⟨by omega, by omega⟩) (L.op rfl rfl (O.move rfl (L.op rfl rfl (O.rem rfl rfl (by omega) (by omega) (L.op rfl rfl (O.assign rfl (L.nil (T.ret1 Tryd.results63 rfl ⟨by rw [parentOf, if_pos hlt], he1⟩))))))))))))))))))))))))
  · refine L.nil (T.cond_false rfl (T.skip (T.seq (T.region (L.op rfl rfl (O.move rfl (L.op rfl rfl (O.sub64 rfl rfl (by omega) (L.op rfl rfl (O.assign rfl (L.nil (T.ret1 Tryd.results63 rfl ⟨by rw [parentOf, if_neg (by omega)], he1⟩))))))))))))

end Go.Proofs.YthjdljbghjelfaaDoor
set_option linter.unusedVariables false
set_option linter.unusedSimpArgs false
set_option maxRecDepth 20000
namespace Go.Proofs.YthjdljbghjelfaaDoor
open Go Go.E
attribute [local irreducible] Go.E.T Go.E.L Go.E.O Go.E.Ob

def cellsU : List (Int × Int) → List Value
  | [] => []
  | q :: r => .int .u8 q.1 :: .int .u8 q.2 :: cellsU r
theorem cellsU_at : ∀ (es : List (Int × Int)) (i : Nat), i < es.length → (cellsU es)[i * 2]? = some (.int .u8 (es.getD i (0, 0)).1) ∧ (cellsU es)[i * 2 + 1]? = some (.int .u8 (es.getD i (0, 0)).2)
  | q :: r, 0, _ => ⟨rfl, rfl⟩
  | q :: r, i + 1, h => by
    rw [show (i + 1) * 2 = i * 2 + 2 by omega, show i * 2 + 2 + 1 = i * 2 + 1 + 2 by omega]
    simpa [cellsU] using cellsU_at r i (by simpa using h)
def PairsU (lo : Nat) (w : World) (v : Value) (es : List (Int × Int)) : Prop := Sl lo w v es.length 2 (cellsU es)
theorem PairsU.keep {w w' : World} {v : Value} {lo : Nat} {es : List (Int × Int)} (h : PairsU lo w v es) (hk : Keep lo w w') : PairsU lo w' v es := Sl.keep h hk
theorem PairsU.at0 {w : World} {v : Value} {lo : Nat} {es : List (Int × Int)} (h : PairsU lo w v es) {i : Nat} (hi : i < es.length) : w.cell? (((sAddr v).add ((i : Int).toNat * 2)).add ((0 : Int).toNat * 1)) = some (.int .u8 (es.getD i (0, 0)).1) := Sl.at h (cellsU_at es i hi).1
theorem PairsU.at1 {w : World} {v : Value} {lo : Nat} {es : List (Int × Int)} (h : PairsU lo w v es) {i : Nat} (hi : i < es.length) : w.cell? (((sAddr v).add ((i : Int).toNat * 2)).add ((1 : Int).toNat * 1)) = some (.int .u8 (es.getD i (0, 0)).2) := Sl.at h (cellsU_at es i hi).2
def lesser (x y : Int) : Int := if y < x then y else x
def larger (x y : Int) : Int := if x < y then y else x
/-- One of the first more edges joins two units. -/
def moreTo (ms : List (Int × Int)) (n a b : Int) : Nat → Bool
  | 0 => false
  | i + 1 => moreTo ms n a b i || (decide (lesser ((ms.getD i (0, 0)).1 % n) ((ms.getD i (0, 0)).2 % n) = a) && decide (larger ((ms.getD i (0, 0)).1 % n) ((ms.getD i (0, 0)).2 % n) = b))
def joinedB (N : Int) (ps : List Int) (ms : List (Int × Int)) (a b : Nat) : Bool := decide (parentOf ps b = a) || moreTo ms (unitsOf N) a b (min ms.length 12)
theorem moreTo_mono {ms : List (Int × Int)} {n a b : Int} {i : Nat} (h : moreTo ms n a b i = true) : ∀ k, moreTo ms n a b (i + k) = true
  | 0 => h
  | k + 1 => by
    have := moreTo_mono h k
    show (moreTo ms n a b (i + k) || _) = true
    rw [this]; rfl
theorem joined_calls (lo lo' : Nat) (N K : Int) (pv mv lv : Value) (ps : List Int) (ms : List (Int × Int)) (a b : Nat) (w : World) (h0 : 0 ≤ N) (h1 : N ≤ 255) (hp : Ints .u8 lo w pv ps) (ho : Octs ps) (hm : PairsU lo' w mv ms) (hmo : ∀ j, 0 ≤ (ms.getD j (0, 0)).1 ∧ (ms.getD j (0, 0)).1 ≤ 255 ∧ 0 ≤ (ms.getD j (0, 0)).2 ∧ (ms.getD j (0, 0)).2 ≤ 255) (hb : 1 ≤ b) (hb2 : b ≤ 1000) :
    Calls Tryd.prog 62 #[dV N pv mv lv K, .int .i64 a, .int .i64 b] w (Ret fun v w' => v = .bool (joinedB N ps ms a b) ∧ Ext w w') := by
  have hle := Sl.le hm
  have hun : 1 ≤ unitsOf N ∧ unitsOf N ≤ 9 := by unfold unitsOf; omega
  refine T.enter (vs := [dV N pv mv lv K, .int .i64 a, .int .i64 b]) Tryd.func62 rfl Tryd.ntmps62 rfl ?_
  refine T.seq (T.region (L.op rfl rfl (O.box rfl (fun b1 w1 hb1 hz1 he1 hB1 => ?_))))
  refine L.op rfl rfl (O.assign rfl (L.nil (T.seq (T.seq (T.region (L.op rfl rfl (O.loadAgg Tryd.isAgg25 Tryd.sizeOf25 rfl rfl hB1.row (L.op rfl rfl (O.move rfl (L.op rfl rfl (O.call (xs := [.tmp 10, .tmp 11]) Tryd.call63 rfl rfl (parent_calls lo N K pv mv lv ps b w1 (hp.keep (he1.mono (Nat.zero_le lo))) ho hb hb2) (fun v2 w2 hq => ?_))))))))))))
  obtain ⟨rfl, he2⟩ := hq
  have he02 := he1.trans he2
  refine L.op rfl rfl (O.move rfl (L.op rfl rfl (O.eql_s rfl rfl (fun hpar => ?_) (fun hpar => ?_))))
  · refine L.nil (T.cond_true rfl (T.seq (T.region (L.op rfl rfl (O.assign rfl (L.nil (T.ret1 Tryd.results62 rfl ⟨by rw [joinedB, decide_eq_true hpar]; rfl, he02⟩)))))))
  · refine L.nil (T.cond_false rfl (T.skip (T.seq (T.seq (T.region (L.op rfl rfl (O.assign rfl (L.nil (T.block (?_))))))))))
    refine T.loop (σ := Nat) (fun i => [(1, .int .i64 a), (2, .int .i64 b), (3, .pointer (some ⟨b1, 0, none⟩)), (7, .int .i64 i)]) (fun i w' => i ≤ min ms.length 12 ∧ Ext w2 w' ∧ moreTo ms (unitsOf N) a b i = false) (fun i => 12 - i) (0) ⟨rfl, rfl, rfl, rfl, trivial⟩ ⟨Nat.zero_le _, Keep.refl _ _, rfl⟩ ?_
    rintro i w3 ⟨hi, he3, hno⟩
    have hB3 := hB1.keep (he2.trans he3) (Nat.zero_le _)
    have hm3 := hm.keep ((he02.trans he3).mono (Nat.zero_le lo'))
    have hend : i = min ms.length 12 → joinedB N ps ms a b = false := fun h => by rw [joinedB, decide_eq_false hpar, ← h, hno]; rfl
    refine T.seq (T.seq (T.region (L.op rfl rfl (O.move rfl (L.op rfl rfl (O.fieldAddr Tryd.runUnderlying25 rfl Tryd.sizeOf23 rfl (L.op rfl rfl (O.load Tryd.isAgg23 rfl (Blk.at hB3 rfl) (L.op rfl rfl (O.len Tryd.runUnderlying23 rfl (Sl.val hm3) (L.op rfl rfl (O.lss_s rfl rfl (fun hlt => ?_) (fun hlt => ?_)))))))))))))
    · refine L.op rfl rfl (O.move rfl (L.op rfl rfl (O.move rfl (L.op rfl rfl (O.lss_s rfl rfl (fun h12 => ?_) (fun h12 => ?_))))))
      · have hlt' : i < ms.length := by omega
        have hmi := hmo i
        refine L.op rfl rfl (O.pick_true rfl rfl (L.nil (T.cond_true rfl (T.skip (T.seq (T.block (T.seq (?_))))))))
        refine T.par mixed 21 [3, 7] rfl [.is _, .is _, .is _, .is _, .is _, .is _, .is _, .is _, .is _, .is _, .is _, .is _, .is _, .is _, .is _, .is _, .is _, .is _, .is _, .is _, .is _] [[], [0], [], [1, 2], [3], [4], [5], [], [7], [6, 8], [], [10], [], [11, 12], [13], [14], [15], [], [17], [16, 18], [9]] (by kernel_rfl) rfl ⟨trivial, trivial, trivial, trivial, trivial, trivial, trivial, trivial, trivial, trivial, trivial, trivial, trivial, trivial, trivial, trivial, trivial, trivial, trivial, trivial, trivial, trivial⟩ ⟨fun wx hx => Ob.op rfl (O.fieldAddr Tryd.runUnderlying25 rfl Tryd.sizeOf23 rfl ⟨Keep.refl _ _, rfl⟩),
            fun wx hx => Ob.op rfl (O.load Tryd.isAgg23 rfl (Blk.at (hB3.keep hx (Nat.zero_le _)) rfl) ⟨Keep.refl _ _, rfl⟩),
            fun wx hx => Ob.op rfl (O.move rfl ⟨Keep.refl _ _, rfl⟩),
            fun wx hx => Ob.op rfl (O.indexAddr Tryd.runUnderlying23 Tryd.sizeOf111 rfl rfl hm3 (by omega) (by omega) ⟨Keep.refl _ _, rfl⟩),
            fun wx hx => Ob.op rfl (O.indexAddr_arr Tryd.runUnderlying111 Tryd.sizeOf5 rfl rfl (by decide) (by decide) ⟨Keep.refl _ _, rfl⟩),
            fun wx hx => Ob.op rfl (O.load Tryd.isAgg5 rfl (PairsU.at0 (hm3.keep (hx.mono (Nat.zero_le lo'))) hlt') ⟨Keep.refl _ _, rfl⟩),
            fun wx hx => Ob.op rfl (O.conv_to rfl (fun w => ⟨_, Tryd.runUnderlying5 w⟩) Tryd.runUnderlying3 (IntWalk.i64_in _ ⟨by omega, by omega⟩) ⟨Keep.refl _ _, rfl⟩),
            fun wx hx => Ob.op rfl (O.loadAgg Tryd.isAgg25 Tryd.sizeOf25 rfl rfl ((hB3.keep hx (Nat.zero_le _)).row) ⟨Keep.refl _ _, rfl⟩),
            fun wx hx => Ob.op rfl (O.call (xs := [.tmp 33]) Tryd.call55 rfl rfl (Units_calls N K pv mv lv wx h0 h1) (fun v wy h => ⟨h.2, h.1⟩)),
            fun wx hx => Ob.op rfl (O.rem rfl rfl (by omega) (by omega) ⟨Keep.refl _ _, rfl⟩),
            fun wx hx => Ob.op rfl (O.fieldAddr Tryd.runUnderlying25 rfl Tryd.sizeOf23 rfl ⟨Keep.refl _ _, rfl⟩),
            fun wx hx => Ob.op rfl (O.load Tryd.isAgg23 rfl (Blk.at (hB3.keep hx (Nat.zero_le _)) rfl) ⟨Keep.refl _ _, rfl⟩),
            fun wx hx => Ob.op rfl (O.move rfl ⟨Keep.refl _ _, rfl⟩),
            fun wx hx => Ob.op rfl (O.indexAddr Tryd.runUnderlying23 Tryd.sizeOf111 rfl rfl hm3 (by omega) (by omega) ⟨Keep.refl _ _, rfl⟩),
            fun wx hx => Ob.op rfl (O.indexAddr_arr Tryd.runUnderlying111 Tryd.sizeOf5 rfl rfl (by decide) (by decide) ⟨Keep.refl _ _, rfl⟩),
            fun wx hx => Ob.op rfl (O.load Tryd.isAgg5 rfl (PairsU.at1 (hm3.keep (hx.mono (Nat.zero_le lo'))) hlt') ⟨Keep.refl _ _, rfl⟩),
            fun wx hx => Ob.op rfl (O.conv_to rfl (fun w => ⟨_, Tryd.runUnderlying5 w⟩) Tryd.runUnderlying3 (IntWalk.i64_in _ ⟨by omega, by omega⟩) ⟨Keep.refl _ _, rfl⟩),
            fun wx hx => Ob.op rfl (O.loadAgg Tryd.isAgg25 Tryd.sizeOf25 rfl rfl ((hB3.keep hx (Nat.zero_le _)).row) ⟨Keep.refl _ _, rfl⟩),
            fun wx hx => Ob.op rfl (O.call (xs := [.tmp 43]) Tryd.call55 rfl rfl (Units_calls N K pv mv lv wx h0 h1) (fun v wy h => ⟨h.2, h.1⟩)),
            fun wx hx => Ob.op rfl (O.rem rfl rfl (by omega) (by omega) ⟨Keep.refl _ _, rfl⟩),
            fun wx hx => Ob.op rfl (O.assign rfl ⟨Keep.refl _ _, rfl⟩),
            trivial⟩ (fun w4 he4 => ?_)
        have he := (he02.trans he3).trans he4
        have hyes : moreTo ms (unitsOf N) a b (i + 1) = true → joinedB N ps ms a b = true := fun h => by
          have h9 := moreTo_mono h (min ms.length 12 - (i + 1))
          rw [show i + 1 + (min ms.length 12 - (i + 1)) = min ms.length 12 by omega] at h9
          rw [joinedB, h9]; simp
        refine L.op rfl rfl (O.assign rfl (L.nil (T.seq (T.region (L.op rfl rfl (O.move rfl (L.op rfl rfl (O.move rfl (L.op rfl rfl (O.min rfl rfl (L.op rfl rfl (O.move rfl (L.op rfl rfl (O.eql_s rfl rfl (fun hmin => ?_) (fun hmin => ?_)))))))))))))))
        · refine L.op rfl rfl (O.move rfl (L.op rfl rfl (O.move rfl (L.op rfl rfl (O.move rfl (L.op rfl rfl (O.max rfl rfl (L.op rfl rfl (O.move rfl (L.op rfl rfl (O.eql_s rfl rfl (fun hmax => ?_) (fun hmax => ?_))))))))))))
          · refine L.op rfl rfl (O.pick_true rfl rfl (L.nil (T.cond_true rfl (T.seq (T.region (L.op rfl rfl (O.assign rfl (L.nil (T.ret1 Tryd.results62 rfl ⟨by rw [hyes (by simp only [moreTo]; rw [decide_eq_true (show lesser ((ms.getD i (0, 0)).1 % unitsOf N) ((ms.getD i (0, 0)).2 % unitsOf N) = (a : Int) from hmin), decide_eq_true (show larger ((ms.getD i (0, 0)).1 % unitsOf N) ((ms.getD i (0, 0)).2 % unitsOf N) = (b : Int) from hmax)]; simp)], he⟩)))))))))
          · refine L.op rfl rfl (O.pick_true rfl rfl (L.nil (T.cond_false rfl (T.skip (T.blk (T.region (L.op rfl rfl (O.move rfl (L.op rfl rfl (O.add64 rfl rfl (by omega) (L.op rfl rfl (O.assign rfl (L.nil (T.again (i + 1) (by omega) ⟨rfl, rfl, rfl, rfl, trivial⟩ ⟨by omega, he3.trans he4, by simp only [moreTo]; rw [hno, decide_eq_false (show ¬ larger ((ms.getD i (0, 0)).1 % unitsOf N) ((ms.getD i (0, 0)).2 % unitsOf N) = (b : Int) from hmax)]; simp⟩))))))))))))))
        · refine L.op rfl rfl (O.move rfl (L.pass rfl rfl (L.pass rfl rfl (L.pass rfl rfl (L.pass rfl rfl (L.pass rfl rfl (L.op rfl rfl (O.pick_false rfl rfl (L.nil (T.cond_false rfl (T.skip (T.blk (T.region (L.op rfl rfl (O.move rfl (L.op rfl rfl (O.add64 rfl rfl (by omega) (L.op rfl rfl (O.assign rfl (L.nil (T.again (i + 1) (by omega) ⟨rfl, rfl, rfl, rfl, trivial⟩ ⟨by omega, he3.trans he4, by simp only [moreTo]; rw [hno, decide_eq_false (show ¬ lesser ((ms.getD i (0, 0)).1 % unitsOf N) ((ms.getD i (0, 0)).2 % unitsOf N) = (a : Int) from hmin)]; rfl⟩)))))))))))))))))))))
      · refine L.op rfl rfl (O.pick_true rfl rfl (L.nil (T.cond_false rfl (T.exit rfl (T.seq (T.region (L.op rfl rfl (O.assign rfl (L.nil (T.ret1 Tryd.results62 rfl ⟨by rw [hend (by omega)], he02.trans he3⟩))))))))))
    · refine L.op rfl rfl (O.move rfl (L.pass rfl rfl (L.pass rfl rfl (L.op rfl rfl (O.pick_false rfl rfl (L.nil (T.cond_false rfl (T.exit rfl (T.seq (T.region (L.op rfl rfl (O.assign rfl (L.nil (T.ret1 Tryd.results62 rfl ⟨by rw [hend (by omega)], he02.trans he3⟩))))))))))))))

end Go.Proofs.YthjdljbghjelfaaDoor
set_option linter.unusedVariables false
set_option linter.unusedSimpArgs false
set_option maxRecDepth 20000
namespace Go.Proofs.YthjdljbghjelfaaDoor
open Go Go.E
attribute [local irreducible] Go.E.T Go.E.L Go.E.O Go.E.Ob

theorem O.neqMv_f {C : Cx} {e : Env} {w : World} {K : Value → World → Prop} {d : Option Tmp} {ty : TypeId} {pos : String} {aft : Array Edge} {g : Option (Nat × Bool)} {x y : Operand} {m m' : Mv} (hP : C.P = Tryd.prog) (hx : ev e x = some (.agg #[.int .i64 m.1, .int .i64 m.2.1, .int .i64 m.2.2])) (hy : ev e y = some (.agg #[.int .i64 m'.1, .int .i64 m'.2.1, .int .i64 m'.2.2]))
    (hm : m = m') (h : K (.bool false) w) : O C e ⟨d, .binOp .neq 51 x y 51, ty, pos, aft, g⟩ w K :=
  O.neqMove hP hx hy (by subst hm; simpa using h)
theorem O.neqMv_t {C : Cx} {e : Env} {w : World} {K : Value → World → Prop} {d : Option Tmp} {ty : TypeId} {pos : String} {aft : Array Edge} {g : Option (Nat × Bool)} {x y : Operand} {m m' : Mv} (hP : C.P = Tryd.prog) (hx : ev e x = some (.agg #[.int .i64 m.1, .int .i64 m.2.1, .int .i64 m.2.2])) (hy : ev e y = some (.agg #[.int .i64 m'.1, .int .i64 m'.2.1, .int .i64 m'.2.2]))
    (hm : ¬ m = m') (h : K (.bool true) w) : O C e ⟨d, .binOp .neq 51 x y 51, ty, pos, aft, g⟩ w K :=
  O.neqMove hP hx hy (by
    have e : (decide (m.1 = m'.1) && (decide (m.2.1 = m'.2.1) && decide (m.2.2 = m'.2.2))) = false := by
      rw [mv_eq] at hm
      simpa using hm
    rw [e]; exact h)
theorem equalM_calls (lo lo' : Nat) (p q : Value) (xs ys : List Mv) (w : World) (hp : MvSl lo w p xs) (hq : MvSl lo' w q ys) :
    Calls Tryd.prog 23 #[p, q] w (Ret fun v w' => v = .bool (decide (xs = ys)) ∧ Ext w w') := by
  have hle := Sl.le hp
  refine T.enter (vs := [p, q]) Tryd.func23 rfl Tryd.ntmps23 rfl ?_
  refine T.seq (T.region (L.op rfl rfl (O.assign rfl (L.nil (T.seq (T.seq (T.region (L.op rfl rfl (O.move rfl (L.op rfl rfl (O.len Tryd.runUnderlying52 rfl (Sl.val hp) (L.op rfl rfl (O.move rfl (L.op rfl rfl (O.len Tryd.runUnderlying52 rfl (Sl.val hq) (L.op rfl rfl (O.neq_s rfl rfl (fun hl => ?_) (fun hl => ?_))))))))))))))))))
  · refine L.nil (T.cond_true rfl (T.seq (T.region (L.op rfl rfl (O.assign rfl (L.nil (T.ret1 Tryd.results23 rfl ⟨by rw [decide_eq_false (fun h => hl (by rw [h]))], Keep.refl _ _⟩)))))))
  · refine L.nil (?_)
    have hlen : xs.length = ys.length := by omega
    refine T.cond_false rfl (T.skip (T.seq (T.seq (T.region (L.op rfl rfl (O.move rfl (L.op rfl rfl (O.len Tryd.runUnderlying52 rfl (Sl.val hp) (L.op rfl rfl (O.move rfl (L.nil (T.block (?_)))))))))))))
    refine T.loop (σ := Nat) (fun i => [(0, p), (1, q), (12, .int .i64 xs.length), (13, .int .i64 i)]) (fun i w' => i ≤ xs.length ∧ Ext w w' ∧ ∀ j, j < i → xs.getD j (0, 0, 0) = ys.getD j (0, 0, 0)) (fun i => xs.length - i) (0) ⟨rfl, rfl, rfl, rfl, trivial⟩ ⟨Nat.zero_le _, Keep.refl _ _, fun j hj => absurd hj (Nat.not_lt_zero _)⟩ ?_
    rintro i w1 ⟨hi, he1, hall⟩
    have hp1 : MvSl lo w1 p xs := Sl.keep hp (he1.mono (Nat.zero_le lo))
    have hq1 : MvSl lo' w1 q ys := Sl.keep hq (he1.mono (Nat.zero_le lo'))
    refine T.seq (T.region (L.op rfl rfl (O.lss_s rfl rfl (fun hlt => ?_) (fun hlt => ?_))))
    · refine L.nil (?_)
      have hlt' : i < xs.length := by omega
      by_cases heq : xs.getD i (0, 0, 0) = ys.getD i (0, 0, 0)
      · refine T.seq (T.cond_true rfl (T.skip (T.seq (T.block (T.seq (T.region (L.op rfl rfl (O.move rfl (L.op rfl rfl (O.assign rfl (L.nil (T.seq (?_)))))))))))))
        refine T.par mixed 9 [0, 5, 1] rfl [.is _, .is _, .is _, .is _, .is _, .is _, .is _, .is _, .is _] [[], [], [0, 1], [2], [], [], [4, 5], [6], [3, 7]] (by kernel_rfl) rfl ⟨trivial, trivial, trivial, trivial, trivial, trivial, trivial, trivial, trivial, trivial⟩ ⟨fun wx hx => Ob.op rfl (O.move rfl ⟨Keep.refl _ _, rfl⟩),
            fun wx hx => Ob.op rfl (O.move rfl ⟨Keep.refl _ _, rfl⟩),
            fun wx hx => Ob.op rfl (O.indexAddr Tryd.runUnderlying52 Tryd.sizeOf51 rfl rfl hp1 (by omega) (by omega) ⟨Keep.refl _ _, rfl⟩),
            fun wx hx => Ob.op rfl (O.loadAgg Tryd.isAgg51 Tryd.sizeOf51 rfl rfl (MvSl.row (Sl.keep hp1 (hx.mono (Nat.zero_le _))) hlt') ⟨Keep.refl _ _, rfl⟩),
            fun wx hx => Ob.op rfl (O.move rfl ⟨Keep.refl _ _, rfl⟩),
            fun wx hx => Ob.op rfl (O.move rfl ⟨Keep.refl _ _, rfl⟩),
            fun wx hx => Ob.op rfl (O.indexAddr Tryd.runUnderlying52 Tryd.sizeOf51 rfl rfl hq1 (by omega) (by omega) ⟨Keep.refl _ _, rfl⟩),
            fun wx hx => Ob.op rfl (O.loadAgg Tryd.isAgg51 Tryd.sizeOf51 rfl rfl (MvSl.row (Sl.keep hq1 (hx.mono (Nat.zero_le _))) (by omega)) ⟨Keep.refl _ _, rfl⟩),
            fun wx hx => Ob.op rfl (O.neqMv_f rfl rfl rfl heq ⟨Keep.refl _ _, rfl⟩),
            trivial⟩ (fun w2 he2 => ?_)
        refine L.nil (T.cond_false rfl (T.skip (T.blk (T.region (L.op rfl rfl (O.add64 rfl rfl (by omega) (L.op rfl rfl (O.move rfl (L.nil (T.again (i + 1) (by omega) ⟨rfl, rfl, rfl, rfl, trivial⟩ ⟨hlt', he1.trans he2, fun j hj => ?_⟩))))))))))
        · by_cases hji : j = i
          · subst hji; exact heq
          · exact hall j (by omega)
      · refine T.seq (T.cond_true rfl (T.skip (T.seq (T.block (T.seq (T.region (L.op rfl rfl (O.move rfl (L.op rfl rfl (O.assign rfl (L.nil (T.seq (?_)))))))))))))
        refine T.par mixed 9 [0, 5, 1] rfl [.is _, .is _, .is _, .is _, .is _, .is _, .is _, .is _, .is _] [[], [], [0, 1], [2], [], [], [4, 5], [6], [3, 7]] (by kernel_rfl) rfl ⟨trivial, trivial, trivial, trivial, trivial, trivial, trivial, trivial, trivial, trivial⟩ ⟨fun wx hx => Ob.op rfl (O.move rfl ⟨Keep.refl _ _, rfl⟩),
            fun wx hx => Ob.op rfl (O.move rfl ⟨Keep.refl _ _, rfl⟩),
            fun wx hx => Ob.op rfl (O.indexAddr Tryd.runUnderlying52 Tryd.sizeOf51 rfl rfl hp1 (by omega) (by omega) ⟨Keep.refl _ _, rfl⟩),
            fun wx hx => Ob.op rfl (O.loadAgg Tryd.isAgg51 Tryd.sizeOf51 rfl rfl (MvSl.row (Sl.keep hp1 (hx.mono (Nat.zero_le _))) hlt') ⟨Keep.refl _ _, rfl⟩),
            fun wx hx => Ob.op rfl (O.move rfl ⟨Keep.refl _ _, rfl⟩),
            fun wx hx => Ob.op rfl (O.move rfl ⟨Keep.refl _ _, rfl⟩),
            fun wx hx => Ob.op rfl (O.indexAddr Tryd.runUnderlying52 Tryd.sizeOf51 rfl rfl hq1 (by omega) (by omega) ⟨Keep.refl _ _, rfl⟩),
            fun wx hx => Ob.op rfl (O.loadAgg Tryd.isAgg51 Tryd.sizeOf51 rfl rfl (MvSl.row (Sl.keep hq1 (hx.mono (Nat.zero_le _))) (by omega)) ⟨Keep.refl _ _, rfl⟩),
            fun wx hx => Ob.op rfl (O.neqMv_t rfl rfl rfl heq ⟨Keep.refl _ _, rfl⟩),
            trivial⟩ (fun w2 he2 => ?_)
        refine L.nil (T.cond_true rfl (T.seq (T.region (L.op rfl rfl (O.assign rfl (L.nil (T.ret1 Tryd.results23 rfl ⟨by rw [decide_eq_false (fun h => heq (by rw [h]))], he1.trans he2⟩)))))))
    · refine L.nil (T.seq (T.cond_false rfl (T.exit rfl (T.seq (T.region (L.op rfl rfl (O.assign rfl (L.nil (T.ret1 Tryd.results23 rfl ⟨by rw [decide_eq_true (list_eq_of (d := (0, 0, 0)) hlen (fun j hj => hall j (by omega)))], he1⟩)))))))))

end Go.Proofs.YthjdljbghjelfaaDoor
set_option linter.unusedVariables false
set_option linter.unusedSimpArgs false
set_option maxRecDepth 20000
namespace Go.Proofs.YthjdljbghjelfaaDoor
open Go Go.E
attribute [local irreducible] Go.E.T Go.E.L Go.E.O Go.E.Ob

def rawTo (ls : List Int) : Nat → List Int
  | 0 => []
  | i + 1 => rawTo ls i ++ [labelOf ls i % 8]
theorem rawTo_len (ls : List Int) : ∀ i, (rawTo ls i).length = i
  | 0 => rfl
  | i + 1 => by simp [rawTo, rawTo_len ls i]
def rawOf (N : Int) (ls : List Int) : List Int := rawTo ls (unitsOf N).toNat
theorem labelOf_nn {ls : List Int} (h : Octs ls) (i : Nat) : 0 ≤ labelOf ls i := by
  unfold labelOf; split
  · exact (h i).1
  · omega
theorem Raw_calls (lo : Nat) (N K : Int) (pv mv lv : Value) (ls : List Int) (w : World) (h0 : 0 ≤ N) (h1 : N ≤ 255) (hl : Ints .u8 lo w lv ls) (ho : Octs ls) :
    Calls Tryd.prog 28 #[dV N pv mv lv K] w (Ret fun v w' => Ext w w' ∧ Ints .i64 w.heap.size w' v (rawOf N ls)) := by
  have hun : 1 ≤ unitsOf N ∧ unitsOf N ≤ 9 := by unfold unitsOf; omega
  refine T.enter (vs := [dV N pv mv lv K]) Tryd.func28 rfl Tryd.ntmps28 rfl ?_
  refine T.seq (T.region (L.op rfl rfl (O.box rfl (fun b1 w1 hb1 hz1 he1 hB1 => ?_))))
  refine L.op rfl rfl (O.assign rfl (L.nil (T.seq (T.region (L.op rfl rfl (O.assign rfl (L.nil (T.seq (T.seq (T.region (L.op rfl rfl (O.assign rfl (L.nil (T.block (?_)))))))))))))))
  refine T.loop (σ := Nat × Value) (fun s => [(1, .pointer (some ⟨b1, 0, none⟩)), (3, s.2), (4, .int .i64 s.1)]) (fun s w' => (s.1 : Int) ≤ unitsOf N ∧ Ext w1 w' ∧ w'.ownsRow w1.heap.size 3 1 s.2 s.1 ((rawTo ls s.1).map (Value.int .i64))) (fun s => 9 - s.1) ((0, .slice none 0 0)) ⟨rfl, rfl, rfl, trivial⟩ ⟨by simp only; omega, Keep.refl _ _, owns_nil _ _ _ _⟩ ?_
  rintro ⟨i, out⟩ w2 ⟨hi, he2, hO2⟩
  simp only at hi he2 hO2
  have hB2 := hB1.keep he2 (Nat.zero_le _)
  refine T.seq (T.seq (T.region (L.op rfl rfl (O.move rfl (L.op rfl rfl (O.loadAgg Tryd.isAgg25 Tryd.sizeOf25 rfl rfl hB2.row (L.op rfl rfl (O.call (xs := [.tmp 6]) Tryd.call55 rfl rfl (Units_calls N K pv mv lv w2 h0 h1) (fun v3 w3 hq => ?_)))))))))
  obtain ⟨rfl, he3⟩ := hq
  have hO3 := owns_keep hO2 he3 (Nat.zero_le _)
  refine L.op rfl rfl (O.lss_s rfl rfl (fun hlt => ?_) (fun hlt => ?_))
  · refine L.nil (T.cond_true rfl (T.skip (T.seq (T.block (T.region (L.op rfl rfl (O.move rfl (L.op rfl rfl (O.loadAgg Tryd.isAgg25 Tryd.sizeOf25 rfl rfl ((hB2.keep he3 (Nat.zero_le _)).row) (?_))))))))))
    have hnn := labelOf_nn ho i
    refine L.op rfl rfl (O.move rfl (L.op rfl rfl (O.call (xs := [.tmp 12, .tmp 13]) Tryd.call56 rfl rfl (label_calls lo N K pv mv lv ls i w3 (hl.keep (((he1.trans he2).trans he3).mono (Nat.zero_le lo))) ho) (fun v4 w4 hq => ?_))))
    obtain ⟨rfl, he4⟩ := hq
    refine L.op rfl rfl (O.rem rfl rfl hnn (by omega) (L.op rfl rfl (O.buildSlice (el := 3) (parts := [(0, .tmp 15)]) (vs := [(0, _)]) (cs := [.int .i64 (labelOf ls i % 8)]) rfl (fun w => by kernel_rfl) (fun b5 w5 hb5 hz5 he5 hB5 => ?_))))
    refine L.op rfl rfl (O.append (size := 1) (bytes := 8) Tryd.runUnderlying35 Tryd.infoOf3 rfl rfl rfl rfl (by decide) rfl rfl (owns_keep (owns_keep hO3 he4 (Nat.zero_le _)) he5 (Nat.zero_le _)) (Sl.of_blk (lo := 0) hB5 rfl (Nat.le_refl _) (by decide) (Nat.zero_le _)) (by intro c hc; simp at hc; simp [hc, Value.oneCell']) (by omega) (by simp only [maxLen]; omega) (Nat.le_trans ((he2.trans he3).trans he4).size he5.size) (fun v6 w6 hO6 hG6 => ?_))
    refine L.op rfl rfl (O.assign rfl (L.nil (T.blk (T.region (L.op rfl rfl (O.move rfl (L.op rfl rfl (O.add64 rfl rfl (by omega) (L.op rfl rfl (O.assign rfl (L.nil (T.again ((i + 1, v6)) (by simp only at hlt ⊢; omega) ⟨rfl, rfl, rfl, trivial⟩ ⟨by simp only at hlt ⊢; omega, (((he2.trans he3).trans he4).trans he5).grown0 hO3 hG6 (Nat.le_refl _), by simp only [rawTo, List.map_append]; exact hO6⟩))))))))))))
  · refine L.nil (?_)
    have hin : i = (unitsOf N).toNat := by simp only at hlt; omega
    refine T.cond_false rfl (T.exit rfl (T.seq (T.region (L.op rfl rfl (O.move rfl (L.op rfl rfl (O.assign rfl (L.nil (T.ret1 Tryd.results28 rfl ⟨(he1.trans he2).trans he3, ?_⟩)))))))))
    have h9 := (Sl.of_owns hO3).mono he1.size
    unfold Ints rawOf
    rw [rawTo_len, ← hin]; exact h9

end Go.Proofs.YthjdljbghjelfaaDoor
set_option linter.unusedVariables false
set_option linter.unusedSimpArgs false
set_option maxRecDepth 20000
namespace Go.Proofs.YthjdljbghjelfaaDoor
open Go Go.E
attribute [local irreducible] Go.E.T Go.E.L Go.E.O Go.E.Ob

def looseTo (ls : List Int) (K : Int) : Nat → List Int
  | 0 => []
  | i + 1 => looseTo ls K i ++ [labelOf ls i % (1 + K % 8)]
theorem looseTo_len (ls : List Int) (K : Int) : ∀ i, (looseTo ls K i).length = i
  | 0 => rfl
  | i + 1 => by simp [looseTo, looseTo_len ls K i]
def maxTo (xs : List Int) : Nat → Int
  | 0 => 0
  | i + 1 => if maxTo xs i < xs.getD i 0 + 1 then xs.getD i 0 + 1 else maxTo xs i
def looseRaw (N K : Int) (ls : List Int) : List Int := looseTo ls K (unitsOf N).toNat
theorem looseTo_lt {ls : List Int} {K : Int} (h0 : 0 ≤ K) : ∀ (i j : Nat), j < i → 0 ≤ (looseTo ls K i).getD j 0 ∧ (looseTo ls K i).getD j 0 < 8
  | i + 1, j, h => by
    have hl := looseTo_len ls K i
    have hk : 0 < 1 + K % 8 ∧ 1 + K % 8 ≤ 8 := by omega
    have hm := Int.emod_nonneg (labelOf ls i) (show 1 + K % 8 ≠ 0 by omega)
    have hm2 := Int.emod_lt_of_pos (labelOf ls i) hk.1
    simp only [looseTo]
    by_cases hj : j = i
    · subst hj
      rw [List.getD_eq_getElem?_getD, List.getElem?_append_right (by omega), hl, Nat.sub_self]
      simp only [List.getElem?_cons_zero, Option.getD_some]; omega
    · rw [List.getD_eq_getElem?_getD, List.getElem?_append_left (by omega), ← List.getD_eq_getElem?_getD]
      exact looseTo_lt h0 i j (by omega)
theorem looseRaw_len (N K : Int) (ls : List Int) : (looseRaw N K ls).length = (unitsOf N).toNat := looseTo_len ls K _
theorem looseRaw_ok {N K : Int} {ls : List Int} (h0 : 0 ≤ N) (hk : 0 ≤ K) : labelsOk (looseRaw N K ls) 8 = true := by
  have hl := looseRaw_len N K ls
  have hun : 1 ≤ unitsOf N ∧ unitsOf N ≤ 9 := by unfold unitsOf; omega
  rw [labels_len (i := (looseRaw N K ls).length) rfl, decide_eq_true (by omega), decide_eq_true (by omega)]; rfl
  rw [List.take_length]
  refine List.all_eq_true.2 fun x hx => ?_
  obtain ⟨j, hj, rfl⟩ := List.mem_iff_getElem.1 hx
  have h1 := looseTo_lt (ls := ls) hk (unitsOf N).toNat j (by omega)
  have e : (looseTo ls K (unitsOf N).toNat).getD j 0 = (looseRaw N K ls)[j] := by
    rw [List.getD_eq_getElem?_getD]; show ((looseRaw N K ls)[j]?).getD 0 = _; rw [List.getElem?_eq_getElem hj]; rfl
  rw [e] at h1
  simp only [okl, Bool.and_eq_true, decide_eq_true_eq]; exact h1
theorem canTo_lt (xs : List Int) : ∀ (i j : Nat), j < i → 0 ≤ (canTo xs i).getD j 0 ∧ (canTo xs i).getD j 0 ≤ i
  | i + 1, j, h => by
    have hl := canTo_len xs i
    simp only [canTo]
    by_cases hj : j = i
    · subst hj
      rw [List.getD_eq_getElem?_getD, List.getElem?_append_right (by omega), hl, Nat.sub_self]
      simp only [List.getElem?_cons_zero, Option.getD_some]
      cases hg : getI (nmTo xs (j + 1)) (xs.getD j 0) with
      | none => simp; omega
      | some v => have h1 := nm_pos xs _ _ _ hg; have h2 := nm_lt xs _ hg; have h3 := nmTo_len xs (j + 1); simp only [Option.getD_some]; omega
    · rw [List.getD_eq_getElem?_getD, List.getElem?_append_left (by omega), ← List.getD_eq_getElem?_getD]
      have := canTo_lt xs i j (by omega); omega
theorem canonOf_len (xs : List Int) : (canonOf xs).length = xs.length := canTo_len _ _
theorem maxTo_le {xs : List Int} {m : Int} (h0 : 0 ≤ m) (h : ∀ j, j < xs.length → xs.getD j 0 < m) : ∀ i, i ≤ xs.length → 0 ≤ maxTo xs i ∧ maxTo xs i ≤ m
  | 0, _ => ⟨Int.le_refl _, h0⟩
  | i + 1, hi => by
    have ih := maxTo_le h0 h i (by omega)
    have := h i (by omega)
    simp only [maxTo]; split <;> omega
theorem Loose_calls (lo : Nat) (N K : Int) (pv mv lv : Value) (ls : List Int) (w : World) (h0 : 0 ≤ N) (h1 : N ≤ 255) (hk0 : 0 ≤ K) (hk1 : K ≤ 255) (hl : Ints .u8 lo w lv ls) (ho : Octs ls) :
    Calls Tryd.prog 27 #[dV N pv mv lv K] w (Ret fun v w' => Ext w w' ∧ ∃ l, v = .tuple #[l, .int .i64 (maxTo (canonOf (looseRaw N K ls)) (looseRaw N K ls).length)] ∧ Ints .i64 w.heap.size w' l (canonOf (looseRaw N K ls))) := by
  have hun : 1 ≤ unitsOf N ∧ unitsOf N ≤ 9 := by unfold unitsOf; omega
  refine T.enter (vs := [dV N pv mv lv K]) Tryd.func27 rfl Tryd.ntmps27 rfl ?_
  refine T.seq (T.region (L.op rfl rfl (O.box rfl (fun b1 w1 hb1 hz1 he1 hB1 => ?_))))
  refine L.op rfl rfl (O.assign rfl (L.op rfl rfl (O.assign rfl (L.nil (T.seq (T.region (L.op rfl rfl (O.assign rfl (L.nil (T.seq (T.seq (T.region (L.op rfl rfl (O.assign rfl (L.nil (T.block (?_)))))))))))))))))
  refine T.loop (σ := Nat × Value) (fun s => [(1, .pointer (some ⟨b1, 0, none⟩)), (4, s.2), (5, .int .i64 s.1)]) (fun s w' => (s.1 : Int) ≤ unitsOf N ∧ Ext w1 w' ∧ w'.ownsRow w1.heap.size 3 1 s.2 s.1 ((looseTo ls K s.1).map (Value.int .i64))) (fun s => 9 - s.1) ((0, .slice none 0 0)) ⟨rfl, rfl, rfl, trivial⟩ ⟨by simp only; omega, Keep.refl _ _, owns_nil _ _ _ _⟩ ?_
  rintro ⟨i, out⟩ w2 ⟨hi, he2, hO2⟩
  simp only at hi he2 hO2
  have hB2 := hB1.keep he2 (Nat.zero_le _)
  refine T.seq (T.seq (T.region (L.op rfl rfl (O.move rfl (L.op rfl rfl (O.loadAgg Tryd.isAgg25 Tryd.sizeOf25 rfl rfl hB2.row (L.op rfl rfl (O.call (xs := [.tmp 9]) Tryd.call55 rfl rfl (Units_calls N K pv mv lv w2 h0 h1) (fun v3 w3 hq => ?_)))))))))
  obtain ⟨rfl, he3⟩ := hq
  have hO3 := owns_keep hO2 he3 (Nat.zero_le _)
  refine L.op rfl rfl (O.lss_s rfl rfl (fun hlt => ?_) (fun hlt => ?_))
  · refine L.nil (?_)
    have hin : i < (unitsOf N).toNat := by simp only at hlt; omega
    have hnn := labelOf_nn ho i
    have hm8 : 0 ≤ K % 8 ∧ K % 8 < 8 := by omega
    refine T.cond_true rfl (T.skip (T.seq (T.block (?_))))
    refine T.anyE mixed 11 [4, 1, 5] rfl [.is _, .is _, .is _, .is _, .is _, .is _, .is _, .is _, .is _, .is _, .such (fun v w' => ∃ b, v = .slice (some ⟨b, 0, none⟩) 1 1 ∧ Blk w' b [.int .i64 (labelOf ls i % (1 + K % 8))] 3)] [[], [], [], [1, 2], [], [4], [5], [6], [7], [3, 8], [9]] [[], [], [], [1, 2], [], [4], [4, 5], [4, 5, 6], [4, 5, 6, 7], [1, 2, 3, 4, 5, 6, 7, 8], [1, 2, 3, 4, 5, 6, 7, 8, 9], [0, 1, 2, 3, 4, 5, 6, 7, 8, 9, 10], [0, 1, 2, 3, 4, 5, 6, 7, 8, 9, 10, 11]] (by kernel_rfl) (by kernel_rfl) rfl (by kernel_rfl) ⟨fun v w w' he ⟨b, h1, h2⟩ => ⟨b, h1, h2.keep he (Nat.zero_le _)⟩, trivial⟩ ⟨fun wx hx => Ob.op rfl (O.move rfl ⟨Keep.refl _ _, rfl⟩),
        fun wx hx => Ob.op rfl (O.loadAgg Tryd.isAgg25 Tryd.sizeOf25 rfl rfl ((hB2.keep (he3.trans hx) (Nat.zero_le _)).row) ⟨Keep.refl _ _, rfl⟩),
        fun wx hx => Ob.op rfl (O.move rfl ⟨Keep.refl _ _, rfl⟩),
        fun wx hx => Ob.op rfl (O.call (xs := [.tmp 15, .tmp 16]) Tryd.call56 rfl rfl (label_calls lo N K pv mv lv ls i wx (hl.keep ((((he1.trans he2).trans he3).trans hx).mono (Nat.zero_le lo))) ho) (fun v wy h => ⟨h.2, h.1⟩)),
        fun wx hx => Ob.op rfl (O.fieldAddr Tryd.runUnderlying25 rfl Tryd.sizeOf5 rfl ⟨Keep.refl _ _, rfl⟩),
        fun wx hx => Ob.op rfl (O.load Tryd.isAgg5 rfl (Blk.at (hB2.keep (he3.trans hx) (Nat.zero_le _)) rfl) ⟨Keep.refl _ _, rfl⟩),
        fun wx hx => Ob.op rfl (O.rem rfl rfl (by omega) (by omega) ⟨Keep.refl _ _, rfl⟩),
        fun wx hx => Ob.op rfl (O.conv_to rfl (fun w => ⟨_, Tryd.runUnderlying5 w⟩) Tryd.runUnderlying3 (IntWalk.i64_in _ ⟨by omega, by omega⟩) ⟨Keep.refl _ _, rfl⟩),
        fun wx hx => Ob.op rfl (O.add64 rfl rfl (by omega) ⟨Keep.refl _ _, rfl⟩),
        fun wx hx => Ob.op rfl (O.rem rfl rfl hnn (by omega) ⟨Keep.refl _ _, rfl⟩),
        fun wx hx => Ob.op rfl (O.buildSlice (el := 3) (parts := [(0, .tmp 23)]) (vs := [(0, _)]) (cs := [.int .i64 (labelOf ls i % (1 + K % 8))]) rfl (fun w => by kernel_rfl) (fun b5 w5 hb5 hz5 he5 hB5 => ⟨he5, _, rfl, hB5⟩)),
        trivial⟩ (fun w4 he4 v24 hv24 => ?_)
    obtain ⟨b5, rfl, hB5⟩ := hv24
    refine L.op rfl rfl (O.append (size := 1) (bytes := 8) Tryd.runUnderlying35 Tryd.infoOf3 rfl rfl rfl rfl (by decide) rfl rfl (owns_keep hO3 he4 (Nat.zero_le _)) (Sl.of_blk (lo := 0) hB5 rfl (Nat.le_refl _) (by decide) (Nat.zero_le _)) (by intro c hc; simp at hc; simp [hc, Value.oneCell']) (by omega) (by simp only [maxLen]; omega) ((he2.trans he3).trans he4).size (fun v6 w6 hO6 hG6 => ?_))
    refine L.op rfl rfl (O.assign rfl (L.nil (T.blk (T.region (L.op rfl rfl (O.move rfl (L.op rfl rfl (O.add64 rfl rfl (by omega) (L.op rfl rfl (O.assign rfl (L.nil (T.again ((i + 1, v6)) (by simp only at hlt ⊢; omega) ⟨rfl, rfl, rfl, trivial⟩ ⟨by simp only at hlt ⊢; omega, ((he2.trans he3).trans he4).grown0 hO3 hG6 (Nat.le_refl _), by simp only [looseTo, List.map_append]; exact hO6⟩))))))))))))
  · refine L.nil (?_)
    have hin : i = (unitsOf N).toNat := by simp only at hlt; omega
    have hr : Ints .i64 w1.heap.size w3 out (looseRaw N K ls) := by
      have h9 := Sl.of_owns hO3
      unfold Ints looseRaw
      rw [looseTo_len, ← hin]; exact h9
    have hok := looseRaw_ok (ls := ls) h0 hk0
    have hlen := looseRaw_len N K ls
    refine T.cond_false rfl (T.exit rfl (T.seq (T.region (L.op rfl rfl (O.move rfl (L.op rfl rfl (O.call (xs := [.tmp 27]) Tryd.call31 rfl rfl (RCanon_calls w1.heap.size out (looseRaw N K ls) w3 hr) (fun v4 w4 hq => ?_))))))))
    obtain ⟨he4, l4, rfl, hc4⟩ := hq
    rw [hok, if_pos rfl] at hc4
    have hcl := canonOf_len (looseRaw N K ls)
    have hbd := fun j (hj : j < (looseRaw N K ls).length) => canTo_lt (looseRaw N K ls) _ j hj
    refine L.op rfl rfl (O.move rfl (L.op rfl rfl (O.extract rfl rfl (L.op rfl rfl (O.extract rfl rfl (L.op rfl rfl (O.assign rfl (L.nil (T.seq (T.region (L.op rfl rfl (O.assign rfl (L.nil (T.seq (T.seq (T.region (L.op rfl rfl (O.assign rfl (L.nil (T.block (?_)))))))))))))))))))))
    refine T.loop (σ := Nat) (fun i => [(4, l4), (6, .int .i64 (maxTo (canonOf (looseRaw N K ls)) i)), (7, .int .i64 i)]) (fun i w' => i ≤ (looseRaw N K ls).length ∧ Ext w4 w') (fun i => 9 - i) (0) ⟨rfl, rfl, rfl, trivial⟩ ⟨Nat.zero_le _, Keep.refl _ _⟩ ?_
    rintro i w5 ⟨hi5, he5⟩
    have hc5 := hc4.keep (he5.mono (Nat.zero_le _))
    refine T.seq (T.seq (T.region (L.op rfl rfl (O.move rfl (L.op rfl rfl (O.move rfl (L.op rfl rfl (O.len Tryd.runUnderlying35 rfl (Sl.val hc5) (L.op rfl rfl (O.lss_s rfl rfl (fun hlt5 => ?_) (fun hlt5 => ?_)))))))))))
    · refine L.nil (?_)
      have hlt6 : i < (looseRaw N K ls).length := by omega
      have hbi := hbd i hlt6
      have hmx := maxTo_le (xs := canonOf (looseRaw N K ls)) (m := 10) (by omega) (fun j hj => by have := hbd j (by omega); unfold canonOf; omega) i (by omega)
      have hb6 : 0 ≤ (canonOf (looseRaw N K ls)).getD i 0 ∧ (canonOf (looseRaw N K ls)).getD i 0 ≤ 10 := by unfold canonOf; omega
      refine T.cond_true rfl (T.skip (T.seq (T.block (T.region (L.op rfl rfl (O.move rfl (L.op rfl rfl (O.move rfl (L.op rfl rfl (O.move rfl (L.op rfl rfl (O.indexAddr Tryd.runUnderlying35 Tryd.sizeOf3 rfl rfl hc5 (by omega) (by omega) (L.op rfl rfl (O.load Tryd.isAgg3 rfl (Ints.at hc5 (by omega)) (L.op rfl rfl (O.add64 rfl rfl (by omega) (L.op rfl rfl (O.max rfl rfl (L.op rfl rfl (O.assign rfl (L.nil (T.blk (T.region (L.op rfl rfl (O.move rfl (L.op rfl rfl (O.add64 rfl rfl (by omega) (L.op rfl rfl (O.assign rfl (L.nil (T.again (i + 1) (by omega) ⟨rfl, rfl, rfl, trivial⟩ ⟨by omega, he5⟩)))))))))))))))))))))))))))))))
    · refine L.nil (?_)
      have hin5 : i = (looseRaw N K ls).length := by omega
      refine T.cond_false rfl (T.exit rfl (T.seq (T.region (L.op rfl rfl (O.move rfl (L.op rfl rfl (O.move rfl (L.op rfl rfl (O.assign rfl (L.op rfl rfl (O.assign rfl (L.nil (T.ret2 Tryd.results27 rfl rfl ⟨(((he1.trans he2).trans he3).trans he4).trans he5, l4, by rw [hin5], ?_⟩)))))))))))))
      exact hc5.mono (((he1.trans he2).trans he3).size)

end Go.Proofs.YthjdljbghjelfaaDoor
set_option linter.unusedVariables false
set_option linter.unusedSimpArgs false
set_option maxRecDepth 20000
namespace Go.Proofs.YthjdljbghjelfaaDoor
open Go Go.E
attribute [local irreducible] Go.E.T Go.E.L Go.E.O Go.E.Ob

/-- The labels of the first units, and how many districts have begun. -/
def plTo (ps ls : List Int) (most : Int) : Nat → List Int × Int
  | 0 => ([0], 1)
  | i + 1 => if labelOf ls (i + 1) % 2 = 1 ∧ (plTo ps ls most i).2 < most then ((plTo ps ls most i).1 ++ [(plTo ps ls most i).2], (plTo ps ls most i).2 + 1) else ((plTo ps ls most i).1 ++ [(plTo ps ls most i).1.getD (parentOf ps (i + 1)).toNat 0], (plTo ps ls most i).2)
theorem plTo_len (ps ls : List Int) (most : Int) : ∀ i, (plTo ps ls most i).1.length = i + 1
  | 0 => rfl
  | i + 1 => by
    simp only [plTo]
    split <;> simp [plTo_len ps ls most i]
theorem plTo_le (ps ls : List Int) {most : Int} (hm : 1 ≤ most) : ∀ i, 1 ≤ (plTo ps ls most i).2 ∧ (plTo ps ls most i).2 ≤ most
  | 0 => ⟨Int.le_refl _, hm⟩
  | i + 1 => by
    have ih := plTo_le ps ls hm i
    simp only [plTo]
    split
    · simp only; omega
    · exact ih
theorem parentOf_lt {ps : List Int} (h : Octs ps) {i : Nat} (hi : 1 ≤ i) : 0 ≤ parentOf ps i ∧ parentOf ps i < i := by
  unfold parentOf
  split
  · exact ⟨Int.emod_nonneg _ (by omega), Int.emod_lt_of_pos _ (by omega)⟩
  · omega
def planOf (N K : Int) (ps ls : List Int) : List Int × Int := plTo ps ls (1 + K % 4) ((unitsOf N).toNat - 1)
theorem Plan_calls (lo lo' : Nat) (N K : Int) (pv mv lv : Value) (ps ls : List Int) (w : World) (h0 : 0 ≤ N) (h1 : N ≤ 255) (hk0 : 0 ≤ K) (hk1 : K ≤ 255) (hp : Ints .u8 lo w pv ps) (hpo : Octs ps) (hl : Ints .u8 lo' w lv ls) (hlo : Octs ls) :
    Calls Tryd.prog 37 #[dV N pv mv lv K] w (Ret fun v w' => Ext w w' ∧ ∃ l, v = .tuple #[l, .int .i64 (planOf N K ps ls).2] ∧ Ints .i64 w.heap.size w' l (planOf N K ps ls).1) := by
  have hun : 1 ≤ unitsOf N ∧ unitsOf N ≤ 9 := by unfold unitsOf; omega
  have hm4 : 0 ≤ K % 4 ∧ K % 4 < 4 := by omega
  refine T.enter (vs := [dV N pv mv lv K]) Tryd.func37 rfl Tryd.ntmps37 rfl ?_
  refine T.seq (T.region (L.op rfl rfl (O.box rfl (fun b1 w1 hb1 hz1 he1 hB1 => ?_))))
  refine L.op rfl rfl (O.assign rfl (L.op rfl rfl (O.assign rfl (L.nil (T.seq (T.region (L.op rfl rfl (O.buildSlice (el := 3) (parts := [(0, .const (.int .i64 0))]) (vs := [(0, _)]) (cs := [.int .i64 0]) rfl (fun w => by kernel_rfl) (fun b9 w9 hb9 hz9 he9 hB9 => ?_)))))))))
  have hO9 := owns_blk (base := w1.heap.size) hB9 (by omega) (Nat.le_refl 1) (by decide) (sz := 1) rfl
  refine L.op rfl rfl (O.assign rfl (L.nil (T.seq (T.region (L.op rfl rfl (O.assign rfl (L.nil (T.seq (T.region (L.op rfl rfl (O.fieldAddr Tryd.runUnderlying25 rfl Tryd.sizeOf5 rfl (L.op rfl rfl (O.load Tryd.isAgg5 rfl (Blk.at (hB1.keep he9 (Nat.zero_le _)) rfl) (L.op rfl rfl (O.rem rfl rfl (by omega) (by omega) (L.op rfl rfl (O.conv_to rfl (fun w => ⟨_, Tryd.runUnderlying5 w⟩) Tryd.runUnderlying3 (IntWalk.i64_in _ ⟨by omega, by omega⟩) (L.op rfl rfl (O.add64 rfl rfl (by omega) (L.op rfl rfl (O.assign rfl (L.nil (T.seq (T.seq (T.region (L.op rfl rfl (O.assign rfl (L.nil (T.block (?_))))))))))))))))))))))))))))))
  refine T.loop (σ := Nat × Value) (fun s => [(1, .pointer (some ⟨b1, 0, none⟩)), (4, s.2), (5, .int .i64 (plTo ps ls (1 + K % 4) s.1).2), (6, .int .i64 (1 + K % 4)), (7, .int .i64 ((s.1 + 1 : Nat) : Int))]) (fun s w' => (s.1 : Int) + 1 ≤ unitsOf N ∧ Ext w1 w' ∧ w'.ownsRow w1.heap.size 3 1 s.2 (s.1 + 1) ((plTo ps ls (1 + K % 4) s.1).1.map (Value.int .i64))) (fun s => 9 - s.1) ((0, .slice (some ⟨b9, 0, none⟩) 1 1)) ⟨rfl, rfl, rfl, rfl, rfl, trivial⟩ ⟨by simp only; omega, he9, hO9⟩ ?_
  rintro ⟨i, out⟩ w2 ⟨hi, he2, hO2⟩
  simp only at hi he2 hO2
  have hB2 := hB1.keep he2 (Nat.zero_le _)
  have hkk := plTo_le ps ls (most := 1 + K % 4) (by omega) i
  have hll := plTo_len ps ls (1 + K % 4) i
  refine T.seq (T.seq (T.region (L.op rfl rfl (O.move rfl (L.op rfl rfl (O.loadAgg Tryd.isAgg25 Tryd.sizeOf25 rfl rfl hB2.row (L.op rfl rfl (O.call (xs := [.tmp 16]) Tryd.call55 rfl rfl (Units_calls N K pv mv lv w2 h0 h1) (fun v3 w3 hq => ?_)))))))))
  obtain ⟨rfl, he3⟩ := hq
  have hO3 := owns_keep hO2 he3 (Nat.zero_le _)
  refine L.op rfl rfl (O.lss_s rfl rfl (fun hlt => ?_) (fun hlt => ?_))
  · refine L.nil (?_)
    have hr3 : Ints .i64 w1.heap.size w3 out (plTo ps ls (1 + K % 4) i).1 := by
      have h9 := Sl.of_owns hO3
      unfold Ints; rw [hll]; exact h9
    have hpt := parentOf_lt hpo (show 1 ≤ i + 1 by omega)
    refine T.cond_true rfl (T.skip (T.seq (T.block (T.seq (T.region (L.op rfl rfl (O.move rfl (L.op rfl rfl (O.loadAgg Tryd.isAgg25 Tryd.sizeOf25 rfl rfl ((hB2.keep he3 (Nat.zero_le _)).row) (L.op rfl rfl (O.move rfl (L.op rfl rfl (O.call (xs := [.tmp 22, .tmp 23]) Tryd.call63 rfl rfl (parent_calls lo N K pv mv lv ps (i + 1) w3 (hp.keep (((he1.trans he2).trans he3).mono (Nat.zero_le lo))) hpo (by omega) (by simp only at hlt; omega)) (fun v4 w4 hq => ?_))))))))))))))
    obtain ⟨rfl, he4⟩ := hq
    have hr4 := hr3.keep (he4.mono (Nat.zero_le _))
    refine L.op rfl rfl (O.indexAddr Tryd.runUnderlying35 Tryd.sizeOf3 rfl rfl hr4 (by omega) (by omega) (L.op rfl rfl (O.load Tryd.isAgg3 rfl (Ints.cell hr4 hpt.1 (by omega)) (L.op rfl rfl (O.assign rfl (L.nil (T.seq (T.seq (T.region (L.op rfl rfl (O.loadAgg Tryd.isAgg25 Tryd.sizeOf25 rfl rfl ((hB2.keep (he3.trans he4) (Nat.zero_le _)).row) (L.op rfl rfl (O.move rfl (L.op rfl rfl (O.call (xs := [.tmp 27, .tmp 28]) Tryd.call56 rfl rfl (label_calls lo' N K pv mv lv ls (i + 1) w4 (hl.keep ((((he1.trans he2).trans he3).trans he4).mono (Nat.zero_le lo'))) hlo) (fun v5 w5 hq => ?_))))))))))))))))
    obtain ⟨rfl, he5⟩ := hq
    have hO5 := owns_keep (owns_keep hO3 he4 (Nat.zero_le _)) he5 (Nat.zero_le _)
    have hnn := labelOf_nn hlo (i + 1)
    have he25 := ((he2.trans he3).trans he4).trans he5
    refine L.op rfl rfl (O.rem rfl rfl hnn (by omega) (L.op rfl rfl (O.eql_s rfl rfl (fun hodd => ?_) (fun hodd => ?_))))
    · refine L.op rfl rfl (O.move rfl (L.op rfl rfl (O.move rfl (L.op rfl rfl (O.move rfl (L.op rfl rfl (O.lss_s rfl rfl (fun hk => ?_) (fun hk => ?_))))))))
      · have hstep : plTo ps ls (1 + K % 4) (i + 1) = ((plTo ps ls (1 + K % 4) i).1 ++ [(plTo ps ls (1 + K % 4) i).2], (plTo ps ls (1 + K % 4) i).2 + 1) := by simp only [plTo]; rw [if_pos ⟨hodd, hk⟩]
        refine L.op rfl rfl (O.pick_true rfl rfl (L.nil (T.cond_true rfl (T.seq (T.region (L.op rfl rfl (O.move rfl (L.op rfl rfl (O.assign rfl (L.nil (T.region (L.op rfl rfl (O.move rfl (L.op rfl rfl (O.add64 rfl rfl (by simp only; omega) (L.op rfl rfl (O.assign rfl (L.nil (T.region (L.op rfl rfl (O.move rfl (L.op rfl rfl (O.move rfl (L.op rfl rfl (O.buildSlice (el := 3) (parts := [(0, .tmp 41)]) (vs := [(0, _)]) (cs := [.int .i64 (plTo ps ls (1 + K % 4) i).2]) rfl (fun w => by kernel_rfl) (fun b6 w6 hb6 hz6 he6 hB6 => ?_))))))))))))))))))))))))))
        refine L.op rfl rfl (O.append (size := 1) (bytes := 8) Tryd.runUnderlying35 Tryd.infoOf3 rfl rfl rfl rfl (by decide) rfl rfl (owns_keep hO5 he6 (Nat.zero_le _)) (Sl.of_blk (lo := 0) hB6 rfl (Nat.le_refl _) (by decide) (Nat.zero_le _)) (by intro c hc; simp at hc; simp [hc, Value.oneCell']) (by omega) (by simp only [maxLen]; omega) (Nat.le_trans he25.size he6.size) (fun v7 w7 hO7 hG7 => ?_))
        refine L.op rfl rfl (O.assign rfl (L.nil (T.blk (T.region (L.op rfl rfl (O.move rfl (L.op rfl rfl (O.add64 rfl rfl (by omega) (L.op rfl rfl (O.assign rfl (L.nil (T.again ((i + 1, v7)) (by simp only at hlt ⊢; omega) ⟨rfl, rfl, ?_, rfl, rfl, trivial⟩ ⟨by simp only at hlt ⊢; omega, (he25.trans he6).grown0 hO5 hG7 (Nat.le_refl _), by simp only [hstep, List.map_append]; exact hO7⟩))))))))))))
        · exact congrArg (fun q => some (Value.int .i64 q)) (by rw [hstep])
      · have hstep : plTo ps ls (1 + K % 4) (i + 1) = ((plTo ps ls (1 + K % 4) i).1 ++ [(plTo ps ls (1 + K % 4) i).1.getD (parentOf ps (i + 1)).toNat 0], (plTo ps ls (1 + K % 4) i).2) := by simp only [plTo]; rw [if_neg (fun h => hk h.2)]
        refine L.op rfl rfl (O.pick_true rfl rfl (L.nil (T.cond_false rfl (T.skip (T.region (L.op rfl rfl (O.move rfl (L.op rfl rfl (O.move rfl (L.op rfl rfl (O.buildSlice (el := 3) (parts := [(0, .tmp 41)]) (vs := [(0, _)]) (cs := [.int .i64 ((plTo ps ls (1 + K % 4) i).1.getD (parentOf ps (i + 1)).toNat 0)]) rfl (fun w => by kernel_rfl) (fun b6 w6 hb6 hz6 he6 hB6 => ?_))))))))))))
        refine L.op rfl rfl (O.append (size := 1) (bytes := 8) Tryd.runUnderlying35 Tryd.infoOf3 rfl rfl rfl rfl (by decide) rfl rfl (owns_keep hO5 he6 (Nat.zero_le _)) (Sl.of_blk (lo := 0) hB6 rfl (Nat.le_refl _) (by decide) (Nat.zero_le _)) (by intro c hc; simp at hc; simp [hc, Value.oneCell']) (by omega) (by simp only [maxLen]; omega) (Nat.le_trans he25.size he6.size) (fun v7 w7 hO7 hG7 => ?_))
        refine L.op rfl rfl (O.assign rfl (L.nil (T.blk (T.region (L.op rfl rfl (O.move rfl (L.op rfl rfl (O.add64 rfl rfl (by omega) (L.op rfl rfl (O.assign rfl (L.nil (T.again ((i + 1, v7)) (by simp only at hlt ⊢; omega) ⟨rfl, rfl, ?_, rfl, rfl, trivial⟩ ⟨by simp only at hlt ⊢; omega, (he25.trans he6).grown0 hO5 hG7 (Nat.le_refl _), by simp only [hstep, List.map_append]; exact hO7⟩))))))))))))
        · exact congrArg (fun q => some (Value.int .i64 q)) (by rw [hstep])
    · have hstep : plTo ps ls (1 + K % 4) (i + 1) = ((plTo ps ls (1 + K % 4) i).1 ++ [(plTo ps ls (1 + K % 4) i).1.getD (parentOf ps (i + 1)).toNat 0], (plTo ps ls (1 + K % 4) i).2) := by simp only [plTo]; rw [if_neg (fun h => hodd h.1)]
      refine L.op rfl rfl (O.move rfl (L.pass rfl rfl (L.pass rfl rfl (L.pass rfl rfl (L.op rfl rfl (O.pick_false rfl rfl (L.nil (T.cond_false rfl (T.skip (T.region (L.op rfl rfl (O.move rfl (L.op rfl rfl (O.move rfl (L.op rfl rfl (O.buildSlice (el := 3) (parts := [(0, .tmp 41)]) (vs := [(0, _)]) (cs := [.int .i64 ((plTo ps ls (1 + K % 4) i).1.getD (parentOf ps (i + 1)).toNat 0)]) rfl (fun w => by kernel_rfl) (fun b6 w6 hb6 hz6 he6 hB6 => ?_)))))))))))))))))
      refine L.op rfl rfl (O.append (size := 1) (bytes := 8) Tryd.runUnderlying35 Tryd.infoOf3 rfl rfl rfl rfl (by decide) rfl rfl (owns_keep hO5 he6 (Nat.zero_le _)) (Sl.of_blk (lo := 0) hB6 rfl (Nat.le_refl _) (by decide) (Nat.zero_le _)) (by intro c hc; simp at hc; simp [hc, Value.oneCell']) (by omega) (by simp only [maxLen]; omega) (Nat.le_trans he25.size he6.size) (fun v7 w7 hO7 hG7 => ?_))
      refine L.op rfl rfl (O.assign rfl (L.nil (T.blk (T.region (L.op rfl rfl (O.move rfl (L.op rfl rfl (O.add64 rfl rfl (by omega) (L.op rfl rfl (O.assign rfl (L.nil (T.again ((i + 1, v7)) (by simp only at hlt ⊢; omega) ⟨rfl, rfl, ?_, rfl, rfl, trivial⟩ ⟨by simp only at hlt ⊢; omega, (he25.trans he6).grown0 hO5 hG7 (Nat.le_refl _), by simp only [hstep, List.map_append]; exact hO7⟩))))))))))))
      · exact congrArg (fun q => some (Value.int .i64 q)) (by rw [hstep])
  · refine L.nil (?_)
    have hin : i = (unitsOf N).toNat - 1 := by simp only at hlt; omega
    refine T.cond_false rfl (T.exit rfl (T.seq (T.region (L.op rfl rfl (O.move rfl (L.op rfl rfl (O.move rfl (L.op rfl rfl (O.assign rfl (L.op rfl rfl (O.assign rfl (L.nil (T.ret2 Tryd.results37 rfl rfl ⟨(he1.trans he2).trans he3, out, by rw [planOf, ← hin], ?_⟩)))))))))))))
    have h9 := (Sl.of_owns hO3).mono he1.size
    unfold Ints planOf
    rw [← hin, hll]; exact h9

end Go.Proofs.YthjdljbghjelfaaDoor
set_option linter.unusedVariables false
set_option linter.unusedSimpArgs false
set_option maxRecDepth 20000
namespace Go.Proofs.YthjdljbghjelfaaDoor
open Go Go.E
attribute [local irreducible] Go.E.T Go.E.L Go.E.O Go.E.Ob

def edRow (J : Nat → Nat → Bool) (a : Nat) : Nat → List (Int × Int)
  | 0 => []
  | j + 1 => edRow J a j ++ (if J a (a + 1 + j) = true then [((a : Int), ((a + 1 + j : Nat) : Int))] else [])
def edTo (J : Nat → Nat → Bool) (n : Nat) : Nat → List (Int × Int)
  | 0 => []
  | a + 1 => edTo J n a ++ edRow J a (n - (a + 1))
theorem edRow_len (J : Nat → Nat → Bool) (a : Nat) : ∀ j, (edRow J a j).length ≤ j
  | 0 => Nat.le_refl _
  | j + 1 => by
    have := edRow_len J a j
    simp only [edRow, List.length_append]
    split <;> simp <;> omega
theorem edTo_len (J : Nat → Nat → Bool) {n : Nat} (hn : n ≤ 9) : ∀ a, (edTo J n a).length ≤ 9 * a
  | 0 => Nat.le_refl _
  | a + 1 => by
    have := edTo_len J hn a
    have := edRow_len J a (n - (a + 1))
    simp only [edTo, List.length_append]; omega
def edgesOf (N : Int) (ps : List Int) (ms : List (Int × Int)) : List (Int × Int) := edTo (joinedB N ps ms) (unitsOf N).toNat (unitsOf N).toNat
theorem cellsOf_app : ∀ (xs ys : List (Int × Int)), cellsOf (xs ++ ys) = cellsOf xs ++ cellsOf ys
  | [], _ => rfl
  | p :: r, ys => by simp [cellsOf, cellsOf_app r ys]
theorem Graph_calls (lo lo' : Nat) (N K : Int) (pv mv lv : Value) (ps : List Int) (ms : List (Int × Int)) (w : World) (h0 : 0 ≤ N) (h1 : N ≤ 255) (hp : Ints .u8 lo w pv ps) (hpo : Octs ps) (hm : PairsU lo' w mv ms) (hmo : ∀ j, 0 ≤ (ms.getD j (0, 0)).1 ∧ (ms.getD j (0, 0)).1 ≤ 255 ∧ 0 ≤ (ms.getD j (0, 0)).2 ∧ (ms.getD j (0, 0)).2 ≤ 255) :
    Calls Tryd.prog 36 #[dV N pv mv lv K] w (Ret fun v w' => Ext w w' ∧ ∃ l, v = gV (unitsOf N) l ∧ Pairs w.heap.size w' l (edgesOf N ps ms)) := by
  have hun : 1 ≤ unitsOf N ∧ unitsOf N ≤ 9 := by unfold unitsOf; omega
  refine T.enter (vs := [dV N pv mv lv K]) Tryd.func36 rfl Tryd.ntmps36 rfl ?_
  refine T.seq (T.region (L.op rfl rfl (O.box rfl (fun b1 w1 hb1 hz1 he1 hB1 => ?_))))
  refine L.op rfl rfl (O.alloc Tryd.zeroValue33 (fun b2 w2 hb2 hz2 he2 hB2 => ?_))
  refine L.nil (T.seq (T.region (L.op rfl rfl (O.loadAgg Tryd.isAgg25 Tryd.sizeOf25 rfl rfl ((hB1.keep he2 (Nat.zero_le _)).row) (L.op rfl rfl (O.call (xs := [.tmp 6]) Tryd.call55 rfl rfl (Units_calls N K pv mv lv w2 h0 h1) (fun v3 w3 hq => ?_)))))))
  obtain ⟨rfl, he3⟩ := hq
  refine L.op rfl rfl (O.build (v := .agg #[.int .i64 (unitsOf N), .slice none 0 0]) (parts := [(0, .tmp 7)]) (vs := [(0, _)]) rfl (fun w => by kernel_rfl) (L.op rfl rfl (O.alloc Tryd.zeroValue33 (fun b4 w4 hb4 hz4 he4 hB4 => ?_))))
  refine L.op rfl rfl (O.storeAgg Tryd.sizeOf33 rfl rfl rfl hB4 (Nat.le_refl _) (by simp [Value.oneCell']) (fun w5 hu5 hB5 => ?_))
  have hz3 := he3.size
  have hz5 := hu5.size
  refine L.nil (T.seq (T.seq (T.region (L.op rfl rfl (O.assign rfl (L.nil (T.block (?_))))))))
  refine T.loop (σ := Nat) (fun a => [(1, .pointer (some ⟨b1, 0, none⟩)), (2, .pointer (some ⟨b2, 0, none⟩)), (3, .pointer (some ⟨b4, 0, none⟩)), (4, .int .i64 a)]) (fun a w' => a ≤ (unitsOf N).toNat ∧ Ext w3 w' ∧ ∃ l, Blk w' b4 [.int .i64 (unitsOf N), l] 33 ∧ w'.ownsRow w4.heap.size 80 2 l (edTo (joinedB N ps ms) (unitsOf N).toNat a).length (cellsOf (edTo (joinedB N ps ms) (unitsOf N).toNat a))) (fun a => 9 - a) (0) ⟨rfl, rfl, rfl, rfl, trivial⟩ ⟨Nat.zero_le _, he4.upd hu5 (.inr (by omega)), .slice none 0 0, hB5, owns_nil _ _ _ _⟩ ?_
  rintro a w6 ⟨ha, he6, l6, hB6, hO6⟩
  refine T.seq (T.seq (T.region (L.op rfl rfl (O.move rfl (L.op rfl rfl (O.fieldAddr Tryd.runUnderlying33 rfl Tryd.sizeOf3 rfl (L.op rfl rfl (O.load Tryd.isAgg3 rfl (Blk.at hB6 rfl) (L.op rfl rfl (O.lss_s rfl rfl (fun hlt => ?_) (fun hlt => ?_)))))))))))
  · refine L.nil (T.cond_true rfl (T.skip (T.seq (T.block (T.seq (T.region (L.op rfl rfl (O.move rfl (L.op rfl rfl (O.add64 rfl rfl (by omega) (L.op rfl rfl (O.assign rfl (L.nil (T.block (?_)))))))))))))))
    refine T.loop (σ := Nat) (fun j => [(1, .pointer (some ⟨b1, 0, none⟩)), (2, .pointer (some ⟨b2, 0, none⟩)), (3, .pointer (some ⟨b4, 0, none⟩)), (4, .int .i64 a), (5, .int .i64 ((a + 1 + j : Nat) : Int))]) (fun j w' => a + 1 + j ≤ (unitsOf N).toNat ∧ Ext w3 w' ∧ ∃ l, Blk w' b4 [.int .i64 (unitsOf N), l] 33 ∧ w'.ownsRow w4.heap.size 80 2 l (edTo (joinedB N ps ms) (unitsOf N).toNat a ++ edRow (joinedB N ps ms) a j).length (cellsOf (edTo (joinedB N ps ms) (unitsOf N).toNat a ++ edRow (joinedB N ps ms) a j))) (fun j => 9 - j) (0) ⟨rfl, rfl, rfl, rfl, rfl, trivial⟩ ⟨by omega, he6, l6, hB6, by simp only [edRow, List.append_nil]; exact hO6⟩ ?_
    rintro j w7 ⟨hj, he7, l7, hB7, hO7⟩
    refine T.seq (T.seq (T.region (L.op rfl rfl (O.move rfl (L.op rfl rfl (O.fieldAddr Tryd.runUnderlying33 rfl Tryd.sizeOf3 rfl (L.op rfl rfl (O.load Tryd.isAgg3 rfl (Blk.at hB7 rfl) (L.op rfl rfl (O.lss_s rfl rfl (fun hlt2 => ?_) (fun hlt2 => ?_)))))))))))
    · refine L.nil (T.cond_true rfl (T.skip (T.seq (T.block (T.seq (T.region (L.op rfl rfl (O.loadAgg Tryd.isAgg25 Tryd.sizeOf25 rfl rfl ((hB1.keep ((he2.trans he3).trans he7) (Nat.zero_le _)).row) (?_)))))))))
      have he07 := ((he1.trans he2).trans he3).trans he7
      refine L.op rfl rfl (O.move rfl (L.op rfl rfl (O.move rfl (L.op rfl rfl (O.call (xs := [.tmp 23, .tmp 24, .tmp 25]) Tryd.call62 rfl rfl (joined_calls lo lo' N K pv mv lv ps ms a (a + 1 + j) w7 h0 h1 (hp.keep (he07.mono (Nat.zero_le lo))) hpo (hm.keep (he07.mono (Nat.zero_le lo'))) hmo (by omega) (by omega)) (fun v8 w8 hq => ?_))))))
      obtain ⟨rfl, he8⟩ := hq
      have hB8 := hB7.keep he8 (Nat.zero_le _)
      have hO8 := owns_keep hO7 he8 (Nat.zero_le _)
      cases hjj : joinedB N ps ms a (a + 1 + j)
      · refine L.nil (T.cond_false rfl (T.skip (T.blk (T.region (L.op rfl rfl (O.move rfl (L.op rfl rfl (O.add64 rfl rfl (by omega) (L.op rfl rfl (O.assign rfl (L.nil (T.again (j + 1) (by omega) ⟨rfl, rfl, rfl, rfl, rfl, trivial⟩ ⟨by omega, he7.trans he8, l7, hB8, by simp only [edRow, hjj]; simpa using hO8⟩))))))))))))
      · refine L.nil (T.cond_true rfl (T.region (L.op rfl rfl (O.fieldAddr Tryd.runUnderlying33 rfl Tryd.sizeOf31 rfl (L.op rfl rfl (O.load Tryd.isAgg31 rfl (Blk.at hB8 rfl) (L.op rfl rfl (O.move rfl (L.op rfl rfl (O.move rfl (L.op rfl rfl (O.build (v := .agg #[.int .i64 a, .int .i64 ((a + 1 + j : Nat) : Int)]) (parts := [(0, .tmp 29), (1, .tmp 30)]) (vs := [(0, _), (1, _)]) rfl (fun w => by kernel_rfl) (L.op rfl rfl (O.buildSlice (el := 80) (parts := [(0, .tmp 31)]) (vs := [(0, _)]) (cs := [.int .i64 a, .int .i64 ((a + 1 + j : Nat) : Int)]) rfl (fun w => by kernel_rfl) (fun b9 w9 hb9 hz9 he9 hB9 => ?_)))))))))))))))
        have hz7 := he7.size
        have hz8 := he8.size
        have hz9 := he9.size
        have hl7 : (edTo (joinedB N ps ms) (unitsOf N).toNat a ++ edRow (joinedB N ps ms) a j).length ≤ 99 := by have h1 := edTo_len (joinedB N ps ms) (show (unitsOf N).toNat ≤ 9 by omega) a; have h2 := edRow_len (joinedB N ps ms) a j; rw [List.length_append]; omega
        have hw4 : w4.heap.size ≤ w7.heap.size := by have := hB7.lt; omega
        refine L.op rfl rfl (O.append (size := 2) (bytes := 16) Tryd.runUnderlying31 Tryd.infoOf80 rfl rfl rfl rfl (by decide) rfl rfl (owns_keep hO8 he9 (Nat.zero_le _)) (Sl.of_blk (lo := 0) (n := 1) hB9 rfl (Nat.le_refl _) (by decide) (Nat.zero_le _)) (by intro c hc; simp at hc; rcases hc with (rfl|rfl) <;> rfl) (by omega) (by simp only [maxLen]; omega) (by omega) (fun v10 w10 hO10 hG10 => ?_))
        have hB10 := (hB8.keep he9 (Nat.zero_le _)).grown hG10 (fun q hq => by have := (own_at hO8 hq).1; omega)
        refine L.op rfl rfl (O.fieldAddr Tryd.runUnderlying33 rfl Tryd.sizeOf31 rfl (L.op rfl rfl (O.store1_at Tryd.sizeOf31 (Sl.one (Sl.of_owns hO10)) rfl rfl hB10 (by simp) (fun w11 hu11 hB11 => ?_))))
        refine L.nil (T.blk (T.region (L.op rfl rfl (O.move rfl (L.op rfl rfl (O.add64 rfl rfl (by omega) (L.op rfl rfl (O.assign rfl (L.nil (T.again (j + 1) (by omega) ⟨rfl, rfl, rfl, rfl, rfl, trivial⟩ ⟨by omega, (((he7.trans he8).trans he9).grown0 hO8 hG10 (by omega)).upd hu11 (.inr (by omega)), v10, hB11, ?_⟩))))))))))
        · have h9 := owns_upd hO10 hu11 (show b4 < w4.heap.size by omega)
          rw [show edTo (joinedB N ps ms) (unitsOf N).toNat a ++ edRow (joinedB N ps ms) a (j + 1) = (edTo (joinedB N ps ms) (unitsOf N).toNat a ++ edRow (joinedB N ps ms) a j) ++ [((a : Int), ((a + 1 + j : Nat) : Int))] from by simp only [edRow, hjj, if_true, List.append_assoc], List.length_append, cellsOf_app]
          exact h9
    · refine L.nil (?_)
      have hjn : j = (unitsOf N).toNat - (a + 1) := by omega
      refine T.cond_false rfl (T.exit rfl (T.blk (T.region (L.op rfl rfl (O.move rfl (L.op rfl rfl (O.add64 rfl rfl (by omega) (L.op rfl rfl (O.assign rfl (L.nil (T.again (a + 1) (by omega) ⟨rfl, rfl, rfl, rfl, trivial⟩ ⟨by omega, he7, l7, hB7, by simp only [edTo]; rw [← hjn]; exact hO7⟩)))))))))))
  · refine L.nil (?_)
    have hin : a = (unitsOf N).toNat := by omega
    refine T.cond_false rfl (T.exit rfl (T.seq (T.region (L.op rfl rfl (O.loadAgg Tryd.isAgg33 Tryd.sizeOf33 rfl rfl hB6.row (L.op rfl rfl (O.storeAgg Tryd.sizeOf33 rfl rfl rfl (hB2.keep (he3.trans he6) (Nat.zero_le _)) (Nat.le_refl _) (by intro u hu; simp at hu; rcases hu with (rfl|rfl); rfl; exact Sl.one (Sl.of_owns hO6)) (fun w7 hu7 hB7 => ?_))))))))
    refine L.nil (T.retA Tryd.results36 Tryd.isAgg33 Tryd.sizeOf33 rfl rfl hB7.row ⟨(((he1.trans he2).trans he3).trans he6).upd hu7 (.inr (by omega)), l6, rfl, ?_⟩)
    have hs := (he1.trans he2).size
    have h9 := (Sl.of_owns (owns_upd hO6 hu7 (by omega))).mono (show w.heap.size ≤ w4.heap.size by omega)
    unfold Pairs edgesOf
    rw [hin] at h9; exact h9

end Go.Proofs.YthjdljbghjelfaaDoor
set_option linter.unusedVariables false
set_option linter.unusedSimpArgs false
set_option maxRecDepth 20000
namespace Go.Proofs.YthjdljbghjelfaaDoor
open Go Go.E
attribute [local irreducible] Go.E.T Go.E.L Go.E.O Go.E.Ob

theorem Sl_take {w : World} {oa : Option Addr} {n m cap lo : Nat} {cs : List Value} (h : Sl lo w (.slice oa n cap) n 1 cs) (hm : m ≤ n) : Sl lo w (.slice oa m cap) m 1 (cs.take m) := by
  obtain ⟨h1, oa', cap', he, h3, h4, h5⟩ := h
  cases he
  refine ⟨by rw [List.length_take]; omega, _, _, rfl, by omega, h4, ?_⟩
  rcases h5 with h5 | ⟨a, rfl, hl, hr⟩
  · exact .inl (by omega)
  · exact .inr ⟨a, rfl, hl, hr.take _⟩
def bendOf (B A n : Int) (xs : List Int) : List Int :=
  if B % 4 = 0 then xs.set (A % xs.length).toNat n else if B % 4 = 1 then xs ++ [n] else if B % 4 = 2 then xs.take (xs.length - 1) else xs
def beV (B A n : Int) : Value := .agg #[.int .u8 B, .int .u8 A, .int .i64 n]
theorem Of_calls (lo : Nat) (B A n : Int) (p : Value) (xs : List Int) (w : World) (hB0 : 0 ≤ B) (hB1 : B ≤ 255) (hA0 : 0 ≤ A) (hA1 : A ≤ 255) (hx : Ints .i64 lo w p xs) (hx1 : 1 ≤ xs.length) (hxl : xs.length ≤ 100) :
    Calls Tryd.prog 29 #[beV B A n, p] w (Ret fun v w' => Ext w w' ∧ Ints .i64 w.heap.size w' v (bendOf B A n xs)) := by
  refine T.enter (vs := [beV B A n, p]) Tryd.func29 rfl Tryd.ntmps29 rfl ?_
  refine T.seq (T.region (L.op rfl rfl (O.box rfl (fun b2 w2 hb2 hz2 he2 hB2 => ?_))))
  have hx2 := hx.keep (he2.mono (Nat.zero_le lo))
  refine L.op rfl rfl (O.assign rfl (L.nil (T.seq (T.region (L.op rfl rfl (O.assign rfl (L.nil (T.seq (T.region (L.op rfl rfl (O.move rfl (L.op rfl rfl (O.move rfl (L.op rfl rfl (O.append (size := 1) (bytes := 8) Tryd.runUnderlying35 Tryd.infoOf3 rfl rfl rfl rfl (by decide) rfl rfl (owns_nil w2 w2.heap.size 3 1) hx2 (by intro c hc; simp at hc; obtain ⟨a, _, rfl⟩ := hc; rfl) (by omega) (by simp only [maxLen]; omega) (Nat.le_refl _) (fun v3 w3 hO3 hG3 => ?_))))))))))))))))
  have he3 : Ext w2 w3 := (Keep.refl 0 w2).grown0 (owns_nil w2 w2.heap.size 3 1) hG3 (Nat.le_refl _)
  have he03 := he2.trans he3
  have hz03 := he03.size
  have hz2 := he2.size
  have hB3 := hB2.keep he3 (Nat.zero_le _)
  obtain ⟨g, cap, cur, rfl, hg, hBg, hnc, hcm, hlc, htk⟩ := own_parts hO3 (by omega)
  have hS3 := Sl.of_owns hO3
  refine L.op rfl rfl (O.assign rfl (L.nil (T.seq (T.seq (T.region (L.op rfl rfl (O.fieldAddr Tryd.runUnderlying27 rfl Tryd.sizeOf5 rfl (L.op rfl rfl (O.load Tryd.isAgg5 rfl (Blk.at hB3 rfl) (L.op rfl rfl (O.rem rfl rfl (by omega) (by omega) (L.nil (T.block (T.seq (T.region (L.op rfl rfl (O.eql_s rfl rfl (fun h0 => ?_) (fun h0 => ?_))))))))))))))))))
  · refine L.op rfl rfl (O.assign rfl (L.nil (T.cond_true rfl (?_))))
    refine T.anyE mixed 9 [5, 2] rfl [.is _, .is _, .is _, .is _, .is _, .is _, .is _, .is _, .is _] [[], [], [1], [2], [], [4], [3, 5], [], [7]] [[], [], [1], [1, 2], [], [4], [1, 2, 3, 4, 5], [], [7], [0, 1, 2, 3, 4, 5, 6, 7, 8], [0, 1, 2, 3, 4, 5, 6, 7, 8, 9]] (by kernel_rfl) (by kernel_rfl) rfl (by kernel_rfl) trivial ⟨fun wx hx => Ob.op rfl (O.move rfl ⟨Keep.refl _ _, rfl⟩),
        fun wx hx => Ob.op rfl (O.fieldAddr Tryd.runUnderlying27 rfl Tryd.sizeOf5 rfl ⟨Keep.refl _ _, rfl⟩),
        fun wx hx => Ob.op rfl (O.load Tryd.isAgg5 rfl (Blk.at (hB3.keep hx (Nat.zero_le _)) rfl) ⟨Keep.refl _ _, rfl⟩),
        fun wx hx => Ob.op rfl (O.conv_to rfl (fun w => ⟨_, Tryd.runUnderlying5 w⟩) Tryd.runUnderlying3 (IntWalk.i64_in _ ⟨by omega, by omega⟩) ⟨Keep.refl _ _, rfl⟩),
        fun wx hx => Ob.op rfl (O.move rfl ⟨Keep.refl _ _, rfl⟩),
        fun wx hx => Ob.op rfl (O.len Tryd.runUnderlying35 rfl (Sl.val hS3) ⟨Keep.refl _ _, rfl⟩),
        fun wx hx => Ob.op rfl (O.rem rfl rfl (by omega) (by omega) ⟨Keep.refl _ _, rfl⟩),
        fun wx hx => Ob.op rfl (O.fieldAddr Tryd.runUnderlying27 rfl Tryd.sizeOf3 rfl ⟨Keep.refl _ _, rfl⟩),
        fun wx hx => Ob.op rfl (O.load Tryd.isAgg3 rfl (Blk.at (hB3.keep hx (Nat.zero_le _)) rfl) ⟨Keep.refl _ _, rfl⟩),
        trivial⟩ (fun w4 he4 => ?_)
    have hml := Int.emod_lt_of_pos A (show (0 : Int) < ((0 + xs.length : Nat) : Int) by omega)
    have hmn := Int.emod_nonneg A (show ((0 + xs.length : Nat) : Int) ≠ 0 by omega)
    refine L.op rfl rfl (O.indexAddr Tryd.runUnderlying35 Tryd.sizeOf3 rfl rfl (Sl.of_owns hO3) (by omega) (by omega) (L.op rfl rfl (O.store1_at Tryd.sizeOf3 rfl rfl rfl (hBg.keep he4 (Nat.zero_le _)) (by omega) (fun w5 hu5 hB5 => ?_))))
    refine L.nil (T.blk (T.seq (T.region (L.op rfl rfl (O.move rfl (L.op rfl rfl (O.assign rfl (L.nil (T.ret1 Tryd.results29 rfl ⟨(he03.trans he4).upd hu5 (.inr (by omega)), ?_⟩)))))))))
    have hs := sl_set (lo := w.heap.size) (n := 0 + xs.length) hB5 hnc hcm hlc htk (by omega)
    rw [bendOf, if_pos h0]
    simp only [Nat.zero_add, Nat.mul_one, List.nil_append] at hs
    unfold Ints
    rw [List.length_set, List.map_set]
    simpa using hs
  · refine L.op rfl rfl (O.assign rfl (L.nil (T.cond_false rfl (T.seq (T.region (L.op rfl rfl (O.eql_s rfl rfl (fun h1 => ?_) (fun h1 => ?_))))))))
    · refine L.op rfl rfl (O.assign rfl (L.nil (T.cond_true rfl (T.region (L.op rfl rfl (O.move rfl (L.op rfl rfl (O.fieldAddr Tryd.runUnderlying27 rfl Tryd.sizeOf3 rfl (L.op rfl rfl (O.load Tryd.isAgg3 rfl (Blk.at hB3 rfl) (L.op rfl rfl (O.buildSlice (el := 3) (parts := [(0, .tmp 28)]) (vs := [(0, _)]) (cs := [.int .i64 n]) rfl (fun w => by kernel_rfl) (fun b4 w4 hb4 hz4 he4 hB4 => ?_)))))))))))))
      refine L.op rfl rfl (O.append (size := 1) (bytes := 8) Tryd.runUnderlying35 Tryd.infoOf3 rfl rfl rfl rfl (by decide) rfl rfl (owns_keep hO3 he4 (Nat.zero_le _)) (Sl.of_blk (lo := 0) (n := 1) hB4 rfl (Nat.le_refl _) (by decide) (Nat.zero_le _)) (by intro c hc; simp at hc; rw [hc]; rfl) (by omega) (by simp only [maxLen]; omega) (Nat.le_trans he3.size he4.size) (fun v5 w5 hO5 hG5 => ?_))
      refine L.op rfl rfl (O.assign rfl (L.nil (T.blk (T.seq (T.region (L.op rfl rfl (O.move rfl (L.op rfl rfl (O.assign rfl (L.nil (T.ret1 Tryd.results29 rfl ⟨(he03.trans he4).grown0 hO3 hG5 (by omega), ?_⟩)))))))))))
      rw [bendOf, if_neg h0, if_pos h1]
      have h9 := (Sl.of_owns hO5).mono (show w.heap.size ≤ w2.heap.size by omega)
      unfold Ints
      simpa using h9
    · refine L.op rfl rfl (O.assign rfl (L.nil (T.cond_false rfl (T.seq (T.region (L.op rfl rfl (O.eql_s rfl rfl (fun h2 => ?_) (fun h2 => ?_))))))))
      · refine L.op rfl rfl (O.assign rfl (L.nil (T.cond_true rfl (T.region (L.op rfl rfl (O.move rfl (L.op rfl rfl (O.move rfl (L.op rfl rfl (O.len Tryd.runUnderlying35 rfl (Sl.val hS3) (L.op rfl rfl (O.sub64 rfl rfl (by omega) (L.op rfl rfl (O.slice_to Tryd.runUnderlying35 Tryd.sizeOf3 rfl rfl (by omega) (by omega) (L.op rfl rfl (O.assign rfl (L.nil (T.blk (T.seq (T.region (L.op rfl rfl (O.move rfl (L.op rfl rfl (O.assign rfl (L.nil (T.ret1 Tryd.results29 rfl ⟨he03, ?_⟩))))))))))))))))))))))))))
        rw [bendOf, if_neg h0, if_neg h1, if_pos h2]
        have h9 := (Sl_take hS3 (m := (((0 + xs.length : Nat) : Int) - 1).toNat) (by omega)).mono (show w.heap.size ≤ w2.heap.size by omega)
        have e : (((0 + xs.length : Nat) : Int) - 1).toNat = xs.length - 1 := by omega
        rw [e] at h9 ⊢
        unfold Ints
        rw [List.length_take, show min (xs.length - 1) xs.length = xs.length - 1 by omega, List.map_take]
        simpa using h9
      · refine L.op rfl rfl (O.assign rfl (L.nil (T.cond_false rfl (T.skip (T.blk (T.seq (T.region (L.op rfl rfl (O.move rfl (L.op rfl rfl (O.assign rfl (L.nil (T.ret1 Tryd.results29 rfl ⟨he03, ?_⟩)))))))))))))
        rw [bendOf, if_neg h0, if_neg h1, if_neg h2]
        have h9 := hS3.mono (show w.heap.size ≤ w2.heap.size by omega)
        unfold Ints
        simpa using h9

end Go.Proofs.YthjdljbghjelfaaDoor
set_option linter.unusedVariables false
set_option linter.unusedSimpArgs false
set_option maxRecDepth 20000
namespace Go.Proofs.YthjdljbghjelfaaDoor
open Go Go.E
attribute [local irreducible] Go.E.T Go.E.L Go.E.O Go.E.Ob

theorem cellsOf_set0 : ∀ (es : List (Int × Int)) (i : Nat) (x : Int), i < es.length → (cellsOf es).set (i * 2) (.int .i64 x) = cellsOf (es.set i (x, (es.getD i (0, 0)).2))
  | q :: r, 0, x, _ => rfl
  | q :: r, i + 1, x, h => by
    rw [show (i + 1) * 2 = i * 2 + 2 by omega]
    simpa [cellsOf] using cellsOf_set0 r i x (by simpa using h)
theorem cellsOf_set1 : ∀ (es : List (Int × Int)) (i : Nat) (x : Int), i < es.length → (cellsOf es).set (i * 2 + 1) (.int .i64 x) = cellsOf (es.set i ((es.getD i (0, 0)).1, x))
  | q :: r, 0, x, _ => rfl
  | q :: r, i + 1, x, h => by
    rw [show (i + 1) * 2 + 1 = i * 2 + 1 + 2 by omega]
    simpa [cellsOf] using cellsOf_set1 r i x (by simpa using h)
theorem own_partsN {w : World} {base n sz : Nat} {el : TypeId} {v : Value} {cs : List Value} (hO : w.ownsRow base el sz v n cs) (hn : 0 < cs.length) : ∃ g cap cur, v = .slice (some ⟨g, 0, none⟩) n cap ∧ base ≤ g ∧ Blk w g cur el ∧ n ≤ cap ∧ cap ≤ maxLen ∧ cur.length = cap * sz ∧ cur.take (n * sz) = cs := by
  rcases hO.2 with ⟨_, h0⟩ | ⟨g, cap, cur, rfl, hb, hg, hnc, hcm, hsz, htk⟩
  · have h1 := hO.1; rw [h0, Nat.zero_mul] at h1; omega
  · exact ⟨g, cap, cur.toList, rfl, hb, by unfold Blk; simpa using hg, hnc, hcm, by simpa using hsz, by simpa using htk⟩
theorem sl_setN {lo n sz cap g i : Nat} {w : World} {cur cs : List Value} {el : TypeId} {u : Value} (hB : Blk w g (cur.set i u) el) (hn : n ≤ cap) (hc : cap ≤ maxLen) (hl : cur.length = cap * sz) (ht : cur.take (n * sz) = cs) (hlo : lo ≤ g) : Sl lo w (.slice (some ⟨g, 0, none⟩) n cap) n sz (cs.set i u) := by
  have e : cs.set i u = (cur.set i u).take (n * sz) := by rw [← ht, List.take_set]
  refine ⟨by rw [← ht, List.length_set, List.length_take, hl]; exact Nat.min_eq_left (Nat.mul_le_mul_right _ hn), _, cap, rfl, hn, hc, .inr ⟨_, rfl, hlo, ?_⟩⟩
  rw [e]; exact (Row.of_blk hB).take _
theorem cellsOf_one : ∀ (es : List (Int × Int)), ∀ c ∈ cellsOf es, c.oneCell' = true
  | [], c, h => by cases h
  | q :: r, c, h => by
    simp only [cellsOf, List.mem_cons] at h
    rcases h with rfl | rfl | h
    · rfl
    · rfl
    · exact cellsOf_one r c h
def breakAt (A n : Int) (es : List (Int × Int)) : List (Int × Int) :=
  es.set (A % es.length).toNat (if A % 2 = 0 then (n, (es.getD (A % es.length).toNat (0, 0)).2) else ((es.getD (A % es.length).toNat (0, 0)).1, n))
def brokenOf (B A n N : Int) (es : List (Int × Int)) : Int × List (Int × Int) :=
  if B % 4 = 0 then (n, es) else if B % 4 = 1 then (N, es ++ [(A % 9, n)]) else if B % 4 = 2 ∧ 0 < es.length then (N, breakAt A n es) else (N, es)
theorem Broken_calls (lo : Nat) (B A n N : Int) (p : Value) (es : List (Int × Int)) (w : World) (hB0 : 0 ≤ B) (hB1 : B ≤ 255) (hA0 : 0 ≤ A) (hA1 : A ≤ 255) (hx : Pairs lo w p es) (hxl : es.length ≤ 100) :
    Calls Tryd.prog 43 #[beV B A n, gV N p] w (Ret fun v w' => Ext w w' ∧ ∃ l, v = gV (brokenOf B A n N es).1 l ∧ Pairs w.heap.size w' l (brokenOf B A n N es).2) := by
  refine T.enter (vs := [beV B A n, gV N p]) Tryd.func43 rfl Tryd.ntmps43 rfl ?_
  refine T.seq (T.region (L.op rfl rfl (O.box rfl (fun b2 w2 hb2 hz2 he2 hB2 => ?_))))
  refine L.op rfl rfl (O.box rfl (fun b3 w3 hb3 hz3 he3 hB3 => ?_))
  refine L.op rfl rfl (O.alloc Tryd.zeroValue33 (fun b4 w4 hb4 hz4 he4 hB4 => ?_))
  refine L.nil (T.seq (T.region (L.op rfl rfl (O.fieldAddr Tryd.runUnderlying33 rfl Tryd.sizeOf3 rfl (L.op rfl rfl (O.load Tryd.isAgg3 rfl (Blk.at (hB3.keep he4 (Nat.zero_le _)) rfl) (L.op rfl rfl (O.build (v := .agg #[.int .i64 N, .slice none 0 0]) (parts := [(0, .tmp 7)]) (vs := [(0, _)]) rfl (fun w => by kernel_rfl) (L.op rfl rfl (O.alloc Tryd.zeroValue33 (fun b5 w5 hb5 hz5 he5 hB5 => ?_)))))))))))
  refine L.op rfl rfl (O.storeAgg Tryd.sizeOf33 rfl rfl rfl hB5 (Nat.le_refl _) (by simp [Value.oneCell']) (fun w6 hu6 hB6 => ?_))
  have hB6 : Blk w6 b5 [.int .i64 N, .slice none 0 0] 33 := hB6
  have hz2 := he2.size
  have hz6 := hu6.size
  have he06 := (((he2.trans he3).trans he4).trans he5).upd hu6 (.inr (by omega))
  have hB36 := ((hB3.keep he4 (Nat.zero_le _)).keep he5 (Nat.zero_le _)).upd hu6 (by omega)
  have hx6 := hx.keep (he06.mono (Nat.zero_le lo))
  refine L.nil (T.seq (T.region (L.op rfl rfl (O.fieldAddr Tryd.runUnderlying33 rfl Tryd.sizeOf31 rfl (L.op rfl rfl (O.load Tryd.isAgg31 rfl (Blk.at hB6 rfl) (L.op rfl rfl (O.fieldAddr Tryd.runUnderlying33 rfl Tryd.sizeOf31 rfl (L.op rfl rfl (O.load Tryd.isAgg31 rfl (Blk.at hB36 rfl) (L.op rfl rfl (O.append (size := 2) (bytes := 16) Tryd.runUnderlying31 Tryd.infoOf80 rfl rfl rfl rfl (by decide) rfl rfl (owns_nil w6 w6.heap.size 80 2) hx6 (cellsOf_one es) (by omega) (by simp only [maxLen]; omega) (Nat.le_refl _) (fun v7 w7 hO7 hG7 => ?_)))))))))))))
  have he7 : Ext w6 w7 := (Keep.refl 0 w6).grown0 (owns_nil w6 w6.heap.size 80 2) hG7 (Nat.le_refl _)
  refine L.op rfl rfl (O.fieldAddr Tryd.runUnderlying33 rfl Tryd.sizeOf31 rfl (L.op rfl rfl (O.store1_at Tryd.sizeOf31 (Sl.one (Sl.of_owns hO7)) rfl rfl (hB6.keep he7 (Nat.zero_le _)) (by simp) (fun w8 hu8 hB8 => ?_))))
  have hB8 : Blk w8 b5 [.int .i64 N, v7] 33 := hB8
  have hz7 := he7.size
  have hz8 := hu8.size
  have he08 := (he06.trans he7).upd hu8 (.inr (by omega))
  have hB28 := ((((hB2.keep he3 (Nat.zero_le _)).keep he4 (Nat.zero_le _)).keep he5 (Nat.zero_le _)).upd hu6 (by omega)).keep he7 (Nat.zero_le _) |>.upd hu8 (by omega)
  have hB48 := (((hB4.keep he5 (Nat.zero_le _)).upd hu6 (by omega)).keep he7 (Nat.zero_le _)).upd hu8 (by omega)
  have hB48 : Blk w8 b4 [.int .i64 0, .slice none 0 0] 33 := hB48
  have hO8 := owns_upd hO7 hu8 (by omega)
  have hone := Sl.one (Sl.of_owns hO7)
  simp only [Nat.zero_add, List.nil_append] at hO8
  refine L.nil (T.seq (T.seq (T.region (L.op rfl rfl (O.fieldAddr Tryd.runUnderlying27 rfl Tryd.sizeOf5 rfl (L.op rfl rfl (O.load Tryd.isAgg5 rfl (Blk.at hB28 rfl) (L.op rfl rfl (O.rem rfl rfl (by omega) (by omega) (L.nil (T.block (T.seq (T.region (L.op rfl rfl (O.eql_s rfl rfl (fun h0 => ?_) (fun h0 => ?_))))))))))))))))
  · refine L.op rfl rfl (O.assign rfl (L.nil (T.cond_true rfl (T.region (L.op rfl rfl (O.fieldAddr Tryd.runUnderlying27 rfl Tryd.sizeOf3 rfl (L.op rfl rfl (O.load Tryd.isAgg3 rfl (Blk.at hB28 rfl) (L.op rfl rfl (O.fieldAddr Tryd.runUnderlying33 rfl Tryd.sizeOf3 rfl (L.op rfl rfl (O.store1_at Tryd.sizeOf3 rfl rfl rfl hB8 (by simp) (fun w9 hu9 hB9 => ?_)))))))))))))
    refine L.nil (T.blk (T.seq (T.region (L.op rfl rfl (O.loadAgg Tryd.isAgg33 Tryd.sizeOf33 rfl rfl hB9.row (L.op rfl rfl (O.storeAgg Tryd.sizeOf33 rfl rfl rfl (hB48.upd hu9 (by omega)) (Nat.le_refl _) (by intro u hu; simp at hu; rcases hu with (rfl|rfl); rfl; exact hone) (fun w10 hu10 hB10 => ?_))))))))
    refine L.nil (T.retA Tryd.results43 Tryd.isAgg33 Tryd.sizeOf33 rfl rfl hB10.row ⟨(he08.upd hu9 (.inr (by omega))).upd hu10 (.inr (by omega)), v7, by rw [brokenOf, if_pos h0]; rfl, ?_⟩)
    rw [brokenOf, if_pos h0]
    exact (Sl.of_owns (owns_upd (owns_upd hO8 hu9 (by omega)) hu10 (by omega))).mono (by omega)
  · refine L.op rfl rfl (O.assign rfl (L.nil (T.cond_false rfl (T.seq (T.region (L.op rfl rfl (O.eql_s rfl rfl (fun h1 => ?_) (fun h1 => ?_))))))))
    · refine L.op rfl rfl (O.assign rfl (L.nil (T.cond_true rfl (T.region (L.op rfl rfl (O.fieldAddr Tryd.runUnderlying33 rfl Tryd.sizeOf31 rfl (L.op rfl rfl (O.load Tryd.isAgg31 rfl (Blk.at hB8 rfl) (L.op rfl rfl (O.fieldAddr Tryd.runUnderlying27 rfl Tryd.sizeOf5 rfl (L.op rfl rfl (O.load Tryd.isAgg5 rfl (Blk.at hB28 rfl) (L.op rfl rfl (O.conv_to rfl (fun w => ⟨_, Tryd.runUnderlying5 w⟩) Tryd.runUnderlying3 (IntWalk.i64_in _ ⟨by omega, by omega⟩) (L.op rfl rfl (O.rem rfl rfl (by omega) (by omega) (L.op rfl rfl (O.fieldAddr Tryd.runUnderlying27 rfl Tryd.sizeOf3 rfl (L.op rfl rfl (O.load Tryd.isAgg3 rfl (Blk.at hB28 rfl) (L.op rfl rfl (O.build (v := .agg #[.int .i64 (A % 9), .int .i64 n]) (parts := [(0, .tmp 30), (1, .tmp 32)]) (vs := [(0, _), (1, _)]) rfl (fun w => by kernel_rfl) (L.op rfl rfl (O.buildSlice (el := 80) (parts := [(0, .tmp 33)]) (vs := [(0, _)]) (cs := [.int .i64 (A % 9), .int .i64 n]) rfl (fun w => by kernel_rfl) (fun b9 w9 hb9 hz9 he9 hB9 => ?_)))))))))))))))))))))))))
      refine L.op rfl rfl (O.append (size := 2) (bytes := 16) Tryd.runUnderlying31 Tryd.infoOf80 rfl rfl rfl rfl (by decide) rfl rfl (owns_keep hO8 he9 (Nat.zero_le _)) (Sl.of_blk (lo := 0) (n := 1) hB9 rfl (Nat.le_refl _) (by decide) (Nat.zero_le _)) (by intro c hc; simp at hc; rcases hc with (rfl|rfl) <;> rfl) (by omega) (by simp only [maxLen]; omega) (by have := he9.size; omega) (fun v10 w10 hO10 hG10 => ?_))
      have hown := fun q hq => (own_at hO8 (j := q) hq).1
      have hz10 := hG10.size
      have hz9' := he9.size
      refine L.op rfl rfl (O.fieldAddr Tryd.runUnderlying33 rfl Tryd.sizeOf31 rfl (L.op rfl rfl (O.store1_at Tryd.sizeOf31 (Sl.one (Sl.of_owns hO10)) rfl rfl ((hB8.keep he9 (Nat.zero_le _)).grown hG10 (fun q hq => by have := hown q hq; omega)) (by simp) (fun w11 hu11 hB11 => ?_))))
      refine L.nil (T.blk (T.seq (T.region (L.op rfl rfl (O.loadAgg Tryd.isAgg33 Tryd.sizeOf33 rfl rfl hB11.row (L.op rfl rfl (O.storeAgg Tryd.sizeOf33 rfl rfl rfl (((hB48.keep he9 (Nat.zero_le _)).grown hG10 (fun q hq => by have := hown q hq; omega)).upd hu11 (by omega)) (Nat.le_refl _) (by intro u hu; simp at hu; rcases hu with (rfl|rfl); rfl; exact Sl.one (Sl.of_owns hO10)) (fun w12 hu12 hB12 => ?_))))))))
      refine L.nil (T.retA Tryd.results43 Tryd.isAgg33 Tryd.sizeOf33 rfl rfl hB12.row ⟨(((he08.trans he9).grown0 hO8 hG10 (by omega)).upd hu11 (.inr (by omega))).upd hu12 (.inr (by omega)), v10, by rw [brokenOf, if_neg h0, if_pos h1]; rfl, ?_⟩)
      rw [brokenOf, if_neg h0, if_pos h1]
      have h9 := (Sl.of_owns (owns_upd (owns_upd hO10 hu11 (by omega)) hu12 (by omega))).mono (show w.heap.size ≤ w6.heap.size by omega)
      unfold Pairs
      rw [cellsOf_app, List.length_append]; exact h9
    · refine L.op rfl rfl (O.assign rfl (L.nil (T.cond_false rfl (T.seq (T.region (L.op rfl rfl (O.eql_s rfl rfl (fun h2 => ?_) (fun h2 => ?_))))))))
      · refine L.op rfl rfl (O.assign rfl (L.nil (T.cond_true rfl (T.seq (T.region (L.op rfl rfl (O.fieldAddr Tryd.runUnderlying33 rfl Tryd.sizeOf31 rfl (L.op rfl rfl (O.load Tryd.isAgg31 rfl (Blk.at hB8 rfl) (L.op rfl rfl (O.len Tryd.runUnderlying31 rfl (Sl.val (Sl.of_owns hO8)) (L.op rfl rfl (O.gtr_s rfl rfl (fun h3 => ?_) (fun h3 => ?_))))))))))))))
        · refine L.nil (?_)
          have hlen : 0 < es.length := by omega
          obtain ⟨g, cap, cur, rfl, hg, hBg, hnc, hcm, hlc, htk⟩ := own_partsN hO8 (by rw [cellsOf_len]; omega)
          have hml := Int.emod_lt_of_pos A (show (0 : Int) < (es.length : Int) by omega)
          have hmn := Int.emod_nonneg A (show (es.length : Int) ≠ 0 by omega)
          refine T.cond_true rfl (?_)
          refine T.anyE mixed 15 [5, 2] rfl [.is _, .is _, .is _, .is _, .is _, .is _, .is _, .is _, .is _, .is _, .is _, .is _, .is _, .is _, .is _] [[], [0], [], [2], [3], [], [5], [6], [4, 7], [], [9], [10], [], [12], [1, 8]] [[], [0], [], [2], [2, 3], [], [5], [5, 6], [2, 3, 4, 5, 6, 7], [], [9], [9, 10], [], [12], [0, 1, 2, 3, 4, 5, 6, 7, 8], [0, 1, 2, 3, 4, 5, 6, 7, 8, 9, 10, 11, 12, 13, 14], [0, 1, 2, 3, 4, 5, 6, 7, 8, 9, 10, 11, 12, 13, 14, 15]] (by kernel_rfl) (by kernel_rfl) rfl (by kernel_rfl) trivial ⟨fun wx hx => Ob.op rfl (O.fieldAddr Tryd.runUnderlying33 rfl Tryd.sizeOf31 rfl ⟨Keep.refl _ _, rfl⟩),
              fun wx hx => Ob.op rfl (O.load Tryd.isAgg31 rfl (Blk.at (hB8.keep hx (Nat.zero_le _)) rfl) ⟨Keep.refl _ _, rfl⟩),
              fun wx hx => Ob.op rfl (O.fieldAddr Tryd.runUnderlying27 rfl Tryd.sizeOf5 rfl ⟨Keep.refl _ _, rfl⟩),
              fun wx hx => Ob.op rfl (O.load Tryd.isAgg5 rfl (Blk.at (hB28.keep hx (Nat.zero_le _)) rfl) ⟨Keep.refl _ _, rfl⟩),
              fun wx hx => Ob.op rfl (O.conv_to rfl (fun w => ⟨_, Tryd.runUnderlying5 w⟩) Tryd.runUnderlying3 (IntWalk.i64_in _ ⟨by omega, by omega⟩) ⟨Keep.refl _ _, rfl⟩),
              fun wx hx => Ob.op rfl (O.fieldAddr Tryd.runUnderlying33 rfl Tryd.sizeOf31 rfl ⟨Keep.refl _ _, rfl⟩),
              fun wx hx => Ob.op rfl (O.load Tryd.isAgg31 rfl (Blk.at (hB8.keep hx (Nat.zero_le _)) rfl) ⟨Keep.refl _ _, rfl⟩),
              fun wx hx => Ob.op rfl (O.len Tryd.runUnderlying31 rfl (Sl.val (Sl.of_owns hO8)) ⟨Keep.refl _ _, rfl⟩),
              fun wx hx => Ob.op rfl (O.rem rfl rfl (by omega) (by omega) ⟨Keep.refl _ _, rfl⟩),
              fun wx hx => Ob.op rfl (O.fieldAddr Tryd.runUnderlying27 rfl Tryd.sizeOf5 rfl ⟨Keep.refl _ _, rfl⟩),
              fun wx hx => Ob.op rfl (O.load Tryd.isAgg5 rfl (Blk.at (hB28.keep hx (Nat.zero_le _)) rfl) ⟨Keep.refl _ _, rfl⟩),
              fun wx hx => Ob.op rfl (O.rem rfl rfl (by omega) (by omega) ⟨Keep.refl _ _, rfl⟩),
              fun wx hx => Ob.op rfl (O.fieldAddr Tryd.runUnderlying27 rfl Tryd.sizeOf3 rfl ⟨Keep.refl _ _, rfl⟩),
              fun wx hx => Ob.op rfl (O.load Tryd.isAgg3 rfl (Blk.at (hB28.keep hx (Nat.zero_le _)) rfl) ⟨Keep.refl _ _, rfl⟩),
              fun wx hx => Ob.op rfl (O.indexAddr Tryd.runUnderlying31 Tryd.sizeOf80 rfl rfl (Sl.of_owns hO8) (by omega) (by omega) ⟨Keep.refl _ _, rfl⟩),
              trivial⟩ (fun w9 he9 => ?_)
          refine L.op rfl rfl (O.indexAddr_arr Tryd.runUnderlying80 Tryd.sizeOf3 rfl rfl (by omega) (by omega) (L.op rfl rfl (O.store1_at2 Tryd.sizeOf3 rfl rfl rfl (hBg.keep he9 (Nat.zero_le _)) (by rw [hlc]; omega) (fun w10 hu10 hB10 => ?_))))
          have hB8' := (hB8.keep he9 (Nat.zero_le _)).upd hu10 (by omega)
          refine L.nil (T.blk (T.seq (T.region (L.op rfl rfl (O.loadAgg Tryd.isAgg33 Tryd.sizeOf33 rfl rfl hB8'.row (L.op rfl rfl (O.storeAgg Tryd.sizeOf33 rfl rfl rfl ((hB48.keep he9 (Nat.zero_le _)).upd hu10 (by omega)) (Nat.le_refl _) (by intro u hu; simp at hu; rcases hu with (rfl|rfl) <;> rfl) (fun w11 hu11 hB11 => ?_))))))))
          refine L.nil (T.retA Tryd.results43 Tryd.isAgg33 Tryd.sizeOf33 rfl rfl hB11.row ⟨((he08.trans he9).upd hu10 (.inr (by omega))).upd hu11 (.inr (by omega)), _, by rw [brokenOf, if_neg h0, if_neg h1, if_pos ⟨h2, hlen⟩]; rfl, ?_⟩)
          rw [brokenOf, if_neg h0, if_neg h1, if_pos ⟨h2, hlen⟩]
          have hs := sl_setN (lo := w.heap.size) (hB10.upd hu11 (by omega)) hnc hcm hlc htk (by omega)
          unfold Pairs breakAt
          rw [List.length_set]
          by_cases hA : A % 2 = 0
          · rw [if_pos hA, ← cellsOf_set0 _ _ _ (by omega)]
            rw [hA] at hs
            simpa using hs
          · rw [if_neg hA, ← cellsOf_set1 _ _ _ (by omega)]
            rw [show A % 2 = 1 by omega] at hs
            simpa using hs
        · refine L.nil (?_)
          have hlen : ¬ 0 < es.length := by omega
          refine T.cond_false rfl (T.skip (T.blk (T.seq (T.region (L.op rfl rfl (O.loadAgg Tryd.isAgg33 Tryd.sizeOf33 rfl rfl hB8.row (L.op rfl rfl (O.storeAgg Tryd.sizeOf33 rfl rfl rfl hB48 (Nat.le_refl _) (by intro u hu; simp at hu; rcases hu with (rfl|rfl); rfl; exact hone) (fun w9 hu9 hB9 => ?_)))))))))
          refine L.nil (T.retA Tryd.results43 Tryd.isAgg33 Tryd.sizeOf33 rfl rfl hB9.row ⟨he08.upd hu9 (.inr (by omega)), v7, by rw [brokenOf, if_neg h0, if_neg h1, if_neg (fun h => hlen h.2)]; rfl, ?_⟩)
          rw [brokenOf, if_neg h0, if_neg h1, if_neg (fun h => hlen h.2)]
          exact (Sl.of_owns (owns_upd hO8 hu9 (by omega))).mono (by omega)
      · refine L.op rfl rfl (O.assign rfl (L.nil (T.cond_false rfl (T.skip (T.blk (T.seq (T.region (L.op rfl rfl (O.loadAgg Tryd.isAgg33 Tryd.sizeOf33 rfl rfl hB8.row (L.op rfl rfl (O.storeAgg Tryd.sizeOf33 rfl rfl rfl hB48 (Nat.le_refl _) (by intro u hu; simp at hu; rcases hu with (rfl|rfl); rfl; exact hone) (fun w9 hu9 hB9 => ?_))))))))))))
        refine L.nil (T.retA Tryd.results43 Tryd.isAgg33 Tryd.sizeOf33 rfl rfl hB9.row ⟨he08.upd hu9 (.inr (by omega)), v7, by rw [brokenOf, if_neg h0, if_neg h1, if_neg (fun h => h2 h.1)]; rfl, ?_⟩)
        rw [brokenOf, if_neg h0, if_neg h1, if_neg (fun h => h2 h.1)]
        exact (Sl.of_owns (owns_upd hO8 hu9 (by omega))).mono (by omega)

end Go.Proofs.YthjdljbghjelfaaDoor
set_option linter.unusedVariables false
set_option linter.unusedSimpArgs false
set_option maxRecDepth 20000
namespace Go.Proofs.YthjdljbghjelfaaDoor
open Go Go.E
attribute [local irreducible] Go.E.T Go.E.L Go.E.O Go.E.Ob

def bits : List Nat → Nat
  | [] => 0
  | x :: r => 2 ^ x + bits r
def scoreF (mat : List Int) : Nat → List Nat → Int
  | _, [] => 0
  | d, x :: r => mat.getD (x * 8 + d) 0 + scoreF mat (d + 1) r
/-- Different labels below 8. -/
def Inj (s : List Nat) : Prop := s.Nodup ∧ ∀ x ∈ s, x < 8
theorem bit_add : ∀ t, t < 256 → ∀ x, x < 8 → t / 2 ^ x % 2 = 0 → t + 2 ^ x < 256 ∧ t ||| 2 ^ x = t + 2 ^ x ∧ ∀ y, y < 8 → (t + 2 ^ x) / 2 ^ y % 2 = if y = x then 1 else t / 2 ^ y % 2 := by decide +kernel
def pop (t : Nat) : Nat := t % 2 + t / 2 % 2 + t / 4 % 2 + t / 8 % 2 + t / 16 % 2 + t / 32 % 2 + t / 64 % 2 + t / 128 % 2
theorem pop_add : ∀ t, t < 256 → ∀ x, x < 8 → t / 2 ^ x % 2 = 0 → pop (t + 2 ^ x) = pop t + 1 := by decide +kernel
theorem pop_full : ∀ t, t < 256 → pop t = 8 → t = 255 := by decide +kernel
theorem pop_free : ∀ t, t < 256 → pop t < 8 → ∃ x, x < 8 ∧ t / 2 ^ x % 2 = 0 := by decide +kernel
theorem bits_spec : ∀ (s : List Nat), Inj s → bits s < 256 ∧ pop (bits s) = s.length ∧ ∀ y, y < 8 → bits s / 2 ^ y % 2 = if y ∈ s then 1 else 0
  | [], _ => ⟨by decide, by decide, fun y _ => by simp [bits]⟩
  | x :: r, h => by
    have hn := List.nodup_cons.1 h.1
    have hr : Inj r := ⟨hn.2, fun y hy => h.2 y (List.mem_cons_of_mem _ hy)⟩
    obtain ⟨h1, h2, h3⟩ := bits_spec r hr
    have hx := h.2 x (List.mem_cons_self ..)
    have h0 : bits r / 2 ^ x % 2 = 0 := by rw [h3 x hx, if_neg hn.1]
    obtain ⟨h4, _, h5⟩ := bit_add _ h1 x hx h0
    have e : bits (x :: r) = bits r + 2 ^ x := by simp only [bits]; omega
    rw [e]
    refine ⟨h4, by rw [pop_add _ h1 x hx h0, h2, List.length_cons], fun y hy => ?_⟩
    rw [h5 y hy, h3 y hy]
    by_cases hyx : y = x
    · subst hyx; simp
    · simp [hyx]
theorem bits_free {s : List Nat} (h : Inj s) {x : Nat} (hx : x < 8) : bits s / 2 ^ x % 2 = 0 ↔ x ∉ s := by
  rw [(bits_spec s h).2.2 x hx]; split <;> simp_all
theorem bits_app : ∀ (s r : List Nat), bits (s ++ r) = bits s + bits r
  | [], r => by simp [bits]
  | x :: s, r => by simp only [List.cons_append, bits, bits_app s r]; omega
theorem bits_snoc (s : List Nat) (x : Nat) : bits (s ++ [x]) = bits s + 2 ^ x := by rw [bits_app]; simp [bits]
theorem scoreF_app (mat : List Int) : ∀ (d : Nat) (s r : List Nat), scoreF mat d (s ++ r) = scoreF mat d s + scoreF mat (d + s.length) r
  | d, [], r => by simp [scoreF]
  | d, x :: s, r => by
    simp only [List.cons_append, scoreF, scoreF_app mat (d + 1) s r, List.length_cons]
    rw [show d + 1 + s.length = d + (s.length + 1) by omega]; omega
theorem scoreF_le {mat : List Int} (hm : Small mat) : ∀ (d : Nat) (s : List Nat), 0 ≤ scoreF mat d s ∧ scoreF mat d s ≤ 64 * s.length
  | d, [] => by simp [scoreF]
  | d, x :: s => by
    have := scoreF_le hm (d + 1) s
    have := hm (x * 8 + d)
    simp only [scoreF, List.length_cons]; omega
theorem inj_app {s r : List Nat} (h : Inj (s ++ r)) : Inj s ∧ Inj r := ⟨⟨(List.nodup_append.1 h.1).1, fun x hx => h.2 x (List.mem_append_left _ hx)⟩, ⟨(List.nodup_append.1 h.1).2.1, fun x hx => h.2 x (List.mem_append_right _ hx)⟩⟩
theorem inj_snoc {s : List Nat} {x : Nat} : Inj (s ++ [x]) ↔ Inj s ∧ x < 8 ∧ x ∉ s := by
  constructor
  · intro h
    refine ⟨(inj_app h).1, h.2 x (by simp), fun hx => ?_⟩
    have := (List.nodup_append.1 h.1).2.2 x hx x (by simp)
    exact this rfl
  · rintro ⟨h1, h2, h3⟩
    refine ⟨List.nodup_append.2 ⟨h1.1, by simp, fun a ha b hb e => ?_⟩, fun y hy => ?_⟩
    · simp at hb; subst hb; subst e; exact h3 ha
    · rcases List.mem_append.1 hy with h | h
      · exact h1.2 y h
      · simp at h; subst h; exact h2
/-! ### The reference's recursion -/
theorem mostTo_ge {mat : List Int} {f : Nat → Int} {d t : Nat} : ∀ (n x : Nat), x < n → t / 2 ^ x % 2 = 0 → mat.getD (x * 8 + d) 0 + f (t + 2 ^ x) ≤ mostTo mat f d t n
  | n + 1, x, hx, h0 => by
    simp only [mostTo]
    by_cases hxn : x = n
    · subst hxn; rw [if_pos h0]; split <;> omega
    · have := mostTo_ge (mat := mat) (f := f) (d := d) n x (by omega) h0
      split
      · split <;> omega
      · exact this
theorem mostTo_is {mat : List Int} {f : Nat → Int} {d t : Nat} : ∀ (n : Nat), mostTo mat f d t n = 0 ∨ ∃ x, x < n ∧ t / 2 ^ x % 2 = 0 ∧ mostTo mat f d t n = mat.getD (x * 8 + d) 0 + f (t + 2 ^ x)
  | 0 => .inl rfl
  | n + 1 => by
    have ih := mostTo_is (mat := mat) (f := f) (d := d) (t := t) n
    have up : mostTo mat f d t n = 0 ∨ ∃ x, x < n + 1 ∧ t / 2 ^ x % 2 = 0 ∧ mostTo mat f d t n = mat.getD (x * 8 + d) 0 + f (t + 2 ^ x) := ih.imp id fun ⟨x, h1, h2⟩ => ⟨x, by omega, h2⟩
    simp only [mostTo]
    split
    · rename_i h0
      split
      · exact .inr ⟨n, by omega, h0, rfl⟩
      · exact up
    · exact up
theorem alikeF_best {mat : List Int} (hm : Small mat) : ∀ (c : Nat) (s : List Nat), Inj s → s.length + c = 8 →
    (∀ r, Inj (s ++ r) → r.length = c → scoreF mat s.length r ≤ alikeF mat c (bits s)) ∧ ∃ r, Inj (s ++ r) ∧ r.length = c ∧ scoreF mat s.length r = alikeF mat c (bits s)
  | 0, s, hs, hl => ⟨fun r hr h0 => by rw [List.eq_nil_of_length_eq_zero h0]; exact Int.le_refl _, [], by simpa using hs, rfl, rfl⟩
  | c + 1, s, hs, hl => by
    obtain ⟨hb1, hb2, hb3⟩ := bits_spec s hs
    have hd : 8 - (c + 1) = s.length := by omega
    have step : ∀ x, x < 8 → x ∉ s → Inj (s ++ [x]) ∧ alikeF mat c (bits s + 2 ^ x) = alikeF mat c (bits (s ++ [x])) := fun x hx hn => ⟨inj_snoc.2 ⟨hs, hx, hn⟩, by rw [bits_snoc]⟩
    constructor
    · intro r hr hrl
      cases r with
      | nil => simp at hrl
      | cons x r =>
        have h1 : Inj (s ++ [x]) := by have := hr; rw [show s ++ x :: r = (s ++ [x]) ++ r by simp] at this; exact (inj_app this).1
        obtain ⟨_, hx, hn⟩ := inj_snoc.1 h1
        have ih := (alikeF_best hm c (s ++ [x]) h1 (by simp; omega)).1 r (by simpa using hr) (by simpa using hrl)
        have hge := mostTo_ge (mat := mat) (f := alikeF mat c) (d := s.length) 8 x hx ((bits_free hs hx).2 hn)
        rw [(step x hx hn).2] at hge
        simp only [scoreF, alikeF]
        rw [hd]
        rw [List.length_append, List.length_singleton] at ih
        omega
    · have key : ∀ x, x < 8 → x ∉ s → alikeF mat (c + 1) (bits s) = mat.getD (x * 8 + s.length) 0 + alikeF mat c (bits s + 2 ^ x) → ∃ r, Inj (s ++ r) ∧ r.length = c + 1 ∧ scoreF mat s.length r = alikeF mat (c + 1) (bits s) := by
        intro x hx hn he
        obtain ⟨h1, h2⟩ := step x hx hn
        obtain ⟨r, hr1, hr2, hr3⟩ := (alikeF_best hm c (s ++ [x]) h1 (by simp; omega)).2
        refine ⟨x :: r, by simpa using hr1, by simp [hr2], ?_⟩
        simp only [scoreF]
        rw [List.length_append, List.length_singleton] at hr3
        rw [he, hr3, h2]
      rcases mostTo_is (mat := mat) (f := alikeF mat c) (d := s.length) (t := bits s) 8 with h0 | ⟨x, hx, hfree, he⟩
      · obtain ⟨x, hx, hfree⟩ := pop_free _ hb1 (by omega)
        have hn := (bits_free hs hx).1 hfree
        refine key x hx hn ?_
        have hge := mostTo_ge (mat := mat) (f := alikeF mat c) (d := s.length) 8 x hx hfree
        have h1 := hm (x * 8 + s.length)
        have h2 := alikeF_le hm c (bits s + 2 ^ x)
        simp only [alikeF]; rw [hd]; omega
      · exact key x hx ((bits_free hs hx).1 hfree) (by simp only [alikeF]; rw [hd]; exact he)
def IsMost (mat : List Int) (v : Int) : Prop := (∃ s, Inj s ∧ s.length = 8 ∧ scoreF mat 0 s = v) ∧ ∀ s, Inj s → s.length = 8 → scoreF mat 0 s ≤ v
theorem alike_most {mat : List Int} (hm : Small mat) : IsMost mat (alikeF mat 8 0) := by
  obtain ⟨h1, s, h2, h3, h4⟩ := alikeF_best hm 8 [] ⟨List.nodup_nil, fun x hx => by cases hx⟩ rfl
  exact ⟨⟨s, h2, h3, h4⟩, fun s hs hl => h1 s hs hl⟩
theorem most_unique {mat : List Int} {v v' : Int} (h : IsMost mat v) (h' : IsMost mat v') : v = v' := by
  obtain ⟨⟨s, a, b, c⟩, d⟩ := h
  obtain ⟨⟨s', a', b', c'⟩, d'⟩ := h'
  have := d s' a' b'
  have := d' s a b
  omega
/-! ### The program's maps -/
def Best (mat : List Int) (d : Nat) (kvs : List KV) : Prop :=
  (∀ t v, getI kvs t = some v → ∃ s, Inj s ∧ s.length = d ∧ (bits s : Int) = t ∧ scoreF mat 0 s = v) ∧ ∀ s, Inj s → s.length = d → ∃ v, getI kvs (bits s : Int) = some v ∧ scoreF mat 0 s ≤ v
def NextOk (mat : List Int) (d : Nat) (done : Int → Nat → Prop) (kvs : List KV) : Prop :=
  (∀ t v, getI kvs t = some v → ∃ s, Inj s ∧ s.length = d + 1 ∧ (bits s : Int) = t ∧ scoreF mat 0 s = v) ∧
  ∀ s x, Inj (s ++ [x]) → s.length = d → done (bits s : Int) x → ∃ v, getI kvs (bits (s ++ [x]) : Int) = some v ∧ scoreF mat 0 (s ++ [x]) ≤ v
theorem best_start (mat : List Int) : Best mat 0 [(0, 0)] := by
  refine ⟨fun t v h => ⟨[], ⟨List.nodup_nil, fun x hx => by cases hx⟩, rfl, ?_⟩, fun s hs hl => ?_⟩
  · simp only [getI, findI] at h
    split at h
    · rename_i ht; simp at h; subst h; exact ⟨by simp [bits, ht], rfl⟩
    · simp at h
  · rw [List.eq_nil_of_length_eq_zero hl]
    exact ⟨0, by simp [getI, findI, bits], Int.le_refl _⟩
theorem next_start (mat : List Int) (d : Nat) (done : Int → Nat → Prop) (h : ∀ t x, ¬ done t x) : NextOk mat d done [] := ⟨fun t v h => by simp [getI, findI] at h, fun s x _ _ hd => absurd hd (h _ _)⟩
theorem next_best {mat : List Int} {d : Nat} {done : Int → Nat → Prop} {kvs : List KV} (h : NextOk mat d done kvs) (hall : ∀ s x, Inj (s ++ [x]) → s.length = d → done (bits s : Int) x) : Best mat (d + 1) kvs := by
  refine ⟨h.1, fun s hs hl => ?_⟩
  have hne : s ≠ [] := by intro e; subst e; simp at hl
  have e := List.dropLast_concat_getLast hne
  have hl2 : s.dropLast.length = d := by rw [List.length_dropLast]; omega
  have h2 := h.2 s.dropLast (s.getLast hne) (by rw [e]; exact hs) hl2 (hall _ _ (by rw [e]; exact hs) hl2)
  rwa [e] at h2
theorem next_mono {mat : List Int} {d : Nat} {done done' : Int → Nat → Prop} {kvs : List KV} (h : NextOk mat d done kvs) (hd : ∀ s x, Inj (s ++ [x]) → s.length = d → done' (bits s : Int) x → done (bits s : Int) x) : NextOk mat d done' kvs :=
  ⟨h.1, fun s x hi hl hx => h.2 s x hi hl (hd s x hi hl hx)⟩
/-- One more pair. -/
theorem next_put {mat : List Int} {d : Nat} {done : Int → Nat → Prop} {kvs best : List KV} {s0 : List Nat} {n : Int} {x : Nat} (h : NextOk mat d done kvs) (hb : Best mat d best) (hs : Inj (s0 ++ [x])) (hl : s0.length = d) (hn : getI best (bits s0 : Int) = some n) (hm : Small mat) :
    NextOk mat d (fun t y => done t y ∨ t = (bits s0 : Int) ∧ y = x) (putI kvs (bits (s0 ++ [x]) : Int) (if (getI kvs (bits (s0 ++ [x]) : Int)).getD 0 < n + mat.getD (x * 8 + d) 0 then n + mat.getD (x * 8 + d) 0 else (getI kvs (bits (s0 ++ [x]) : Int)).getD 0)) := by
  obtain ⟨si, hsx, hsn⟩ := inj_snoc.1 hs
  obtain ⟨s1, h1, h2, h3, h4⟩ := hb.1 _ _ hn
  have hbe : bits s1 = bits s0 := by omega
  have hx1 : x ∉ s1 := by rw [← bits_free h1 hsx, hbe, bits_free si hsx]; exact hsn
  have hs1 : Inj (s1 ++ [x]) := inj_snoc.2 ⟨h1, hsx, hx1⟩
  have hsc : scoreF mat 0 (s1 ++ [x]) = n + mat.getD (x * 8 + d) 0 := by rw [scoreF_app, h4, h2]; simp [scoreF]
  have hbs : bits (s1 ++ [x]) = bits (s0 ++ [x]) := by rw [bits_snoc, bits_snoc, hbe]
  refine ⟨fun t v hv => ?_, fun s y hi hl' hd => ?_⟩
  · rw [getI_put] at hv
    split at hv
    · rename_i ht
      subst ht
      cases hv
      cases hg : getI kvs (bits (s0 ++ [x]) : Int) with
      | none =>
        simp only [Option.getD_none]
        have hp := (scoreF_le hm 0 (s1 ++ [x])).1
        refine ⟨s1 ++ [x], hs1, by simp [h2], by rw [hbs], ?_⟩
        split <;> omega
      | some u =>
        simp only [Option.getD_some]
        split
        · exact ⟨s1 ++ [x], hs1, by simp [h2], by rw [hbs], hsc⟩
        · exact h.1 _ _ hg
    · exact h.1 _ _ hv
  · rw [getI_put]
    by_cases ht : ((bits (s ++ [y]) : Nat) : Int) = (bits (s0 ++ [x]) : Int)
    · rw [if_pos ht]
      refine ⟨_, rfl, ?_⟩
      rcases hd with hd | ⟨hd1, hd2⟩
      · obtain ⟨u, hu1, hu2⟩ := h.2 s y hi hl' hd
        rw [ht] at hu1
        rw [hu1, Option.getD_some]
        split <;> omega
      · subst hd2
        have hle : scoreF mat 0 s ≤ n := by
          obtain ⟨u, hu1, hu2⟩ := hb.2 s (inj_snoc.1 hi).1 hl'
          rw [hd1, hn] at hu1; cases hu1; exact hu2
        have : scoreF mat 0 (s ++ [y]) = scoreF mat 0 s + mat.getD (y * 8 + d) 0 := by rw [scoreF_app, hl']; simp [scoreF]
        split <;> omega
    · rw [if_neg ht]
      rcases hd with hd | ⟨hd1, hd2⟩
      · exact h.2 s y hi hl' hd
      · subst hd2
        exact absurd (by rw [bits_snoc, bits_snoc]; omega) ht
theorem best_full {mat : List Int} {kvs : List KV} (h : Best mat 8 kvs) : ∃ v, getI kvs 255 = some v ∧ IsMost mat v := by
  have full : ∀ s, Inj s → s.length = 8 → bits s = 255 := fun s hs hl => by obtain ⟨h1, h2, _⟩ := bits_spec s hs; exact pop_full _ h1 (by omega)
  have h0 : Inj [0, 1, 2, 3, 4, 5, 6, 7] := ⟨by decide, by decide⟩
  obtain ⟨v, hv, _⟩ := h.2 _ h0 rfl
  refine ⟨v, hv, ?_, fun s hs hl => ?_⟩
  · obtain ⟨s, h1, h2, h3, h4⟩ := h.1 _ _ hv
    exact ⟨s, h1, h2, h4⟩
  · obtain ⟨u, hu1, hu2⟩ := h.2 s hs hl
    rw [full s hs hl] at hu1
    have : getI kvs 255 = some v := hv
    rw [show ((255 : Nat) : Int) = 255 from rfl, this] at hu1
    cases hu1; exact hu2
/-- No key stands twice. -/
def KeysNd (kvs : List KV) : Prop := (kvs.map (·.1)).Nodup
theorem find_nd : ∀ (kvs : List KV) (n i : Nat) (k v : Int), KeysNd kvs → kvs[i]? = some (k, v) → findI kvs k n = some (n + i, v)
  | p :: r, n, 0, k, v, _, h => by simp at h; subst h; simp [findI]
  | p :: r, n, i + 1, k, v, hn, h => by
    have hn' := List.nodup_cons.1 hn
    have hne : ¬ k = p.1 := fun e => hn'.1 (by show p.1 ∈ _; rw [← e]; exact List.mem_map.2 ⟨(k, v), List.mem_of_getElem? (i := i) (by simpa using h), rfl⟩)
    simp only [findI]
    rw [if_neg hne, find_nd r (n + 1) i k v hn'.2 (by simpa using h), show n + 1 + i = n + (i + 1) by omega]
theorem getI_nd {kvs : List KV} {i : Nat} {k v : Int} (h : KeysNd kvs) (hi : kvs[i]? = some (k, v)) : getI kvs k = some v := by rw [getI, find_nd kvs 0 i k v h hi]; rfl
theorem find_none {k : Int} : ∀ {kvs : List KV} {n : Nat}, findI kvs k n = none → k ∉ kvs.map (·.1)
  | [], _, _ => by simp
  | p :: r, n, h => by
    simp only [findI] at h
    split at h
    · cases h
    · rename_i hne
      simp only [List.map_cons, List.mem_cons, not_or]
      exact ⟨hne, find_none h⟩
theorem put_nd {kvs : List KV} (h : KeysNd kvs) (k v : Int) : KeysNd (putI kvs k v) := by
  unfold putI
  cases hf : findI kvs k 0 with
  | none =>
    simp only
    unfold KeysNd
    rw [List.map_append]
    exact List.nodup_append.2 ⟨h, by simp, fun a ha b hb e => find_none hf (by simp at hb; subst hb; exact e ▸ ha)⟩
  | some p =>
    simp only
    obtain ⟨_, hg⟩ := findI_get kvs k 0 (i := p.1) (v := p.2) hf
    rw [Nat.sub_zero] at hg
    unfold KeysNd
    rw [List.map_set]
    have : (kvs.map (·.1)).set p.1 k = kvs.map (·.1) := by
      apply List.ext_getElem?
      intro j
      by_cases hj : p.1 = j
      · subst hj; rw [List.getElem?_set_self', List.getElem?_map, hg]; rfl
      · rw [List.getElem?_set_ne hj]
    show ((kvs.map (·.1)).set p.1 k).Nodup
    rw [this]; exact h
theorem get_at {kvs : List KV} {k v : Int} (h : getI kvs k = some v) : ∃ i, i < kvs.length ∧ kvs[i]? = some (k, v) := by
  unfold getI at h
  cases hf : findI kvs k 0 with
  | none => rw [hf] at h; cases h
  | some p =>
    rw [hf] at h
    obtain ⟨_, hg⟩ := findI_get kvs k 0 (i := p.1) (v := p.2) hf
    rw [Nat.sub_zero] at hg
    simp at h; subst h
    exact ⟨p.1, (List.getElem?_eq_some_iff.1 hg).1, hg⟩
end Go.Proofs.YthjdljbghjelfaaDoor
set_option linter.unusedVariables false
set_option linter.unusedSimpArgs false
set_option maxRecDepth 20000
namespace Go.Proofs.YthjdljbghjelfaaDoor
open Go Go.E
attribute [local irreducible] Go.E.T Go.E.L Go.E.O Go.E.Ob

theorem matTo_swap {xs ys : List Int} (hx : ∀ i, i < xs.length → 0 ≤ xs.getD i 0 ∧ xs.getD i 0 < 8) (hy : ∀ i, i < ys.length → 0 ≤ ys.getD i 0 ∧ ys.getD i 0 < 8) (hl : xs.length = ys.length) {d x : Nat} (hd : d < 8) (hxx : x < 8) :
    ∀ i, i ≤ xs.length → (matTo ys xs i).getD (d * 8 + x) 0 = (matTo xs ys i).getD (x * 8 + d) 0
  | 0, _ => by
    have : ∀ j, (List.replicate 64 (0 : Int)).getD j 0 = 0 := fun j => by rw [List.getD_eq_getElem?_getD, List.getElem?_replicate]; split <;> rfl
    simp only [matTo, this]
  | i + 1, hi => by
    have ih := matTo_swap hx hy hl hd hxx i (by omega)
    have h1 := hx i (by omega)
    have h2 := hy i (by omega)
    have l1 := matTo_len ys xs i
    have l2 := matTo_len xs ys i
    obtain ⟨a, ha⟩ : ∃ a : Nat, xs.getD i 0 = a := ⟨(xs.getD i 0).toNat, by omega⟩
    obtain ⟨b, hb⟩ : ∃ b : Nat, ys.getD i 0 = b := ⟨(ys.getD i 0).toNat, by omega⟩
    rw [ha] at h1
    rw [hb] at h2
    simp only [matTo]
    rw [ha, hb, Int.toNat_natCast, Int.toNat_natCast, getD_set, getD_set]
    by_cases he : b = d ∧ a = x
    · obtain ⟨rfl, rfl⟩ := he
      rw [if_pos (by omega), if_pos (by omega), ih]
    · rw [if_neg (by omega), if_neg (by omega), ih]
/-- A row of the program's table. -/
def rowOf (mat : List Int) (d : Nat) : List Int := (mat.drop (d * 8)).take 8
theorem rowOf_at {mat : List Int} (hl : mat.length = 64) {d x : Nat} (hd : d < 8) (hx : x < 8) : (rowOf mat d)[x]? = some (mat.getD (d * 8 + x) 0) := by
  unfold rowOf
  rw [List.getElem?_take, if_pos hx, List.getElem?_drop, List.getD_eq_getElem?_getD, List.getElem?_eq_getElem (by omega)]; rfl
theorem rowOf_len {mat : List Int} (hl : mat.length = 64) {d : Nat} (hd : d < 8) : (rowOf mat d).length = 8 := by
  unfold rowOf; rw [List.length_take, List.length_drop]; omega
def matS (xs ys : List Int) : List Int := matTo xs ys xs.length
/-- What one more pair may have seen. -/
def Done (kvs : List KV) (seen : List Nat) (t : Int) (_ : Nat) : Prop := ∃ i ∈ seen, ∃ v, kvs[i]? = some (t, v)
theorem Apart_calls (lo lo' : Nat) (p q : Value) (xs ys : List Int) (w : World) (hp : Ints .i64 lo w p xs) (hq : Ints .i64 lo' w q ys) :
    Calls Tryd.prog 34 #[p, q] w (Ret fun v w' => v = .tuple #[.int .i64 (apartOf xs ys), .int .i64 (twoErr xs ys)] ∧ Ext w w') := by
  refine T.enter (vs := [p, q]) Tryd.func34 rfl Tryd.ntmps34 rfl ?_
  refine T.seq (T.region (L.op rfl rfl (O.assign rfl (L.op rfl rfl (O.assign rfl (L.nil (T.seq (T.seq (T.region (L.op rfl rfl (O.move rfl (L.op rfl rfl (O.move rfl (L.op rfl rfl (O.call (xs := [.tmp 18, .tmp 19]) Tryd.call57 rfl rfl (two_calls lo lo' p q xs ys w hp hq) (fun v1 w1 hq => ?_))))))))))))))))
  obtain ⟨rfl, rfl⟩ := hq
  refine L.op rfl rfl (O.assign rfl (L.nil (T.seq (T.region (L.op rfl rfl (O.move rfl (L.op rfl rfl (O.neq_s rfl rfl (fun hE => ?_) (fun hE => ?_)))))))))
  · refine L.nil (T.cond_true rfl (T.seq (T.region (L.op rfl rfl (O.move rfl (L.op rfl rfl (O.assign rfl (L.op rfl rfl (O.assign rfl (L.nil (T.ret2 Tryd.results34 rfl rfl ⟨by rw [apartOf, if_neg hE], Keep.refl _ _⟩)))))))))))
  · refine L.nil (?_)
    obtain ⟨hlx, hly, hlen⟩ := two_len hE
    have hmx := labels_mem hlx
    have hmy := labels_mem hly
    have hml := fun i => matTo_len ys xs i
    have hsm : Small (matS xs ys) := fun j => ⟨(matTo_le xs ys xs.length j).1, by have := (matTo_le xs ys xs.length j).2; unfold matS; omega⟩
    refine T.cond_false rfl (T.skip (T.seq (T.region (L.op rfl rfl (O.alloc Tryd.zeroValue104 (fun b2 w2 hb2 hz2 he2 hB2 => ?_))))))
    have hB2' : Blk w2 b2 ((matTo ys xs 0).map (Value.int .i64)) 104 := hB2
    refine L.nil (T.seq (T.seq (T.region (L.op rfl rfl (O.move rfl (L.op rfl rfl (O.len Tryd.runUnderlying35 rfl (Sl.val (hp.keep (he2.mono (Nat.zero_le lo)))) (L.op rfl rfl (O.move rfl (L.nil (T.block (?_))))))))))))
    refine T.loop (σ := Nat) (fun i => [(0, p), (1, q), (7, .pointer (some ⟨b2, 0, none⟩)), (24, p), (25, .int .i64 (xs.length : Int)), (26, .int .i64 i)]) (fun i w' => i ≤ xs.length ∧ Ext w1 w' ∧ Blk w' b2 ((matTo ys xs i).map (Value.int .i64)) 104) (fun i => xs.length - i) (0) ⟨rfl, rfl, rfl, rfl, rfl, rfl, trivial⟩ ⟨Nat.zero_le _, he2, hB2'⟩ ?_
    rintro i w3 ⟨hi, he3, hB3⟩
    have hp3 := hp.keep (he3.mono (Nat.zero_le lo))
    have hq3 := hq.keep (he3.mono (Nat.zero_le lo'))
    have hmli := hml i
    refine T.seq (T.region (L.op rfl rfl (O.lss_s rfl rfl (fun hlt => ?_) (fun hlt => ?_))))
    · refine L.nil (?_)
      have hlt' : i < xs.length := by omega
      have hxi := hmx.2.2 i hlt'
      have hyi := hmy.2.2 i (by omega)
      have hle := matTo_le ys xs i ((ys.getD i 0).toNat * 8 + (xs.getD i 0).toNat)
      obtain ⟨a, ha⟩ : ∃ a : Nat, xs.getD i 0 = a := ⟨(xs.getD i 0).toNat, by omega⟩
      obtain ⟨c0, hc⟩ : ∃ c0 : Nat, ys.getD i 0 = c0 := ⟨(ys.getD i 0).toNat, by omega⟩
      rw [ha, hc, Int.toNat_natCast, Int.toNat_natCast] at hle
      refine T.seq (T.cond_true rfl (T.skip (T.seq (T.block (T.seq (T.region (L.op rfl rfl (O.move rfl (L.op rfl rfl (O.indexAddr Tryd.runUnderlying35 Tryd.sizeOf3 rfl rfl hp3 (by omega) (by omega) (L.op rfl rfl (O.load Tryd.isAgg3 rfl (int_at hp3 hlt' ha) (L.op rfl rfl (O.assign rfl (L.op rfl rfl (O.assign rfl (L.nil (?_))))))))))))))))))
      refine T.anyE mixed 10 [1, 8, 9, 7] rfl [.is _, .is _, .is _, .is _, .is _, .is _, .is _, .is _, .is _, .is _] [[], [], [0, 1], [2], [], [3], [5, 4], [6], [7], [3]] [[], [], [0, 1], [0, 1, 2], [], [0, 1, 2, 3], [0, 1, 2, 3, 4, 5], [0, 1, 2, 3, 4, 5, 6], [0, 1, 2, 3, 4, 5, 6, 7], [0, 1, 2, 3], [0, 1, 2, 3, 4, 5, 6, 7, 8, 9], [0, 1, 2, 3, 4, 5, 6, 7, 8, 9, 10]] (by kernel_rfl) (by kernel_rfl) rfl (by kernel_rfl) trivial ⟨fun wx hx => Ob.op rfl (O.move rfl ⟨Keep.refl _ _, rfl⟩),
          fun wx hx => Ob.op rfl (O.move rfl ⟨Keep.refl _ _, rfl⟩),
          fun wx hx => Ob.op rfl (O.indexAddr Tryd.runUnderlying35 Tryd.sizeOf3 rfl rfl hq3 (by omega) (by omega) ⟨Keep.refl _ _, rfl⟩),
          fun wx hx => Ob.op rfl (O.load Tryd.isAgg3 rfl (int_at (hq3.keep (hx.mono (Nat.zero_le _))) (by omega) hc) ⟨Keep.refl _ _, rfl⟩),
          fun wx hx => Ob.op rfl (O.move rfl ⟨Keep.refl _ _, rfl⟩),
          fun wx hx => Ob.op rfl (O.indexAddr_arr Tryd.runUnderlying104 Tryd.sizeOf103 rfl rfl (by omega) (by omega) ⟨Keep.refl _ _, rfl⟩),
          fun wx hx => Ob.op rfl (O.indexAddr_arr Tryd.runUnderlying103 Tryd.sizeOf3 rfl rfl (by omega) (by omega) ⟨Keep.refl _ _, rfl⟩),
          fun wx hx => Ob.op rfl (O.load Tryd.isAgg3 rfl (mat_cell (hB3.keep hx (Nat.zero_le _)) (by omega)) ⟨Keep.refl _ _, rfl⟩),
          fun wx hx => Ob.op rfl (O.add64 rfl rfl (by omega) ⟨Keep.refl _ _, rfl⟩),
          fun wx hx => Ob.op rfl (O.indexAddr_arr Tryd.runUnderlying104 Tryd.sizeOf103 rfl rfl (by omega) (by omega) ⟨Keep.refl _ _, rfl⟩),
          trivial⟩ (fun w4 he4 => ?_)
      refine L.op rfl rfl (O.indexAddr_arr Tryd.runUnderlying103 Tryd.sizeOf3 rfl rfl (by omega) (by omega) (L.op rfl rfl (O.store1_at2 Tryd.sizeOf3 rfl rfl rfl (hB3.keep he4 (Nat.zero_le _)) (by simp [hmli]; omega) (fun w5 hu5 hB5 => ?_))))
      refine L.nil (T.blk (T.region (L.op rfl rfl (O.add64 rfl rfl (by omega) (L.op rfl rfl (O.move rfl (L.nil (T.again (i + 1) (by omega) ⟨rfl, rfl, rfl, rfl, rfl, rfl, trivial⟩ ⟨hlt', (he3.trans he4).upd hu5 (.inr (by omega)), ?_⟩))))))))
      · simp only [matTo]
        rw [ha, hc, List.map_set]
        have h9 := hB5
        simp only [Nat.zero_add, Nat.mul_one, Int.toNat_natCast] at h9 ⊢
        exact h9
    · refine L.nil (?_)
      obtain rfl : i = xs.length := by omega
      refine T.seq (T.cond_false rfl (T.exit rfl (T.seq (T.region (L.op rfl rfl (O.makeMap (fun b4 w4 hb4 hz4 he4 hM4 => ?_)))))))
      refine L.op rfl rfl (O.insert Tryd.runUnderlying100 Tryd.runUnderlying3 rfl rfl rfl hM4 (fun w5 hu5 hM5 => ?_))
      refine L.op rfl rfl (O.move rfl (L.op rfl rfl (O.assign rfl (L.nil (T.seq (T.seq (T.region (L.op rfl rfl (O.loadAgg Tryd.isAgg104 Tryd.sizeOf104 (by rw [List.length_map, hml]) rfl ((hB3.keep he4 (Nat.zero_le _)).upd hu5 (by have := hB3.lt; omega) |>.row) (L.op rfl rfl (O.move rfl (L.nil (T.block (?_))))))))))))))
      refine T.loop (σ := Nat × Nat) (fun s => [(0, p), (10, .map (some s.2)), (45, .agg ((matTo ys xs xs.length).map (Value.int .i64)).toArray), (46, .int .i64 s.1)]) (fun s w' => s.1 ≤ 8 ∧ Ext w1 w' ∧ ∃ kvs, MapI w' s.2 kvs ∧ KeysNd kvs ∧ Best (matS xs ys) s.1 kvs) (fun s => 8 - s.1) ((0, b4)) ⟨rfl, rfl, rfl, rfl, trivial⟩ ⟨Nat.zero_le _, (he3.trans he4).upd hu5 (.inr (by have := he3.size; omega)), _, hM5, put_nd (kvs := []) List.nodup_nil 0 0, best_start _⟩ ?_
      rintro ⟨d, bb⟩ w6 ⟨hd, he6, kvs, hM6, hnd, hbest⟩
      simp only at hd he6 hM6 hbest
      refine T.seq (T.region (L.op rfl rfl (O.lss_s rfl rfl (fun hd8 => ?_) (fun hd8 => ?_))))
      · refine L.nil (?_)
        have hd8' : d < 8 := by omega
        have hrl := rowOf_len (hml xs.length) hd8'
        refine T.seq (T.cond_true rfl (T.skip (T.seq (T.block (T.seq (T.region (L.op rfl rfl (O.index_agg Tryd.runUnderlying104 Tryd.isAgg103 Tryd.sizeOf103 rfl rfl (by omega) (by omega) (L.op rfl rfl (O.alloc Tryd.zeroValue103 (fun b7 w7 hb7 hz7 he7 hB7 => ?_)))))))))))
        have erow : ((((matTo ys xs xs.length).map (Value.int .i64)).drop ((d : Int).toNat * 8)).take 8) = (rowOf (matTo ys xs xs.length) d).map (Value.int .i64) := by rw [Int.toNat_natCast, rowOf, List.map_take, List.map_drop]
        rw [erow]
        refine L.op rfl rfl (O.storeAgg Tryd.sizeOf103 (by rw [List.length_map, hrl]) rfl rfl hB7 (by decide) (by intro u hu; simp at hu; obtain ⟨a, _, rfl⟩ := hu; rfl) (fun w8 hu8 hB8 => ?_))
        have hB8 : Blk w8 b7 ((rowOf (matTo ys xs xs.length) d).map (Value.int .i64)) 103 := by simpa [Value.cells] using hB8
        refine L.nil (T.seq (T.region (L.op rfl rfl (O.makeMap (fun b9 w9 hb9 hz9 he9 hM9 => ?_)))))
        refine L.op rfl rfl (O.assign rfl (L.nil (T.seq (T.seq (T.region (L.op rfl rfl (O.move rfl (L.op rfl rfl (O.range Tryd.runUnderlying100 rfl (((hM6.keep he7 (Nat.zero_le _)).upd hu8 (by have := hM6.lt; omega)).keep he9 (Nat.zero_le _)) (fun b10 w10 hb10 hz10 he10 hI10 => ?_))))))))))
        have hz6 := he6.size
        have hbb6 := hM6.lt
        have hz7' := he7.size
        have hz8' := hu8.size
        have hz9' := he9.size
        have hz10' := he10.size
        have he610 := (((he6.trans he7).upd hu8 (.inr (by omega))).trans he9).trans he10
        have hM10 := (((hM6.keep he7 (Nat.zero_le _)).upd hu8 (by omega)).keep he9 (Nat.zero_le _)).keep he10 (Nat.zero_le _)
        refine L.nil (T.block (?_))
        refine T.loop (σ := List Nat) (fun seen => [(0, p), (12, .pointer (some ⟨b7, 0, none⟩)), (13, .map (some b9)), (45, .agg ((matTo ys xs xs.length).map (Value.int .i64)).toArray), (46, .int .i64 d), (51, .pointer (some ⟨b10, 0, none⟩))]) (fun seen w' => Ext w1 w' ∧ MapI w' bb kvs ∧ Blk w' b7 ((rowOf (matTo ys xs xs.length) d).map (Value.int .i64)) 103 ∧ Iter w' b10 bb kvs.length seen kvs.length ∧ ∃ nx, MapI w' b9 nx ∧ KeysNd nx ∧ NextOk (matS xs ys) d (Done kvs seen) nx) (fun seen => leftN kvs.length seen) ([]) ⟨rfl, rfl, rfl, rfl, rfl, rfl, trivial⟩ ⟨he610, hM10, (hB8.keep he9 (Nat.zero_le _)).keep he10 (Nat.zero_le _), hI10, [], hM9.keep he10 (Nat.zero_le _), List.nodup_nil, next_start _ _ _ (fun t x ⟨i, hi, _⟩ => by cases hi)⟩ ?_
        rintro seen w11 ⟨he11, hM11, hB11, hI11, nx, hN11, hnn, hok⟩
        refine T.seq (T.region (L.op rfl rfl (O.next rfl hI11 hM11 rfl (Nat.le_refl _) (fun hall12 => ?_) (fun i12 k12 v12 w12 hi12 hs12 hk12 hu12 hI12 => ?_))))
        · refine L.op rfl rfl (O.extract rfl rfl (L.nil (T.seq (T.cond_false rfl (T.exit rfl (T.region (L.op rfl rfl (O.move rfl (L.op rfl rfl (O.assign rfl (L.nil (T.blk (T.region (L.op rfl rfl (O.add64 rfl rfl (by omega) (L.op rfl rfl (O.move rfl (L.nil (T.again ((d + 1, b9)) (by simp only; omega) ⟨rfl, rfl, rfl, rfl, trivial⟩ ⟨by simp only; omega, he11, nx, hN11, hnn, next_best hok (fun s x hs hl => ?_)⟩)))))))))))))))))))
          · obtain ⟨v, hv, _⟩ := hbest.2 s (inj_app hs).1 hl
            obtain ⟨i, hi, hki⟩ := get_at hv
            exact ⟨i, hall12 i hi, v, hki⟩
        · have hM12 := hM11.upd hu12 (by omega)
          have hgk := getI_nd hnd hk12
          obtain ⟨s0, hs0, hsl, rfl, hsv⟩ := hbest.1 _ _ hgk
          obtain ⟨hb256, _, _⟩ := bits_spec s0 hs0
          have hvb := scoreF_le hsm 0 s0
          rw [hsv] at hvb
          refine L.op rfl rfl (O.extract rfl rfl (L.nil (T.seq (T.cond_true rfl (T.skip (T.block (T.seq (T.region (L.op rfl rfl (O.entry rfl hI12 hM12 rfl hk12 (L.op rfl rfl (O.extract rfl rfl (L.op rfl rfl (O.extract rfl rfl (L.op rfl rfl (O.assign rfl (L.op rfl rfl (O.assign rfl (L.nil (T.seq (T.region (L.op rfl rfl (O.loadAgg Tryd.isAgg103 Tryd.sizeOf103 (by rw [List.length_map, hrl]) rfl ((hB11.upd hu12 (by omega)).row) (L.op rfl rfl (O.move rfl (L.nil (T.block (?_))))))))))))))))))))))))))))
          refine T.loop (σ := Nat) (fun x => [(0, p), (12, .pointer (some ⟨b7, 0, none⟩)), (13, .map (some b9)), (14, .int .i64 ((bits s0 : Nat) : Int)), (15, .int .i64 v12), (45, .agg ((matTo ys xs xs.length).map (Value.int .i64)).toArray), (46, .int .i64 d), (51, .pointer (some ⟨b10, 0, none⟩)), (57, .agg ((rowOf (matTo ys xs xs.length) d).map (Value.int .i64)).toArray), (58, .int .i64 x)]) (fun x w' => x ≤ 8 ∧ Ext w1 w' ∧ MapI w' bb kvs ∧ Blk w' b7 ((rowOf (matTo ys xs xs.length) d).map (Value.int .i64)) 103 ∧ Iter w' b10 bb kvs.length (seen ++ [i12]) kvs.length ∧ ∃ nx, MapI w' b9 nx ∧ KeysNd nx ∧ NextOk (matS xs ys) d (fun t y => Done kvs seen t y ∨ t = (bits s0 : Int) ∧ y < x) nx) (fun x => 8 - x) (0) ⟨rfl, rfl, rfl, rfl, rfl, rfl, rfl, rfl, rfl, rfl, trivial⟩ ⟨Nat.zero_le _, he11.upd hu12 (.inr (by omega)), hM12, hB11.upd hu12 (by omega), hI12, nx, hN11.upd hu12 (by omega), hnn, next_mono hok (fun s x _ _ h => h.elim id (fun h => absurd h.2 (Nat.not_lt_zero _)))⟩ ?_
          rintro x w13 ⟨hx8, he13, hM13, hB13, hI13, nx13, hN13, hnn13, hok13⟩
          refine T.seq (T.region (L.op rfl rfl (O.lss_s rfl rfl (fun hlt8 => ?_) (fun hlt8 => ?_))))
          · refine L.nil (?_)
            have hx8' : x < 8 := by omega
            refine T.seq (T.cond_true rfl (T.skip (T.seq (T.block (T.seq (T.region (L.op rfl rfl (O.move rfl (L.op rfl rfl (O.index_arr Tryd.runUnderlying103 Tryd.isAgg3 Tryd.sizeOf3 rfl rfl (by omega) (by omega) (by rw [Int.toNat_natCast, List.getElem?_toArray, List.getElem?_map, rowOf_at (hml xs.length) hd8' hx8']; rfl) (L.op rfl rfl (O.assign rfl (L.op rfl rfl (O.assign rfl (L.nil (T.seq (T.region (L.op rfl rfl (O.move rfl (L.op rfl rfl (O.move rfl (L.op rfl rfl (O.shr_i64 rfl rfl (by omega) (L.op rfl rfl (O.and_i64 rfl rfl (b := 1) rfl rfl (Nat.lt_of_le_of_lt (Nat.div_le_self _ _) (by omega)) (by omega) (?_))))))))))))))))))))))))))
            rw [show bits s0 / 2 ^ x &&& 1 = bits s0 / 2 ^ x % 2 from Nat.and_one_is_mod _]
            refine L.op rfl rfl (O.eql_s rfl rfl (fun hfree => ?_) (fun hfree => ?_))
            · refine L.nil (?_)
              have hfr : bits s0 / 2 ^ x % 2 = 0 := by omega
              have hsn : Inj (s0 ++ [x]) := inj_snoc.2 ⟨hs0, hx8', (bits_free hs0 hx8').1 hfr⟩
              have hpw : 2 ^ x ≤ 128 := Nat.pow_le_pow_right (n := 2) (by decide) (show x ≤ 7 by omega)
              have hor := (bit_add _ hb256 x hx8' hfr).2.1
              have hob : bits s0 ||| 2 ^ x = bits (s0 ++ [x]) := by rw [hor, bits_snoc]
              have hsw := matTo_swap hmx.2.2 hmy.2.2 hlen hd8' hx8' xs.length (Nat.le_refl _)
              have hmat := hsm (x * 8 + d)
              rw [hsw]
              rw [matS] at hmat
              refine T.cond_true rfl (?_)
              refine T.anyE mixed 15 [13, 14, 16, 15, 17] rfl [.is _, .is _, .is _, .is _, .is _, .is _, .is _, .is _, .is _, .is _, .is _, .is _, .is _, .is _, .is _] [[], [], [], [2], [1, 3], [], [], [], [7], [6, 8], [5, 9], [], [], [11, 12], [10, 13]] [[], [], [], [2], [1, 2, 3], [], [], [], [7], [6, 7, 8], [5, 6, 7, 8, 9], [], [], [11, 12], [5, 6, 7, 8, 9, 10, 11, 12, 13], [0, 1, 2, 3, 4, 5, 6, 7, 8, 9, 10, 11, 12, 13, 14]] (by kernel_rfl) (by kernel_rfl) rfl (by kernel_rfl) trivial ⟨fun wx hx => Ob.op rfl (O.move rfl ⟨Keep.refl _ _, rfl⟩),
                  fun wx hx => Ob.op rfl (O.move rfl ⟨Keep.refl _ _, rfl⟩),
                  fun wx hx => Ob.op rfl (O.move rfl ⟨Keep.refl _ _, rfl⟩),
                  fun wx hx => Ob.op rfl (O.bit_i64 rfl rfl (by omega) ⟨Keep.refl _ _, rfl⟩),
                  fun wx hx => Ob.op rfl (O.or_i64 rfl rfl rfl rfl (by omega) (by omega) ⟨Keep.refl _ _, rfl⟩),
                  fun wx hx => Ob.op rfl (O.move rfl ⟨Keep.refl _ _, rfl⟩),
                  fun wx hx => Ob.op rfl (O.move rfl ⟨Keep.refl _ _, rfl⟩),
                  fun wx hx => Ob.op rfl (O.move rfl ⟨Keep.refl _ _, rfl⟩),
                  fun wx hx => Ob.op rfl (O.bit_i64 rfl rfl (by omega) ⟨Keep.refl _ _, rfl⟩),
                  fun wx hx => Ob.op rfl (O.or_i64 rfl rfl rfl rfl (by omega) (by omega) ⟨Keep.refl _ _, rfl⟩),
                  fun wx hx => Ob.op rfl (O.lookup1 Tryd.runUnderlying100 Tryd.runUnderlying3 Tryd.zeroValue3 rfl rfl (hN13.keep hx (Nat.zero_le _)) ⟨Keep.refl _ _, rfl⟩),
                  fun wx hx => Ob.op rfl (O.move rfl ⟨Keep.refl _ _, rfl⟩),
                  fun wx hx => Ob.op rfl (O.move rfl ⟨Keep.refl _ _, rfl⟩),
                  fun wx hx => Ob.op rfl (O.add64 rfl rfl (by omega) ⟨Keep.refl _ _, rfl⟩),
                  fun wx hx => Ob.op rfl (O.call (xs := [.tmp 77, .tmp 80]) Tryd.call60 rfl rfl (greater_calls ((getI nx13 ((bits s0 ||| 2 ^ x : Nat) : Int)).getD 0) (v12 + (matTo xs ys xs.length).getD (x * 8 + d) 0) wx) (fun v wy h => ⟨Keep.of_eq h.2, h.1⟩)),
                  trivial⟩ (fun w14 he14 => ?_)
              refine L.op rfl rfl (O.mapUpdate Tryd.runUnderlying100 Tryd.runUnderlying3 rfl rfl rfl (hN13.keep he14 (Nat.zero_le _)) (fun w15 hu15 hM15 => ?_))
              have hput := next_put hok13 hbest hsn hsl hgk hsm
              rw [← hob] at hput
              refine L.nil (T.blk (T.region (L.op rfl rfl (O.add64 rfl rfl (by omega) (L.op rfl rfl (O.move rfl (L.nil (T.again (x + 1) (by omega) ⟨rfl, rfl, rfl, rfl, rfl, rfl, rfl, rfl, rfl, rfl, trivial⟩ ⟨by omega, (he13.trans he14).upd hu15 (.inr (by omega)), (hM13.keep he14 (Nat.zero_le _)).upd hu15 (by omega), (hB13.keep he14 (Nat.zero_le _)).upd hu15 (by omega), (hI13.keep he14 (Nat.zero_le _)).upd hu15 (by omega), _, hM15, put_nd hnn13 _ _, next_mono hput (fun s y hs hl h => ?_)⟩))))))))
              · rcases h with h | ⟨h1, h2⟩
                · exact .inl (.inl h)
                · by_cases hy : y = x
                  · exact .inr ⟨h1, hy⟩
                  · exact .inl (.inr ⟨h1, by omega⟩)
            · refine L.nil (?_)
              have hnf : ¬ bits s0 / 2 ^ x % 2 = 0 := by omega
              refine T.cond_false rfl (T.skip (T.blk (T.region (L.op rfl rfl (O.add64 rfl rfl (by omega) (L.op rfl rfl (O.move rfl (L.nil (T.again (x + 1) (by omega) ⟨rfl, rfl, rfl, rfl, rfl, rfl, rfl, rfl, rfl, rfl, trivial⟩ ⟨by omega, he13, hM13, hB13, hI13, nx13, hN13, hnn13, next_mono hok13 (fun s y hs hl h => ?_)⟩)))))))))
              · rcases h with h | ⟨h1, h2⟩
                · exact .inl h
                · by_cases hy : y = x
                  · subst hy
                    have hbe : bits s = bits s0 := by omega
                    exact absurd (by rw [← hbe]; exact (bits_free (inj_snoc.1 hs).1 hx8').2 (inj_snoc.1 hs).2.2) hnf
                  · exact .inr ⟨h1, by omega⟩
          · refine L.nil (?_)
            obtain rfl : x = 8 := by omega
            refine T.seq (T.cond_false rfl (T.exit rfl (T.blk (T.again (seen ++ [i12]) (leftN_lt hi12 hs12) ⟨rfl, rfl, rfl, rfl, rfl, rfl, trivial⟩ ⟨he13, hM13, hB13, hI13, nx13, hN13, hnn13, next_mono hok13 (fun s x hs hl h => ?_)⟩))))
            · obtain ⟨i, hi, v, hki⟩ := h
              rcases List.mem_append.1 hi with h1 | h1
              · exact .inl ⟨i, h1, v, hki⟩
              · rw [List.mem_singleton] at h1
                subst h1
                rw [hk12] at hki
                simp only [Option.some.injEq, Prod.mk.injEq] at hki
                exact .inr ⟨hki.1.symm, (inj_snoc.1 hs).2.1⟩
      · refine L.nil (?_)
        obtain rfl : d = 8 := by omega
        obtain ⟨v, hv, hmost⟩ := best_full hbest
        have hvv := most_unique hmost (alike_most hsm)
        have hal := alikeF_le hsm 8 0
        have hp6 := hp.keep (he6.mono (Nat.zero_le lo))
        refine T.seq (T.cond_false rfl (T.exit rfl (T.seq (T.region (L.op rfl rfl (O.move rfl (L.op rfl rfl (O.len Tryd.runUnderlying35 rfl (Sl.val hp6) (L.op rfl rfl (O.move rfl (L.op rfl rfl (O.lookup1 Tryd.runUnderlying100 Tryd.runUnderlying3 Tryd.zeroValue3 rfl rfl hM6 (?_)))))))))))))
        rw [hv, Option.getD_some, hvv]
        refine L.op rfl rfl (O.sub64 rfl rfl (by omega) (L.op rfl rfl (O.assign rfl (L.op rfl rfl (O.assign rfl (L.nil (T.ret2 Tryd.results34 rfl rfl ⟨by rw [apartOf, if_pos hE, hE]; rfl, he6⟩)))))))

end Go.Proofs.YthjdljbghjelfaaDoor
