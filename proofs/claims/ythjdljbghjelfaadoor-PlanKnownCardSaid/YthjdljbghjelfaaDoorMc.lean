/-
  Walks of the plans' functions (1). Conditions: those of each statement.
-/
import Derived.Test.YthjdljbghjelfaaDoorMa
import Derived.Test.YthjdljbghjelfaaDoorProg
import Derived.Test.YthjdljbghjelfaaDoorMb
set_option linter.unusedVariables false
set_option linter.unusedSimpArgs false
set_option maxRecDepth 20000
namespace Go.Proofs.YthjdljbghjelfaaDoor
open Go Go.E
attribute [local irreducible] Go.E.T Go.E.L Go.E.O Go.E.Ob

def maskTo (xs : List Int) (d : Int) : Nat → Nat
  | 0 => 0
  | i + 1 => if xs.getD i 0 = d then maskTo xs d i ||| bit64 i else maskTo xs d i
theorem maskTo_lt (xs : List Int) (d : Int) : ∀ i, maskTo xs d i < 18446744073709551616
  | 0 => by simp [maskTo]
  | i + 1 => by
    simp only [maskTo]
    split
    · exact or_lt (maskTo_lt xs d i) (bit64_lt i)
    · exact maskTo_lt xs d i
def mask (xs : List Int) (d : Int) : Nat := maskTo xs d xs.length
theorem RMask_calls (lo : Nat) (p : Value) (xs : List Int) (dd : Int) (w : World) (hp : Ints .i64 lo w p xs) :
    Calls Tryd.prog 48 #[p, .int .i64 dd] w (Ret fun v w' => v = .int .u64 (mask xs dd) ∧ w' = w) := by
  have hle := Sl.le hp
  refine T.enter (vs := [p, .int .i64 dd]) Tryd.func48 rfl Tryd.ntmps48 rfl ?_
  refine T.seq (T.region (L.op rfl rfl (O.assign rfl (L.nil (T.seq (T.region (L.op rfl rfl (O.assign rfl (L.nil (T.seq (T.seq (T.region (L.op rfl rfl (O.assign rfl (L.nil (T.block (?_)))))))))))))))))
  refine T.loop (σ := Nat) (fun i => [(0, p), (1, .int .i64 dd), (5, .int .u64 (maskTo xs dd i)), (6, .int .i64 i)]) (fun i w' => i ≤ xs.length ∧ w' = w) (fun i => xs.length - i) (0) ⟨rfl, rfl, rfl, rfl, trivial⟩ ⟨Nat.zero_le _, rfl⟩ ?_
  rintro i w' ⟨hi, rfl⟩
  have hm := maskTo_lt xs dd i
  refine T.seq (T.seq (T.region (L.op rfl rfl (O.move rfl (L.op rfl rfl (O.move rfl (L.op rfl rfl (O.len Tryd.runUnderlying35 rfl (Sl.val hp) (L.op rfl rfl (O.lss_s rfl rfl (fun hlt => ?_) (fun hlt => ?_)))))))))))
  · refine L.nil (T.cond_true rfl (T.skip (T.seq (T.block (T.seq (T.region (L.op rfl rfl (O.move rfl (L.op rfl rfl (O.move rfl (L.op rfl rfl (O.indexAddr Tryd.runUnderlying35 Tryd.sizeOf3 rfl rfl hp (by omega) (by omega) (L.op rfl rfl (O.load Tryd.isAgg3 rfl (Ints.cell hp (by omega) (by omega)) (L.op rfl rfl (O.move rfl (L.op rfl rfl (O.eql_s rfl rfl (fun h1 => ?_) (fun h1 => ?_)))))))))))))))))))
    · refine L.nil (T.cond_true rfl (T.region (L.op rfl rfl (O.move rfl (L.op rfl rfl (O.move rfl (L.op rfl rfl (O.bit_u64 rfl rfl (by omega) (L.op rfl rfl (O.or_u64 rfl rfl (by first | exact bit64_lt _ | assumption | omega) (by first | exact bit64_lt _ | assumption | omega) rfl rfl (L.op rfl rfl (O.assign rfl (L.nil (T.blk (T.region (L.op rfl rfl (O.move rfl (L.op rfl rfl (O.add64 rfl rfl (by omega) (L.op rfl rfl (O.assign rfl (L.nil (T.again (i + 1) (by omega) ⟨rfl, rfl, ?_, rfl, trivial⟩ ⟨by omega, rfl⟩)))))))))))))))))))))))
      · simp only [maskTo]; rw [if_pos (by simpa using h1)]; rfl
    · refine L.nil (T.cond_false rfl (T.skip (T.blk (T.region (L.op rfl rfl (O.move rfl (L.op rfl rfl (O.add64 rfl rfl (by omega) (L.op rfl rfl (O.assign rfl (L.nil (T.again (i + 1) (by omega) ⟨rfl, rfl, ?_, rfl, trivial⟩ ⟨by omega, rfl⟩))))))))))))
      · simp only [maskTo]; rw [if_neg (by simpa using h1)]; rfl
  · refine L.nil (T.cond_false rfl (T.exit rfl (T.seq (T.region (L.op rfl rfl (O.move rfl (L.op rfl rfl (O.assign rfl (L.nil (T.ret1 Tryd.results48 rfl ⟨by rw [mask, show xs.length = i by omega], rfl⟩))))))))))

def okl (k : Int) (x : Int) : Bool := decide (0 ≤ x) && decide (x < k)
/-- A list of 1 to 64 labels below a number. -/
def labelsOk (xs : List Int) (k : Int) : Bool := xs.all (okl k) && (decide (1 ≤ xs.length) && decide (xs.length ≤ 64))
theorem getD_get {α : Type} {xs : List α} {i : Nat} {d : α} (h : i < xs.length) : xs.getD i d = xs[i] := by simp [List.getD, h]
theorem take_all_succ {α : Type} {p : α → Bool} {xs : List α} {i : Nat} {d : α} (h : i < xs.length) (h1 : (xs.take i).all p = true) (h2 : p (xs.getD i d) = true) : (xs.take (i + 1)).all p = true := by
  rw [List.take_succ_eq_append_getElem h, List.all_append, h1]
  rw [getD_get h] at h2
  simp [h2]
theorem all_no {α : Type} {p : α → Bool} {xs : List α} {i : Nat} {d : α} (h : i < xs.length) (h2 : p (xs.getD i d) = false) : xs.all p = false := by
  rw [getD_get h] at h2
  rw [List.all_eq_false]
  exact ⟨_, List.getElem_mem h, by simp [h2]⟩
theorem labels_no {xs : List Int} {k : Int} {i : Nat} (h : i < xs.length) (h2 : okl k (xs.getD i 0) = false) : labelsOk xs k = false := by
  rw [labelsOk, all_no h h2]; rfl
theorem labels_len {xs : List Int} {k : Int} {i : Nat} (h : i = xs.length) (h1 : (xs.take i).all (okl k) = true) : labelsOk xs k = (decide (1 ≤ xs.length) && decide (xs.length ≤ 64)) := by
  rw [h, List.take_length] at h1
  rw [labelsOk, h1]; rfl
theorem labels_mem {xs : List Int} {k : Int} (h : labelsOk xs k = true) : 1 ≤ xs.length ∧ xs.length ≤ 64 ∧ ∀ i, i < xs.length → 0 ≤ xs.getD i 0 ∧ xs.getD i 0 < k := by
  simp only [labelsOk, Bool.and_eq_true, decide_eq_true_eq] at h
  refine ⟨h.2.1, h.2.2, fun i hi => ?_⟩
  have := List.all_eq_true.1 h.1 xs[i] (List.getElem_mem hi)
  rw [getD_get hi]; simpa [okl] using this
/-- The masks of the labels from 0 to k - 1. -/
def masksOf (xs : List Int) (k : Nat) : List Nat := (List.range k).map fun d : Nat => mask xs (d : Int)
def allUsed (xs : List Int) (k : Nat) : Bool := (masksOf xs k).all fun m => !decide (m = 0)
theorem labels_calls (lo : Nat) (p : Value) (xs : List Int) (k : Int) (w : World) (hp : Ints .i64 lo w p xs) :
    Calls Tryd.prog 44 #[p, .int .i64 k] w (Ret fun v w' => v = .bool (labelsOk xs k) ∧ w' = w) := by
  have hle := Sl.le hp
  refine T.enter (vs := [p, .int .i64 k]) Tryd.func44 rfl Tryd.ntmps44 rfl ?_
  refine T.seq (T.region (L.op rfl rfl (O.assign rfl (L.nil (T.seq (T.seq (T.region (L.op rfl rfl (O.move rfl (L.op rfl rfl (O.len Tryd.runUnderlying35 rfl (Sl.val hp) (L.op rfl rfl (O.move rfl (L.nil (T.block (?_))))))))))))))))
  refine T.loop (σ := Nat) (fun i => [(0, p), (1, .int .i64 k), (7, p), (8, .int .i64 xs.length), (9, .int .i64 i)]) (fun i w' => i ≤ xs.length ∧ w' = w ∧ (xs.take i).all (okl k) = true) (fun i => xs.length - i) (0) ⟨rfl, rfl, rfl, rfl, rfl, trivial⟩ ⟨Nat.zero_le _, rfl, rfl⟩ ?_
  rintro i w' ⟨hi, rfl, hall⟩
  refine T.seq (T.region (L.op rfl rfl (O.lss_s rfl rfl (fun hlt => ?_) (fun hlt => ?_))))
  · refine L.nil (T.seq (T.cond_true rfl (T.skip (T.seq (T.block (T.seq (T.region (L.op rfl rfl (O.indexAddr Tryd.runUnderlying35 Tryd.sizeOf3 rfl rfl hp (by omega) (by omega) (L.op rfl rfl (O.load Tryd.isAgg3 rfl (Ints.cell hp (by omega) (by omega)) (?_))))))))))))
    have hlt' : i < xs.length := by omega
    refine L.op rfl rfl (O.assign rfl (L.nil (T.seq (T.region (L.op rfl rfl (O.move rfl (L.op rfl rfl (O.lss_s rfl rfl (fun h0 => ?_) (fun h0 => ?_)))))))))
    · refine L.op rfl rfl (O.move rfl (L.pass rfl rfl (L.pass rfl rfl (L.pass rfl rfl (L.op rfl rfl (O.pick_true rfl rfl (L.nil (T.cond_true rfl (T.seq (T.region (L.op rfl rfl (O.assign rfl (L.nil (T.ret1 Tryd.results44 rfl ⟨by rw [labels_no hlt' (by simp [okl]; intro h; exact absurd h0 (by simpa using h))], rfl⟩))))))))))))))
    · refine L.op rfl rfl (O.move rfl (L.op rfl rfl (O.move rfl (L.op rfl rfl (O.move rfl (L.op rfl rfl (O.geq_s rfl rfl (fun h1 => ?_) (fun h1 => ?_))))))))
      · refine L.op rfl rfl (O.pick_false rfl rfl (L.nil (T.cond_true rfl (T.seq (T.region (L.op rfl rfl (O.assign rfl (L.nil (T.ret1 Tryd.results44 rfl ⟨by rw [labels_no hlt' (by simp [okl]; intro h; simpa using h1)], rfl⟩)))))))))
      · refine L.op rfl rfl (O.pick_false rfl rfl (L.nil (T.cond_false rfl (T.skip (T.blk (T.region (L.op rfl rfl (O.add64 rfl rfl (by omega) (L.op rfl rfl (O.move rfl (L.nil (T.again (i + 1) (by omega) ⟨rfl, rfl, rfl, rfl, rfl, trivial⟩ ⟨by omega, rfl, take_all_succ (d := 0) hlt' hall (by simp [okl]; exact ⟨by simpa using h0, by simpa using h1⟩)⟩))))))))))))
  · refine L.nil (?_)
    have hl := labels_len (show i = xs.length by omega) hall
    refine T.seq (T.cond_false rfl (T.exit rfl (T.seq (T.region (L.op rfl rfl (O.move rfl (L.op rfl rfl (O.len Tryd.runUnderlying35 rfl (Sl.val hp) (L.op rfl rfl (O.gtr_s rfl rfl (fun h2 => ?_) (fun h2 => ?_)))))))))))
    · refine L.op rfl rfl (O.move rfl (L.op rfl rfl (O.move rfl (L.op rfl rfl (O.len Tryd.runUnderlying35 rfl (Sl.val hp) (L.op rfl rfl (O.leq_s rfl rfl (fun h3 => ?_) (fun h3 => ?_))))))))
      · refine L.op rfl rfl (O.pick_true rfl rfl (L.op rfl rfl (O.assign rfl (L.nil (T.ret1 Tryd.results44 rfl ⟨by rw [hl, decide_eq_true (by omega), decide_eq_true (by omega)]; rfl, rfl⟩)))))
      · refine L.op rfl rfl (O.pick_true rfl rfl (L.op rfl rfl (O.assign rfl (L.nil (T.ret1 Tryd.results44 rfl ⟨by rw [hl, decide_eq_false (show ¬ xs.length ≤ 64 by omega)]; simp, rfl⟩)))))
    · refine L.op rfl rfl (O.move rfl (L.pass rfl rfl (L.pass rfl rfl (L.pass rfl rfl (L.op rfl rfl (O.pick_false rfl rfl (L.op rfl rfl (O.assign rfl (L.nil (T.ret1 Tryd.results44 rfl ⟨by rw [hl, decide_eq_false (show ¬ 1 ≤ xs.length by omega)]; rfl, rfl⟩))))))))))

theorem RLabels_calls (lo : Nat) (p : Value) (xs : List Int) (k : Int) (w : World) (hp : Ints .i64 lo w p xs) :
    Calls Tryd.prog 46 #[p, .int .i64 k] w (Ret fun v w' => v = .bool (labelsOk xs k) ∧ w' = w) := by
  have hle := Sl.le hp
  refine T.enter (vs := [p, .int .i64 k]) Tryd.func46 rfl Tryd.ntmps46 rfl ?_
  refine T.seq (T.region (L.op rfl rfl (O.assign rfl (L.nil (T.seq (T.seq (T.region (L.op rfl rfl (O.assign rfl (L.nil (T.block (?_))))))))))))
  refine T.loop (σ := Nat) (fun i => [(0, p), (1, .int .i64 k), (5, .int .i64 i)]) (fun i w' => i ≤ xs.length ∧ w' = w ∧ (xs.take i).all (okl k) = true) (fun i => xs.length - i) (0) ⟨rfl, rfl, rfl, trivial⟩ ⟨Nat.zero_le _, rfl, rfl⟩ ?_
  rintro i w' ⟨hi, rfl, hall⟩
  refine T.seq (T.seq (T.region (L.op rfl rfl (O.move rfl (L.op rfl rfl (O.move rfl (L.op rfl rfl (O.len Tryd.runUnderlying35 rfl (Sl.val hp) (L.op rfl rfl (O.lss_s rfl rfl (fun hlt => ?_) (fun hlt => ?_)))))))))))
  · refine L.nil (T.cond_true rfl (T.skip (T.seq (T.block (T.seq (T.region (L.op rfl rfl (O.move rfl (L.op rfl rfl (O.move rfl (L.op rfl rfl (O.indexAddr Tryd.runUnderlying35 Tryd.sizeOf3 rfl rfl hp (by omega) (by omega) (L.op rfl rfl (O.load Tryd.isAgg3 rfl (Ints.cell hp (by omega) (by omega)) (?_)))))))))))))))
    have hlt' : i < xs.length := by omega
    refine L.op rfl rfl (O.lss_s rfl rfl (fun h0 => ?_) (fun h0 => ?_))
    · refine L.op rfl rfl (O.move rfl (L.pass rfl rfl (L.pass rfl rfl (L.pass rfl rfl (L.pass rfl rfl (L.pass rfl rfl (L.pass rfl rfl (L.op rfl rfl (O.pick_true rfl rfl (L.nil (T.cond_true rfl (T.seq (T.region (L.op rfl rfl (O.assign rfl (L.nil (T.ret1 Tryd.results46 rfl ⟨by rw [labels_no hlt' (by simp [okl]; intro h; exact absurd h0 (by simpa using h))], rfl⟩)))))))))))))))))
    · refine L.op rfl rfl (O.move rfl (L.op rfl rfl (O.move rfl (L.op rfl rfl (O.move rfl (L.op rfl rfl (O.indexAddr Tryd.runUnderlying35 Tryd.sizeOf3 rfl rfl hp (by omega) (by omega) (L.op rfl rfl (O.load Tryd.isAgg3 rfl (Ints.cell hp (by omega) (by omega)) (L.op rfl rfl (O.move rfl (L.op rfl rfl (O.geq_s rfl rfl (fun h1 => ?_) (fun h1 => ?_))))))))))))))
      · refine L.op rfl rfl (O.pick_false rfl rfl (L.nil (T.cond_true rfl (T.seq (T.region (L.op rfl rfl (O.assign rfl (L.nil (T.ret1 Tryd.results46 rfl ⟨by rw [labels_no hlt' (by simp [okl]; intro h; simpa using h1)], rfl⟩)))))))))
      · refine L.op rfl rfl (O.pick_false rfl rfl (L.nil (T.cond_false rfl (T.skip (T.blk (T.region (L.op rfl rfl (O.move rfl (L.op rfl rfl (O.add64 rfl rfl (by omega) (L.op rfl rfl (O.assign rfl (L.nil (T.again (i + 1) (by omega) ⟨rfl, rfl, rfl, trivial⟩ ⟨by omega, rfl, take_all_succ (d := 0) hlt' hall (by simp [okl]; exact ⟨by simpa using h0, by simpa using h1⟩)⟩))))))))))))))
  · refine L.nil (?_)
    have hl := labels_len (show i = xs.length by omega) hall
    refine T.cond_false rfl (T.exit rfl (T.seq (T.region (L.op rfl rfl (O.move rfl (L.op rfl rfl (O.len Tryd.runUnderlying35 rfl (Sl.val hp) (L.op rfl rfl (O.geq_s rfl rfl (fun h2 => ?_) (fun h2 => ?_))))))))))
    · refine L.op rfl rfl (O.move rfl (L.op rfl rfl (O.move rfl (L.op rfl rfl (O.len Tryd.runUnderlying35 rfl (Sl.val hp) (L.op rfl rfl (O.leq_s rfl rfl (fun h3 => ?_) (fun h3 => ?_))))))))
      · refine L.op rfl rfl (O.pick_true rfl rfl (L.op rfl rfl (O.assign rfl (L.nil (T.ret1 Tryd.results46 rfl ⟨by rw [hl, decide_eq_true (by omega), decide_eq_true (by omega)]; rfl, rfl⟩)))))
      · refine L.op rfl rfl (O.pick_true rfl rfl (L.op rfl rfl (O.assign rfl (L.nil (T.ret1 Tryd.results46 rfl ⟨by rw [hl, decide_eq_false (show ¬ xs.length ≤ 64 by omega)]; simp, rfl⟩)))))
    · refine L.op rfl rfl (O.move rfl (L.pass rfl rfl (L.pass rfl rfl (L.pass rfl rfl (L.op rfl rfl (O.pick_false rfl rfl (L.op rfl rfl (O.assign rfl (L.nil (T.ret1 Tryd.results46 rfl ⟨by rw [hl, decide_eq_false (show ¬ 1 ≤ xs.length by omega)]; rfl, rfl⟩))))))))))

theorem masks_getElem {xs : List Int} {k d : Nat} (h : d < k) : (masksOf xs k).getD d 0 = mask xs d := by
  simp [masksOf, List.getD, h]
theorem used_no {xs : List Int} {k d : Nat} (h : d < k) (h0 : mask xs d = 0) : allUsed xs k = false := by
  refine all_no (i := d) (d := 0) (by simpa [masksOf] using h) ?_
  rw [masks_getElem h, h0]; rfl
theorem used_step {xs : List Int} {k d : Nat} (h : d < k) (h1 : ((masksOf xs k).take d).all (fun m => !decide (m = 0)) = true) (h0 : mask xs d ≠ 0) : ((masksOf xs k).take (d + 1)).all (fun m => !decide (m = 0)) = true := by
  refine take_all_succ (d := 0) (by simpa [masksOf] using h) h1 ?_
  rw [masks_getElem h]; simpa using h0
theorem used_all {xs : List Int} {k d : Nat} (h : k ≤ d) (h1 : ((masksOf xs k).take d).all (fun m => !decide (m = 0)) = true) : allUsed xs k = true := by
  rw [List.take_of_length_le (by simpa [masksOf] using h)] at h1; exact h1
theorem mask_lt (xs : List Int) (d : Int) : mask xs d < 18446744073709551616 := maskTo_lt _ _ _
theorem Rall_calls (lo : Nat) (p : Value) (xs : List Int) (k : Nat) (w : World) (hp : Ints .i64 lo w p xs) (hk : k ≤ 8) :
    Calls Tryd.prog 47 #[p, .int .i64 k] w (Ret fun v w' => v = .bool (allUsed xs k) ∧ w' = w) := by
  refine T.enter (vs := [p, .int .i64 k]) Tryd.func47 rfl Tryd.ntmps47 rfl ?_
  refine T.seq (T.region (L.op rfl rfl (O.assign rfl (L.nil (T.seq (T.seq (T.region (L.op rfl rfl (O.assign rfl (L.nil (T.block (?_))))))))))))
  refine T.loop (σ := Nat) (fun i => [(0, p), (1, .int .i64 k), (5, .int .i64 i)]) (fun i w' => i ≤ k ∧ w' = w ∧ ((masksOf xs k).take i).all (fun m => !decide (m = 0)) = true) (fun i => k - i) (0) ⟨rfl, rfl, rfl, trivial⟩ ⟨Nat.zero_le _, rfl, rfl⟩ ?_
  rintro i w' ⟨hi, rfl, hall⟩
  refine T.seq (T.seq (T.region (L.op rfl rfl (O.move rfl (L.op rfl rfl (O.move rfl (L.op rfl rfl (O.lss_s rfl rfl (fun hlt => ?_) (fun hlt => ?_)))))))))
  · refine L.nil (?_)
    have hlt' : i < k := by omega
    refine T.cond_true rfl (T.skip (T.seq (T.block (T.seq (T.region (L.op rfl rfl (O.move rfl (L.op rfl rfl (O.move rfl (L.op rfl rfl (O.call (xs := [.tmp 11, .tmp 12]) Tryd.call48 rfl rfl (RMask_calls lo p xs i w' hp) (fun v1 w1 hq => ?_))))))))))))
    obtain ⟨rfl, rfl⟩ := hq
    refine L.op rfl rfl (O.eql_s rfl rfl (fun h0 => ?_) (fun h0 => ?_))
    · refine L.nil (T.cond_true rfl (T.seq (T.region (L.op rfl rfl (O.assign rfl (L.nil (T.ret1 Tryd.results47 rfl ⟨by rw [used_no hlt' (by omega)], rfl⟩)))))))
    · refine L.nil (T.cond_false rfl (T.skip (T.blk (T.region (L.op rfl rfl (O.move rfl (L.op rfl rfl (O.add64 rfl rfl (by omega) (L.op rfl rfl (O.assign rfl (L.nil (T.again (i + 1) (by omega) ⟨rfl, rfl, rfl, trivial⟩ ⟨by omega, rfl, used_step hlt' hall (by omega)⟩))))))))))))
  · refine L.nil (T.cond_false rfl (T.exit rfl (T.seq (T.region (L.op rfl rfl (O.assign rfl (L.nil (T.ret1 Tryd.results47 rfl ⟨by rw [used_all (by omega) hall], rfl⟩))))))))

end Go.Proofs.YthjdljbghjelfaaDoor
set_option linter.unusedVariables false
set_option linter.unusedSimpArgs false
set_option maxRecDepth 20000
namespace Go.Proofs.YthjdljbghjelfaaDoor
open Go Go.E
attribute [local irreducible] Go.E.T Go.E.L Go.E.O Go.E.Ob

def masksAt (xs : List Int) (k i : Nat) : List Nat := (List.range k).map fun d : Nat => maskTo xs (d : Int) i
theorem masksAt_len (xs : List Int) (k i : Nat) : (masksAt xs k i).length = k := by simp [masksAt]
theorem masksAt_get {xs : List Int} {k i d : Nat} (h : d < k) : (masksAt xs k i).getD d 0 = maskTo xs d i := by simp [masksAt, List.getD, h]
theorem masks_set {xs : List Int} {k i : Nat} {x : Int} (hx : xs.getD i 0 = x) (h0 : 0 ≤ x) (h1 : x < k) :
    ((masksAt xs k i).map wordV).set (0 + x.toNat * 1) (.int .u64 (((masksAt xs k i).getD x.toNat 0 ||| bit64 i : Nat) : Int)) = (masksAt xs k (i + 1)).map wordV := by
  have hlt : x.toNat < k := by omega
  have hxx : ((x.toNat : Nat) : Int) = x := by omega
  rw [masksAt_get hlt]
  apply List.ext_getElem
  · simp [masksAt]
  · intro j h2 h3
    simp only [Nat.zero_add, Nat.mul_one]
    by_cases hj : x.toNat = j
    · subst hj
      simp only [List.getElem_set_self]
      simp [masksAt, wordV, maskTo, hxx]
      have : xs[i]?.getD 0 = x := by simpa [List.getD] using hx
      rw [if_pos this]
    · rw [List.getElem_set_ne hj]
      simp [masksAt, wordV, maskTo]
      have h4 : ¬ xs[i]?.getD 0 = (j : Int) := by
        have : xs[i]?.getD 0 = x := by simpa [List.getD] using hx
        rw [this]; omega
      rw [if_neg h4]
theorem masksAt_zero (xs : List Int) (k : Nat) : List.replicate k (Value.int .u64 0) = (masksAt xs k 0).map wordV := by
  apply List.ext_getElem
  · simp [masksAt]
  · intro j h1 h2; simp [masksAt, maskTo, wordV]
theorem masksAt_all (xs : List Int) (k i : Nat) (h : i = xs.length) : masksAt xs k i = masksOf xs k := by subst h; rfl
/-- What 'parts' hands back. -/
def PartsPost (xs : List Int) (k : Nat) (w : World) (v : Value) (w' : World) : Prop :=
  Ext w w' ∧ ((allUsed xs k = false ∧ v = .tuple #[.slice none 0 0, .bool false]) ∨ (allUsed xs k = true ∧ ∃ l, v = .tuple #[l, .bool true] ∧ Words w.heap.size w' l (masksOf xs k)))
theorem parts_calls (lo : Nat) (p : Value) (xs : List Int) (k : Nat) (w : World) (hp : Ints .i64 lo w p xs) (hk : k ≤ 8) (hl : xs.length ≤ 64) (hxs : ∀ i, i < xs.length → 0 ≤ xs.getD i 0 ∧ xs.getD i 0 < k) :
    Calls Tryd.prog 45 #[p, .int .i64 k] w (Ret fun v w' => PartsPost xs k w v w') := by
  refine T.enter (vs := [p, .int .i64 k]) Tryd.func45 rfl Tryd.ntmps45 rfl ?_
  refine T.seq (T.region (L.op rfl rfl (O.assign rfl (L.op rfl rfl (O.assign rfl (L.nil (T.seq (T.region (L.op rfl rfl (O.move rfl (L.op rfl rfl (O.makeSlice Tryd.runUnderlying38 Tryd.typeInfo46 Tryd.sizeOf46 Tryd.zeroValue46 rfl rfl rfl (by show k * 8 ≤ _; omega) (by omega) (fun b1 w1 hb1 hz1 he1 hB1 => ?_)))))))))))))
  have hml : k ≤ maxLen := by unfold maxLen; omega
  refine L.op rfl rfl (O.assign rfl (L.nil (T.seq (T.seq (T.region (L.op rfl rfl (O.move rfl (L.op rfl rfl (O.len Tryd.runUnderlying35 rfl (Sl.val hp) (L.op rfl rfl (O.move rfl (L.nil (T.block (?_))))))))))))))
  refine T.loop (σ := Nat) (fun i => [(0, p), (1, .int .i64 k), (6, .slice (some ⟨b1, 0, none⟩) k k), (12, p), (13, .int .i64 xs.length), (14, .int .i64 i)]) (fun i w' => i ≤ xs.length ∧ Ext w w' ∧ Blk w' b1 ((masksAt xs k i).map wordV) 46) (fun i => xs.length - i) (0) ⟨rfl, rfl, rfl, rfl, rfl, rfl, trivial⟩ ⟨Nat.zero_le _, he1, by rw [← masksAt_zero]; exact hB1⟩ ?_
  rintro i w2 ⟨hi, he2, hB2⟩
  refine T.seq (T.region (L.op rfl rfl (O.lss_s rfl rfl (fun hlt => ?_) (fun hlt => ?_))))
  · refine L.nil (?_)
    have hlt' : i < xs.length := by omega
    have hxi := hxs i hlt'
    have hpw := hp.keep (he2.mono (Nat.zero_le lo))
    refine T.seq (T.cond_true rfl (T.skip (T.seq (T.block (T.seq (T.region (L.op rfl rfl (O.move rfl (L.op rfl rfl (O.indexAddr Tryd.runUnderlying35 Tryd.sizeOf3 rfl rfl hpw (by omega) (by omega) (L.op rfl rfl (O.load Tryd.isAgg3 rfl (Ints.at hpw (by omega)) (L.op rfl rfl (O.assign rfl (L.op rfl rfl (O.assign rfl (L.nil (?_))))))))))))))))))
    refine T.par mixed 7 [6, 8, 7] rfl [.is _, .is _, .is _, .is _, .is _, .is _, .is _] [[], [], [0, 1], [2], [], [4], [3, 5]] (by kernel_rfl) rfl ⟨trivial, trivial, trivial, trivial, trivial, trivial, trivial, trivial⟩ ⟨fun wx hx => Ob.op rfl (O.move rfl ⟨Keep.refl _ _, rfl⟩),
        fun wx hx => Ob.op rfl (O.move rfl ⟨Keep.refl _ _, rfl⟩),
        fun wx hx => Ob.op rfl (O.indexAddr Tryd.runUnderlying38 Tryd.sizeOf46 rfl rfl (Words.of_blk (lo := 0) (hB2.keep hx (Nat.zero_le _)) (masksAt_len _ _ _) hml (Nat.zero_le _)) hxi.1 (by rw [masksAt_len]; exact hxi.2) ⟨Keep.refl _ _, rfl⟩),
        fun wx hx => Ob.op rfl (O.load Tryd.isAgg46 rfl (Words.cell (Words.of_blk (lo := 0) (hB2.keep hx (Nat.zero_le _)) (masksAt_len _ _ _) hml (Nat.zero_le _)) hxi.1 (by rw [masksAt_len]; exact hxi.2)) ⟨Keep.refl _ _, rfl⟩),
        fun wx hx => Ob.op rfl (O.move rfl ⟨Keep.refl _ _, rfl⟩),
        fun wx hx => Ob.op rfl (O.bit_u64 rfl rfl (by omega) ⟨Keep.refl _ _, rfl⟩),
        fun wx hx => Ob.op rfl (O.or_u64 rfl rfl (by rw [masksAt_get (by omega)]; exact maskTo_lt _ _ _) (bit64_lt _) rfl rfl ⟨Keep.refl _ _, rfl⟩),
        trivial⟩ (fun w3 he3 => ?_)
    have hB3 := hB2.keep he3 (Nat.zero_le _)
    refine L.op rfl rfl (O.indexAddr Tryd.runUnderlying38 Tryd.sizeOf46 rfl rfl (Words.of_blk (lo := 0) hB3 (masksAt_len _ _ _) hml (Nat.zero_le _)) hxi.1 (by rw [masksAt_len]; exact hxi.2) (L.op rfl rfl (O.store1_at Tryd.sizeOf46 rfl rfl rfl hB3 (by rw [List.length_map, masksAt_len]; omega) (fun w4 hu4 hB4 => ?_))))
    refine L.nil (T.blk (T.region (L.op rfl rfl (O.add64 rfl rfl (by omega) (L.op rfl rfl (O.move rfl (L.nil (T.again (i + 1) (by omega) ⟨rfl, rfl, rfl, rfl, rfl, rfl, trivial⟩ ⟨by omega, (he2.trans he3).upd hu4 (.inr (by omega)), ?_⟩))))))))
    · have e := masks_set (xs := xs) (k := k) (i := i) rfl hxi.1 hxi.2
      unfold Blk at hB4 ⊢
      rw [← e]; exact hB4
  · refine L.nil (?_)
    have hall := masksAt_all xs k i (by omega)
    rw [hall] at hB2
    refine T.seq (T.cond_false rfl (T.exit rfl (T.seq (T.seq (T.region (L.op rfl rfl (O.move rfl (L.op rfl rfl (O.move rfl (L.nil (T.block (?_))))))))))))
    refine T.loop (σ := Nat) (fun d => [(6, .slice (some ⟨b1, 0, none⟩) k k), (28, .int .i64 k), (29, .int .i64 d)]) (fun d w' => d ≤ k ∧ w' = w2 ∧ ((masksOf xs k).take d).all (fun m => !decide (m = 0)) = true) (fun d => k - d) (0) ⟨rfl, rfl, rfl, trivial⟩ ⟨Nat.zero_le _, rfl, rfl⟩ ?_
    rintro d w' ⟨hd, rfl, hal⟩
    refine T.seq (T.region (L.op rfl rfl (O.lss_s rfl rfl (fun hd1 => ?_) (fun hd1 => ?_))))
    · refine L.nil (?_)
      have hd2 : d < k := by omega
      have hW := Words.of_blk (lo := 0) (n := k) hB2 (by simp [masksOf]) hml (Nat.zero_le _)
      refine T.seq (T.cond_true rfl (T.skip (T.seq (T.block (T.seq (T.region (L.op rfl rfl (O.move rfl (L.op rfl rfl (O.assign rfl (L.nil (T.seq (T.region (L.op rfl rfl (O.move rfl (L.op rfl rfl (O.move rfl (L.op rfl rfl (O.indexAddr Tryd.runUnderlying38 Tryd.sizeOf46 rfl rfl hW (by omega) (by simpa [masksOf] using hd1) (L.op rfl rfl (O.load Tryd.isAgg46 rfl (Words.at hW (by simpa [masksOf] using hd2)) (?_))))))))))))))))))))))
      have hg : (masksOf xs k).getD d 0 = mask xs d := masks_getElem hd2
      refine L.op rfl rfl (O.eql_s rfl rfl (fun h0 => ?_) (fun h0 => ?_))
      · refine L.nil (T.cond_true rfl (T.seq (T.region (L.op rfl rfl (O.assign rfl (L.op rfl rfl (O.assign rfl (L.nil (T.ret2 Tryd.results45 rfl rfl ⟨he2, .inl ⟨used_no hd2 (by rw [hg] at h0; omega), rfl⟩⟩)))))))))
      · refine L.nil (T.cond_false rfl (T.skip (T.blk (T.region (L.op rfl rfl (O.add64 rfl rfl (by omega) (L.op rfl rfl (O.move rfl (L.nil (T.again (d + 1) (by omega) ⟨rfl, rfl, rfl, trivial⟩ ⟨by omega, rfl, used_step hd2 hal (by rw [hg] at h0; omega)⟩))))))))))
    · refine L.nil (T.seq (T.cond_false rfl (T.exit rfl (T.seq (T.region (L.op rfl rfl (O.move rfl (L.op rfl rfl (O.assign rfl (L.op rfl rfl (O.assign rfl (L.nil (T.ret2 Tryd.results45 rfl rfl ⟨he2, .inr ⟨used_all (by omega) hal, _, rfl, Words.of_blk hB2 (by simp [masksOf]) hml (by omega)⟩⟩)))))))))))))

end Go.Proofs.YthjdljbghjelfaaDoor
set_option linter.unusedVariables false
set_option linter.unusedSimpArgs false
set_option maxRecDepth 20000
namespace Go.Proofs.YthjdljbghjelfaaDoor
open Go Go.E
attribute [local irreducible] Go.E.T Go.E.L Go.E.O Go.E.Ob

def masksErr (xs : List Int) (k : Int) : Int := if 1 ≤ k ∧ k ≤ 8 then (if labelsOk xs k && allUsed xs k.toNat then 0 else 210) else 2
def masksGot (xs : List Int) (k : Int) : List Nat := if masksErr xs k = 0 then masksOf xs k.toNat else []
/-- What 'Masks' hands back. -/
def MasksPost (xs : List Int) (k : Int) (w : World) (v : Value) (w' : World) : Prop :=
  Ext w w' ∧ ∃ l, v = .tuple #[l, .int .i64 (masksErr xs k)] ∧ Words w.heap.size w' l (masksGot xs k)
theorem MasksPost.bad {xs : List Int} {k : Int} {w : World} {v : Value} {e : Int} (he : masksErr xs k = e) (h0 : e ≠ 0) (hv : v = .tuple #[.slice none 0 0, .int .i64 e]) : MasksPost xs k w v w := by
  refine ⟨Keep.refl _ _, _, by rw [hv, he], ?_⟩
  rw [masksGot, if_neg (by rw [he]; exact h0)]; exact Sl.nil _ _ _
theorem masksErr_arg {xs : List Int} {k : Int} (h : ¬ (1 ≤ k ∧ k ≤ 8)) : masksErr xs k = 2 := by rw [masksErr, if_neg h]
theorem masksErr_bad {xs : List Int} {k : Int} (h : 1 ≤ k ∧ k ≤ 8) (h2 : (labelsOk xs k && allUsed xs k.toNat) = false) : masksErr xs k = 210 := by rw [masksErr, if_pos h, h2]; rfl
theorem masksErr_ok {xs : List Int} {k : Int} (h : 1 ≤ k ∧ k ≤ 8) (h2 : (labelsOk xs k && allUsed xs k.toNat) = true) : masksErr xs k = 0 := by rw [masksErr, if_pos h, h2]; rfl
theorem Masks_calls (lo : Nat) (p : Value) (xs : List Int) (k : Int) (w : World) (hp : Ints .i64 lo w p xs) :
    Calls Tryd.prog 12 #[p, .int .i64 k] w (Ret fun v w' => MasksPost xs k w v w') := by
  refine T.enter (vs := [p, .int .i64 k]) Tryd.func12 rfl Tryd.ntmps12 rfl ?_
  refine T.seq (T.region (L.op rfl rfl (O.assign rfl (L.op rfl rfl (O.assign rfl (L.nil (T.seq (T.seq (T.region (L.op rfl rfl (O.move rfl (L.op rfl rfl (O.lss_s rfl rfl (fun h1 => ?_) (fun h1 => ?_))))))))))))))
  · refine L.op rfl rfl (O.move rfl (L.pass rfl rfl (L.pass rfl rfl (L.op rfl rfl (O.pick_true rfl rfl (L.nil (T.cond_true rfl (T.seq (T.region (L.op rfl rfl (O.assign rfl (L.op rfl rfl (O.assign rfl (L.nil (T.ret2 Tryd.results12 rfl rfl (MasksPost.bad (masksErr_arg (by omega)) (by decide) rfl))))))))))))))))
  · refine L.op rfl rfl (O.move rfl (L.op rfl rfl (O.move rfl (L.op rfl rfl (O.gtr_s rfl rfl (fun h8 => ?_) (fun h8 => ?_))))))
    · refine L.op rfl rfl (O.pick_false rfl rfl (L.nil (T.cond_true rfl (T.seq (T.region (L.op rfl rfl (O.assign rfl (L.op rfl rfl (O.assign rfl (L.nil (T.ret2 Tryd.results12 rfl rfl (MasksPost.bad (masksErr_arg (by omega)) (by decide) rfl))))))))))))
    · refine L.op rfl rfl (O.pick_false rfl rfl (L.nil (T.cond_false rfl (T.skip (T.seq (T.seq (T.region (L.op rfl rfl (O.move rfl (L.op rfl rfl (O.move rfl (L.op rfl rfl (O.call (xs := [.tmp 14, .tmp 15]) Tryd.call44 rfl rfl (labels_calls lo p xs k w hp) (fun v1 w1 hq => ?_))))))))))))))
      obtain ⟨rfl, rfl⟩ := hq
      cases hl : labelsOk xs k
      · refine L.op rfl rfl (O.not rfl (L.nil (T.cond_true rfl (T.seq (T.region (L.op rfl rfl (O.assign rfl (L.op rfl rfl (O.assign rfl (L.nil (T.ret2 Tryd.results12 rfl rfl (MasksPost.bad (masksErr_bad (by omega) (by rw [hl]; rfl)) (by decide) rfl))))))))))))
      · obtain ⟨kk, rfl⟩ : ∃ kk : Nat, k = (kk : Int) := ⟨k.toNat, by omega⟩
        have hm := labels_mem hl
        refine L.op rfl rfl (O.not rfl (L.nil (T.cond_false rfl (T.skip (T.seq (T.region (L.op rfl rfl (O.move rfl (L.op rfl rfl (O.move rfl (L.op rfl rfl (O.call (xs := [.tmp 19, .tmp 20]) Tryd.call45 rfl rfl (parts_calls lo p xs kk w1 hp (by omega) hm.2.1 hm.2.2) (fun v2 w2 hq => ?_)))))))))))))
        obtain ⟨he2, hq2⟩ := hq
        rcases hq2 with ⟨ha, rfl⟩ | ⟨ha, l, rfl, hW⟩
        · refine L.op rfl rfl (O.move rfl (L.op rfl rfl (O.extract rfl rfl (L.op rfl rfl (O.extract rfl rfl (L.op rfl rfl (O.assign rfl (L.op rfl rfl (O.assign rfl (L.nil (T.seq (T.seq (T.region (L.op rfl rfl (O.move rfl (L.op rfl rfl (O.not rfl (L.nil (T.cond_true rfl (T.seq (T.region (L.op rfl rfl (O.assign rfl (L.op rfl rfl (O.assign rfl (L.nil (T.ret2 Tryd.results12 rfl rfl ⟨he2, ?_⟩)))))))))))))))))))))))))))
          have e := masksErr_bad (xs := xs) (k := (kk : Int)) (by omega) (by rw [hl]; simpa using ha)
          rw [masksGot, e]
          exact ⟨_, rfl, Sl.nil _ _ _⟩
        · refine L.op rfl rfl (O.move rfl (L.op rfl rfl (O.extract rfl rfl (L.op rfl rfl (O.extract rfl rfl (L.op rfl rfl (O.assign rfl (L.op rfl rfl (O.assign rfl (L.nil (T.seq (T.seq (T.region (L.op rfl rfl (O.move rfl (L.op rfl rfl (O.not rfl (L.nil (T.cond_false rfl (T.skip (T.seq (T.region (L.op rfl rfl (O.move rfl (L.op rfl rfl (O.assign rfl (L.op rfl rfl (O.assign rfl (L.nil (T.ret2 Tryd.results12 rfl rfl ⟨he2, ?_⟩))))))))))))))))))))))))))))))
          have e := masksErr_ok (xs := xs) (k := (kk : Int)) (by omega) (by rw [hl]; simpa using ha)
          rw [masksGot, e, if_pos rfl]
          exact ⟨_, rfl, hW⟩

theorem RMasks_calls (lo : Nat) (p : Value) (xs : List Int) (k : Int) (w : World) (hp : Ints .i64 lo w p xs) :
    Calls Tryd.prog 13 #[p, .int .i64 k] w (Ret fun v w' => MasksPost xs k w v w') := by
  refine T.enter (vs := [p, .int .i64 k]) Tryd.func13 rfl Tryd.ntmps13 rfl ?_
  refine T.seq (T.region (L.op rfl rfl (O.assign rfl (L.op rfl rfl (O.assign rfl (L.nil (T.seq (T.seq (T.region (L.op rfl rfl (O.move rfl (L.op rfl rfl (O.lss_s rfl rfl (fun h1 => ?_) (fun h1 => ?_))))))))))))))
  · refine L.op rfl rfl (O.move rfl (L.pass rfl rfl (L.pass rfl rfl (L.op rfl rfl (O.pick_true rfl rfl (L.nil (T.cond_true rfl (T.seq (T.region (L.op rfl rfl (O.assign rfl (L.op rfl rfl (O.assign rfl (L.nil (T.ret2 Tryd.results13 rfl rfl (MasksPost.bad (masksErr_arg (by omega)) (by decide) rfl))))))))))))))))
  · refine L.op rfl rfl (O.move rfl (L.op rfl rfl (O.move rfl (L.op rfl rfl (O.gtr_s rfl rfl (fun h8 => ?_) (fun h8 => ?_))))))
    · refine L.op rfl rfl (O.pick_false rfl rfl (L.nil (T.cond_true rfl (T.seq (T.region (L.op rfl rfl (O.assign rfl (L.op rfl rfl (O.assign rfl (L.nil (T.ret2 Tryd.results13 rfl rfl (MasksPost.bad (masksErr_arg (by omega)) (by decide) rfl))))))))))))
    · refine L.op rfl rfl (O.pick_false rfl rfl (L.nil (T.cond_false rfl (T.skip (T.seq (T.seq (T.region (L.op rfl rfl (O.move rfl (L.op rfl rfl (O.move rfl (L.op rfl rfl (O.call (xs := [.tmp 14, .tmp 15]) Tryd.call46 rfl rfl (RLabels_calls lo p xs k w hp) (fun v1 w1 hq => ?_))))))))))))))
      obtain ⟨rfl, rfl⟩ := hq
      cases hl : labelsOk xs k
      · refine L.op rfl rfl (O.not rfl (L.op rfl rfl (O.move rfl (L.pass rfl rfl (L.pass rfl rfl (L.pass rfl rfl (L.pass rfl rfl (L.op rfl rfl (O.pick_true rfl rfl (L.nil (T.cond_true rfl (T.seq (T.region (L.op rfl rfl (O.assign rfl (L.op rfl rfl (O.assign rfl (L.nil (T.ret2 Tryd.results13 rfl rfl (MasksPost.bad (masksErr_bad (by omega) (by rw [hl]; rfl)) (by decide) rfl))))))))))))))))))))
      · obtain ⟨kk, rfl⟩ : ∃ kk : Nat, k = (kk : Int) := ⟨k.toNat, by omega⟩
        have hm := labels_mem hl
        refine L.op rfl rfl (O.not rfl (L.op rfl rfl (O.move rfl (L.op rfl rfl (O.move rfl (L.op rfl rfl (O.move rfl (L.op rfl rfl (O.call (xs := [.tmp 19, .tmp 20]) Tryd.call47 rfl rfl (Rall_calls lo p xs kk w1 hp (by omega)) (fun v2 w2 hq => ?_))))))))))
        obtain ⟨rfl, rfl⟩ := hq
        cases ha : allUsed xs kk
        · refine L.op rfl rfl (O.not rfl (L.op rfl rfl (O.pick_false rfl rfl (L.nil (T.cond_true rfl (T.seq (T.region (L.op rfl rfl (O.assign rfl (L.op rfl rfl (O.assign rfl (L.nil (T.ret2 Tryd.results13 rfl rfl (MasksPost.bad (masksErr_bad (by omega) (by rw [hl]; simpa using ha)) (by decide) rfl))))))))))))))
        · refine L.op rfl rfl (O.not rfl (L.op rfl rfl (O.pick_false rfl rfl (L.nil (T.cond_false rfl (T.skip (T.seq (T.region (L.op rfl rfl (O.assign rfl (L.nil (T.seq (T.seq (T.region (L.op rfl rfl (O.assign rfl (L.nil (T.block (?_)))))))))))))))))))
          refine T.loop (σ := Nat × Value) (fun s => [(0, p), (1, .int .i64 kk), (6, s.2), (7, .int .i64 s.1)]) (fun s w' => s.1 ≤ kk ∧ Ext w2 w' ∧ w'.ownsRow w2.heap.size 46 1 s.2 s.1 (((masksOf xs kk).take s.1).map wordV)) (fun s => kk - s.1) ((0, .slice none 0 0)) ⟨rfl, rfl, rfl, rfl, trivial⟩ ⟨Nat.zero_le _, Keep.refl _ _, ⟨by simp, .inl ⟨rfl, rfl⟩⟩⟩ ?_
          rintro ⟨i, l⟩ w3 ⟨hi, he, hO⟩
          refine T.seq (T.seq (T.region (L.op rfl rfl (O.move rfl (L.op rfl rfl (O.move rfl (L.op rfl rfl (O.lss_s rfl rfl (fun hlt => ?_) (fun hlt => ?_)))))))))
          · refine L.nil (?_)
            have hlt' : i < kk := by simpa using hlt
            refine T.cond_true rfl (T.skip (T.seq (T.block (T.region (L.op rfl rfl (O.move rfl (L.op rfl rfl (O.move rfl (L.op rfl rfl (O.move rfl (L.op rfl rfl (O.call (xs := [.tmp 30, .tmp 31]) Tryd.call48 rfl rfl (RMask_calls lo p xs i w3 (hp.keep (he.mono (Nat.zero_le _)))) (fun v4 w4 hq => ?_)))))))))))))
            obtain ⟨rfl, rfl⟩ := hq
            refine L.op rfl rfl (O.buildSlice (el := 46) (parts := [(0, .tmp 32)]) (vs := [(0, _)]) (cs := [wordV (mask xs i)]) rfl (fun w => by kernel_rfl) (fun b5 w5 hb5 hz5 he5 hB5 => ?_))
            refine L.op rfl rfl (O.append (size := 1) (bytes := 8) Tryd.runUnderlying38 Tryd.infoOf46 rfl rfl rfl rfl (by decide) rfl rfl (owns_keep hO he5 (Nat.zero_le _)) (Sl.of_blk (lo := 0) hB5 rfl (Nat.le_refl _) (by decide) (Nat.zero_le _)) (by intro c hc; simp at hc; simp [hc, wordV, Value.oneCell']) (by simp only at hi; omega) (by simp only [maxLen]; simp only at hi; omega) (Nat.le_trans he.size he5.size) (fun v6 w6 hO6 hG6 => ?_))
            refine L.op rfl rfl (O.assign rfl (L.nil (T.blk (T.region (L.op rfl rfl (O.move rfl (L.op rfl rfl (O.add64 rfl rfl (by omega) (L.op rfl rfl (O.assign rfl (L.nil (T.again ((i + 1, v6)) (by omega) ⟨rfl, rfl, rfl, rfl, trivial⟩ ⟨hlt', (he.trans he5).grown0 hO hG6 (Nat.le_refl _), ?_⟩))))))))))))
            · show w6.ownsRow _ _ _ _ _ _
              have e := List.take_succ_eq_append_getElem (l := masksOf xs kk) (i := i) (by simpa [masksOf] using hlt')
              rw [e]
              simpa [masksOf, wordV] using hO6
          · refine L.nil (T.cond_false rfl (T.exit rfl (T.seq (T.region (L.op rfl rfl (O.move rfl (L.op rfl rfl (O.assign rfl (L.op rfl rfl (O.assign rfl (L.nil (T.ret2 Tryd.results13 rfl rfl ⟨he, ?_⟩))))))))))))
            have e := masksErr_ok (xs := xs) (k := (kk : Int)) (by omega) (by rw [hl]; simpa using ha)
            rw [masksGot, e, if_pos rfl]
            have : i = kk := by simp only at hi hlt; omega
            subst this
            have hs := Sl.of_owns hO
            have e2 : ((masksOf xs i).take i) = masksOf xs i := List.take_of_length_le (by simp [masksOf])
            simp only [e2] at hs
            refine ⟨_, rfl, ?_⟩
            unfold Words
            rw [Int.toNat_natCast, show (masksOf xs i).length = i by simp [masksOf]]
            exact hs

end Go.Proofs.YthjdljbghjelfaaDoor
set_option linter.unusedVariables false
set_option linter.unusedSimpArgs false
set_option maxRecDepth 20000
namespace Go.Proofs.YthjdljbghjelfaaDoor
open Go Go.E
attribute [local irreducible] Go.E.T Go.E.L Go.E.O Go.E.Ob

def cmpI (x y : Int) : Int := if x < y then -1 else if y < x then 1 else 0
def cmpL : List Int → List Int → Int
  | [], [] => 0
  | [], _ :: _ => -1
  | _ :: _, [] => 1
  | x :: xs, y :: ys => if cmpI x y = 0 then cmpL xs ys else cmpI x y
theorem drop_get {xs : List Int} {i : Nat} (h : i < xs.length) : xs.drop i = xs.getD i 0 :: xs.drop (i + 1) := by
  rw [getD_get h]; exact List.drop_eq_getElem_cons h
/-- Edges, as the cells of a slice of pairs. -/
def cellsOf : List (Int × Int) → List Value
  | [] => []
  | q :: r => .int .i64 q.1 :: .int .i64 q.2 :: cellsOf r
theorem cellsOf_len : ∀ es, (cellsOf es).length = es.length * 2
  | [] => rfl
  | q :: r => by simp [cellsOf, cellsOf_len r]; omega
theorem cellsOf_fst : ∀ (es : List (Int × Int)) (i : Nat), i < es.length → (cellsOf es)[i * 2]? = some (.int .i64 (es.getD i (0, 0)).1)
  | q :: r, 0, _ => rfl
  | q :: r, i + 1, h => by
    rw [show (i + 1) * 2 = i * 2 + 2 by omega]
    simpa [cellsOf] using cellsOf_fst r i (by simpa using h)
theorem cellsOf_snd : ∀ (es : List (Int × Int)) (i : Nat), i < es.length → (cellsOf es)[i * 2 + 1]? = some (.int .i64 (es.getD i (0, 0)).2)
  | q :: r, 0, _ => rfl
  | q :: r, i + 1, h => by
    rw [show (i + 1) * 2 + 1 = i * 2 + 1 + 2 by omega]
    simpa [cellsOf] using cellsOf_snd r i (by simpa using h)
def Pairs (lo : Nat) (w : World) (v : Value) (es : List (Int × Int)) : Prop := Sl lo w v es.length 2 (cellsOf es)
theorem Pairs.keep {w w' : World} {v : Value} {lo : Nat} {es : List (Int × Int)} (h : Pairs lo w v es) (hk : Keep lo w w') : Pairs lo w' v es := Sl.keep h hk
theorem Pairs.mono {w : World} {v : Value} {lo lo' : Nat} {es : List (Int × Int)} (h : Pairs lo w v es) (hl : lo' ≤ lo) : Pairs lo' w v es := Sl.mono h hl
theorem Pairs.row {w : World} {v : Value} {lo : Nat} {es : List (Int × Int)} (h : Pairs lo w v es) {i : Nat} (hi : i < es.length) : Row w ((sAddr v).add ((i : Int).toNat * 2)) [.int .i64 (es.getD i (0, 0)).1, .int .i64 (es.getD i (0, 0)).2] := by
  intro j u hj
  rcases j with _ | _ | j
  · simp only [List.getElem?_cons_zero, Option.some.injEq] at hj; subst hj
    exact Sl.at h (cellsOf_fst es i hi)
  · simp only [Nat.zero_add, List.getElem?_cons_succ, List.getElem?_cons_zero, Option.some.injEq] at hj; subst hj
    exact Sl.at h (cellsOf_snd es i hi)
  · simp at hj
theorem Pairs.at0 {w : World} {v : Value} {lo : Nat} {es : List (Int × Int)} (h : Pairs lo w v es) {i : Nat} (hi : i < es.length) : w.cell? (((sAddr v).add ((i : Int).toNat * 2)).add ((0 : Int).toNat * 1)) = some (.int .i64 (es.getD i (0, 0)).1) := Sl.at h (cellsOf_fst es i hi)
theorem Pairs.at1 {w : World} {v : Value} {lo : Nat} {es : List (Int × Int)} (h : Pairs lo w v es) {i : Nat} (hi : i < es.length) : w.cell? (((sAddr v).add ((i : Int).toNat * 2)).add ((1 : Int).toNat * 1)) = some (.int .i64 (es.getD i (0, 0)).2) := Sl.at h (cellsOf_snd es i hi)
theorem Pairs.at0' {w : World} {v : Value} {lo : Nat} {es : List (Int × Int)} (h : Pairs lo w v es) {m : Int} {i : Nat} (hm : m = i) (hi : i < es.length) : w.cell? (((sAddr v).add (m.toNat * 2)).add ((0 : Int).toNat * 1)) = some (.int .i64 (es.getD i (0, 0)).1) := by subst hm; exact h.at0 hi
theorem Pairs.at1' {w : World} {v : Value} {lo : Nat} {es : List (Int × Int)} (h : Pairs lo w v es) {m : Int} {i : Nat} (hm : m = i) (hi : i < es.length) : w.cell? (((sAddr v).add (m.toNat * 2)).add ((1 : Int).toNat * 1)) = some (.int .i64 (es.getD i (0, 0)).2) := by subst hm; exact h.at1 hi
def edgeOk (N : Int) (p q : Int × Int) : Bool := decide (0 ≤ q.1) && (decide (q.1 < q.2) && (decide (q.2 < N) && decide (p.1 < q.1 ∨ p.1 = q.1 ∧ p.2 < q.2)))
def edgesOk (N : Int) : Int × Int → List (Int × Int) → Bool
  | _, [] => true
  | p, q :: r => edgeOk N p q && edgesOk N q r
def graphErr (N : Int) (es : List (Int × Int)) : Int := if 1 ≤ N ∧ N ≤ 64 ∧ es.length ≤ 200 ∧ edgesOk N (-1, -1) es = true then 0 else 180
def gV (N : Int) (v : Value) : Value := .agg #[.int .i64 N, v]
/-- The edge ahead of edge i. -/
def before (es : List (Int × Int)) : Nat → Int × Int
  | 0 => (-1, -1)
  | i + 1 => es.getD i (0, 0)
theorem edgesOk_step {N : Int} {es : List (Int × Int)} {i : Nat} (h : i < es.length) : edgesOk N (before es i) (es.drop i) = (edgeOk N (before es i) (es.getD i (0, 0)) && edgesOk N (before es (i + 1)) (es.drop (i + 1))) := by
  have e : es.drop i = es.getD i (0, 0) :: es.drop (i + 1) := by rw [getD_get h]; exact List.drop_eq_getElem_cons h
  rw [e]; rfl
theorem cmpL_two (a b c d : Int) : ¬ 0 ≤ cmpL [a, b] [c, d] ↔ (a < c ∨ a = c ∧ b < d) := by
  simp only [cmpL, cmpI]
  repeat' split <;> simp_all <;> omega
theorem isNaN_calls (x : Int) (w : World) :
    Calls Tryd.prog 84 #[.int .i64 x] w (Ret fun v w' => v = .bool false ∧ w' = w) := by
  refine T.enter (vs := [.int .i64 x]) Tryd.func84 rfl Tryd.ntmps84 rfl ?_
  refine T.seq (T.region (L.op rfl rfl (O.assign rfl (L.nil (T.seq (T.region (L.op rfl rfl (O.move rfl (L.op rfl rfl (O.move rfl (L.op rfl rfl (O.neq_f rfl rfl (by simp) (L.op rfl rfl (O.assign rfl (L.nil (T.ret1 Tryd.results84 rfl ⟨rfl, rfl⟩))))))))))))))))

theorem cmp_calls (x y : Int) (w : World) :
    Calls Tryd.prog 79 #[.int .i64 x, .int .i64 y] w (Ret fun v w' => v = .int .i64 (cmpI x y) ∧ w' = w) := by
  refine T.enter (vs := [.int .i64 x, .int .i64 y]) Tryd.func79 rfl Tryd.ntmps79 rfl ?_
  refine T.seq (T.region (L.op rfl rfl (O.assign rfl (L.nil (T.seq (T.region (L.op rfl rfl (O.move rfl (L.op rfl rfl (O.call (xs := [.tmp 7]) Tryd.call84 rfl rfl (isNaN_calls x w) (fun v1 w1 hq => ?_)))))))))))
  obtain ⟨rfl, rfl⟩ := hq
  refine L.op rfl rfl (O.assign rfl (L.nil (T.seq (T.region (L.op rfl rfl (O.move rfl (L.op rfl rfl (O.call (xs := [.tmp 9]) Tryd.call84 rfl rfl (isNaN_calls y w1) (fun v2 w2 hq => ?_)))))))))
  obtain ⟨rfl, rfl⟩ := hq
  refine L.op rfl rfl (O.assign rfl (L.nil (T.seq (T.seq (T.region (L.op rfl rfl (O.move rfl (L.nil (T.cond_false rfl (T.skip (T.seq (T.seq (T.region (L.op rfl rfl (O.move rfl (L.nil (T.cond_false rfl (T.skip (T.seq (T.seq (T.region (L.op rfl rfl (O.move rfl (L.op rfl rfl (O.move rfl (L.op rfl rfl (O.lss_s rfl rfl (fun h1 => ?_) (fun h1 => ?_))))))))))))))))))))))))))))
  · refine L.nil (T.cond_true rfl (T.seq (T.region (L.op rfl rfl (O.assign rfl (L.nil (T.ret1 Tryd.results79 rfl ⟨by rw [cmpI, if_pos h1], rfl⟩)))))))
  · refine L.nil (T.cond_false rfl (T.skip (T.seq (T.seq (T.region (L.op rfl rfl (O.move rfl (L.op rfl rfl (O.move rfl (L.op rfl rfl (O.gtr_s rfl rfl (fun h2 => ?_) (fun h2 => ?_))))))))))))
    · refine L.nil (T.cond_true rfl (T.seq (T.region (L.op rfl rfl (O.assign rfl (L.nil (T.ret1 Tryd.results79 rfl ⟨by rw [cmpI, if_neg h1, if_pos h2], rfl⟩)))))))
    · refine L.nil (T.cond_false rfl (T.skip (T.seq (T.region (L.op rfl rfl (O.assign rfl (L.nil (T.ret1 Tryd.results79 rfl ⟨by rw [cmpI, if_neg h1, if_neg h2], rfl⟩))))))))

theorem scmp_calls (lo lo' : Nat) (p q : Value) (xs ys : List Int) (w : World) (hp : Ints .i64 lo w p xs) (hq : Ints .i64 lo' w q ys) :
    Calls Tryd.prog 73 #[p, q] w (Ret fun v w' => v = .int .i64 (cmpL xs ys) ∧ w' = w) := by
  have hle := Sl.le hp
  have hle' := Sl.le hq
  refine T.enter (vs := [p, q]) Tryd.func73 rfl Tryd.ntmps73 rfl ?_
  refine T.seq (T.region (L.op rfl rfl (O.assign rfl (L.nil (T.seq (T.seq (T.region (L.op rfl rfl (O.move rfl (L.op rfl rfl (O.len Tryd.runUnderlying34 rfl (Sl.val hp) (L.op rfl rfl (O.move rfl (L.nil (T.block (?_))))))))))))))))
  refine T.loop (σ := Nat) (fun i => [(0, p), (1, q), (9, p), (10, .int .i64 xs.length), (11, .int .i64 i)]) (fun i w' => i ≤ xs.length ∧ i ≤ ys.length ∧ w' = w ∧ cmpL xs ys = cmpL (xs.drop i) (ys.drop i)) (fun i => xs.length - i) (0) ⟨rfl, rfl, rfl, rfl, rfl, trivial⟩ ⟨Nat.zero_le _, Nat.zero_le _, rfl, rfl⟩ ?_
  rintro i w' ⟨hi, hi', rfl, hc⟩
  refine T.seq (T.region (L.op rfl rfl (O.lss_s rfl rfl (fun hlt => ?_) (fun hlt => ?_))))
  · refine L.nil (?_)
    have hlt' : i < xs.length := by omega
    refine T.seq (T.cond_true rfl (T.skip (T.seq (T.block (T.seq (T.region (L.op rfl rfl (O.move rfl (L.op rfl rfl (O.indexAddr Tryd.runUnderlying34 Tryd.sizeOf3 rfl rfl hp (by omega) (by omega) (L.op rfl rfl (O.load Tryd.isAgg3 rfl (Ints.at hp hlt') (L.op rfl rfl (O.assign rfl (L.op rfl rfl (O.assign rfl (L.nil (T.seq (T.seq (T.region (L.op rfl rfl (O.move rfl (L.op rfl rfl (O.move rfl (L.op rfl rfl (O.len Tryd.runUnderlying34 rfl (Sl.val hq) (L.op rfl rfl (O.geq_s rfl rfl (fun h1 => ?_) (fun h1 => ?_)))))))))))))))))))))))))))))
    · refine L.nil (T.cond_true rfl (T.seq (T.region (L.op rfl rfl (O.assign rfl (L.nil (T.ret1 Tryd.results73 rfl ⟨by rw [hc, drop_get hlt', List.drop_of_length_le (l := ys) (by omega)]; rfl, rfl⟩)))))))
    · refine L.nil (?_)
      have hlq : i < ys.length := by omega
      refine T.cond_false rfl (T.skip (T.seq (T.region (L.op rfl rfl (O.move rfl (L.op rfl rfl (O.move rfl (L.op rfl rfl (O.indexAddr Tryd.runUnderlying34 Tryd.sizeOf3 rfl rfl hq (by omega) (by omega) (L.op rfl rfl (O.load Tryd.isAgg3 rfl (Ints.at hq hlq) (L.op rfl rfl (O.assign rfl (L.nil (T.seq (T.region (L.op rfl rfl (O.move rfl (L.op rfl rfl (O.move rfl (L.op rfl rfl (O.call (xs := [.tmp 24, .tmp 25]) Tryd.call79 rfl rfl (cmp_calls (xs.getD i 0) (ys.getD i 0) w') (fun v1 w1 hq => ?_)))))))))))))))))))))))
      obtain ⟨rfl, rfl⟩ := hq
      have hc' := hc
      rw [drop_get hlt', drop_get hlq, cmpL] at hc'
      refine L.op rfl rfl (O.assign rfl (L.nil (T.seq (T.region (L.op rfl rfl (O.move rfl (L.op rfl rfl (O.neq_s rfl rfl (fun h2 => ?_) (fun h2 => ?_)))))))))
      · refine L.nil (T.cond_true rfl (T.seq (T.region (L.op rfl rfl (O.move rfl (L.op rfl rfl (O.assign rfl (L.nil (T.ret1 Tryd.results73 rfl ⟨by rw [hc', if_neg h2], rfl⟩)))))))))
      · refine L.nil (T.cond_false rfl (T.skip (T.blk (T.region (L.op rfl rfl (O.add64 rfl rfl (by omega) (L.op rfl rfl (O.move rfl (L.nil (T.again (i + 1) (by omega) ⟨rfl, rfl, rfl, rfl, rfl, trivial⟩ ⟨by omega, by omega, rfl, by rw [hc', if_pos h2]⟩))))))))))
  · refine L.nil (?_)
    have hix : i = xs.length := by omega
    refine T.seq (T.cond_false rfl (T.exit rfl (T.seq (T.seq (T.region (L.op rfl rfl (O.move rfl (L.op rfl rfl (O.len Tryd.runUnderlying34 rfl (Sl.val hp) (L.op rfl rfl (O.move rfl (L.op rfl rfl (O.len Tryd.runUnderlying34 rfl (Sl.val hq) (L.op rfl rfl (O.lss_s rfl rfl (fun h3 => ?_) (fun h3 => ?_))))))))))))))))
    · refine L.nil (T.cond_true rfl (T.seq (T.region (L.op rfl rfl (O.assign rfl (L.nil (T.ret1 Tryd.results73 rfl ⟨by rw [hc, List.drop_of_length_le (by omega), drop_get (show i < ys.length by omega)]; rfl, rfl⟩)))))))
    · refine L.nil (T.cond_false rfl (T.skip (T.seq (T.region (L.op rfl rfl (O.assign rfl (L.nil (T.ret1 Tryd.results73 rfl ⟨by rw [hc, List.drop_of_length_le (by omega), List.drop_of_length_le (by omega)]; rfl, rfl⟩))))))))

theorem gCheck_calls (lo : Nat) (N : Int) (p : Value) (es : List (Int × Int)) (w : World) (hp : Pairs lo w p es) :
    Calls Tryd.prog 68 #[gV N p] w (Ret fun v w' => v = .int .i64 (graphErr N es) ∧ Ext w w') := by
  have hle := Sl.le hp
  refine T.enter (vs := [gV N p]) Tryd.func68 rfl Tryd.ntmps68 rfl ?_
  refine T.seq (T.region (L.op rfl rfl (O.box rfl (fun b1 w1 hb1 hz1 he1 hB1 => ?_))))
  have hp1 := hp.keep (he1.mono (Nat.zero_le lo))
  refine L.op rfl rfl (O.assign rfl (L.nil (T.seq (T.seq (T.region (L.op rfl rfl (O.fieldAddr Tryd.runUnderlying33 rfl Tryd.sizeOf3 rfl (L.op rfl rfl (O.load Tryd.isAgg3 rfl (Blk.at hB1 rfl) (L.op rfl rfl (O.lss_s rfl rfl (fun hn1 => ?_) (fun hn1 => ?_))))))))))))
  · refine L.op rfl rfl (O.move rfl (L.pass rfl rfl (L.pass rfl rfl (L.pass rfl rfl (L.op rfl rfl (O.pick_true rfl rfl (L.op rfl rfl (O.move rfl (L.pass rfl rfl (L.pass rfl rfl (L.pass rfl rfl (L.pass rfl rfl (L.op rfl rfl (O.pick_true rfl rfl (L.nil (T.cond_true rfl (T.seq (T.region (L.op rfl rfl (O.assign rfl (L.nil (T.ret1 Tryd.results68 rfl ⟨by rw [graphErr, if_neg (by omega)], he1⟩))))))))))))))))))))))
  · refine L.op rfl rfl (O.move rfl (L.op rfl rfl (O.fieldAddr Tryd.runUnderlying33 rfl Tryd.sizeOf3 rfl (L.op rfl rfl (O.load Tryd.isAgg3 rfl (Blk.at hB1 rfl) (L.op rfl rfl (O.gtr_s rfl rfl (fun hn2 => ?_) (fun hn2 => ?_))))))))
    · refine L.op rfl rfl (O.pick_false rfl rfl (L.op rfl rfl (O.move rfl (L.pass rfl rfl (L.pass rfl rfl (L.pass rfl rfl (L.pass rfl rfl (L.op rfl rfl (O.pick_true rfl rfl (L.nil (T.cond_true rfl (T.seq (T.region (L.op rfl rfl (O.assign rfl (L.nil (T.ret1 Tryd.results68 rfl ⟨by rw [graphErr, if_neg (by omega)], he1⟩)))))))))))))))))
    · refine L.op rfl rfl (O.pick_false rfl rfl (L.op rfl rfl (O.move rfl (L.op rfl rfl (O.fieldAddr Tryd.runUnderlying33 rfl Tryd.sizeOf31 rfl (L.op rfl rfl (O.load Tryd.isAgg31 rfl (Blk.at hB1 rfl) (L.op rfl rfl (O.len Tryd.runUnderlying31 rfl (Sl.val hp1) (L.op rfl rfl (O.gtr_s rfl rfl (fun hn3 => ?_) (fun hn3 => ?_))))))))))))
      · refine L.op rfl rfl (O.pick_false rfl rfl (L.nil (T.cond_true rfl (T.seq (T.region (L.op rfl rfl (O.assign rfl (L.nil (T.ret1 Tryd.results68 rfl ⟨by rw [graphErr, if_neg (by omega)], he1⟩)))))))))
      · refine L.op rfl rfl (O.pick_false rfl rfl (L.nil (T.cond_false rfl (T.skip (T.seq (T.region (L.op rfl rfl (O.build (v := .agg #[.int .i64 (-1), .int .i64 (-1)]) (parts := [(0, .const (.int .i64 (-1))), (1, .const (.int .i64 (-1)))]) (vs := [(0, _), (1, _)]) rfl (fun w => by kernel_rfl) (L.op rfl rfl (O.alloc Tryd.zeroValue80 (fun b2 w2 hb2 hz2 he2 hB2 => ?_)))))))))))
        refine L.op rfl rfl (O.storeAgg Tryd.sizeOf80 rfl rfl rfl hB2 (Nat.le_refl _) (by simp [Value.oneCell']) (fun w3 hu3 hB3 => ?_))
        have hB3' : Blk w3 b2 [.int .i64 (-1), .int .i64 (-1)] 80 := hB3
        refine L.nil (T.seq (T.seq (T.region (L.op rfl rfl (O.fieldAddr Tryd.runUnderlying33 rfl Tryd.sizeOf31 rfl (L.op rfl rfl (O.load Tryd.isAgg31 rfl (Blk.at (hB1.keep (lo := 0) (he2.upd hu3 (.inr (by omega))) (Nat.zero_le _)) rfl) (?_))))))))
        have he3 : Ext w w3 := (he1.trans he2).upd hu3 (.inr (by omega))
        have hB1' := hB1.keep (lo := 0) (he2.upd hu3 (.inr (by omega))) (Nat.zero_le _)
        refine L.op rfl rfl (O.len Tryd.runUnderlying31 rfl (Sl.val hp1) (L.op rfl rfl (O.move rfl (L.nil (T.block (?_))))))
        refine T.loop (σ := Nat) (fun i => [(1, .pointer (some ⟨b1, 0, none⟩)), (3, .pointer (some ⟨b2, 0, none⟩)), (22, p), (23, .int .i64 es.length), (24, .int .i64 i)]) (fun i w' => i ≤ es.length ∧ Ext w w' ∧ (w.heap.size ≤ b2 ∧ b1 < b2) ∧ Blk w' b1 [.int .i64 N, p] 33 ∧ Blk w' b2 [.int .i64 (before es i).1, .int .i64 (before es i).2] 80 ∧ edgesOk N (-1, -1) es = edgesOk N (before es i) (es.drop i)) (fun i => es.length - i) (0) ⟨rfl, rfl, rfl, rfl, rfl, trivial⟩ ⟨Nat.zero_le _, he3, (by omega), hB1', hB3', rfl⟩ ?_
        rintro i w4 ⟨hi, he4, hb12, hBg, hBp, hok⟩
        refine T.seq (T.region (L.op rfl rfl (O.lss_s rfl rfl (fun hlt => ?_) (fun hlt => ?_))))
        · refine L.nil (?_)
          have hlt' : i < es.length := by omega
          have hp4 := hp.keep (he4.mono (Nat.zero_le lo))
          refine T.seq (T.cond_true rfl (T.skip (T.seq (T.block (T.seq (T.region (L.op rfl rfl (O.indexAddr Tryd.runUnderlying31 Tryd.sizeOf80 rfl rfl hp4 (by omega) (by omega) (L.op rfl rfl (O.loadAgg Tryd.isAgg80 Tryd.sizeOf80 rfl rfl (Pairs.row hp4 hlt') (L.op rfl rfl (O.alloc Tryd.zeroValue80 (fun b5 w5 hb5 hz5 he5 hB5 => ?_)))))))))))))
          refine L.op rfl rfl (O.storeAgg Tryd.sizeOf80 rfl rfl rfl hB5 (Nat.le_refl _) (by simp [Value.oneCell']) (fun w6 hu6 hB6 => ?_))
          have hB6' : Blk w6 b5 [.int .i64 (es.getD i (0, 0)).1, .int .i64 (es.getD i (0, 0)).2] 80 := hB6
          have he56 : Ext w4 w6 := he5.upd hu6 (.inr (by omega))
          have hBg6 := hBg.keep he56 (Nat.zero_le _)
          have hBp6 := hBp.keep he56 (Nat.zero_le _)
          have he6 := he4.trans he56
          by_cases h1 : (es.getD i (0, 0)).1 < 0
          · refine L.nil (T.seq (T.seq (?_)))
            refine T.par mixed 23 [5, 1, 3] rfl [.is _, .is _, .is _, .is _, .is undef, .is undef, .is undef, .is undef, .is undef, .is _, .is _, .is undef, .is undef, .is undef, .is undef, .is undef, .is _, .is _, .is undef, .is undef, .is undef, .is undef, .is _] [[], [0], [1], [2], [3], [4, 3], [3], [6, 3], [5, 7, 3], [3, 8], [9], [10], [11, 10], [10], [13, 10], [12, 14, 10], [10, 15], [16], [17], [17], [18, 19, 17], [20, 17], [17, 21]] (by kernel_rfl) rfl ⟨trivial, trivial, trivial, trivial, trivial, trivial, trivial, trivial, trivial, trivial, trivial, trivial, trivial, trivial, trivial, trivial, trivial, trivial, trivial, trivial, trivial, trivial, trivial, trivial⟩ ⟨fun wx hx => Ob.op rfl (O.indexAddr_arr Tryd.runUnderlying80 Tryd.sizeOf3 rfl rfl (by decide) (by decide) ⟨Keep.refl _ _, rfl⟩),
                fun wx hx => Ob.op rfl (O.load Tryd.isAgg3 rfl (Blk.at (hB6'.keep hx (Nat.zero_le _)) rfl) ⟨Keep.refl _ _, rfl⟩),
                fun wx hx => Ob.op rfl (O.lss_t rfl rfl h1 ⟨Keep.refl _ _, rfl⟩),
                fun wx hx => Ob.op rfl (O.move rfl ⟨Keep.refl _ _, rfl⟩),
                fun wx hx => Ob.pass rfl rfl,
                fun wx hx => Ob.pass rfl rfl,
                fun wx hx => Ob.pass rfl rfl,
                fun wx hx => Ob.pass rfl rfl,
                fun wx hx => Ob.pass rfl rfl,
                fun wx hx => Ob.op rfl (O.pick_true rfl rfl ⟨Keep.refl _ _, rfl⟩),
                fun wx hx => Ob.op rfl (O.move rfl ⟨Keep.refl _ _, rfl⟩),
                fun wx hx => Ob.pass rfl rfl,
                fun wx hx => Ob.pass rfl rfl,
                fun wx hx => Ob.pass rfl rfl,
                fun wx hx => Ob.pass rfl rfl,
                fun wx hx => Ob.pass rfl rfl,
                fun wx hx => Ob.op rfl (O.pick_true rfl rfl ⟨Keep.refl _ _, rfl⟩),
                fun wx hx => Ob.op rfl (O.move rfl ⟨Keep.refl _ _, rfl⟩),
                fun wx hx => Ob.pass rfl rfl,
                fun wx hx => Ob.pass rfl rfl,
                fun wx hx => Ob.pass rfl rfl,
                fun wx hx => Ob.pass rfl rfl,
                fun wx hx => Ob.op rfl (O.pick_true rfl rfl ⟨Keep.refl _ _, rfl⟩),
                trivial⟩ (fun w7 he7 => ?_)
            refine L.nil (T.cond_true rfl (T.seq (T.region (L.op rfl rfl (O.assign rfl (L.nil (T.ret1 Tryd.results68 rfl ⟨?_, he6.trans he7⟩)))))))
            rw [graphErr, if_neg]
            intro h
            rw [hok, edgesOk_step hlt'] at h
            have h5 := h.2.2.2
            simp only [edgeOk, Bool.and_eq_true, decide_eq_true_eq] at h5
            omega
          · refine L.nil (?_)
            by_cases h2 : (es.getD i (0, 0)).2 ≤ (es.getD i (0, 0)).1
            · refine T.seq (T.seq (?_))
              refine T.par mixed 23 [5, 1, 3] rfl [.is _, .is _, .is _, .is _, .is _, .is _, .is _, .is _, .is _, .is _, .is _, .is undef, .is undef, .is undef, .is undef, .is undef, .is _, .is _, .is undef, .is undef, .is undef, .is undef, .is _] [[], [0], [1], [2], [3], [4, 3], [3], [6, 3], [5, 7, 3], [3, 8], [9], [10], [11, 10], [10], [13, 10], [12, 14, 10], [10, 15], [16], [17], [17], [18, 19, 17], [20, 17], [17, 21]] (by kernel_rfl) rfl ⟨trivial, trivial, trivial, trivial, trivial, trivial, trivial, trivial, trivial, trivial, trivial, trivial, trivial, trivial, trivial, trivial, trivial, trivial, trivial, trivial, trivial, trivial, trivial, trivial⟩ ⟨fun wx hx => Ob.op rfl (O.indexAddr_arr Tryd.runUnderlying80 Tryd.sizeOf3 rfl rfl (by decide) (by decide) ⟨Keep.refl _ _, rfl⟩),
                  fun wx hx => Ob.op rfl (O.load Tryd.isAgg3 rfl (Blk.at (hB6'.keep hx (Nat.zero_le _)) rfl) ⟨Keep.refl _ _, rfl⟩),
                  fun wx hx => Ob.op rfl (O.lss_f rfl rfl h1 ⟨Keep.refl _ _, rfl⟩),
                  fun wx hx => Ob.op rfl (O.move rfl ⟨Keep.refl _ _, rfl⟩),
                  fun wx hx => Ob.op rfl (O.indexAddr_arr Tryd.runUnderlying80 Tryd.sizeOf3 rfl rfl (by decide) (by decide) ⟨Keep.refl _ _, rfl⟩),
                  fun wx hx => Ob.op rfl (O.load Tryd.isAgg3 rfl (Blk.at (hB6'.keep hx (Nat.zero_le _)) rfl) ⟨Keep.refl _ _, rfl⟩),
                  fun wx hx => Ob.op rfl (O.indexAddr_arr Tryd.runUnderlying80 Tryd.sizeOf3 rfl rfl (by decide) (by decide) ⟨Keep.refl _ _, rfl⟩),
                  fun wx hx => Ob.op rfl (O.load Tryd.isAgg3 rfl (Blk.at (hB6'.keep hx (Nat.zero_le _)) rfl) ⟨Keep.refl _ _, rfl⟩),
                  fun wx hx => Ob.op rfl (O.geq_t rfl rfl h2 ⟨Keep.refl _ _, rfl⟩),
                  fun wx hx => Ob.op rfl (O.pick_false rfl rfl ⟨Keep.refl _ _, rfl⟩),
                  fun wx hx => Ob.op rfl (O.move rfl ⟨Keep.refl _ _, rfl⟩),
                  fun wx hx => Ob.pass rfl rfl,
                  fun wx hx => Ob.pass rfl rfl,
                  fun wx hx => Ob.pass rfl rfl,
                  fun wx hx => Ob.pass rfl rfl,
                  fun wx hx => Ob.pass rfl rfl,
                  fun wx hx => Ob.op rfl (O.pick_true rfl rfl ⟨Keep.refl _ _, rfl⟩),
                  fun wx hx => Ob.op rfl (O.move rfl ⟨Keep.refl _ _, rfl⟩),
                  fun wx hx => Ob.pass rfl rfl,
                  fun wx hx => Ob.pass rfl rfl,
                  fun wx hx => Ob.pass rfl rfl,
                  fun wx hx => Ob.pass rfl rfl,
                  fun wx hx => Ob.op rfl (O.pick_true rfl rfl ⟨Keep.refl _ _, rfl⟩),
                  trivial⟩ (fun w8 he8 => ?_)
              refine L.nil (T.cond_true rfl (T.seq (T.region (L.op rfl rfl (O.assign rfl (L.nil (T.ret1 Tryd.results68 rfl ⟨?_, he6.trans he8⟩)))))))
              rw [graphErr, if_neg]
              intro h
              rw [hok, edgesOk_step hlt'] at h
              have h5 := h.2.2.2
              simp only [edgeOk, Bool.and_eq_true, decide_eq_true_eq] at h5
              omega
            · by_cases h3 : N ≤ (es.getD i (0, 0)).2
              · refine T.seq (T.seq (?_))
                refine T.par mixed 23 [5, 1, 3] rfl [.is _, .is _, .is _, .is _, .is _, .is _, .is _, .is _, .is _, .is _, .is _, .is _, .is _, .is _, .is _, .is _, .is _, .is _, .is undef, .is undef, .is undef, .is undef, .is _] [[], [0], [1], [2], [3], [4, 3], [3], [6, 3], [5, 7, 3], [3, 8], [9], [10], [11, 10], [10], [13, 10], [12, 14, 10], [10, 15], [16], [17], [17], [18, 19, 17], [20, 17], [17, 21]] (by kernel_rfl) rfl ⟨trivial, trivial, trivial, trivial, trivial, trivial, trivial, trivial, trivial, trivial, trivial, trivial, trivial, trivial, trivial, trivial, trivial, trivial, trivial, trivial, trivial, trivial, trivial, trivial⟩ ⟨fun wx hx => Ob.op rfl (O.indexAddr_arr Tryd.runUnderlying80 Tryd.sizeOf3 rfl rfl (by decide) (by decide) ⟨Keep.refl _ _, rfl⟩),
                    fun wx hx => Ob.op rfl (O.load Tryd.isAgg3 rfl (Blk.at (hB6'.keep hx (Nat.zero_le _)) rfl) ⟨Keep.refl _ _, rfl⟩),
                    fun wx hx => Ob.op rfl (O.lss_f rfl rfl h1 ⟨Keep.refl _ _, rfl⟩),
                    fun wx hx => Ob.op rfl (O.move rfl ⟨Keep.refl _ _, rfl⟩),
                    fun wx hx => Ob.op rfl (O.indexAddr_arr Tryd.runUnderlying80 Tryd.sizeOf3 rfl rfl (by decide) (by decide) ⟨Keep.refl _ _, rfl⟩),
                    fun wx hx => Ob.op rfl (O.load Tryd.isAgg3 rfl (Blk.at (hB6'.keep hx (Nat.zero_le _)) rfl) ⟨Keep.refl _ _, rfl⟩),
                    fun wx hx => Ob.op rfl (O.indexAddr_arr Tryd.runUnderlying80 Tryd.sizeOf3 rfl rfl (by decide) (by decide) ⟨Keep.refl _ _, rfl⟩),
                    fun wx hx => Ob.op rfl (O.load Tryd.isAgg3 rfl (Blk.at (hB6'.keep hx (Nat.zero_le _)) rfl) ⟨Keep.refl _ _, rfl⟩),
                    fun wx hx => Ob.op rfl (O.geq_f rfl rfl h2 ⟨Keep.refl _ _, rfl⟩),
                    fun wx hx => Ob.op rfl (O.pick_false rfl rfl ⟨Keep.refl _ _, rfl⟩),
                    fun wx hx => Ob.op rfl (O.move rfl ⟨Keep.refl _ _, rfl⟩),
                    fun wx hx => Ob.op rfl (O.indexAddr_arr Tryd.runUnderlying80 Tryd.sizeOf3 rfl rfl (by decide) (by decide) ⟨Keep.refl _ _, rfl⟩),
                    fun wx hx => Ob.op rfl (O.load Tryd.isAgg3 rfl (Blk.at (hB6'.keep hx (Nat.zero_le _)) rfl) ⟨Keep.refl _ _, rfl⟩),
                    fun wx hx => Ob.op rfl (O.fieldAddr Tryd.runUnderlying33 rfl Tryd.sizeOf3 rfl ⟨Keep.refl _ _, rfl⟩),
                    fun wx hx => Ob.op rfl (O.load Tryd.isAgg3 rfl (Blk.at (hBg6.keep hx (Nat.zero_le _)) rfl) ⟨Keep.refl _ _, rfl⟩),
                    fun wx hx => Ob.op rfl (O.geq_t rfl rfl h3 ⟨Keep.refl _ _, rfl⟩),
                    fun wx hx => Ob.op rfl (O.pick_false rfl rfl ⟨Keep.refl _ _, rfl⟩),
                    fun wx hx => Ob.op rfl (O.move rfl ⟨Keep.refl _ _, rfl⟩),
                    fun wx hx => Ob.pass rfl rfl,
                    fun wx hx => Ob.pass rfl rfl,
                    fun wx hx => Ob.pass rfl rfl,
                    fun wx hx => Ob.pass rfl rfl,
                    fun wx hx => Ob.op rfl (O.pick_true rfl rfl ⟨Keep.refl _ _, rfl⟩),
                    trivial⟩ (fun w9 he9 => ?_)
                refine L.nil (T.cond_true rfl (T.seq (T.region (L.op rfl rfl (O.assign rfl (L.nil (T.ret1 Tryd.results68 rfl ⟨?_, he6.trans he9⟩)))))))
                rw [graphErr, if_neg]
                intro h
                rw [hok, edgesOk_step hlt'] at h
                have h5 := h.2.2.2
                simp only [edgeOk, Bool.and_eq_true, decide_eq_true_eq] at h5
                omega
              · by_cases h4 : 0 ≤ cmpL [(before es i).1, (before es i).2] [(es.getD i (0, 0)).1, (es.getD i (0, 0)).2]
                · refine T.seq (T.seq (?_))
                  refine T.par mixed 23 [5, 1, 3] rfl [.is _, .is _, .is _, .is _, .is _, .is _, .is _, .is _, .is _, .is _, .is _, .is _, .is _, .is _, .is _, .is _, .is _, .is _, .is _, .is _, .is _, .is _, .is _] [[], [0], [1], [2], [3], [4, 3], [3], [6, 3], [5, 7, 3], [3, 8], [9], [10], [11, 10], [10], [13, 10], [12, 14, 10], [10, 15], [16], [17], [17], [18, 19, 17], [20, 17], [17, 21]] (by kernel_rfl) rfl ⟨trivial, trivial, trivial, trivial, trivial, trivial, trivial, trivial, trivial, trivial, trivial, trivial, trivial, trivial, trivial, trivial, trivial, trivial, trivial, trivial, trivial, trivial, trivial, trivial⟩ ⟨fun wx hx => Ob.op rfl (O.indexAddr_arr Tryd.runUnderlying80 Tryd.sizeOf3 rfl rfl (by decide) (by decide) ⟨Keep.refl _ _, rfl⟩),
                      fun wx hx => Ob.op rfl (O.load Tryd.isAgg3 rfl (Blk.at (hB6'.keep hx (Nat.zero_le _)) rfl) ⟨Keep.refl _ _, rfl⟩),
                      fun wx hx => Ob.op rfl (O.lss_f rfl rfl h1 ⟨Keep.refl _ _, rfl⟩),
                      fun wx hx => Ob.op rfl (O.move rfl ⟨Keep.refl _ _, rfl⟩),
                      fun wx hx => Ob.op rfl (O.indexAddr_arr Tryd.runUnderlying80 Tryd.sizeOf3 rfl rfl (by decide) (by decide) ⟨Keep.refl _ _, rfl⟩),
                      fun wx hx => Ob.op rfl (O.load Tryd.isAgg3 rfl (Blk.at (hB6'.keep hx (Nat.zero_le _)) rfl) ⟨Keep.refl _ _, rfl⟩),
                      fun wx hx => Ob.op rfl (O.indexAddr_arr Tryd.runUnderlying80 Tryd.sizeOf3 rfl rfl (by decide) (by decide) ⟨Keep.refl _ _, rfl⟩),
                      fun wx hx => Ob.op rfl (O.load Tryd.isAgg3 rfl (Blk.at (hB6'.keep hx (Nat.zero_le _)) rfl) ⟨Keep.refl _ _, rfl⟩),
                      fun wx hx => Ob.op rfl (O.geq_f rfl rfl h2 ⟨Keep.refl _ _, rfl⟩),
                      fun wx hx => Ob.op rfl (O.pick_false rfl rfl ⟨Keep.refl _ _, rfl⟩),
                      fun wx hx => Ob.op rfl (O.move rfl ⟨Keep.refl _ _, rfl⟩),
                      fun wx hx => Ob.op rfl (O.indexAddr_arr Tryd.runUnderlying80 Tryd.sizeOf3 rfl rfl (by decide) (by decide) ⟨Keep.refl _ _, rfl⟩),
                      fun wx hx => Ob.op rfl (O.load Tryd.isAgg3 rfl (Blk.at (hB6'.keep hx (Nat.zero_le _)) rfl) ⟨Keep.refl _ _, rfl⟩),
                      fun wx hx => Ob.op rfl (O.fieldAddr Tryd.runUnderlying33 rfl Tryd.sizeOf3 rfl ⟨Keep.refl _ _, rfl⟩),
                      fun wx hx => Ob.op rfl (O.load Tryd.isAgg3 rfl (Blk.at (hBg6.keep hx (Nat.zero_le _)) rfl) ⟨Keep.refl _ _, rfl⟩),
                      fun wx hx => Ob.op rfl (O.geq_f rfl rfl h3 ⟨Keep.refl _ _, rfl⟩),
                      fun wx hx => Ob.op rfl (O.pick_false rfl rfl ⟨Keep.refl _ _, rfl⟩),
                      fun wx hx => Ob.op rfl (O.move rfl ⟨Keep.refl _ _, rfl⟩),
                      fun wx hx => Ob.op rfl (O.slice_arr Tryd.runUnderlying80 Tryd.sizeOf3 rfl ⟨Keep.refl _ _, rfl⟩),
                      fun wx hx => Ob.op rfl (O.slice_arr Tryd.runUnderlying80 Tryd.sizeOf3 rfl ⟨Keep.refl _ _, rfl⟩),
                      fun wx hx => Ob.op rfl (O.call (xs := [.tmp 46, .tmp 47]) Tryd.call73 rfl rfl (scmp_calls 0 0 (.slice (some ⟨b2, 0, none⟩) 2 2) (.slice (some ⟨b5, 0, none⟩) 2 2) [(before es i).1, (before es i).2] [(es.getD i (0, 0)).1, (es.getD i (0, 0)).2] wx (Ints.of_blk (hBp6.keep hx (Nat.zero_le _)) rfl (by decide) (Nat.zero_le _)) (Ints.of_blk (hB6'.keep hx (Nat.zero_le _)) rfl (by decide) (Nat.zero_le _))) (fun v wy h => ⟨Keep.of_eq h.2, h.1⟩)),
                      fun wx hx => Ob.op rfl (O.geq_t rfl rfl h4 ⟨Keep.refl _ _, rfl⟩),
                      fun wx hx => Ob.op rfl (O.pick_false rfl rfl ⟨Keep.refl _ _, rfl⟩),
                      trivial⟩ (fun w10 he10 => ?_)
                  refine L.nil (T.cond_true rfl (T.seq (T.region (L.op rfl rfl (O.assign rfl (L.nil (T.ret1 Tryd.results68 rfl ⟨?_, he6.trans he10⟩)))))))
                  rw [graphErr, if_neg]
                  intro h
                  rw [hok, edgesOk_step hlt'] at h
                  have h5 := h.2.2.2
                  simp only [edgeOk, Bool.and_eq_true, decide_eq_true_eq] at h5
                  exact absurd h4 ((cmpL_two _ _ _ _).2 (by omega))
                · refine T.seq (T.seq (?_))
                  refine T.par mixed 23 [5, 1, 3] rfl [.is _, .is _, .is _, .is _, .is _, .is _, .is _, .is _, .is _, .is _, .is _, .is _, .is _, .is _, .is _, .is _, .is _, .is _, .is _, .is _, .is _, .is _, .is _] [[], [0], [1], [2], [3], [4, 3], [3], [6, 3], [5, 7, 3], [3, 8], [9], [10], [11, 10], [10], [13, 10], [12, 14, 10], [10, 15], [16], [17], [17], [18, 19, 17], [20, 17], [17, 21]] (by kernel_rfl) rfl ⟨trivial, trivial, trivial, trivial, trivial, trivial, trivial, trivial, trivial, trivial, trivial, trivial, trivial, trivial, trivial, trivial, trivial, trivial, trivial, trivial, trivial, trivial, trivial, trivial⟩ ⟨fun wx hx => Ob.op rfl (O.indexAddr_arr Tryd.runUnderlying80 Tryd.sizeOf3 rfl rfl (by decide) (by decide) ⟨Keep.refl _ _, rfl⟩),
                      fun wx hx => Ob.op rfl (O.load Tryd.isAgg3 rfl (Blk.at (hB6'.keep hx (Nat.zero_le _)) rfl) ⟨Keep.refl _ _, rfl⟩),
                      fun wx hx => Ob.op rfl (O.lss_f rfl rfl h1 ⟨Keep.refl _ _, rfl⟩),
                      fun wx hx => Ob.op rfl (O.move rfl ⟨Keep.refl _ _, rfl⟩),
                      fun wx hx => Ob.op rfl (O.indexAddr_arr Tryd.runUnderlying80 Tryd.sizeOf3 rfl rfl (by decide) (by decide) ⟨Keep.refl _ _, rfl⟩),
                      fun wx hx => Ob.op rfl (O.load Tryd.isAgg3 rfl (Blk.at (hB6'.keep hx (Nat.zero_le _)) rfl) ⟨Keep.refl _ _, rfl⟩),
                      fun wx hx => Ob.op rfl (O.indexAddr_arr Tryd.runUnderlying80 Tryd.sizeOf3 rfl rfl (by decide) (by decide) ⟨Keep.refl _ _, rfl⟩),
                      fun wx hx => Ob.op rfl (O.load Tryd.isAgg3 rfl (Blk.at (hB6'.keep hx (Nat.zero_le _)) rfl) ⟨Keep.refl _ _, rfl⟩),
                      fun wx hx => Ob.op rfl (O.geq_f rfl rfl h2 ⟨Keep.refl _ _, rfl⟩),
                      fun wx hx => Ob.op rfl (O.pick_false rfl rfl ⟨Keep.refl _ _, rfl⟩),
                      fun wx hx => Ob.op rfl (O.move rfl ⟨Keep.refl _ _, rfl⟩),
                      fun wx hx => Ob.op rfl (O.indexAddr_arr Tryd.runUnderlying80 Tryd.sizeOf3 rfl rfl (by decide) (by decide) ⟨Keep.refl _ _, rfl⟩),
                      fun wx hx => Ob.op rfl (O.load Tryd.isAgg3 rfl (Blk.at (hB6'.keep hx (Nat.zero_le _)) rfl) ⟨Keep.refl _ _, rfl⟩),
                      fun wx hx => Ob.op rfl (O.fieldAddr Tryd.runUnderlying33 rfl Tryd.sizeOf3 rfl ⟨Keep.refl _ _, rfl⟩),
                      fun wx hx => Ob.op rfl (O.load Tryd.isAgg3 rfl (Blk.at (hBg6.keep hx (Nat.zero_le _)) rfl) ⟨Keep.refl _ _, rfl⟩),
                      fun wx hx => Ob.op rfl (O.geq_f rfl rfl h3 ⟨Keep.refl _ _, rfl⟩),
                      fun wx hx => Ob.op rfl (O.pick_false rfl rfl ⟨Keep.refl _ _, rfl⟩),
                      fun wx hx => Ob.op rfl (O.move rfl ⟨Keep.refl _ _, rfl⟩),
                      fun wx hx => Ob.op rfl (O.slice_arr Tryd.runUnderlying80 Tryd.sizeOf3 rfl ⟨Keep.refl _ _, rfl⟩),
                      fun wx hx => Ob.op rfl (O.slice_arr Tryd.runUnderlying80 Tryd.sizeOf3 rfl ⟨Keep.refl _ _, rfl⟩),
                      fun wx hx => Ob.op rfl (O.call (xs := [.tmp 46, .tmp 47]) Tryd.call73 rfl rfl (scmp_calls 0 0 (.slice (some ⟨b2, 0, none⟩) 2 2) (.slice (some ⟨b5, 0, none⟩) 2 2) [(before es i).1, (before es i).2] [(es.getD i (0, 0)).1, (es.getD i (0, 0)).2] wx (Ints.of_blk (hBp6.keep hx (Nat.zero_le _)) rfl (by decide) (Nat.zero_le _)) (Ints.of_blk (hB6'.keep hx (Nat.zero_le _)) rfl (by decide) (Nat.zero_le _))) (fun v wy h => ⟨Keep.of_eq h.2, h.1⟩)),
                      fun wx hx => Ob.op rfl (O.geq_f rfl rfl h4 ⟨Keep.refl _ _, rfl⟩),
                      fun wx hx => Ob.op rfl (O.pick_false rfl rfl ⟨Keep.refl _ _, rfl⟩),
                      trivial⟩ (fun w11 he11 => ?_)
                  refine L.nil (T.cond_false rfl (T.skip (T.region (L.op rfl rfl (O.loadAgg Tryd.isAgg80 Tryd.sizeOf80 rfl rfl ((hB6'.keep he11 (Nat.zero_le _)).row) (L.op rfl rfl (O.storeAgg Tryd.sizeOf80 rfl rfl rfl (hBp6.keep he11 (Nat.zero_le _)) (Nat.le_refl _) (by simp [Value.oneCell']) (fun w12 hu12 hB12 => ?_))))))))
                  refine L.nil (T.blk (T.region (L.op rfl rfl (O.add64 rfl rfl (by omega) (L.op rfl rfl (O.move rfl (L.nil (T.again (i + 1) (by omega) ⟨rfl, rfl, rfl, rfl, rfl, trivial⟩ ⟨by omega, (he6.trans he11).upd hu12 (.inr hb12.1), hb12, (hBg6.keep he11 (Nat.zero_le _)).upd hu12 (by omega), hB12, ?_⟩))))))))
                  · rw [hok, edgesOk_step hlt']
                    have h5 := (cmpL_two _ _ _ _).1 h4
                    simp only [edgeOk]
                    rw [decide_eq_true (by omega), decide_eq_true (by omega), decide_eq_true (by omega), decide_eq_true h5]; rfl
        · refine L.nil (T.seq (T.cond_false rfl (T.exit rfl (T.seq (T.region (L.op rfl rfl (O.assign rfl (L.nil (T.ret1 Tryd.results68 rfl ⟨by rw [graphErr, if_pos ⟨by omega, by omega, by omega, by rw [hok, List.drop_of_length_le (by omega)]; rfl⟩], he4⟩)))))))))

end Go.Proofs.YthjdljbghjelfaaDoor
set_option linter.unusedVariables false
set_option linter.unusedSimpArgs false
set_option maxRecDepth 20000
namespace Go.Proofs.YthjdljbghjelfaaDoor
open Go Go.E
attribute [local irreducible] Go.E.T Go.E.L Go.E.O Go.E.Ob

theorem RCheck_calls (lo : Nat) (N : Int) (p : Value) (es : List (Int × Int)) (w : World) (hp : Pairs lo w p es) :
    Calls Tryd.prog 52 #[gV N p] w (Ret fun v w' => v = .int .i64 (graphErr N es) ∧ Ext w w') := by
  have hle := Sl.le hp
  refine T.enter (vs := [gV N p]) Tryd.func52 rfl Tryd.ntmps52 rfl ?_
  refine T.seq (T.region (L.op rfl rfl (O.box rfl (fun b1 w1 hb1 hz1 he1 hB1 => ?_))))
  have hp1 := hp.keep (he1.mono (Nat.zero_le lo))
  refine L.op rfl rfl (O.assign rfl (L.nil (T.seq (T.seq (T.region (L.op rfl rfl (O.fieldAddr Tryd.runUnderlying33 rfl Tryd.sizeOf3 rfl (L.op rfl rfl (O.load Tryd.isAgg3 rfl (Blk.at hB1 rfl) (L.op rfl rfl (O.lss_s rfl rfl (fun hn1 => ?_) (fun hn1 => ?_))))))))))))
  · refine L.op rfl rfl (O.move rfl (L.pass rfl rfl (L.pass rfl rfl (L.pass rfl rfl (L.op rfl rfl (O.pick_true rfl rfl (L.op rfl rfl (O.move rfl (L.pass rfl rfl (L.pass rfl rfl (L.pass rfl rfl (L.pass rfl rfl (L.op rfl rfl (O.pick_true rfl rfl (L.nil (T.cond_true rfl (T.seq (T.region (L.op rfl rfl (O.assign rfl (L.nil (T.ret1 Tryd.results52 rfl ⟨by rw [graphErr, if_neg (by omega)], he1⟩))))))))))))))))))))))
  · refine L.op rfl rfl (O.move rfl (L.op rfl rfl (O.fieldAddr Tryd.runUnderlying33 rfl Tryd.sizeOf3 rfl (L.op rfl rfl (O.load Tryd.isAgg3 rfl (Blk.at hB1 rfl) (L.op rfl rfl (O.gtr_s rfl rfl (fun hn2 => ?_) (fun hn2 => ?_))))))))
    · refine L.op rfl rfl (O.pick_false rfl rfl (L.op rfl rfl (O.move rfl (L.pass rfl rfl (L.pass rfl rfl (L.pass rfl rfl (L.pass rfl rfl (L.op rfl rfl (O.pick_true rfl rfl (L.nil (T.cond_true rfl (T.seq (T.region (L.op rfl rfl (O.assign rfl (L.nil (T.ret1 Tryd.results52 rfl ⟨by rw [graphErr, if_neg (by omega)], he1⟩)))))))))))))))))
    · refine L.op rfl rfl (O.pick_false rfl rfl (L.op rfl rfl (O.move rfl (L.op rfl rfl (O.fieldAddr Tryd.runUnderlying33 rfl Tryd.sizeOf31 rfl (L.op rfl rfl (O.load Tryd.isAgg31 rfl (Blk.at hB1 rfl) (L.op rfl rfl (O.len Tryd.runUnderlying31 rfl (Sl.val hp1) (L.op rfl rfl (O.gtr_s rfl rfl (fun hn3 => ?_) (fun hn3 => ?_))))))))))))
      · refine L.op rfl rfl (O.pick_false rfl rfl (L.nil (T.cond_true rfl (T.seq (T.region (L.op rfl rfl (O.assign rfl (L.nil (T.ret1 Tryd.results52 rfl ⟨by rw [graphErr, if_neg (by omega)], he1⟩)))))))))
      · refine L.op rfl rfl (O.pick_false rfl rfl (L.nil (T.cond_false rfl (T.skip (T.seq (T.seq (T.region (L.op rfl rfl (O.assign rfl (L.nil (T.block (?_))))))))))))
        refine T.loop (σ := Nat) (fun i => [(1, .pointer (some ⟨b1, 0, none⟩)), (3, .int .i64 i)]) (fun i w' => i ≤ es.length ∧ Ext w w' ∧ Blk w' b1 [.int .i64 N, p] 33 ∧ edgesOk N (-1, -1) es = edgesOk N (before es i) (es.drop i)) (fun i => es.length - i) (0) ⟨rfl, rfl, trivial⟩ ⟨Nat.zero_le _, he1, hB1, rfl⟩ ?_
        rintro i w4 ⟨hi, he4, hB4, hok⟩
        have hp4 := hp.keep (he4.mono (Nat.zero_le lo))
        refine T.seq (T.seq (T.region (L.op rfl rfl (O.move rfl (L.op rfl rfl (O.fieldAddr Tryd.runUnderlying33 rfl Tryd.sizeOf31 rfl (L.op rfl rfl (O.load Tryd.isAgg31 rfl (Blk.at hB4 rfl) (L.op rfl rfl (O.len Tryd.runUnderlying31 rfl (Sl.val hp4) (L.op rfl rfl (O.lss_s rfl rfl (fun hlt => ?_) (fun hlt => ?_)))))))))))))
        · refine L.nil (?_)
          have hlt' : i < es.length := by omega
          have hst := edgesOk_step (N := N) hlt'
          have hbad : edgeOk N (before es i) (es.getD i (0, 0)) = false → graphErr N es = 180 := fun h => by
            rw [graphErr, if_neg]
            rw [hok, hst, h]; simp
          refine T.cond_true rfl (T.skip (T.seq (T.block (T.seq (?_)))))
          refine T.par mixed 13 [1, 3] rfl [.is _, .is _, .is _, .is _, .is _, .is _, .is _, .is _, .is _, .is _, .is _, .is _, .is _] [[], [0], [], [1, 2], [3], [4], [], [6], [], [7, 8], [9], [10], [5]] (by kernel_rfl) rfl ⟨trivial, trivial, trivial, trivial, trivial, trivial, trivial, trivial, trivial, trivial, trivial, trivial, trivial, trivial⟩ ⟨fun wx hx => Ob.op rfl (O.fieldAddr Tryd.runUnderlying33 rfl Tryd.sizeOf31 rfl ⟨Keep.refl _ _, rfl⟩),
              fun wx hx => Ob.op rfl (O.load Tryd.isAgg31 rfl (Blk.at (hB4.keep hx (Nat.zero_le _)) rfl) ⟨Keep.refl _ _, rfl⟩),
              fun wx hx => Ob.op rfl (O.move rfl ⟨Keep.refl _ _, rfl⟩),
              fun wx hx => Ob.op rfl (O.indexAddr Tryd.runUnderlying31 Tryd.sizeOf80 rfl rfl (hp4.keep (hx.mono (Nat.zero_le lo))) (by omega) (by omega) ⟨Keep.refl _ _, rfl⟩),
              fun wx hx => Ob.op rfl (O.indexAddr_arr Tryd.runUnderlying80 Tryd.sizeOf3 rfl rfl (by decide) (by decide) ⟨Keep.refl _ _, rfl⟩),
              fun wx hx => Ob.op rfl (O.load Tryd.isAgg3 rfl ((hp4.keep (hx.mono (Nat.zero_le lo))).at0 hlt') ⟨Keep.refl _ _, rfl⟩),
              fun wx hx => Ob.op rfl (O.fieldAddr Tryd.runUnderlying33 rfl Tryd.sizeOf31 rfl ⟨Keep.refl _ _, rfl⟩),
              fun wx hx => Ob.op rfl (O.load Tryd.isAgg31 rfl (Blk.at (hB4.keep hx (Nat.zero_le _)) rfl) ⟨Keep.refl _ _, rfl⟩),
              fun wx hx => Ob.op rfl (O.move rfl ⟨Keep.refl _ _, rfl⟩),
              fun wx hx => Ob.op rfl (O.indexAddr Tryd.runUnderlying31 Tryd.sizeOf80 rfl rfl (hp4.keep (hx.mono (Nat.zero_le lo))) (by omega) (by omega) ⟨Keep.refl _ _, rfl⟩),
              fun wx hx => Ob.op rfl (O.indexAddr_arr Tryd.runUnderlying80 Tryd.sizeOf3 rfl rfl (by decide) (by decide) ⟨Keep.refl _ _, rfl⟩),
              fun wx hx => Ob.op rfl (O.load Tryd.isAgg3 rfl ((hp4.keep (hx.mono (Nat.zero_le lo))).at1 hlt') ⟨Keep.refl _ _, rfl⟩),
              fun wx hx => Ob.op rfl (O.assign rfl ⟨Keep.refl _ _, rfl⟩),
              trivial⟩ (fun w14 he14 => ?_)
          have hB2 := hB4.keep he14 (Nat.zero_le _)
          have hp2 := hp4.keep (he14.mono (Nat.zero_le lo))
          have he := he4.trans he14
          refine L.op rfl rfl (O.assign rfl (L.nil (T.seq (T.seq (T.region (L.op rfl rfl (O.move rfl (L.op rfl rfl (O.lss_s rfl rfl (fun h1 => ?_) (fun h1 => ?_))))))))))
          · refine L.op rfl rfl (O.move rfl (L.pass rfl rfl (L.pass rfl rfl (L.pass rfl rfl (L.op rfl rfl (O.pick_true rfl rfl (L.op rfl rfl (O.move rfl (L.pass rfl rfl (L.pass rfl rfl (L.pass rfl rfl (L.pass rfl rfl (L.op rfl rfl (O.pick_true rfl rfl (L.nil (T.cond_true rfl (T.seq (T.region (L.op rfl rfl (O.assign rfl (L.nil (T.ret1 Tryd.results52 rfl ⟨by rw [hbad (by simp only [edgeOk]; rw [decide_eq_false (by omega)]; rfl)], he⟩))))))))))))))))))))))
          · refine L.op rfl rfl (O.move rfl (L.op rfl rfl (O.move rfl (L.op rfl rfl (O.move rfl (L.op rfl rfl (O.geq_s rfl rfl (fun h2 => ?_) (fun h2 => ?_))))))))
            · refine L.op rfl rfl (O.pick_false rfl rfl (L.op rfl rfl (O.move rfl (L.pass rfl rfl (L.pass rfl rfl (L.pass rfl rfl (L.pass rfl rfl (L.op rfl rfl (O.pick_true rfl rfl (L.nil (T.cond_true rfl (T.seq (T.region (L.op rfl rfl (O.assign rfl (L.nil (T.ret1 Tryd.results52 rfl ⟨by rw [hbad (by simp only [edgeOk]; rw [decide_eq_false (show ¬ (es.getD i (0, 0)).1 < (es.getD i (0, 0)).2 by omega)]; simp)], he⟩)))))))))))))))))
            · refine L.op rfl rfl (O.pick_false rfl rfl (L.op rfl rfl (O.move rfl (L.op rfl rfl (O.move rfl (L.op rfl rfl (O.fieldAddr Tryd.runUnderlying33 rfl Tryd.sizeOf3 rfl (L.op rfl rfl (O.load Tryd.isAgg3 rfl (Blk.at hB2 rfl) (L.op rfl rfl (O.geq_s rfl rfl (fun h3 => ?_) (fun h3 => ?_))))))))))))
              · refine L.op rfl rfl (O.pick_false rfl rfl (L.nil (T.cond_true rfl (T.seq (T.region (L.op rfl rfl (O.assign rfl (L.nil (T.ret1 Tryd.results52 rfl ⟨by rw [hbad (by simp only [edgeOk]; rw [decide_eq_false (show ¬ (es.getD i (0, 0)).2 < N by omega)]; simp)], he⟩)))))))))
              · have hfin : (before es i).1 < (es.getD i (0, 0)).1 ∨ (before es i).1 = (es.getD i (0, 0)).1 ∧ (before es i).2 < (es.getD i (0, 0)).2 → edgesOk N (-1, -1) es = edgesOk N (before es (i + 1)) (es.drop (i + 1)) := fun h => by
                  rw [hok, hst]; simp only [edgeOk]; rw [decide_eq_true (by omega), decide_eq_true (by omega), decide_eq_true (by omega), decide_eq_true h]; rfl
                have hbad2 : ¬ ((before es i).1 < (es.getD i (0, 0)).1 ∨ (before es i).1 = (es.getD i (0, 0)).1 ∧ (before es i).2 < (es.getD i (0, 0)).2) → graphErr N es = 180 := fun h => hbad (by simp only [edgeOk]; rw [decide_eq_false h]; simp)
                refine L.op rfl rfl (O.pick_false rfl rfl (L.nil (T.cond_false rfl (T.skip (T.seq (T.region (L.op rfl rfl (O.move rfl (L.op rfl rfl (O.gtr_s rfl rfl (fun hi0 => ?_) (fun hi0 => ?_)))))))))))
                · obtain ⟨j, rfl⟩ : ∃ j, i = j + 1 := ⟨i - 1, by omega⟩
                  have hj : j < es.length := by omega
                  refine L.op rfl rfl (O.move rfl (L.op rfl rfl (O.fieldAddr Tryd.runUnderlying33 rfl Tryd.sizeOf31 rfl (L.op rfl rfl (O.load Tryd.isAgg31 rfl (Blk.at hB2 rfl) (L.op rfl rfl (O.move rfl (L.op rfl rfl (O.sub64 rfl rfl (by omega) (L.op rfl rfl (O.indexAddr Tryd.runUnderlying31 Tryd.sizeOf80 rfl rfl hp2 (by omega) (by omega) (L.op rfl rfl (O.indexAddr_arr Tryd.runUnderlying80 Tryd.sizeOf3 rfl rfl (by decide) (by decide) (L.op rfl rfl (O.load Tryd.isAgg3 rfl (Pairs.at0' hp2 (i := j) (by omega) hj) (L.op rfl rfl (O.move rfl (L.op rfl rfl (O.gtr_s rfl rfl (fun h4 => ?_) (fun h4 => ?_))))))))))))))))))))
                  · refine L.op rfl rfl (O.move rfl (L.pass rfl rfl (L.pass rfl rfl (L.pass rfl rfl (L.pass rfl rfl (L.pass rfl rfl (L.pass rfl rfl (L.pass rfl rfl (L.pass rfl rfl (L.pass rfl rfl (L.pass rfl rfl (L.pass rfl rfl (L.pass rfl rfl (L.pass rfl rfl (L.pass rfl rfl (L.pass rfl rfl (L.pass rfl rfl (L.pass rfl rfl (L.pass rfl rfl (L.pass rfl rfl (L.pass rfl rfl (L.op rfl rfl (O.pick_true rfl rfl (L.op rfl rfl (O.pick_true rfl rfl (L.nil (?_)))))))))))))))))))))))))))
                    refine T.cond_true rfl (T.seq (T.region (L.op rfl rfl (O.assign rfl (L.nil (T.ret1 Tryd.results52 rfl ⟨by rw [hbad2 (by simp only [before]; omega)], he⟩))))))
                  · refine L.op rfl rfl (O.move rfl (L.op rfl rfl (O.fieldAddr Tryd.runUnderlying33 rfl Tryd.sizeOf31 rfl (L.op rfl rfl (O.load Tryd.isAgg31 rfl (Blk.at hB2 rfl) (L.op rfl rfl (O.move rfl (L.op rfl rfl (O.sub64 rfl rfl (by omega) (L.op rfl rfl (O.indexAddr Tryd.runUnderlying31 Tryd.sizeOf80 rfl rfl hp2 (by omega) (by omega) (L.op rfl rfl (O.indexAddr_arr Tryd.runUnderlying80 Tryd.sizeOf3 rfl rfl (by decide) (by decide) (L.op rfl rfl (O.load Tryd.isAgg3 rfl (Pairs.at0' hp2 (i := j) (by omega) hj) (L.op rfl rfl (O.move rfl (L.op rfl rfl (O.eql_s rfl rfl (fun h5 => ?_) (fun h5 => ?_))))))))))))))))))))
                    · refine L.op rfl rfl (O.move rfl (L.op rfl rfl (O.fieldAddr Tryd.runUnderlying33 rfl Tryd.sizeOf31 rfl (L.op rfl rfl (O.load Tryd.isAgg31 rfl (Blk.at hB2 rfl) (L.op rfl rfl (O.move rfl (L.op rfl rfl (O.sub64 rfl rfl (by omega) (L.op rfl rfl (O.indexAddr Tryd.runUnderlying31 Tryd.sizeOf80 rfl rfl hp2 (by omega) (by omega) (L.op rfl rfl (O.indexAddr_arr Tryd.runUnderlying80 Tryd.sizeOf3 rfl rfl (by decide) (by decide) (L.op rfl rfl (O.load Tryd.isAgg3 rfl (Pairs.at1' hp2 (i := j) (by omega) hj) (L.op rfl rfl (O.move rfl (L.op rfl rfl (O.geq_s rfl rfl (fun h6 => ?_) (fun h6 => ?_))))))))))))))))))))
                      · refine L.op rfl rfl (O.pick_true rfl rfl (L.op rfl rfl (O.pick_false rfl rfl (L.op rfl rfl (O.pick_true rfl rfl (L.nil (T.cond_true rfl (T.seq (T.region (L.op rfl rfl (O.assign rfl (L.nil (T.ret1 Tryd.results52 rfl ⟨by rw [hbad2 (by simp only [before]; omega)], he⟩)))))))))))))
                      · refine L.op rfl rfl (O.pick_true rfl rfl (L.op rfl rfl (O.pick_false rfl rfl (L.op rfl rfl (O.pick_true rfl rfl (L.nil (T.cond_false rfl (T.skip (T.blk (T.region (L.op rfl rfl (O.move rfl (L.op rfl rfl (O.add64 rfl rfl (by omega) (L.op rfl rfl (O.assign rfl (L.nil (T.again (j + 1 + 1) (by omega) ⟨rfl, rfl, trivial⟩ ⟨by omega, he, hB2, hfin (by simp only [before]; omega)⟩))))))))))))))))))
                    · refine L.op rfl rfl (O.move rfl (L.pass rfl rfl (L.pass rfl rfl (L.pass rfl rfl (L.pass rfl rfl (L.pass rfl rfl (L.pass rfl rfl (L.pass rfl rfl (L.pass rfl rfl (L.pass rfl rfl (L.op rfl rfl (O.pick_false rfl rfl (L.op rfl rfl (O.pick_false rfl rfl (L.op rfl rfl (O.pick_true rfl rfl (L.nil (T.cond_false rfl (T.skip (T.blk (T.region (L.op rfl rfl (O.move rfl (L.op rfl rfl (O.add64 rfl rfl (by omega) (L.op rfl rfl (O.assign rfl (L.nil (T.again (j + 1 + 1) (by omega) ⟨rfl, rfl, trivial⟩ ⟨by omega, he, hB2, hfin (by simp only [before]; omega)⟩)))))))))))))))))))))))))))))
                · obtain rfl : i = 0 := by omega
                  refine L.op rfl rfl (O.move rfl (L.pass rfl rfl (L.pass rfl rfl (L.pass rfl rfl (L.pass rfl rfl (L.pass rfl rfl (L.pass rfl rfl (L.pass rfl rfl (L.pass rfl rfl (L.pass rfl rfl (L.pass rfl rfl (L.pass rfl rfl (L.pass rfl rfl (L.pass rfl rfl (L.pass rfl rfl (L.pass rfl rfl (L.pass rfl rfl (L.pass rfl rfl (L.pass rfl rfl (L.pass rfl rfl (L.pass rfl rfl (L.pass rfl rfl (L.pass rfl rfl (L.pass rfl rfl (?_)))))))))))))))))))))))))
                  refine L.pass rfl rfl (L.pass rfl rfl (L.pass rfl rfl (L.pass rfl rfl (L.pass rfl rfl (L.pass rfl rfl (L.pass rfl rfl (L.pass rfl rfl (L.op rfl rfl (O.pick_false rfl rfl (L.nil (T.cond_false rfl (T.skip (T.blk (T.region (L.op rfl rfl (O.move rfl (L.op rfl rfl (O.add64 rfl rfl (by omega) (L.op rfl rfl (O.assign rfl (L.nil (T.again (0 + 1) (by omega) ⟨rfl, rfl, trivial⟩ ⟨by omega, he, hB2, hfin (by simp only [before]; omega)⟩))))))))))))))))))))))
        · refine L.nil (T.cond_false rfl (T.exit rfl (T.seq (T.region (L.op rfl rfl (O.assign rfl (L.nil (T.ret1 Tryd.results52 rfl ⟨by rw [graphErr, if_pos ⟨by omega, by omega, by omega, by rw [hok, List.drop_of_length_le (by omega)]; rfl⟩], he4⟩))))))))

end Go.Proofs.YthjdljbghjelfaaDoor
set_option linter.unusedVariables false
set_option linter.unusedSimpArgs false
set_option maxRecDepth 20000
namespace Go.Proofs.YthjdljbghjelfaaDoor
open Go Go.E
attribute [local irreducible] Go.E.T Go.E.L Go.E.O Go.E.Ob

theorem has_eq (m i : Nat) : decide ((((m / 2 ^ i) &&& 1 : Nat) : Int) = 1) = m.testBit i := by
  rw [Nat.testBit_eq_decide_div_mod_eq, Nat.and_one_is_mod]
  by_cases h : m / 2 ^ i % 2 = 1
  · rw [decide_eq_true h, decide_eq_true (by omega)]
  · rw [decide_eq_false h, decide_eq_false (by omega)]
theorem div_lt64 {m : Nat} (hm : m < 18446744073709551616) (k : Nat) : m / k < 18446744073709551616 := Nat.lt_of_le_of_lt (Nat.div_le_self _ _) hm
/-- The number of bits. -/
def blen (n : Nat) : Nat := if n = 0 then 0 else Nat.log2 n + 1
theorem blen_half {n : Nat} (h : 0 < n) : blen n = blen (n / 2) + 1 := by
  unfold blen
  rw [if_neg (by omega)]
  by_cases h2 : 2 ≤ n
  · rw [if_neg (by omega), Nat.log2_def, if_pos h2]
  · have : n = 1 := by omega
    subst this; rfl
theorem blen_div : ∀ (k n : Nat), 2 ^ k ≤ n → blen n = blen (n / 2 ^ k) + k
  | 0, n, _ => by simp
  | k + 1, n, h => by
    have h1 : 0 < n := Nat.lt_of_lt_of_le (Nat.pow_pos (by decide)) h
    have h2 : 2 ^ k ≤ n / 2 := by rw [Nat.pow_succ] at h; omega
    rw [blen_half h1, blen_div k (n / 2) h2, Nat.div_div_eq_div_mul, show 2 * 2 ^ k = 2 ^ (k + 1) by rw [Nat.pow_succ]; omega]; omega
theorem blen_le : ∀ (k n : Nat), blen n ≤ k ↔ n < 2 ^ k
  | 0, n => by
    unfold blen
    by_cases h : n = 0
    · simp [h]
    · rw [if_neg h]; simp; omega
  | k + 1, n => by
    by_cases h : n = 0
    · subst h; simp [blen, Nat.pow_pos]
    · rw [blen_half (by omega), Nat.pow_succ]
      have := blen_le k (n / 2)
      omega
def lenTab : ByteArray := { data :=
  (([0, 1, 2, 2, 3, 3, 3, 3, 4, 4, 4, 4, 4, 4, 4, 4, 5, 5, 5, 5, 5, 5, 5, 5, 5, 5, 5, 5, 5, 5, 5, 5, 6, 6, 6, 6, 6, 6, 6, 6, 6, 6, 6, 6, 6, 6, 6, 6, 6, 6, 6, 6, 6, 6, 6, 6, 6, 6, 6, 6, 6, 6, 6, 6].append
    [7, 7, 7, 7, 7, 7, 7, 7, 7, 7, 7, 7, 7, 7, 7, 7, 7, 7, 7, 7, 7, 7, 7, 7, 7, 7, 7, 7, 7, 7, 7, 7, 7, 7, 7, 7, 7, 7, 7, 7, 7, 7, 7, 7, 7, 7, 7, 7, 7, 7, 7, 7, 7, 7, 7, 7, 7, 7, 7, 7, 7, 7, 7, 7]).append
    ([8, 8, 8, 8, 8, 8, 8, 8, 8, 8, 8, 8, 8, 8, 8, 8, 8, 8, 8, 8, 8, 8, 8, 8, 8, 8, 8, 8, 8, 8, 8, 8, 8, 8, 8, 8, 8, 8, 8, 8, 8, 8, 8, 8, 8, 8, 8, 8, 8, 8, 8, 8, 8, 8, 8, 8, 8, 8, 8, 8, 8, 8, 8, 8].append
    [8, 8, 8, 8, 8, 8, 8, 8, 8, 8, 8, 8, 8, 8, 8, 8, 8, 8, 8, 8, 8, 8, 8, 8, 8, 8, 8, 8, 8, 8, 8, 8, 8, 8, 8, 8, 8, 8, 8, 8, 8, 8, 8, 8, 8, 8, 8, 8, 8, 8, 8, 8, 8, 8, 8, 8, 8, 8, 8, 8, 8, 8, 8, 8])).toArray }
theorem lenTab_all : ((List.range 256).all fun n => lenTab[n]? == some (UInt8.ofNat (blen n))) = true := by kernel_rfl
theorem lenTab_at {n : Nat} (h : n < 256) : lenTab[n]? = some (UInt8.ofNat (blen n)) := by
  have := List.all_eq_true.1 lenTab_all n (List.mem_range.2 h)
  simpa using this
theorem len_conv {b : Nat} (h : b ≤ 8) : IntKind.i64.wrap (((UInt8.ofNat b).toNat : Nat) : Int) = (b : Int) := by
  rw [show (UInt8.ofNat b).toNat = b by simp; omega]; exact IntWalk.i64_in _ ⟨by omega, by omega⟩
/-- The position of the lowest bit. -/
structure Low (m t : Nat) : Prop where
  bit : m.testBit t = true
  low : ∀ j, j < t → m.testBit j = false
theorem Low.form {m t : Nat} (h : Low m t) : m = 2 ^ (t + 1) * (m / 2 ^ (t + 1)) + 2 ^ t := by
  apply Nat.eq_of_testBit_eq
  intro j
  rw [Nat.testBit_two_pow_mul_add _ (Nat.pow_lt_pow_right (by decide) (Nat.lt_succ_self t))]
  by_cases hj : j < t + 1
  · rw [if_pos hj, Nat.testBit_two_pow]
    by_cases hjt : t = j
    · subst hjt; simp [h.bit]
    · rw [h.low j (by omega)]; simp [hjt]
  · rw [if_neg hj, Nat.testBit_div_two_pow]
    congr 1; omega
theorem Low.pred {m t : Nat} (h : Low m t) (j : Nat) : (m - 1).testBit j = (decide (j < t) || (decide (t < j) && m.testBit j)) := by
  have e : m - 1 = 2 ^ (t + 1) * (m / 2 ^ (t + 1)) + (2 ^ t - 1) := by
    have := h.form
    have hp : 0 < 2 ^ t := Nat.pow_pos (by decide)
    omega
  have hlt : 2 ^ t - 1 < 2 ^ (t + 1) := by
    have hp : 0 < 2 ^ t := Nat.pow_pos (by decide)
    rw [Nat.pow_succ]; omega
  rw [e, Nat.testBit_two_pow_mul_add _ hlt]
  by_cases hj : j < t + 1
  · rw [if_pos hj, Nat.testBit_two_pow_sub_one]
    by_cases hjt : j < t
    · simp [hjt]
    · simp [hjt]; omega
  · rw [if_neg hj, Nat.testBit_div_two_pow, show j - (t + 1) + (t + 1) = j by omega]
    rw [decide_eq_false (show ¬ j < t by omega), decide_eq_true (show t < j by omega)]; simp
theorem Low.pos {m t : Nat} (h : Low m t) : 0 < m := by
  rcases Nat.eq_zero_or_pos m with h0 | h0
  · subst h0; have := h.bit; simp at this
  · exact h0
theorem Low.lt {m t : Nat} (h : Low m t) (hm : m < 18446744073709551616) : t < 64 := by
  rcases Nat.lt_or_ge t 64 with h1 | h1
  · exact h1
  · have h2 := h.bit
    rw [Nat.testBit_lt_two_pow (Nat.lt_of_lt_of_le hm (Nat.pow_le_pow_right (n := 2) (by decide) h1))] at h2; cases h2
/-- The lowest bit alone. -/
theorem Low.one {m t : Nat} (h : Low m t) (hm : m < 18446744073709551616) : m &&& (18446744073709551616 - m) = 2 ^ t := by
  apply Nat.eq_of_testBit_eq
  intro j
  have hp := h.pos
  have e : 18446744073709551616 - m = 2 ^ 64 - ((m - 1) + 1) := by omega
  rw [Nat.testBit_and, e, Nat.testBit_two_pow_sub_succ (by omega), h.pred, Nat.testBit_two_pow]
  have hlt := h.lt hm
  by_cases h1 : j < t
  · rw [h.low j h1]; simp; omega
  · by_cases h2 : t = j
    · subst h2; simp [h.bit, hlt]
    · rw [decide_eq_false h1, decide_eq_true (show t < j by omega), decide_eq_false h2]; cases m.testBit j <;> simp
/-- Without the lowest bit. -/
theorem Low.rest {m t : Nat} (h : Low m t) (j : Nat) : (m &&& (m - 1)).testBit j = (m.testBit j && !decide (j = t)) := by
  rw [Nat.testBit_and, h.pred]
  by_cases h1 : j < t
  · rw [h.low j h1]; simp
  · by_cases h2 : j = t
    · subst h2; simp
    · rw [decide_eq_false h1, decide_eq_true (show t < j by omega), decide_eq_false h2]; cases m.testBit j <;> rfl
theorem Low.ex {m : Nat} (h : m ≠ 0) : ∃ t, Low m t := by
  obtain ⟨i, hi⟩ := Nat.exists_testBit_of_ne_zero h
  induction i using Nat.strongRecOn with
  | ind i ih =>
    by_cases hc : ∃ j, j < i ∧ m.testBit j = true
    · obtain ⟨j, hj, hb⟩ := hc; exact ih j hj hb
    · exact ⟨i, hi, fun j hj => by
        cases hb : m.testBit j
        · rfl
        · exact absurd ⟨j, hj, hb⟩ hc⟩
def dbTab : List Nat := [0, 1, 56, 2, 57, 49, 28, 3, 61, 58, 42, 50, 38, 29, 17, 4, 62, 47, 59, 36, 45, 43, 51, 22, 53, 39, 33, 30, 24, 18, 12, 5, 63, 55, 48, 27, 60, 41, 37, 16, 46, 35, 44, 21, 52, 32, 23, 11, 54, 26, 40, 15, 34, 20, 31, 10, 25, 14, 19, 9, 13, 8, 7, 6]
theorem dbTab_all : ((List.range 64).all fun t => decide (2 ^ t * 285870213051353865 % 18446744073709551616 / 2 ^ 58 < 64) && (dbTab.getD (2 ^ t * 285870213051353865 % 18446744073709551616 / 2 ^ 58) 0 == t)) = true := by kernel_rfl
theorem dbTab_at {t : Nat} (h : t < 64) : 2 ^ t * 285870213051353865 % 18446744073709551616 / 2 ^ 58 < 64 ∧ dbTab.getD (2 ^ t * 285870213051353865 % 18446744073709551616 / 2 ^ 58) 0 = t := by
  have := List.all_eq_true.1 dbTab_all t (List.mem_range.2 h)
  simp only [Bool.and_eq_true, decide_eq_true_eq, beq_iff_eq] at this
  exact this
/-- The table of math/bits lies where the program laid it. -/
def Tab (w : World) : Prop := ∀ i, i < 64 → w.cell? ⟨0, i, none⟩ = some (.int .u8 ((dbTab.getD i 0 : Nat) : Int))
theorem Tab.keep {w w' : World} (h : Tab w) (k : Ext w w') : Tab w' := fun i hi => k.cell (Nat.zero_le _) (h i hi)
theorem tz_ix {m t : Nat} (hone : m &&& (18446744073709551616 - m) = 2 ^ t) (h : t < 64) : ((m &&& (18446744073709551616 - m)) * 285870213051353865 % 18446744073709551616 / 2 ^ (Int.toNat 58) : Nat) < 64 := by rw [hone]; exact (dbTab_at h).1
theorem tz_load {m t : Nat} {w : World} (hT : Tab w) (hone : m &&& (18446744073709551616 - m) = 2 ^ t) (h : t < 64) : w.cell? ((⟨0, 0, none⟩ : Addr).add (((((m &&& (18446744073709551616 - m)) * 285870213051353865 % 18446744073709551616 / 2 ^ (Int.toNat 58) : Nat) : Int)).toNat * 1)) = some (.int .u8 (t : Int)) := by
  rw [add_at, Nat.zero_add, Nat.mul_one, Int.toNat_natCast, hT _ (tz_ix hone h), hone]
  have := (dbTab_at h).2
  rw [show (Int.toNat 58) = 58 from rfl, this]
def setErr (N : Int) (es : List (Int × Int)) (m : Nat) : Int := if graphErr N es = 0 then (if m < 2 ^ N.toNat then 0 else 2) else graphErr N es
theorem graphErr_ok {N : Int} {es : List (Int × Int)} (h : graphErr N es = 0) : 1 ≤ N ∧ N ≤ 64 ∧ es.length ≤ 200 ∧ edgesOk N (-1, -1) es = true := by
  unfold graphErr at h
  split at h
  · assumption
  · cases h
theorem Has_calls (m : Nat) (i : Int) (w : World) (hm : m < 18446744073709551616) (h0 : 0 ≤ i) (h1 : i < 64) :
    Calls Tryd.prog 87 #[.int .u64 m, .int .i64 i] w (Ret fun v w' => v = .bool (m.testBit i.toNat) ∧ w' = w) := by
  refine T.enter (vs := [.int .u64 m, .int .i64 i]) Tryd.func87 rfl Tryd.ntmps87 rfl ?_
  refine T.seq (T.region (L.op rfl rfl (O.assign rfl (L.nil (T.seq (T.region (L.op rfl rfl (O.move rfl (L.op rfl rfl (O.move rfl (L.op rfl rfl (O.conv_to rfl (fun w => ⟨_, Tryd.runUnderlying3 w⟩) Tryd.runUnderlying121 (IntWalk.u64_in _ ⟨by omega, by omega⟩) (L.op rfl rfl (O.shr_u64 rfl rfl rfl hm (by omega) (L.op rfl rfl (O.and_u64 rfl (show (1 : Int) = ((1 : Nat) : Int) from rfl) (div_lt64 hm _) (by decide) rfl rfl (L.op rfl rfl (O.eql rfl rfl (L.op rfl rfl (O.assign rfl (L.nil (T.ret1 Tryd.results87 rfl ⟨by rw [← has_eq], rfl⟩))))))))))))))))))))))

theorem One_calls (i : Int) (w : World) (h0 : 0 ≤ i) (h1 : i < 64) :
    Calls Tryd.prog 89 #[.int .i64 i] w (Ret fun v w' => v = .int .u64 (bit64 i.toNat) ∧ w' = w) := by
  refine T.enter (vs := [.int .i64 i]) Tryd.func89 rfl Tryd.ntmps89 rfl ?_
  refine T.seq (T.region (L.op rfl rfl (O.assign rfl (L.nil (T.seq (T.region (L.op rfl rfl (O.move rfl (L.op rfl rfl (O.conv_to rfl (fun w => ⟨_, Tryd.runUnderlying3 w⟩) Tryd.runUnderlying121 (IntWalk.u64_in _ ⟨by omega, by omega⟩) (L.op rfl rfl (O.bit_u64 rfl rfl (by omega) (L.op rfl rfl (O.assign rfl (L.nil (T.ret1 Tryd.results89 rfl ⟨rfl, rfl⟩))))))))))))))))

theorem Len64_calls (m : Nat) (w : World) (hm : m < 18446744073709551616) :
    Calls Tryd.prog 80 #[.int .u64 m] w (Ret fun v w' => v = .int .i64 (blen m) ∧ w' = w) := by
  refine T.enter (vs := [.int .u64 m]) Tryd.func80 rfl Tryd.ntmps80 rfl ?_
  refine T.seq (T.region (L.op rfl rfl (O.assign rfl (L.nil (T.seq (?_))))))
  refine T.join (σ := Nat × Int) (fun s => [(0, .int .u64 s.1), (2, .int .i64 s.2)]) (fun s w' => w = w' ∧ (blen m : Int) = blen s.1 + s.2 ∧ s.1 < 4294967296 ∧ 0 ≤ s.2 ∧ s.2 ≤ 32) ?_ ?_
  · refine T.seq (T.region (L.op rfl rfl (O.move rfl (L.op rfl rfl (O.geq_s rfl rfl (fun h => ?_) (fun h => ?_))))))
    · refine L.nil (T.cond_true rfl (T.seq (T.region (L.op rfl rfl (O.move rfl (L.op rfl rfl (O.shr_u64 rfl rfl rfl (by assumption) (by omega) (L.op rfl rfl (O.assign rfl (L.nil (T.region (L.op rfl rfl (O.assign rfl (L.nil (T.meet ((m / 2 ^ 32, 0 + 32)) ⟨rfl, rfl, trivial⟩ ⟨rfl, by have := blen_div 32 m (by (try simp only at *); omega); (try simp only at *); omega, by (try simp only at *); omega, by (try simp only at *); omega, by (try simp only at *); omega⟩)))))))))))))))
    · refine L.nil (T.cond_false rfl (T.skip (T.meet ((m, 0)) ⟨rfl, rfl, trivial⟩ ⟨rfl, by (try simp only at *); omega, by (try simp only at *); omega, by (try simp only at *); omega, by (try simp only at *); omega⟩)))
  rintro ⟨x1, s1⟩ w1 ⟨rfl, hb1, hx1, hs1, hs1'⟩
  refine T.seq (?_)
  refine T.join (σ := Nat × Int) (fun s => [(0, .int .u64 s.1), (2, .int .i64 s.2)]) (fun s w' => w = w' ∧ (blen m : Int) = blen s.1 + s.2 ∧ s.1 < 65536 ∧ 0 ≤ s.2 ∧ s.2 ≤ 48) ?_ ?_
  · refine T.seq (T.region (L.op rfl rfl (O.move rfl (L.op rfl rfl (O.geq_s rfl rfl (fun h => ?_) (fun h => ?_))))))
    · refine L.nil (T.cond_true rfl (T.seq (T.region (L.op rfl rfl (O.move rfl (L.op rfl rfl (O.shr_u64 rfl rfl rfl (by (try simp only at *); omega) (by omega) (L.op rfl rfl (O.assign rfl (L.nil (T.region (L.op rfl rfl (O.move rfl (L.op rfl rfl (O.add64 rfl rfl (by omega) (L.op rfl rfl (O.assign rfl (L.nil (T.meet ((x1 / 2 ^ 16, s1 + 16)) ⟨rfl, rfl, trivial⟩ ⟨rfl, by have := blen_div 16 x1 (by (try simp only at *); omega); (try simp only at *); omega, by (try simp only at *); omega, by (try simp only at *); omega, by (try simp only at *); omega⟩)))))))))))))))))))
    · refine L.nil (T.cond_false rfl (T.skip (T.meet ((x1, s1)) ⟨rfl, rfl, trivial⟩ ⟨rfl, by (try simp only at *); omega, by (try simp only at *); omega, by (try simp only at *); omega, by (try simp only at *); omega⟩)))
  rintro ⟨x2, s2⟩ w2 ⟨rfl, hb2, hx2, hs2, hs2'⟩
  refine T.seq (?_)
  refine T.join (σ := Nat × Int) (fun s => [(0, .int .u64 s.1), (2, .int .i64 s.2)]) (fun s w' => w = w' ∧ (blen m : Int) = blen s.1 + s.2 ∧ s.1 < 256 ∧ 0 ≤ s.2 ∧ s.2 ≤ 56) ?_ ?_
  · refine T.seq (T.region (L.op rfl rfl (O.move rfl (L.op rfl rfl (O.geq_s rfl rfl (fun h => ?_) (fun h => ?_))))))
    · refine L.nil (T.cond_true rfl (T.seq (T.region (L.op rfl rfl (O.move rfl (L.op rfl rfl (O.shr_u64 rfl rfl rfl (by (try simp only at *); omega) (by omega) (L.op rfl rfl (O.assign rfl (L.nil (T.region (L.op rfl rfl (O.move rfl (L.op rfl rfl (O.add64 rfl rfl (by omega) (L.op rfl rfl (O.assign rfl (L.nil (T.meet ((x2 / 2 ^ 8, s2 + 8)) ⟨rfl, rfl, trivial⟩ ⟨rfl, by have := blen_div 8 x2 (by (try simp only at *); omega); (try simp only at *); omega, by (try simp only at *); omega, by (try simp only at *); omega, by (try simp only at *); omega⟩)))))))))))))))))))
    · refine L.nil (T.cond_false rfl (T.skip (T.meet ((x2, s2)) ⟨rfl, rfl, trivial⟩ ⟨rfl, by (try simp only at *); omega, by (try simp only at *); omega, by (try simp only at *); omega, by (try simp only at *); omega⟩)))
  rintro ⟨x3, s3⟩ w3 ⟨rfl, hb3, hx3, hs3, hs3'⟩
  simp only at hb3 hx3 hs3 hs3'
  have hb8 : blen x3 ≤ 8 := (blen_le 8 x3).2 hx3
  refine T.seq (T.region (L.op rfl rfl (O.move rfl (L.op rfl rfl (O.move rfl (L.op rfl rfl (O.conv_to rfl (fun w => ⟨_, Tryd.runUnderlying46 w⟩) Tryd.runUnderlying5 (IntWalk.u8_in _ ⟨by simp only; omega, by simp only; omega⟩) (L.op rfl rfl (O.index_str Tryd.runUnderlying9 rfl rfl (by simp only; omega) (lenTab_at (n := x3) hx3) (L.op rfl rfl (O.conv_to rfl (fun w => ⟨_, Tryd.runUnderlying5 w⟩) Tryd.runUnderlying3 (len_conv hb8) (L.op rfl rfl (O.add64 rfl rfl (by omega) (L.op rfl rfl (O.assign rfl (L.nil (T.ret1 Tryd.results80 rfl ⟨?_, rfl⟩)))))))))))))))))
  rw [hb3]; simp only; congr 1; omega

theorem TZ_calls (m t : Nat) (w : World) (hm : m < 18446744073709551616) (ht : Low m t) (hT : Tab w) :
    Calls Tryd.prog 86 #[.int .u64 m] w (Ret fun v w' => v = .int .i64 t ∧ w' = w) := by
  have hpos := ht.pos
  have hone := ht.one hm
  have hdb := dbTab_at (ht.lt hm)
  have htl := ht.lt hm
  refine T.enter (vs := [.int .u64 m]) Tryd.func86 rfl Tryd.ntmps86 rfl ?_
  refine T.seq (T.region (L.op rfl rfl (O.assign rfl (L.nil (T.seq (T.seq (T.region (L.op rfl rfl (O.move rfl (L.op rfl rfl (O.eql_f rfl rfl (by omega) (L.nil (T.cond_false rfl (T.skip (T.seq (T.region (L.op rfl rfl (O.move rfl (L.op rfl rfl (O.move rfl (L.op rfl rfl (O.neg rfl (L.op rfl rfl (O.and_u64 (b := 18446744073709551616 - m) rfl (by rw [IntKind.wrap_u64]; omega) hm (by omega) rfl rfl (L.op rfl rfl (O.mul_u64 rfl (show (285870213051353865 : Int) = ((285870213051353865 : Nat) : Int) from rfl) (Nat.lt_of_le_of_lt Nat.and_le_left hm) (by decide) rfl rfl (L.op rfl rfl (O.shr_u64 rfl rfl rfl (Nat.mod_lt _ (by decide)) (by omega) (L.op rfl rfl (O.indexAddr_arr Tryd.runUnderlying125 Tryd.sizeOf5 rfl rfl (Int.natCast_nonneg _) (Int.ofNat_lt.2 (tz_ix hone htl)) (L.op rfl rfl (O.load Tryd.isAgg5 rfl (tz_load hT hone htl) (L.op rfl rfl (O.conv_to rfl (fun w => ⟨_, Tryd.runUnderlying5 w⟩) Tryd.runUnderlying3 (IntWalk.i64_in _ ⟨by omega, by omega⟩) (L.op rfl rfl (O.assign rfl (?_)))))))))))))))))))))))))))))))))))))
  refine L.nil (T.ret1 Tryd.results86 rfl ⟨rfl, rfl⟩)

end Go.Proofs.YthjdljbghjelfaaDoor
set_option linter.unusedVariables false
set_option linter.unusedSimpArgs false
set_option maxRecDepth 20000
namespace Go.Proofs.YthjdljbghjelfaaDoor
open Go Go.E
attribute [local irreducible] Go.E.T Go.E.L Go.E.O Go.E.Ob

theorem setErr_bad {N : Int} {es : List (Int × Int)} {m : Nat} (h : graphErr N es ≠ 0) : setErr N es m = graphErr N es := by rw [setErr, if_neg h]
theorem setErr_ok {N : Int} {es : List (Int × Int)} {m : Nat} (h : graphErr N es = 0) (hm : m < 2 ^ N.toNat) : setErr N es m = 0 := by rw [setErr, if_pos h, if_pos hm]
theorem setErr_arg {N : Int} {es : List (Int × Int)} {m : Nat} (h : graphErr N es = 0) (hm : ¬ m < 2 ^ N.toNat) : setErr N es m = 2 := by rw [setErr, if_pos h, if_neg hm]
theorem div_zero_lt {m k : Nat} (h : ((m / 2 ^ k : Nat) : Int) = 0) : m < 2 ^ k := by
  have h2 : m / 2 ^ k = 0 := by omega
  rcases Nat.div_eq_zero_iff.1 h2 with h3 | h3
  · have := Nat.pow_pos (n := k) (show 0 < 2 by decide); omega
  · exact h3
/-- The edges are as a valid graph has them. -/
def Good (N : Int) (es : List (Int × Int)) : Prop := 1 ≤ N ∧ N ≤ 64 ∧ ∀ i, i < es.length → 0 ≤ (es.getD i (0, 0)).1 ∧ (es.getD i (0, 0)).1 < (es.getD i (0, 0)).2 ∧ (es.getD i (0, 0)).2 < N
theorem good_of {N : Int} : ∀ {es : List (Int × Int)} {p : Int × Int}, edgesOk N p es = true → ∀ i, i < es.length → 0 ≤ (es.getD i (0, 0)).1 ∧ (es.getD i (0, 0)).1 < (es.getD i (0, 0)).2 ∧ (es.getD i (0, 0)).2 < N
  | [], _, _, i, hi => by cases hi
  | q :: r, p, h, 0, _ => by
    simp only [edgesOk, edgeOk, Bool.and_eq_true, decide_eq_true_eq] at h
    exact ⟨h.1.1, h.1.2.1, h.1.2.2.1⟩
  | q :: r, p, h, i + 1, hi => by
    simp only [edgesOk, Bool.and_eq_true] at h
    exact good_of h.2 i (by simpa using hi)
theorem Good.of {N : Int} {es : List (Int × Int)} (h : graphErr N es = 0) : Good N es := ⟨(graphErr_ok h).1, (graphErr_ok h).2.1, good_of (graphErr_ok h).2.2.2⟩
/-- The neighbours of a node by the first edges. -/
def nbTo (es : List (Int × Int)) (a : Int) : Nat → Nat
  | 0 => 0
  | i + 1 => if (es.getD i (0, 0)).1 = a then nbTo es a i ||| bit64 (es.getD i (0, 0)).2.toNat else if (es.getD i (0, 0)).2 = a then nbTo es a i ||| bit64 (es.getD i (0, 0)).1.toNat else nbTo es a i
theorem nbTo_lt (es : List (Int × Int)) (a : Int) : ∀ i, nbTo es a i < 18446744073709551616
  | 0 => by simp [nbTo]
  | i + 1 => by
    simp only [nbTo]
    split
    · exact or_lt (nbTo_lt es a i) (bit64_lt _)
    · split
      · exact or_lt (nbTo_lt es a i) (bit64_lt _)
      · exact nbTo_lt es a i
def nbsAt (es : List (Int × Int)) (n i : Nat) : List Nat := (List.range n).map fun d : Nat => nbTo es (d : Int) i
theorem nbsAt_len (es : List (Int × Int)) (n i : Nat) : (nbsAt es n i).length = n := by simp [nbsAt]
theorem nbsAt_get {es : List (Int × Int)} {n i d : Nat} (h : d < n) : (nbsAt es n i).getD d 0 = nbTo es (d : Int) i := by simp [nbsAt, List.getD, h]
theorem nbsAt_zero (es : List (Int × Int)) (n : Nat) : List.replicate n (Value.int .u64 0) = (nbsAt es n 0).map wordV := by
  apply List.ext_getElem
  · simp [nbsAt]
  · intro j h1 h2; simp [nbsAt, nbTo, wordV]
/-- The list with the first end's word set. -/
def nbsMid (es : List (Int × Int)) (n i : Nat) : List Nat := (nbsAt es n i).set (es.getD i (0, 0)).1.toNat (nbTo es (es.getD i (0, 0)).1 i ||| bit64 (es.getD i (0, 0)).2.toNat)
theorem nbsMid_len (es : List (Int × Int)) (n i : Nat) : (nbsMid es n i).length = n := by simp [nbsMid, nbsAt]
theorem nbsMid_get {es : List (Int × Int)} {n i : Nat} {N : Int} (hN : N = n) (hg : Good N es) (hi : i < es.length) : (nbsMid es n i).getD (es.getD i (0, 0)).2.toNat 0 = nbTo es (es.getD i (0, 0)).2 i := by
  have h := hg.2.2 i hi
  rw [nbsMid, List.getD_eq_getElem?_getD, List.getElem?_set_ne (by omega), ← List.getD_eq_getElem?_getD, nbsAt_get (by omega)]
  congr 1; omega
theorem nbs_mid {es : List (Int × Int)} {n i : Nat} {N : Int} (hN : N = n) (hg : Good N es) (hi : i < es.length) : ((nbsAt es n i).map wordV).set (0 + (es.getD i (0, 0)).1.toNat * 1) (.int .u64 (((nbsAt es n i).getD (es.getD i (0, 0)).1.toNat 0 ||| bit64 (es.getD i (0, 0)).2.toNat : Nat) : Int)) = (nbsMid es n i).map wordV := by
  have h := hg.2.2 i hi
  rw [nbsAt_get (show (es.getD i (0, 0)).1.toNat < n by omega), show (((es.getD i (0, 0)).1.toNat : Nat) : Int) = (es.getD i (0, 0)).1 by omega, nbsMid, List.map_set, Nat.zero_add, Nat.mul_one]; rfl
theorem nbs_set {es : List (Int × Int)} {n i : Nat} {N : Int} (hN : N = n) (hg : Good N es) (hi : i < es.length) : ((nbsMid es n i).map wordV).set (0 + (es.getD i (0, 0)).2.toNat * 1) (.int .u64 (((nbsMid es n i).getD (es.getD i (0, 0)).2.toNat 0 ||| bit64 (es.getD i (0, 0)).1.toNat : Nat) : Int)) = (nbsAt es n (i + 1)).map wordV := by
  have h := hg.2.2 i hi
  rw [nbsMid_get hN hg hi]
  have e2 : ∀ d : Nat, nbTo es (d : Int) (i + 1) = if (es.getD i (0, 0)).1 = d then nbTo es d i ||| bit64 (es.getD i (0, 0)).2.toNat else if (es.getD i (0, 0)).2 = d then nbTo es d i ||| bit64 (es.getD i (0, 0)).1.toNat else nbTo es d i := fun d => rfl
  apply List.ext_getElem
  · simp [nbsMid, nbsAt]
  · intro j h1 h2
    have hj : j < n := by simpa [nbsAt] using h2
    simp only [Nat.zero_add, Nat.mul_one]
    by_cases hj2 : (es.getD i (0, 0)).2.toNat = j
    · subst hj2
      rw [List.getElem_set_self]
      simp only [nbsAt, List.getElem_map, List.getElem_range, wordV, e2]
      rw [if_neg (by omega), if_pos (by omega), show (((es.getD i (0, 0)).2.toNat : Nat) : Int) = (es.getD i (0, 0)).2 by omega]
    · rw [List.getElem_set_ne hj2]
      simp only [List.getElem_map, nbsMid]
      by_cases hj1 : (es.getD i (0, 0)).1.toNat = j
      · subst hj1
        rw [List.getElem_set_self]
        simp only [nbsAt, List.getElem_map, List.getElem_range, e2]
        rw [if_pos (by omega), show (((es.getD i (0, 0)).1.toNat : Nat) : Int) = (es.getD i (0, 0)).1 by omega]
      · rw [List.getElem_set_ne hj1]
        simp only [nbsAt, List.getElem_map, List.getElem_range, e2]
        rw [if_neg (by omega), if_neg (by omega)]
def nbs (es : List (Int × Int)) (n : Nat) : List Nat := nbsAt es n es.length
theorem gcheck_calls (lo : Nat) (N : Int) (p : Value) (es : List (Int × Int)) (m : Nat) (w : World) (hp : Pairs lo w p es) (hm : m < 18446744073709551616) :
    Calls Tryd.prog 74 #[gV N p, .int .u64 m] w (Ret fun v w' => v = .int .i64 (setErr N es m) ∧ Ext w w') := by
  refine T.enter (vs := [gV N p, .int .u64 m]) Tryd.func74 rfl Tryd.ntmps74 rfl ?_
  refine T.seq (T.region (L.op rfl rfl (O.box rfl (fun b1 w1 hb1 hz1 he1 hB1 => ?_))))
  have hp1 := hp.keep (he1.mono (Nat.zero_le lo))
  refine L.op rfl rfl (O.assign rfl (L.nil (T.seq (T.seq (T.region (L.op rfl rfl (O.loadAgg Tryd.isAgg33 Tryd.sizeOf33 rfl rfl hB1.row (L.op rfl rfl (O.call (xs := [.tmp 6]) Tryd.call68 rfl rfl (gCheck_calls lo N p es w1 hp1) (fun v2 w2 hq => ?_))))))))))
  obtain ⟨rfl, he2⟩ := hq
  refine L.op rfl rfl (O.assign rfl (L.nil (T.seq (T.region (L.op rfl rfl (O.move rfl (L.op rfl rfl (O.neq_s rfl rfl (fun hne => ?_) (fun hne => ?_)))))))))
  · refine L.nil (T.cond_true rfl (T.seq (T.region (L.op rfl rfl (O.move rfl (L.op rfl rfl (O.assign rfl (L.nil (T.ret1 Tryd.results74 rfl ⟨by rw [setErr_bad hne], he1.trans he2⟩)))))))))
  · refine L.nil (?_)
    have hl := blen_le N.toNat m
    have hN := (graphErr_ok hne).1
    by_cases hlt : m < 2 ^ N.toNat
    · refine T.cond_false rfl (T.skip (T.seq (T.seq (?_))))
      refine T.par mixed 5 [1, 2] rfl [.is _, .is _, .is _, .is _, .is _] [[], [0], [], [2], [1, 3]] (by kernel_rfl) rfl ⟨trivial, trivial, trivial, trivial, trivial, trivial⟩ ⟨fun wx hx => Ob.op rfl (O.move rfl ⟨Keep.refl _ _, rfl⟩),
          fun wx hx => Ob.op rfl (O.call (xs := [.tmp 11]) Tryd.call80 rfl rfl (Len64_calls m wx hm) (fun v wy h => ⟨Keep.of_eq h.2, h.1⟩)),
          fun wx hx => Ob.op rfl (O.fieldAddr Tryd.runUnderlying33 rfl Tryd.sizeOf3 rfl ⟨Keep.refl _ _, rfl⟩),
          fun wx hx => Ob.op rfl (O.load Tryd.isAgg3 rfl (Blk.at ((hB1.keep (he2.trans hx) (Nat.zero_le _))) rfl) ⟨Keep.refl _ _, rfl⟩),
          fun wx hx => Ob.op rfl (O.gtr_f rfl rfl (by have := hl.2 hlt; omega) ⟨Keep.refl _ _, rfl⟩),
          trivial⟩ (fun w3 he3 => ?_)
      refine L.nil (T.cond_false rfl (T.skip (T.seq (T.region (L.op rfl rfl (O.assign rfl (L.nil (T.ret1 Tryd.results74 rfl ⟨by rw [setErr_ok hne hlt], (he1.trans he2).trans he3⟩))))))))
    · refine T.cond_false rfl (T.skip (T.seq (T.seq (?_))))
      refine T.par mixed 5 [1, 2] rfl [.is _, .is _, .is _, .is _, .is _] [[], [0], [], [2], [1, 3]] (by kernel_rfl) rfl ⟨trivial, trivial, trivial, trivial, trivial, trivial⟩ ⟨fun wx hx => Ob.op rfl (O.move rfl ⟨Keep.refl _ _, rfl⟩),
          fun wx hx => Ob.op rfl (O.call (xs := [.tmp 11]) Tryd.call80 rfl rfl (Len64_calls m wx hm) (fun v wy h => ⟨Keep.of_eq h.2, h.1⟩)),
          fun wx hx => Ob.op rfl (O.fieldAddr Tryd.runUnderlying33 rfl Tryd.sizeOf3 rfl ⟨Keep.refl _ _, rfl⟩),
          fun wx hx => Ob.op rfl (O.load Tryd.isAgg3 rfl (Blk.at ((hB1.keep (he2.trans hx) (Nat.zero_le _))) rfl) ⟨Keep.refl _ _, rfl⟩),
          fun wx hx => Ob.op rfl (O.gtr_t rfl rfl (by have := mt hl.1 hlt; omega) ⟨Keep.refl _ _, rfl⟩),
          trivial⟩ (fun w3 he3 => ?_)
      refine L.nil (T.cond_true rfl (T.seq (T.region (L.op rfl rfl (O.assign rfl (L.nil (T.ret1 Tryd.results74 rfl ⟨by rw [setErr_arg hne hlt], (he1.trans he2).trans he3⟩)))))))

theorem Fitted_calls (lo : Nat) (N : Int) (p : Value) (es : List (Int × Int)) (m : Nat) (w : World) (hp : Pairs lo w p es) (hm : m < 18446744073709551616) :
    Calls Tryd.prog 76 #[gV N p, .int .u64 m] w (Ret fun v w' => v = .int .i64 (setErr N es m) ∧ Ext w w') := by
  refine T.enter (vs := [gV N p, .int .u64 m]) Tryd.func76 rfl Tryd.ntmps76 rfl ?_
  refine T.seq (T.region (L.op rfl rfl (O.box rfl (fun b1 w1 hb1 hz1 he1 hB1 => ?_))))
  have hp1 := hp.keep (he1.mono (Nat.zero_le lo))
  refine L.op rfl rfl (O.assign rfl (L.nil (T.seq (T.seq (T.region (L.op rfl rfl (O.loadAgg Tryd.isAgg33 Tryd.sizeOf33 rfl rfl hB1.row (L.op rfl rfl (O.call (xs := [.tmp 6]) Tryd.call52 rfl rfl (RCheck_calls lo N p es w1 hp1) (fun v2 w2 hq => ?_))))))))))
  obtain ⟨rfl, he2⟩ := hq
  refine L.op rfl rfl (O.assign rfl (L.nil (T.seq (T.region (L.op rfl rfl (O.move rfl (L.op rfl rfl (O.neq_s rfl rfl (fun hne => ?_) (fun hne => ?_)))))))))
  · refine L.nil (T.cond_true rfl (T.seq (T.region (L.op rfl rfl (O.move rfl (L.op rfl rfl (O.assign rfl (L.nil (T.ret1 Tryd.results76 rfl ⟨by rw [setErr_bad hne], he1.trans he2⟩)))))))))
  · refine L.nil (?_)
    have hN := (graphErr_ok hne).1
    have hN2 := (graphErr_ok hne).2.1
    have hB2 := hB1.keep he2 (Nat.zero_le _)
    refine T.cond_false rfl (T.skip (T.seq (T.seq (T.region (L.op rfl rfl (O.fieldAddr Tryd.runUnderlying33 rfl Tryd.sizeOf3 rfl (L.op rfl rfl (O.load Tryd.isAgg3 rfl (Blk.at hB2 rfl) (L.op rfl rfl (O.lss_s rfl rfl (fun h64 => ?_) (fun h64 => ?_)))))))))))
    · refine L.op rfl rfl (O.move rfl (L.op rfl rfl (O.move rfl (L.op rfl rfl (O.fieldAddr Tryd.runUnderlying33 rfl Tryd.sizeOf3 rfl (L.op rfl rfl (O.load Tryd.isAgg3 rfl (Blk.at hB2 rfl) (L.op rfl rfl (O.conv_to rfl (fun w => ⟨_, Tryd.runUnderlying3 w⟩) Tryd.runUnderlying121 (IntWalk.u64_in _ ⟨by omega, by omega⟩) (L.op rfl rfl (O.shr_u64 rfl rfl rfl hm (by omega) (L.op rfl rfl (O.neq_s rfl rfl (fun hz => ?_) (fun hz => ?_))))))))))))))
      · refine L.op rfl rfl (O.pick_true rfl rfl (L.nil (T.cond_true rfl (T.seq (T.region (L.op rfl rfl (O.assign rfl (L.nil (T.ret1 Tryd.results76 rfl ⟨by rw [setErr_arg hne (fun h => hz (by rw [Nat.div_eq_of_lt h]; rfl))], he1.trans he2⟩)))))))))
      · refine L.op rfl rfl (O.pick_true rfl rfl (L.nil (T.cond_false rfl (T.skip (T.seq (T.region (L.op rfl rfl (O.assign rfl (L.nil (T.ret1 Tryd.results76 rfl ⟨by rw [setErr_ok hne (div_zero_lt hz)], he1.trans he2⟩))))))))))
    · refine L.op rfl rfl (O.move rfl (L.pass rfl rfl (L.pass rfl rfl (L.pass rfl rfl (L.pass rfl rfl (L.pass rfl rfl (L.pass rfl rfl (L.op rfl rfl (O.pick_false rfl rfl (L.nil (T.cond_false rfl (T.skip (T.seq (T.region (L.op rfl rfl (O.assign rfl (L.nil (T.ret1 Tryd.results76 rfl ⟨by rw [setErr_ok hne (by rw [show N.toNat = 64 by omega]; exact hm)], he1.trans he2⟩))))))))))))))))))

theorem around_calls (lo n : Nat) (p : Value) (es : List (Int × Int)) (w : World) (hp : Pairs lo w p es) (hg : Good n es) :
    Calls Tryd.prog 81 #[gV n p] w (Ret fun v w' => Ext w w' ∧ Words w.heap.size w' v (nbs es n)) := by
  have hle := Sl.le hp
  have hg1 := hg.1
  have hg2 := hg.2.1
  have hml : n ≤ maxLen := by unfold maxLen; omega
  refine T.enter (vs := [gV n p]) Tryd.func81 rfl Tryd.ntmps81 rfl ?_
  refine T.seq (T.region (L.op rfl rfl (O.box rfl (fun b1 w1 hb1 hz1 he1 hB1 => ?_))))
  have hp1 := hp.keep (he1.mono (Nat.zero_le lo))
  refine L.op rfl rfl (O.assign rfl (L.nil (T.seq (T.region (L.op rfl rfl (O.fieldAddr Tryd.runUnderlying33 rfl Tryd.sizeOf3 rfl (L.op rfl rfl (O.load Tryd.isAgg3 rfl (Blk.at hB1 rfl) (L.op rfl rfl (O.makeSlice Tryd.runUnderlying38 Tryd.typeInfo46 Tryd.sizeOf46 Tryd.zeroValue46 rfl rfl rfl (by show n * 8 ≤ _; omega) (by omega) (fun b2 w2 hb2 hz2 he2 hB2 => ?_)))))))))))
  refine L.op rfl rfl (O.assign rfl (L.nil (T.seq (T.seq (T.region (L.op rfl rfl (O.fieldAddr Tryd.runUnderlying33 rfl Tryd.sizeOf31 rfl (L.op rfl rfl (O.load Tryd.isAgg31 rfl (Blk.at (hB1.keep he2 (Nat.zero_le _)) rfl) (?_))))))))))
  have hp2 := hp1.keep (he2.mono (Nat.zero_le lo))
  refine L.op rfl rfl (O.len Tryd.runUnderlying31 rfl (Sl.val hp2) (L.op rfl rfl (O.move rfl (L.nil (T.block (?_))))))
  refine T.loop (σ := Nat) (fun i => [(3, .slice (some ⟨b2, 0, none⟩) n n), (10, p), (11, .int .i64 es.length), (12, .int .i64 i)]) (fun i w' => i ≤ es.length ∧ Ext w w' ∧ Blk w' b2 ((nbsAt es n i).map wordV) 46) (fun i => es.length - i) (0) ⟨rfl, rfl, rfl, rfl, trivial⟩ ⟨Nat.zero_le _, he1.trans he2, by rw [← nbsAt_zero]; exact hB2⟩ ?_
  rintro i w3 ⟨hi, he3, hB3⟩
  refine T.seq (T.region (L.op rfl rfl (O.lss_s rfl rfl (fun hlt => ?_) (fun hlt => ?_))))
  · refine L.nil (?_)
    have hlt' : i < es.length := by omega
    have hgi := hg.2.2 i hlt'
    have hp3 := hp.keep (he3.mono (Nat.zero_le lo))
    refine T.seq (T.cond_true rfl (T.skip (T.seq (T.block (T.seq (T.region (L.op rfl rfl (O.indexAddr Tryd.runUnderlying31 Tryd.sizeOf80 rfl rfl hp3 (by omega) (by omega) (L.op rfl rfl (O.loadAgg Tryd.isAgg80 Tryd.sizeOf80 rfl rfl (Pairs.row hp3 hlt') (L.op rfl rfl (O.alloc Tryd.zeroValue80 (fun b5 w5 hb5 hz5 he5 hB5 => ?_)))))))))))))
    refine L.op rfl rfl (O.storeAgg Tryd.sizeOf80 rfl rfl rfl hB5 (Nat.le_refl _) (by simp [Value.oneCell']) (fun w6 hu6 hB6 => ?_))
    have hB6' : Blk w6 b5 [.int .i64 (es.getD i (0, 0)).1, .int .i64 (es.getD i (0, 0)).2] 80 := hB6
    have hb25 : b2 < b5 := by have := hB3.lt; omega
    have he56 : Ext w3 w6 := he5.upd hu6 (.inr (by omega))
    have hL6 := hB3.keep he56 (Nat.zero_le _)
    refine L.nil (T.seq (?_))
    refine T.par mixed 9 [3, 5] rfl [.is _, .is _, .is _, .is _, .is _, .is _, .is _, .is _, .is _] [[], [], [1], [0, 2], [3], [], [5], [6], [4, 7]] (by kernel_rfl) rfl ⟨trivial, trivial, trivial, trivial, trivial, trivial, trivial, trivial, trivial, trivial⟩ ⟨fun wx hx => Ob.op rfl (O.move rfl ⟨Keep.refl _ _, rfl⟩),
        fun wx hx => Ob.op rfl (O.indexAddr_arr Tryd.runUnderlying80 Tryd.sizeOf3 rfl rfl (by decide) (by decide) ⟨Keep.refl _ _, rfl⟩),
        fun wx hx => Ob.op rfl (O.load Tryd.isAgg3 rfl (Blk.at (hB6'.keep hx (Nat.zero_le _)) rfl) ⟨Keep.refl _ _, rfl⟩),
        fun wx hx => Ob.op rfl (O.indexAddr Tryd.runUnderlying38 Tryd.sizeOf46 rfl rfl (Words.of_blk (lo := 0) (hL6.keep hx (Nat.zero_le _)) (nbsAt_len _ _ _) hml (Nat.zero_le _)) hgi.1 (by rw [nbsAt_len]; omega) ⟨Keep.refl _ _, rfl⟩),
        fun wx hx => Ob.op rfl (O.load Tryd.isAgg46 rfl (Words.cell (Words.of_blk (lo := 0) (hL6.keep hx (Nat.zero_le _)) (nbsAt_len _ _ _) hml (Nat.zero_le _)) hgi.1 (by rw [nbsAt_len]; omega)) ⟨Keep.refl _ _, rfl⟩),
        fun wx hx => Ob.op rfl (O.indexAddr_arr Tryd.runUnderlying80 Tryd.sizeOf3 rfl rfl (by decide) (by decide) ⟨Keep.refl _ _, rfl⟩),
        fun wx hx => Ob.op rfl (O.load Tryd.isAgg3 rfl (Blk.at (hB6'.keep hx (Nat.zero_le _)) rfl) ⟨Keep.refl _ _, rfl⟩),
        fun wx hx => Ob.op rfl (O.bit_u64 rfl rfl (by omega) ⟨Keep.refl _ _, rfl⟩),
        fun wx hx => Ob.op rfl (O.or_u64 rfl rfl (by rw [nbsAt_get (by omega)]; exact nbTo_lt _ _ _) (bit64_lt _) rfl rfl ⟨Keep.refl _ _, rfl⟩),
        trivial⟩ (fun w7 he7 => ?_)
    have hL7 := hL6.keep he7 (Nat.zero_le _)
    have hB7 := hB6'.keep he7 (Nat.zero_le _)
    refine L.op rfl rfl (O.indexAddr Tryd.runUnderlying38 Tryd.sizeOf46 rfl rfl (Words.of_blk (lo := 0) hL7 (nbsAt_len _ _ _) hml (Nat.zero_le _)) hgi.1 (by rw [nbsAt_len]; omega) (L.op rfl rfl (O.store1_at Tryd.sizeOf46 rfl rfl rfl hL7 (by rw [List.length_map, nbsAt_len]; omega) (fun w8 hu8 hB8 => ?_))))
    rw [nbs_mid rfl hg hlt'] at hB8
    have hB8' := hB7.upd hu8 (by omega)
    refine L.nil (?_)
    refine T.par mixed 9 [3, 5] rfl [.is _, .is _, .is _, .is _, .is _, .is _, .is _, .is _, .is _] [[], [], [1], [0, 2], [3], [], [5], [6], [4, 7]] (by kernel_rfl) rfl ⟨trivial, trivial, trivial, trivial, trivial, trivial, trivial, trivial, trivial, trivial⟩ ⟨fun wx hx => Ob.op rfl (O.move rfl ⟨Keep.refl _ _, rfl⟩),
        fun wx hx => Ob.op rfl (O.indexAddr_arr Tryd.runUnderlying80 Tryd.sizeOf3 rfl rfl (by decide) (by decide) ⟨Keep.refl _ _, rfl⟩),
        fun wx hx => Ob.op rfl (O.load Tryd.isAgg3 rfl (Blk.at (hB8'.keep hx (Nat.zero_le _)) rfl) ⟨Keep.refl _ _, rfl⟩),
        fun wx hx => Ob.op rfl (O.indexAddr Tryd.runUnderlying38 Tryd.sizeOf46 rfl rfl (Words.of_blk (lo := 0) (hB8.keep hx (Nat.zero_le _)) (nbsMid_len _ _ _) hml (Nat.zero_le _)) (by omega) (by rw [nbsMid_len]; omega) ⟨Keep.refl _ _, rfl⟩),
        fun wx hx => Ob.op rfl (O.load Tryd.isAgg46 rfl (Words.cell (Words.of_blk (lo := 0) (hB8.keep hx (Nat.zero_le _)) (nbsMid_len _ _ _) hml (Nat.zero_le _)) (by omega) (by rw [nbsMid_len]; omega)) ⟨Keep.refl _ _, rfl⟩),
        fun wx hx => Ob.op rfl (O.indexAddr_arr Tryd.runUnderlying80 Tryd.sizeOf3 rfl rfl (by decide) (by decide) ⟨Keep.refl _ _, rfl⟩),
        fun wx hx => Ob.op rfl (O.load Tryd.isAgg3 rfl (Blk.at (hB8'.keep hx (Nat.zero_le _)) rfl) ⟨Keep.refl _ _, rfl⟩),
        fun wx hx => Ob.op rfl (O.bit_u64 rfl rfl (by omega) ⟨Keep.refl _ _, rfl⟩),
        fun wx hx => Ob.op rfl (O.or_u64 rfl rfl (by rw [nbsMid_get rfl hg hlt']; exact nbTo_lt _ _ _) (bit64_lt _) rfl rfl ⟨Keep.refl _ _, rfl⟩),
        trivial⟩ (fun w9 he9 => ?_)
    have hL9 := hB8.keep he9 (Nat.zero_le _)
    refine L.op rfl rfl (O.indexAddr Tryd.runUnderlying38 Tryd.sizeOf46 rfl rfl (Words.of_blk (lo := 0) hL9 (nbsMid_len _ _ _) hml (Nat.zero_le _)) (by omega) (by rw [nbsMid_len]; omega) (L.op rfl rfl (O.store1_at Tryd.sizeOf46 rfl rfl rfl hL9 (by rw [List.length_map, nbsMid_len]; omega) (fun w10 hu10 hB10 => ?_))))
    rw [nbs_set rfl hg hlt'] at hB10
    refine L.nil (T.blk (T.region (L.op rfl rfl (O.add64 rfl rfl (by omega) (L.op rfl rfl (O.move rfl (L.nil (T.again (i + 1) (by omega) ⟨rfl, rfl, rfl, rfl, trivial⟩ ⟨by omega, (((he3.trans he56).trans he7).upd hu8 (.inr (by omega))).trans he9 |>.upd hu10 (.inr (by omega)), hB10⟩))))))))
  · refine L.nil (?_)
    obtain rfl : i = es.length := by omega
    refine T.seq (T.cond_false rfl (T.exit rfl (T.seq (T.region (L.op rfl rfl (O.move rfl (L.op rfl rfl (O.assign rfl (L.nil (T.ret1 Tryd.results81 rfl ⟨he3, Words.of_blk hB3 (nbsAt_len _ _ _) hml (by have := he1.size; omega)⟩))))))))))

/-- A node is taken from a set: the least. -/
def NextBit (m : Nat) (v : Value) (m' : Nat) : Prop := ∃ t, Low m t ∧ v = .int .i64 (t : Int) ∧ m' = m &&& (m - 1)
theorem nodes_calls (m : Nat) (w : World) :
    Calls Tryd.prog 82 #[.int .u64 m] w (Ret fun v w' => Ext w w' ∧ v = .func (.func 85) #[] #[.pointer (some ⟨w.heap.size, 0, none⟩)] ∧ Blk w' w.heap.size [.int .u64 m] 46 ∧ w'.heap.size = w.heap.size + 1) := by
  refine T.enter (vs := [.int .u64 m]) Tryd.func82 rfl Tryd.ntmps82 rfl ?_
  refine T.seq (T.region (L.op rfl rfl (O.box rfl (fun b1 w1 hb1 hz1 he1 hB1 => ?_))))
  subst hb1
  refine L.op rfl rfl (O.assign rfl (L.nil (T.seq (T.region (L.op rfl rfl (O.makeFunc (fi := []) (ca := [.tmp 1]) rfl rfl (L.op rfl rfl (O.assign rfl (L.nil (T.ret1 Tryd.results82 rfl ⟨he1, rfl, hB1, hz1⟩))))))))))

theorem nodes1_calls (l b m : Nat) (hm : m < 18446744073709551616) (J : Nat → (Nat → Prop) → World → Prop) (X : World → Prop) (w : World) (hJ : Stab J) (hInv : ∀ i S W, J i S W → Tab W) (hround : ∀ i v j S W, NextBit i v j → J i S W → Yld Tryd.prog l #[v] W fun u W' => (u = .bool true ∧ J j S W' ∧ ∀ k, S k → W'.heap[k]? = W.heap[k]?) ∨ (u = .bool false ∧ X W')) (h0 : J m (· = b) w) (hP : Blk w b [.int .u64 m] 46) :
    Calls Tryd.prog 85 #[.func (.yield l) #[] #[], .pointer (some ⟨b, 0, none⟩)] w (Ret fun _ w' => (∃ S, (∀ k, k = b → S k) ∧ J 0 S w') ∨ X w') := by
  refine T.enter (vs := [.func (.yield l) #[] #[], .pointer (some ⟨b, 0, none⟩)]) Tryd.func85 rfl Tryd.ntmps85 rfl ?_
  refine T.block (?_)
  refine T.loop (σ := Nat) (fun m' => [(0, .func (.yield l) #[] #[]), (1, .pointer (some ⟨b, 0, none⟩))]) (fun m' w' => m' < 18446744073709551616 ∧ J m' (· = b) w' ∧ Blk w' b [.int .u64 m'] 46) (fun m' => m') (m) ⟨rfl, rfl, trivial⟩ ⟨hm, h0, hP⟩ ?_
  rintro m' w2 ⟨hm', hj, hB⟩
  refine T.seq (T.seq (T.region (L.op rfl rfl (O.load Tryd.isAgg46 rfl (hB.cell rfl) (L.op rfl rfl (O.neq_s rfl rfl (fun hz => ?_) (fun hz => ?_)))))))
  · refine L.nil (?_)
    obtain ⟨t, ht⟩ := Low.ex (m := m') (by omega)
    refine T.cond_true rfl (T.skip (T.seq (T.block (T.seq (T.region (L.op rfl rfl (O.move rfl (L.op rfl rfl (O.load Tryd.isAgg46 rfl (hB.cell rfl) (L.op rfl rfl (O.call (xs := [.tmp 10]) Tryd.call86 rfl rfl (TZ_calls m' t w2 hm' ht (hInv _ _ _ hj)) (fun v3 w3 hq => ?_))))))))))))
    obtain ⟨rfl, rfl⟩ := hq
    refine L.op rfl rfl (O.yield (xs := [.tmp 11]) rfl rfl rfl (hround m' _ _ _ _ ⟨t, ht, rfl, rfl⟩ hj) (fun v4 w4 hq => ?_))
    obtain hq := hq
    rcases hq with ⟨rfl, hj4, hk4⟩ | ⟨rfl, hX⟩
    · have hB4 : Blk w4 b [.int .u64 m'] 46 := (hk4 b rfl).trans hB
      refine L.op rfl rfl (O.not rfl (L.nil (T.cond_false rfl (T.skip (T.blk (T.region (L.op rfl rfl (O.load Tryd.isAgg46 rfl (hB4.cell rfl) (L.op rfl rfl (O.load Tryd.isAgg46 rfl (hB4.cell rfl) (L.op rfl rfl (O.sub_u64 rfl (show (1 : Int) = ((1 : Nat) : Int) from rfl) hm' (by decide) rfl rfl (by omega) (L.op rfl rfl (O.and_u64 rfl rfl hm' (by omega) rfl rfl (L.op rfl rfl (O.store1 Tryd.sizeOf46 rfl rfl rfl hB4 (by simp [Value.cells]) (fun w5 hu5 hB5 => ?_)))))))))))))))))
      refine L.nil (T.again (m' &&& (m' - 1)) (Nat.lt_of_le_of_lt Nat.and_le_right (by omega)) ⟨rfl, rfl, trivial⟩ ⟨Nat.lt_of_le_of_lt Nat.and_le_left hm', hJ.2 _ _ _ _ b hj4 rfl hu5, hB5⟩)
    · refine L.op rfl rfl (O.not rfl (L.nil (T.cond_true rfl (T.ret0 Tryd.results85 (.inr hX)))))
  · refine L.nil (?_)
    obtain rfl : m' = 0 := by omega
    refine T.cond_false rfl (T.exit rfl (T.end0 Tryd.results85 (.inl ⟨_, fun _ h => h, hj⟩)))

theorem nodes_seq (b m : Nat) (hm : m < 18446744073709551616) : SeqC Tryd.prog 85 #[.pointer (some ⟨b, 0, none⟩)] NextBit m 0 Tab (· = b) (fun W => Blk W b [.int .u64 m] 46) :=
  fun l J X W hJ hInv hround h0 hP => nodes1_calls l b m hm J X W hJ hInv hround h0 hP
end Go.Proofs.YthjdljbghjelfaaDoor
set_option linter.unusedVariables false
set_option linter.unusedSimpArgs false
set_option maxRecDepth 20000
namespace Go.Proofs.YthjdljbghjelfaaDoor
open Go Go.E
attribute [local irreducible] Go.E.T Go.E.L Go.E.O Go.E.Ob

/-- Every bit of the first is one of the second. -/
def Inc (p m : Nat) : Prop := ∀ i, p.testBit i = true → m.testBit i = true
theorem Inc.refl (p : Nat) : Inc p p := fun _ h => h
theorem Inc.trans {a b c : Nat} (h : Inc a b) (k : Inc b c) : Inc a c := fun i hi => k i (h i hi)
theorem Inc.le {p m : Nat} (h : Inc p m) : p ≤ m := by
  have e : p &&& m = p := by
    apply Nat.eq_of_testBit_eq
    intro i
    rw [Nat.testBit_and]
    cases hp : p.testBit i
    · rfl
    · rw [h i hp]; rfl
  have : p &&& m ≤ m := Nat.and_le_right
  omega
theorem Inc.anti {p m : Nat} (h : Inc p m) (k : Inc m p) : p = m := Nat.le_antisymm h.le k.le
theorem testBit_bit64 (i j : Nat) (h : i < 64) : (bit64 i).testBit j = decide (i = j) := by
  unfold bit64
  rw [Nat.mod_eq_of_lt (Nat.pow_lt_pow_right (by decide) h), Nat.testBit_two_pow]
theorem testBit_not {b : Nat} (h : b < 18446744073709551616) (i : Nat) : (18446744073709551615 - b).testBit i = (decide (i < 64) && !b.testBit i) := by
  have e : 18446744073709551615 - b = 2 ^ 64 - (b + 1) := by omega
  rw [e, Nat.testBit_two_pow_sub_succ (by omega)]
theorem bit_small {m i : Nat} (h : m < 18446744073709551616) (hi : m.testBit i = true) : i < 64 := by
  rcases Nat.lt_or_ge i 64 with h1 | h1
  · exact h1
  · rw [Nat.testBit_lt_two_pow (Nat.lt_of_lt_of_le h (Nat.pow_le_pow_right (n := 2) (by decide) h1))] at hi; cases hi
abbrev eA (es : List (Int × Int)) (i : Nat) : Nat := (es.getD i (0, 0)).1.toNat
abbrev eB (es : List (Int × Int)) (i : Nat) : Nat := (es.getD i (0, 0)).2.toNat
/-- No edge of the set leads out of the part. -/
def Closed (es : List (Int × Int)) (m p : Nat) : Prop := ∀ i, i < es.length → m.testBit (eA es i) = true → m.testBit (eB es i) = true → p.testBit (eA es i) = p.testBit (eB es i)
/-- A set is connected: it is not empty, and has no part. -/
def Conn (es : List (Int × Int)) (m : Nat) : Prop := m ≠ 0 ∧ ∀ p, p ≠ 0 → Inc p m → Closed es m p → p = m
/-- Within each closed set that has a node. -/
structure Least (es : List (Int × Int)) (m t p : Nat) : Prop where
  inc : Inc p m
  has : p.testBit t = true
  least : ∀ q, Closed es m q → q.testBit t = true → Inc p q
theorem Least.ne {es : List (Int × Int)} {m t p : Nat} (h : Least es m t p) : p ≠ 0 := by
  rintro rfl; have := h.has; simp at this
theorem Least.start {es : List (Int × Int)} {m t p : Nat} (ht : m.testBit t = true) (hp : ∀ i, p.testBit i = decide (t = i)) : Least es m t p :=
  ⟨fun i hi => by rw [hp, decide_eq_true_eq] at hi; subst hi; exact ht, by rw [hp]; simp, fun q _ hq i hi => by rw [hp, decide_eq_true_eq] at hi; subst hi; exact hq⟩
theorem Least.conn {es : List (Int × Int)} {m t p : Nat} (hm : m < 18446744073709551616) (h : Least es m t p) (hc : Closed es m p) : Conn es m ↔ p = m := by
  constructor
  · intro hC
    exact hC.2 p h.ne h.inc hc
  · rintro rfl
    refine ⟨h.ne, fun q hq hi hcq => ?_⟩
    cases hqt : q.testBit t
    · exfalso
      have hx : ∀ i, (p ^^^ q).testBit i = (p.testBit i && !q.testBit i) := fun i => by
        rw [Nat.testBit_xor]
        cases hq2 : q.testBit i
        · cases p.testBit i <;> rfl
        · rw [hi i hq2]; rfl
      have hcl : Closed es p (p ^^^ q) := fun i hl ha hb => by rw [hx, hx, ha, hb, hcq i hl ha hb]
      have hle := h.least _ hcl (by rw [hx, h.has, hqt]; rfl)
      obtain ⟨j, hj⟩ := Nat.exists_testBit_of_ne_zero hq
      have := hle j (hi j hj)
      rw [hx, hj] at this; simp at this
    · exact (hi.anti (h.least q hcq hqt))
/-- What a node's word says. -/
theorem nbTo_bit {N : Int} {es : List (Int × Int)} (hg : Good N es) (a b : Nat) : ∀ i, i ≤ es.length → ((nbTo es (a : Int) i).testBit b = true ↔ ∃ j, j < i ∧ ((eA es j = a ∧ eB es j = b) ∨ (eB es j = a ∧ eA es j = b)))
  | 0, _ => by simp [nbTo]
  | i + 1, hi => by
    have ih := nbTo_bit hg a b i (by omega)
    have h := hg.2.2 i (by omega)
    have hN := hg.2.1
    have step : (∃ j, j < i + 1 ∧ ((eA es j = a ∧ eB es j = b) ∨ (eB es j = a ∧ eA es j = b))) ↔ (∃ j, j < i ∧ ((eA es j = a ∧ eB es j = b) ∨ (eB es j = a ∧ eA es j = b))) ∨ ((eA es i = a ∧ eB es i = b) ∨ (eB es i = a ∧ eA es i = b)) := by
      constructor
      · rintro ⟨j, hj, hh⟩
        rcases Nat.lt_or_ge j i with h1 | h1
        · exact .inl ⟨j, h1, hh⟩
        · obtain rfl : j = i := by omega
          exact .inr hh
      · rintro (⟨j, hj, hh⟩ | hh)
        · exact ⟨j, by omega, hh⟩
        · exact ⟨i, by omega, hh⟩
    rw [step, ← ih]
    clear ih step
    simp only [nbTo, eA, eB]
    split
    · rw [Nat.testBit_or, testBit_bit64 _ _ (by omega), Bool.or_eq_true, decide_eq_true_eq]
      exact or_congr_right (by omega)
    · split
      · rw [Nat.testBit_or, testBit_bit64 _ _ (by omega), Bool.or_eq_true, decide_eq_true_eq]
        exact or_congr_right (by omega)
      · exact (or_iff_left (by omega)).symm
/-- The part and its neighbours in the set. -/
def Grown (es : List (Int × Int)) (m p x : Nat) : Prop := ∀ b, x.testBit b = true ↔ (p.testBit b = true ∨ (m.testBit b = true ∧ ∃ a, p.testBit a = true ∧ (nbTo es (a : Int) es.length).testBit b = true))
theorem Grown.inc {es : List (Int × Int)} {m p x : Nat} (h : Grown es m p x) : Inc p x := fun b hb => (h b).2 (.inl hb)
theorem Least.grow {N : Int} {es : List (Int × Int)} {m t p x : Nat} (hg : Good N es) (h : Least es m t p) (k : Grown es m p x) : Least es m t x := by
  refine ⟨fun b hb => ?_, k.inc t h.has, fun q hq hqt b hb => ?_⟩
  · rcases (k b).1 hb with h1 | ⟨h1, _⟩
    · exact h.inc b h1
    · exact h1
  · rcases (k b).1 hb with h1 | ⟨h1, a, h2, h3⟩
    · exact h.least q hq hqt b h1
    · obtain ⟨j, hj, hh⟩ := (nbTo_bit hg a b _ (Nat.le_refl _)).1 h3
      have hqa := h.least q hq hqt a h2
      have hma := h.inc a h2
      rcases hh with ⟨h4, h5⟩ | ⟨h4, h5⟩
      · have := hq j hj (by rw [h4]; exact hma) (by rw [h5]; exact h1)
        rw [h4, h5, hqa] at this; exact this.symm
      · have := hq j hj (by rw [h5]; exact h1) (by rw [h4]; exact hma)
        rw [h4, h5, hqa] at this; exact this
theorem Grown.closed {N : Int} {es : List (Int × Int)} {m p : Nat} (hg : Good N es) (k : Grown es m p p) : Closed es m p := by
  intro i hi ha hb
  cases hpa : p.testBit (eA es i)
  · cases hpb : p.testBit (eB es i)
    · rfl
    · have := (k (eA es i)).2 (.inr ⟨ha, eB es i, hpb, (nbTo_bit hg _ _ _ (Nat.le_refl _)).2 ⟨i, hi, .inr ⟨rfl, rfl⟩⟩⟩)
      rw [hpa] at this; cases this
  · have := (k (eB es i)).2 (.inr ⟨hb, eA es i, hpa, (nbTo_bit hg _ _ _ (Nat.le_refl _)).2 ⟨i, hi, .inl ⟨rfl, rfl⟩⟩⟩)
    rw [this]
/-- What the components that have been found say. -/
def Found (es : List (Int × Int)) (m rest k : Nat) : Prop := Inc rest m ∧ ((k = 0 ∧ rest = m) ∨ (k = 1 ∧ ∃ t p, Least es m t p ∧ Closed es m p ∧ ∀ i, rest.testBit i = (m.testBit i && !p.testBit i)) ∨ (2 ≤ k ∧ ∃ t p, Least es m t p ∧ Closed es m p ∧ p ≠ m))
theorem Found.start (es : List (Int × Int)) (m : Nat) : Found es m m 0 := ⟨Inc.refl _, .inl ⟨rfl, rfl⟩⟩
theorem Found.next {es : List (Int × Int)} {m rest k t p r' : Nat} (h : Found es m rest k) (hr : rest ≠ 0) (hl : Least es m t p) (hc : Closed es m p) (he : ∀ i, r'.testBit i = (rest.testBit i && !p.testBit i)) : Found es m r' (k + 1) := by
  refine ⟨fun i hi => h.1 i (by rw [he] at hi; simp at hi; exact hi.1), ?_⟩
  rcases h.2 with ⟨rfl, rfl⟩ | ⟨rfl, t1, p1, hl1, hc1, he1⟩ | ⟨hk, h2⟩
  · exact .inr (.inl ⟨rfl, t, p, hl, hc, he⟩)
  · refine .inr (.inr ⟨by omega, t1, p1, hl1, hc1, ?_⟩)
    rintro rfl
    obtain ⟨j, hj⟩ := Nat.exists_testBit_of_ne_zero hr
    rw [he1] at hj; simp at hj
  · exact .inr (.inr ⟨by omega, h2⟩)
theorem Found.done {es : List (Int × Int)} {m k : Nat} (hm : m < 18446744073709551616) (h : Found es m 0 k) : k = 1 ↔ Conn es m := by
  rcases h.2 with ⟨rfl, rfl⟩ | ⟨rfl, t, p, hl, hc, he⟩ | ⟨hk, t, p, hl, hc, hne⟩
  · exact ⟨fun h => by omega, fun h => absurd rfl h.1⟩
  · refine ⟨fun _ => (hl.conn hm hc).2 (hl.inc.anti fun i hi => ?_), fun _ => rfl⟩
    have := he i
    rw [hi] at this
    cases hp : p.testBit i
    · rw [hp] at this; simp at this
    · rfl
  · exact ⟨fun h => by omega, fun h => absurd ((hl.conn hm hc).1 h) hne⟩
end Go.Proofs.YthjdljbghjelfaaDoor
