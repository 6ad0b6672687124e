/-
  HistoryBack returns true for every input, and each argument reads behind the call as it read before. Conditions: the listed variables read as the program's text lays them (tied by the card).
-/
import Derived.Test.YtmnihgcffdmodaaGreatDoorMh
import Derived.Test.YtmnihgcffdmodaaGreatDoorCards
set_option linter.unusedVariables false
set_option linter.unusedSimpArgs false
set_option maxRecDepth 20000
namespace Go.Proofs.YtmnihgcffdmodaaGreatDoor
open Go Go.E RowKit
attribute [local irreducible] Go.E.T Go.E.L Go.E.O Go.E.Ob

attribute [local irreducible] Go.E.ObX Go.E.ObK Go.E.ObKP
theorem occ_one (s : Str) (c : UInt8) (i : Nat) : Lib.occAt s [c] i = true ↔ s[i]? = some c := by
  unfold Lib.occAt
  rw [← List.head?_drop]
  cases h : s.drop i with
  | nil => simp [List.isPrefixOf]
  | cons a r =>
    simp [List.isPrefixOf]
    exact ⟨fun e => e.symm, fun e => e.symm⟩
theorem last_at {a b : Str} {c : UInt8} (hb : c ∉ b) : Lib.lastIndex (a ++ c :: b) [c] = a.length := by
  rw [Lib.lastIndex, if_pos (by simp; omega)]
  have hl : (a ++ c :: b).length - [c].length + 1 = a.length + 1 + b.length := by simp; omega
  rw [hl]
  have hat : Lib.occAt (a ++ c :: b) [c] a.length = true := by rw [occ_one]; simp
  rcases Lib.lastOcc_spec (a ++ c :: b) [c] (a.length + 1 + b.length) with ⟨_, h⟩ | ⟨i, hi, h1, h2, h3⟩
  · rw [h a.length (by omega)] at hat; cases hat
  · rcases Nat.lt_trichotomy i a.length with hlt | he | hgt
    · rw [h3 a.length hlt (by omega)] at hat; cases hat
    · rw [h1, he]
    · exfalso
      rw [occ_one, List.getElem?_append_right (by omega)] at h2
      obtain ⟨q, hq⟩ : ∃ q, i - a.length = q + 1 := ⟨i - a.length - 1, by omega⟩
      rw [hq, List.getElem?_cons_succ] at h2
      exact hb (List.mem_of_getElem? h2)
theorem last_none {b : Str} {c : UInt8} (hb : c ∉ b) : Lib.lastIndex b [c] = -1 := by
  rw [Lib.lastIndex]
  split
  · rename_i hl
    simp only [List.length_cons, List.length_nil] at hl ⊢
    rcases Lib.lastOcc_spec b [c] (b.length - (0 + 1) + 1) with ⟨h, _⟩ | ⟨i, _, _, h2, _⟩
    · exact h
    · rw [occ_one] at h2
      exact absurd (List.mem_of_getElem? h2) hb
  · rfl
theorem suffix_yes (a : Str) (c : UInt8) : Lib.hasSuffix (a ++ [c]) [c] = true := by
  unfold Lib.hasSuffix
  rw [List.isSuffixOf_iff_suffix]
  exact List.suffix_append _ _
theorem trim_yes (a : Str) (c : UInt8) : Lib.trimSuffix (a ++ [c]) [c] = a := by
  rw [Lib.trimSuffix, if_pos (suffix_yes a c)]
  simp
theorem trim_nil (c : UInt8) : Lib.trimSuffix [] [c] = [] := by
  rw [Lib.trimSuffix]; split <;> simp
theorem count_text : ∀ {xs : List En}, (∀ x ∈ xs, rightE x = true) → Lib.countByte (textL xs) 10 = xs.length
  | [], _ => rfl
  | x :: r, h => by
    have h1 := line_free10 (h x (List.mem_cons_self ..))
    have ih := count_text (xs := r) fun y hy => h y (List.mem_cons_of_mem _ hy)
    unfold Lib.countByte at ih ⊢
    have e : textL (x :: r) = lineE x ++ ([10] ++ textL r) := by simp [textL]
    rw [e, List.count_append, List.count_append, ih, List.count_eq_zero.2 h1]
    simp; omega
theorem text_one (x : En) : textL [x] = lineE x ++ [10] := by simp [textL]
theorem text_app (xs ys : List En) : textL (xs ++ ys) = textL xs ++ textL ys := by simp [textL]
theorem text_snoc (xs : List En) (x : En) : textL (xs ++ [x]) = (textL xs ++ lineE x) ++ [10] := by rw [text_app, text_one, List.append_assoc]
/-- Behind the end of the line ahead of the last one. -/
theorem last_line {xs : List En} {x : En} (hx : rightE x = true) (hr : ∀ y ∈ xs, rightE y = true) : Lib.lastIndex (textL xs ++ lineE x) [10] + 1 = (textL xs).length := by
  have h1 := line_free10 hx
  rcases List.eq_nil_or_concat xs with rfl | ⟨ys, y, rfl⟩
  · rw [show textL [] ++ lineE x = lineE x from rfl, last_none h1]; rfl
  · rw [List.concat_eq_append, text_snoc, List.append_assoc, List.singleton_append, last_at h1]; simp only [List.length_append, List.length_cons, List.length_nil]; omega
theorem hexTo_shift (n : Nat) : ∀ i, hexTo n (i + 1) = hexD (n / 16 ^ i % 16) :: hexTo n i := fun i => rfl
/-- The digits from place i on. -/
def hexUp (n i : Nat) : Str := (hex16 n).take (16 - i)
theorem hexTo_take (n : Nat) : ∀ (m k : Nat), k ≤ m → (hexTo n m).take (m - k) ++ hexTo n k = hexTo n m
  | 0, k, h => by
    have : k = 0 := by omega
    subst this; simp
  | m + 1, k, h => by
    rcases Nat.lt_or_ge k (m + 1) with h1 | h1
    · rw [show m + 1 - k = (m - k) + 1 by omega, hexTo_shift, List.take_succ_cons, List.cons_append, hexTo_take n m k (by omega)]
    · have : k = m + 1 := by omega
      subst this; simp
theorem hexUp_next {n i : Nat} (h : i < 16) : hexUp n (i + 1) ++ [hexD (n / 16 ^ i % 16)] = hexUp n i := by
  have h1 := hexTo_take n 16 (i + 1) (by omega)
  have h2 := hexTo_take n 16 i (by omega)
  rw [hexTo_shift n i] at h1
  have h3 : ((hexTo n 16).take (16 - (i + 1)) ++ [hexD (n / 16 ^ i % 16)]) ++ hexTo n i = (hexTo n 16).take (16 - i) ++ hexTo n i := by rw [List.append_assoc]; exact h1.trans h2.symm
  exact List.append_cancel_right h3
theorem hexUp_all (n : Nat) : hexUp n 0 = hex16 n := by
  unfold hexUp
  rw [List.take_of_length_le (by rw [hex16_len]; omega)]
theorem hexUp_none (n : Nat) : hexUp n 16 = [] := rfl
theorem hexUp_len {n i : Nat} (h : i ≤ 16) : (hexUp n i).length = 16 - i := by
  unfold hexUp; rw [List.length_take, hex16_len]; omega
theorem hex_calls (n : Nat) (w : World) (hn : n < 18446744073709551616) :
    Calls Tryz.prog 41 #[wordV n] w (Ret fun v w' => v = str (hex16 n) ∧ Ext w w') := by
  refine T.enter (vs := [wordV n]) Tryz.func41 rfl Tryz.ntmps41 rfl ?_
  refine T.seq (T.region (L.op rfl rfl (O.assign rfl (L.nil (T.seq (T.region (L.op rfl rfl (O.assign rfl (L.nil (T.seq (T.seq (T.region (L.op rfl rfl (O.assign rfl (L.nil (T.block (?_)))))))))))))))))
  refine T.loop (σ := Nat × Value) (fun g => [(0, wordV n), (3, g.2), (4, .int .i64 (4 * (g.1 : Int) - 4))]) (fun g w' => g.1 ≤ 16 ∧ Ext w w' ∧ OwnO w.heap.size (hexUp n g.1) g.2 w') (fun g => g.1) ((16, .slice none 0 0)) ⟨rfl, rfl, ?_, trivial⟩ ⟨Nat.le_refl _, Keep.refl _ _, owns_nil _ _ _ _, fun _ => rfl⟩ ?_
  · exact congrArg (fun z : Int => some (Value.int .i64 z)) (by decide)
  rintro ⟨j, q⟩ w4 ⟨hj, he4, hO4⟩
  simp only at hj hO4
  refine T.seq (T.seq (T.region (L.op rfl rfl (O.move rfl (L.op rfl rfl (O.geq_s rfl rfl (fun hge => ?_) (fun hge => ?_)))))))
  · refine L.nil (?_)
    obtain ⟨i, rfl⟩ : ∃ i, j = i + 1 := ⟨j - 1, by have : (0 : Int) ≤ 4 * (j : Int) - 4 := hge; omega⟩
    have hs : (4 * ((i + 1 : Nat) : Int) - 4) = ((4 * i : Nat) : Int) := by omega
    rw [hs]
    refine T.cond_true rfl (T.skip (T.seq (T.block (T.region (L.op rfl rfl (O.move rfl (L.op rfl rfl (O.move rfl (L.op rfl rfl (O.move rfl (L.op rfl rfl (O.shr_u64 rfl rfl rfl hn (by omega) (?_)))))))))))))
    have hq : (((n / 2 ^ (((4 * i : Nat) : Int)).toNat : Nat) : Int) % 16) = ((n / 16 ^ i % 16 : Nat) : Int) := by rw [Int.toNat_natCast, Nat.pow_mul]; exact (Int.natCast_emod _ _).symm
    refine L.op rfl rfl (O.rem rfl rfl (Int.natCast_nonneg _) (by decide) (?_))
    rw [hq]
    refine L.op rfl rfl (O.index_nat Tryz.runUnderlying9 rfl rfl (show n / 16 ^ i % 16 < digits16.length from by show _ < 16; omega) (?_))
    have hdg : digits16.getD (n / 16 ^ i % 16) 0 = hexD (n / 16 ^ i % 16) := digits16_get _ (by omega)
    refine L.op rfl rfl (O.buildSlice (el := 5) (parts := [(0, .tmp 14)]) (vs := [(0, _)]) (cs := [.int .u8 (digits16.getD (n / 16 ^ i % 16) 0).toNat]) rfl (fun w => by kernel_rfl) (fun b7 w7 hb7 hz7 he7 hB7 => ?_))
    have hO7 := hO4.keep he7 (Nat.zero_le _)
    have hul : (hexUp n (i + 1)).length = 16 - (i + 1) := hexUp_len (by omega)
    refine L.op rfl rfl (O.append (size := 1) (bytes := 1) Tryz.runUnderlying93 Tryz.infoOf5 rfl rfl rfl rfl (by decide) rfl rfl hO7.row (Sl.of_blk (lo := 0) (n := 1) (sz := 1) hB7 rfl (Nat.le_refl _) (by decide) (Nat.zero_le _)) (by intro c hc; simp at hc; subst hc; rfl) (by omega) (by simp only [maxLen]; omega) (by have := he4.size; have := he7.size; omega) (fun v8 w8 hO8 hG8 => ?_))
    have hO9 : OwnO w.heap.size (hexUp n i) v8 w8 := by
      rw [← hexUp_next (by omega), ← hdg]
      exact OwnO.add hO8
    refine L.op rfl rfl (O.assign rfl (L.nil (T.blk (T.region (L.op rfl rfl (O.move rfl (L.op rfl rfl (O.sub64 rfl rfl (by omega) (L.op rfl rfl (O.assign rfl (L.nil (T.again ((i, v8)) (by omega) ⟨rfl, rfl, ?_, trivial⟩ ⟨by (try dsimp only); omega, (he4.trans he7).grown0 hO7.row hG8 (Nat.le_refl _), hO9⟩))))))))))))
    · exact congrArg (fun z : Int => some (Value.int .i64 z)) (by (try dsimp only); omega)
  · refine L.nil (?_)
    have h0 : j = 0 := by have : ¬ (0 : Int) ≤ 4 * (j : Int) - 4 := hge; omega
    subst h0
    rw [hexUp_all] at hO4
    refine T.cond_false rfl (T.exit rfl (T.seq (T.region (L.op rfl rfl (O.move rfl (L.op rfl rfl (O.bytes_str Tryz.runUnderlying93 Tryz.runUnderlying5 Tryz.runUnderlying9 rfl hO4.ints (by rw [hex16_len]; decide) (L.op rfl rfl (O.assign rfl (L.nil (T.ret1 Tryz.results41 rfl ⟨rfl, he4⟩)))))))))))

end Go.Proofs.YtmnihgcffdmodaaGreatDoor
set_option linter.unusedVariables false
set_option linter.unusedSimpArgs false
set_option maxRecDepth 20000
namespace Go.Proofs.YtmnihgcffdmodaaGreatDoor
open Go Go.E RowKit
attribute [local irreducible] Go.E.T Go.E.L Go.E.O Go.E.Ob

attribute [local irreducible] Go.E.ObX Go.E.ObK Go.E.ObKP
theorem textR_one {x : En} (h : rightE x = true) : textR [x] = (lineE x ++ [10], 0) := by
  rw [textR, if_pos (check_zero (by simp) (fun y hy => by simp at hy; subst hy; exact h)), text_one]
theorem allOk_nil : AllOk [] := fun x hx => by cases hx
theorem allOk_take {xs : List En} {n : Nat} (h : AllOk xs) : AllOk (xs.take n) := fun x hx => h x (List.mem_of_mem_take hx)
theorem ens_cut {lo : Nat} {v : Value} {xs : List En} {w : World} {n : Nat} (hn : n ≤ xs.length) (h : Sl lo w v n 6 ((xs.map En.cells).flatten.take (n * 6))) : Ens lo w v (xs.take n) := by
  rw [fl_take En.len] at h
  unfold Ens
  rw [List.length_take, Nat.min_eq_left hn]
  exact h
theorem chainR_nil : chainR [] = (0, 0) := rfl
set_option maxHeartbeats 4000000 in
theorem HistoryGrows_calls (lo cd : Nat) (ad : Option Addr) (fd : Bool) (rs : List R4) (w : World) (hL : LibM w) (hd : Rws lo w (.slice ad rs.length cd) rs) :
    Calls Tryz.prog 8 #[.agg #[.slice ad rs.length cd, .bool fd]] w (Ret fun v w' => v = .bool true ∧ Ext w w') := by
  refine T.enter (vs := [.agg #[.slice ad rs.length cd, .bool fd]]) Tryz.func8 rfl Tryz.ntmps8 rfl ?_
  refine T.seq (T.region (L.op rfl rfl (O.box rfl (fun b1 w1 hb1 hz1 he1 hB1 => ?_))))
  have hA1 : Blk w1 b1 [.slice ad rs.length cd, .bool fd] 24 := hB1
  refine L.op rfl rfl (O.assign rfl (L.nil (T.seq (T.seq (T.region (L.op rfl rfl (O.call (xs := []) Tryz.call10 rfl rfl (wakes_calls w1 (hL.ext he1)) (fun v18 w18 hq => ?_))))))))
  obtain ⟨rfl, he18⟩ := hq
  refine L.op rfl rfl (O.not rfl (L.nil (T.cond_false rfl (T.skip (T.seq (T.region (L.op rfl rfl (O.fieldAddr Tryz.runUnderlying24 rfl Tryz.sizeOf4 rfl (L.op rfl rfl (O.store1 Tryz.sizeOf4 rfl rfl rfl (hA1.ext he18) (by simp) (fun w25 hu25 hB25 => ?_)))))))))))
  have hu25 : Upd b1 _ _ := hu25
  have hA25 : Blk w25 b1 [.slice ad rs.length cd, .bool false] 24 := hB25
  have he025 : Ext w w25 := (he1.trans he18).upd hu25 (.inr (by omega))
  refine L.nil (T.seq (T.region (L.op rfl rfl (O.loadAgg Tryz.isAgg24 Tryz.sizeOf24 rfl rfl hA25.row (L.op rfl rfl (O.call (xs := [.tmp 21]) Tryz.call11 rfl rfl (Entries_calls lo cd ad false rs w25 (hd.ext he025)) (fun v22 w22 hq => ?_)))))))
  obtain ⟨hO22, he22⟩ := hq
  have hok := draft_ok rs false
  have hlen := draft_len rs false
  have hrt := draft_right rs false
  have happ := @draft_app rs
  have hpre := draft_pre rs
  have hchn := draft_chain rs
  have hI22 : Ens 0 w22 v22 (draftE rs false) := Sl.mono (Sl.of_owns hO22) (Nat.zero_le _)
  obtain ⟨h, hh⟩ : ∃ h, h = draftE rs false := ⟨_, rfl⟩
  rw [← hh] at hok hlen hrt happ hpre hchn hI22
  obtain ⟨oh, caph, rfl, _⟩ := Sl.val hI22
  have he022 := he025.trans he22
  refine L.op rfl rfl (O.assign rfl (L.nil (T.seq (T.region (L.op rfl rfl (O.assign rfl (L.nil (T.seq (T.region (L.op rfl rfl (O.call (xs := [.const (.slice none 0 0)]) Tryz.call27 rfl rfl (chain_calls 0 (.slice none 0 0) [] w22 (Sl.nil _ _ _) allOk_nil (hL.ext he022)) (fun v24 w24 hq => ?_))))))))))))
  obtain ⟨hv24, he24⟩ := hq
  rw [chainR_nil] at hv24
  subst hv24
  refine L.op rfl rfl (O.move rfl (L.op rfl rfl (O.extract rfl rfl (L.op rfl rfl (O.extract rfl rfl (L.op rfl rfl (O.assign rfl (L.op rfl rfl (O.assign rfl (L.nil (T.seq (T.seq (T.region (L.op rfl rfl (O.move rfl (L.op rfl rfl (O.neq_f rfl rfl rfl (L.op rfl rfl (O.move rfl (L.op rfl rfl (O.move rfl (L.op rfl rfl (O.neq_f rfl rfl rfl (?_))))))))))))))))))))))))
  have hI24 := hI22.ext he24
  refine L.op rfl rfl (O.pick_false rfl rfl (L.nil (T.cond_false rfl (T.skip (T.seq (T.seq (T.region (L.op rfl rfl (O.move rfl (L.op rfl rfl (O.len Tryz.runUnderlying27 rfl (Sl.val hI24) (?_))))))))))))
  have he024 := he022.trans he24
  refine L.op rfl rfl (O.move rfl (L.nil (T.block (?_))))
  refine T.loop (σ := Nat × Value) (fun g => [(3, .slice oh h.length caph), (4, g.2), (5, wordV (chainL (h.take g.1))), (33, .slice oh h.length caph), (34, .int .i64 h.length), (35, .int .i64 g.1)]) (fun g w' => g.1 ≤ h.length ∧ Ext w24 w' ∧ Ens 0 w' g.2 (h.take g.1)) (fun g => h.length - g.1) ((0, .slice none 0 0)) ⟨rfl, rfl, rfl, rfl, rfl, rfl, trivial⟩ ⟨Nat.zero_le _, Keep.refl _ _, Sl.nil _ _ _⟩ ?_
  rintro ⟨i, gv⟩ w30 ⟨hi, he30, hG30⟩
  simp only at hi hG30
  have hI30 := hI24.ext he30
  have he030 := he024.trans he30
  refine T.seq (T.region (L.op rfl rfl (O.lss_s rfl rfl (fun hlt => ?_) (fun hlt => ?_))))
  · refine L.nil (?_)
    have hil : i < h.length := by omega
    obtain ⟨x, hx⟩ : ∃ x, x = h.getD i e0 := ⟨_, rfl⟩
    have hxm : x ∈ h := by rw [hx, getD_get hil]; exact List.getElem_mem hil
    have hxo := hok x hxm
    have hxr := hrt x hxm
    have hap := happ hil
    rw [← hx] at hap
    refine T.seq (T.cond_true rfl (T.skip (T.seq (T.block (T.seq (T.region (L.op rfl rfl (O.move rfl (L.op rfl rfl (O.indexAddr Tryz.runUnderlying27 Tryz.sizeOf42 rfl rfl hI30 (by (try dsimp only); omega) (by (try dsimp only); omega) (L.op rfl rfl (O.loadAgg Tryz.isAgg42 Tryz.sizeOf42 rfl rfl (hI30.row hil) (?_)))))))))))))
    rw [← hx]
    refine L.op rfl rfl (O.alloc Tryz.zeroValue42 (fun b8 w8 hb8 hz8 he8 hB8 => ?_))
    refine L.op rfl rfl (O.assign rfl (L.op rfl rfl (O.storeAgg Tryz.sizeOf42 rfl rfl rfl hB8 (Nat.le_refl _) (En.one _) (fun w9 hu9 hB9 => ?_))))
    have hu9 : Upd b8 _ _ := hu9
    have hE9 : Blk w9 b8 x.cells 42 := hB9
    have he309 : Ext w30 w9 := he8.upd hu9 (.inr (by omega))
    have he09 := he030.trans he309
    refine L.nil (T.seq (T.region (L.op rfl rfl (O.move rfl (L.op rfl rfl (O.loadAgg Tryz.isAgg42 Tryz.sizeOf42 rfl rfl hE9.row (L.op rfl rfl (O.call (xs := [.tmp 41, .tmp 42]) Tryz.call17 rfl rfl (Append_calls 0 gv (h.take i) x w9 (hG30.ext he309) (allOk_take hok) hxo (hL.ext he09)) (fun v43 w43 hq => ?_)))))))))
    obtain ⟨nx, hv43, hN43, he43⟩ := hq
    rw [hap] at hv43 hN43
    subst hv43
    have he043 := he09.trans he43
    refine L.op rfl rfl (O.move rfl (L.op rfl rfl (O.extract rfl rfl (L.op rfl rfl (O.extract rfl rfl (L.op rfl rfl (O.assign rfl (L.op rfl rfl (O.assign rfl (L.nil (T.seq (T.region (L.op rfl rfl (O.move rfl (L.op rfl rfl (O.call (xs := [.tmp 47]) Tryz.call12 rfl rfl (Replay_calls 0 nx (h.take (i + 1)) w43 hN43 (allOk_take hok) (hL.ext he043)) (fun v48 w48 hq => ?_)))))))))))))))))
    obtain ⟨pv, hv48, hJ48, he48⟩ := hq
    rw [hpre] at hv48
    subst hv48
    refine L.op rfl rfl (O.move rfl (L.op rfl rfl (O.extract rfl rfl (L.op rfl rfl (O.extract rfl rfl (L.op rfl rfl (O.extract rfl rfl (L.op rfl rfl (O.alloc Tryz.zeroValue32 (fun b11 w11 hb11 hz11 he11 hB11 => ?_))))))))))
    refine L.op rfl rfl (O.storeAgg Tryz.sizeOf32 rfl rfl rfl hB11 (Nat.le_refl _) (stCells_one _ (Sl.one hJ48)) (fun w12 hu12 hB12 => ?_))
    have hu12 : Upd b11 _ _ := hu12
    have he4812 : Ext w48 w12 := he11.upd hu12 (.inr (by omega))
    have he4312 := he48.trans he4812
    have he912 := he43.trans he4312
    refine L.op rfl rfl (O.assign rfl (L.op rfl rfl (O.assign rfl (L.nil (T.seq (T.region (L.op rfl rfl (O.loadAgg Tryz.isAgg42 Tryz.sizeOf42 rfl rfl ((hE9.ext he912).row) (L.op rfl rfl (O.buildSlice (el := 42) (parts := [(0, .tmp 53)]) (vs := [(0, _)]) (cs := x.cells) rfl (fun w => by kernel_rfl) (fun b54 w54 hb54 hz54 he54 hB54 => ?_)))))))))))
    have hone : AllOk [x] := allOk1 hxo
    have hP54 : Ens 0 w54 (.slice (some ⟨b54, 0, none⟩) 1 1) [x] := ens_blk (by simpa using hB54) rfl (by decide)
    have he0912 := he09.trans he912
    have he054 := he0912.trans he54
    refine L.op rfl rfl (O.call (xs := [.tmp 54]) Tryz.call20 rfl rfl (text_calls 0 _ [x] w54 hP54 hone (hL.ext he054)) (fun v55 w55 hq => ?_))
    obtain ⟨hv55, he55⟩ := hq
    rw [textR_one hxr] at hv55
    subst hv55
    have he055 := he054.trans he55
    have he4355 := (he4312.trans he54).trans he55
    refine L.op rfl rfl (O.move rfl (L.op rfl rfl (O.extract rfl rfl (L.op rfl rfl (O.extract rfl rfl (L.op rfl rfl (O.assign rfl (L.op rfl rfl (O.assign rfl (L.nil (T.seq (T.region (L.op rfl rfl (O.move rfl (L.op rfl rfl (O.call (xs := [.tmp 59]) Tryz.call27 rfl rfl (chain_calls 0 nx (h.take (i + 1)) w55 (hN43.ext he4355) (allOk_take hok) (hL.ext he055)) (fun v60 w60 hq => ?_)))))))))))))))))
    obtain ⟨hv60, he60⟩ := hq
    rw [hchn] at hv60
    subst hv60
    have he4360 := he4355.trans he60
    have he060 := he055.trans he60
    have htl : (h.take (i + 1)).length = i + 1 := by rw [List.length_take]; omega
    have hN60 := hN43.ext he4360
    have hI60 : Ens 0 w60 (.slice oh h.length caph) h := hI30.ext ((he309.trans he43).trans he4360)
    refine L.op rfl rfl (O.move rfl (L.op rfl rfl (O.extract rfl rfl (L.op rfl rfl (O.extract rfl rfl (L.op rfl rfl (O.assign rfl (L.op rfl rfl (O.assign rfl (L.nil (T.seq (T.seq (T.region (L.op rfl rfl (O.move rfl (L.op rfl rfl (O.neq_f rfl rfl rfl (L.op rfl rfl (O.move rfl (L.op rfl rfl (O.move rfl (L.op rfl rfl (O.neq_f rfl rfl rfl (L.op rfl rfl (O.pick_false rfl rfl (L.op rfl rfl (O.move rfl (L.op rfl rfl (O.move rfl (L.op rfl rfl (O.neq_f rfl rfl rfl (L.op rfl rfl (O.pick_false rfl rfl (L.op rfl rfl (O.move rfl (L.op rfl rfl (O.move rfl (L.op rfl rfl (O.neq_f rfl rfl rfl (L.op rfl rfl (O.pick_false rfl rfl (L.op rfl rfl (O.move rfl (?_))))))))))))))))))))))))))))))))))))))))))))
    refine L.op rfl rfl (O.move rfl (L.op rfl rfl (O.len Tryz.runUnderlying27 rfl (Sl.val hN60) (L.op rfl rfl (O.move rfl (L.op rfl rfl (O.add64 rfl rfl (by (try dsimp only); omega) (L.op rfl rfl (O.neq_f rfl rfl (by (try dsimp only); omega) (L.op rfl rfl (O.pick_false rfl rfl (L.op rfl rfl (O.move rfl (L.op rfl rfl (O.move rfl (L.op rfl rfl (O.move rfl (L.op rfl rfl (O.move rfl (L.op rfl rfl (O.add64 rfl rfl (by (try dsimp only); omega) (L.op rfl rfl (O.cut_h Tryz.runUnderlying27 Tryz.sizeOf42 rfl rfl hI60 (by (try dsimp only); omega) (by (try dsimp only); omega) (fun v89 hs89 => ?_))))))))))))))))))))))))
    have e89 : ((i : Int) + 1).toNat = i + 1 := by omega
    rw [e89] at hs89
    have hC89 : Ens 0 w60 v89 (h.take (i + 1)) := ens_cut (by omega) hs89
    refine L.op rfl rfl (O.call (xs := [.tmp 85, .tmp 89]) Tryz.call24 rfl rfl (equalE_calls 0 0 nx v89 _ _ w60 hN60 hC89) (fun v90 w90 hq => ?_))
    obtain ⟨hv90, he90⟩ := hq
    rw [decide_eq_true rfl] at hv90
    subst hv90
    have hll := line_len (right_bounds hxr)
    refine L.op rfl rfl (O.not rfl (L.op rfl rfl (O.pick_false rfl rfl (L.op rfl rfl (O.move rfl (L.op rfl rfl (O.move rfl (L.op rfl rfl (O.call (xs := [.tmp 94, _]) Tryz.call39 rfl rfl (hasSuffix_calls (lineE x ++ [10]) [10] w90 (by simp; omega)) (fun v95 w95 hq => ?_))))))))))
    obtain ⟨hv95, rfl⟩ := hq
    rw [suffix_yes] at hv95
    subst hv95
    refine L.op rfl rfl (O.not rfl (L.op rfl rfl (O.pick_false rfl rfl (L.nil (T.cond_false rfl (T.skip (T.seq (T.seq (T.region (L.op rfl rfl (O.move rfl (L.op rfl rfl (O.move rfl (L.op rfl rfl (O.call (xs := [.tmp 99, _]) Tryz.call40 rfl rfl (trimSuffix_calls (lineE x ++ [10]) [10] w95 (by simp; omega)) (fun v100 w100 hq => ?_))))))))))))))))
    obtain ⟨hv100, rfl⟩ := hq
    rw [trim_yes] at hv100
    subst hv100
    refine L.op rfl rfl (O.move rfl (L.op rfl rfl (O.call (xs := [.tmp 101]) Tryz.call41 rfl rfl (hex_calls (chainL (h.take i)) w100 (chainL_lt _)) (fun v102 w102 hq => ?_))))
    obtain ⟨rfl, he102⟩ := hq
    have he0102 := (he060.trans he90).trans he102
    refine L.op rfl rfl (O.call (xs := [.tmp 100, .tmp 102]) Tryz.call18 rfl rfl (seal_calls (lineE x) (hex16 (chainL (h.take i))) w102 (hL.ext he0102) (by omega) (by rw [hex16_len]; decide)) (fun v103 w103 hq => ?_))
    obtain ⟨rfl, he103⟩ := hq
    refine L.op rfl rfl (O.neq_f rfl rfl (by rw [chainL_snoc hil, ← hx]) (L.nil (T.cond_false rfl (T.skip (T.region (L.op rfl rfl (O.move rfl (L.op rfl rfl (O.move rfl (L.op rfl rfl (O.assign rfl (L.op rfl rfl (O.assign rfl (L.nil (T.blk (T.region (L.op rfl rfl (O.add64 rfl rfl (by (try dsimp only); omega) (?_)))))))))))))))))))
    have he24103 : Ext w24 w103 := (he30.trans (he309.trans (he43.trans he4360))).trans ((he90.trans he102).trans he103)
    refine L.op rfl rfl (O.move rfl (L.nil (T.again ((i + 1, nx)) (by omega) ⟨rfl, rfl, rfl, rfl, rfl, rfl, trivial⟩ ⟨by (try dsimp only); omega, he24103, hN60.ext ((he90.trans he102).trans he103)⟩)))
  · refine L.nil (?_)
    have htk : h.take i = h := List.take_of_length_le (by omega)
    rw [htk] at hG30
    refine T.seq (T.cond_false rfl (T.exit rfl (T.seq (T.region (L.op rfl rfl (O.move rfl (L.op rfl rfl (O.move rfl (L.op rfl rfl (O.call (xs := [.tmp 108, .tmp 109]) Tryz.call24 rfl rfl (equalE_calls 0 0 gv (.slice oh h.length caph) _ _ w30 hG30 hI30) (fun v110 w110 hq => ?_)))))))))))
    obtain ⟨hv110, he110⟩ := hq
    rw [decide_eq_true rfl] at hv110
    subst hv110
    refine L.op rfl rfl (O.assign rfl (L.nil (T.ret1 Tryz.results8 rfl ⟨rfl, he030.trans he110⟩)))

end Go.Proofs.YtmnihgcffdmodaaGreatDoor
set_option linter.unusedVariables false
set_option linter.unusedSimpArgs false
set_option maxRecDepth 20000
namespace Go.Proofs.YtmnihgcffdmodaaGreatDoor
open Go Go.E RowKit
attribute [local irreducible] Go.E.T Go.E.L Go.E.O Go.E.Ob

attribute [local irreducible] Go.E.ObX Go.E.ObK Go.E.ObKP
theorem snoc_of {α : Type} {l : List α} (h : l ≠ []) : ∃ a x, l = a ++ [x] := by
  rcases List.eq_nil_or_concat l with h1 | ⟨a, x, h1⟩
  · exact absurd h1 h
  · exact ⟨a, x, by rw [h1, List.concat_eq_append]⟩
theorem textR_right {xs : List En} (h : xs.length ≤ 60) (hr : ∀ x ∈ xs, rightE x = true) : textR xs = (textL xs, 0) := by rw [textR, if_pos (check_zero h hr)]
set_option maxHeartbeats 4000000 in
theorem HistoryBack_calls (lo cd : Nat) (ad : Option Addr) (fd : Bool) (rs : List R4) (w : World) (hL : LibM w) (hd : Rws lo w (.slice ad rs.length cd) rs) :
    Calls Tryz.prog 9 #[.agg #[.slice ad rs.length cd, .bool fd]] w (Ret fun v w' => v = .bool true ∧ Ext w w') := by
  refine T.enter (vs := [.agg #[.slice ad rs.length cd, .bool fd]]) Tryz.func9 rfl Tryz.ntmps9 rfl ?_
  refine T.seq (T.region (L.op rfl rfl (O.box rfl (fun b1 w1 hb1 hz1 he1 hB1 => ?_))))
  have hA1 : Blk w1 b1 [.slice ad rs.length cd, .bool fd] 24 := hB1
  refine L.op rfl rfl (O.assign rfl (L.nil (T.seq (T.seq (T.region (L.op rfl rfl (O.call (xs := []) Tryz.call10 rfl rfl (wakes_calls w1 (hL.ext he1)) (fun v18 w18 hq => ?_))))))))
  obtain ⟨rfl, he18⟩ := hq
  have he018 := he1.trans he18
  refine L.op rfl rfl (O.not rfl (L.nil (T.cond_false rfl (T.skip (T.seq (T.region (L.op rfl rfl (O.loadAgg Tryz.isAgg24 Tryz.sizeOf24 rfl rfl ((hA1.ext he18).row) (L.op rfl rfl (O.call (xs := [.tmp 12]) Tryz.call11 rfl rfl (Entries_calls lo cd ad fd rs w18 (hd.ext he018)) (fun v22 w22 hq => ?_)))))))))))
  obtain ⟨hO22, he22⟩ := hq
  have hok := draft_ok rs fd
  have hlen := draft_len rs fd
  have hrt := draft_right rs fd
  have hI22 : Ens 0 w22 v22 (draftE rs fd) := Sl.mono (Sl.of_owns hO22) (Nat.zero_le _)
  obtain ⟨h, hh⟩ : ∃ h, h = draftE rs fd := ⟨_, rfl⟩
  rw [← hh] at hok hlen hrt hI22
  obtain ⟨oh, caph, rfl, _⟩ := Sl.val hI22
  have he022 := he018.trans he22
  have hboth : ∀ y ∈ h, rightE y = true ∧ y.sl < 18446744073709551616 := fun y hy => ⟨hrt y hy, (hok y hy).sl⟩
  have htl := textL_len h (fun x hx => right_bounds (hrt x hx))
  refine L.op rfl rfl (O.assign rfl (L.nil (T.seq (T.region (L.op rfl rfl (O.move rfl (L.op rfl rfl (O.call (xs := [.tmp 15]) Tryz.call20 rfl rfl (text_calls 0 (.slice oh h.length caph) h w22 hI22 hok (hL.ext he022)) (fun v16 w16 hq => ?_)))))))))
  obtain ⟨hv16, he16⟩ := hq
  rw [textR_right (by omega) hrt] at hv16
  subst hv16
  have he016 := he022.trans he16
  refine L.op rfl rfl (O.move rfl (L.op rfl rfl (O.extract rfl rfl (L.op rfl rfl (O.extract rfl rfl (L.op rfl rfl (O.assign rfl (L.op rfl rfl (O.assign rfl (L.nil (T.seq (T.region (L.op rfl rfl (O.move rfl (L.op rfl rfl (O.call (xs := [.tmp 20]) Tryz.call22 rfl rfl (Parse_calls (textL h) w16 (by omega) (hL.ext he016)) (fun v21 w21 hq => ?_)))))))))))))))))
  obtain ⟨p1, hv21, hP21, he21⟩ := hq
  rw [parse_all hboth (by omega)] at hv21 hP21
  subst hv21
  have he021 := he016.trans he21
  have hI21 := (hI22.ext he16).ext he21
  refine L.op rfl rfl (O.move rfl (L.op rfl rfl (O.extract rfl rfl (L.op rfl rfl (O.extract rfl rfl (L.op rfl rfl (O.extract rfl rfl (L.op rfl rfl (O.assign rfl (L.op rfl rfl (O.assign rfl (L.op rfl rfl (O.assign rfl (L.nil (T.seq (T.seq (T.region (L.op rfl rfl (O.move rfl (L.op rfl rfl (O.neq_f rfl rfl rfl (L.op rfl rfl (O.move rfl (L.op rfl rfl (O.move rfl (L.op rfl rfl (O.neq_f rfl rfl rfl (L.op rfl rfl (O.pick_false rfl rfl (L.op rfl rfl (O.move rfl (L.op rfl rfl (O.move rfl (L.op rfl rfl (O.neq_f rfl rfl rfl (L.op rfl rfl (O.pick_false rfl rfl (L.op rfl rfl (O.move rfl (L.op rfl rfl (O.move rfl (L.op rfl rfl (O.move rfl (?_))))))))))))))))))))))))))))))))))))))))))))
  refine L.op rfl rfl (O.call (xs := [.tmp 36, .tmp 37]) Tryz.call24 rfl rfl (equalE_calls 0 0 p1 (.slice oh h.length caph) _ _ w21 hP21 hI21) (fun v38 w38 hq => ?_))
  obtain ⟨hv38, he38⟩ := hq
  rw [decide_eq_true rfl] at hv38
  subst hv38
  refine L.op rfl rfl (O.not rfl (L.op rfl rfl (O.pick_false rfl rfl (L.op rfl rfl (O.move rfl (L.op rfl rfl (O.move rfl (L.op rfl rfl (O.call (xs := [.tmp 42, _]) Tryz.call42 rfl rfl (count_calls (textL h) 10 w38) (fun v43 w43 hq => ?_))))))))))
  obtain ⟨hv43, rfl⟩ := hq
  rw [count_text hrt] at hv43
  subst hv43
  have he038 := he021.trans he38
  have hI38 := hI21.ext he38
  refine L.op rfl rfl (O.move rfl (L.op rfl rfl (O.len Tryz.runUnderlying27 rfl (Sl.val hI38) (L.op rfl rfl (O.neq_f rfl rfl rfl (L.op rfl rfl (O.pick_false rfl rfl (L.nil (T.cond_false rfl (T.skip (T.seq (T.seq (T.region (L.op rfl rfl (O.move rfl (L.op rfl rfl (O.len Tryz.runUnderlying27 rfl (Sl.val hI38) (L.op rfl rfl (O.eql_s rfl rfl (fun hz => ?_) (fun hz => ?_))))))))))))))))))))
  · refine L.nil (?_)
    have hnil : h = [] := List.length_eq_zero_iff.1 (by omega)
    refine T.cond_true rfl (T.seq (T.region (L.op rfl rfl (O.move rfl (L.op rfl rfl (O.eql_str_t Tryz.runUnderlying9 rfl rfl (by rw [hnil]; rfl) (L.op rfl rfl (O.assign rfl (L.nil (T.ret1 Tryz.results9 rfl ⟨rfl, he038⟩))))))))))
  · refine L.nil (?_)
    obtain ⟨a, x, hax⟩ := snoc_of (l := h) (by intro e; rw [e] at hz; exact hz rfl)
    have hxr : rightE x = true := hrt x (by rw [hax]; simp)
    have har : ∀ y ∈ a, rightE y = true ∧ y.sl < 18446744073709551616 := fun y hy => hboth y (by rw [hax]; simp [hy])
    have hla : h.length = a.length + 1 := by rw [hax]; simp
    have htx : textL h = (textL a ++ lineE x) ++ [10] := by rw [hax, text_snoc]
    have htr : Lib.trimSuffix (textL h) [10] = textL a ++ lineE x := by rw [htx, trim_yes]
    have hle2 : (textL h).length = (textL a ++ lineE x).length + 1 := by rw [htx]; exact List.length_append
    refine T.cond_false rfl (T.skip (T.seq (T.region (L.op rfl rfl (O.move rfl (L.op rfl rfl (O.call (xs := [.tmp 54, _]) Tryz.call40 rfl rfl (trimSuffix_calls (textL h) [10] w43 (by omega)) (fun v55 w55 hq => ?_))))))))
    obtain ⟨hv55, rfl⟩ := hq
    rw [htr] at hv55
    subst hv55
    refine L.op rfl rfl (O.call (xs := [.tmp 55]) Tryz.call22 rfl rfl (Parse_calls (textL a ++ lineE x) w55 (by omega) (hL.ext he038)) (fun v56 w56 hq => ?_))
    obtain ⟨p2, hv56, _, he56⟩ := hq
    rw [parse_cut har hxr (by omega)] at hv56
    subst hv56
    have he056 := he038.trans he56
    have hI56 := hI38.ext he56
    refine L.op rfl rfl (O.move rfl (L.op rfl rfl (O.extract rfl rfl (L.op rfl rfl (O.extract rfl rfl (L.op rfl rfl (O.extract rfl rfl (L.op rfl rfl (O.assign rfl (L.op rfl rfl (O.assign rfl (L.nil (T.seq (T.seq (T.region (L.op rfl rfl (O.move rfl (L.op rfl rfl (O.move rfl (L.op rfl rfl (O.len Tryz.runUnderlying27 rfl (Sl.val hI56) (L.op rfl rfl (O.neq_f rfl rfl (by (try dsimp only); omega) (L.op rfl rfl (O.move rfl (L.op rfl rfl (O.move rfl (L.op rfl rfl (O.neq_f rfl rfl rfl (L.op rfl rfl (O.pick_false rfl rfl (L.nil (T.cond_false rfl (T.skip (T.seq (T.region (L.op rfl rfl (O.move rfl (?_)))))))))))))))))))))))))))))))))))))))
    refine L.op rfl rfl (O.call (xs := [.tmp 68, _]) Tryz.call40 rfl rfl (trimSuffix_calls (textL h) [10] w56 (by omega)) (fun v69 w69 hq => ?_))
    obtain ⟨hv69, rfl⟩ := hq
    rw [htr] at hv69
    subst hv69
    refine L.op rfl rfl (O.call (xs := [.tmp 69, _]) Tryz.call43 rfl rfl (lastIndex_calls (textL a ++ lineE x) [10] w69 (by omega)) (fun v70 w70 hq => ?_))
    obtain ⟨rfl, rfl⟩ := hq
    have hlast := last_line hxr (fun y hy => (har y hy).1)
    have hta : (textL a).length ≤ (textL h).length := by rw [hle2, List.length_append]; omega
    refine L.op rfl rfl (O.add64 rfl rfl (by omega) (?_))
    rw [hlast]
    refine L.op rfl rfl (O.assign rfl (L.nil (T.seq (T.region (L.op rfl rfl (O.move rfl (L.op rfl rfl (O.move rfl (L.op rfl rfl (O.slice_str_h Tryz.runUnderlying9 rfl rfl (by omega) (by show _ ≤ (textL h).length; omega) (?_)))))))))))
    have hcut : (textL h).take ((((textL a).length : Nat) : Int)).toNat = textL a := by rw [htx, Int.toNat_natCast, List.append_assoc, List.take_left]
    rw [hcut]
    refine L.op rfl rfl (O.call (xs := [.tmp 75]) Tryz.call22 rfl rfl (Parse_calls (textL a) w70 (by omega) (hL.ext he056)) (fun v76 w76 hq => ?_))
    obtain ⟨p3, hv76, hP76, he76⟩ := hq
    rw [parse_all har (by omega)] at hv76 hP76
    subst hv76
    have hI76 := hI56.ext he76
    refine L.op rfl rfl (O.move rfl (L.op rfl rfl (O.extract rfl rfl (L.op rfl rfl (O.extract rfl rfl (L.op rfl rfl (O.extract rfl rfl (L.op rfl rfl (O.assign rfl (L.op rfl rfl (O.assign rfl (L.op rfl rfl (O.assign rfl (L.nil (T.seq (T.region (L.op rfl rfl (O.move rfl (L.op rfl rfl (O.eql_t rfl rfl rfl (L.op rfl rfl (O.move rfl (L.op rfl rfl (O.move rfl (L.op rfl rfl (O.eql_t rfl rfl rfl (L.op rfl rfl (O.pick_true rfl rfl (L.op rfl rfl (O.move rfl (L.op rfl rfl (O.move rfl (L.op rfl rfl (O.move rfl (L.op rfl rfl (O.move rfl (L.op rfl rfl (O.len Tryz.runUnderlying27 rfl (Sl.val hI76) (L.op rfl rfl (O.sub64 rfl rfl (by omega) (L.op rfl rfl (O.cut_h Tryz.runUnderlying27 Tryz.sizeOf42 rfl rfl hI76 (by (try dsimp only); omega) (by (try dsimp only); omega) (fun v92 hs92 => ?_)))))))))))))))))))))))))))))))))))))))))))
    have hC92 : Ens 0 w76 v92 a := by
      have e : ((h.length : Int) - 1).toNat = a.length := by omega
      have h5 : Ens 0 w76 v92 (h.take a.length) := ens_cut (by omega) (by rw [← e]; exact hs92)
      rw [hax, List.take_left] at h5
      exact h5
    refine L.op rfl rfl (O.call (xs := [.tmp 87, .tmp 92]) Tryz.call24 rfl rfl (equalE_calls 0 0 p3 v92 _ _ w76 hP76 hC92) (fun v93 w93 hq => ?_))
    obtain ⟨hv93, he93⟩ := hq
    rw [decide_eq_true rfl] at hv93
    subst hv93
    refine L.op rfl rfl (O.pick_true rfl rfl (L.op rfl rfl (O.assign rfl (L.nil (T.ret1 Tryz.results9 rfl ⟨rfl, (he056.trans he76).trans he93⟩)))))

end Go.Proofs.YtmnihgcffdmodaaGreatDoor
set_option linter.unusedVariables false
set_option linter.unusedSimpArgs false
set_option maxRecDepth 20000
namespace Go.Proofs.YtmnihgcffdmodaaGreatDoor
open Go Go.E RowKit ChangeShapes WideShapes
attribute [local irreducible] Go.E.T Go.E.L Go.E.O Go.E.Ob

set_option maxRecDepth 100000 in
theorem historyBack_lifted (os : Os) (started : os.Started) (H : Type) (enc : TypeId × Value → H) :
    ReturnsInHanded {} Tryz.checked os 9 .any (fun w args => (Rows.historyBackSpec.pre enc Tryz.prog Tryz.f9 [] false w args ∧ laidMetH Tryz.prog laidL w) ∧ sizedMet enc Tryz.prog Tryz.f9 (OpenSpec.ofChange Rows.historyBackSpec) false w args)
      (Rows.historyBackSpec.post enc Tryz.prog Tryz.f9 false true false false) := by
  refine law_liftedS (C := Tryz.checked) (X := fun w _ => laidMetH Tryz.prog laidL w) (tb := 4) (ts := [24]) (fun _ _ _ hh h => h.of_heap hh) own started (by kernel_rfl) Tryz.func9
    rfl Tryz.params9 (fun ds h => ?_) (by kernel_rfl) Tryz.underlying4 laidOut (by kernel_rfl)
    (ChangeSpec.witness_at (enc := enc) (C := Tryz.checked) (os := os) (X := fun w _ => laidMetH Tryz.prog laidL w) false (laidWorld os) #[.agg #[.slice none 0 0, .bool false]] 8 (World.laidAll_os _ _ _) (by kernel_rfl) (by kernel_rfl) (by kernel_rfl) (by kernel_rfl) (by kernel_rfl) (laidWorld_met os _)) ?_
  · obtain ⟨a0, rfl⟩ := one_of h
    rfl
  · intro W vs hl ha hz hX hsh
    have hL := lib_of_laid hX hsh
    obtain ⟨a0, rfl⟩ := one_of hl
    obtain ⟨ad, rs, cd, fd, rfl, hd⟩ := draft_of (ha 0 _ _ rfl rfl)
    exact HistoryBack_calls 0 cd ad fd rs W hL hd
theorem historyBack_over : Rows.HistoryBackSaid :=
  OpenClaim.holds_of_wide 9 Tryz.f9 rfl rfl rfl rfl rfl rfl rfl ⟨rfl, rfl, rfl, rfl, rfl⟩ rfl rfl rfl rfl rfl (by kernel_rfl) Tryz.func9 (by kernel_rfl)
    (of_decide_eq_true (by kernel_rfl)) (by unfold Func.isWrapper; first | (rw [if_pos (by decide +kernel)]; kernel_rfl) | (rw [if_neg (by decide +kernel)]; exact ⟨rfl, rfl⟩))
    (fun os started H enc _ => historyBack_lifted os started H enc)
theorem historyBack_holds : Rows.HistoryBackCardSaid :=
  Claim7.holds_tied_plain_at .later [] [.data, .data, .data, .data, .sentinel, .sentinel, .pinned] true (true, "aaf5ffa92cad1a37786ee6b649a4a6dda330fa9512e5f093092dbdd098bd3f5a") true
    historyBack_over (fun _ h => by cases h) (by kernel_rfl) (fun _ h => by cases h) historyBack_row_tie rfl ⟨rfl, rfl⟩ (by kernel_rfl) rfl
    (fun f fn hf hfn => by
      obtain rfl : f = 9 := Option.some.inj ((show Tryz.prog.funcNamed Rows.historyBackRow.func = some 9 by kernel_rfl).symm.trans hf) |>.symm
      obtain rfl : fn = Tryz.f9 := (Option.some.inj (Tryz.func9.symm.trans hfn)).symm
      exact ⟨by kernel_rfl, fun j t ht => by
        rw [Tryz.params9] at ht
        have hall : (([24] : List TypeId).all fun t => !Tryz.prog.wantsStandIn t) = true := by kernel_rfl
        have := List.all_eq_true.1 hall t (List.mem_of_getElem? (i := j) (by simpa using ht))
        have h2 : Tryz.prog.wantsStandIn t = false := by simpa using this
        exact h2⟩)
    (by kernel_rfl)
#print axioms historyBack_holds
end Go.Proofs.YtmnihgcffdmodaaGreatDoor
