/-
  HistoryBlind returns true for every input, and each argument reads behind the call as it read before. Conditions: the listed variables read as the program's text lays them (tied by the card).
-/
import Derived.Test.YtmnihgcffdmodaaGreatDoorMh
import Derived.Test.YtmnihgcffdmodaaGreatDoorCards
set_option linter.unusedVariables false
set_option linter.unusedSimpArgs false
set_option maxRecDepth 20000
namespace Go.Proofs.YtmnihgcffdmodaaGreatDoor
open Go Go.E RowKit
attribute [local irreducible] Go.E.T Go.E.L Go.E.O Go.E.Ob

attribute [local irreducible] Go.E.ObX Go.E.ObK Go.E.ObKP
theorem occ_one (s : Str) (c : UInt8) (i : Nat) : Lib.occAt s [c] i = true ↔ s[i]? = some c := by
  unfold Lib.occAt
  rw [← List.head?_drop]
  cases h : s.drop i with
  | nil => simp [List.isPrefixOf]
  | cons a r =>
    simp [List.isPrefixOf]
    exact ⟨fun e => e.symm, fun e => e.symm⟩
theorem last_at {a b : Str} {c : UInt8} (hb : c ∉ b) : Lib.lastIndex (a ++ c :: b) [c] = a.length := by
  rw [Lib.lastIndex, if_pos (by simp; omega)]
  have hl : (a ++ c :: b).length - [c].length + 1 = a.length + 1 + b.length := by simp; omega
  rw [hl]
  have hat : Lib.occAt (a ++ c :: b) [c] a.length = true := by rw [occ_one]; simp
  rcases Lib.lastOcc_spec (a ++ c :: b) [c] (a.length + 1 + b.length) with ⟨_, h⟩ | ⟨i, hi, h1, h2, h3⟩
  · rw [h a.length (by omega)] at hat; cases hat
  · rcases Nat.lt_trichotomy i a.length with hlt | he | hgt
    · rw [h3 a.length hlt (by omega)] at hat; cases hat
    · rw [h1, he]
    · exfalso
      rw [occ_one, List.getElem?_append_right (by omega)] at h2
      obtain ⟨q, hq⟩ : ∃ q, i - a.length = q + 1 := ⟨i - a.length - 1, by omega⟩
      rw [hq, List.getElem?_cons_succ] at h2
      exact hb (List.mem_of_getElem? h2)
theorem last_none {b : Str} {c : UInt8} (hb : c ∉ b) : Lib.lastIndex b [c] = -1 := by
  rw [Lib.lastIndex]
  split
  · rename_i hl
    simp only [List.length_cons, List.length_nil] at hl ⊢
    rcases Lib.lastOcc_spec b [c] (b.length - (0 + 1) + 1) with ⟨h, _⟩ | ⟨i, _, _, h2, _⟩
    · exact h
    · rw [occ_one] at h2
      exact absurd (List.mem_of_getElem? h2) hb
  · rfl
theorem suffix_yes (a : Str) (c : UInt8) : Lib.hasSuffix (a ++ [c]) [c] = true := by
  unfold Lib.hasSuffix
  rw [List.isSuffixOf_iff_suffix]
  exact List.suffix_append _ _
theorem trim_yes (a : Str) (c : UInt8) : Lib.trimSuffix (a ++ [c]) [c] = a := by
  rw [Lib.trimSuffix, if_pos (suffix_yes a c)]
  simp
theorem trim_nil (c : UInt8) : Lib.trimSuffix [] [c] = [] := by
  rw [Lib.trimSuffix]; split <;> simp
theorem count_text : ∀ {xs : List En}, (∀ x ∈ xs, rightE x = true) → Lib.countByte (textL xs) 10 = xs.length
  | [], _ => rfl
  | x :: r, h => by
    have h1 := line_free10 (h x (List.mem_cons_self ..))
    have ih := count_text (xs := r) fun y hy => h y (List.mem_cons_of_mem _ hy)
    unfold Lib.countByte at ih ⊢
    have e : textL (x :: r) = lineE x ++ ([10] ++ textL r) := by simp [textL]
    rw [e, List.count_append, List.count_append, ih, List.count_eq_zero.2 h1]
    simp; omega
theorem text_one (x : En) : textL [x] = lineE x ++ [10] := by simp [textL]
theorem text_app (xs ys : List En) : textL (xs ++ ys) = textL xs ++ textL ys := by simp [textL]
theorem text_snoc (xs : List En) (x : En) : textL (xs ++ [x]) = (textL xs ++ lineE x) ++ [10] := by rw [text_app, text_one, List.append_assoc]
/-- Behind the end of the line ahead of the last one. -/
theorem last_line {xs : List En} {x : En} (hx : rightE x = true) (hr : ∀ y ∈ xs, rightE y = true) : Lib.lastIndex (textL xs ++ lineE x) [10] + 1 = (textL xs).length := by
  have h1 := line_free10 hx
  rcases List.eq_nil_or_concat xs with rfl | ⟨ys, y, rfl⟩
  · rw [show textL [] ++ lineE x = lineE x from rfl, last_none h1]; rfl
  · rw [List.concat_eq_append, text_snoc, List.append_assoc, List.singleton_append, last_at h1]; simp only [List.length_append, List.length_cons, List.length_nil]; omega
theorem hexTo_shift (n : Nat) : ∀ i, hexTo n (i + 1) = hexD (n / 16 ^ i % 16) :: hexTo n i := fun i => rfl
/-- The digits from place i on. -/
def hexUp (n i : Nat) : Str := (hex16 n).take (16 - i)
theorem hexTo_take (n : Nat) : ∀ (m k : Nat), k ≤ m → (hexTo n m).take (m - k) ++ hexTo n k = hexTo n m
  | 0, k, h => by
    have : k = 0 := by omega
    subst this; simp
  | m + 1, k, h => by
    rcases Nat.lt_or_ge k (m + 1) with h1 | h1
    · rw [show m + 1 - k = (m - k) + 1 by omega, hexTo_shift, List.take_succ_cons, List.cons_append, hexTo_take n m k (by omega)]
    · have : k = m + 1 := by omega
      subst this; simp
theorem hexUp_next {n i : Nat} (h : i < 16) : hexUp n (i + 1) ++ [hexD (n / 16 ^ i % 16)] = hexUp n i := by
  have h1 := hexTo_take n 16 (i + 1) (by omega)
  have h2 := hexTo_take n 16 i (by omega)
  rw [hexTo_shift n i] at h1
  have h3 : ((hexTo n 16).take (16 - (i + 1)) ++ [hexD (n / 16 ^ i % 16)]) ++ hexTo n i = (hexTo n 16).take (16 - i) ++ hexTo n i := by rw [List.append_assoc]; exact h1.trans h2.symm
  exact List.append_cancel_right h3
theorem hexUp_all (n : Nat) : hexUp n 0 = hex16 n := by
  unfold hexUp
  rw [List.take_of_length_le (by rw [hex16_len]; omega)]
theorem hexUp_none (n : Nat) : hexUp n 16 = [] := rfl
theorem hexUp_len {n i : Nat} (h : i ≤ 16) : (hexUp n i).length = 16 - i := by
  unfold hexUp; rw [List.length_take, hex16_len]; omega
theorem hex_calls (n : Nat) (w : World) (hn : n < 18446744073709551616) :
    Calls Tryz.prog 41 #[wordV n] w (Ret fun v w' => v = str (hex16 n) ∧ Ext w w') := by
  refine T.enter (vs := [wordV n]) Tryz.func41 rfl Tryz.ntmps41 rfl ?_
  refine T.seq (T.region (L.op rfl rfl (O.assign rfl (L.nil (T.seq (T.region (L.op rfl rfl (O.assign rfl (L.nil (T.seq (T.seq (T.region (L.op rfl rfl (O.assign rfl (L.nil (T.block (?_)))))))))))))))))
  refine T.loop (σ := Nat × Value) (fun g => [(0, wordV n), (3, g.2), (4, .int .i64 (4 * (g.1 : Int) - 4))]) (fun g w' => g.1 ≤ 16 ∧ Ext w w' ∧ OwnO w.heap.size (hexUp n g.1) g.2 w') (fun g => g.1) ((16, .slice none 0 0)) ⟨rfl, rfl, ?_, trivial⟩ ⟨Nat.le_refl _, Keep.refl _ _, owns_nil _ _ _ _, fun _ => rfl⟩ ?_
  · exact congrArg (fun z : Int => some (Value.int .i64 z)) (by decide)
  rintro ⟨j, q⟩ w4 ⟨hj, he4, hO4⟩
  simp only at hj hO4
  refine T.seq (T.seq (T.region (L.op rfl rfl (O.move rfl (L.op rfl rfl (O.geq_s rfl rfl (fun hge => ?_) (fun hge => ?_)))))))
  · refine L.nil (?_)
    obtain ⟨i, rfl⟩ : ∃ i, j = i + 1 := ⟨j - 1, by have : (0 : Int) ≤ 4 * (j : Int) - 4 := hge; omega⟩
    have hs : (4 * ((i + 1 : Nat) : Int) - 4) = ((4 * i : Nat) : Int) := by omega
    rw [hs]
    refine T.cond_true rfl (T.skip (T.seq (T.block (T.region (L.op rfl rfl (O.move rfl (L.op rfl rfl (O.move rfl (L.op rfl rfl (O.move rfl (L.op rfl rfl (O.shr_u64 rfl rfl rfl hn (by omega) (?_)))))))))))))
    have hq : (((n / 2 ^ (((4 * i : Nat) : Int)).toNat : Nat) : Int) % 16) = ((n / 16 ^ i % 16 : Nat) : Int) := by rw [Int.toNat_natCast, Nat.pow_mul]; exact (Int.natCast_emod _ _).symm
    refine L.op rfl rfl (O.rem rfl rfl (Int.natCast_nonneg _) (by decide) (?_))
    rw [hq]
    refine L.op rfl rfl (O.index_nat Tryz.runUnderlying9 rfl rfl (show n / 16 ^ i % 16 < digits16.length from by show _ < 16; omega) (?_))
    have hdg : digits16.getD (n / 16 ^ i % 16) 0 = hexD (n / 16 ^ i % 16) := digits16_get _ (by omega)
    refine L.op rfl rfl (O.buildSlice (el := 5) (parts := [(0, .tmp 14)]) (vs := [(0, _)]) (cs := [.int .u8 (digits16.getD (n / 16 ^ i % 16) 0).toNat]) rfl (fun w => by kernel_rfl) (fun b7 w7 hb7 hz7 he7 hB7 => ?_))
    have hO7 := hO4.keep he7 (Nat.zero_le _)
    have hul : (hexUp n (i + 1)).length = 16 - (i + 1) := hexUp_len (by omega)
    refine L.op rfl rfl (O.append (size := 1) (bytes := 1) Tryz.runUnderlying93 Tryz.infoOf5 rfl rfl rfl rfl (by decide) rfl rfl hO7.row (Sl.of_blk (lo := 0) (n := 1) (sz := 1) hB7 rfl (Nat.le_refl _) (by decide) (Nat.zero_le _)) (by intro c hc; simp at hc; subst hc; rfl) (by omega) (by simp only [maxLen]; omega) (by have := he4.size; have := he7.size; omega) (fun v8 w8 hO8 hG8 => ?_))
    have hO9 : OwnO w.heap.size (hexUp n i) v8 w8 := by
      rw [← hexUp_next (by omega), ← hdg]
      exact OwnO.add hO8
    refine L.op rfl rfl (O.assign rfl (L.nil (T.blk (T.region (L.op rfl rfl (O.move rfl (L.op rfl rfl (O.sub64 rfl rfl (by omega) (L.op rfl rfl (O.assign rfl (L.nil (T.again ((i, v8)) (by omega) ⟨rfl, rfl, ?_, trivial⟩ ⟨by (try dsimp only); omega, (he4.trans he7).grown0 hO7.row hG8 (Nat.le_refl _), hO9⟩))))))))))))
    · exact congrArg (fun z : Int => some (Value.int .i64 z)) (by (try dsimp only); omega)
  · refine L.nil (?_)
    have h0 : j = 0 := by have : ¬ (0 : Int) ≤ 4 * (j : Int) - 4 := hge; omega
    subst h0
    rw [hexUp_all] at hO4
    refine T.cond_false rfl (T.exit rfl (T.seq (T.region (L.op rfl rfl (O.move rfl (L.op rfl rfl (O.bytes_str Tryz.runUnderlying93 Tryz.runUnderlying5 Tryz.runUnderlying9 rfl hO4.ints (by rw [hex16_len]; decide) (L.op rfl rfl (O.assign rfl (L.nil (T.ret1 Tryz.results41 rfl ⟨rfl, he4⟩)))))))))))

end Go.Proofs.YtmnihgcffdmodaaGreatDoor
set_option linter.unusedVariables false
set_option linter.unusedSimpArgs false
set_option maxRecDepth 20000
namespace Go.Proofs.YtmnihgcffdmodaaGreatDoor
open Go Go.E RowKit
attribute [local irreducible] Go.E.T Go.E.L Go.E.O Go.E.Ob

attribute [local irreducible] Go.E.ObX Go.E.ObK Go.E.ObKP
theorem textR_one {x : En} (h : rightE x = true) : textR [x] = (lineE x ++ [10], 0) := by
  rw [textR, if_pos (check_zero (by simp) (fun y hy => by simp at hy; subst hy; exact h)), text_one]
theorem allOk_nil : AllOk [] := fun x hx => by cases hx
theorem allOk_take {xs : List En} {n : Nat} (h : AllOk xs) : AllOk (xs.take n) := fun x hx => h x (List.mem_of_mem_take hx)
theorem ens_cut {lo : Nat} {v : Value} {xs : List En} {w : World} {n : Nat} (hn : n ≤ xs.length) (h : Sl lo w v n 6 ((xs.map En.cells).flatten.take (n * 6))) : Ens lo w v (xs.take n) := by
  rw [fl_take En.len] at h
  unfold Ens
  rw [List.length_take, Nat.min_eq_left hn]
  exact h
theorem chainR_nil : chainR [] = (0, 0) := rfl
set_option maxHeartbeats 4000000 in
theorem HistoryGrows_calls (lo cd : Nat) (ad : Option Addr) (fd : Bool) (rs : List R4) (w : World) (hL : LibM w) (hd : Rws lo w (.slice ad rs.length cd) rs) :
    Calls Tryz.prog 8 #[.agg #[.slice ad rs.length cd, .bool fd]] w (Ret fun v w' => v = .bool true ∧ Ext w w') := by
  refine T.enter (vs := [.agg #[.slice ad rs.length cd, .bool fd]]) Tryz.func8 rfl Tryz.ntmps8 rfl ?_
  refine T.seq (T.region (L.op rfl rfl (O.box rfl (fun b1 w1 hb1 hz1 he1 hB1 => ?_))))
  have hA1 : Blk w1 b1 [.slice ad rs.length cd, .bool fd] 24 := hB1
  refine L.op rfl rfl (O.assign rfl (L.nil (T.seq (T.seq (T.region (L.op rfl rfl (O.call (xs := []) Tryz.call10 rfl rfl (wakes_calls w1 (hL.ext he1)) (fun v18 w18 hq => ?_))))))))
  obtain ⟨rfl, he18⟩ := hq
  refine L.op rfl rfl (O.not rfl (L.nil (T.cond_false rfl (T.skip (T.seq (T.region (L.op rfl rfl (O.fieldAddr Tryz.runUnderlying24 rfl Tryz.sizeOf4 rfl (L.op rfl rfl (O.store1 Tryz.sizeOf4 rfl rfl rfl (hA1.ext he18) (by simp) (fun w25 hu25 hB25 => ?_)))))))))))
  have hu25 : Upd b1 _ _ := hu25
  have hA25 : Blk w25 b1 [.slice ad rs.length cd, .bool false] 24 := hB25
  have he025 : Ext w w25 := (he1.trans he18).upd hu25 (.inr (by omega))
  refine L.nil (T.seq (T.region (L.op rfl rfl (O.loadAgg Tryz.isAgg24 Tryz.sizeOf24 rfl rfl hA25.row (L.op rfl rfl (O.call (xs := [.tmp 21]) Tryz.call11 rfl rfl (Entries_calls lo cd ad false rs w25 (hd.ext he025)) (fun v22 w22 hq => ?_)))))))
  obtain ⟨hO22, he22⟩ := hq
  have hok := draft_ok rs false
  have hlen := draft_len rs false
  have hrt := draft_right rs false
  have happ := @draft_app rs
  have hpre := draft_pre rs
  have hchn := draft_chain rs
  have hI22 : Ens 0 w22 v22 (draftE rs false) := Sl.mono (Sl.of_owns hO22) (Nat.zero_le _)
  obtain ⟨h, hh⟩ : ∃ h, h = draftE rs false := ⟨_, rfl⟩
  rw [← hh] at hok hlen hrt happ hpre hchn hI22
  obtain ⟨oh, caph, rfl, _⟩ := Sl.val hI22
  have he022 := he025.trans he22
  refine L.op rfl rfl (O.assign rfl (L.nil (T.seq (T.region (L.op rfl rfl (O.assign rfl (L.nil (T.seq (T.region (L.op rfl rfl (O.call (xs := [.const (.slice none 0 0)]) Tryz.call27 rfl rfl (chain_calls 0 (.slice none 0 0) [] w22 (Sl.nil _ _ _) allOk_nil (hL.ext he022)) (fun v24 w24 hq => ?_))))))))))))
  obtain ⟨hv24, he24⟩ := hq
  rw [chainR_nil] at hv24
  subst hv24
  refine L.op rfl rfl (O.move rfl (L.op rfl rfl (O.extract rfl rfl (L.op rfl rfl (O.extract rfl rfl (L.op rfl rfl (O.assign rfl (L.op rfl rfl (O.assign rfl (L.nil (T.seq (T.seq (T.region (L.op rfl rfl (O.move rfl (L.op rfl rfl (O.neq_f rfl rfl rfl (L.op rfl rfl (O.move rfl (L.op rfl rfl (O.move rfl (L.op rfl rfl (O.neq_f rfl rfl rfl (?_))))))))))))))))))))))))
  have hI24 := hI22.ext he24
  refine L.op rfl rfl (O.pick_false rfl rfl (L.nil (T.cond_false rfl (T.skip (T.seq (T.seq (T.region (L.op rfl rfl (O.move rfl (L.op rfl rfl (O.len Tryz.runUnderlying27 rfl (Sl.val hI24) (?_))))))))))))
  have he024 := he022.trans he24
  refine L.op rfl rfl (O.move rfl (L.nil (T.block (?_))))
  refine T.loop (σ := Nat × Value) (fun g => [(3, .slice oh h.length caph), (4, g.2), (5, wordV (chainL (h.take g.1))), (33, .slice oh h.length caph), (34, .int .i64 h.length), (35, .int .i64 g.1)]) (fun g w' => g.1 ≤ h.length ∧ Ext w24 w' ∧ Ens 0 w' g.2 (h.take g.1)) (fun g => h.length - g.1) ((0, .slice none 0 0)) ⟨rfl, rfl, rfl, rfl, rfl, rfl, trivial⟩ ⟨Nat.zero_le _, Keep.refl _ _, Sl.nil _ _ _⟩ ?_
  rintro ⟨i, gv⟩ w30 ⟨hi, he30, hG30⟩
  simp only at hi hG30
  have hI30 := hI24.ext he30
  have he030 := he024.trans he30
  refine T.seq (T.region (L.op rfl rfl (O.lss_s rfl rfl (fun hlt => ?_) (fun hlt => ?_))))
  · refine L.nil (?_)
    have hil : i < h.length := by omega
    obtain ⟨x, hx⟩ : ∃ x, x = h.getD i e0 := ⟨_, rfl⟩
    have hxm : x ∈ h := by rw [hx, getD_get hil]; exact List.getElem_mem hil
    have hxo := hok x hxm
    have hxr := hrt x hxm
    have hap := happ hil
    rw [← hx] at hap
    refine T.seq (T.cond_true rfl (T.skip (T.seq (T.block (T.seq (T.region (L.op rfl rfl (O.move rfl (L.op rfl rfl (O.indexAddr Tryz.runUnderlying27 Tryz.sizeOf42 rfl rfl hI30 (by (try dsimp only); omega) (by (try dsimp only); omega) (L.op rfl rfl (O.loadAgg Tryz.isAgg42 Tryz.sizeOf42 rfl rfl (hI30.row hil) (?_)))))))))))))
    rw [← hx]
    refine L.op rfl rfl (O.alloc Tryz.zeroValue42 (fun b8 w8 hb8 hz8 he8 hB8 => ?_))
    refine L.op rfl rfl (O.assign rfl (L.op rfl rfl (O.storeAgg Tryz.sizeOf42 rfl rfl rfl hB8 (Nat.le_refl _) (En.one _) (fun w9 hu9 hB9 => ?_))))
    have hu9 : Upd b8 _ _ := hu9
    have hE9 : Blk w9 b8 x.cells 42 := hB9
    have he309 : Ext w30 w9 := he8.upd hu9 (.inr (by omega))
    have he09 := he030.trans he309
    refine L.nil (T.seq (T.region (L.op rfl rfl (O.move rfl (L.op rfl rfl (O.loadAgg Tryz.isAgg42 Tryz.sizeOf42 rfl rfl hE9.row (L.op rfl rfl (O.call (xs := [.tmp 41, .tmp 42]) Tryz.call17 rfl rfl (Append_calls 0 gv (h.take i) x w9 (hG30.ext he309) (allOk_take hok) hxo (hL.ext he09)) (fun v43 w43 hq => ?_)))))))))
    obtain ⟨nx, hv43, hN43, he43⟩ := hq
    rw [hap] at hv43 hN43
    subst hv43
    have he043 := he09.trans he43
    refine L.op rfl rfl (O.move rfl (L.op rfl rfl (O.extract rfl rfl (L.op rfl rfl (O.extract rfl rfl (L.op rfl rfl (O.assign rfl (L.op rfl rfl (O.assign rfl (L.nil (T.seq (T.region (L.op rfl rfl (O.move rfl (L.op rfl rfl (O.call (xs := [.tmp 47]) Tryz.call12 rfl rfl (Replay_calls 0 nx (h.take (i + 1)) w43 hN43 (allOk_take hok) (hL.ext he043)) (fun v48 w48 hq => ?_)))))))))))))))))
    obtain ⟨pv, hv48, hJ48, he48⟩ := hq
    rw [hpre] at hv48
    subst hv48
    refine L.op rfl rfl (O.move rfl (L.op rfl rfl (O.extract rfl rfl (L.op rfl rfl (O.extract rfl rfl (L.op rfl rfl (O.extract rfl rfl (L.op rfl rfl (O.alloc Tryz.zeroValue32 (fun b11 w11 hb11 hz11 he11 hB11 => ?_))))))))))
    refine L.op rfl rfl (O.storeAgg Tryz.sizeOf32 rfl rfl rfl hB11 (Nat.le_refl _) (stCells_one _ (Sl.one hJ48)) (fun w12 hu12 hB12 => ?_))
    have hu12 : Upd b11 _ _ := hu12
    have he4812 : Ext w48 w12 := he11.upd hu12 (.inr (by omega))
    have he4312 := he48.trans he4812
    have he912 := he43.trans he4312
    refine L.op rfl rfl (O.assign rfl (L.op rfl rfl (O.assign rfl (L.nil (T.seq (T.region (L.op rfl rfl (O.loadAgg Tryz.isAgg42 Tryz.sizeOf42 rfl rfl ((hE9.ext he912).row) (L.op rfl rfl (O.buildSlice (el := 42) (parts := [(0, .tmp 53)]) (vs := [(0, _)]) (cs := x.cells) rfl (fun w => by kernel_rfl) (fun b54 w54 hb54 hz54 he54 hB54 => ?_)))))))))))
    have hone : AllOk [x] := allOk1 hxo
    have hP54 : Ens 0 w54 (.slice (some ⟨b54, 0, none⟩) 1 1) [x] := ens_blk (by simpa using hB54) rfl (by decide)
    have he0912 := he09.trans he912
    have he054 := he0912.trans he54
    refine L.op rfl rfl (O.call (xs := [.tmp 54]) Tryz.call20 rfl rfl (text_calls 0 _ [x] w54 hP54 hone (hL.ext he054)) (fun v55 w55 hq => ?_))
    obtain ⟨hv55, he55⟩ := hq
    rw [textR_one hxr] at hv55
    subst hv55
    have he055 := he054.trans he55
    have he4355 := (he4312.trans he54).trans he55
    refine L.op rfl rfl (O.move rfl (L.op rfl rfl (O.extract rfl rfl (L.op rfl rfl (O.extract rfl rfl (L.op rfl rfl (O.assign rfl (L.op rfl rfl (O.assign rfl (L.nil (T.seq (T.region (L.op rfl rfl (O.move rfl (L.op rfl rfl (O.call (xs := [.tmp 59]) Tryz.call27 rfl rfl (chain_calls 0 nx (h.take (i + 1)) w55 (hN43.ext he4355) (allOk_take hok) (hL.ext he055)) (fun v60 w60 hq => ?_)))))))))))))))))
    obtain ⟨hv60, he60⟩ := hq
    rw [hchn] at hv60
    subst hv60
    have he4360 := he4355.trans he60
    have he060 := he055.trans he60
    have htl : (h.take (i + 1)).length = i + 1 := by rw [List.length_take]; omega
    have hN60 := hN43.ext he4360
    have hI60 : Ens 0 w60 (.slice oh h.length caph) h := hI30.ext ((he309.trans he43).trans he4360)
    refine L.op rfl rfl (O.move rfl (L.op rfl rfl (O.extract rfl rfl (L.op rfl rfl (O.extract rfl rfl (L.op rfl rfl (O.assign rfl (L.op rfl rfl (O.assign rfl (L.nil (T.seq (T.seq (T.region (L.op rfl rfl (O.move rfl (L.op rfl rfl (O.neq_f rfl rfl rfl (L.op rfl rfl (O.move rfl (L.op rfl rfl (O.move rfl (L.op rfl rfl (O.neq_f rfl rfl rfl (L.op rfl rfl (O.pick_false rfl rfl (L.op rfl rfl (O.move rfl (L.op rfl rfl (O.move rfl (L.op rfl rfl (O.neq_f rfl rfl rfl (L.op rfl rfl (O.pick_false rfl rfl (L.op rfl rfl (O.move rfl (L.op rfl rfl (O.move rfl (L.op rfl rfl (O.neq_f rfl rfl rfl (L.op rfl rfl (O.pick_false rfl rfl (L.op rfl rfl (O.move rfl (?_))))))))))))))))))))))))))))))))))))))))))))
    refine L.op rfl rfl (O.move rfl (L.op rfl rfl (O.len Tryz.runUnderlying27 rfl (Sl.val hN60) (L.op rfl rfl (O.move rfl (L.op rfl rfl (O.add64 rfl rfl (by (try dsimp only); omega) (L.op rfl rfl (O.neq_f rfl rfl (by (try dsimp only); omega) (L.op rfl rfl (O.pick_false rfl rfl (L.op rfl rfl (O.move rfl (L.op rfl rfl (O.move rfl (L.op rfl rfl (O.move rfl (L.op rfl rfl (O.move rfl (L.op rfl rfl (O.add64 rfl rfl (by (try dsimp only); omega) (L.op rfl rfl (O.cut_h Tryz.runUnderlying27 Tryz.sizeOf42 rfl rfl hI60 (by (try dsimp only); omega) (by (try dsimp only); omega) (fun v89 hs89 => ?_))))))))))))))))))))))))
    have e89 : ((i : Int) + 1).toNat = i + 1 := by omega
    rw [e89] at hs89
    have hC89 : Ens 0 w60 v89 (h.take (i + 1)) := ens_cut (by omega) hs89
    refine L.op rfl rfl (O.call (xs := [.tmp 85, .tmp 89]) Tryz.call24 rfl rfl (equalE_calls 0 0 nx v89 _ _ w60 hN60 hC89) (fun v90 w90 hq => ?_))
    obtain ⟨hv90, he90⟩ := hq
    rw [decide_eq_true rfl] at hv90
    subst hv90
    have hll := line_len (right_bounds hxr)
    refine L.op rfl rfl (O.not rfl (L.op rfl rfl (O.pick_false rfl rfl (L.op rfl rfl (O.move rfl (L.op rfl rfl (O.move rfl (L.op rfl rfl (O.call (xs := [.tmp 94, _]) Tryz.call39 rfl rfl (hasSuffix_calls (lineE x ++ [10]) [10] w90 (by simp; omega)) (fun v95 w95 hq => ?_))))))))))
    obtain ⟨hv95, rfl⟩ := hq
    rw [suffix_yes] at hv95
    subst hv95
    refine L.op rfl rfl (O.not rfl (L.op rfl rfl (O.pick_false rfl rfl (L.nil (T.cond_false rfl (T.skip (T.seq (T.seq (T.region (L.op rfl rfl (O.move rfl (L.op rfl rfl (O.move rfl (L.op rfl rfl (O.call (xs := [.tmp 99, _]) Tryz.call40 rfl rfl (trimSuffix_calls (lineE x ++ [10]) [10] w95 (by simp; omega)) (fun v100 w100 hq => ?_))))))))))))))))
    obtain ⟨hv100, rfl⟩ := hq
    rw [trim_yes] at hv100
    subst hv100
    refine L.op rfl rfl (O.move rfl (L.op rfl rfl (O.call (xs := [.tmp 101]) Tryz.call41 rfl rfl (hex_calls (chainL (h.take i)) w100 (chainL_lt _)) (fun v102 w102 hq => ?_))))
    obtain ⟨rfl, he102⟩ := hq
    have he0102 := (he060.trans he90).trans he102
    refine L.op rfl rfl (O.call (xs := [.tmp 100, .tmp 102]) Tryz.call18 rfl rfl (seal_calls (lineE x) (hex16 (chainL (h.take i))) w102 (hL.ext he0102) (by omega) (by rw [hex16_len]; decide)) (fun v103 w103 hq => ?_))
    obtain ⟨rfl, he103⟩ := hq
    refine L.op rfl rfl (O.neq_f rfl rfl (by rw [chainL_snoc hil, ← hx]) (L.nil (T.cond_false rfl (T.skip (T.region (L.op rfl rfl (O.move rfl (L.op rfl rfl (O.move rfl (L.op rfl rfl (O.assign rfl (L.op rfl rfl (O.assign rfl (L.nil (T.blk (T.region (L.op rfl rfl (O.add64 rfl rfl (by (try dsimp only); omega) (?_)))))))))))))))))))
    have he24103 : Ext w24 w103 := (he30.trans (he309.trans (he43.trans he4360))).trans ((he90.trans he102).trans he103)
    refine L.op rfl rfl (O.move rfl (L.nil (T.again ((i + 1, nx)) (by omega) ⟨rfl, rfl, rfl, rfl, rfl, rfl, trivial⟩ ⟨by (try dsimp only); omega, he24103, hN60.ext ((he90.trans he102).trans he103)⟩)))
  · refine L.nil (?_)
    have htk : h.take i = h := List.take_of_length_le (by omega)
    rw [htk] at hG30
    refine T.seq (T.cond_false rfl (T.exit rfl (T.seq (T.region (L.op rfl rfl (O.move rfl (L.op rfl rfl (O.move rfl (L.op rfl rfl (O.call (xs := [.tmp 108, .tmp 109]) Tryz.call24 rfl rfl (equalE_calls 0 0 gv (.slice oh h.length caph) _ _ w30 hG30 hI30) (fun v110 w110 hq => ?_)))))))))))
    obtain ⟨hv110, he110⟩ := hq
    rw [decide_eq_true rfl] at hv110
    subst hv110
    refine L.op rfl rfl (O.assign rfl (L.nil (T.ret1 Tryz.results8 rfl ⟨rfl, he030.trans he110⟩)))

end Go.Proofs.YtmnihgcffdmodaaGreatDoor
set_option linter.unusedVariables false
set_option linter.unusedSimpArgs false
set_option maxRecDepth 20000
namespace Go.Proofs.YtmnihgcffdmodaaGreatDoor
open Go Go.E RowKit
attribute [local irreducible] Go.E.T Go.E.L Go.E.O Go.E.Ob

attribute [local irreducible] Go.E.ObX Go.E.ObK Go.E.ObKP
/-- An item without its digest. -/
def zI (x : It) : It := { x with sl := 0 }
theorem zI_i0 : zI i0 = i0 := rfl
theorem zI_get (its : List It) (i : Nat) : zI (its.getD i i0) = (its.map zI).getD i i0 := by
  rw [List.getD_eq_getElem?_getD, List.getD_eq_getElem?_getD, List.getElem?_map]
  cases its[i]? <;> rfl
/-- States that differ in digests alone. -/
structure SameB (s t : St) : Prop where
  cl : s.cl = t.cl
  its : s.its.map zI = t.its.map zI
theorem SameB.len {s t : St} (h : SameB s t) : s.its.length = t.its.length := by
  have := congrArg List.length h.its
  simpa using this
theorem findK_z (its : List It) (nm : Str) : findK its nm = findK (its.map zI) nm := by
  unfold findK
  rw [List.findIdx_map]; rfl
theorem SameB.find {s t : St} (h : SameB s t) (nm : Str) : findK s.its nm = findK t.its nm := by
  rw [findK_z s.its, findK_z t.its, h.its]
theorem SameB.get {s t : St} (h : SameB s t) (i : Nat) : zI (s.its.getD i i0) = zI (t.its.getD i i0) := by
  rw [zI_get, zI_get, h.its]
theorem SameB.set {s t : St} {i : Nat} {a b : It} {c d : Bool} {e f : Str} (h : SameB s t) (hc : c = d) (hab : zI a = zI b) : SameB ⟨s.its.set i a, c, e⟩ ⟨t.its.set i b, d, f⟩ :=
  ⟨hc, by show (s.its.set i a).map zI = (t.its.set i b).map zI; rw [List.map_set, List.map_set, h.its, hab]⟩
/-- An entry with another digest. -/
def blE (by' : Nat) (x : En) : En := if x.k = 1 ∨ x.k = 2 then { x with sl := x.sl ^^^ by' } else x
theorem blE_k (b : Nat) (x : En) : (blE b x).k = x.k := by unfold blE; split <;> rfl
theorem blE_right (b : Nat) (x : En) : rightE (blE b x) = rightE x := by
  unfold blE
  split
  · rename_i h
    simp only [rightE, h, decide_true, Bool.true_or]
  · rfl
theorem step_same {s t s' : St} {x : En} {b : Nat} (h : SameB s t) (hk : 1 ≤ x.k ∧ x.k ≤ 5) (h5 : ¬ x.k = 5) (hs : stepE s x = some s') : ∃ t', stepE t (blE b x) = some t' ∧ SameB s' t' := by
  by_cases h4 : x.k = 4
  · have hb : blE b x = x := by rw [blE, if_neg (by omega)]
    rw [hb]
    unfold stepE at hs ⊢
    rw [if_pos h4] at hs ⊢
    rw [← h.cl]
    split at hs
    · cases hs
    · rename_i hc; cases hs; rw [if_neg hc]; exact ⟨_, rfl, rfl, h.its⟩
  · by_cases h1 : x.k = 1
    · have hb : blE b x = { x with sl := x.sl ^^^ b } := by rw [blE, if_pos (.inl h1)]
      rw [hb]
      unfold stepE at hs ⊢
      rw [if_neg h4, if_pos h1] at hs ⊢
      rw [← h.cl, ← h.find, ← h.len]
      split at hs
      · cases hs
      · rename_i hc; cases hs; rw [if_neg hc]
        exact ⟨_, rfl, rfl, by simp [h.its, itNew, zI]⟩
    · by_cases hf : findK s.its x.item < s.its.length
      · have hit : (blE b x).item = x.item ∧ (blE b x).who = x.who := by unfold blE; split <;> exact ⟨rfl, rfl⟩
        have hf' : findK t.its (blE b x).item < t.its.length := by rw [hit.1, ← h.find, ← h.len]; exact hf
        rw [step_item h4 h1 hf] at hs
        rw [step_item (by rw [blE_k]; exact h4) (by rw [blE_k]; exact h1) hf', blE_k, hit.1, hit.2, ← h.find]
        have hg := h.get (findK s.its x.item)
        have how : (s.its.getD (findK s.its x.item) i0).ow = (t.its.getD (findK s.its x.item) i0).ow := by have h0 := congrArg It.ow hg; exact h0
        have hwd : (s.its.getD (findK s.its x.item) i0).wd = (t.its.getD (findK s.its x.item) i0).wd := by have h0 := congrArg It.wd hg; exact h0
        have hop : (s.its.getD (findK s.its x.item) i0).op = (t.its.getD (findK s.its x.item) i0).op := by have h0 := congrArg It.op hg; exact h0
        have hnm : (s.its.getD (findK s.its x.item) i0).nm = (t.its.getD (findK s.its x.item) i0).nm := by have h0 := congrArg It.nm hg; exact h0
        have hve : (s.its.getD (findK s.its x.item) i0).ver = (t.its.getD (findK s.its x.item) i0).ver := by have h0 := congrArg It.ver hg; exact h0
        have hco : (s.its.getD (findK s.its x.item) i0).con = (t.its.getD (findK s.its x.item) i0).con := by have h0 := congrArg It.con hg; exact h0
        rw [← how, ← hwd, ← h.cl, ← hop]
        split at hs
        · cases hs
        · rename_i hw
          rw [if_neg hw]
          split at hs
          · rename_i h2
            rw [if_pos h2]
            split at hs
            · cases hs
            · rename_i hc; cases hs; rw [if_neg hc]
              exact ⟨_, rfl, h.set rfl (by simp only [zI, how, hwd, hop, hnm, hve, hco])⟩
          · rename_i h2
            rw [if_neg h2]
            split at hs
            · rename_i h3
              rw [if_pos h3]
              split at hs
              · cases hs
              · rename_i hc; cases hs; rw [if_neg hc]
                exact ⟨_, rfl, h.set rfl (by simp only [zI, how, hwd, hop, hnm, hve, hco])⟩
            · exact absurd (show x.k = 5 by omega) h5
      · rw [step_old h4 h1 hf] at hs; cases hs
theorem run_same {b : Nat} : ∀ (xs : List En) (s t u : St), SameB s t → (∀ x ∈ xs, rightE x = true ∧ ¬ x.k = 5) → runE s xs = some u → ∃ v, runE t (xs.map (blE b)) = some v ∧ SameB u v
  | [], s, t, u, h, _, hr => by cases hr; exact ⟨t, rfl, h⟩
  | x :: r, s, t, u, h, hx, hr => by
    rw [runE] at hr
    cases hs : stepE s x with
    | none => rw [hs] at hr; cases hr
    | some s' =>
      rw [hs] at hr
      have hx0 := hx x (List.mem_cons_self ..)
      obtain ⟨t', h1, h2⟩ := step_same (b := b) h (right_bounds hx0.1).k hx0.2 hs
      obtain ⟨v, h3, h4⟩ := run_same r s' t' u h2 (fun y hy => hx y (List.mem_cons_of_mem _ hy)) hr
      exact ⟨v, by rw [List.map_cons, runE, h1]; exact h3, h4⟩
theorem view_z (who : Str) (its : List It) : viewL who its = viewL who (its.map zI) := by
  unfold viewL
  rw [List.filter_map, List.map_map]
  rfl
theorem SameB.view {s t : St} (h : SameB s t) (who : Str) : viewL who s.its = viewL who t.its := by rw [view_z who s.its, view_z who t.its, h.its]
theorem view_draft {rs : List R4} {who : Str} (hw : nameB who = true) : viewR (draftE rs false) who = (viewL who (draftS rs).its, 0) := by
  rw [viewR, draft_replay, if_pos rfl, if_pos hw]
theorem view_other {rs : List R4} {who : Str} {b : Nat} (hw : nameB who = true) (h5 : ∀ x ∈ draftE rs false, ¬ x.k = 5) : viewR ((draftE rs false).map (blE b)) who = (viewL who (draftS rs).its, 0) := by
  have hr := draft_right rs false
  have hl := draft_len rs false
  obtain ⟨v, h1, h2⟩ := run_same (b := b) (draftE rs false) s0 s0 (draftS rs) ⟨rfl, rfl⟩ (fun x hx => ⟨hr x hx, h5 x hx⟩) (draft_run rs)
  have h3 := replay_run (xs := (draftE rs false).map (blE b)) (by rw [List.length_map]; omega) (fun x hx => by
    obtain ⟨y, hy, rfl⟩ := List.mem_map.1 hx
    rw [blE_right]; exact hr y hy) h1
  rw [viewR, h3, if_pos rfl, if_pos hw, h2.view]
/-- What is seen of an item stands at its place. -/
theorem viewL_at {who : Str} {its : List It} {j : Nat} (hj : j < its.length) (hw : (its.getD j i0).wd = false) : (viewL who (its.take j)).length < (viewL who its).length ∧ (viewL who its).getD (viewL who (its.take j)).length i0 = viewIt who (its.getD j i0) := by
  have e : viewL who its = viewL who (its.take j) ++ (viewIt who (its.getD j i0) :: viewL who (its.drop (j + 1))) := by
    have h1 := viewL_yes (who := who) hj hw
    have h2 : viewL who its = viewL who (its.take (j + 1)) ++ viewL who (its.drop (j + 1)) := by
      conv => lhs; rw [← List.take_append_drop (j + 1) its]
      unfold viewL
      rw [List.filter_append, List.map_append]
    rw [h2, h1, List.append_assoc]; rfl
  rw [e]
  exact ⟨by simp, by simp⟩
theorem viewL_all (who : Str) (its : List It) : viewL who (its.take its.length) = viewL who its := by rw [List.take_of_length_le (Nat.le_refl _)]
/-- The first entries with other digests. -/
def blL (b : Nat) (h : List En) (i : Nat) : List En := (h.take i).map (blE b) ++ h.drop i
theorem blL_len (b : Nat) (h : List En) (i : Nat) : (blL b h i).length = h.length := by
  unfold blL; rw [List.length_append, List.length_map, List.length_take, List.length_drop]; omega
theorem blL_split {b : Nat} {h : List En} {i : Nat} (hi : i < h.length) : blL b h i = (h.take i).map (blE b) ++ h.getD i e0 :: h.drop (i + 1) := by rw [blL, drop_cons (d := e0) hi]
theorem blL_get {b : Nat} {h : List En} {i : Nat} (hi : i < h.length) : (blL b h i).getD i e0 = h.getD i e0 := by
  rw [blL_split hi]
  have hl : ((h.take i).map (blE b)).length = i := by rw [List.length_map, List.length_take]; omega
  rw [List.getD_eq_getElem?_getD, List.getElem?_append_right (by omega), hl]; simp
theorem blL_next {b : Nat} {h : List En} {i : Nat} (hi : i < h.length) : (blL b h i).set i (blE b (h.getD i e0)) = blL b h (i + 1) := by
  rw [blL_split hi]
  have hl : ((h.take i).map (blE b)).length = i := by rw [List.length_map, List.length_take]; omega
  rw [List.set_append_right _ _ (by omega), hl, Nat.sub_self, List.set_cons_zero, blL, take_snoc (d := e0) hi, List.map_append, List.append_assoc]
  rfl
theorem blL_same {b : Nat} {h : List En} {i : Nat} (hi : i < h.length) (hs : blE b (h.getD i e0) = h.getD i e0) : blL b h (i + 1) = blL b h i := by
  rw [← blL_next hi, hs, ← blL_get (b := b) hi]
  have hl := blL_len b h i
  exact List.ext_getElem (by simp) fun j h1 h2 => by
    rw [List.getElem_set]
    split
    · rename_i e; subst e; rw [getD_get (by omega)]
    · rfl
theorem blL_all (b : Nat) (h : List En) : blL b h h.length = h.map (blE b) := by
  rw [blL, List.take_of_length_le (Nat.le_refl _), List.drop_of_length_le (Nat.le_refl _), List.append_nil]
def sOther : Str := [111, 116, 104, 101, 114]
theorem names4 (k : Nat) (h : k < 4) : ∃ s : Str, #[str sAnn, str sBob, str sZoe, str sOther][(k : Int).toNat]? = some (str s) ∧ nameB s = true ∧ s.length ≤ 12 := by
  rcases (show k = 0 ∨ k = 1 ∨ k = 2 ∨ k = 3 by omega) with rfl | rfl | rfl | rfl
  · exact ⟨sAnn, rfl, by decide, by decide⟩
  · exact ⟨sBob, rfl, by decide, by decide⟩
  · exact ⟨sZoe, rfl, by decide, by decide⟩
  · exact ⟨sOther, rfl, by decide, by decide⟩
theorem Ens.cell {lo : Nat} {w : World} {v : Value} {xs : List En} (h : Ens lo w v xs) {i j : Nat} {u : Value} (hi : i < xs.length) (hj : j < 6) (hu : (xs.getD i e0).cells[j]? = some u) : w.cell? (((sAddr v).add ((i : Int).toNat * 6)).add j) = some u := by
  rw [Int.toNat_natCast]
  refine Sl.at h ?_
  have : (xs.map En.cells).flatten.drop (i * 6) = (xs.getD i e0).cells ++ ((xs.drop (i + 1)).map En.cells).flatten := by
    rw [fl_drop En.len, List.drop_eq_getElem_cons hi, List.map_cons, List.flatten_cons, getD_get hi]
  have h2 : ((xs.map En.cells).flatten.drop (i * 6))[j]? = some u := by
    rw [this, List.getElem?_append_left (by rw [En.len]; exact hj)]; exact hu
  rwa [List.getElem?_drop] at h2
set_option maxHeartbeats 4000000 in
theorem HistoryBlind_calls (lo cd : Nat) (ad : Option Addr) (fd : Bool) (rs : List R4) (who by' : Nat) (w : World) (hL : LibM w) (hd : Rws lo w (.slice ad rs.length cd) rs) (hw8 : who < 256) (hby : by' < 18446744073709551616) :
    Calls Tryz.prog 3 #[.agg #[.slice ad rs.length cd, .bool fd], .int .u8 who, wordV by'] w (Ret fun v w' => v = .bool true ∧ Ext w w') := by
  refine T.enter (vs := [.agg #[.slice ad rs.length cd, .bool fd], .int .u8 who, wordV by']) Tryz.func3 rfl Tryz.ntmps3 rfl ?_
  refine T.seq (T.region (L.op rfl rfl (O.box rfl (fun b3 w3 hb3 hz3 he3 hB3 => ?_))))
  have hA3 : Blk w3 b3 [.slice ad rs.length cd, .bool fd] 24 := hB3
  refine L.op rfl rfl (O.assign rfl (L.nil (T.seq (T.seq (T.region (L.op rfl rfl (O.call (xs := []) Tryz.call10 rfl rfl (wakes_calls w3 (hL.ext he3)) (fun v18 w18 hq => ?_))))))))
  obtain ⟨rfl, he18⟩ := hq
  refine L.op rfl rfl (O.not rfl (L.nil (T.cond_false rfl (T.skip (T.seq (T.region (L.op rfl rfl (O.fieldAddr Tryz.runUnderlying24 rfl Tryz.sizeOf4 rfl (L.op rfl rfl (O.store1 Tryz.sizeOf4 rfl rfl rfl (hA3.ext he18) (by simp) (fun w25 hu25 hB25 => ?_)))))))))))
  have hu25 : Upd b3 _ _ := hu25
  have hA25 : Blk w25 b3 [.slice ad rs.length cd, .bool false] 24 := hB25
  have he025 : Ext w w25 := (he3.trans he18).upd hu25 (.inr (by omega))
  refine L.nil (T.seq (T.region (L.op rfl rfl (O.loadAgg Tryz.isAgg24 Tryz.sizeOf24 rfl rfl hA25.row (L.op rfl rfl (O.call (xs := [.tmp 26]) Tryz.call11 rfl rfl (Entries_calls lo cd ad false rs w25 (hd.ext he025)) (fun v22 w22 hq => ?_)))))))
  obtain ⟨hO22, he22⟩ := hq
  have hok := draft_ok rs false
  have hlen := draft_len rs false
  have hrp := draft_replay rs
  have hst := draft_st rs
  have hvd : ∀ nm, nameB nm = true → viewR (draftE rs false) nm = (viewL nm (draftS rs).its, 0) := fun nm h => view_draft h
  have hvo : ∀ nm, nameB nm = true → (∀ x ∈ draftE rs false, ¬ x.k = 5) → viewR ((draftE rs false).map (blE by')) nm = (viewL nm (draftS rs).its, 0) := fun nm h h5 => view_other h h5
  have hI22 : Ens 0 w22 v22 (draftE rs false) := Sl.mono (Sl.of_owns hO22) (Nat.zero_le _)
  obtain ⟨h, hh⟩ : ∃ h, h = draftE rs false := ⟨_, rfl⟩
  obtain ⟨s, hs⟩ : ∃ s, s = draftS rs := ⟨_, rfl⟩
  have hrl := (replay_len h).1
  rw [← hh] at hok hlen hrp hvd hvo hI22
  rw [← hs] at hrp hst hvd hvo
  rw [hrp] at hrl
  have hsl : s.its.length ≤ 60 := hrl
  obtain ⟨oh, caph, rfl, _⟩ := Sl.val hI22
  have he022 := he025.trans he22
  refine L.op rfl rfl (O.assign rfl (L.nil (T.seq (T.region (L.op rfl rfl (O.build (v := .agg #[str sAnn, str sBob, str sZoe, str sOther]) (parts := [(0, _), (1, _), (2, _), (3, _)]) (vs := [(0, _), (1, _), (2, _), (3, _)]) rfl (fun w => by kernel_rfl) (L.op rfl rfl (O.move rfl (L.op rfl rfl (O.rem rfl rfl (by omega) (by omega) (?_)))))))))))
  obtain ⟨nm, hnm, hnb, hnl⟩ := names4 (who % 4) (by omega)
  rw [show ((who : Int) % 4) = ((who % 4 : Nat) : Int) by omega]
  refine L.op rfl rfl (O.index_arr Tryz.runUnderlying29 Tryz.isAgg9 Tryz.sizeOf9 rfl rfl (by omega) (by omega) hnm (L.op rfl rfl (O.assign rfl (L.nil (T.seq (T.region (L.op rfl rfl (O.move rfl (L.op rfl rfl (O.call (xs := [.tmp 33]) Tryz.call12 rfl rfl (Replay_calls 0 _ h w22 hI22 hok (hL.ext he022)) (fun v34 w34 hq => ?_)))))))))))
  obtain ⟨pv, hv34, hJ34, he34⟩ := hq
  rw [hrp] at hv34 hJ34
  subst hv34
  have hJ34' : Its 0 w34 pv s.its := hJ34
  refine L.op rfl rfl (O.move rfl (L.op rfl rfl (O.extract rfl rfl (L.op rfl rfl (O.extract rfl rfl (L.op rfl rfl (O.extract rfl rfl (L.op rfl rfl (O.alloc Tryz.zeroValue32 (fun b9 w9 hb9 hz9 he9 hB9 => ?_))))))))))
  refine L.op rfl rfl (O.storeAgg Tryz.sizeOf32 rfl rfl rfl hB9 (Nat.le_refl _) (stCells_one s (Sl.one hJ34')) (fun w10 hu10 hB10 => ?_))
  have hu10 : Upd b9 _ _ := hu10
  have hS10 : Blk w10 b9 (stCells pv s) 32 := hB10
  have he3410 : Ext w34 w10 := he9.upd hu10 (.inr (by omega))
  have he2210 := he34.trans he3410
  have he010 := he022.trans he2210
  refine L.op rfl rfl (O.assign rfl (L.op rfl rfl (O.assign rfl (L.nil (T.seq (T.region (L.op rfl rfl (O.move rfl (L.op rfl rfl (O.move rfl (L.op rfl rfl (O.call (xs := [.tmp 39, .tmp 40]) Tryz.call13 rfl rfl (View_calls 0 _ h nm w10 (hI22.ext he2210) hok (by omega) (hL.ext he010)) (fun v41 w41 hq => ?_)))))))))))))
  obtain ⟨pq, hv41, hQ41, he41⟩ := hq
  rw [hvd nm hnb] at hv41 hQ41
  subst hv41
  have hQ41' : Its 0 w41 pq (viewL nm s.its) := hQ41
  have he041 := he010.trans he41
  refine L.op rfl rfl (O.move rfl (L.op rfl rfl (O.extract rfl rfl (L.op rfl rfl (O.extract rfl rfl (L.op rfl rfl (O.assign rfl (L.op rfl rfl (O.assign rfl (L.nil (T.seq (T.seq (T.region (L.op rfl rfl (O.move rfl (L.op rfl rfl (O.neq_f rfl rfl rfl (L.op rfl rfl (O.move rfl (L.op rfl rfl (O.move rfl (L.op rfl rfl (O.neq_f rfl rfl rfl (?_))))))))))))))))))))))))
  have hS41 := hS10.ext he41
  have hJ41 : Its 0 w41 pv s.its := (Its.ext hJ34' he3410).ext he41
  refine L.op rfl rfl (O.pick_false rfl rfl (L.nil (T.cond_false rfl (T.skip (T.seq (T.region (L.op rfl rfl (O.assign rfl (L.nil (T.seq (T.seq (T.region (L.op rfl rfl (O.fieldAddr Tryz.runUnderlying32 rfl Tryz.sizeOf30 rfl (L.op rfl rfl (O.load Tryz.isAgg30 rfl (hS41.cell rfl) (?_)))))))))))))))))
  have hvl := viewL_len nm s.its
  obtain ⟨op, capp, rfl, _⟩ := Sl.val hJ41
  obtain ⟨oq, capq, rfl, _⟩ := Sl.val hQ41'
  refine L.op rfl rfl (O.len Tryz.runUnderlying30 rfl (Sl.val hJ41) (L.op rfl rfl (O.move rfl (L.nil (T.block (?_))))))
  refine T.loop (σ := Nat) (fun j => [(2, wordV by'), (7, .slice oh h.length caph), (8, str nm), (12, .slice oq (viewL nm s.its).length capq), (14, .int .i64 (viewL nm (s.its.take j)).length), (51, .slice op s.its.length capp), (52, .int .i64 s.its.length), (53, .int .i64 j)]) (fun j w' => j ≤ s.its.length ∧ Ext w41 w') (fun j => s.its.length - j) (0) ⟨rfl, rfl, rfl, rfl, rfl, rfl, rfl, rfl, trivial⟩ ⟨Nat.zero_le _, Keep.refl _ _⟩ ?_
  rintro j w50 ⟨hj, he50⟩
  have hJ50 := Its.ext hJ41 he50
  have hQ50 := Its.ext hQ41' he50
  have he050 := he041.trans he50
  refine T.seq (T.region (L.op rfl rfl (O.lss_s rfl rfl (fun hlt => ?_) (fun hlt => ?_))))
  · refine L.nil (?_)
    have hjl : j < s.its.length := by omega
    obtain ⟨x, hx⟩ : ∃ x, x = s.its.getD j i0 := ⟨_, rfl⟩
    have hxm : x ∈ s.its := by rw [hx, getD_get hjl]; exact List.getElem_mem hjl
    have hcon := hst.con x hxm
    refine T.seq (T.cond_true rfl (T.skip (T.seq (T.block (T.seq (T.region (L.op rfl rfl (O.indexAddr Tryz.runUnderlying30 Tryz.sizeOf39 rfl rfl hJ50 (by (try dsimp only); omega) (by (try dsimp only); omega) (L.op rfl rfl (O.loadAgg Tryz.isAgg39 Tryz.sizeOf39 rfl rfl (hJ50.row hjl) (?_)))))))))))
    rw [← hx]
    refine L.op rfl rfl (O.alloc Tryz.zeroValue39 (fun b16 w16 hb16 hz16 he16 hB16 => ?_))
    refine L.op rfl rfl (O.storeAgg Tryz.sizeOf39 rfl rfl rfl hB16 (Nat.le_refl _) (It.one _) (fun w17 hu17 hB17 => ?_))
    have hu17 : Upd b16 _ _ := hu17
    have hX17 : Blk w17 b16 x.cells 39 := hB17
    have he5017 : Ext w50 w17 := he16.upd hu17 (.inr (by omega))
    rcases hwd : x.wd with _ | _
    · refine L.nil (?_)
      have hvy := viewL_yes (who := nm) hjl (by rw [← hx]; exact hwd)
      obtain ⟨hn1, hn2⟩ := viewL_at (who := nm) hjl (by rw [← hx]; exact hwd)
      rw [← hx] at hn2 hvy
      have hvs : (viewL nm (s.its.take (j + 1))).length = (viewL nm (s.its.take j)).length + 1 := by rw [hvy]; simp
      obtain ⟨n, hn⟩ : ∃ n, n = (viewL nm (s.its.take j)).length := ⟨_, rfl⟩
      rw [← hn] at hn1 hn2 hvs
      rw [← hn]
      refine T.seq (T.seq (T.region (L.op rfl rfl (O.fieldAddr Tryz.runUnderlying39 rfl Tryz.sizeOf4 rfl (L.op rfl rfl (O.load Tryz.isAgg4 rfl (hX17.cell (v := .bool false) (by simp [It.cells, hwd])) (L.nil (T.cond_false rfl (T.skip (T.seq (T.region (L.op rfl rfl (O.fieldAddr Tryz.runUnderlying39 rfl Tryz.sizeOf9 rfl (L.op rfl rfl (O.load Tryz.isAgg9 rfl (hX17.cell rfl) (L.op rfl rfl (O.fieldAddr Tryz.runUnderlying39 rfl Tryz.sizeOf3 rfl (L.op rfl rfl (O.load Tryz.isAgg3 rfl (hX17.cell rfl) (L.op rfl rfl (O.fieldAddr Tryz.runUnderlying39 rfl Tryz.sizeOf4 rfl (L.op rfl rfl (O.load Tryz.isAgg4 rfl (hX17.cell rfl) (L.op rfl rfl (O.build (v := (⟨x.nm, [], x.ver, 0, false, x.op, []⟩ : It).val) (parts := [(0, .tmp 60), (2, .tmp 62), (5, .tmp 64)]) (vs := [(0, _), (2, _), (5, _)]) rfl (fun w => by kernel_rfl) (L.op rfl rfl (O.alloc Tryz.zeroValue39 (fun b18 w18 hb18 hz18 he18 hB18 => ?_))))))))))))))))))))))))))))
      refine L.op rfl rfl (O.storeAgg Tryz.sizeOf39 rfl rfl rfl hB18 (Nat.le_refl _) (It.one _) (fun w19 hu19 hB19 => ?_))
      have hu19 : Upd b18 _ _ := hu19
      have hW19 : Blk w19 b18 (⟨x.nm, [], x.ver, 0, false, x.op, []⟩ : It).cells 39 := hB19
      have he1719 : Ext w17 w19 := he18.upd hu19 (.inr (by omega))
      have hX19 := hX17.ext he1719
      have hb1618 : b16 < b18 := by have := hX17.lt; omega
      have hz18 : w50.heap.size ≤ b18 := by have := he5017.size; omega
      have he5019 := he5017.trans he1719
      rcases hop : x.op with _ | _
      · refine L.nil (T.seq (T.seq (T.region (L.op rfl rfl (O.fieldAddr Tryz.runUnderlying39 rfl Tryz.sizeOf4 rfl (L.op rfl rfl (O.load Tryz.isAgg4 rfl (hX19.cell (v := .bool false) (by simp [It.cells, hop])) (L.nil (T.cond_false rfl (T.skip (T.seq (T.seq (T.region (L.op rfl rfl (O.fieldAddr Tryz.runUnderlying39 rfl Tryz.sizeOf4 rfl (L.op rfl rfl (O.load Tryz.isAgg4 rfl (hX19.cell (v := .bool false) (by simp [It.cells, hop])) (L.op rfl rfl (O.move rfl (L.op rfl rfl (O.fieldAddr Tryz.runUnderlying39 rfl Tryz.sizeOf9 rfl (L.op rfl rfl (O.load Tryz.isAgg9 rfl (hX19.cell rfl) (?_))))))))))))))))))))))))
        have hc0 := hcon hop
        by_cases how : x.ow = nm
        · refine L.op rfl rfl (O.move rfl (L.op rfl rfl (O.eql_str_t Tryz.runUnderlying9 rfl rfl how (L.op rfl rfl (O.pick_false rfl rfl (L.nil (T.cond_true rfl (T.region (L.op rfl rfl (O.fieldAddr Tryz.runUnderlying39 rfl Tryz.sizeOf9 rfl (L.op rfl rfl (O.load Tryz.isAgg9 rfl (hX19.cell rfl) (L.op rfl rfl (O.fieldAddr Tryz.runUnderlying39 rfl Tryz.sizeOf9 rfl (L.op rfl rfl (O.store1 Tryz.sizeOf9 rfl rfl rfl hW19 (by simp [It.cells]) (fun w20 hu20 hB20 => ?_)))))))))))))))))
          have hu20 : Upd b18 _ _ := hu20
          have hvi : viewIt nm x = ⟨x.nm, x.ow, x.ver, 0, false, x.op, []⟩ := by rw [viewIt, if_pos (.inr how), hc0]
          have hW20 : Blk w20 b18 (viewIt nm x).cells 39 := by rw [hvi]; exact hB20
          have he5020 : Ext w50 w20 := he5019.upd hu20 (.inr hz18)
          have hX20 := hX19.upd hu20 (by omega)
          have hQ20 := Its.ext hQ50 he5020
          refine L.nil (T.seq (T.seq (?_)))
          refine T.anyE mixed 19 [14, 12, 17, 16] rfl [.is _, .is _, .is _, .is _, .is _, .is _, .is _, .is _, .is _, .is _, .is _, .is _, .is _, .is _, .is _, .is _, .is _, .is _, .is _] [[], [], [1], [0, 2], [3], [4], [4], [5, 6, 4], [7, 4], [4], [8, 9, 4], [4, 10], [11], [12], [13, 12], [14, 12], [15, 12], [16], [16]] [[], [], [1], [0, 1, 2], [0, 1, 2, 3], [0, 1, 2, 3, 4], [0, 1, 2, 3, 4], [0, 1, 2, 3, 4, 5, 6], [0, 1, 2, 3, 4, 5, 6, 7], [0, 1, 2, 3, 4], [0, 1, 2, 3, 4, 5, 6, 7, 8, 9], [0, 1, 2, 3, 4, 5, 6, 7, 8, 9, 10], [0, 1, 2, 3, 4, 5, 6, 7, 8, 9, 10, 11], [0, 1, 2, 3, 4, 5, 6, 7, 8, 9, 10, 11, 12], [0, 1, 2, 3, 4, 5, 6, 7, 8, 9, 10, 11, 12, 13], [0, 1, 2, 3, 4, 5, 6, 7, 8, 9, 10, 11, 12, 13, 14], [0, 1, 2, 3, 4, 5, 6, 7, 8, 9, 10, 11, 12, 13, 14, 15], [0, 1, 2, 3, 4, 5, 6, 7, 8, 9, 10, 11, 12, 13, 14, 15, 16], [0, 1, 2, 3, 4, 5, 6, 7, 8, 9, 10, 11, 12, 13, 14, 15, 16], [0, 1, 2, 3, 4, 5, 6, 7, 8, 9, 10, 11, 12, 13, 14, 15, 16, 17, 18], [0, 1, 2, 3, 4, 5, 6, 7, 8, 9, 10, 11, 12, 13, 14, 15, 16, 17, 18, 19], [0, 1, 2, 3, 4, 5, 6, 7, 8, 9, 10, 11, 12, 13, 14, 15, 16, 17, 18, 19, 20], [0, 1, 2, 3, 4, 5, 6, 7, 8, 9, 10, 11, 12, 13, 14, 15, 16, 17, 18, 19, 20, 21], [0, 1, 2, 3, 4, 5, 6, 7, 8, 9, 10, 11, 12, 13, 14, 15, 16, 17, 18, 19, 20, 21, 22], [0, 1, 2, 3, 4, 5, 6, 7, 8, 9, 10, 11, 12, 13, 14, 15, 16, 17, 18, 19, 20, 21, 22, 23]] (by kernel_rfl) (by kernel_rfl) rfl (by kernel_rfl) trivial ⟨fun wx hx => Ob.op rfl (O.move rfl ⟨Keep.refl _ _, rfl⟩),
              fun wx hx => Ob.op rfl (O.move rfl ⟨Keep.refl _ _, rfl⟩),
              fun wx hx => Ob.op rfl (O.len Tryz.runUnderlying30 rfl (Sl.val (Its.ext hQ20 hx)) ⟨Keep.refl _ _, rfl⟩),
              fun wx hx => Ob.op rfl (O.geq_f rfl rfl (by (try dsimp only); omega) ⟨Keep.refl _ _, rfl⟩),
              fun wx hx => Ob.op rfl (O.move rfl ⟨Keep.refl _ _, rfl⟩),
              fun wx hx => Ob.op rfl (O.move rfl ⟨Keep.refl _ _, rfl⟩),
              fun wx hx => Ob.op rfl (O.move rfl ⟨Keep.refl _ _, rfl⟩),
              fun wx hx => Ob.op rfl (O.indexAddr Tryz.runUnderlying30 Tryz.sizeOf39 rfl rfl (Its.ext hQ20 hx) (by omega) (by omega) ⟨Keep.refl _ _, rfl⟩),
              fun wx hx => Ob.op rfl (O.loadAgg Tryz.isAgg39 Tryz.sizeOf39 rfl rfl (by have := Its.row (Its.ext hQ20 hx) hn1; rw [hn2] at this; exact this) ⟨Keep.refl _ _, rfl⟩),
              fun wx hx => Ob.op rfl (O.loadAgg Tryz.isAgg39 Tryz.sizeOf39 rfl rfl ((hW20.ext hx).row) ⟨Keep.refl _ _, rfl⟩),
              fun wx hx => Ob.op rfl (O.neqIt_f (p := viewIt nm x) (q := viewIt nm x) rfl rfl rfl rfl ⟨Keep.refl _ _, rfl⟩),
              fun wx hx => Ob.op rfl (O.pick_false rfl rfl ⟨Keep.refl _ _, rfl⟩),
              fun wx hx => Ob.op rfl (O.move rfl ⟨Keep.refl _ _, rfl⟩),
              fun wx hx => Ob.op rfl (O.fieldAddr Tryz.runUnderlying39 rfl Tryz.sizeOf4 rfl ⟨Keep.refl _ _, rfl⟩),
              fun wx hx => Ob.op rfl (O.load Tryz.isAgg4 rfl ((hX20.ext hx).cell (v := .bool false) (by simp [It.cells, hop])) ⟨Keep.refl _ _, rfl⟩),
              fun wx hx => Ob.op rfl (O.not rfl ⟨Keep.refl _ _, rfl⟩),
              fun wx hx => Ob.op rfl (O.move rfl ⟨Keep.refl _ _, rfl⟩),
              fun wx hx => Ob.op rfl (O.move rfl ⟨Keep.refl _ _, rfl⟩),
              fun wx hx => Ob.op rfl (O.move rfl ⟨Keep.refl _ _, rfl⟩),
              trivial⟩ (fun w21 he21 => ?_)
          refine L.op rfl rfl (O.indexAddr Tryz.runUnderlying30 Tryz.sizeOf39 rfl rfl (Its.ext hQ20 he21) (by omega) (by omega) (L.op rfl rfl (O.fieldAddr Tryz.runUnderlying39 rfl Tryz.sizeOf9 rfl (L.op rfl rfl (O.load Tryz.isAgg9 rfl (Its.cell (j := 6) (Its.ext hQ20 he21) hn1 (by decide) (by rw [hn2, hvi]; rfl)) (L.op rfl rfl (O.neq_str_f Tryz.runUnderlying9 rfl rfl rfl (L.op rfl rfl (O.pick_true rfl rfl (L.op rfl rfl (O.pick_false rfl rfl (L.nil (T.cond_false rfl (T.skip (T.region (L.op rfl rfl (O.move rfl (L.op rfl rfl (O.add64 rfl rfl (by (try dsimp only); omega) (L.op rfl rfl (O.assign rfl (L.nil (T.blk (T.region (L.op rfl rfl (O.add64 rfl rfl (by (try dsimp only); omega) (L.op rfl rfl (O.move rfl (L.nil (T.again (j + 1) (by omega) ⟨rfl, rfl, rfl, rfl, ?_, rfl, rfl, rfl, trivial⟩ ⟨hjl, he50.trans (he5020.trans he21)⟩))))))))))))))))))))))))))))))
          · exact congrArg (fun z : Int => some (Value.int .i64 z)) (by rw [hvs]; omega)
        · refine L.op rfl rfl (O.move rfl (L.op rfl rfl (O.eql_str_f Tryz.runUnderlying9 rfl rfl how (?_))))
          have hvi : viewIt nm x = ⟨x.nm, [], x.ver, 0, false, x.op, []⟩ := by rw [viewIt, if_neg (by rw [hop]; simp [how]), hc0]
          have hW20 : Blk w19 b18 (viewIt nm x).cells 39 := by rw [hvi]; exact hW19
          have hQ20 := Its.ext hQ50 he5019
          refine L.op rfl rfl (O.pick_false rfl rfl (L.nil (T.cond_false rfl (T.skip (T.seq (T.seq (?_)))))))
          refine T.anyE mixed 19 [14, 12, 17, 16] rfl [.is _, .is _, .is _, .is _, .is _, .is _, .is _, .is _, .is _, .is _, .is _, .is _, .is _, .is _, .is _, .is _, .is _, .is _, .is _] [[], [], [1], [0, 2], [3], [4], [4], [5, 6, 4], [7, 4], [4], [8, 9, 4], [4, 10], [11], [12], [13, 12], [14, 12], [15, 12], [16], [16]] [[], [], [1], [0, 1, 2], [0, 1, 2, 3], [0, 1, 2, 3, 4], [0, 1, 2, 3, 4], [0, 1, 2, 3, 4, 5, 6], [0, 1, 2, 3, 4, 5, 6, 7], [0, 1, 2, 3, 4], [0, 1, 2, 3, 4, 5, 6, 7, 8, 9], [0, 1, 2, 3, 4, 5, 6, 7, 8, 9, 10], [0, 1, 2, 3, 4, 5, 6, 7, 8, 9, 10, 11], [0, 1, 2, 3, 4, 5, 6, 7, 8, 9, 10, 11, 12], [0, 1, 2, 3, 4, 5, 6, 7, 8, 9, 10, 11, 12, 13], [0, 1, 2, 3, 4, 5, 6, 7, 8, 9, 10, 11, 12, 13, 14], [0, 1, 2, 3, 4, 5, 6, 7, 8, 9, 10, 11, 12, 13, 14, 15], [0, 1, 2, 3, 4, 5, 6, 7, 8, 9, 10, 11, 12, 13, 14, 15, 16], [0, 1, 2, 3, 4, 5, 6, 7, 8, 9, 10, 11, 12, 13, 14, 15, 16], [0, 1, 2, 3, 4, 5, 6, 7, 8, 9, 10, 11, 12, 13, 14, 15, 16, 17, 18], [0, 1, 2, 3, 4, 5, 6, 7, 8, 9, 10, 11, 12, 13, 14, 15, 16, 17, 18, 19], [0, 1, 2, 3, 4, 5, 6, 7, 8, 9, 10, 11, 12, 13, 14, 15, 16, 17, 18, 19, 20], [0, 1, 2, 3, 4, 5, 6, 7, 8, 9, 10, 11, 12, 13, 14, 15, 16, 17, 18, 19, 20, 21], [0, 1, 2, 3, 4, 5, 6, 7, 8, 9, 10, 11, 12, 13, 14, 15, 16, 17, 18, 19, 20, 21, 22], [0, 1, 2, 3, 4, 5, 6, 7, 8, 9, 10, 11, 12, 13, 14, 15, 16, 17, 18, 19, 20, 21, 22, 23]] (by kernel_rfl) (by kernel_rfl) rfl (by kernel_rfl) trivial ⟨fun wx hx => Ob.op rfl (O.move rfl ⟨Keep.refl _ _, rfl⟩),
              fun wx hx => Ob.op rfl (O.move rfl ⟨Keep.refl _ _, rfl⟩),
              fun wx hx => Ob.op rfl (O.len Tryz.runUnderlying30 rfl (Sl.val (Its.ext hQ20 hx)) ⟨Keep.refl _ _, rfl⟩),
              fun wx hx => Ob.op rfl (O.geq_f rfl rfl (by (try dsimp only); omega) ⟨Keep.refl _ _, rfl⟩),
              fun wx hx => Ob.op rfl (O.move rfl ⟨Keep.refl _ _, rfl⟩),
              fun wx hx => Ob.op rfl (O.move rfl ⟨Keep.refl _ _, rfl⟩),
              fun wx hx => Ob.op rfl (O.move rfl ⟨Keep.refl _ _, rfl⟩),
              fun wx hx => Ob.op rfl (O.indexAddr Tryz.runUnderlying30 Tryz.sizeOf39 rfl rfl (Its.ext hQ20 hx) (by omega) (by omega) ⟨Keep.refl _ _, rfl⟩),
              fun wx hx => Ob.op rfl (O.loadAgg Tryz.isAgg39 Tryz.sizeOf39 rfl rfl (by have := Its.row (Its.ext hQ20 hx) hn1; rw [hn2] at this; exact this) ⟨Keep.refl _ _, rfl⟩),
              fun wx hx => Ob.op rfl (O.loadAgg Tryz.isAgg39 Tryz.sizeOf39 rfl rfl ((hW20.ext hx).row) ⟨Keep.refl _ _, rfl⟩),
              fun wx hx => Ob.op rfl (O.neqIt_f (p := viewIt nm x) (q := viewIt nm x) rfl rfl rfl rfl ⟨Keep.refl _ _, rfl⟩),
              fun wx hx => Ob.op rfl (O.pick_false rfl rfl ⟨Keep.refl _ _, rfl⟩),
              fun wx hx => Ob.op rfl (O.move rfl ⟨Keep.refl _ _, rfl⟩),
              fun wx hx => Ob.op rfl (O.fieldAddr Tryz.runUnderlying39 rfl Tryz.sizeOf4 rfl ⟨Keep.refl _ _, rfl⟩),
              fun wx hx => Ob.op rfl (O.load Tryz.isAgg4 rfl ((hX19.ext hx).cell (v := .bool false) (by simp [It.cells, hop])) ⟨Keep.refl _ _, rfl⟩),
              fun wx hx => Ob.op rfl (O.not rfl ⟨Keep.refl _ _, rfl⟩),
              fun wx hx => Ob.op rfl (O.move rfl ⟨Keep.refl _ _, rfl⟩),
              fun wx hx => Ob.op rfl (O.move rfl ⟨Keep.refl _ _, rfl⟩),
              fun wx hx => Ob.op rfl (O.move rfl ⟨Keep.refl _ _, rfl⟩),
              trivial⟩ (fun w21 he21 => ?_)
          refine L.op rfl rfl (O.indexAddr Tryz.runUnderlying30 Tryz.sizeOf39 rfl rfl (Its.ext hQ20 he21) (by omega) (by omega) (L.op rfl rfl (O.fieldAddr Tryz.runUnderlying39 rfl Tryz.sizeOf9 rfl (L.op rfl rfl (O.load Tryz.isAgg9 rfl (Its.cell (j := 6) (Its.ext hQ20 he21) hn1 (by decide) (by rw [hn2, hvi]; rfl)) (L.op rfl rfl (O.neq_str_f Tryz.runUnderlying9 rfl rfl rfl (L.op rfl rfl (O.pick_true rfl rfl (L.op rfl rfl (O.pick_false rfl rfl (L.nil (T.cond_false rfl (T.skip (T.region (L.op rfl rfl (O.move rfl (L.op rfl rfl (O.add64 rfl rfl (by (try dsimp only); omega) (L.op rfl rfl (O.assign rfl (L.nil (T.blk (T.region (L.op rfl rfl (O.add64 rfl rfl (by (try dsimp only); omega) (L.op rfl rfl (O.move rfl (L.nil (T.again (j + 1) (by omega) ⟨rfl, rfl, rfl, rfl, ?_, rfl, rfl, rfl, trivial⟩ ⟨hjl, he50.trans (he5019.trans he21)⟩))))))))))))))))))))))))))))))
          · exact congrArg (fun z : Int => some (Value.int .i64 z)) (by rw [hvs]; omega)
      · refine L.nil (T.seq (T.seq (T.region (L.op rfl rfl (O.fieldAddr Tryz.runUnderlying39 rfl Tryz.sizeOf4 rfl (L.op rfl rfl (O.load Tryz.isAgg4 rfl (hX19.cell (v := .bool true) (by simp [It.cells, hop])) (L.nil (T.cond_true rfl (T.region (L.op rfl rfl (O.fieldAddr Tryz.runUnderlying39 rfl Tryz.sizeOf9 rfl (L.op rfl rfl (O.load Tryz.isAgg9 rfl (hX19.cell rfl) (L.op rfl rfl (O.fieldAddr Tryz.runUnderlying39 rfl Tryz.sizeOf9 rfl (L.op rfl rfl (O.store1 Tryz.sizeOf9 rfl rfl rfl hW19 (by simp [It.cells]) (fun w20 hu20 hB20 => ?_)))))))))))))))))))
        have hu20 : Upd b18 _ _ := hu20
        have hW20 : Blk w20 b18 (⟨x.nm, [], x.ver, 0, false, x.op, x.con⟩ : It).cells 39 := hB20
        have he5020 : Ext w50 w20 := he5019.upd hu20 (.inr hz18)
        have hX20 := hX19.upd hu20 (by omega)
        refine L.nil (T.seq (T.seq (T.region (L.op rfl rfl (O.fieldAddr Tryz.runUnderlying39 rfl Tryz.sizeOf4 rfl (L.op rfl rfl (O.load Tryz.isAgg4 rfl (hX20.cell (v := .bool true) (by simp [It.cells, hop])) (L.op rfl rfl (O.move rfl (L.pass rfl rfl (L.pass rfl rfl (L.pass rfl rfl (L.pass rfl rfl (L.op rfl rfl (O.pick_true rfl rfl (L.nil (T.cond_true rfl (T.region (L.op rfl rfl (O.fieldAddr Tryz.runUnderlying39 rfl Tryz.sizeOf9 rfl (L.op rfl rfl (O.load Tryz.isAgg9 rfl (hX20.cell rfl) (L.op rfl rfl (O.fieldAddr Tryz.runUnderlying39 rfl Tryz.sizeOf9 rfl (L.op rfl rfl (O.store1 Tryz.sizeOf9 rfl rfl rfl hW20 (by simp [It.cells]) (fun w23 hu23 hB23 => ?_)))))))))))))))))))))))))))
        have hu22 : Upd b18 _ _ := hu23
        have hvi : viewIt nm x = ⟨x.nm, x.ow, x.ver, 0, false, x.op, x.con⟩ := by rw [viewIt, if_pos (.inl hop)]
        have hW22 : Blk w23 b18 (viewIt nm x).cells 39 := by rw [hvi]; exact hB23
        have he5022 : Ext w50 w23 := he5020.upd hu22 (.inr hz18)
        have hX22 := hX20.upd hu22 (by omega)
        have hQ22 := Its.ext hQ50 he5022
        refine L.nil (T.seq (T.seq (?_)))
        refine T.anyE mixed 19 [14, 12, 17, 16] rfl [.is _, .is _, .is _, .is _, .is _, .is _, .is _, .is _, .is _, .is _, .is _, .is _, .is _, .is _, .is _, .is _, .is _, .is undef, .is undef] [[], [], [1], [0, 2], [3], [4], [4], [5, 6, 4], [7, 4], [4], [8, 9, 4], [4, 10], [11], [12], [13, 12], [14, 12], [15, 12], [16], [16]] [[], [], [1], [0, 1, 2], [0, 1, 2, 3], [0, 1, 2, 3, 4], [0, 1, 2, 3, 4], [0, 1, 2, 3, 4, 5, 6], [0, 1, 2, 3, 4, 5, 6, 7], [0, 1, 2, 3, 4], [0, 1, 2, 3, 4, 5, 6, 7, 8, 9], [0, 1, 2, 3, 4, 5, 6, 7, 8, 9, 10], [0, 1, 2, 3, 4, 5, 6, 7, 8, 9, 10, 11], [0, 1, 2, 3, 4, 5, 6, 7, 8, 9, 10, 11, 12], [0, 1, 2, 3, 4, 5, 6, 7, 8, 9, 10, 11, 12, 13], [0, 1, 2, 3, 4, 5, 6, 7, 8, 9, 10, 11, 12, 13, 14], [0, 1, 2, 3, 4, 5, 6, 7, 8, 9, 10, 11, 12, 13, 14, 15], [0, 1, 2, 3, 4, 5, 6, 7, 8, 9, 10, 11, 12, 13, 14, 15, 16], [0, 1, 2, 3, 4, 5, 6, 7, 8, 9, 10, 11, 12, 13, 14, 15, 16], [0, 1, 2, 3, 4, 5, 6, 7, 8, 9, 10, 11, 12, 13, 14, 15, 16, 17, 18], [0, 1, 2, 3, 4, 5, 6, 7, 8, 9, 10, 11, 12, 13, 14, 15, 16, 17, 18, 19], [0, 1, 2, 3, 4, 5, 6, 7, 8, 9, 10, 11, 12, 13, 14, 15, 16, 17, 18, 19, 20], [0, 1, 2, 3, 4, 5, 6, 7, 8, 9, 10, 11, 12, 13, 14, 15, 16, 17, 18, 19, 20, 21], [0, 1, 2, 3, 4, 5, 6, 7, 8, 9, 10, 11, 12, 13, 14, 15, 16, 17, 18, 19, 20, 21, 22], [0, 1, 2, 3, 4, 5, 6, 7, 8, 9, 10, 11, 12, 13, 14, 15, 16, 17, 18, 19, 20, 21, 22, 23]] (by kernel_rfl) (by kernel_rfl) rfl (by kernel_rfl) trivial ⟨fun wx hx => Ob.op rfl (O.move rfl ⟨Keep.refl _ _, rfl⟩),
            fun wx hx => Ob.op rfl (O.move rfl ⟨Keep.refl _ _, rfl⟩),
            fun wx hx => Ob.op rfl (O.len Tryz.runUnderlying30 rfl (Sl.val (Its.ext hQ22 hx)) ⟨Keep.refl _ _, rfl⟩),
            fun wx hx => Ob.op rfl (O.geq_f rfl rfl (by (try dsimp only); omega) ⟨Keep.refl _ _, rfl⟩),
            fun wx hx => Ob.op rfl (O.move rfl ⟨Keep.refl _ _, rfl⟩),
            fun wx hx => Ob.op rfl (O.move rfl ⟨Keep.refl _ _, rfl⟩),
            fun wx hx => Ob.op rfl (O.move rfl ⟨Keep.refl _ _, rfl⟩),
            fun wx hx => Ob.op rfl (O.indexAddr Tryz.runUnderlying30 Tryz.sizeOf39 rfl rfl (Its.ext hQ22 hx) (by omega) (by omega) ⟨Keep.refl _ _, rfl⟩),
            fun wx hx => Ob.op rfl (O.loadAgg Tryz.isAgg39 Tryz.sizeOf39 rfl rfl (by have := Its.row (Its.ext hQ22 hx) hn1; rw [hn2] at this; exact this) ⟨Keep.refl _ _, rfl⟩),
            fun wx hx => Ob.op rfl (O.loadAgg Tryz.isAgg39 Tryz.sizeOf39 rfl rfl ((hW22.ext hx).row) ⟨Keep.refl _ _, rfl⟩),
            fun wx hx => Ob.op rfl (O.neqIt_f (p := viewIt nm x) (q := viewIt nm x) rfl rfl rfl rfl ⟨Keep.refl _ _, rfl⟩),
            fun wx hx => Ob.op rfl (O.pick_false rfl rfl ⟨Keep.refl _ _, rfl⟩),
            fun wx hx => Ob.op rfl (O.move rfl ⟨Keep.refl _ _, rfl⟩),
            fun wx hx => Ob.op rfl (O.fieldAddr Tryz.runUnderlying39 rfl Tryz.sizeOf4 rfl ⟨Keep.refl _ _, rfl⟩),
            fun wx hx => Ob.op rfl (O.load Tryz.isAgg4 rfl ((hX22.ext hx).cell (v := .bool true) (by simp [It.cells, hop])) ⟨Keep.refl _ _, rfl⟩),
            fun wx hx => Ob.op rfl (O.not rfl ⟨Keep.refl _ _, rfl⟩),
            fun wx hx => Ob.op rfl (O.move rfl ⟨Keep.refl _ _, rfl⟩),
            fun wx hx => Ob.pass rfl rfl,
            fun wx hx => Ob.pass rfl rfl,
            trivial⟩ (fun w21 he21 => ?_)
        refine L.pass rfl rfl (L.pass rfl rfl (L.pass rfl rfl (L.pass rfl rfl (L.op rfl rfl (O.pick_false rfl rfl (L.op rfl rfl (O.pick_false rfl rfl (L.nil (T.cond_false rfl (T.skip (T.region (L.op rfl rfl (O.move rfl (L.op rfl rfl (O.add64 rfl rfl (by (try dsimp only); omega) (L.op rfl rfl (O.assign rfl (L.nil (T.blk (T.region (L.op rfl rfl (O.add64 rfl rfl (by (try dsimp only); omega) (L.op rfl rfl (O.move rfl (L.nil (T.again (j + 1) (by omega) ⟨rfl, rfl, rfl, rfl, ?_, rfl, rfl, rfl, trivial⟩ ⟨hjl, he50.trans (he5022.trans he21)⟩))))))))))))))))))))))))))
        · exact congrArg (fun z : Int => some (Value.int .i64 z)) (by rw [hvs]; omega)
    · refine L.nil (?_)
      have hvy := viewL_no (who := nm) hjl (by rw [← hx]; exact hwd)
      refine T.seq (T.seq (T.region (L.op rfl rfl (O.fieldAddr Tryz.runUnderlying39 rfl Tryz.sizeOf4 rfl (L.op rfl rfl (O.load Tryz.isAgg4 rfl (hX17.cell (v := .bool true) (by simp [It.cells, hwd])) (L.nil (T.cond_true rfl (T.exit rfl (T.region (L.op rfl rfl (O.add64 rfl rfl (by (try dsimp only); omega) (L.op rfl rfl (O.move rfl (L.nil (T.again (j + 1) (by omega) ⟨rfl, rfl, rfl, rfl, ?_, rfl, rfl, rfl, trivial⟩ ⟨hjl, he50.trans he5017⟩))))))))))))))))
      · exact congrArg (fun z : Int => some (Value.int .i64 z)) (by rw [hvy])
  · refine L.nil (?_)
    have hjt : s.its.take j = s.its := List.take_of_length_le (by omega)
    rw [hjt]
    refine T.seq (T.cond_false rfl (T.exit rfl (T.seq (T.seq (T.region (L.op rfl rfl (O.move rfl (L.op rfl rfl (O.move rfl (L.op rfl rfl (O.len Tryz.runUnderlying30 rfl (Sl.val hQ50) (L.op rfl rfl (O.neq_f rfl rfl rfl (?_))))))))))))))
    have hI50 : Ens 0 w50 (.slice oh h.length caph) h := ((hI22.ext he2210).ext he41).ext he50
    refine L.nil (T.cond_false rfl (T.skip (T.seq (T.region (L.op rfl rfl (O.move rfl (L.op rfl rfl (O.call (xs := [.tmp 114]) Tryz.call14 rfl rfl (cloneE_calls 0 _ h w50 hI50 (by omega)) (fun v60 w60 hq => ?_)))))))))
    obtain ⟨he60, hO60⟩ := hq
    have hS60 : Sl w50.heap.size w60 v60 h.length 6 (h.map En.cells).flatten := Sl.of_owns hO60
    refine L.op rfl rfl (O.assign rfl (L.nil (T.seq (T.seq (T.region (L.op rfl rfl (O.move rfl (L.op rfl rfl (O.len Tryz.runUnderlying27 rfl (Sl.val hS60) (?_))))))))))
    have he060 := he050.trans he60
    have hQ60 := Its.ext hQ50 he60
    rcases Nat.eq_zero_or_pos h.length with hz | hpos
    · have hnil : h = [] := List.length_eq_zero_iff.1 hz
      refine L.op rfl rfl (O.move rfl (L.nil (T.block (?_))))
      refine T.loop (σ := Nat) (fun _ => [(8, str nm), (12, .slice oq (viewL nm s.its).length capq), (18, v60), (117, .int .i64 h.length), (118, .int .i64 0)]) (fun _ w' => Ext w60 w') (fun _ => 0) (0) ⟨rfl, rfl, rfl, rfl, rfl, trivial⟩ (Keep.refl _ _) ?_
      rintro _ w70 he70
      refine T.seq (T.region (L.op rfl rfl (O.lss_f rfl rfl (by omega) (?_))))
      have hE70 : Ens 0 w70 v60 h := (show Ens 0 w60 v60 h from Sl.mono hS60 (Nat.zero_le _)).ext he70
      refine L.nil (T.seq (T.cond_false rfl (T.exit rfl (T.seq (T.region (L.op rfl rfl (O.move rfl (L.op rfl rfl (O.move rfl (L.op rfl rfl (O.call (xs := [.tmp 145, .tmp 146]) Tryz.call13 rfl rfl (View_calls 0 _ h nm w70 hE70 hok (by omega) (hL.ext (he060.trans he70))) (fun v80 w80 hq => ?_))))))))))))
      obtain ⟨p3, hv80, hP80, he80⟩ := hq
      rw [hvd nm hnb] at hv80 hP80
      subst hv80
      refine L.op rfl rfl (O.move rfl (L.op rfl rfl (O.extract rfl rfl (L.op rfl rfl (O.extract rfl rfl (L.op rfl rfl (O.assign rfl (L.op rfl rfl (O.assign rfl (L.nil (T.seq (T.region (L.op rfl rfl (O.move rfl (L.op rfl rfl (O.eql_t rfl rfl rfl (L.op rfl rfl (O.move rfl (L.op rfl rfl (O.move rfl (L.op rfl rfl (O.move rfl (L.op rfl rfl (O.call (xs := [.tmp 153, .tmp 154]) Tryz.call15 rfl rfl (equalIt_calls 0 0 _ p3 _ _ w80 ((Its.ext hQ60 he70).ext he80) hP80) (fun v81 w81 hq => ?_)))))))))))))))))))))))))
      obtain ⟨hv81, he81⟩ := hq
      rw [decide_eq_true rfl] at hv81
      subst hv81
      refine L.op rfl rfl (O.pick_true rfl rfl (L.op rfl rfl (O.assign rfl (L.nil (T.ret1 Tryz.results3 rfl ⟨rfl, ((he060.trans he70).trans he80).trans he81⟩)))))
    · obtain ⟨bb, cap, cur, rfl, hE60⟩ := OwnEs.of hO60 rfl hpos
      refine L.op rfl rfl (O.move rfl (L.nil (T.block (?_))))
      refine T.loop (σ := Nat) (fun i => [(2, wordV by'), (8, str nm), (12, .slice oq (viewL nm s.its).length capq), (18, .slice (some ⟨bb, 0, none⟩) h.length cap), (116, .slice (some ⟨bb, 0, none⟩) h.length cap), (117, .int .i64 h.length), (118, .int .i64 i)]) (fun i w' => i ≤ h.length ∧ (∀ k, k < i → ¬ (h.getD k e0).k = 5) ∧ Ext w50 w' ∧ ∃ cur, OwnEs w50.heap.size bb h.length cap cur (blL by' h i) w') (fun i => h.length - i) (0) ⟨rfl, rfl, rfl, rfl, rfl, rfl, rfl, trivial⟩ ⟨Nat.zero_le _, fun k hk => by omega, he60, cur, hE60⟩ ?_
      rintro i w70 ⟨hi, h5, he70, cu, hE70⟩
      have hbl := blL_len by' h i
      have he070 := he050.trans he70
      refine T.seq (T.region (L.op rfl rfl (O.lss_s rfl rfl (fun hlti => ?_) (fun hlti => ?_))))
      · refine L.nil (?_)
        have hil : i < h.length := by omega
        have hilb : i < (blL by' h i).length := by omega
        obtain ⟨y, hy⟩ : ∃ y, y = h.getD i e0 := ⟨_, rfl⟩
        have hyo := hok y (by rw [hy, getD_get hil]; exact List.getElem_mem hil)
        have hgy := blL_get (b := by') hil
        have hnx := blL_next (b := by') hil
        rw [← hy] at hgy hnx
        refine T.seq (T.cond_true rfl (T.skip (T.seq (T.block (T.seq (T.region (L.op rfl rfl (O.move rfl (L.op rfl rfl (O.indexAddr Tryz.runUnderlying27 Tryz.sizeOf42 rfl rfl hE70.ens (by (try dsimp only); omega) (by (try dsimp only); omega) (L.op rfl rfl (O.loadAgg Tryz.isAgg42 Tryz.sizeOf42 rfl rfl (by have := hE70.ens.row hilb; rw [hgy] at this; exact this) (L.op rfl rfl (O.alloc Tryz.zeroValue42 (fun b20 w20 hb20 hz20 he20 hB20 => ?_)))))))))))))))
        refine L.op rfl rfl (O.assign rfl (L.op rfl rfl (O.storeAgg Tryz.sizeOf42 rfl rfl rfl hB20 (Nat.le_refl _) (En.one _) (fun w21 hu21 hB21 => ?_))))
        have hu21 : Upd b20 _ _ := hu21
        have hY21 : Blk w21 b20 y.cells 42 := hB21
        have he7021 : Ext w70 w21 := he20.upd hu21 (.inr (by omega))
        have hE21 := hE70.ext he7021
        refine L.nil (T.seq (T.seq (T.region (L.op rfl rfl (O.fieldAddr Tryz.runUnderlying42 rfl Tryz.sizeOf3 rfl (L.op rfl rfl (O.load Tryz.isAgg3 rfl (hY21.cell rfl) (?_))))))))
        by_cases hk5 : y.k = 5
        · refine L.op rfl rfl (O.eql_t rfl rfl hk5 (L.nil (T.cond_true rfl (T.seq (T.region (L.op rfl rfl (O.assign rfl (L.nil (T.ret1 Tryz.results3 rfl ⟨rfl, he070.trans he7021⟩)))))))))
        · refine L.op rfl rfl (O.eql_f rfl rfl hk5 (?_))
          have h5' : ∀ k, k < i + 1 → ¬ (h.getD k e0).k = 5 := fun k hk => by
            rcases Nat.lt_or_ge k i with hlt | hge
            · exact h5 k hlt
            · have : k = i := by omega
              subst this; rw [← hy]; exact hk5
          refine L.nil (T.cond_false rfl (T.skip (T.seq (T.region (L.op rfl rfl (O.fieldAddr Tryz.runUnderlying42 rfl Tryz.sizeOf3 rfl (L.op rfl rfl (O.load Tryz.isAgg3 rfl (hY21.cell rfl) (?_)))))))))
          rcases (show y.k = 1 ∨ (¬ y.k = 1 ∧ y.k = 2) ∨ ¬ (y.k = 1 ∨ y.k = 2) by omega) with hk | hk | hk
          · refine L.op rfl rfl (O.eql_t rfl rfl hk (L.op rfl rfl (O.move rfl (L.pass rfl rfl (L.pass rfl rfl (L.pass rfl rfl (L.op rfl rfl (O.pick_true rfl rfl (L.nil (T.cond_true rfl (T.region (L.op rfl rfl (O.move rfl (L.op rfl rfl (O.move rfl (L.op rfl rfl (O.indexAddr Tryz.runUnderlying27 Tryz.sizeOf42 rfl rfl hE21.ens (by (try dsimp only); omega) (by (try dsimp only); omega) (L.op rfl rfl (O.fieldAddr Tryz.runUnderlying42 rfl Tryz.sizeOf25 rfl (L.op rfl rfl (O.load Tryz.isAgg25 rfl (Ens.cell (j := 3) hE21.ens hilb (by decide) (by rw [hgy]; rfl)) (L.op rfl rfl (O.move rfl (L.op rfl rfl (O.xor_u64 rfl rfl hyo.sl hby rfl rfl (L.op rfl rfl (O.indexAddr Tryz.runUnderlying27 Tryz.sizeOf42 rfl rfl hE21.ens (by (try dsimp only); omega) (by (try dsimp only); omega) (L.op rfl rfl (O.fieldAddr Tryz.runUnderlying42 rfl Tryz.sizeOf25 rfl (L.op rfl rfl (O.store1_at2 Tryz.sizeOf25 rfl rfl rfl hE21.blk (hE21.fit hilb (by decide)) (fun w30 hu30 hB30 => ?_))))))))))))))))))))))))))))))))
            have hu30 : Upd bb _ _ := hu30
            have hE30 := hE21.set (j := 3) (r' := blE by' y) hB30 hilb (by decide) (by rw [hgy, blE, if_pos (.inl hk)]; rfl)
            rw [hnx] at hE30
            refine L.nil (T.blk (T.region (L.op rfl rfl (O.add64 rfl rfl (by (try dsimp only); omega) (L.op rfl rfl (O.move rfl (L.nil (T.again (i + 1) (by omega) ⟨rfl, rfl, rfl, rfl, rfl, rfl, rfl, trivial⟩ ⟨hil, h5', (he70.trans he7021).upd hu30 (.inr hE70.hb), _, hE30⟩))))))))
          · refine L.op rfl rfl (O.eql_f rfl rfl hk.1 (L.op rfl rfl (O.move rfl (L.op rfl rfl (O.fieldAddr Tryz.runUnderlying42 rfl Tryz.sizeOf3 rfl (L.op rfl rfl (O.load Tryz.isAgg3 rfl (hY21.cell rfl) (L.op rfl rfl (O.eql_t rfl rfl hk.2 (L.op rfl rfl (O.pick_false rfl rfl (L.nil (T.cond_true rfl (T.region (L.op rfl rfl (O.move rfl (L.op rfl rfl (O.move rfl (L.op rfl rfl (O.indexAddr Tryz.runUnderlying27 Tryz.sizeOf42 rfl rfl hE21.ens (by (try dsimp only); omega) (by (try dsimp only); omega) (L.op rfl rfl (O.fieldAddr Tryz.runUnderlying42 rfl Tryz.sizeOf25 rfl (L.op rfl rfl (O.load Tryz.isAgg25 rfl (Ens.cell (j := 3) hE21.ens hilb (by decide) (by rw [hgy]; rfl)) (L.op rfl rfl (O.move rfl (L.op rfl rfl (O.xor_u64 rfl rfl hyo.sl hby rfl rfl (L.op rfl rfl (O.indexAddr Tryz.runUnderlying27 Tryz.sizeOf42 rfl rfl hE21.ens (by (try dsimp only); omega) (by (try dsimp only); omega) (L.op rfl rfl (O.fieldAddr Tryz.runUnderlying42 rfl Tryz.sizeOf25 rfl (L.op rfl rfl (O.store1_at2 Tryz.sizeOf25 rfl rfl rfl hE21.blk (hE21.fit hilb (by decide)) (fun w30 hu30 hB30 => ?_)))))))))))))))))))))))))))))))))))
            have hu30 : Upd bb _ _ := hu30
            have hE30 := hE21.set (j := 3) (r' := blE by' y) hB30 hilb (by decide) (by rw [hgy, blE, if_pos (.inr hk.2)]; rfl)
            rw [hnx] at hE30
            refine L.nil (T.blk (T.region (L.op rfl rfl (O.add64 rfl rfl (by (try dsimp only); omega) (L.op rfl rfl (O.move rfl (L.nil (T.again (i + 1) (by omega) ⟨rfl, rfl, rfl, rfl, rfl, rfl, rfl, trivial⟩ ⟨hil, h5', (he70.trans he7021).upd hu30 (.inr hE70.hb), _, hE30⟩))))))))
          · have hsame := blL_same (b := by') hil (by rw [← hy, blE, if_neg hk])
            refine L.op rfl rfl (O.eql_f rfl rfl (fun e => hk (.inl e)) (L.op rfl rfl (O.move rfl (L.op rfl rfl (O.fieldAddr Tryz.runUnderlying42 rfl Tryz.sizeOf3 rfl (L.op rfl rfl (O.load Tryz.isAgg3 rfl (hY21.cell rfl) (L.op rfl rfl (O.eql_f rfl rfl (fun e => hk (.inr e)) (L.op rfl rfl (O.pick_false rfl rfl (L.nil (T.cond_false rfl (T.skip (T.blk (T.region (L.op rfl rfl (O.add64 rfl rfl (by (try dsimp only); omega) (L.op rfl rfl (O.move rfl (L.nil (T.again (i + 1) (by omega) ⟨rfl, rfl, rfl, rfl, rfl, rfl, rfl, trivial⟩ ⟨hil, h5', he70.trans he7021, cu, by rw [hsame]; exact hE21⟩))))))))))))))))))))))
      · refine L.nil (?_)
        have hil : i = h.length := by omega
        have hfin := blL_all by' h
        rw [hil, hfin] at hE70
        have h5a : ∀ x ∈ h, ¬ x.k = 5 := fun x hx => by
          obtain ⟨k, hk, rfl⟩ := List.getElem_of_mem hx
          have := h5 k (by omega)
          rwa [getD_get hk] at this
        have hokb : AllOk (h.map (blE by')) := fun x hx => by
          obtain ⟨y, hy, rfl⟩ := List.mem_map.1 hx
          have ho := hok y hy
          unfold blE
          split
          · exact ⟨ho.who, ho.item, Nat.xor_lt_two_pow (n := 64) ho.sl hby, ho.con, ho.non⟩
          · exact ho
        have hEE : Ens 0 w70 (.slice (some ⟨bb, 0, none⟩) h.length cap) (h.map (blE by')) := Sl.mono hE70.ens (Nat.zero_le _)
        refine T.seq (T.cond_false rfl (T.exit rfl (T.seq (T.region (L.op rfl rfl (O.move rfl (L.op rfl rfl (O.move rfl (L.op rfl rfl (O.call (xs := [.tmp 145, .tmp 146]) Tryz.call13 rfl rfl (View_calls 0 _ (h.map (blE by')) nm w70 hEE hokb (by omega) (hL.ext he070)) (fun v80 w80 hq => ?_)))))))))))
        obtain ⟨p3, hv80, hP80, he80⟩ := hq
        rw [hvo nm hnb h5a] at hv80 hP80
        subst hv80
        refine L.op rfl rfl (O.move rfl (L.op rfl rfl (O.extract rfl rfl (L.op rfl rfl (O.extract rfl rfl (L.op rfl rfl (O.assign rfl (L.op rfl rfl (O.assign rfl (L.nil (T.seq (T.region (L.op rfl rfl (O.move rfl (L.op rfl rfl (O.eql_t rfl rfl rfl (L.op rfl rfl (O.move rfl (L.op rfl rfl (O.move rfl (L.op rfl rfl (O.move rfl (L.op rfl rfl (O.call (xs := [.tmp 153, .tmp 154]) Tryz.call15 rfl rfl (equalIt_calls 0 0 _ p3 _ _ w80 ((Its.ext hQ50 he70).ext he80) hP80) (fun v81 w81 hq => ?_)))))))))))))))))))))))))
        obtain ⟨hv81, he81⟩ := hq
        rw [decide_eq_true rfl] at hv81
        subst hv81
        refine L.op rfl rfl (O.pick_true rfl rfl (L.op rfl rfl (O.assign rfl (L.nil (T.ret1 Tryz.results3 rfl ⟨rfl, (he070.trans he80).trans he81⟩)))))

end Go.Proofs.YtmnihgcffdmodaaGreatDoor
set_option linter.unusedVariables false
set_option linter.unusedSimpArgs false
set_option maxRecDepth 20000
namespace Go.Proofs.YtmnihgcffdmodaaGreatDoor
open Go Go.E RowKit ChangeShapes WideShapes
attribute [local irreducible] Go.E.T Go.E.L Go.E.O Go.E.Ob

set_option maxRecDepth 100000 in
theorem historyBlind_lifted (os : Os) (started : os.Started) (H : Type) (enc : TypeId × Value → H) :
    ReturnsInHanded {} Tryz.checked os 3 .any (fun w args => (Rows.historyBlindSpec.pre enc Tryz.prog Tryz.f3 [] false w args ∧ laidMetH Tryz.prog laidL w) ∧ sizedMet enc Tryz.prog Tryz.f3 (OpenSpec.ofChange Rows.historyBlindSpec) false w args)
      (Rows.historyBlindSpec.post enc Tryz.prog Tryz.f3 false true false false) := by
  refine law_liftedS (C := Tryz.checked) (X := fun w _ => laidMetH Tryz.prog laidL w) (tb := 4) (ts := [24, 5, 25]) (fun _ _ _ hh h => h.of_heap hh) own started (by kernel_rfl) Tryz.func3
    rfl Tryz.params3 (fun ds h => ?_) (by kernel_rfl) Tryz.underlying4 laidOut (by kernel_rfl)
    (ChangeSpec.witness_at (enc := enc) (C := Tryz.checked) (os := os) (X := fun w _ => laidMetH Tryz.prog laidL w) false (laidWorld os) #[.agg #[.slice none 0 0, .bool false], .int .u8 0, .int .u64 0] 8 (World.laidAll_os _ _ _) (by kernel_rfl) (by kernel_rfl) (by kernel_rfl) (by kernel_rfl) (by kernel_rfl) (laidWorld_met os _)) ?_
  · obtain ⟨a0, a1, a2, rfl⟩ := three h
    rfl
  · intro W vs hl ha hz hX hsh
    have hL := lib_of_laid hX hsh
    obtain ⟨a0, a1, a2, rfl⟩ := three hl
    obtain ⟨ad, rs, cd, fd, rfl, hd⟩ := draft_of (ha 0 _ _ rfl rfl)
    obtain ⟨x1, rfl, hx1⟩ := (ha 1 _ _ rfl rfl).int Tryz.underlying5
    obtain ⟨m1, rfl, l1⟩ := wf_u8 hx1
    obtain ⟨x2, rfl, hx2⟩ := (ha 2 _ _ rfl rfl).int Tryz.underlying25
    obtain ⟨m2, rfl, l2⟩ := wf_u64 hx2
    exact HistoryBlind_calls 0 cd ad fd rs m1 m2 W hL hd l1 l2
theorem historyBlind_over : Rows.HistoryBlindSaid :=
  OpenClaim.holds_of_wide 3 Tryz.f3 rfl rfl rfl rfl rfl rfl rfl ⟨rfl, rfl, rfl, rfl, rfl⟩ rfl rfl rfl rfl rfl (by kernel_rfl) Tryz.func3 (by kernel_rfl)
    (of_decide_eq_true (by kernel_rfl)) (by unfold Func.isWrapper; first | (rw [if_pos (by decide +kernel)]; kernel_rfl) | (rw [if_neg (by decide +kernel)]; exact ⟨rfl, rfl⟩))
    (fun os started H enc _ => historyBlind_lifted os started H enc)
theorem historyBlind_holds : Rows.HistoryBlindCardSaid :=
  Claim7.holds_tied_plain_at .later [] [.data, .data, .data, .data, .sentinel, .sentinel, .pinned] true (true, "aaf5ffa92cad1a37786ee6b649a4a6dda330fa9512e5f093092dbdd098bd3f5a") true
    historyBlind_over (fun _ h => by cases h) (by kernel_rfl) (fun _ h => by cases h) historyBlind_row_tie rfl ⟨rfl, rfl⟩ (by kernel_rfl) rfl
    (fun f fn hf hfn => by
      obtain rfl : f = 3 := Option.some.inj ((show Tryz.prog.funcNamed Rows.historyBlindRow.func = some 3 by kernel_rfl).symm.trans hf) |>.symm
      obtain rfl : fn = Tryz.f3 := (Option.some.inj (Tryz.func3.symm.trans hfn)).symm
      exact ⟨by kernel_rfl, fun j t ht => by
        rw [Tryz.params3] at ht
        have hall : (([24, 5, 25] : List TypeId).all fun t => !Tryz.prog.wantsStandIn t) = true := by kernel_rfl
        have := List.all_eq_true.1 hall t (List.mem_of_getElem? (i := j) (by simpa using ht))
        have h2 : Tryz.prog.wantsStandIn t = false := by simpa using this
        exact h2⟩)
    (by kernel_rfl)
#print axioms historyBlind_holds
end Go.Proofs.YtmnihgcffdmodaaGreatDoor
