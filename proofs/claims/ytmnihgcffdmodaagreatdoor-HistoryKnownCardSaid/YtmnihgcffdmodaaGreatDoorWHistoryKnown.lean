/-
  HistoryKnown returns true for every input, and each argument reads behind the call as it read before. Conditions: the listed variables read as the program's text lays them (tied by the card).
-/
import Derived.Test.YtmnihgcffdmodaaGreatDoorMh
import Derived.Test.YtmnihgcffdmodaaGreatDoorCards
set_option linter.unusedVariables false
set_option linter.unusedSimpArgs false
set_option maxRecDepth 20000
namespace Go.Proofs.YtmnihgcffdmodaaGreatDoor
open Go Go.E RowKit
attribute [local irreducible] Go.E.T Go.E.L Go.E.O Go.E.Ob

attribute [local irreducible] Go.E.ObX Go.E.ObK Go.E.ObKP
theorem occ_one (s : Str) (c : UInt8) (i : Nat) : Lib.occAt s [c] i = true ↔ s[i]? = some c := by
  unfold Lib.occAt
  rw [← List.head?_drop]
  cases h : s.drop i with
  | nil => simp [List.isPrefixOf]
  | cons a r =>
    simp [List.isPrefixOf]
    exact ⟨fun e => e.symm, fun e => e.symm⟩
theorem last_at {a b : Str} {c : UInt8} (hb : c ∉ b) : Lib.lastIndex (a ++ c :: b) [c] = a.length := by
  rw [Lib.lastIndex, if_pos (by simp; omega)]
  have hl : (a ++ c :: b).length - [c].length + 1 = a.length + 1 + b.length := by simp; omega
  rw [hl]
  have hat : Lib.occAt (a ++ c :: b) [c] a.length = true := by rw [occ_one]; simp
  rcases Lib.lastOcc_spec (a ++ c :: b) [c] (a.length + 1 + b.length) with ⟨_, h⟩ | ⟨i, hi, h1, h2, h3⟩
  · rw [h a.length (by omega)] at hat; cases hat
  · rcases Nat.lt_trichotomy i a.length with hlt | he | hgt
    · rw [h3 a.length hlt (by omega)] at hat; cases hat
    · rw [h1, he]
    · exfalso
      rw [occ_one, List.getElem?_append_right (by omega)] at h2
      obtain ⟨q, hq⟩ : ∃ q, i - a.length = q + 1 := ⟨i - a.length - 1, by omega⟩
      rw [hq, List.getElem?_cons_succ] at h2
      exact hb (List.mem_of_getElem? h2)
theorem last_none {b : Str} {c : UInt8} (hb : c ∉ b) : Lib.lastIndex b [c] = -1 := by
  rw [Lib.lastIndex]
  split
  · rename_i hl
    simp only [List.length_cons, List.length_nil] at hl ⊢
    rcases Lib.lastOcc_spec b [c] (b.length - (0 + 1) + 1) with ⟨h, _⟩ | ⟨i, _, _, h2, _⟩
    · exact h
    · rw [occ_one] at h2
      exact absurd (List.mem_of_getElem? h2) hb
  · rfl
theorem suffix_yes (a : Str) (c : UInt8) : Lib.hasSuffix (a ++ [c]) [c] = true := by
  unfold Lib.hasSuffix
  rw [List.isSuffixOf_iff_suffix]
  exact List.suffix_append _ _
theorem trim_yes (a : Str) (c : UInt8) : Lib.trimSuffix (a ++ [c]) [c] = a := by
  rw [Lib.trimSuffix, if_pos (suffix_yes a c)]
  simp
theorem trim_nil (c : UInt8) : Lib.trimSuffix [] [c] = [] := by
  rw [Lib.trimSuffix]; split <;> simp
theorem count_text : ∀ {xs : List En}, (∀ x ∈ xs, rightE x = true) → Lib.countByte (textL xs) 10 = xs.length
  | [], _ => rfl
  | x :: r, h => by
    have h1 := line_free10 (h x (List.mem_cons_self ..))
    have ih := count_text (xs := r) fun y hy => h y (List.mem_cons_of_mem _ hy)
    unfold Lib.countByte at ih ⊢
    have e : textL (x :: r) = lineE x ++ ([10] ++ textL r) := by simp [textL]
    rw [e, List.count_append, List.count_append, ih, List.count_eq_zero.2 h1]
    simp; omega
theorem text_one (x : En) : textL [x] = lineE x ++ [10] := by simp [textL]
theorem text_app (xs ys : List En) : textL (xs ++ ys) = textL xs ++ textL ys := by simp [textL]
theorem text_snoc (xs : List En) (x : En) : textL (xs ++ [x]) = (textL xs ++ lineE x) ++ [10] := by rw [text_app, text_one, List.append_assoc]
/-- Behind the end of the line ahead of the last one. -/
theorem last_line {xs : List En} {x : En} (hx : rightE x = true) (hr : ∀ y ∈ xs, rightE y = true) : Lib.lastIndex (textL xs ++ lineE x) [10] + 1 = (textL xs).length := by
  have h1 := line_free10 hx
  rcases List.eq_nil_or_concat xs with rfl | ⟨ys, y, rfl⟩
  · rw [show textL [] ++ lineE x = lineE x from rfl, last_none h1]; rfl
  · rw [List.concat_eq_append, text_snoc, List.append_assoc, List.singleton_append, last_at h1]; simp only [List.length_append, List.length_cons, List.length_nil]; omega
theorem hexTo_shift (n : Nat) : ∀ i, hexTo n (i + 1) = hexD (n / 16 ^ i % 16) :: hexTo n i := fun i => rfl
/-- The digits from place i on. -/
def hexUp (n i : Nat) : Str := (hex16 n).take (16 - i)
theorem hexTo_take (n : Nat) : ∀ (m k : Nat), k ≤ m → (hexTo n m).take (m - k) ++ hexTo n k = hexTo n m
  | 0, k, h => by
    have : k = 0 := by omega
    subst this; simp
  | m + 1, k, h => by
    rcases Nat.lt_or_ge k (m + 1) with h1 | h1
    · rw [show m + 1 - k = (m - k) + 1 by omega, hexTo_shift, List.take_succ_cons, List.cons_append, hexTo_take n m k (by omega)]
    · have : k = m + 1 := by omega
      subst this; simp
theorem hexUp_next {n i : Nat} (h : i < 16) : hexUp n (i + 1) ++ [hexD (n / 16 ^ i % 16)] = hexUp n i := by
  have h1 := hexTo_take n 16 (i + 1) (by omega)
  have h2 := hexTo_take n 16 i (by omega)
  rw [hexTo_shift n i] at h1
  have h3 : ((hexTo n 16).take (16 - (i + 1)) ++ [hexD (n / 16 ^ i % 16)]) ++ hexTo n i = (hexTo n 16).take (16 - i) ++ hexTo n i := by rw [List.append_assoc]; exact h1.trans h2.symm
  exact List.append_cancel_right h3
theorem hexUp_all (n : Nat) : hexUp n 0 = hex16 n := by
  unfold hexUp
  rw [List.take_of_length_le (by rw [hex16_len]; omega)]
theorem hexUp_none (n : Nat) : hexUp n 16 = [] := rfl
theorem hexUp_len {n i : Nat} (h : i ≤ 16) : (hexUp n i).length = 16 - i := by
  unfold hexUp; rw [List.length_take, hex16_len]; omega
theorem hex_calls (n : Nat) (w : World) (hn : n < 18446744073709551616) :
    Calls Tryz.prog 41 #[wordV n] w (Ret fun v w' => v = str (hex16 n) ∧ Ext w w') := by
  refine T.enter (vs := [wordV n]) Tryz.func41 rfl Tryz.ntmps41 rfl ?_
  refine T.seq (T.region (L.op rfl rfl (O.assign rfl (L.nil (T.seq (T.region (L.op rfl rfl (O.assign rfl (L.nil (T.seq (T.seq (T.region (L.op rfl rfl (O.assign rfl (L.nil (T.block (?_)))))))))))))))))
  refine T.loop (σ := Nat × Value) (fun g => [(0, wordV n), (3, g.2), (4, .int .i64 (4 * (g.1 : Int) - 4))]) (fun g w' => g.1 ≤ 16 ∧ Ext w w' ∧ OwnO w.heap.size (hexUp n g.1) g.2 w') (fun g => g.1) ((16, .slice none 0 0)) ⟨rfl, rfl, ?_, trivial⟩ ⟨Nat.le_refl _, Keep.refl _ _, owns_nil _ _ _ _, fun _ => rfl⟩ ?_
  · exact congrArg (fun z : Int => some (Value.int .i64 z)) (by decide)
  rintro ⟨j, q⟩ w4 ⟨hj, he4, hO4⟩
  simp only at hj hO4
  refine T.seq (T.seq (T.region (L.op rfl rfl (O.move rfl (L.op rfl rfl (O.geq_s rfl rfl (fun hge => ?_) (fun hge => ?_)))))))
  · refine L.nil (?_)
    obtain ⟨i, rfl⟩ : ∃ i, j = i + 1 := ⟨j - 1, by have : (0 : Int) ≤ 4 * (j : Int) - 4 := hge; omega⟩
    have hs : (4 * ((i + 1 : Nat) : Int) - 4) = ((4 * i : Nat) : Int) := by omega
    rw [hs]
    refine T.cond_true rfl (T.skip (T.seq (T.block (T.region (L.op rfl rfl (O.move rfl (L.op rfl rfl (O.move rfl (L.op rfl rfl (O.move rfl (L.op rfl rfl (O.shr_u64 rfl rfl rfl hn (by omega) (?_)))))))))))))
    have hq : (((n / 2 ^ (((4 * i : Nat) : Int)).toNat : Nat) : Int) % 16) = ((n / 16 ^ i % 16 : Nat) : Int) := by rw [Int.toNat_natCast, Nat.pow_mul]; exact (Int.natCast_emod _ _).symm
    refine L.op rfl rfl (O.rem rfl rfl (Int.natCast_nonneg _) (by decide) (?_))
    rw [hq]
    refine L.op rfl rfl (O.index_nat Tryz.runUnderlying9 rfl rfl (show n / 16 ^ i % 16 < digits16.length from by show _ < 16; omega) (?_))
    have hdg : digits16.getD (n / 16 ^ i % 16) 0 = hexD (n / 16 ^ i % 16) := digits16_get _ (by omega)
    refine L.op rfl rfl (O.buildSlice (el := 5) (parts := [(0, .tmp 14)]) (vs := [(0, _)]) (cs := [.int .u8 (digits16.getD (n / 16 ^ i % 16) 0).toNat]) rfl (fun w => by kernel_rfl) (fun b7 w7 hb7 hz7 he7 hB7 => ?_))
    have hO7 := hO4.keep he7 (Nat.zero_le _)
    have hul : (hexUp n (i + 1)).length = 16 - (i + 1) := hexUp_len (by omega)
    refine L.op rfl rfl (O.append (size := 1) (bytes := 1) Tryz.runUnderlying93 Tryz.infoOf5 rfl rfl rfl rfl (by decide) rfl rfl hO7.row (Sl.of_blk (lo := 0) (n := 1) (sz := 1) hB7 rfl (Nat.le_refl _) (by decide) (Nat.zero_le _)) (by intro c hc; simp at hc; subst hc; rfl) (by omega) (by simp only [maxLen]; omega) (by have := he4.size; have := he7.size; omega) (fun v8 w8 hO8 hG8 => ?_))
    have hO9 : OwnO w.heap.size (hexUp n i) v8 w8 := by
      rw [← hexUp_next (by omega), ← hdg]
      exact OwnO.add hO8
    refine L.op rfl rfl (O.assign rfl (L.nil (T.blk (T.region (L.op rfl rfl (O.move rfl (L.op rfl rfl (O.sub64 rfl rfl (by omega) (L.op rfl rfl (O.assign rfl (L.nil (T.again ((i, v8)) (by omega) ⟨rfl, rfl, ?_, trivial⟩ ⟨by (try dsimp only); omega, (he4.trans he7).grown0 hO7.row hG8 (Nat.le_refl _), hO9⟩))))))))))))
    · exact congrArg (fun z : Int => some (Value.int .i64 z)) (by (try dsimp only); omega)
  · refine L.nil (?_)
    have h0 : j = 0 := by have : ¬ (0 : Int) ≤ 4 * (j : Int) - 4 := hge; omega
    subst h0
    rw [hexUp_all] at hO4
    refine T.cond_false rfl (T.exit rfl (T.seq (T.region (L.op rfl rfl (O.move rfl (L.op rfl rfl (O.bytes_str Tryz.runUnderlying93 Tryz.runUnderlying5 Tryz.runUnderlying9 rfl hO4.ints (by rw [hex16_len]; decide) (L.op rfl rfl (O.assign rfl (L.nil (T.ret1 Tryz.results41 rfl ⟨rfl, he4⟩)))))))))))

end Go.Proofs.YtmnihgcffdmodaaGreatDoor
set_option linter.unusedVariables false
set_option linter.unusedSimpArgs false
set_option maxRecDepth 20000
namespace Go.Proofs.YtmnihgcffdmodaaGreatDoor
open Go Go.E RowKit
attribute [local irreducible] Go.E.T Go.E.L Go.E.O Go.E.Ob

attribute [local irreducible] Go.E.ObX Go.E.ObK Go.E.ObKP
theorem textR_one {x : En} (h : rightE x = true) : textR [x] = (lineE x ++ [10], 0) := by
  rw [textR, if_pos (check_zero (by simp) (fun y hy => by simp at hy; subst hy; exact h)), text_one]
theorem allOk_nil : AllOk [] := fun x hx => by cases hx
theorem allOk_take {xs : List En} {n : Nat} (h : AllOk xs) : AllOk (xs.take n) := fun x hx => h x (List.mem_of_mem_take hx)
theorem ens_cut {lo : Nat} {v : Value} {xs : List En} {w : World} {n : Nat} (hn : n ≤ xs.length) (h : Sl lo w v n 6 ((xs.map En.cells).flatten.take (n * 6))) : Ens lo w v (xs.take n) := by
  rw [fl_take En.len] at h
  unfold Ens
  rw [List.length_take, Nat.min_eq_left hn]
  exact h
theorem chainR_nil : chainR [] = (0, 0) := rfl
set_option maxHeartbeats 4000000 in
theorem HistoryGrows_calls (lo cd : Nat) (ad : Option Addr) (fd : Bool) (rs : List R4) (w : World) (hL : LibM w) (hd : Rws lo w (.slice ad rs.length cd) rs) :
    Calls Tryz.prog 8 #[.agg #[.slice ad rs.length cd, .bool fd]] w (Ret fun v w' => v = .bool true ∧ Ext w w') := by
  refine T.enter (vs := [.agg #[.slice ad rs.length cd, .bool fd]]) Tryz.func8 rfl Tryz.ntmps8 rfl ?_
  refine T.seq (T.region (L.op rfl rfl (O.box rfl (fun b1 w1 hb1 hz1 he1 hB1 => ?_))))
  have hA1 : Blk w1 b1 [.slice ad rs.length cd, .bool fd] 24 := hB1
  refine L.op rfl rfl (O.assign rfl (L.nil (T.seq (T.seq (T.region (L.op rfl rfl (O.call (xs := []) Tryz.call10 rfl rfl (wakes_calls w1 (hL.ext he1)) (fun v18 w18 hq => ?_))))))))
  obtain ⟨rfl, he18⟩ := hq
  refine L.op rfl rfl (O.not rfl (L.nil (T.cond_false rfl (T.skip (T.seq (T.region (L.op rfl rfl (O.fieldAddr Tryz.runUnderlying24 rfl Tryz.sizeOf4 rfl (L.op rfl rfl (O.store1 Tryz.sizeOf4 rfl rfl rfl (hA1.ext he18) (by simp) (fun w25 hu25 hB25 => ?_)))))))))))
  have hu25 : Upd b1 _ _ := hu25
  have hA25 : Blk w25 b1 [.slice ad rs.length cd, .bool false] 24 := hB25
  have he025 : Ext w w25 := (he1.trans he18).upd hu25 (.inr (by omega))
  refine L.nil (T.seq (T.region (L.op rfl rfl (O.loadAgg Tryz.isAgg24 Tryz.sizeOf24 rfl rfl hA25.row (L.op rfl rfl (O.call (xs := [.tmp 21]) Tryz.call11 rfl rfl (Entries_calls lo cd ad false rs w25 (hd.ext he025)) (fun v22 w22 hq => ?_)))))))
  obtain ⟨hO22, he22⟩ := hq
  have hok := draft_ok rs false
  have hlen := draft_len rs false
  have hrt := draft_right rs false
  have happ := @draft_app rs
  have hpre := draft_pre rs
  have hchn := draft_chain rs
  have hI22 : Ens 0 w22 v22 (draftE rs false) := Sl.mono (Sl.of_owns hO22) (Nat.zero_le _)
  obtain ⟨h, hh⟩ : ∃ h, h = draftE rs false := ⟨_, rfl⟩
  rw [← hh] at hok hlen hrt happ hpre hchn hI22
  obtain ⟨oh, caph, rfl, _⟩ := Sl.val hI22
  have he022 := he025.trans he22
  refine L.op rfl rfl (O.assign rfl (L.nil (T.seq (T.region (L.op rfl rfl (O.assign rfl (L.nil (T.seq (T.region (L.op rfl rfl (O.call (xs := [.const (.slice none 0 0)]) Tryz.call27 rfl rfl (chain_calls 0 (.slice none 0 0) [] w22 (Sl.nil _ _ _) allOk_nil (hL.ext he022)) (fun v24 w24 hq => ?_))))))))))))
  obtain ⟨hv24, he24⟩ := hq
  rw [chainR_nil] at hv24
  subst hv24
  refine L.op rfl rfl (O.move rfl (L.op rfl rfl (O.extract rfl rfl (L.op rfl rfl (O.extract rfl rfl (L.op rfl rfl (O.assign rfl (L.op rfl rfl (O.assign rfl (L.nil (T.seq (T.seq (T.region (L.op rfl rfl (O.move rfl (L.op rfl rfl (O.neq_f rfl rfl rfl (L.op rfl rfl (O.move rfl (L.op rfl rfl (O.move rfl (L.op rfl rfl (O.neq_f rfl rfl rfl (?_))))))))))))))))))))))))
  have hI24 := hI22.ext he24
  refine L.op rfl rfl (O.pick_false rfl rfl (L.nil (T.cond_false rfl (T.skip (T.seq (T.seq (T.region (L.op rfl rfl (O.move rfl (L.op rfl rfl (O.len Tryz.runUnderlying27 rfl (Sl.val hI24) (?_))))))))))))
  have he024 := he022.trans he24
  refine L.op rfl rfl (O.move rfl (L.nil (T.block (?_))))
  refine T.loop (σ := Nat × Value) (fun g => [(3, .slice oh h.length caph), (4, g.2), (5, wordV (chainL (h.take g.1))), (33, .slice oh h.length caph), (34, .int .i64 h.length), (35, .int .i64 g.1)]) (fun g w' => g.1 ≤ h.length ∧ Ext w24 w' ∧ Ens 0 w' g.2 (h.take g.1)) (fun g => h.length - g.1) ((0, .slice none 0 0)) ⟨rfl, rfl, rfl, rfl, rfl, rfl, trivial⟩ ⟨Nat.zero_le _, Keep.refl _ _, Sl.nil _ _ _⟩ ?_
  rintro ⟨i, gv⟩ w30 ⟨hi, he30, hG30⟩
  simp only at hi hG30
  have hI30 := hI24.ext he30
  have he030 := he024.trans he30
  refine T.seq (T.region (L.op rfl rfl (O.lss_s rfl rfl (fun hlt => ?_) (fun hlt => ?_))))
  · refine L.nil (?_)
    have hil : i < h.length := by omega
    obtain ⟨x, hx⟩ : ∃ x, x = h.getD i e0 := ⟨_, rfl⟩
    have hxm : x ∈ h := by rw [hx, getD_get hil]; exact List.getElem_mem hil
    have hxo := hok x hxm
    have hxr := hrt x hxm
    have hap := happ hil
    rw [← hx] at hap
    refine T.seq (T.cond_true rfl (T.skip (T.seq (T.block (T.seq (T.region (L.op rfl rfl (O.move rfl (L.op rfl rfl (O.indexAddr Tryz.runUnderlying27 Tryz.sizeOf42 rfl rfl hI30 (by (try dsimp only); omega) (by (try dsimp only); omega) (L.op rfl rfl (O.loadAgg Tryz.isAgg42 Tryz.sizeOf42 rfl rfl (hI30.row hil) (?_)))))))))))))
    rw [← hx]
    refine L.op rfl rfl (O.alloc Tryz.zeroValue42 (fun b8 w8 hb8 hz8 he8 hB8 => ?_))
    refine L.op rfl rfl (O.assign rfl (L.op rfl rfl (O.storeAgg Tryz.sizeOf42 rfl rfl rfl hB8 (Nat.le_refl _) (En.one _) (fun w9 hu9 hB9 => ?_))))
    have hu9 : Upd b8 _ _ := hu9
    have hE9 : Blk w9 b8 x.cells 42 := hB9
    have he309 : Ext w30 w9 := he8.upd hu9 (.inr (by omega))
    have he09 := he030.trans he309
    refine L.nil (T.seq (T.region (L.op rfl rfl (O.move rfl (L.op rfl rfl (O.loadAgg Tryz.isAgg42 Tryz.sizeOf42 rfl rfl hE9.row (L.op rfl rfl (O.call (xs := [.tmp 41, .tmp 42]) Tryz.call17 rfl rfl (Append_calls 0 gv (h.take i) x w9 (hG30.ext he309) (allOk_take hok) hxo (hL.ext he09)) (fun v43 w43 hq => ?_)))))))))
    obtain ⟨nx, hv43, hN43, he43⟩ := hq
    rw [hap] at hv43 hN43
    subst hv43
    have he043 := he09.trans he43
    refine L.op rfl rfl (O.move rfl (L.op rfl rfl (O.extract rfl rfl (L.op rfl rfl (O.extract rfl rfl (L.op rfl rfl (O.assign rfl (L.op rfl rfl (O.assign rfl (L.nil (T.seq (T.region (L.op rfl rfl (O.move rfl (L.op rfl rfl (O.call (xs := [.tmp 47]) Tryz.call12 rfl rfl (Replay_calls 0 nx (h.take (i + 1)) w43 hN43 (allOk_take hok) (hL.ext he043)) (fun v48 w48 hq => ?_)))))))))))))))))
    obtain ⟨pv, hv48, hJ48, he48⟩ := hq
    rw [hpre] at hv48
    subst hv48
    refine L.op rfl rfl (O.move rfl (L.op rfl rfl (O.extract rfl rfl (L.op rfl rfl (O.extract rfl rfl (L.op rfl rfl (O.extract rfl rfl (L.op rfl rfl (O.alloc Tryz.zeroValue32 (fun b11 w11 hb11 hz11 he11 hB11 => ?_))))))))))
    refine L.op rfl rfl (O.storeAgg Tryz.sizeOf32 rfl rfl rfl hB11 (Nat.le_refl _) (stCells_one _ (Sl.one hJ48)) (fun w12 hu12 hB12 => ?_))
    have hu12 : Upd b11 _ _ := hu12
    have he4812 : Ext w48 w12 := he11.upd hu12 (.inr (by omega))
    have he4312 := he48.trans he4812
    have he912 := he43.trans he4312
    refine L.op rfl rfl (O.assign rfl (L.op rfl rfl (O.assign rfl (L.nil (T.seq (T.region (L.op rfl rfl (O.loadAgg Tryz.isAgg42 Tryz.sizeOf42 rfl rfl ((hE9.ext he912).row) (L.op rfl rfl (O.buildSlice (el := 42) (parts := [(0, .tmp 53)]) (vs := [(0, _)]) (cs := x.cells) rfl (fun w => by kernel_rfl) (fun b54 w54 hb54 hz54 he54 hB54 => ?_)))))))))))
    have hone : AllOk [x] := allOk1 hxo
    have hP54 : Ens 0 w54 (.slice (some ⟨b54, 0, none⟩) 1 1) [x] := ens_blk (by simpa using hB54) rfl (by decide)
    have he0912 := he09.trans he912
    have he054 := he0912.trans he54
    refine L.op rfl rfl (O.call (xs := [.tmp 54]) Tryz.call20 rfl rfl (text_calls 0 _ [x] w54 hP54 hone (hL.ext he054)) (fun v55 w55 hq => ?_))
    obtain ⟨hv55, he55⟩ := hq
    rw [textR_one hxr] at hv55
    subst hv55
    have he055 := he054.trans he55
    have he4355 := (he4312.trans he54).trans he55
    refine L.op rfl rfl (O.move rfl (L.op rfl rfl (O.extract rfl rfl (L.op rfl rfl (O.extract rfl rfl (L.op rfl rfl (O.assign rfl (L.op rfl rfl (O.assign rfl (L.nil (T.seq (T.region (L.op rfl rfl (O.move rfl (L.op rfl rfl (O.call (xs := [.tmp 59]) Tryz.call27 rfl rfl (chain_calls 0 nx (h.take (i + 1)) w55 (hN43.ext he4355) (allOk_take hok) (hL.ext he055)) (fun v60 w60 hq => ?_)))))))))))))))))
    obtain ⟨hv60, he60⟩ := hq
    rw [hchn] at hv60
    subst hv60
    have he4360 := he4355.trans he60
    have he060 := he055.trans he60
    have htl : (h.take (i + 1)).length = i + 1 := by rw [List.length_take]; omega
    have hN60 := hN43.ext he4360
    have hI60 : Ens 0 w60 (.slice oh h.length caph) h := hI30.ext ((he309.trans he43).trans he4360)
    refine L.op rfl rfl (O.move rfl (L.op rfl rfl (O.extract rfl rfl (L.op rfl rfl (O.extract rfl rfl (L.op rfl rfl (O.assign rfl (L.op rfl rfl (O.assign rfl (L.nil (T.seq (T.seq (T.region (L.op rfl rfl (O.move rfl (L.op rfl rfl (O.neq_f rfl rfl rfl (L.op rfl rfl (O.move rfl (L.op rfl rfl (O.move rfl (L.op rfl rfl (O.neq_f rfl rfl rfl (L.op rfl rfl (O.pick_false rfl rfl (L.op rfl rfl (O.move rfl (L.op rfl rfl (O.move rfl (L.op rfl rfl (O.neq_f rfl rfl rfl (L.op rfl rfl (O.pick_false rfl rfl (L.op rfl rfl (O.move rfl (L.op rfl rfl (O.move rfl (L.op rfl rfl (O.neq_f rfl rfl rfl (L.op rfl rfl (O.pick_false rfl rfl (L.op rfl rfl (O.move rfl (?_))))))))))))))))))))))))))))))))))))))))))))
    refine L.op rfl rfl (O.move rfl (L.op rfl rfl (O.len Tryz.runUnderlying27 rfl (Sl.val hN60) (L.op rfl rfl (O.move rfl (L.op rfl rfl (O.add64 rfl rfl (by (try dsimp only); omega) (L.op rfl rfl (O.neq_f rfl rfl (by (try dsimp only); omega) (L.op rfl rfl (O.pick_false rfl rfl (L.op rfl rfl (O.move rfl (L.op rfl rfl (O.move rfl (L.op rfl rfl (O.move rfl (L.op rfl rfl (O.move rfl (L.op rfl rfl (O.add64 rfl rfl (by (try dsimp only); omega) (L.op rfl rfl (O.cut_h Tryz.runUnderlying27 Tryz.sizeOf42 rfl rfl hI60 (by (try dsimp only); omega) (by (try dsimp only); omega) (fun v89 hs89 => ?_))))))))))))))))))))))))
    have e89 : ((i : Int) + 1).toNat = i + 1 := by omega
    rw [e89] at hs89
    have hC89 : Ens 0 w60 v89 (h.take (i + 1)) := ens_cut (by omega) hs89
    refine L.op rfl rfl (O.call (xs := [.tmp 85, .tmp 89]) Tryz.call24 rfl rfl (equalE_calls 0 0 nx v89 _ _ w60 hN60 hC89) (fun v90 w90 hq => ?_))
    obtain ⟨hv90, he90⟩ := hq
    rw [decide_eq_true rfl] at hv90
    subst hv90
    have hll := line_len (right_bounds hxr)
    refine L.op rfl rfl (O.not rfl (L.op rfl rfl (O.pick_false rfl rfl (L.op rfl rfl (O.move rfl (L.op rfl rfl (O.move rfl (L.op rfl rfl (O.call (xs := [.tmp 94, _]) Tryz.call39 rfl rfl (hasSuffix_calls (lineE x ++ [10]) [10] w90 (by simp; omega)) (fun v95 w95 hq => ?_))))))))))
    obtain ⟨hv95, rfl⟩ := hq
    rw [suffix_yes] at hv95
    subst hv95
    refine L.op rfl rfl (O.not rfl (L.op rfl rfl (O.pick_false rfl rfl (L.nil (T.cond_false rfl (T.skip (T.seq (T.seq (T.region (L.op rfl rfl (O.move rfl (L.op rfl rfl (O.move rfl (L.op rfl rfl (O.call (xs := [.tmp 99, _]) Tryz.call40 rfl rfl (trimSuffix_calls (lineE x ++ [10]) [10] w95 (by simp; omega)) (fun v100 w100 hq => ?_))))))))))))))))
    obtain ⟨hv100, rfl⟩ := hq
    rw [trim_yes] at hv100
    subst hv100
    refine L.op rfl rfl (O.move rfl (L.op rfl rfl (O.call (xs := [.tmp 101]) Tryz.call41 rfl rfl (hex_calls (chainL (h.take i)) w100 (chainL_lt _)) (fun v102 w102 hq => ?_))))
    obtain ⟨rfl, he102⟩ := hq
    have he0102 := (he060.trans he90).trans he102
    refine L.op rfl rfl (O.call (xs := [.tmp 100, .tmp 102]) Tryz.call18 rfl rfl (seal_calls (lineE x) (hex16 (chainL (h.take i))) w102 (hL.ext he0102) (by omega) (by rw [hex16_len]; decide)) (fun v103 w103 hq => ?_))
    obtain ⟨rfl, he103⟩ := hq
    refine L.op rfl rfl (O.neq_f rfl rfl (by rw [chainL_snoc hil, ← hx]) (L.nil (T.cond_false rfl (T.skip (T.region (L.op rfl rfl (O.move rfl (L.op rfl rfl (O.move rfl (L.op rfl rfl (O.assign rfl (L.op rfl rfl (O.assign rfl (L.nil (T.blk (T.region (L.op rfl rfl (O.add64 rfl rfl (by (try dsimp only); omega) (?_)))))))))))))))))))
    have he24103 : Ext w24 w103 := (he30.trans (he309.trans (he43.trans he4360))).trans ((he90.trans he102).trans he103)
    refine L.op rfl rfl (O.move rfl (L.nil (T.again ((i + 1, nx)) (by omega) ⟨rfl, rfl, rfl, rfl, rfl, rfl, trivial⟩ ⟨by (try dsimp only); omega, he24103, hN60.ext ((he90.trans he102).trans he103)⟩)))
  · refine L.nil (?_)
    have htk : h.take i = h := List.take_of_length_le (by omega)
    rw [htk] at hG30
    refine T.seq (T.cond_false rfl (T.exit rfl (T.seq (T.region (L.op rfl rfl (O.move rfl (L.op rfl rfl (O.move rfl (L.op rfl rfl (O.call (xs := [.tmp 108, .tmp 109]) Tryz.call24 rfl rfl (equalE_calls 0 0 gv (.slice oh h.length caph) _ _ w30 hG30 hI30) (fun v110 w110 hq => ?_)))))))))))
    obtain ⟨hv110, he110⟩ := hq
    rw [decide_eq_true rfl] at hv110
    subst hv110
    refine L.op rfl rfl (O.assign rfl (L.nil (T.ret1 Tryz.results8 rfl ⟨rfl, he030.trans he110⟩)))

end Go.Proofs.YtmnihgcffdmodaaGreatDoor
set_option linter.unusedVariables false
set_option linter.unusedSimpArgs false
set_option maxRecDepth 20000
namespace Go.Proofs.YtmnihgcffdmodaaGreatDoor
open Go Go.E RowKit
attribute [local irreducible] Go.E.T Go.E.L Go.E.O Go.E.Ob

attribute [local irreducible] Go.E.ObX Go.E.ObK Go.E.ObKP
theorem fnv_nil (d : Nat) : fnv d [] = d := fnv_all0 d
theorem fnv0_is : fnv0 = 14695981039346656037 := by unfold fnv0; rfl
theorem seal_eq {con non s : Str} (h : Lib.decDigits con.length ++ [58] ++ con ++ non = s) : sealN con non = fnv fnv0 s := by rw [sealN, h]
theorem fold_two {α β : Type} (f : β → α → β) (d : β) (a b : α) : [a, b].foldl f d = f (f d a) b := rfl
theorem fold_four {α β : Type} (f : β → α → β) (d : β) (a b c e : α) : [a, b, c, e].foldl f d = f (f (f (f d a) b) c) e := rfl
theorem fnv_fold (d : Nat) (s : Str) : fnv d s = s.foldl fnvStep d := by unfold fnv; rfl
theorem dig0 : Lib.decDigits ([] : Str).length ++ [58] ++ [] ++ [] = ([48, 58] : Str) := by rw [show ([] : Str).length = 0 from rfl, dec_small (by decide)]; rfl
theorem dig1 : Lib.decDigits ([97] : Str).length ++ [58] ++ [97] ++ [98] = ([49, 58, 97, 98] : Str) := by rw [show ([97] : Str).length = 1 from rfl, dec_small (by decide)]; rfl
theorem seal_none0 : sealN [] [] = fnvStep (fnvStep fnv0 48) 58 := (seal_eq dig0).trans ((fnv_fold _ _).trans (fold_two _ _ _ _))
theorem seal_ab0 : sealN [97] [98] = fnvStep (fnvStep (fnvStep (fnvStep fnv0 49) 58) 97) 98 := (seal_eq dig1).trans ((fnv_fold _ _).trans (fold_four _ _ _ _ _ _))
theorem seal_none : sealN [] [] = fnvStep (fnvStep 14695981039346656037 48) 58 := fnv0_is ▸ seal_none0
theorem seal_ab : sealN [97] [98] = fnvStep (fnvStep (fnvStep (fnvStep 14695981039346656037 49) 58) 97) 98 := fnv0_is ▸ seal_ab0
theorem step_lt (d : Nat) (c : UInt8) : fnvStep d c < 18446744073709551616 := by rw [fnvStep_eq]; exact Nat.mod_lt _ (by omega)
/-- A long text. -/
def lX : Str := Lib.repeatL [120] 201
theorem lX_len : lX.length = 201 := by rw [lX, Lib.repeatL_length]; rfl
def badL : List En := [e0, ⟨6, [97], [98], 0, [], []⟩, ⟨1, [], [98], 0, [], []⟩, ⟨1, [97], [], 0, [], []⟩, ⟨1, [97, 32, 98], [98], 0, [], []⟩, ⟨1, lX.take (13 : Int).toNat, [98], 0, [], []⟩, ⟨1, [97], [98], 0, [99], []⟩, ⟨2, [97], [98], 0, [], [99]⟩, ⟨3, [97], [98], 1, [], []⟩, ⟨4, [97], [98], 0, [], []⟩, ⟨4, [97], [], 1, [], []⟩, ⟨5, [97], [98], 0, [], []⟩, ⟨5, [97], [98], 0, [], lX.take (41 : Int).toNat⟩, ⟨5, [97], [98], 0, lX, [110]⟩, ⟨5, [97], [98], 0, [10], [110]⟩, ⟨5, [97], [98], 0, [], [127]⟩, ⟨5, [97], [98], 1, [], [110]⟩]
def okB (x : En) : Bool := decide (x.who.length ≤ 1000 ∧ x.item.length ≤ 1000 ∧ x.sl < 18446744073709551616 ∧ x.con.length ≤ 1000 ∧ x.non.length ≤ 1000)
theorem okB_ok {x : En} (h : okB x = true) : x.ok := by
  obtain ⟨h1, h2, h3, h4, h5⟩ := of_decide_eq_true h
  exact ⟨by omega, by omega, h3, by omega, by omega⟩
theorem bad_all : (badL.all fun x => okB x && !rightE x) = true := by decide +kernel
theorem bad_get {i : Nat} (hi : i < 17) : (badL.getD i e0).ok ∧ rightE (badL.getD i e0) = false := by
  have hl : badL.length = 17 := rfl
  have h := List.all_eq_true.1 bad_all (badL.getD i e0) (by rw [getD_get (by omega)]; exact List.getElem_mem (by omega))
  rw [Bool.and_eq_true] at h
  exact ⟨okB_ok h.1, by simpa using h.2⟩
theorem chk_bad {x : En} (h : rightE x = false) : checkE [x] = 430 := by rw [checkE, if_neg (by simp), if_neg (by simp [h])]
theorem rep_bad {x : En} (h : rightE x = false) : replayR [x] = (s0, 0, 430) := by rw [replayR, chk_bad h, if_neg (by decide)]
theorem view_bad {x : En} (h : rightE x = false) (who : Str) : viewR [x] who = ([], 430) := by rw [viewR, rep_bad h, if_neg (by decide)]
theorem chain_bad {x : En} (h : rightE x = false) : chainR [x] = (0, 430) := by rw [chainR, rep_bad h, if_neg (by decide)]
theorem text_bad {x : En} (h : rightE x = false) : textR [x] = ([], 430) := by rw [textR, chk_bad h, if_neg (by decide)]
theorem app_bad {x : En} (h : rightE x = false) : appR [] x = ([], 430) := by
  have hr : replayR [] = (s0, 0, 0) := rfl
  rw [appR, hr, if_pos rfl, if_neg (by decide), if_neg (by rw [h]; decide)]
def dd (i : Nat) : Str := if i < 10 then [UInt8.ofNat (48 + i)] else [UInt8.ofNat (48 + i / 10), UInt8.ofNat (48 + i % 10)]
theorem dec_dd {i : Nat} (h : i < 100) : Lib.decDigits i = dd i := by
  unfold dd
  split
  · rename_i h1; exact dec_small h1
  · rename_i h1
    rw [dec_big h1, dec_small (show i / 10 < 10 by omega), dec_small (show i % 10 < 10 by omega)]; rfl
theorem dd_len (i : Nat) : (dd i).length ≤ 2 := by unfold dd; split <;> simp
def fE (i : Nat) : En := ⟨1, [97], 105 :: dd i, 0, [], []⟩
def fullL : List En := (List.range 60).map fE
theorem full_len : fullL.length = 60 := by rw [fullL, List.length_map, List.length_range]
theorem full_get {i : Nat} (h : i < 60) : fullL.getD i e0 = fE i := by
  rw [getD_get (by rw [full_len]; exact h)]
  simp [fullL]
theorem full_right : (fullL.all fun x => okB x && rightE x) = true := by decide +kernel
theorem full_replay : (replayR fullL).2 = (0, 0) := by decide +kernel
theorem full_ok : AllOk fullL := fun x hx => by
  have h := List.all_eq_true.1 full_right x hx
  rw [Bool.and_eq_true] at h; exact okB_ok h.1
theorem full_rt : ∀ x ∈ fullL, rightE x = true := fun x hx => by
  have h := List.all_eq_true.1 full_right x hx
  rw [Bool.and_eq_true] at h; exact h.2
theorem full_both : ∀ y ∈ fullL, rightE y = true ∧ y.sl < 18446744073709551616 := fun y hy => ⟨full_rt y hy, (full_ok y hy).sl⟩
theorem app_full : appR fullL e0 = ([], 3) := by
  rw [appR, full_replay, if_pos rfl, if_pos full_len]
theorem app_over : appR (fullL ++ [enB]) e0 = ([], 3) := by
  have hc : checkE (fullL ++ [enB]) = 3 := by rw [checkE, if_pos (by rw [List.length_append, full_len]; decide)]
  have hr : replayR (fullL ++ [enB]) = (s0, 0, 3) := by rw [replayR, hc, if_neg (by decide)]
  rw [appR, hr, if_neg (by decide)]
theorem text_full : textR fullL = (textL fullL, 0) := by rw [textR, if_pos (check_zero (by rw [full_len]; decide) full_rt)]
theorem full_text_len : (textL fullL).length ≤ 36060 := by
  have := textL_len fullL (fun x hx => right_bounds (full_rt x hx))
  rw [full_len] at this; exact this
theorem parse_more {t : Str} (ht : t ≠ []) (hl : t.length ≤ 2) : parseT (textL fullL ++ t) = ([], 61, 3) := by
  have h1 := full_text_len
  rw [parseT, if_neg (by rw [List.length_append]; omega), parse_text fullL [] t full_both (by rw [full_len]; decide), List.nil_append, parse_long ht full_len]
theorem parse_full : parseT (textL fullL) = (fullL, 0, 0) := parse_all full_both (by rw [full_len]; decide)
theorem rep_len (n : Nat) : (Lib.repeatL [10] n).length = n := by rw [Lib.repeatL_length]; simp
theorem parse_too {t : Str} (h : t.length = 40001) : parseT t = ([], 0, 3) := by rw [parseT, if_pos (by omega)]
theorem parse_lines {t : Str} (h : t.length = 39999) : parseT (10 :: t) = ([], 1, 5) := by
  rw [parseT, if_neg (by rw [List.length_cons]; omega)]
  have h1 := parse_wrong (h := []) (a := []) (b := t) (by simp) (by simp) (by decide)
  exact h1
theorem rep_cons (n : Nat) : Lib.repeatL [10] (n + 1) = 10 :: Lib.repeatL [10] n := rfl
theorem view_aa (q : Nat) : viewR [enA q, enA q] [] = ([], 8) := by rw [viewR, rep_AA, if_neg (by decide)]
theorem view_sp (q : Nat) : viewR [enA q] [97, 32, 98] = ([], 2) := by rw [viewR, rep_A, if_pos rfl, if_neg (by decide)]
def ex3 : List En := [⟨5, [97], [98], 0, [], [110, 126]⟩, ⟨3, [97], [98], 0, [], []⟩, ⟨2, [97], [98], 255, [], []⟩]
def ex3T : Str := [111, 112, 101, 110, 32, 97, 32, 98, 32, 54, 101, 55, 101, 32, 45, 10] ++ ([119, 105, 116, 104, 100, 114, 97, 119, 32, 97, 32, 98, 10] ++ [114, 101, 118, 105, 115, 101, 32, 97, 32, 98, 32, 48, 48, 48, 48, 48, 48, 48, 48, 48, 48, 48, 48, 48, 48, 102, 102, 10])
theorem text_ex : textR ex3 = (ex3T, 0) := by decide +kernel
theorem ok_ex : AllOk ex3 := fun x hx => okB_ok (List.all_eq_true.1 (show ex3.all okB = true by decide) x hx)
/-- 'append' onto entries of one's own: the elder list reads as before. -/
theorem O.appendE {C : Cx} {e : Env} {w : World} {K : Value → World → Prop} {d : Option Tmp} {ty : TypeId} {pos : String} {aft : Array Edge} {g : Option (Nat × Bool)} {x y : Operand} {t : TypeId} {base b n cap lo : Nat} {cur : List Value} {xs ys : List En} {u : Value} {i : TypeInfo} {zv : Value} (ht : ∀ w, (underlying t).run C.P w = .ok (.slice 42) w) (hi : C.P.info? 42 = some i) (hz : i.zero = some zv) (hsize : i.size = 6) (hby : i.bytes = 80) (hzs : zv.cells.size = 6)
    (hx : ev e x = some (.slice (some ⟨b, 0, none⟩) n cap)) (hy : ev e y = some u) (hO : OwnEs base b n cap cur xs w) (hu : Ens lo w u ys) (hl : n + ys.length ≤ 100000)
    (h : ∀ v' w', (∀ w0, Ext w0 w → w0.heap.size ≤ b → Ext w0 w') → Ens 0 w' (.slice (some ⟨b, 0, none⟩) n cap) xs → Ens 0 w' v' (xs ++ ys) → K v' w') :
    O C e ⟨d, .call { callee := .builtin .append, args := #[x, y], argTypes := #[t, t] }, ty, pos, aft, g⟩ w K := by
  have hn := hO.len
  have hnc := hO.hn
  have hcl := hO.hl
  refine O.append2 (m := ys.length) ht hi hz hsize hby hzs (by decide) hx hy hO.blk hu (fl_one_cell En.one _) hO.hn hO.hm hO.hl (by simp only [maxLen]; omega) (by omega) (fun w' hroom hu' hB' => ?_) (fun v' w' he hO' => ?_)
  · have hl2 : (cur.take (n * 6) ++ (ys.map En.cells).flatten ++ cur.drop (n * 6 + (ys.map En.cells).flatten.length)).length = cap * 6 := by
      simp only [List.length_append, List.length_take, List.length_drop, fl_len En.len]; omega
    have h1 : OwnEs base b n cap (cur.take (n * 6) ++ (ys.map En.cells).flatten ++ cur.drop (n * 6 + (ys.map En.cells).flatten.length)) xs w' :=
      ⟨hO.hb, hB', hn, hnc, hO.hm, hl2, by
        rw [List.append_assoc, List.take_append_of_le_length (by rw [List.length_take]; omega), List.take_take, Nat.min_self]; exact hO.ht⟩
    have h2 : OwnEs base b (n + ys.length) cap (cur.take (n * 6) ++ (ys.map En.cells).flatten ++ cur.drop (n * 6 + (ys.map En.cells).flatten.length)) (xs ++ ys) w' :=
      ⟨hO.hb, hB', by rw [List.length_append, hn], hroom, hO.hm, hl2, by
        rw [List.take_append_of_le_length (by simp only [List.length_append, List.length_take, fl_len En.len]; omega), List.take_of_length_le (by simp only [List.length_append, List.length_take, fl_len En.len]; omega), hO.ht, fl_append]⟩
    exact h _ w' (fun w0 h0 hb => h0.upd hu' (.inr hb)) (Sl.mono h1.ens (Nat.zero_le _)) (Sl.mono h2.ens (Nat.zero_le _))
  · have h1 := hO.ext he
    refine h v' w' (fun w0 h0 _ => h0.trans he) (Sl.mono h1.ens (Nat.zero_le _)) ?_
    rw [hO.ht, ← fl_append] at hO'
    have h3 := Sl.of_owns hO'
    unfold Ens
    rw [List.length_append, hn]
    exact Sl.mono h3 (Nat.zero_le _)
theorem full_snoc {i : Nat} (h : i < 60) : ((fullL.take (i + 1)).map En.cells).flatten = ((fullL.take i).map En.cells).flatten ++ (fE i).cells := by
  rw [take_snoc (d := e0) (by rw [full_len]; exact h), full_get h, fl_append, fl_one]
def BadP (v : Value) (w : World) : Prop := ∃ b, v = .slice (some ⟨b, 0, none⟩) 17 17 ∧ Ens 0 w (.slice (some ⟨b, 0, none⟩) 17 17) badL
theorem BadP.st : ∀ v w w', Ext w w' → BadP v w → BadP v w' := fun _ _ _ he ⟨b, h1, h2⟩ => ⟨b, h1, h2.ext he⟩
theorem kstep_calls (d : Nat) (c : UInt8) (w : World) (hd : d < 18446744073709551616) :
    Calls Tryz.prog 25 #[wordV d, .int .u8 c.toNat] w (Ret fun v w' => v = wordV (fnvStep d c) ∧ w' = w) := by
  have hxd := xor_lt64 c hd
  have hc8 := UInt8.toNat_lt c
  refine T.enter (vs := [wordV d, .int .u8 c.toNat]) Tryz.func25 rfl Tryz.ntmps25 rfl ?_
  refine T.seq (T.region (L.op rfl rfl (O.assign rfl (L.nil (T.seq (T.region (L.op rfl rfl (O.move rfl (L.op rfl rfl (O.move rfl (L.op rfl rfl (O.conv_to rfl (fun w => ⟨_, Tryz.runUnderlying5 w⟩) Tryz.runUnderlying25 (IntWalk.u64_in _ ⟨by omega, by omega⟩) (L.op rfl rfl (O.xor_u64 rfl rfl hd (by omega) rfl rfl (L.op rfl rfl (O.mul_u64 rfl rfl hxd (by decide) rfl rfl (L.op rfl rfl (O.assign rfl (L.nil (T.ret1 Tryz.results25 rfl ⟨by rw [fnvStep_eq]; rfl, rfl⟩))))))))))))))))))))

set_option maxHeartbeats 8000000 in
theorem HistoryKnown_calls (w : World) (hL : LibM w) :
    Calls Tryz.prog 6 #[] w (Ret fun v w' => v = .bool true ∧ Ext w w') := by
  refine T.enter (vs := []) Tryz.func6 rfl Tryz.ntmps6 rfl ?_
  refine T.seq (T.region (L.op rfl rfl (O.assign rfl (L.nil (T.seq (T.seq (T.region (L.op rfl rfl (O.call (xs := []) Tryz.call10 rfl rfl (wakes_calls w hL) (fun v47 w47 hq => ?_))))))))))
  obtain ⟨rfl, he47⟩ := hq
  refine L.op rfl rfl (O.not rfl (L.op rfl rfl (O.move rfl (L.op rfl rfl (O.pick_false rfl rfl (L.nil (T.cond_false rfl (T.skip (T.seq (T.region (L.op rfl rfl (O.assign rfl (L.nil (T.seq (T.region (L.op rfl rfl (O.assign rfl (L.nil (T.seq (T.seq (T.region (L.op rfl rfl (O.call (xs := [_, _]) Tryz.call18 rfl rfl (seal_calls [] [] w47 (hL.ext he47) (by decide) (by decide)) (fun v51 w51 hq => ?_))))))))))))))))))))))))
  obtain ⟨rfl, he51⟩ := hq
  refine L.op rfl rfl (O.move rfl (L.op rfl rfl (O.move rfl (L.op rfl rfl (O.move rfl (L.op rfl rfl (O.call (xs := [.tmp 54, .const (.int .u8 48)]) Tryz.call25 rfl rfl (kstep_calls 14695981039346656037 48 w51 (by decide)) (fun v55 w55 hq => ?_))))))))
  obtain ⟨rfl, rfl⟩ := hq
  refine L.op rfl rfl (O.call (xs := [.tmp 55, .const (.int .u8 58)]) Tryz.call25 rfl rfl (kstep_calls (fnvStep 14695981039346656037 48) 58 w55 (step_lt _ _)) (fun v56 w56 hq => ?_))
  obtain ⟨rfl, rfl⟩ := hq
  refine L.op rfl rfl (O.neq_f rfl rfl (by rw [seal_none]) (L.op rfl rfl (O.move rfl (L.op rfl rfl (O.call (xs := [_, _]) Tryz.call18 rfl rfl (seal_calls [97] [98] w56 (hL.ext (he47.trans he51)) (by decide) (by decide)) (fun v59 w59 hq => ?_))))))
  obtain ⟨rfl, he59⟩ := hq
  refine L.op rfl rfl (O.move rfl (L.op rfl rfl (O.move rfl (L.op rfl rfl (O.move rfl (L.op rfl rfl (O.move rfl (L.op rfl rfl (O.move rfl (L.op rfl rfl (O.call (xs := [.tmp 64, .const (.int .u8 49)]) Tryz.call25 rfl rfl (kstep_calls 14695981039346656037 49 w59 (by decide)) (fun v65 w65 hq => ?_))))))))))))
  obtain ⟨rfl, rfl⟩ := hq
  refine L.op rfl rfl (O.call (xs := [.tmp 65, .const (.int .u8 58)]) Tryz.call25 rfl rfl (kstep_calls (fnvStep 14695981039346656037 49) 58 w65 (step_lt _ _)) (fun v66 w66 hq => ?_))
  obtain ⟨rfl, rfl⟩ := hq
  refine L.op rfl rfl (O.call (xs := [.tmp 66, .const (.int .u8 97)]) Tryz.call25 rfl rfl (kstep_calls (fnvStep (fnvStep 14695981039346656037 49) 58) 97 w66 (step_lt _ _)) (fun v67 w67 hq => ?_))
  obtain ⟨rfl, rfl⟩ := hq
  refine L.op rfl rfl (O.call (xs := [.tmp 67, .const (.int .u8 98)]) Tryz.call25 rfl rfl (kstep_calls (fnvStep (fnvStep (fnvStep 14695981039346656037 49) 58) 97) 98 w67 (step_lt _ _)) (fun v68 w68 hq => ?_))
  obtain ⟨rfl, rfl⟩ := hq
  refine L.op rfl rfl (O.neq_f rfl rfl (by rw [seal_ab]) (?_))
  have he068 : Ext w w68 := (he47.trans he51).trans he59
  refine L.op rfl rfl (O.pick_false rfl rfl (L.nil (T.cond_false rfl (T.skip (T.seq (T.region (L.op rfl rfl (O.call (xs := [_, .const (.int .i64 201)]) Tryz.call26 rfl rfl (repeat_calls [120] 201 w68 (by decide) (by decide)) (fun v71 w71 hq => ?_)))))))))
  obtain ⟨hv71, he71⟩ := hq
  have hv71 : v71 = str lX := hv71
  subst hv71
  have he071 := he068.trans he71
  refine L.op rfl rfl (O.assign rfl (L.nil (T.seq (T.seq (?_)))))
  refine T.anyE mixed 25 [3] rfl [.is _, .is _, .is _, .is _, .is _, .is _, .is _, .is _, .is _, .is _, .is _, .is _, .is _, .is _, .is _, .is _, .is _, .is _, .is _, .is _, .is _, .is _, .such BadP, .is _, .is _] [[], [], [], [], [], [], [5], [6], [], [], [], [], [], [], [], [14], [15], [], [17], [], [], [], [0, 1, 2, 3, 4, 7, 8, 9, 10, 11, 12, 13, 16, 18, 19, 20, 21], [22], []] [[], [], [], [], [], [], [5], [5, 6], [], [], [], [], [], [], [], [14], [14, 15], [], [17], [], [], [], [0, 1, 2, 3, 4, 5, 6, 7, 8, 9, 10, 11, 12, 13, 14, 15, 16, 17, 18, 19, 20, 21], [0, 1, 2, 3, 4, 5, 6, 7, 8, 9, 10, 11, 12, 13, 14, 15, 16, 17, 18, 19, 20, 21, 22], []] (by kernel_rfl) (by kernel_rfl) rfl (by kernel_rfl) ⟨BadP.st, trivial⟩ ⟨fun wx hx => Ob.op rfl (O.build (v := e0.val) (parts := []) (vs := []) rfl (fun w => by kernel_rfl) ⟨Keep.refl _ _, rfl⟩),
      fun wx hx => Ob.op rfl (O.build (v := (⟨6, [97], [98], 0, [], []⟩ : En).val) (parts := [(0, .const (.int .i64 6)), (1, _), (2, _)]) (vs := [(0, _), (1, _), (2, _)]) rfl (fun w => by kernel_rfl) ⟨Keep.refl _ _, rfl⟩),
      fun wx hx => Ob.op rfl (O.build (v := (⟨1, [], [98], 0, [], []⟩ : En).val) (parts := [(0, .const (.int .i64 1)), (1, _), (2, _)]) (vs := [(0, _), (1, _), (2, _)]) rfl (fun w => by kernel_rfl) ⟨Keep.refl _ _, rfl⟩),
      fun wx hx => Ob.op rfl (O.build (v := (⟨1, [97], [], 0, [], []⟩ : En).val) (parts := [(0, .const (.int .i64 1)), (1, _)]) (vs := [(0, _), (1, _)]) rfl (fun w => by kernel_rfl) ⟨Keep.refl _ _, rfl⟩),
      fun wx hx => Ob.op rfl (O.build (v := (⟨1, [97, 32, 98], [98], 0, [], []⟩ : En).val) (parts := [(0, .const (.int .i64 1)), (1, _), (2, _)]) (vs := [(0, _), (1, _), (2, _)]) rfl (fun w => by kernel_rfl) ⟨Keep.refl _ _, rfl⟩),
      fun wx hx => Ob.op rfl (O.move rfl ⟨Keep.refl _ _, rfl⟩),
      fun wx hx => Ob.op rfl (O.slice_str_h Tryz.runUnderlying9 rfl rfl (by decide) (by rw [lX_len]; decide) ⟨Keep.refl _ _, rfl⟩),
      fun wx hx => Ob.op rfl (O.build (v := (⟨1, lX.take (13 : Int).toNat, [98], 0, [], []⟩ : En).val) (parts := [(0, .const (.int .i64 1)), (1, .tmp 78), (2, _)]) (vs := [(0, _), (1, _), (2, _)]) rfl (fun w => by kernel_rfl) ⟨Keep.refl _ _, rfl⟩),
      fun wx hx => Ob.op rfl (O.build (v := (⟨1, [97], [98], 0, [99], []⟩ : En).val) (parts := [(0, .const (.int .i64 1)), (1, _), (2, _), (4, _)]) (vs := [(0, _), (1, _), (2, _), (4, _)]) rfl (fun w => by kernel_rfl) ⟨Keep.refl _ _, rfl⟩),
      fun wx hx => Ob.op rfl (O.build (v := (⟨2, [97], [98], 0, [], [99]⟩ : En).val) (parts := [(0, .const (.int .i64 2)), (1, _), (2, _), (5, _)]) (vs := [(0, _), (1, _), (2, _), (5, _)]) rfl (fun w => by kernel_rfl) ⟨Keep.refl _ _, rfl⟩),
      fun wx hx => Ob.op rfl (O.build (v := (⟨3, [97], [98], 1, [], []⟩ : En).val) (parts := [(0, .const (.int .i64 3)), (1, _), (2, _), (3, .const (.int .u64 1))]) (vs := [(0, _), (1, _), (2, _), (3, _)]) rfl (fun w => by kernel_rfl) ⟨Keep.refl _ _, rfl⟩),
      fun wx hx => Ob.op rfl (O.build (v := (⟨4, [97], [98], 0, [], []⟩ : En).val) (parts := [(0, .const (.int .i64 4)), (1, _), (2, _)]) (vs := [(0, _), (1, _), (2, _)]) rfl (fun w => by kernel_rfl) ⟨Keep.refl _ _, rfl⟩),
      fun wx hx => Ob.op rfl (O.build (v := (⟨4, [97], [], 1, [], []⟩ : En).val) (parts := [(0, .const (.int .i64 4)), (1, _), (3, .const (.int .u64 1))]) (vs := [(0, _), (1, _), (3, _)]) rfl (fun w => by kernel_rfl) ⟨Keep.refl _ _, rfl⟩),
      fun wx hx => Ob.op rfl (O.build (v := (⟨5, [97], [98], 0, [], []⟩ : En).val) (parts := [(0, .const (.int .i64 5)), (1, _), (2, _)]) (vs := [(0, _), (1, _), (2, _)]) rfl (fun w => by kernel_rfl) ⟨Keep.refl _ _, rfl⟩),
      fun wx hx => Ob.op rfl (O.move rfl ⟨Keep.refl _ _, rfl⟩),
      fun wx hx => Ob.op rfl (O.slice_str_h Tryz.runUnderlying9 rfl rfl (by decide) (by rw [lX_len]; decide) ⟨Keep.refl _ _, rfl⟩),
      fun wx hx => Ob.op rfl (O.build (v := (⟨5, [97], [98], 0, [], lX.take (41 : Int).toNat⟩ : En).val) (parts := [(0, .const (.int .i64 5)), (1, _), (2, _), (5, .tmp 87)]) (vs := [(0, _), (1, _), (2, _), (5, _)]) rfl (fun w => by kernel_rfl) ⟨Keep.refl _ _, rfl⟩),
      fun wx hx => Ob.op rfl (O.move rfl ⟨Keep.refl _ _, rfl⟩),
      fun wx hx => Ob.op rfl (O.build (v := (⟨5, [97], [98], 0, lX, [110]⟩ : En).val) (parts := [(0, .const (.int .i64 5)), (1, _), (2, _), (5, _), (4, .tmp 89)]) (vs := [(0, _), (1, _), (2, _), (5, _), (4, _)]) rfl (fun w => by kernel_rfl) ⟨Keep.refl _ _, rfl⟩),
      fun wx hx => Ob.op rfl (O.build (v := (⟨5, [97], [98], 0, [10], [110]⟩ : En).val) (parts := [(0, .const (.int .i64 5)), (1, _), (2, _), (5, _), (4, _)]) (vs := [(0, _), (1, _), (2, _), (5, _), (4, _)]) rfl (fun w => by kernel_rfl) ⟨Keep.refl _ _, rfl⟩),
      fun wx hx => Ob.op rfl (O.build (v := (⟨5, [97], [98], 0, [], [127]⟩ : En).val) (parts := [(0, .const (.int .i64 5)), (1, _), (2, _), (5, _)]) (vs := [(0, _), (1, _), (2, _), (5, _)]) rfl (fun w => by kernel_rfl) ⟨Keep.refl _ _, rfl⟩),
      fun wx hx => Ob.op rfl (O.build (v := (⟨5, [97], [98], 1, [], [110]⟩ : En).val) (parts := [(0, .const (.int .i64 5)), (1, _), (2, _), (5, _), (3, .const (.int .u64 1))]) (vs := [(0, _), (1, _), (2, _), (5, _), (3, _)]) rfl (fun w => by kernel_rfl) ⟨Keep.refl _ _, rfl⟩),
      fun wx hx => Ob.op rfl (O.buildSlice (el := 42) (parts := [(0, .tmp 72), (1, .tmp 73), (2, .tmp 74), (3, .tmp 75), (4, .tmp 76), (5, .tmp 79), (6, .tmp 80), (7, .tmp 81), (8, .tmp 82), (9, .tmp 83), (10, .tmp 84), (11, .tmp 85), (12, .tmp 88), (13, .tmp 90), (14, .tmp 91), (15, .tmp 92), (16, .tmp 93)]) (vs := [(0, _), (1, _), (2, _), (3, _), (4, _), (5, _), (6, _), (7, _), (8, _), (9, _), (10, _), (11, _), (12, _), (13, _), (14, _), (15, _), (16, _)]) (cs := (badL.map En.cells).flatten) rfl (fun w => by kernel_rfl) (fun b94 w94 hb94 hz94 he94 hB94 => ⟨he94, b94, rfl, ens_blk (xs := badL) hB94 rfl (by decide)⟩)),
      fun wx hx v94 hv94 => by { obtain ⟨b9, rfl, hE9⟩ := hv94; exact Ob.op rfl (O.len Tryz.runUnderlying27 rfl (Sl.val hE9) ⟨Keep.refl _ _, rfl⟩) },
      fun wx hx => Ob.op rfl (O.move rfl ⟨Keep.refl _ _, rfl⟩),
      trivial⟩ (fun w72 he72 v94 hv94 => ?_)
  refine L.nil (?_)
  obtain ⟨b94, rfl, hE94⟩ := hv94
  have he072 := he071.trans he72
  refine T.block (?_)
  refine T.loop (σ := Nat) (fun j => [(94, .slice (some ⟨b94, 0, none⟩) 17 17), (95, .int .i64 17), (96, .int .i64 j)]) (fun j w' => j ≤ 17 ∧ Ext w72 w') (fun j => 17 - j) (0) ⟨rfl, rfl, rfl, trivial⟩ ⟨Nat.zero_le _, Keep.refl _ _⟩ ?_
  rintro j w80 ⟨hj, he80⟩
  have he080 := he072.trans he80
  refine T.seq (T.region (L.op rfl rfl (O.lss_s rfl rfl (fun hlt => ?_) (fun hlt => ?_))))
  · refine L.nil (?_)
    have hj17 : j < 17 := by omega
    have hjl : j < badL.length := hj17
    obtain ⟨hxo, hxb⟩ := bad_get hj17
    have hE80 := hE94.ext he80
    obtain ⟨x, hx⟩ : ∃ x, x = badL.getD j e0 := ⟨_, rfl⟩
    rw [← hx] at hxo hxb
    refine T.seq (T.cond_true rfl (T.skip (T.seq (T.block (T.seq (T.region (L.op rfl rfl (O.indexAddr Tryz.runUnderlying27 Tryz.sizeOf42 rfl rfl hE80 (by (try dsimp only); omega) (by have e17 : badL.length = 17 := rfl; (try dsimp only); omega) (L.op rfl rfl (O.loadAgg Tryz.isAgg42 Tryz.sizeOf42 rfl rfl (hE80.row hjl) (?_)))))))))))
    rw [← hx]
    refine L.op rfl rfl (O.alloc Tryz.zeroValue42 (fun b5 w5 hb5 hz5 he5 hB5 => ?_))
    refine L.op rfl rfl (O.storeAgg Tryz.sizeOf42 rfl rfl rfl hB5 (Nat.le_refl _) (En.one _) (fun w6 hu6 hB6 => ?_))
    have hu6 : Upd b5 _ _ := hu6
    have hX6 : Blk w6 b5 x.cells 42 := hB6
    have he806 : Ext w80 w6 := he5.upd hu6 (.inr (by omega))
    refine L.nil (T.seq (T.region (L.op rfl rfl (O.loadAgg Tryz.isAgg42 Tryz.sizeOf42 rfl rfl hX6.row (L.op rfl rfl (O.buildSlice (el := 42) (parts := [(0, .tmp 100)]) (vs := [(0, _)]) (cs := x.cells) rfl (fun w => by kernel_rfl) (fun b101 w101 hb101 hz101 he101 hB101 => ?_)))))))
    have hone : AllOk [x] := allOk1 hxo
    have hP : Ens 0 w101 (.slice (some ⟨b101, 0, none⟩) 1 1) [x] := ens_blk (by simpa using hB101) rfl (by decide)
    have he8101 := he806.trans he101
    have hL101 := (hL.ext he080).ext he8101
    refine L.op rfl rfl (O.assign rfl (L.nil (T.seq (T.region (L.op rfl rfl (O.move rfl (L.op rfl rfl (O.call (xs := [.tmp 103]) Tryz.call12 rfl rfl (Replay_calls 0 _ [x] w101 hP hone hL101) (fun v104 w104 hq => ?_)))))))))
    obtain ⟨pv, hv104, hI104, he104⟩ := hq
    rw [rep_bad hxb] at hv104 hI104
    subst hv104
    refine L.op rfl rfl (O.move rfl (L.op rfl rfl (O.extract rfl rfl (L.op rfl rfl (O.extract rfl rfl (L.op rfl rfl (O.extract rfl rfl (L.op rfl rfl (O.alloc Tryz.zeroValue32 (fun b7 w7 hb7 hz7 he7 hB7 => ?_))))))))))
    refine L.op rfl rfl (O.storeAgg Tryz.sizeOf32 rfl rfl rfl hB7 (Nat.le_refl _) (stCells_one _ (Sl.one hI104)) (fun w8 hu8 hB8 => ?_))
    have hu8 : Upd b7 _ _ := hu8
    have he1018 : Ext w101 w8 := he104.trans (he7.upd hu8 (.inr (by omega)))
    refine L.op rfl rfl (O.assign rfl (L.op rfl rfl (O.assign rfl (L.nil (T.seq (T.region (L.op rfl rfl (O.move rfl (L.op rfl rfl (O.call (xs := [.tmp 109, _]) Tryz.call13 rfl rfl (View_calls 0 _ [x] [] w8 (hP.ext he1018) hone (by decide) (hL101.ext he1018)) (fun v110 w110 hq => ?_)))))))))))
    obtain ⟨p1, hv110, _, he110⟩ := hq
    rw [view_bad hxb] at hv110
    subst hv110
    have hx110 := he1018.trans he110
    refine L.op rfl rfl (O.move rfl (L.op rfl rfl (O.extract rfl rfl (L.op rfl rfl (O.extract rfl rfl (L.op rfl rfl (O.assign rfl (L.op rfl rfl (O.assign rfl (L.nil (T.seq (T.region (L.op rfl rfl (O.move rfl (L.op rfl rfl (O.call (xs := [.tmp 114]) Tryz.call27 rfl rfl (chain_calls 0 _ [x] w110 (hP.ext hx110) hone (hL101.ext hx110)) (fun v115 w115 hq => ?_)))))))))))))))))
    obtain ⟨hv115, he115⟩ := hq
    rw [chain_bad hxb] at hv115
    subst hv115
    have hx115 := hx110.trans he115
    refine L.op rfl rfl (O.move rfl (L.op rfl rfl (O.extract rfl rfl (L.op rfl rfl (O.extract rfl rfl (L.op rfl rfl (O.assign rfl (L.op rfl rfl (O.assign rfl (L.nil (T.seq (T.region (L.op rfl rfl (O.move rfl (L.op rfl rfl (O.call (xs := [.tmp 119]) Tryz.call20 rfl rfl (text_calls 0 _ [x] w115 (hP.ext hx115) hone (hL101.ext hx115)) (fun v120 w120 hq => ?_)))))))))))))))))
    obtain ⟨hv120, he120⟩ := hq
    rw [text_bad hxb] at hv120
    subst hv120
    have hx120 := hx115.trans he120
    refine L.op rfl rfl (O.move rfl (L.op rfl rfl (O.extract rfl rfl (L.op rfl rfl (O.extract rfl rfl (L.op rfl rfl (O.assign rfl (L.op rfl rfl (O.assign rfl (L.nil (T.seq (T.region (L.op rfl rfl (O.loadAgg Tryz.isAgg42 Tryz.sizeOf42 rfl rfl ((hX6.ext (he101.trans hx120)).row) (L.op rfl rfl (O.call (xs := [.const (.slice none 0 0), .tmp 124]) Tryz.call17 rfl rfl (Append_calls 0 (.slice none 0 0) [] x w120 (Sl.nil _ _ _) allOk_nil hxo (hL101.ext hx120)) (fun v125 w125 hq => ?_)))))))))))))))))
    obtain ⟨p2, hv125, _, he125⟩ := hq
    rw [app_bad hxb] at hv125
    subst hv125
    have hx125 := hx120.trans he125
    refine L.op rfl rfl (O.move rfl (L.op rfl rfl (O.extract rfl rfl (L.op rfl rfl (O.extract rfl rfl (L.op rfl rfl (O.assign rfl (L.op rfl rfl (O.assign rfl (L.nil (T.seq (T.region (L.op rfl rfl (O.move rfl (L.op rfl rfl (O.call (xs := [.tmp 128]) Tryz.call28 rfl rfl (check_calls 0 _ [x] w125 (hP.ext hx125) hone) (fun v129 w129 hq => ?_)))))))))))))))))
    obtain ⟨hv129, he129⟩ := hq
    rw [chk_bad hxb] at hv129
    subst hv129
    refine L.op rfl rfl (O.neq_f rfl rfl rfl (L.op rfl rfl (O.move rfl (L.op rfl rfl (O.move rfl (L.op rfl rfl (O.neq_f rfl rfl rfl (L.op rfl rfl (O.pick_false rfl rfl (L.op rfl rfl (O.move rfl (L.op rfl rfl (O.move rfl (L.op rfl rfl (O.neq_f rfl rfl rfl (L.op rfl rfl (O.pick_false rfl rfl (L.op rfl rfl (O.move rfl (L.op rfl rfl (O.move rfl (L.op rfl rfl (O.neq_f rfl rfl rfl (L.op rfl rfl (O.pick_false rfl rfl (L.op rfl rfl (O.move rfl (L.op rfl rfl (O.move rfl (L.op rfl rfl (O.neq_f rfl rfl rfl (L.op rfl rfl (O.pick_false rfl rfl (L.op rfl rfl (O.move rfl (L.op rfl rfl (O.move rfl (L.op rfl rfl (O.neq_f rfl rfl rfl (L.op rfl rfl (O.pick_false rfl rfl (L.op rfl rfl (O.move rfl (L.op rfl rfl (O.move rfl (L.op rfl rfl (O.neq_f rfl rfl rfl (?_))))))))))))))))))))))))))))))))))))))))))))))))
    refine L.op rfl rfl (O.pick_false rfl rfl (L.nil (T.cond_false rfl (T.skip (T.blk (T.region (L.op rfl rfl (O.add64 rfl rfl (by (try dsimp only); omega) (L.op rfl rfl (O.move rfl (L.nil (T.again (j + 1) (by omega) ⟨rfl, rfl, rfl, trivial⟩ ⟨hj17, (he80.trans he8101).trans (hx125.trans he129)⟩))))))))))))
  · refine L.nil (T.seq (T.cond_false rfl (T.exit rfl (T.seq (T.region (L.op rfl rfl (O.assign rfl (L.nil (T.seq (T.seq (T.region (L.op rfl rfl (O.move rfl (L.nil (T.block (?_))))))))))))))))
    refine T.loop (σ := Nat × Value) (fun g => [(18, g.2), (156, .int .i64 g.1)]) (fun g w' => g.1 ≤ 60 ∧ Ext w80 w' ∧ w'.ownsRow w80.heap.size 42 6 g.2 g.1 ((fullL.take g.1).map En.cells).flatten) (fun g => 60 - g.1) ((0, .slice none 0 0)) ⟨rfl, rfl, trivial⟩ ⟨Nat.zero_le _, Keep.refl _ _, owns_nil _ _ _ _⟩ ?_
    rintro ⟨i, gv⟩ w90 ⟨hi, he90, hO90⟩
    simp only at hi hO90
    refine T.seq (T.region (L.op rfl rfl (O.lss_s rfl rfl (fun hlti => ?_) (fun hlti => ?_))))
    · refine L.nil (?_)
      have hil : i < 60 := by (try dsimp only at hlti); omega
      refine T.seq (T.cond_true rfl (T.skip (T.seq (T.block (T.seq (T.region (L.op rfl rfl (O.move rfl (L.op rfl rfl (O.assign rfl (L.nil (T.region (L.op rfl rfl (O.move rfl (L.op rfl rfl (O.move rfl (L.op rfl rfl (O.call (xs := [.tmp 160]) Tryz.call29 rfl rfl (digits_calls i w90 (by omega)) (fun v161 w161 hq => ?_)))))))))))))))))))
      obtain ⟨hv161, he161⟩ := hq
      rw [dec_dd (by omega)] at hv161
      subst hv161
      have hdl := dd_len i
      refine L.op rfl rfl (O.add_str rfl rfl (by simp only [List.length_cons, List.length_nil]; omega) (L.op rfl rfl (O.build (v := (fE i).val) (parts := [(0, .const (.int .i64 1)), (1, _), (2, .tmp 162)]) (vs := [(0, _), (1, _), (2, _)]) rfl (fun w => by kernel_rfl) (L.op rfl rfl (O.buildSlice (el := 42) (parts := [(0, .tmp 163)]) (vs := [(0, _)]) (cs := (fE i).cells) rfl (fun w => by kernel_rfl) (fun b164 w164 hb164 hz164 he164 hB164 => ?_))))))
      have he90164 := he161.trans he164
      have hO164 := owns_keep hO90 (he90164.mono (Nat.zero_le w80.heap.size)) (Nat.le_refl _)
      refine L.op rfl rfl (O.append (size := 6) (bytes := 80) Tryz.runUnderlying27 Tryz.infoOf42 rfl rfl rfl rfl (by decide) rfl rfl hO164 (Sl.of_blk (lo := 0) (n := 1) (sz := 6) hB164 rfl (Nat.le_refl _) (by decide) (Nat.zero_le _)) (En.one _) (by omega) (by simp only [maxLen]; omega) (by have := he90.size; have := he90164.size; omega) (fun v165 w165 hO165 hG165 => ?_))
      refine L.op rfl rfl (O.assign rfl (L.nil (T.blk (T.region (L.op rfl rfl (O.add64 rfl rfl (by (try dsimp only); omega) (L.op rfl rfl (O.move rfl (L.nil (T.again ((i + 1, v165)) (by omega) ⟨rfl, rfl, trivial⟩ ⟨hil, (he90.trans he90164).grown0 hO164 hG165 (Nat.le_refl _), by (try dsimp only); rw [full_snoc hil]; exact hO165⟩))))))))))
    · refine L.nil (?_)
      have h60 : i = 60 := by (try dsimp only at hlti); omega
      subst h60
      have htk : fullL.take 60 = fullL := List.take_of_length_le (by rw [full_len]; decide)
      rw [htk] at hO90
      obtain ⟨b18, cap, cur, rfl, hE90⟩ := OwnEs.of hO90 full_len (by decide)
      have he090 := he080.trans he90
      have hb18 : w80.heap.size ≤ b18 := hE90.hb
      have hF90 : Ens 0 w90 (.slice (some ⟨b18, 0, none⟩) 60 cap) fullL := Sl.mono hE90.ens (Nat.zero_le _)
      have oe0 : e0.ok := okB_ok (by decide)
      refine T.seq (T.cond_false rfl (T.exit rfl (T.seq (T.region (L.op rfl rfl (O.move rfl (L.op rfl rfl (O.build (v := e0.val) (parts := []) (vs := []) rfl (fun w => by kernel_rfl) (L.op rfl rfl (O.call (xs := [.tmp 168, .tmp 169]) Tryz.call17 rfl rfl (Append_calls 0 _ fullL e0 w90 hF90 full_ok oe0 (hL.ext he090)) (fun v170 w170 hq => ?_)))))))))))
      obtain ⟨p3, hv170, _, he170⟩ := hq
      rw [app_full] at hv170
      subst hv170
      refine L.op rfl rfl (O.move rfl (L.op rfl rfl (O.extract rfl rfl (L.op rfl rfl (O.extract rfl rfl (L.op rfl rfl (O.assign rfl (L.op rfl rfl (O.assign rfl (L.nil (T.seq (T.region (L.op rfl rfl (O.move rfl (L.op rfl rfl (O.call (xs := []) Tryz.call30 rfl rfl (shut_lc w170) (fun v175 w175 hq => ?_)))))))))))))))))
      obtain ⟨rfl, he175⟩ := hq
      refine L.op rfl rfl (O.buildSlice (el := 42) (parts := [(0, .tmp 175)]) (vs := [(0, _)]) (cs := enB.cells) rfl (fun w => by kernel_rfl) (fun b176 w176 hb176 hz176 he176 hB176 => ?_))
      have he90176 := (he170.trans he175).trans he176
      have hP176 : Ens 0 w176 (.slice (some ⟨b176, 0, none⟩) 1 1) [enB] := ens_blk (by simpa using hB176) rfl (by decide)
      refine L.op rfl rfl (O.appendE Tryz.runUnderlying27 Tryz.infoOf42 rfl rfl rfl rfl rfl rfl (hE90.ext he90176) hP176 (by decide) (fun v177 w177 hk177 hF177 hN177 => ?_))
      have he80177 : Ext w80 w177 := hk177 w80 (he90.trans he90176) hb18
      have he0177 := he080.trans he80177
      have hL177 := hL.ext he0177
      have hoks : AllOk (fullL ++ [enB]) := allOk_app full_ok ok_B
      refine L.op rfl rfl (O.build (v := e0.val) (parts := []) (vs := []) rfl (fun w => by kernel_rfl) (L.op rfl rfl (O.call (xs := [.tmp 177, .tmp 178]) Tryz.call17 rfl rfl (Append_calls 0 v177 (fullL ++ [enB]) e0 w177 hN177 hoks oe0 hL177) (fun v179 w179 hq => ?_))))
      obtain ⟨p4, hv179, _, he179⟩ := hq
      rw [app_over] at hv179
      subst hv179
      obtain ⟨tx, hT⟩ : ∃ tx, tx = textL fullL := ⟨_, rfl⟩
      have tl := full_text_len
      have tp := parse_full
      have tm1 := parse_more (t := [120]) (by simp) (by decide)
      have tm2 := parse_more (t := [120, 10]) (by simp) (by decide)
      have tt := text_full
      rw [← hT] at tl tp tm1 tm2 tt
      refine L.op rfl rfl (O.move rfl (L.op rfl rfl (O.extract rfl rfl (L.op rfl rfl (O.extract rfl rfl (L.op rfl rfl (O.assign rfl (L.op rfl rfl (O.assign rfl (L.nil (T.seq (T.region (L.op rfl rfl (O.move rfl (L.op rfl rfl (O.call (xs := [.tmp 183]) Tryz.call20 rfl rfl (text_calls 0 _ fullL w179 (hF177.ext he179) full_ok (hL177.ext he179)) (fun v184 w184 hq => ?_)))))))))))))))))
      obtain ⟨hv184, he184⟩ := hq
      rw [tt] at hv184
      subst hv184
      have hx184 := he179.trans he184
      refine L.op rfl rfl (O.move rfl (L.op rfl rfl (O.extract rfl rfl (L.op rfl rfl (O.extract rfl rfl (L.op rfl rfl (O.assign rfl (L.op rfl rfl (O.assign rfl (L.nil (T.seq (T.region (L.op rfl rfl (O.move rfl (L.op rfl rfl (O.add_str rfl rfl (by show tx.length + 1 ≤ _; omega) (L.op rfl rfl (O.call (xs := [.tmp 189]) Tryz.call22 rfl rfl (Parse_calls (tx ++ [120]) w184 (by rw [List.length_append]; show tx.length + 1 ≤ _; omega) (hL177.ext hx184)) (fun v190 w190 hq => ?_)))))))))))))))))))
      obtain ⟨p5, hv190, _, he190⟩ := hq
      rw [tm1] at hv190
      subst hv190
      have hx190 := hx184.trans he190
      refine L.op rfl rfl (O.move rfl (L.op rfl rfl (O.extract rfl rfl (L.op rfl rfl (O.extract rfl rfl (L.op rfl rfl (O.extract rfl rfl (L.op rfl rfl (O.assign rfl (L.op rfl rfl (O.assign rfl (L.op rfl rfl (O.assign rfl (L.nil (T.seq (T.region (L.op rfl rfl (O.move rfl (L.op rfl rfl (O.add_str rfl rfl (by show tx.length + 2 ≤ _; omega) (L.op rfl rfl (O.call (xs := [.tmp 196]) Tryz.call22 rfl rfl (Parse_calls (tx ++ [120, 10]) w190 (by rw [List.length_append]; show tx.length + 2 ≤ _; omega) (hL177.ext hx190)) (fun v197 w197 hq => ?_)))))))))))))))))))))))
      obtain ⟨p6, hv197, _, he197⟩ := hq
      rw [tm2] at hv197
      subst hv197
      have hx197 := hx190.trans he197
      refine L.op rfl rfl (O.move rfl (L.op rfl rfl (O.extract rfl rfl (L.op rfl rfl (O.extract rfl rfl (L.op rfl rfl (O.extract rfl rfl (L.op rfl rfl (O.assign rfl (L.op rfl rfl (O.assign rfl (L.op rfl rfl (O.assign rfl (L.nil (T.seq (T.region (L.op rfl rfl (O.move rfl (L.op rfl rfl (O.call (xs := [.tmp 202]) Tryz.call22 rfl rfl (Parse_calls tx w197 (by omega) (hL177.ext hx197)) (fun v203 w203 hq => ?_)))))))))))))))))))))
      obtain ⟨p7, hv203, hP203, he203⟩ := hq
      rw [tp] at hv203 hP203
      subst hv203
      have hx203 := hx197.trans he203
      refine L.op rfl rfl (O.move rfl (L.op rfl rfl (O.extract rfl rfl (L.op rfl rfl (O.extract rfl rfl (L.op rfl rfl (O.extract rfl rfl (L.op rfl rfl (O.assign rfl (L.op rfl rfl (O.assign rfl (L.op rfl rfl (O.assign rfl (L.nil (T.seq (T.region (L.op rfl rfl (O.call (xs := [_, .const (.int .i64 40001)]) Tryz.call26 rfl rfl (repeat_calls [10] 40001 w203 (by decide) (by decide)) (fun v208 w208 hq => ?_)))))))))))))))))))
      obtain ⟨hv208, he208⟩ := hq
      obtain ⟨t1, ht1⟩ : ∃ t, t = Lib.repeatL [10] 40001 := ⟨_, rfl⟩
      have l1 : t1.length = 40001 := by rw [ht1]; exact rep_len _
      rw [← ht1] at hv208
      subst hv208
      have hx208 := hx203.trans he208
      refine L.op rfl rfl (O.call (xs := [.tmp 208]) Tryz.call22 rfl rfl (Parse_calls t1 w208 (by omega) (hL177.ext hx208)) (fun v209 w209 hq => ?_))
      obtain ⟨p8, hv209, _, he209⟩ := hq
      rw [parse_too l1] at hv209
      subst hv209
      have hx209 := hx208.trans he209
      refine L.op rfl rfl (O.move rfl (L.op rfl rfl (O.extract rfl rfl (L.op rfl rfl (O.extract rfl rfl (L.op rfl rfl (O.extract rfl rfl (L.op rfl rfl (O.assign rfl (L.op rfl rfl (O.assign rfl (L.op rfl rfl (O.assign rfl (L.nil (T.seq (T.region (L.op rfl rfl (O.call (xs := [_, .const (.int .i64 40000)]) Tryz.call26 rfl rfl (repeat_calls [10] 40000 w209 (by decide) (by decide)) (fun v214 w214 hq => ?_)))))))))))))))))))
      obtain ⟨hv214, he214⟩ := hq
      obtain ⟨t2, ht2⟩ : ∃ t, t = Lib.repeatL [10] 39999 := ⟨_, rfl⟩
      have l2 : t2.length = 39999 := by rw [ht2]; exact rep_len _
      have e2 : Lib.repeatL [10] 40000 = 10 :: t2 := by rw [ht2]; exact rep_cons 39999
      rw [e2] at hv214
      subst hv214
      have hx214 := hx209.trans he214
      refine L.op rfl rfl (O.call (xs := [.tmp 214]) Tryz.call22 rfl rfl (Parse_calls (10 :: t2) w214 (by rw [List.length_cons]; omega) (hL177.ext hx214)) (fun v215 w215 hq => ?_))
      obtain ⟨p9, hv215, _, he215⟩ := hq
      rw [parse_lines l2] at hv215
      subst hv215
      have hx215 := hx214.trans he215
      obtain ⟨q, hq⟩ : ∃ q, q = sealN sPlan sN := ⟨_, rfl⟩
      have oA : (enA q).ok := ok_A (by rw [hq]; exact sealN_lt _ _)
      refine L.op rfl rfl (O.move rfl (L.op rfl rfl (O.extract rfl rfl (L.op rfl rfl (O.extract rfl rfl (L.op rfl rfl (O.extract rfl rfl (L.op rfl rfl (O.assign rfl (L.op rfl rfl (O.assign rfl (L.op rfl rfl (O.assign rfl (L.nil (T.seq (T.region (L.op rfl rfl (O.call (xs := []) Tryz.call31 rfl rfl (submit_lc w215 (hL177.ext hx215)) (fun v220 w220 hq => ?_)))))))))))))))))))
      obtain ⟨rfl, he220⟩ := hq
      have hx220 := hx215.trans he220
      refine L.op rfl rfl (O.call (xs := []) Tryz.call31 rfl rfl (submit_lc w220 (hL177.ext hx220)) (fun v221 w221 hq => ?_))
      obtain ⟨rfl, he221⟩ := hq
      have hx221 := hx220.trans he221
      rw [← hq]
      refine L.op rfl rfl (O.buildSlice (el := 42) (parts := [(0, .tmp 220), (1, .tmp 221)]) (vs := [(0, _), (1, _)]) (cs := ([enA q, enA q].map En.cells).flatten) rfl (fun w => by kernel_rfl) (fun b222 w222 hb222 hz222 he222 hB222 => ?_))
      have hx222 := hx221.trans he222
      refine L.op rfl rfl (O.call (xs := [.tmp 222, _]) Tryz.call13 rfl rfl (View_calls 0 _ [enA q, enA q] [] w222 (ens_blk hB222 rfl (by decide)) (allOk2 oA oA) (by decide) (hL177.ext hx222)) (fun v223 w223 hq => ?_))
      obtain ⟨p10, hv223, _, he223⟩ := hq
      rw [view_aa] at hv223
      subst hv223
      have hx223 := hx222.trans he223
      refine L.op rfl rfl (O.move rfl (L.op rfl rfl (O.extract rfl rfl (L.op rfl rfl (O.extract rfl rfl (L.op rfl rfl (O.assign rfl (L.op rfl rfl (O.assign rfl (L.nil (T.seq (T.region (L.op rfl rfl (O.call (xs := []) Tryz.call31 rfl rfl (submit_lc w223 (hL177.ext hx223)) (fun v227 w227 hq => ?_)))))))))))))))
      obtain ⟨rfl, he227⟩ := hq
      have hx227 := hx223.trans he227
      rw [← hq]
      refine L.op rfl rfl (O.buildSlice (el := 42) (parts := [(0, .tmp 227)]) (vs := [(0, _)]) (cs := ([enA q].map En.cells).flatten) rfl (fun w => by kernel_rfl) (fun b228 w228 hb228 hz228 he228 hB228 => ?_))
      have hx228 := hx227.trans he228
      refine L.op rfl rfl (O.call (xs := [.tmp 228, _]) Tryz.call13 rfl rfl (View_calls 0 _ [enA q] [97, 32, 98] w228 (ens_blk hB228 rfl (by decide)) (allOk1 oA) (by decide) (hL177.ext hx228)) (fun v229 w229 hq => ?_))
      obtain ⟨p11, hv229, _, he229⟩ := hq
      rw [view_sp] at hv229
      subst hv229
      have hx229 := hx228.trans he229
      refine L.op rfl rfl (O.move rfl (L.op rfl rfl (O.extract rfl rfl (L.op rfl rfl (O.extract rfl rfl (L.op rfl rfl (O.assign rfl (L.op rfl rfl (O.assign rfl (L.nil (T.seq (T.region (L.op rfl rfl (O.build (v := (⟨5, [97], [98], 0, [], [110, 126]⟩ : En).val) (parts := [(0, .const (.int .i64 5)), (1, _), (2, _), (5, _), (4, _)]) (vs := [(0, _), (1, _), (2, _), (5, _), (4, _)]) rfl (fun w => by kernel_rfl) (L.op rfl rfl (O.build (v := (⟨3, [97], [98], 0, [], []⟩ : En).val) (parts := [(0, .const (.int .i64 3)), (1, _), (2, _)]) (vs := [(0, _), (1, _), (2, _)]) rfl (fun w => by kernel_rfl) (L.op rfl rfl (O.build (v := (⟨2, [97], [98], 255, [], []⟩ : En).val) (parts := [(0, .const (.int .i64 2)), (1, _), (2, _), (3, .const (.int .u64 255))]) (vs := [(0, _), (1, _), (2, _), (3, _)]) rfl (fun w => by kernel_rfl) (L.op rfl rfl (O.buildSlice (el := 42) (parts := [(0, .tmp 233), (1, .tmp 234), (2, .tmp 235)]) (vs := [(0, _), (1, _), (2, _)]) (cs := (ex3.map En.cells).flatten) rfl (fun w => by kernel_rfl) (fun b236 w236 hb236 hz236 he236 hB236 => ?_)))))))))))))))))))))
      have hx236 := hx229.trans he236
      refine L.op rfl rfl (O.call (xs := [.tmp 236]) Tryz.call20 rfl rfl (text_calls 0 _ ex3 w236 (ens_blk hB236 rfl (by decide)) ok_ex (hL177.ext hx236)) (fun v237 w237 hq => ?_))
      obtain ⟨hv237, he237⟩ := hq
      rw [text_ex] at hv237
      subst hv237
      have hx237 := hx236.trans he237
      refine L.op rfl rfl (O.move rfl (L.op rfl rfl (O.extract rfl rfl (L.op rfl rfl (O.extract rfl rfl (L.op rfl rfl (O.assign rfl (L.op rfl rfl (O.assign rfl (L.nil (T.seq (T.region (L.op rfl rfl (O.move rfl (L.op rfl rfl (O.eql_t rfl rfl rfl (L.op rfl rfl (O.move rfl (L.op rfl rfl (O.move rfl (L.op rfl rfl (O.eql_t rfl rfl rfl (L.op rfl rfl (O.pick_true rfl rfl (L.op rfl rfl (O.move rfl (L.op rfl rfl (O.move rfl (L.op rfl rfl (O.eql_t rfl rfl rfl (L.op rfl rfl (O.pick_true rfl rfl (L.op rfl rfl (O.move rfl (L.op rfl rfl (O.move rfl (L.op rfl rfl (O.eql_t rfl rfl rfl (L.op rfl rfl (O.pick_true rfl rfl (L.op rfl rfl (O.move rfl (L.op rfl rfl (O.move rfl (?_)))))))))))))))))))))))))))))))))))))))))))))
      refine L.op rfl rfl (O.eql_t rfl rfl rfl (L.op rfl rfl (O.pick_true rfl rfl (L.op rfl rfl (O.move rfl (L.op rfl rfl (O.move rfl (L.op rfl rfl (O.eql_t rfl rfl rfl (L.op rfl rfl (O.pick_true rfl rfl (L.op rfl rfl (O.move rfl (L.op rfl rfl (O.move rfl (L.op rfl rfl (O.eql_t rfl rfl rfl (L.op rfl rfl (O.pick_true rfl rfl (L.op rfl rfl (O.move rfl (L.op rfl rfl (O.move rfl (L.op rfl rfl (O.move rfl (L.op rfl rfl (O.call (xs := [.tmp 267, .tmp 268]) Tryz.call24 rfl rfl (equalE_calls 0 0 p7 _ _ _ w237 (hP203.ext ((((((((((((he208.trans he209).trans he214).trans he215).trans he220).trans he221).trans he222).trans he223).trans he227).trans he228).trans he229).trans he236).trans he237)) (hF177.ext hx237)) (fun v269 w269 hq => ?_))))))))))))))))))))))))))))
      obtain ⟨hv269, he269⟩ := hq
      rw [decide_eq_true rfl] at hv269
      subst hv269
      refine L.op rfl rfl (O.pick_true rfl rfl (L.op rfl rfl (O.move rfl (L.op rfl rfl (O.move rfl (L.op rfl rfl (O.eql_t rfl rfl rfl (L.op rfl rfl (O.pick_true rfl rfl (L.op rfl rfl (O.move rfl (L.op rfl rfl (O.move rfl (L.op rfl rfl (O.eql_t rfl rfl rfl (L.op rfl rfl (O.pick_true rfl rfl (L.op rfl rfl (O.move rfl (L.op rfl rfl (O.move rfl (L.op rfl rfl (O.eql_t rfl rfl rfl (L.op rfl rfl (O.pick_true rfl rfl (L.op rfl rfl (O.move rfl (L.op rfl rfl (O.move rfl (L.op rfl rfl (O.eql_t rfl rfl rfl (L.op rfl rfl (O.pick_true rfl rfl (L.op rfl rfl (O.move rfl (L.op rfl rfl (O.move rfl (L.op rfl rfl (O.eql_t rfl rfl rfl (L.op rfl rfl (O.pick_true rfl rfl (L.op rfl rfl (O.move rfl (L.op rfl rfl (O.move rfl (L.op rfl rfl (O.eql_t rfl rfl rfl (?_))))))))))))))))))))))))))))))))))))))))))))))))
      refine L.op rfl rfl (O.pick_true rfl rfl (L.op rfl rfl (O.move rfl (L.op rfl rfl (O.move rfl (L.op rfl rfl (O.eql_t rfl rfl rfl (L.op rfl rfl (O.pick_true rfl rfl (L.op rfl rfl (O.move rfl (L.op rfl rfl (O.move rfl (L.op rfl rfl (O.eql_t rfl rfl rfl (L.op rfl rfl (O.pick_true rfl rfl (L.op rfl rfl (O.move rfl (L.op rfl rfl (O.move rfl (L.op rfl rfl (O.eql_str_t Tryz.runUnderlying9 rfl rfl rfl (L.op rfl rfl (O.pick_true rfl rfl (L.op rfl rfl (O.move rfl (L.op rfl rfl (O.move rfl (L.op rfl rfl (O.eql_t rfl rfl rfl (L.op rfl rfl (O.pick_true rfl rfl (L.op rfl rfl (O.assign rfl (L.nil (T.ret1 Tryz.results6 rfl ⟨rfl, he0177.trans (hx237.trans he269)⟩)))))))))))))))))))))))))))))))))))))

end Go.Proofs.YtmnihgcffdmodaaGreatDoor
set_option linter.unusedVariables false
set_option linter.unusedSimpArgs false
set_option maxRecDepth 20000
namespace Go.Proofs.YtmnihgcffdmodaaGreatDoor
open Go Go.E RowKit ChangeShapes WideShapes
attribute [local irreducible] Go.E.T Go.E.L Go.E.O Go.E.Ob

set_option maxRecDepth 100000 in
theorem historyKnown_lifted (os : Os) (started : os.Started) (H : Type) (enc : TypeId × Value → H) :
    ReturnsInHanded {} Tryz.checked os 6 .any (fun w args => (Rows.historyKnownSpec.pre enc Tryz.prog Tryz.f6 [] false w args ∧ laidMetH Tryz.prog laidL w) ∧ sizedMet enc Tryz.prog Tryz.f6 (OpenSpec.ofChange Rows.historyKnownSpec) false w args)
      (Rows.historyKnownSpec.post enc Tryz.prog Tryz.f6 false true false false) := by
  refine law_liftedS (C := Tryz.checked) (X := fun w _ => laidMetH Tryz.prog laidL w) (tb := 4) (ts := []) (fun _ _ _ hh h => h.of_heap hh) own started (by kernel_rfl) Tryz.func6
    rfl Tryz.params6 (fun ds h => ?_) (by kernel_rfl) Tryz.underlying4 laidOut (by kernel_rfl)
    (ChangeSpec.witness_at (enc := enc) (C := Tryz.checked) (os := os) (X := fun w _ => laidMetH Tryz.prog laidL w) false (laidWorld os) #[] 8 (World.laidAll_os _ _ _) (by kernel_rfl) (by kernel_rfl) (by kernel_rfl) (by kernel_rfl) (by kernel_rfl) (laidWorld_met os _)) ?_
  · obtain rfl := nil_of h
    rfl
  · intro W vs hl ha hz hX hsh
    have hL := lib_of_laid hX hsh
    obtain rfl := nil_of hl
    exact HistoryKnown_calls W hL
theorem historyKnown_over : Rows.HistoryKnownSaid :=
  OpenClaim.holds_of_wide 6 Tryz.f6 rfl rfl rfl rfl rfl rfl rfl ⟨rfl, rfl, rfl, rfl, rfl⟩ rfl rfl rfl rfl rfl (by kernel_rfl) Tryz.func6 (by kernel_rfl)
    (of_decide_eq_true (by kernel_rfl)) (by unfold Func.isWrapper; first | (rw [if_pos (by decide +kernel)]; kernel_rfl) | (rw [if_neg (by decide +kernel)]; exact ⟨rfl, rfl⟩))
    (fun os started H enc _ => historyKnown_lifted os started H enc)
theorem historyKnown_holds : Rows.HistoryKnownCardSaid :=
  Claim7.holds_tied_plain_at .later [] [.data, .data, .data, .data, .sentinel, .sentinel, .pinned] true (true, "aaf5ffa92cad1a37786ee6b649a4a6dda330fa9512e5f093092dbdd098bd3f5a") true
    historyKnown_over (fun _ h => by cases h) (by kernel_rfl) (fun _ h => by cases h) historyKnown_row_tie rfl ⟨rfl, rfl⟩ (by kernel_rfl) rfl
    (fun f fn hf hfn => by
      obtain rfl : f = 6 := Option.some.inj ((show Tryz.prog.funcNamed Rows.historyKnownRow.func = some 6 by kernel_rfl).symm.trans hf) |>.symm
      obtain rfl : fn = Tryz.f6 := (Option.some.inj (Tryz.func6.symm.trans hfn)).symm
      exact ⟨by kernel_rfl, fun j t ht => by
        rw [Tryz.params6] at ht
        simp at ht⟩)
    (by kernel_rfl)
#print axioms historyKnown_holds
end Go.Proofs.YtmnihgcffdmodaaGreatDoor
