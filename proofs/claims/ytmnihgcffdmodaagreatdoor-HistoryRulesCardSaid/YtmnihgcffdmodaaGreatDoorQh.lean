/-
  Walks of the history's functions (5). Conditions: those of each statement.
-/
import Derived.Test.YtmnihgcffdmodaaGreatDoorQg
import Derived.Test.YtmnihgcffdmodaaGreatDoorQc
import Derived.Test.YtmnihgcffdmodaaGreatDoorRows
import Derived.Test.YtmnihgcffdmodaaGreatDoorTie
import Derived.Lay
set_option linter.unusedVariables false
set_option linter.unusedSimpArgs false
set_option maxRecDepth 20000
namespace Go.Proofs.YtmnihgcffdmodaaGreatDoor
open Go Go.E RowKit
attribute [local irreducible] Go.E.T Go.E.L Go.E.O Go.E.Ob

attribute [local irreducible] Go.E.ObX Go.E.ObK
def octC (t : Str) : List Value := (t.map fun c => (c.toNat : Int)).map (Value.int .u8)
/-- A list of octets of one's own. -/
structure OwnO (base : Nat) (t : Str) (q : Value) (w : World) : Prop where
  row : w.ownsRow base 5 1 q t.length (octC t)
  nil : t = [] → q = .slice none 0 0
theorem OwnO.keep {base lo : Nat} {t : Str} {q : Value} {w w' : World} (h : OwnO base t q w) (k : Keep lo w w') (hl : lo ≤ base) : OwnO base t q w' := ⟨owns_keep h.row k hl, h.nil⟩
theorem OwnO.ints {base : Nat} {t : Str} {q : Value} {w : World} (h : OwnO base t q w) : Ints .u8 base w q (t.map fun c => (c.toNat : Int)) := by
  have := Sl.of_owns h.row
  unfold Ints
  rw [List.length_map]; exact this
theorem OwnO.add {base : Nat} {t : Str} {c : UInt8} {q : Value} {w : World} (h : w.ownsRow base 5 1 q (t.length + 1) (octC t ++ [.int .u8 c.toNat])) : OwnO base (t ++ [c]) q w :=
  ⟨by rw [List.length_append]; unfold octC at h ⊢; simpa using h, fun e => by simp at e⟩
theorem octL_part : ∀ (j : Nat) (t : Str), j < t.length → ((octL t).drop (2 * j)).take (2 * j + 2 - 2 * j) = [hexD ((t.getD j 0).toNat / 16), hexD ((t.getD j 0).toNat % 16)]
  | _, [], h => by simp at h
  | 0, a :: r, _ => by simp [octL]
  | j + 1, a :: r, h => by
    have ih := octL_part j r (by simpa using h)
    have e : octL (a :: r) = hexD (a.toNat / 16) :: hexD (a.toNat % 16) :: octL r := rfl
    rw [e, show 2 * (j + 1) = 2 * j + 1 + 1 by omega]
    simp only [List.drop_succ_cons, List.getD_cons_succ]
    rw [← ih]; congr 1; omega
theorem puN_lt {B : Nat} : ∀ (s : Str) (z n : Nat), z < 2 ^ B → puN B s z = some n → n < 2 ^ B
  | [], z, n, hz, h => by rw [puN] at h; cases h; exact hz
  | c :: r, z, n, hz, h => by
    rw [puN] at h
    cases hd : hexd c with
    | none => rw [hd] at h; cases h
    | some d =>
      rw [hd] at h
      simp only at h
      split at h
      · rename_i hb; exact puN_lt r _ n hb h
      · cases h
theorem unoct1_nil (w : World) :
    Calls Tryz.prog 134 #[.nilIface] w (Ret fun v w' => v = .bool true ∧ Ext w w') := by
  refine T.enter (vs := [.nilIface]) Tryz.func134 rfl Tryz.ntmps134 rfl ?_
  refine T.seq (T.region (L.op rfl rfl (O.assign rfl (L.nil (T.seq (T.region (L.op rfl rfl (O.move rfl (L.op rfl rfl (O.eql_iface_yes (by kernel_rfl) rfl (L.op rfl rfl (O.assign rfl (L.nil (T.ret1 Tryz.results134 rfl ⟨rfl, Keep.refl _ _⟩))))))))))))))

theorem unoct1_err (t : TypeId) (p : Value) (w : World) :
    Calls Tryz.prog 134 #[.iface t p] w (Ret fun v w' => v = .bool false ∧ Ext w w') := by
  refine T.enter (vs := [.iface t p]) Tryz.func134 rfl Tryz.ntmps134 rfl ?_
  refine T.seq (T.region (L.op rfl rfl (O.assign rfl (L.nil (T.seq (T.region (L.op rfl rfl (O.move rfl (L.op rfl rfl (O.eql_iface_no (by kernel_rfl) rfl rfl (L.op rfl rfl (O.assign rfl (L.nil (T.ret1 Tryz.results134 rfl ⟨rfl, Keep.refl _ _⟩))))))))))))))

theorem unoct2_calls (s out : Str) (b3 base : Nat) (q : Value) (w : World) (h3 : Blk w b3 [q] 93) (hq : OwnO base out q w) (hn : out.length ≤ 1000000) :
    Calls Tryz.prog 135 #[str s, .pointer (some ⟨b3, 0, none⟩)] w (Ret fun v w' => v = .bool (decide (octetsL out = s)) ∧ Ext w w') := by
  refine T.enter (vs := [str s, .pointer (some ⟨b3, 0, none⟩)]) Tryz.func135 rfl Tryz.ntmps135 rfl ?_
  refine T.seq (T.region (L.op rfl rfl (O.assign rfl (L.nil (T.seq (T.region (L.op rfl rfl (O.load Tryz.isAgg93 rfl (h3.cell rfl) (?_)))))))))
  rcases Classical.em (out = []) with h0 | h0
  · subst h0
    obtain rfl := hq.nil rfl
    refine L.op rfl rfl (O.bytes_str0 Tryz.runUnderlying93 Tryz.runUnderlying5 Tryz.runUnderlying9 rfl (L.op rfl rfl (O.call (xs := [.tmp 5]) Tryz.call95 rfl rfl (poctets_calls [] w (by simp)) (fun v1 w1 hq => ?_))))
    obtain ⟨rfl, he1⟩ := hq
    refine L.op rfl rfl (O.move rfl (L.op rfl rfl (O.eql_str Tryz.runUnderlying9 rfl rfl (L.op rfl rfl (O.assign rfl (L.nil (T.ret1 Tryz.results135 rfl ⟨rfl, he1⟩)))))))
  · refine L.op rfl rfl (O.bytes_str Tryz.runUnderlying93 Tryz.runUnderlying5 Tryz.runUnderlying9 rfl hq.ints (List.length_pos_iff.2 h0) (L.op rfl rfl (O.call (xs := [.tmp 5]) Tryz.call95 rfl rfl (poctets_calls out w hn) (fun v1 w1 hq => ?_))))
    obtain ⟨rfl, he1⟩ := hq
    refine L.op rfl rfl (O.move rfl (L.op rfl rfl (O.eql_str Tryz.runUnderlying9 rfl rfl (L.op rfl rfl (O.assign rfl (L.nil (T.ret1 Tryz.results135 rfl ⟨rfl, he1⟩)))))))

theorem unoct_hyphen (w : World) :
    Calls Tryz.prog 107 #[str [45]] w (Ret fun v w' => v = str [] ∧ Ext w w') := by
  refine T.enter (vs := [str [45]]) Tryz.func107 rfl Tryz.ntmps107 rfl ?_
  refine T.seq (T.region (L.op rfl rfl (O.assign rfl (L.nil (T.seq (T.seq (T.region (L.op rfl rfl (O.move rfl (L.op rfl rfl (O.eql_str_t Tryz.runUnderlying9 rfl rfl rfl (L.nil (T.cond_true rfl (T.seq (T.region (L.op rfl rfl (O.assign rfl (L.nil (T.ret1 Tryz.results107 rfl ⟨rfl, Keep.refl _ _⟩)))))))))))))))))))

set_option maxHeartbeats 1000000 in
theorem unoct_yes (t : Str) (w : World) (ht : t ≠ []) (hn : t.length ≤ 100000) (hL : LibM w) :
    Calls Tryz.prog 107 #[str (octL t)] w (Ret fun v w' => v = str t ∧ Ext w w') := by
  have hol := octL_len t
  have htp := List.length_pos_iff.2 ht
  refine T.enter (vs := [str (octL t)]) Tryz.func107 rfl Tryz.ntmps107 rfl ?_
  refine T.seq (T.region (L.op rfl rfl (O.assign rfl (L.nil (T.seq (T.seq (T.region (L.op rfl rfl (O.move rfl (L.op rfl rfl (O.eql_str_f Tryz.runUnderlying9 rfl rfl (fun e ↦ by have := congrArg List.length e; rw [hol] at this; simp at this; omega) (L.nil (T.cond_false rfl (T.skip (T.seq (T.region (L.op rfl rfl (O.alloc Tryz.zeroValue93 (fun b3 w3 hb3 hz3 he3 hB3 => ?_)))))))))))))))))))
  have hB3' : Blk w3 b3 [.slice none 0 0] 93 := hB3
  have hbz : b3 < w3.heap.size := hB3'.lt
  refine L.nil (T.seq (T.seq (T.region (L.op rfl rfl (O.assign rfl (L.nil (T.block (?_))))))))
  refine T.loop (σ := Nat) (fun j => [(0, str (octL t)), (3, .pointer (some ⟨b3, 0, none⟩)), (4, .int .i64 ((2 * j : Nat) : Int))]) (fun j w' => j ≤ t.length ∧ Ext w w' ∧ w3.heap.size ≤ w'.heap.size ∧ ∃ q, Blk w' b3 [q] 93 ∧ OwnO w3.heap.size (t.take j) q w') (fun j => t.length - j) (0) ⟨rfl, rfl, rfl, trivial⟩ ⟨Nat.zero_le _, he3, Nat.le_refl _, _, hB3', owns_nil _ _ _ _, fun _ => rfl⟩ ?_
  rintro j w4 ⟨hj, he4, hz4, q, hq4, hO4⟩
  refine T.seq (T.seq (T.region (L.op rfl rfl (O.move rfl (L.op rfl rfl (O.add64 rfl rfl (by omega) (L.op rfl rfl (O.move rfl (L.op rfl rfl (O.len_str Tryz.runUnderlying9 rfl (L.op rfl rfl (O.lss_s rfl rfl (fun hlt => ?_) (fun hlt => ?_)))))))))))))
  · refine L.nil (?_)
    have hlt' : j < t.length := by omega
    obtain ⟨c, hc⟩ : ∃ c, c = t.getD j 0 := ⟨_, rfl⟩
    have hc8 := UInt8.toNat_lt c
    have hpart := octL_part j t hlt'
    rw [← hc] at hpart
    refine T.cond_true rfl (T.skip (T.seq (T.block (T.seq (T.region (L.op rfl rfl (O.move rfl (L.op rfl rfl (O.move rfl (L.op rfl rfl (O.move rfl (L.op rfl rfl (O.add64 rfl rfl (by omega) (?_))))))))))))))
    have e2 : (((2 * j : Nat) : Int) + 2) = ((2 * j + 2 : Nat) : Int) := by omega
    rw [e2]
    refine L.op rfl rfl (O.slice_str_lh Tryz.runUnderlying9 rfl rfl rfl (by omega) (by omega) (?_))
    rw [hpart]
    refine L.op rfl rfl (O.call (xs := [.tmp 21, .const (.int .i64 16), .const (.int .i64 8)]) Tryz.call130 rfl rfl (parse_yes [hexD (c.toNat / 16), hexD (c.toNat % 16)] 8 c.toNat w4 (.inl rfl) (by simp) (by simp) (puN_oct c)) (fun v5 w5 hq => ?_))
    obtain ⟨rfl, _, he5⟩ := hq
    refine L.op rfl rfl (O.move rfl (L.op rfl rfl (O.extract rfl rfl (L.op rfl rfl (O.extract rfl rfl (L.op rfl rfl (O.assign rfl (L.op rfl rfl (O.assign rfl (L.nil (T.seq (T.region (L.op rfl rfl (O.move rfl (L.op rfl rfl (O.call (xs := [.tmp 25, .func 134]) Tryz.call133 rfl rfl (needErr_yes .nilIface 134 #[] w5 Tryz.call134 (unoct1_nil w5)) (fun v6 w6 hq => ?_)))))))))))))))))
    obtain ⟨rfl, he6⟩ := hq
    have he46 := he5.trans he6
    refine L.nil (T.region (L.op rfl rfl (O.load Tryz.isAgg93 rfl ((hq4.ext he46).cell rfl) (L.op rfl rfl (O.move rfl (L.op rfl rfl (O.conv_to rfl (fun w => ⟨_, Tryz.runUnderlying25 w⟩) Tryz.runUnderlying5 (IntWalk.u8_in _ ⟨by omega, by omega⟩) (L.op rfl rfl (O.buildSlice (el := 5) (parts := [(0, .tmp 29)]) (vs := [(0, _)]) (cs := [.int .u8 c.toNat]) rfl (fun w => by kernel_rfl) (fun b7 w7 hb7 hz7 he7 hB7 => ?_))))))))))
    have he47 := he46.trans he7
    have hO7 := hO4.keep he47 (Nat.zero_le _)
    have htl : (t.take j).length = j := by rw [List.length_take]; omega
    refine L.op rfl rfl (O.append (size := 1) (bytes := 1) Tryz.runUnderlying93 Tryz.infoOf5 rfl rfl rfl rfl (by decide) rfl rfl hO7.row (Sl.of_blk (lo := 0) (n := 1) (sz := 1) hB7 rfl (Nat.le_refl _) (by decide) (Nat.zero_le _)) (by intro c hc; simp at hc; subst hc; rfl) (by omega) (by simp only [maxLen]; omega) (by have := he47.size; omega) (fun v8 w8 hO8 hG8 => ?_))
    have hq8 : Blk w8 b3 [q] 93 := (hq4.ext he47).grown hG8 (fun j hj e => by have := own_at hO7.row hj; omega)
    refine L.op rfl rfl (O.store1 Tryz.sizeOf93 (Sl.one (Sl.of_owns hO8)) rfl rfl hq8 (by simp) (fun w9 hu9 hB9 => ?_))
    have hu9 : Upd b3 _ _ := hu9
    have hO9 : OwnO w3.heap.size (t.take (j + 1)) v8 w9 := by
      rw [take_snoc (d := 0) hlt', ← hc]
      exact OwnO.add (owns_upd' hO8 (fun j hj e => by have := own_at hO8 hj; omega) hu9)
    refine L.nil (T.blk (T.region (L.op rfl rfl (O.move rfl (L.op rfl rfl (O.add64 rfl rfl (by omega) (L.op rfl rfl (O.assign rfl (L.nil (T.again (j + 1) (by omega) ⟨rfl, rfl, ?_, trivial⟩ ⟨hlt', ((he4.trans he47).grown0 hO7.row hG8 (by have := he3.size; omega)).upd hu9 (.inr (by omega)), by have := he47.size; have := hG8.size; have := hu9.size; omega, v8, hB9, hO9⟩))))))))))
    · exact congrArg (fun z : Int => some (Value.int .i64 z)) (by omega)
  · refine L.nil (?_)
    have hjt : t.take j = t := List.take_of_length_le (by omega)
    rw [hjt] at hO4
    refine T.cond_false rfl (T.exit rfl (T.seq (T.region (L.op rfl rfl (O.move rfl (L.op rfl rfl (O.makeFunc (fi := []) (ca := [.tmp 3]) rfl rfl (L.op rfl rfl (O.call (xs := [.tmp 32, .tmp 33]) Tryz.call131 rfl rfl (needStr_yes (octL t) 135 #[.pointer (some ⟨b3, 0, none⟩)] w4 Tryz.call135 (by have h := unoct2_calls (octL t) t b3 w3.heap.size q w4 hq4 hO4 (by omega); rw [octetsL, if_neg ht, decide_eq_true rfl] at h; exact h)) (fun v5 w5 hq => ?_))))))))))
    obtain ⟨rfl, he5⟩ := hq
    refine L.nil (T.seq (T.region (L.op rfl rfl (O.load Tryz.isAgg93 rfl ((hq4.ext he5).cell rfl) (L.op rfl rfl (O.bytes_str Tryz.runUnderlying93 Tryz.runUnderlying5 Tryz.runUnderlying9 rfl ((hO4.keep he5 (Nat.zero_le _)).ints) htp (L.op rfl rfl (O.assign rfl (L.nil (T.ret1 Tryz.results107 rfl ⟨rfl, he4.trans he5⟩))))))))))

set_option maxHeartbeats 1000000 in
theorem unoct_no (s : Str) (w : World) (hs : ∀ t, ¬ octetsL t = s) (hn : s.length ≤ 1000000) (hL : LibM w) :
    Calls Tryz.prog 107 #[str s] w (Pan (wrongV) fun w' => Ext w w') := by
  refine T.enterP (vs := [str s]) Tryz.func107 rfl Tryz.ntmps107 rfl ?_
  refine T.seq (T.region (L.op rfl rfl (O.assign rfl (L.nil (T.seq (T.seq (T.region (L.op rfl rfl (O.move rfl (L.op rfl rfl (O.eql_str_f Tryz.runUnderlying9 rfl rfl (fun e ↦ hs [] (by rw [e]; rfl)) (L.nil (T.cond_false rfl (T.skip (T.seq (T.region (L.op rfl rfl (O.alloc Tryz.zeroValue93 (fun b3 w3 hb3 hz3 he3 hB3 => ?_)))))))))))))))))))
  have hB3' : Blk w3 b3 [.slice none 0 0] 93 := hB3
  have hbz : b3 < w3.heap.size := hB3'.lt
  refine L.nil (T.seq (T.seq (T.region (L.op rfl rfl (O.assign rfl (L.nil (T.block (?_))))))))
  refine T.loop (σ := Nat × Str) (fun g => [(0, str s), (3, .pointer (some ⟨b3, 0, none⟩)), (4, .int .i64 ((2 * g.1 : Nat) : Int))]) (fun g w' => 2 * g.1 ≤ s.length ∧ Ext w w' ∧ w3.heap.size ≤ w'.heap.size ∧ g.2.length = g.1 ∧ ∃ q, Blk w' b3 [q] 93 ∧ OwnO w3.heap.size g.2 q w') (fun g => s.length - 2 * g.1) ((0, [])) ⟨rfl, rfl, rfl, trivial⟩ ⟨Nat.zero_le _, he3, Nat.le_refl _, rfl, _, hB3', owns_nil _ _ _ _, fun _ => rfl⟩ ?_
  rintro ⟨j, t⟩ w4 ⟨hj, he4, hz4, hjl, q, hq4, hO4⟩
  simp only at hj hjl hO4
  refine T.seq (T.seq (T.region (L.op rfl rfl (O.move rfl (L.op rfl rfl (O.add64 rfl rfl (by (try dsimp only); omega) (L.op rfl rfl (O.move rfl (L.op rfl rfl (O.len_str Tryz.runUnderlying9 rfl (L.op rfl rfl (O.lss_s rfl rfl (fun hlt => ?_) (fun hlt => ?_)))))))))))))
  · refine L.nil (?_)
    have hlt' : 2 * j + 1 < s.length := by have h : ((2 * j : Nat) : Int) + 1 < (s.length : Int) := hlt; omega
    obtain ⟨p, hp⟩ : ∃ p, p = (s.drop (2 * j)).take (2 * j + 2 - 2 * j) := ⟨_, rfl⟩
    have hpl : p.length = 2 := by rw [hp, List.length_take, List.length_drop]; omega
    have hp0 : p ≠ [] := by intro e; rw [e] at hpl; simp at hpl
    refine T.cond_true rfl (T.skip (T.seq (T.block (T.seq (T.region (L.op rfl rfl (O.move rfl (L.op rfl rfl (O.move rfl (L.op rfl rfl (O.move rfl (L.op rfl rfl (O.add64 rfl rfl (by (try dsimp only); omega) (?_))))))))))))))
    have e2 : (((2 * j : Nat) : Int) + 2) = ((2 * j + 2 : Nat) : Int) := by omega
    (try dsimp only)
    rw [e2]
    refine L.op rfl rfl (O.slice_str_lh Tryz.runUnderlying9 rfl rfl rfl (by omega) (by omega) (?_))
    rw [← hp]
    rcases hpu : puN 8 p 0 with _ | n
    · refine L.op rfl rfl (O.call (xs := [.tmp 21, .const (.int .i64 16), .const (.int .i64 8)]) Tryz.call130 rfl rfl (parse_no p 8 w4 (.inl rfl) (by omega) (hL.ext he4) (fun _ ↦ hpu)) (fun v5 w5 hq => ?_))
      obtain ⟨⟨m, te, pe, rfl⟩, he5⟩ := hq
      refine L.op rfl rfl (O.move rfl (L.op rfl rfl (O.extract rfl rfl (L.op rfl rfl (O.extract rfl rfl (L.op rfl rfl (O.assign rfl (L.op rfl rfl (O.assign rfl (L.nil (T.seq (T.region (L.op rfl rfl (O.move rfl (L.callPan (xs := [.tmp 25, .func 134]) rfl Tryz.call133 rfl rfl (needErr_no (.iface te pe) 134 #[] w5 Tryz.call134 (unoct1_err te pe w5)) (fun w' a hR ha => ⟨ha.defers, rfl, (he4.trans he5).trans hR⟩))))))))))))))))
    · have hn8 : n < 256 := puN_lt p 0 n (by decide) hpu
      obtain ⟨c, hc⟩ : ∃ c : UInt8, c.toNat = n := ⟨UInt8.ofNat n, by rw [UInt8.toNat_ofNat']; omega⟩
      refine L.op rfl rfl (O.call (xs := [.tmp 21, .const (.int .i64 16), .const (.int .i64 8)]) Tryz.call130 rfl rfl (parse_yes p 8 n w4 (.inl rfl) hp0 (by omega) hpu) (fun v5 w5 hq => ?_))
      obtain ⟨rfl, _, he5⟩ := hq
      refine L.op rfl rfl (O.move rfl (L.op rfl rfl (O.extract rfl rfl (L.op rfl rfl (O.extract rfl rfl (L.op rfl rfl (O.assign rfl (L.op rfl rfl (O.assign rfl (L.nil (T.seq (T.region (L.op rfl rfl (O.move rfl (L.op rfl rfl (O.call (xs := [.tmp 25, .func 134]) Tryz.call133 rfl rfl (needErr_yes .nilIface 134 #[] w5 Tryz.call134 (unoct1_nil w5)) (fun v6 w6 hq => ?_)))))))))))))))))
      obtain ⟨rfl, he6⟩ := hq
      have he46 := he5.trans he6
      refine L.nil (T.region (L.op rfl rfl (O.load Tryz.isAgg93 rfl ((hq4.ext he46).cell rfl) (L.op rfl rfl (O.move rfl (L.op rfl rfl (O.conv_to rfl (fun w => ⟨_, Tryz.runUnderlying25 w⟩) Tryz.runUnderlying5 (IntWalk.u8_in _ ⟨by omega, by omega⟩) (?_))))))))
      subst hc
      refine L.op rfl rfl (O.buildSlice (el := 5) (parts := [(0, .tmp 29)]) (vs := [(0, _)]) (cs := [.int .u8 c.toNat]) rfl (fun w => by kernel_rfl) (fun b7 w7 hb7 hz7 he7 hB7 => ?_))
      have he47 := he46.trans he7
      have hO7 := hO4.keep he47 (Nat.zero_le _)
      refine L.op rfl rfl (O.append (size := 1) (bytes := 1) Tryz.runUnderlying93 Tryz.infoOf5 rfl rfl rfl rfl (by decide) rfl rfl hO7.row (Sl.of_blk (lo := 0) (n := 1) (sz := 1) hB7 rfl (Nat.le_refl _) (by decide) (Nat.zero_le _)) (by intro c hc; simp at hc; subst hc; rfl) (by omega) (by simp only [maxLen]; omega) (by have := he47.size; omega) (fun v8 w8 hO8 hG8 => ?_))
      have hq8 : Blk w8 b3 [q] 93 := (hq4.ext he47).grown hG8 (fun j hj e => by have := own_at hO7.row hj; omega)
      refine L.op rfl rfl (O.store1 Tryz.sizeOf93 (Sl.one (Sl.of_owns hO8)) rfl rfl hq8 (by simp) (fun w9 hu9 hB9 => ?_))
      have hu9 : Upd b3 _ _ := hu9
      have hO9 : OwnO w3.heap.size (t ++ [c]) v8 w9 := OwnO.add (owns_upd' hO8 (fun j hj e => by have := own_at hO8 hj; omega) hu9)
      refine L.nil (T.blk (T.region (L.op rfl rfl (O.move rfl (L.op rfl rfl (O.add64 rfl rfl (by (try dsimp only); omega) (L.op rfl rfl (O.assign rfl (L.nil (T.again ((j + 1, t ++ [c])) (by omega) ⟨rfl, rfl, ?_, trivial⟩ ⟨by (try dsimp only); omega, ((he4.trans he47).grown0 hO7.row hG8 (by have := he3.size; omega)).upd hu9 (.inr (by omega)), by have := he47.size; have := hG8.size; have := hu9.size; omega, by simp [hjl], v8, hB9, hO9⟩))))))))))
      · exact congrArg (fun z : Int => some (Value.int .i64 z)) (by (try dsimp only); omega)
  · refine L.nil (T.cond_false rfl (T.exit rfl (T.seq (T.region (L.op rfl rfl (O.move rfl (L.op rfl rfl (O.makeFunc (fi := []) (ca := [.tmp 3]) rfl rfl (L.callPan (xs := [.tmp 32, .tmp 33]) rfl Tryz.call131 rfl rfl (needStr_no s 135 #[.pointer (some ⟨b3, 0, none⟩)] w4 Tryz.call135 (by have h := unoct2_calls s t b3 w3.heap.size q w4 hq4 hO4 (by omega); rw [decide_eq_false (hs t)] at h; exact h)) (fun w' a hR ha => ⟨ha.defers, rfl, he4.trans hR⟩))))))))))

end Go.Proofs.YtmnihgcffdmodaaGreatDoor
set_option linter.unusedVariables false
set_option linter.unusedSimpArgs false
set_option maxRecDepth 20000
namespace Go.Proofs.YtmnihgcffdmodaaGreatDoor
open Go Go.E RowKit
attribute [local irreducible] Go.E.T Go.E.L Go.E.O Go.E.Ob

attribute [local irreducible] Go.E.ObX Go.E.ObK Go.E.ObKP
def manyL : List Int := [4, 4, 3, 2, 5]
def manyN (k : Int) : Int := manyL.getD (k - 1).toNat 0
structure LineFacts (s : Str) (y : En) : Prop where
  k : kindN ((wordsL 32 s).getD 0 []) = y.k
  kr : 1 ≤ y.k ∧ y.k ≤ 5
  len : ((wordsL 32 s).length : Int) = manyN y.k
  hex : y.k = 1 ∨ y.k = 2 → (wordsL 32 s).getD 3 [] = hex16 y.sl ∧ y.sl < 18446744073709551616
  oct : y.k = 5 → (wordsL 32 s).getD 3 [] = octetsL y.non ∧ (wordsL 32 s).getD 4 [] = octetsL y.con
theorem IsLine.facts {s : Str} {y : En} (h : IsLine s y) : LineFacts s y := by
  have hb := h.b
  have hk := (right_parts h.r).1
  have hw := h.words
  rcases (show y.k = 1 ∨ y.k = 2 ∨ y.k = 3 ∨ y.k = 4 ∨ y.k = 5 by omega) with e | e | e | e | e
  all_goals
    refine ⟨?_, hk, ?_, ?_, ?_⟩ <;> rw [hw]
    · simp [wordsE, kwE, kindsL, e, kindN, kwSubmit, kwRevise, kwWithdraw, kwClose, kwOpen]
    · simp [wordsE, e, manyN, manyL]
    · simp [wordsE, e, hb]
    · simp [wordsE, e]
theorem none_kind {s : Str} (h : kindN ((wordsL 32 s).getD 0 []) = 0) : readE s = none := read_none.2 fun y hy => by have h1 := hy.facts.k; have h2 := hy.facts.kr; omega
theorem none_len {s : Str} (h : ¬ ((wordsL 32 s).length : Int) = manyN (kindN ((wordsL 32 s).getD 0 []))) : readE s = none := read_none.2 fun y hy => h (by rw [hy.facts.len, hy.facts.k])
theorem none_hex {s : Str} (h1 : kindN ((wordsL 32 s).getD 0 []) = 1 ∨ kindN ((wordsL 32 s).getD 0 []) = 2) (h : ∀ n, n < 18446744073709551616 → ¬ hex16 n = (wordsL 32 s).getD 3 []) : readE s = none := read_none.2 fun y hy => by
  have hf := hy.facts.hex (by rw [← hy.facts.k]; exact h1)
  exact h _ hf.2 hf.1.symm
theorem none_oct {s : Str} (h1 : kindN ((wordsL 32 s).getD 0 []) = 5) (h : (∀ t, ¬ octetsL t = (wordsL 32 s).getD 3 []) ∨ (∀ t, ¬ octetsL t = (wordsL 32 s).getD 4 [])) : readE s = none := read_none.2 fun y hy => by
  have hf := hy.facts.oct (by rw [← hy.facts.k]; exact h1)
  rcases h with h | h
  · exact h _ hf.1.symm
  · exact h _ hf.2.symm
theorem fin_leaf {s : Str} {x : En} (he : entE (wordsL 32 s) = x) (hw : wordsE x = wordsL 32 s) (hk : 1 ≤ x.k ∧ x.k ≤ 5) : entE (wordsL 32 s) = x ∧ readE s = if rightE x = true then some x else none := by
  refine ⟨he, ?_⟩
  have hl : lineE x = s := by rw [← join_words hk, hw, wordsL_join]
  rw [readE, he]
  by_cases h : rightE x = true
  · rw [if_pos ⟨h, hl⟩, if_pos h]
  · rw [if_neg (fun h2 => h h2.1), if_neg h]
theorem len2 {α : Type} {l : List α} (h : l.length = 2) : ∃ a b, l = [a, b] := by match l, h with | [a, b], _ => exact ⟨a, b, rfl⟩
theorem len3 {α : Type} {l : List α} (h : l.length = 3) : ∃ a b c, l = [a, b, c] := by match l, h with | [a, b, c], _ => exact ⟨a, b, c, rfl⟩
theorem len4 {α : Type} {l : List α} (h : l.length = 4) : ∃ a b c d, l = [a, b, c, d] := by match l, h with | [a, b, c, d], _ => exact ⟨a, b, c, d, rfl⟩
theorem len5 {α : Type} {l : List α} (h : l.length = 5) : ∃ a b c d e, l = [a, b, c, d, e] := by match l, h with | [a, b, c, d, e], _ => exact ⟨a, b, c, d, e, rfl⟩
theorem leaf1 {s : Str} {k : Int} {n : Nat} (hk : kindN ((wordsL 32 s).getD 0 []) = k) (h12 : k = 1 ∨ k = 2) (hl : (wordsL 32 s).length = 4) (hx : hex16 n = (wordsL 32 s).getD 3 []) (hn : n < 18446744073709551616) :
    entE (wordsL 32 s) = ⟨k, (wordsL 32 s).getD 1 [], (wordsL 32 s).getD 2 [], n, [], []⟩ ∧ readE s = if rightE ⟨k, (wordsL 32 s).getD 1 [], (wordsL 32 s).getD 2 [], n, [], []⟩ = true then some ⟨k, (wordsL 32 s).getD 1 [], (wordsL 32 s).getD 2 [], n, [], []⟩ else none := by
  refine fin_leaf ?_ ?_ (show 1 ≤ k ∧ k ≤ 5 by omega)
  · unfold entE; rw [hk, if_pos hl, if_neg (by omega), if_neg (by omega), ← hx, unhex_hex16 hn]
  · have hw : (wordsL 32 s).getD 0 [] = kwAll.getD k.toNat [] := (kind_iff _ (by omega) (by omega)).2 (by rw [hk]; omega)
    obtain ⟨a, b, c, d, e⟩ := len4 hl
    rw [e] at hw hx ⊢
    rcases h12 with rfl | rfl <;> simp [wordsE, kwE, kindsL, kwAll] at hw hx ⊢ <;> exact ⟨hw.symm, hx⟩
theorem leaf3 {s : Str} (hk : kindN ((wordsL 32 s).getD 0 []) = 3) (hl : (wordsL 32 s).length = 3) :
    entE (wordsL 32 s) = ⟨3, (wordsL 32 s).getD 1 [], (wordsL 32 s).getD 2 [], 0, [], []⟩ ∧ readE s = if rightE ⟨3, (wordsL 32 s).getD 1 [], (wordsL 32 s).getD 2 [], 0, [], []⟩ = true then some ⟨3, (wordsL 32 s).getD 1 [], (wordsL 32 s).getD 2 [], 0, [], []⟩ else none := by
  refine fin_leaf ?_ ?_ (show (1 : Int) ≤ 3 ∧ (3 : Int) ≤ 5 by decide)
  · unfold entE; rw [hk, if_neg (by omega), if_neg (by omega), if_neg (by omega)]
  · have hw : (wordsL 32 s).getD 0 [] = kwAll.getD 3 [] := (kind_iff _ (by omega) (by omega)).2 (by rw [hk]; rfl)
    obtain ⟨a, b, c, e⟩ := len3 hl
    rw [e] at hw ⊢
    simp [wordsE, kwE, kindsL, kwAll] at hw ⊢
    exact hw.symm
theorem leaf4 {s : Str} (hk : kindN ((wordsL 32 s).getD 0 []) = 4) (hl : (wordsL 32 s).length = 2) :
    entE (wordsL 32 s) = ⟨4, (wordsL 32 s).getD 1 [], [], 0, [], []⟩ ∧ readE s = if rightE ⟨4, (wordsL 32 s).getD 1 [], [], 0, [], []⟩ = true then some ⟨4, (wordsL 32 s).getD 1 [], [], 0, [], []⟩ else none := by
  refine fin_leaf ?_ ?_ (show (1 : Int) ≤ 4 ∧ (4 : Int) ≤ 5 by decide)
  · have e2 : (wordsL 32 s).getD 2 [] = [] := by simp [List.getD, List.getElem?_eq_none (show (wordsL 32 s).length ≤ 2 by omega)]
    unfold entE; rw [hk, e2, if_neg (by omega), if_neg (by omega), if_neg (by omega)]
  · have hw : (wordsL 32 s).getD 0 [] = kwAll.getD 4 [] := (kind_iff _ (by omega) (by omega)).2 (by rw [hk]; rfl)
    obtain ⟨a, b, e⟩ := len2 hl
    rw [e] at hw ⊢
    simp [wordsE, kwE, kindsL, kwAll] at hw ⊢
    exact hw.symm
theorem leaf5 {s n c : Str} (hk : kindN ((wordsL 32 s).getD 0 []) = 5) (hl : (wordsL 32 s).length = 5) (hn : octetsL n = (wordsL 32 s).getD 3 []) (hc : octetsL c = (wordsL 32 s).getD 4 []) :
    entE (wordsL 32 s) = ⟨5, (wordsL 32 s).getD 1 [], (wordsL 32 s).getD 2 [], 0, c, n⟩ ∧ readE s = if rightE ⟨5, (wordsL 32 s).getD 1 [], (wordsL 32 s).getD 2 [], 0, c, n⟩ = true then some ⟨5, (wordsL 32 s).getD 1 [], (wordsL 32 s).getD 2 [], 0, c, n⟩ else none := by
  refine fin_leaf ?_ ?_ (show (1 : Int) ≤ 5 ∧ (5 : Int) ≤ 5 by decide)
  · unfold entE; rw [hk, if_neg (by omega), if_pos hl, if_pos hl, ← hn, ← hc, unoct_octets, unoct_octets]
  · have hw : (wordsL 32 s).getD 0 [] = kwAll.getD 5 [] := (kind_iff _ (by omega) (by omega)).2 (by rw [hk]; rfl)
    obtain ⟨a, b, c', d, f, e⟩ := len5 hl
    rw [e] at hw hn hc ⊢
    simp [wordsE, kwE, kindsL, kwAll] at hw hn hc ⊢
    exact ⟨hw.symm, hn, hc⟩
theorem unoct_all_no (s : Str) (w : World) (hn : s.length ≤ 100000) (hL : LibM w) (t : Str) (ht : octetsL t = s) : Calls Tryz.prog 107 #[str s] w (Ret fun v w' => v = str t ∧ Ext w w') := by
  subst ht
  by_cases h0 : t = []
  · subst h0; exact unoct_hyphen w
  · have e : octetsL t = octL t := by rw [octetsL, if_neg h0]
    rw [e] at hn ⊢
    exact unoct_yes t w h0 (by have := octL_len t; omega) hL
theorem Strs.keep {lo : Nat} {w w' : World} {v : Value} {xs : List Str} (h : Strs lo w v xs) (k : Keep lo w w') : Strs lo w' v xs := Sl.keep h k
theorem split_calls (s : Str) (w : World) (hs : s.length ≤ 1000000) (hL : LibM w) : Calls Tryz.prog 100 #[str s, str [32]] w (Ret fun v w' => Strs w.heap.size w' v (wordsL 32 s) ∧ Ext w w') := by
  obtain ⟨m, hm⟩ := hL.mx
  refine (Tryz.strings_Split ⟨s.toArray⟩ ⟨#[32]⟩ m w (by simp [ByteArray.size]; omega) hm (by decide)).mono ?_
  rintro e w' ⟨rfl, rfl⟩
  have hw := splitB_words s 32
  have hl := Lib.splitB_all ⟨#[32]⟩ (by decide) 0 _ ⟨s.toArray⟩ rfl
  have hlen : (wordsL 32 s).length = Lib.countB ⟨s.toArray⟩ ⟨#[32]⟩ + 1 := by rw [← hw, List.length_map, hl]
  have hcs : ((Lib.splitB ⟨#[32]⟩ 0 (Lib.countB ⟨s.toArray⟩ ⟨#[32]⟩) ⟨s.toArray⟩).map Value.string) = (wordsL 32 s).map str := by
    rw [← hw, List.map_map]
    rfl
  refine ⟨?_, Keep.alloc _ _ _⟩
  rw [← hlen, hcs]
  refine Strs.of_blk (t := 9) ?_ rfl (by have := words_len 32 s; unfold maxLen; omega) (Nat.le_refl _)
  unfold Blk
  exact heap_alloc_new _ _
theorem idx_kinds (x : Str) : Lib.idxOfS (kindsL.map fun s => (⟨s.toArray⟩ : ByteArray)) ⟨x.toArray⟩ = kindN x - 1 := by
  have hb : ∀ a b : Str, ((⟨a.toArray⟩ : ByteArray) == ⟨b.toArray⟩) = decide (a = b) := bytes_beq
  unfold Lib.idxOfS kindN
  simp only [kindsL, List.map_cons, List.map_nil, Lib.idxFromS, hb]
  by_cases h1 : kwSubmit = x
  · subst h1; simp
  · by_cases h2 : kwRevise = x
    · subst h2; simp [kwSubmit, kwRevise]
    · by_cases h3 : kwWithdraw = x
      · subst h3; simp [kwSubmit, kwRevise, kwWithdraw]
      · by_cases h4 : kwClose = x
        · subst h4; simp [kwSubmit, kwRevise, kwWithdraw, kwClose]
        · by_cases h5 : kwOpen = x
          · subst h5; simp [kwSubmit, kwRevise, kwWithdraw, kwClose, kwOpen]
          · simp [h1, h2, h3, h4, h5, Ne.symm h1, Ne.symm h2, Ne.symm h3, Ne.symm h4, Ne.symm h5, eq_comm]
def KindsP (v : Value) (w : World) : Prop := ∃ b, v = .slice (some ⟨b, 0, none⟩) 5 5 ∧ Blk w b (kindsL.map str) 9
theorem KindsP.st : ∀ v w w', Ext w w' → KindsP v w → KindsP v w' := fun _ _ _ he ⟨b, h1, h2⟩ => ⟨b, h1, h2.ext he⟩
theorem index_calls (v : Value) (x : Str) (w : World) (hv : KindsP v w) : Calls Tryz.prog 102 #[v, str x] w (Ret fun v' w' => v' = .int .i64 (kindN x - 1) ∧ w' = w) := by
  obtain ⟨b, rfl, hb⟩ := hv
  have h := Tryz.slices_Index_string b 0 5 5 (kindsL.map fun s => ⟨s.toArray⟩) ⟨x.toArray⟩ w (by decide) (by decide) (fun j hj => by
    have hj5 : j < kindsL.length := by simpa using hj
    rw [Nat.zero_add, hb.cell (i := j) (v := str (kindsL.getD j [])) (by rw [List.getElem?_map, List.getElem?_eq_getElem hj5]; simp [List.getD, hj5])]
    simp [List.getD, hj5, str])
  rw [show (kindsL.map fun s => (⟨s.toArray⟩ : ByteArray)).take 5 = kindsL.map fun s => (⟨s.toArray⟩ : ByteArray) from rfl, idx_kinds] at h
  exact of_same h
theorem entry2_yes {i : Int} {w : World} (h : 0 ≤ i) : Calls Tryz.prog 103 (#[] ++ [.int .i64 i].toArray ++ #[]) w (Ret fun v w' => v = .bool true ∧ Ext w w') := (entry2_calls i w).mono (by
  intro e w' hq
  cases e with
  | returned v => obtain ⟨rfl, rfl⟩ := hq; exact ⟨by rw [decide_eq_true h], Keep.refl _ _⟩
  | panicked c => exact hq.elim
  | outgrown => exact hq.elim)
theorem entry2_no {i : Int} {w : World} (h : ¬ 0 ≤ i) : Calls Tryz.prog 103 (#[] ++ [.int .i64 i].toArray ++ #[]) w (Ret fun v w' => v = .bool false ∧ Ext w w') := (entry2_calls i w).mono (by
  intro e w' hq
  cases e with
  | returned v => obtain ⟨rfl, rfl⟩ := hq; exact ⟨by rw [decide_eq_false h], Keep.refl _ _⟩
  | panicked c => exact hq.elim
  | outgrown => exact hq.elim)
theorem kinds2_calls (w : World) :
    Calls Tryz.prog 94 #[] w (Ret fun v w' => KindsP v w' ∧ Ext w w') := by
  refine T.enter (vs := []) Tryz.func94 rfl Tryz.ntmps94 rfl ?_
  refine T.seq (T.region (L.op rfl rfl (O.assign rfl (L.nil (T.seq (T.region (L.op rfl rfl (O.buildSlice (el := 9) (parts := [(0, _), (1, _), (2, _), (3, _), (4, _)]) (vs := [(0, _), (1, _), (2, _), (3, _), (4, _)]) (cs := (kindsL.map str)) rfl (fun w => by kernel_rfl) (fun b1 w1 hb1 hz1 he1 hB1 => ?_)))))))))
  refine L.op rfl rfl (O.assign rfl (L.nil (T.ret1 Tryz.results94 rfl ⟨⟨b1, rfl, hB1⟩, he1⟩)))

theorem entry3_calls (lo b5 b2 bm : Nat) (v : Value) (ws : List Str) (x : En) (w : World) (hv : Strs lo w v ws) (h5 : Blk w b5 [.slice (some ⟨bm, 0, none⟩) 5 5] 139) (hm : Blk w bm (manyL.map (Value.int .i64)) 3) (h2 : Blk w b2 x.cells 42) (hk : 1 ≤ x.k ∧ x.k ≤ 5) :
    Calls Tryz.prog 105 #[v, .pointer (some ⟨b5, 0, none⟩), .pointer (some ⟨b2, 0, none⟩)] w (Ret fun v' w' => v' = .bool (decide ((ws.length : Int) = manyN x.k)) ∧ Ext w w') := by
  have hM : Ints .i64 0 w (.slice (some ⟨bm, 0, none⟩) 5 5) manyL := Ints.of_blk hm rfl (by decide) (Nat.zero_le _)
  have hml : manyL.length = 5 := rfl
  refine T.enter (vs := [v, .pointer (some ⟨b5, 0, none⟩), .pointer (some ⟨b2, 0, none⟩)]) Tryz.func105 rfl Tryz.ntmps105 rfl ?_
  refine T.seq (T.region (L.op rfl rfl (O.assign rfl (L.nil (T.seq (T.region (L.op rfl rfl (O.move rfl (L.op rfl rfl (O.len Tryz.runUnderlying77 rfl (Sl.val hv) (L.op rfl rfl (O.load Tryz.isAgg139 rfl (h5.cell rfl) (L.op rfl rfl (O.fieldAddr Tryz.runUnderlying42 rfl Tryz.sizeOf3 rfl (L.op rfl rfl (O.load Tryz.isAgg3 rfl (h2.cell rfl) (L.op rfl rfl (O.sub64 rfl rfl (by omega) (L.op rfl rfl (O.indexAddr Tryz.runUnderlying139 Tryz.sizeOf3 rfl rfl hM (by omega) (by rw [hml]; omega) (L.op rfl rfl (O.load Tryz.isAgg3 rfl (show w.cell? _ = some (.int .i64 (manyN x.k)) from by have h := Sl.at1 (i := (x.k - 1).toNat) (u := .int .i64 (manyN x.k)) hM (by rw [List.getElem?_map, manyN]; simp only [List.getD]; rw [List.getElem?_eq_getElem (show (x.k - 1).toNat < manyL.length by rw [hml]; omega)]; rfl); rw [Int.toNat_natCast] at h; exact h) (L.op rfl rfl (O.eql rfl rfl (L.op rfl rfl (O.assign rfl (L.nil (T.ret1 Tryz.results105 rfl ⟨rfl, Keep.refl _ _⟩))))))))))))))))))))))))))))

theorem entry1_pan (w0 : World) (b2 b3 : Nat) (y : En) (c : Bool) (w : World) (h2 : Blk w b2 y.cells 42) (h3 : Blk w b3 [.bool c] 4) (hne : b2 ≠ b3) (he : Ext w0 w) (hb2 : w0.heap.size ≤ b2) (hb3 : w0.heap.size ≤ b3) :
    CallsDIn (FW none) 0 Tryz.prog 99 #[.pointer (some ⟨b2, 0, none⟩), .pointer (some ⟨b3, 0, none⟩)] (.panicking [{ v := wrongV, recovered := false }]) w (fun e m w' => (∃ x, e = .returned x) ∧ m = .panicking [{ v := wrongV, recovered := true }] ∧ (fun w' => Blk w' b2 e0.cells 42 ∧ Blk w' b3 [.bool false] 4 ∧ Ext w0 w') w') := by
  refine T.enterRec (vs := [.pointer (some ⟨b2, 0, none⟩), .pointer (some ⟨b3, 0, none⟩)]) (r := wrongV) (u := .panicking [{ v := wrongV, recovered := false }]) (u' := .panicking [{ v := wrongV, recovered := true }]) Tryz.func99 rfl Tryz.ntmps99 rfl Tryz.results99 rfl rfl (fun c0 cs hu => .inl (by simp only [recoverD, hu])) (fun Q0 hQ0 => ?_)
  refine T.seq (T.region (L.op rfl rfl (O.move rfl (L.op rfl rfl (O.neq_iface_yes (by kernel_rfl) rfl rfl (L.nil (T.cond_true rfl (T.seq (T.seq (T.region (L.op rfl rfl (O.move rfl (L.op rfl rfl (O.typeAssert (r := .tuple #[.agg #[], .bool true]) rfl (fun w => by kernel_rfl) (L.op rfl rfl (O.move rfl (L.op rfl rfl (O.extract rfl rfl (L.op rfl rfl (O.extract rfl rfl (L.op rfl rfl (O.alloc Tryz.zeroValue133 (fun b7 w7 hb7 hz7 he7 hB7 => ?_)))))))))))))))))))))))
  refine L.op rfl rfl (O.storeAgg Tryz.sizeOf133 rfl rfl rfl hB7 (Nat.le_refl _) (by simp) (fun w4 hu4 hB4 => ?_))
  have hu4 : Upd b7 _ _ := hu4
  have h2b := (h2.ext he7).upd hu4 (by have := h2.lt; omega)
  have h3b := (h3.ext he7).upd hu4 (by have := h3.lt; omega)
  refine L.op rfl rfl (O.assign rfl (L.nil (T.seq (T.region (L.op rfl rfl (O.move rfl (L.op rfl rfl (O.not rfl (L.nil (T.cond_false rfl (T.skip (T.region (L.op rfl rfl (O.build (v := e0.val) (parts := []) (vs := []) rfl (fun w => by kernel_rfl) (L.op rfl rfl (O.storeAgg Tryz.sizeOf42 rfl rfl rfl h2b (Nat.le_refl _) (En.one e0) (fun w5 hu5 hB5 => ?_)))))))))))))))))
  have hu5 : Upd b2 _ _ := hu5
  have h2c : Blk w5 b2 e0.cells 42 := hB5
  refine L.op rfl rfl (O.store1 Tryz.sizeOf4 rfl rfl rfl (h3b.upd hu5 hne.symm) (by simp) (fun w6 hu6 hB6 => ?_))
  have hu6 : Upd b3 _ _ := hu6
  refine L.nil (T.end_any (fun a0 ha0 => hQ0 a0 _ ha0.defers ⟨h2c.upd hu6 hne, hB6, (((he.trans he7).upd hu4 (.inr (by have := he.size; omega))).upd hu5 (.inr hb2)).upd hu6 (.inr hb3)⟩))

theorem entry1_ret (b2 b3 : Nat) (w : World) :
    CallsDIn (FW none) 0 Tryz.prog 99 #[.pointer (some ⟨b2, 0, none⟩), .pointer (some ⟨b3, 0, none⟩)] (.returning) w (fun e m w' => (∃ x, e = .returned x) ∧ m = .returning ∧ (fun w' => w' = w) w') := by
  refine T.enterRec (vs := [.pointer (some ⟨b2, 0, none⟩), .pointer (some ⟨b3, 0, none⟩)]) (r := .nilIface) (u := .returning) (u' := .returning) Tryz.func99 rfl Tryz.ntmps99 rfl Tryz.results99 rfl rfl (fun c0 cs hu => .inr ⟨by simp only [recoverD, hu], rfl, rfl⟩) (fun Q0 hQ0 => ?_)
  refine T.seq (T.region (L.op rfl rfl (O.move rfl (L.op rfl rfl (O.neq_iface_no (by kernel_rfl) rfl (L.nil (T.cond_false rfl (T.skip (T.end_any (fun a0 ha0 => hQ0 a0 _ ha0.defers rfl))))))))))

theorem entry_results (a : Act) (w : World) (b2 b3 : Nat) (x : En) (b : Bool) (h2 : a.tmps[2]? = some (.pointer (some ⟨b2, 0, none⟩))) (h3 : a.tmps[3]? = some (.pointer (some ⟨b3, 0, none⟩))) (hB2 : Blk w b2 x.cells 42) (hB3 : Blk w b3 [.bool b] 4) :
    (results Tryz.f60 a.tmps).run Tryz.prog w = .ok (.tuple #[x.val, .bool b]) w := by
  have hc : w.cell? ⟨b3, 0, none⟩ = some (.bool b) := hB3.cell rfl
  have hr := run_loadCells_list (P := Tryz.prog) w ⟨b2, 0, none⟩ x.cells hB2.row
  have hl : x.cells.length = 6 := rfl
  rw [hl] at hr
  simp [results, Tryz.results60, Array.getD_eq_getD_getElem?, h2, h3, loadVar, asAddr, Tryz.isAgg42, Tryz.sizeOf42, Tryz.isAgg4, hr, hc]
  rfl
abbrev dfr (b2 b3 : Nat) : Deferred := { target := .fn (.func 99) #[.pointer (some ⟨b2, 0, none⟩), .pointer (some ⟨b3, 0, none⟩)], args := #[] }
theorem pan_leaf {R : Value → World → Prop} {n : Nat} {e : Env} {b2 b3 : Nat} {w0 w' : World} {y : En} {c : Bool} {a : Act} (ha : Fits (fnCxD Tryz.prog Tryz.f60 n [dfr b2 b3] R) e a) (e2 : E.look e 2 = some (.pointer (some ⟨b2, 0, none⟩))) (e3 : E.look e 3 = some (.pointer (some ⟨b3, 0, none⟩))) (hne : b2 ≠ b3)
    (h2 : Blk w' b2 y.cells 42) (h3 : Blk w' b3 [.bool c] 4) (he : Ext w0 w') (hb2 : w0.heap.size ≤ b2) (hb3 : w0.heap.size ≤ b3) (hR : ∀ w'', Ext w0 w'' → R (.tuple #[e0.val, .bool false]) w'') : (fnCxD Tryz.prog Tryz.f60 n [dfr b2 b3] R).Q (.panic [{ v := wrongV, recovered := false }]) a w' := by
  show LeavesIn _ _ _ _ _ _ a.defers _ _
  rw [ha.defers]
  exact leaves_one (u := .panicking [{ v := wrongV, recovered := false }]) (u' := .panicking [{ v := wrongV, recovered := true }]) (by simp) Tryz.call99 (entry1_pan w0 b2 b3 y c w' h2 h3 hne he hb2 hb3) rfl (fun w'' ⟨q2, q3, qe⟩ => ⟨entry_results a w'' b2 b3 e0 false (ha.sat.get 2 _ e2) (ha.sat.get 3 _ e3) q2 q3, hR w'' qe⟩)
theorem ret_leaf {R : Value → World → Prop} {n : Nat} {e : Env} {b2 b3 : Nat} {w' : World} {y : En} {c : Bool} {a : Act} (ha : Fits (fnCxD Tryz.prog Tryz.f60 n [dfr b2 b3] R) e a) (e2 : E.look e 2 = some (.pointer (some ⟨b2, 0, none⟩))) (e3 : E.look e 3 = some (.pointer (some ⟨b3, 0, none⟩)))
    (h2 : Blk w' b2 y.cells 42) (h3 : Blk w' b3 [.bool c] 4) (hR : R (.tuple #[y.val, .bool c]) w') : (fnCxD Tryz.prog Tryz.f60 n [dfr b2 b3] R).Q .ret a w' := by
  show LeavesIn _ _ _ _ _ _ a.defers _ _
  rw [ha.defers]
  exact leaves_one (u := .returning) (u' := .returning) (by simp) Tryz.call99 (entry1_ret b2 b3 w') rfl (fun w'' hw => by subst hw; exact ⟨entry_results a w'' b2 b3 y c (ha.sat.get 2 _ e2) (ha.sat.get 3 _ e3) h2 h3, hR⟩)
/-- What entry gives. -/
def EntP (s : Str) (w : World) (v : Value) (w' : World) : Prop := (∀ x, readE s = some x → v = .tuple #[x.val, .bool true]) ∧ (readE s = none → v = .tuple #[e0.val, .bool false]) ∧ Ext w w'
theorem EntP.no {s : Str} {w : World} (h : readE s = none) : ∀ w', Ext w w' → EntP s w (.tuple #[e0.val, .bool false]) w' := fun w' he => ⟨fun x hx => (by rw [h] at hx; cases hx), fun _ => rfl, he⟩
theorem EntP.yes {s : Str} {w w' : World} {x : En} (h : readE s = some x) (he : Ext w w') : EntP s w (.tuple #[x.val, .bool true]) w' := ⟨fun y hy => (by rw [h] at hy; cases hy; rfl), fun h2 => (by rw [h] at h2; cases h2), he⟩
set_option maxHeartbeats 8000000 in
theorem entry_calls (s : Str) (w : World) (hn : s.length ≤ 100000) (hL : LibM w) :
    Calls Tryz.prog 60 #[str s] w (Ret fun v w' => EntP s w v w') := by
  refine T.enterD (vs := [str s]) Tryz.func60 rfl Tryz.ntmps60 rfl ?_
  refine T.seq (T.region (L.op rfl rfl (O.alloc Tryz.zeroValue42 (fun b2 w2 hb2 hz2 he2 hB2 => ?_))))
  refine L.op rfl rfl (O.alloc Tryz.zeroValue4 (fun b3 w3 hb3 hz3 he3 hB3 => ?_))
  have hA3 : Blk w3 b2 (kEn 0).cells 42 := hB2.ext he3
  have hC3 : Blk w3 b3 [.bool false] 4 := hB3
  have hbw : w.heap.size ≤ b2 ∧ w.heap.size ≤ b3 ∧ b2 ≠ b3 ∧ b3 < w3.heap.size ∧ b2 < w3.heap.size := by omega
  obtain ⟨hb2, hb3, hne, hb3z, hb2z⟩ := hbw
  have he03 := he2.trans he3
  refine L.nil (T.seq (T.region (L.op rfl rfl (O.makeFunc (fi := []) (ca := [.tmp 2, .tmp 3]) rfl rfl (L.defer rfl rfl (L.nil (T.seq (T.region (L.op rfl rfl (O.move rfl (L.op rfl rfl (O.call (xs := [.tmp 7, _]) Tryz.call100 rfl rfl (split_calls s w3 (by omega) (hL.ext he03)) (fun v4 w4 hq => ?_)))))))))))))
  obtain ⟨hS4, he4⟩ := hq
  have hwl := words_len 32 s
  have hwp : 1 ≤ (wordsL 32 s).length := List.length_pos_iff.2 (wordsL_ne _ _)
  have hwd : ∀ i, ((wordsL 32 s).getD i []).length ≤ 1000000 := fun i => by
    by_cases hi : i < (wordsL 32 s).length
    · have := word_len 32 s _ (List.getElem_mem hi); rw [getD_get hi]; omega
    · simp [List.getD, List.getElem?_eq_none (by omega : (wordsL 32 s).length ≤ i)]
  have hwok : ∀ u ∈ wordsL 32 s, u.length ≤ 1000000 := fun u hu => by have := word_len 32 s u hu; omega
  have hwd2 : ∀ i, ((wordsL 32 s).getD i []).length ≤ 100000 := fun i => by
    by_cases hi : i < (wordsL 32 s).length
    · have := word_len 32 s _ (List.getElem_mem hi); rw [getD_get hi]; omega
    · simp [List.getD, List.getElem?_eq_none (by omega : (wordsL 32 s).length ≤ i)]
  have hK4 : Keep w3.heap.size w4 w4 := Keep.refl _ _
  have hA4 := hA3.ext he4
  have hC4 := hC3.ext he4
  have he04 := he03.trans he4
  refine L.op rfl rfl (O.assign rfl (L.nil (T.seq (?_))))
  refine T.anyE mixed 4 [4] rfl [.such KindsP, .is _, .is _, .is _] [[], [], [1], [2]] [[], [], [1], [1, 2], [0, 1, 2, 3], [0, 1, 2, 3, 4], [0, 1, 2, 3, 4, 5], [0, 1, 2, 3, 4, 5, 6], [0, 1, 2, 3, 4, 5, 6, 7]] (by kernel_rfl) (by kernel_rfl) rfl (by kernel_rfl) ⟨KindsP.st, trivial⟩ ⟨fun wx hx => Ob.op rfl (O.call (xs := []) Tryz.call94 rfl rfl (kinds2_calls wx) (fun v wy h => ⟨h.2, h.1⟩)),
      fun wx hx => Ob.op rfl (O.move rfl ⟨Keep.refl _ _, rfl⟩),
      fun wx hx => Ob.op rfl (O.indexAddr Tryz.runUnderlying77 Tryz.sizeOf9 rfl rfl (hS4.ext hx) (by omega) (by omega) ⟨Keep.refl _ _, rfl⟩),
      fun wx hx => Ob.op rfl (O.load Tryz.isAgg9 rfl (Strs.at (i := 0) (hS4.ext hx) (by omega)) ⟨Keep.refl _ _, rfl⟩),
      trivial⟩ (fun w5 he5 v9 hv9 => ?_)
  have hK5 := hK4.trans (he5.mono (Nat.zero_le _))
  have hA5 := hA4.ext he5
  have hC5 := hC4.ext he5
  have he05 := he04.trans he5
  refine L.op rfl rfl (O.call (xs := [.tmp 9, .tmp 12]) Tryz.call102 rfl rfl (index_calls v9 ((wordsL 32 s).getD 0 []) w5 hv9) (fun v51 w51 hq => ?_))
  obtain ⟨rfl, rfl⟩ := hq
  have hkr := kind_range ((wordsL 32 s).getD 0 [])
  obtain ⟨k, hk⟩ : ∃ k, kindN ((wordsL 32 s).getD 0 []) = k := ⟨_, rfl⟩
  rw [hk] at hkr
  rw [hk]
  rcases Classical.em (k = 0) with h0 | h0
  · refine L.callPan (xs := [.tmp 13, .func 103]) rfl Tryz.call101 rfl rfl (needInt_no (k - 1) 103 #[] w51 Tryz.call103 (entry2_no (by omega))) (fun w' a hR ha => pan_leaf ha rfl rfl hne (hA5.ext hR) (hC5.ext hR) (he05.trans hR) hb2 hb3 (EntP.no (none_kind (by rw [hk]; exact h0))))
  · refine L.op rfl rfl (O.call (xs := [.tmp 13, .func 103]) Tryz.call101 rfl rfl (needInt_yes (k - 1) 103 #[] w51 Tryz.call103 (entry2_yes (by omega))) (fun v6 w6 hq => ?_))
    obtain ⟨rfl, he6⟩ := hq
    have hK6 := hK5.trans (he6.mono (Nat.zero_le _))
    have hA6 := hA5.ext he6
    have hC6 := hC5.ext he6
    have he06 := he05.trans he6
    refine L.op rfl rfl (O.add64 rfl rfl (by omega) (?_))
    have ek : 1 + (k - 1) = k := by omega
    rw [ek]
    refine L.op rfl rfl (O.fieldAddr Tryz.runUnderlying42 rfl Tryz.sizeOf3 rfl (L.op rfl rfl (O.store1 Tryz.sizeOf3 rfl rfl rfl hA6 (by simp [En.cells]) (fun w7 hu7 hB7 => ?_))))
    have hu7 : Upd b2 _ _ := hu7
    have hA7 : Blk w7 b2 (kEn k).cells 42 := hB7
    have hC7 := hC6.upd hu7 hne.symm
    have hK7 := hK6.upd hu7 (.inl hb2z)
    have he07 := he06.upd hu7 (.inr hb2)
    refine L.nil (T.seq (T.region (L.op rfl rfl (O.buildSlice (el := 3) (parts := [(0, .const (.int .i64 4)), (1, .const (.int .i64 4)), (2, .const (.int .i64 3)), (3, .const (.int .i64 2)), (4, .const (.int .i64 5))]) (vs := [(0, _), (1, _), (2, _), (3, _), (4, _)]) (cs := (manyL.map (Value.int .i64))) rfl (fun w => by kernel_rfl) (fun b8 w8 hb8 hz8 he8 hB8 => ?_)))))
    have hK8 := hK7.trans (he8.mono (Nat.zero_le _))
    have hA8 := hA7.ext he8
    have hC8 := hC7.ext he8
    have he08 := he07.trans he8
    have hM8 : Blk w8 b8 (manyL.map (Value.int .i64)) 3 := hB8
    refine L.op rfl rfl (O.alloc Tryz.zeroValue139 (fun b9 w9 hb9 hz9 he9 hB9 => ?_))
    have hK9 := hK8.trans (he9.mono (Nat.zero_le _))
    have hA9 := hA8.ext he9
    have hC9 := hC8.ext he9
    have he09 := he08.trans he9
    refine L.op rfl rfl (O.store1 Tryz.sizeOf139 rfl rfl rfl hB9 (by simp [Value.cells]) (fun w10 hu10 hB10 => ?_))
    have hu10 : Upd b9 _ _ := hu10
    have hq10 : Blk w10 b9 [.slice (some ⟨b8, 0, none⟩) 5 5] 139 := hB10
    have hb89 : b8 < b9 := by have := hM8.lt; omega
    have hM10 := (hM8.ext he9).upd hu10 (by omega)
    have hb9 : w8.heap.size = b9 := by omega
    have he810 : Ext w8 w10 := he9.upd hu10 (.inr (by omega))
    have hK10 := hK8.trans (he810.mono (Nat.zero_le _))
    have hA10 := hA8.ext he810
    have hC10 := hC8.ext he810
    have he010 := he08.trans he810
    have hE3 := entry3_calls w3.heap.size b9 b2 b8 v4 (wordsL 32 s) (kEn k) w10 (hS4.keep hK10) hq10 hM10 hA10 (show 1 ≤ k ∧ k ≤ 5 by omega)
    rcases Classical.em (((wordsL 32 s).length : Int) = manyN k) with hlen | hlen
    · refine L.nil (T.seq (T.region (L.op rfl rfl (O.move rfl (L.op rfl rfl (O.makeFunc (fi := []) (ca := [.tmp 5, .tmp 2]) rfl rfl (L.op rfl rfl (O.call (xs := [.tmp 18, .tmp 19]) Tryz.call104 rfl rfl (needStrs_yes v4 105 #[.pointer (some ⟨b9, 0, none⟩), .pointer (some ⟨b2, 0, none⟩)] w10 Tryz.call105 (by rw [show (kEn k).k = k from rfl, decide_eq_true hlen] at hE3; exact hE3)) (fun v11 w11 hq => ?_)))))))))
      obtain ⟨rfl, he11⟩ := hq
      have hK11 := hK10.trans (he11.mono (Nat.zero_le _))
      have hA11 := hA10.ext he11
      have hC11 := hC10.ext he11
      have he011 := he010.trans he11
      have hS11 := hS4.keep hK11
      have hmany : (k = 1 → (wordsL 32 s).length = 4) ∧ (k = 2 → (wordsL 32 s).length = 4) ∧ (k = 3 → (wordsL 32 s).length = 3) ∧ (k = 4 → (wordsL 32 s).length = 2) ∧ (k = 5 → (wordsL 32 s).length = 5) := by
        refine ⟨?_, ?_, ?_, ?_, ?_⟩ <;> (intro e; rw [e] at hlen; simp [manyN, manyL] at hlen; omega)
      rcases (show (k = 1 ∨ k = 2) ∨ k = 3 ∨ k = 4 ∨ k = 5 by omega) with h12 | h3 | h4 | h5
      · refine L.nil (?_)
        have hl : (wordsL 32 s).length = 4 := by have := hmany; omega
        refine T.seq (T.region (L.op rfl rfl (O.move rfl (L.op rfl rfl (O.indexAddr Tryz.runUnderlying77 Tryz.sizeOf9 rfl rfl (hS4.keep hK11) (by omega) (by omega) (L.op rfl rfl (O.load Tryz.isAgg9 rfl (Strs.at (i := 1) (hS4.keep hK11) (by omega)) (L.op rfl rfl (O.fieldAddr Tryz.runUnderlying42 rfl Tryz.sizeOf9 rfl (L.op rfl rfl (O.store1 Tryz.sizeOf9 rfl rfl rfl hA11 (by simp [En.cells]) (fun w12 hu12 hB12 => ?_))))))))))))
        have hu12 : Upd b2 _ _ := hu12
        have hA12 : Blk w12 b2 (⟨k, ((wordsL 32 s).getD 1 []), [], 0, [], []⟩ : En).cells 42 := hB12
        have hC12 := hC11.upd hu12 hne.symm
        have hK12 := hK11.upd hu12 (.inl hb2z)
        have he012 := he011.upd hu12 (.inr hb2)
        refine L.nil (T.seq (T.seq (T.region (L.op rfl rfl (O.move rfl (L.op rfl rfl (O.len Tryz.runUnderlying77 rfl (Sl.val (hS4.keep hK12)) (L.op rfl rfl (O.gtr_t rfl rfl (by omega) (L.nil (T.cond_true rfl (T.region (L.op rfl rfl (O.move rfl (L.op rfl rfl (O.indexAddr Tryz.runUnderlying77 Tryz.sizeOf9 rfl rfl (hS4.keep hK12) (by omega) (by omega) (L.op rfl rfl (O.load Tryz.isAgg9 rfl (Strs.at (i := 2) (hS4.keep hK12) (by omega)) (L.op rfl rfl (O.fieldAddr Tryz.runUnderlying42 rfl Tryz.sizeOf9 rfl (L.op rfl rfl (O.store1 Tryz.sizeOf9 rfl rfl rfl hA12 (by simp [En.cells]) (fun w13 hu13 hB13 => ?_)))))))))))))))))))))))
        have hu13 : Upd b2 _ _ := hu13
        have hA13 : Blk w13 b2 (⟨k, ((wordsL 32 s).getD 1 []), ((wordsL 32 s).getD 2 []), 0, [], []⟩ : En).cells 42 := hB13
        have hC13 := hC12.upd hu13 hne.symm
        have hK13 := hK12.upd hu13 (.inl hb2z)
        have he013 := he012.upd hu13 (.inr hb2)
        refine L.nil (T.seq (T.seq (T.region (L.op rfl rfl (O.move rfl (L.op rfl rfl (O.len Tryz.runUnderlying77 rfl (Sl.val (hS4.keep hK13)) (L.nil (T.block (T.seq (T.region (L.op rfl rfl (O.eql_t rfl rfl (by omega) (?_))))))))))))))
        rcases Classical.em (∃ m, m < 18446744073709551616 ∧ hex16 m = (wordsL 32 s).getD 3 []) with ⟨m, hm, hx⟩ | hno
        · refine L.op rfl rfl (O.assign rfl (L.nil (T.cond_true rfl (T.region (L.op rfl rfl (O.move rfl (L.op rfl rfl (O.indexAddr Tryz.runUnderlying77 Tryz.sizeOf9 rfl rfl (hS4.keep hK13) (by omega) (by omega) (L.op rfl rfl (O.load Tryz.isAgg9 rfl (show w13.cell? _ = some (str (hex16 m)) from by rw [hx]; exact Strs.at (i := 3) (hS4.keep hK13) (by omega)) (L.op rfl rfl (O.call (xs := [.tmp 38]) Tryz.call106 rfl rfl (unhex_yes m w13 hm (hL.ext he013)) (fun v14 w14 hq => ?_)))))))))))))
          obtain ⟨rfl, he14⟩ := hq
          have hK14 := hK13.trans (he14.mono (Nat.zero_le _))
          have hA14 := hA13.ext he14
          have hC14 := hC13.ext he14
          have he014 := he013.trans he14
          refine L.op rfl rfl (O.fieldAddr Tryz.runUnderlying42 rfl Tryz.sizeOf25 rfl (L.op rfl rfl (O.store1 Tryz.sizeOf25 rfl rfl rfl hA14 (by simp [En.cells]) (fun w15 hu15 hB15 => ?_))))
          have hu15 : Upd b2 _ _ := hu15
          have hA15 : Blk w15 b2 (⟨k, ((wordsL 32 s).getD 1 []), ((wordsL 32 s).getD 2 []), m, [], []⟩ : En).cells 42 := hB15
          have hC15 := hC14.upd hu15 hne.symm
          have hK15 := hK14.upd hu15 (.inl hb2z)
          have he015 := he014.upd hu15 (.inr hb2)
          have hlf := leaf1 hk h12 hl hx hm
          obtain ⟨x, hxx⟩ : ∃ x, x = (⟨k, ((wordsL 32 s).getD 1 []), ((wordsL 32 s).getD 2 []), m, [], []⟩ : En) := ⟨_, rfl⟩
          rw [← hxx] at hlf hA15
          have hxo : x.ok := by rw [← hlf.1]; exact ent_ok hwok
          replace hlf := hlf.2
          rcases hr : rightE x with _ | _
          · refine L.nil (?_)
            rw [hr, if_neg (by decide)] at hlf
            refine T.blk (T.seq (T.region (L.op rfl rfl (O.loadAgg Tryz.isAgg42 Tryz.sizeOf42 rfl rfl hA15.row (L.callPan (xs := [.tmp 53, .func 51]) rfl Tryz.call108 rfl rfl (needEn_no x w15 hxo hr) (fun w' a hR ha => pan_leaf ha rfl rfl hne (hA15.ext hR) (hC15.ext hR) (he015.trans hR) hb2 hb3 (EntP.no hlf)))))))
          · refine L.nil (?_)
            rw [hr, if_pos rfl] at hlf
            refine T.blk (T.seq (T.region (L.op rfl rfl (O.loadAgg Tryz.isAgg42 Tryz.sizeOf42 rfl rfl hA15.row (L.op rfl rfl (O.call (xs := [.tmp 53, .func 51]) Tryz.call108 rfl rfl (needEn_yes x w15 hxo hr) (fun v20 w20 hq => ?_)))))))
            obtain ⟨rfl, he20⟩ := hq
            have hK20 := hK15.trans (he20.mono (Nat.zero_le _))
            have hA20 := hA15.ext he20
            have hC20 := hC15.ext he20
            have he020 := he015.trans he20
            refine L.nil (T.seq (T.region (L.op rfl rfl (O.loadAgg Tryz.isAgg42 Tryz.sizeOf42 rfl rfl hA20.row (L.op rfl rfl (O.storeAgg Tryz.sizeOf42 rfl rfl rfl hA20 (Nat.le_refl _) (En.one _) (fun w21 hu21 hB21 => ?_)))))))
            have hu21 : Upd b2 _ _ := hu21
            have hA21 : Blk w21 b2 x.cells 42 := hB21
            have hC21 := hC20.upd hu21 hne.symm
            have hK21 := hK20.upd hu21 (.inl hb2z)
            have he021 := he020.upd hu21 (.inr hb2)
            refine L.op rfl rfl (O.store1 Tryz.sizeOf4 rfl rfl rfl hC21 (by simp) (fun w22 hu22 hB22 => ?_))
            have hu22 : Upd b3 _ _ := hu22
            refine L.nil (T.ret (fun a ha => ret_leaf ha rfl rfl (hA21.upd hu22 hne) (show Blk w22 b3 [.bool true] _ from hB22) (EntP.yes hlf (he021.upd hu22 (.inr hb3)))))
        · refine L.op rfl rfl (O.assign rfl (L.nil (T.cond_true rfl (T.region (L.op rfl rfl (O.move rfl (L.op rfl rfl (O.indexAddr Tryz.runUnderlying77 Tryz.sizeOf9 rfl rfl (hS4.keep hK13) (by omega) (by omega) (L.op rfl rfl (O.load Tryz.isAgg9 rfl (Strs.at (i := 3) (hS4.keep hK13) (by omega)) (L.callPan (xs := [.tmp 38]) rfl Tryz.call106 rfl rfl (unhex_no ((wordsL 32 s).getD 3 []) w13 (fun m hm e => hno ⟨m, hm, e⟩) (hwd 3) (hL.ext he013)) (fun w' a hR ha => pan_leaf ha rfl rfl hne (hA13.ext hR) (hC13.ext hR) (he013.trans hR) hb2 hb3 (EntP.no (none_hex (by rw [hk]; exact h12) (fun m hm e => hno ⟨m, hm, e⟩)))))))))))))))
      · refine L.nil (?_)
        have hl : (wordsL 32 s).length = 3 := by have := hmany; omega
        subst h3
        refine T.seq (T.region (L.op rfl rfl (O.move rfl (L.op rfl rfl (O.indexAddr Tryz.runUnderlying77 Tryz.sizeOf9 rfl rfl (hS4.keep hK11) (by omega) (by omega) (L.op rfl rfl (O.load Tryz.isAgg9 rfl (Strs.at (i := 1) (hS4.keep hK11) (by omega)) (L.op rfl rfl (O.fieldAddr Tryz.runUnderlying42 rfl Tryz.sizeOf9 rfl (L.op rfl rfl (O.store1 Tryz.sizeOf9 rfl rfl rfl hA11 (by simp [En.cells]) (fun w12 hu12 hB12 => ?_))))))))))))
        have hu12 : Upd b2 _ _ := hu12
        have hA12 : Blk w12 b2 (⟨3, ((wordsL 32 s).getD 1 []), [], 0, [], []⟩ : En).cells 42 := hB12
        have hC12 := hC11.upd hu12 hne.symm
        have hK12 := hK11.upd hu12 (.inl hb2z)
        have he012 := he011.upd hu12 (.inr hb2)
        refine L.nil (T.seq (T.seq (T.region (L.op rfl rfl (O.move rfl (L.op rfl rfl (O.len Tryz.runUnderlying77 rfl (Sl.val (hS4.keep hK12)) (L.op rfl rfl (O.gtr_t rfl rfl (by omega) (L.nil (T.cond_true rfl (T.region (L.op rfl rfl (O.move rfl (L.op rfl rfl (O.indexAddr Tryz.runUnderlying77 Tryz.sizeOf9 rfl rfl (hS4.keep hK12) (by omega) (by omega) (L.op rfl rfl (O.load Tryz.isAgg9 rfl (Strs.at (i := 2) (hS4.keep hK12) (by omega)) (L.op rfl rfl (O.fieldAddr Tryz.runUnderlying42 rfl Tryz.sizeOf9 rfl (L.op rfl rfl (O.store1 Tryz.sizeOf9 rfl rfl rfl hA12 (by simp [En.cells]) (fun w13 hu13 hB13 => ?_)))))))))))))))))))))))
        have hu13 : Upd b2 _ _ := hu13
        have hA13 : Blk w13 b2 (⟨3, ((wordsL 32 s).getD 1 []), ((wordsL 32 s).getD 2 []), 0, [], []⟩ : En).cells 42 := hB13
        have hC13 := hC12.upd hu13 hne.symm
        have hK13 := hK12.upd hu13 (.inl hb2z)
        have he013 := he012.upd hu13 (.inr hb2)
        refine L.nil (T.seq (T.seq (T.region (L.op rfl rfl (O.move rfl (L.op rfl rfl (O.len Tryz.runUnderlying77 rfl (Sl.val (hS4.keep hK13)) (L.nil (T.block (T.seq (T.region (L.op rfl rfl (O.eql_f rfl rfl (by omega) (L.op rfl rfl (O.assign rfl (L.nil (T.cond_false rfl (T.seq (T.region (L.op rfl rfl (O.eql_f rfl rfl (by omega) (?_))))))))))))))))))))))
        have hlf := leaf3 hk hl
        obtain ⟨x, hxx⟩ : ∃ x, x = (⟨3, ((wordsL 32 s).getD 1 []), ((wordsL 32 s).getD 2 []), 0, [], []⟩ : En) := ⟨_, rfl⟩
        rw [← hxx] at hlf hA13
        have hxo : x.ok := by rw [← hlf.1]; exact ent_ok hwok
        replace hlf := hlf.2
        rcases hr : rightE x with _ | _
        · rw [hr, if_neg (by decide)] at hlf
          refine L.op rfl rfl (O.assign rfl (L.nil (T.cond_false rfl (T.skip (T.blk (T.seq (T.region (L.op rfl rfl (O.loadAgg Tryz.isAgg42 Tryz.sizeOf42 rfl rfl hA13.row (L.callPan (xs := [.tmp 53, .func 51]) rfl Tryz.call108 rfl rfl (needEn_no x w13 hxo hr) (fun w' a hR ha => pan_leaf ha rfl rfl hne (hA13.ext hR) (hC13.ext hR) (he013.trans hR) hb2 hb3 (EntP.no hlf))))))))))))
        · rw [hr, if_pos rfl] at hlf
          refine L.op rfl rfl (O.assign rfl (L.nil (T.cond_false rfl (T.skip (T.blk (T.seq (T.region (L.op rfl rfl (O.loadAgg Tryz.isAgg42 Tryz.sizeOf42 rfl rfl hA13.row (L.op rfl rfl (O.call (xs := [.tmp 53, .func 51]) Tryz.call108 rfl rfl (needEn_yes x w13 hxo hr) (fun v20 w20 hq => ?_))))))))))))
          obtain ⟨rfl, he20⟩ := hq
          have hK20 := hK13.trans (he20.mono (Nat.zero_le _))
          have hA20 := hA13.ext he20
          have hC20 := hC13.ext he20
          have he020 := he013.trans he20
          refine L.nil (T.seq (T.region (L.op rfl rfl (O.loadAgg Tryz.isAgg42 Tryz.sizeOf42 rfl rfl hA20.row (L.op rfl rfl (O.storeAgg Tryz.sizeOf42 rfl rfl rfl hA20 (Nat.le_refl _) (En.one _) (fun w21 hu21 hB21 => ?_)))))))
          have hu21 : Upd b2 _ _ := hu21
          have hA21 : Blk w21 b2 x.cells 42 := hB21
          have hC21 := hC20.upd hu21 hne.symm
          have hK21 := hK20.upd hu21 (.inl hb2z)
          have he021 := he020.upd hu21 (.inr hb2)
          refine L.op rfl rfl (O.store1 Tryz.sizeOf4 rfl rfl rfl hC21 (by simp) (fun w22 hu22 hB22 => ?_))
          have hu22 : Upd b3 _ _ := hu22
          refine L.nil (T.ret (fun a ha => ret_leaf ha rfl rfl (hA21.upd hu22 hne) (show Blk w22 b3 [.bool true] _ from hB22) (EntP.yes hlf (he021.upd hu22 (.inr hb3)))))
      · refine L.nil (?_)
        have hl : (wordsL 32 s).length = 2 := by have := hmany; omega
        subst h4
        refine T.seq (T.region (L.op rfl rfl (O.move rfl (L.op rfl rfl (O.indexAddr Tryz.runUnderlying77 Tryz.sizeOf9 rfl rfl (hS4.keep hK11) (by omega) (by omega) (L.op rfl rfl (O.load Tryz.isAgg9 rfl (Strs.at (i := 1) (hS4.keep hK11) (by omega)) (L.op rfl rfl (O.fieldAddr Tryz.runUnderlying42 rfl Tryz.sizeOf9 rfl (L.op rfl rfl (O.store1 Tryz.sizeOf9 rfl rfl rfl hA11 (by simp [En.cells]) (fun w12 hu12 hB12 => ?_))))))))))))
        have hu12 : Upd b2 _ _ := hu12
        have hA12 : Blk w12 b2 (⟨4, ((wordsL 32 s).getD 1 []), [], 0, [], []⟩ : En).cells 42 := hB12
        have hC12 := hC11.upd hu12 hne.symm
        have hK12 := hK11.upd hu12 (.inl hb2z)
        have he012 := he011.upd hu12 (.inr hb2)
        refine L.nil (T.seq (T.seq (T.region (L.op rfl rfl (O.move rfl (L.op rfl rfl (O.len Tryz.runUnderlying77 rfl (Sl.val (hS4.keep hK12)) (L.op rfl rfl (O.gtr_f rfl rfl (by omega) (L.nil (T.cond_false rfl (T.skip (T.seq (T.seq (T.region (L.op rfl rfl (O.move rfl (L.op rfl rfl (O.len Tryz.runUnderlying77 rfl (Sl.val (hS4.keep hK12)) (L.nil (T.block (T.seq (T.region (L.op rfl rfl (O.eql_f rfl rfl (by omega) (L.op rfl rfl (O.assign rfl (L.nil (T.cond_false rfl (T.seq (?_)))))))))))))))))))))))))))))))
        refine T.region (L.op rfl rfl (O.eql_f rfl rfl (by omega) (?_)))
        have hlf := leaf4 hk hl
        obtain ⟨x, hxx⟩ : ∃ x, x = (⟨4, ((wordsL 32 s).getD 1 []), [], 0, [], []⟩ : En) := ⟨_, rfl⟩
        rw [← hxx] at hlf hA12
        have hxo : x.ok := by rw [← hlf.1]; exact ent_ok hwok
        replace hlf := hlf.2
        rcases hr : rightE x with _ | _
        · rw [hr, if_neg (by decide)] at hlf
          refine L.op rfl rfl (O.assign rfl (L.nil (T.cond_false rfl (T.skip (T.blk (T.seq (T.region (L.op rfl rfl (O.loadAgg Tryz.isAgg42 Tryz.sizeOf42 rfl rfl hA12.row (L.callPan (xs := [.tmp 53, .func 51]) rfl Tryz.call108 rfl rfl (needEn_no x w12 hxo hr) (fun w' a hR ha => pan_leaf ha rfl rfl hne (hA12.ext hR) (hC12.ext hR) (he012.trans hR) hb2 hb3 (EntP.no hlf))))))))))))
        · rw [hr, if_pos rfl] at hlf
          refine L.op rfl rfl (O.assign rfl (L.nil (T.cond_false rfl (T.skip (T.blk (T.seq (T.region (L.op rfl rfl (O.loadAgg Tryz.isAgg42 Tryz.sizeOf42 rfl rfl hA12.row (L.op rfl rfl (O.call (xs := [.tmp 53, .func 51]) Tryz.call108 rfl rfl (needEn_yes x w12 hxo hr) (fun v20 w20 hq => ?_))))))))))))
          obtain ⟨rfl, he20⟩ := hq
          have hK20 := hK12.trans (he20.mono (Nat.zero_le _))
          have hA20 := hA12.ext he20
          have hC20 := hC12.ext he20
          have he020 := he012.trans he20
          refine L.nil (T.seq (T.region (L.op rfl rfl (O.loadAgg Tryz.isAgg42 Tryz.sizeOf42 rfl rfl hA20.row (L.op rfl rfl (O.storeAgg Tryz.sizeOf42 rfl rfl rfl hA20 (Nat.le_refl _) (En.one _) (fun w21 hu21 hB21 => ?_)))))))
          have hu21 : Upd b2 _ _ := hu21
          have hA21 : Blk w21 b2 x.cells 42 := hB21
          have hC21 := hC20.upd hu21 hne.symm
          have hK21 := hK20.upd hu21 (.inl hb2z)
          have he021 := he020.upd hu21 (.inr hb2)
          refine L.op rfl rfl (O.store1 Tryz.sizeOf4 rfl rfl rfl hC21 (by simp) (fun w22 hu22 hB22 => ?_))
          have hu22 : Upd b3 _ _ := hu22
          refine L.nil (T.ret (fun a ha => ret_leaf ha rfl rfl (hA21.upd hu22 hne) (show Blk w22 b3 [.bool true] _ from hB22) (EntP.yes hlf (he021.upd hu22 (.inr hb3)))))
      · refine L.nil (?_)
        have hl : (wordsL 32 s).length = 5 := by have := hmany; omega
        subst h5
        refine T.seq (T.region (L.op rfl rfl (O.move rfl (L.op rfl rfl (O.indexAddr Tryz.runUnderlying77 Tryz.sizeOf9 rfl rfl (hS4.keep hK11) (by omega) (by omega) (L.op rfl rfl (O.load Tryz.isAgg9 rfl (Strs.at (i := 1) (hS4.keep hK11) (by omega)) (L.op rfl rfl (O.fieldAddr Tryz.runUnderlying42 rfl Tryz.sizeOf9 rfl (L.op rfl rfl (O.store1 Tryz.sizeOf9 rfl rfl rfl hA11 (by simp [En.cells]) (fun w12 hu12 hB12 => ?_))))))))))))
        have hu12 : Upd b2 _ _ := hu12
        have hA12 : Blk w12 b2 (⟨5, ((wordsL 32 s).getD 1 []), [], 0, [], []⟩ : En).cells 42 := hB12
        have hC12 := hC11.upd hu12 hne.symm
        have hK12 := hK11.upd hu12 (.inl hb2z)
        have he012 := he011.upd hu12 (.inr hb2)
        refine L.nil (T.seq (T.seq (T.region (L.op rfl rfl (O.move rfl (L.op rfl rfl (O.len Tryz.runUnderlying77 rfl (Sl.val (hS4.keep hK12)) (L.op rfl rfl (O.gtr_t rfl rfl (by omega) (L.nil (T.cond_true rfl (T.region (L.op rfl rfl (O.move rfl (L.op rfl rfl (O.indexAddr Tryz.runUnderlying77 Tryz.sizeOf9 rfl rfl (hS4.keep hK12) (by omega) (by omega) (L.op rfl rfl (O.load Tryz.isAgg9 rfl (Strs.at (i := 2) (hS4.keep hK12) (by omega)) (L.op rfl rfl (O.fieldAddr Tryz.runUnderlying42 rfl Tryz.sizeOf9 rfl (L.op rfl rfl (O.store1 Tryz.sizeOf9 rfl rfl rfl hA12 (by simp [En.cells]) (fun w13 hu13 hB13 => ?_)))))))))))))))))))))))
        have hu13 : Upd b2 _ _ := hu13
        have hA13 : Blk w13 b2 (⟨5, ((wordsL 32 s).getD 1 []), ((wordsL 32 s).getD 2 []), 0, [], []⟩ : En).cells 42 := hB13
        have hC13 := hC12.upd hu13 hne.symm
        have hK13 := hK12.upd hu13 (.inl hb2z)
        have he013 := he012.upd hu13 (.inr hb2)
        refine L.nil (T.seq (T.seq (T.region (L.op rfl rfl (O.move rfl (L.op rfl rfl (O.len Tryz.runUnderlying77 rfl (Sl.val (hS4.keep hK13)) (L.nil (T.block (T.seq (T.region (L.op rfl rfl (O.eql_f rfl rfl (by omega) (L.op rfl rfl (O.assign rfl (L.nil (T.cond_false rfl (T.seq (T.region (L.op rfl rfl (O.eql_t rfl rfl (by omega) (?_))))))))))))))))))))))
        rcases Classical.em (∃ t, octetsL t = (wordsL 32 s).getD 3 []) with ⟨n1, hx1⟩ | hno1
        · refine L.op rfl rfl (O.assign rfl (?_))
          rcases Classical.em (∃ t, octetsL t = (wordsL 32 s).getD 4 []) with ⟨c1, hx2⟩ | hno2
          · refine L.nil (T.cond_true rfl (?_))
            refine T.anyE mixed 9 [4, 2] rfl [.is _, .is _, .is _, .is (str n1), .is _, .is _, .is _, .is (str c1), .is _] [[], [0], [1], [2], [], [4], [5], [6], []] [[], [0], [0, 1], [0, 1, 2], [], [4], [4, 5], [0, 1, 2, 3, 4, 5, 6], [0, 1, 2, 3], [0, 1, 2, 3, 4, 5, 6, 7, 8], [0, 1, 2, 3, 4, 5, 6, 7, 8, 9], [0, 1, 2, 3, 4, 5, 6, 7, 8, 9, 10]] (by kernel_rfl) (by kernel_rfl) rfl (by kernel_rfl) trivial ⟨fun wx hx => Ob.op rfl (O.move rfl ⟨Keep.refl _ _, rfl⟩),
                fun wx hx => Ob.op rfl (O.indexAddr Tryz.runUnderlying77 Tryz.sizeOf9 rfl rfl ((hS4.keep hK13).ext hx) (by omega) (by omega) ⟨Keep.refl _ _, rfl⟩),
                fun wx hx => Ob.op rfl (O.load Tryz.isAgg9 rfl (Strs.at (i := 3) ((hS4.keep hK13).ext hx) (by omega)) ⟨Keep.refl _ _, rfl⟩),
                fun wx hx => Ob.op rfl (O.call (xs := [.tmp 45]) Tryz.call107 rfl rfl (unoct_all_no ((wordsL 32 s).getD 3 []) wx (hwd2 3) (hL.ext (he013.trans hx)) n1 hx1) (fun v wy h => ⟨h.2, h.1⟩)),
                fun wx hx => Ob.op rfl (O.move rfl ⟨Keep.refl _ _, rfl⟩),
                fun wx hx => Ob.op rfl (O.indexAddr Tryz.runUnderlying77 Tryz.sizeOf9 rfl rfl ((hS4.keep hK13).ext hx) (by omega) (by omega) ⟨Keep.refl _ _, rfl⟩),
                fun wx hx => Ob.op rfl (O.load Tryz.isAgg9 rfl (Strs.at (i := 4) ((hS4.keep hK13).ext hx) (by omega)) ⟨Keep.refl _ _, rfl⟩),
                fun wx hx => Ob.op rfl (O.call (xs := [.tmp 49]) Tryz.call107 rfl rfl (unoct_all_no ((wordsL 32 s).getD 4 []) wx (hwd2 4) (hL.ext (he013.trans hx)) c1 hx2) (fun v wy h => ⟨h.2, h.1⟩)),
                fun wx hx => Ob.op rfl (O.fieldAddr Tryz.runUnderlying42 rfl Tryz.sizeOf9 rfl ⟨Keep.refl _ _, rfl⟩),
                trivial⟩ (fun w14 he14 => ?_)
            have hK14 := hK13.trans (he14.mono (Nat.zero_le _))
            have hA14 := hA13.ext he14
            have hC14 := hC13.ext he14
            have he014 := he013.trans he14
            refine L.op rfl rfl (O.store1 Tryz.sizeOf9 rfl rfl rfl hA14 (by simp [En.cells]) (fun w15 hu15 hB15 => ?_))
            have hu15 : Upd b2 _ _ := hu15
            have hA15 : Blk w15 b2 (⟨5, ((wordsL 32 s).getD 1 []), ((wordsL 32 s).getD 2 []), 0, [], n1⟩ : En).cells 42 := hB15
            have hC15 := hC14.upd hu15 hne.symm
            have hK15 := hK14.upd hu15 (.inl hb2z)
            have he015 := he014.upd hu15 (.inr hb2)
            refine L.op rfl rfl (O.fieldAddr Tryz.runUnderlying42 rfl Tryz.sizeOf9 rfl (L.op rfl rfl (O.store1 Tryz.sizeOf9 rfl rfl rfl hA15 (by simp [En.cells]) (fun w16 hu16 hB16 => ?_))))
            have hu16 : Upd b2 _ _ := hu16
            have hA16 : Blk w16 b2 (⟨5, ((wordsL 32 s).getD 1 []), ((wordsL 32 s).getD 2 []), 0, c1, n1⟩ : En).cells 42 := hB16
            have hC16 := hC15.upd hu16 hne.symm
            have hK16 := hK15.upd hu16 (.inl hb2z)
            have he016 := he015.upd hu16 (.inr hb2)
            have hlf := leaf5 hk hl hx1 hx2
            obtain ⟨x, hxx⟩ : ∃ x, x = (⟨5, ((wordsL 32 s).getD 1 []), ((wordsL 32 s).getD 2 []), 0, c1, n1⟩ : En) := ⟨_, rfl⟩
            rw [← hxx] at hlf hA16
            have hxo : x.ok := by rw [← hlf.1]; exact ent_ok hwok
            replace hlf := hlf.2
            rcases hr : rightE x with _ | _
            · refine L.nil (?_)
              rw [hr, if_neg (by decide)] at hlf
              refine T.blk (T.seq (T.region (L.op rfl rfl (O.loadAgg Tryz.isAgg42 Tryz.sizeOf42 rfl rfl hA16.row (L.callPan (xs := [.tmp 53, .func 51]) rfl Tryz.call108 rfl rfl (needEn_no x w16 hxo hr) (fun w' a hR ha => pan_leaf ha rfl rfl hne (hA16.ext hR) (hC16.ext hR) (he016.trans hR) hb2 hb3 (EntP.no hlf)))))))
            · refine L.nil (?_)
              rw [hr, if_pos rfl] at hlf
              refine T.blk (T.seq (T.region (L.op rfl rfl (O.loadAgg Tryz.isAgg42 Tryz.sizeOf42 rfl rfl hA16.row (L.op rfl rfl (O.call (xs := [.tmp 53, .func 51]) Tryz.call108 rfl rfl (needEn_yes x w16 hxo hr) (fun v20 w20 hq => ?_)))))))
              obtain ⟨rfl, he20⟩ := hq
              have hK20 := hK16.trans (he20.mono (Nat.zero_le _))
              have hA20 := hA16.ext he20
              have hC20 := hC16.ext he20
              have he020 := he016.trans he20
              refine L.nil (T.seq (T.region (L.op rfl rfl (O.loadAgg Tryz.isAgg42 Tryz.sizeOf42 rfl rfl hA20.row (L.op rfl rfl (O.storeAgg Tryz.sizeOf42 rfl rfl rfl hA20 (Nat.le_refl _) (En.one _) (fun w21 hu21 hB21 => ?_)))))))
              have hu21 : Upd b2 _ _ := hu21
              have hA21 : Blk w21 b2 x.cells 42 := hB21
              have hC21 := hC20.upd hu21 hne.symm
              have hK21 := hK20.upd hu21 (.inl hb2z)
              have he021 := he020.upd hu21 (.inr hb2)
              refine L.op rfl rfl (O.store1 Tryz.sizeOf4 rfl rfl rfl hC21 (by simp) (fun w22 hu22 hB22 => ?_))
              have hu22 : Upd b3 _ _ := hu22
              refine L.nil (T.ret (fun a ha => ret_leaf ha rfl rfl (hA21.upd hu22 hne) (show Blk w22 b3 [.bool true] _ from hB22) (EntP.yes hlf (he021.upd hu22 (.inr hb3)))))
          · refine L.nil (T.cond_true rfl (?_))
            refine T.anyP mixed 9 0 [4, 2, 3] rfl [.is _, .is _, .is _, .is (str n1), .is _, .is _, .is _, .such (fun _ _ => False), .is _] [[], [0], [1], [2], [], [4], [5], [6], []] [none, none, none, none, none, none, none, none, none] [[], [0], [0, 1], [0, 1, 2], [], [4], [4, 5], [0, 1, 2, 3, 4, 5, 6], [0, 1, 2, 3], [0, 1, 2, 3, 4, 5, 6, 7, 8], [0, 1, 2, 3, 4, 5, 6, 7, 8, 9], [0, 1, 2, 3, 4, 5, 6, 7, 8, 9, 10]] (fun _ W => Ext w13 W) (Ext) (by kernel_rfl) (by kernel_rfl) (by kernel_rfl) rfl ⟨fun _ _ _ _ h => h, trivial⟩ (Keep.drew _ _) ⟨fun c wx hx => ObKP.op rfl (O.move rfl ⟨⟨Keep.refl _ _, hx⟩, rfl⟩),
                fun c wx hx => ObKP.op rfl (O.indexAddr Tryz.runUnderlying77 Tryz.sizeOf9 rfl rfl ((hS4.keep hK13).ext hx) (by omega) (by omega) ⟨⟨Keep.refl _ _, hx⟩, rfl⟩),
                fun c wx hx => ObKP.op rfl (O.load Tryz.isAgg9 rfl (Strs.at (i := 3) ((hS4.keep hK13).ext hx) (by omega)) ⟨⟨Keep.refl _ _, hx⟩, rfl⟩),
                fun c wx hx => ObKP.op rfl (O.call (xs := [.tmp 45]) Tryz.call107 rfl rfl (unoct_all_no ((wordsL 32 s).getD 3 []) wx (hwd2 3) (hL.ext (he013.trans hx)) n1 hx1) (fun v wy h => ⟨⟨h.2, hx.trans h.2⟩, h.1⟩)),
                fun c wx hx => ObKP.op rfl (O.move rfl ⟨⟨Keep.refl _ _, hx⟩, rfl⟩),
                fun c wx hx => ObKP.op rfl (O.indexAddr Tryz.runUnderlying77 Tryz.sizeOf9 rfl rfl ((hS4.keep hK13).ext hx) (by omega) (by omega) ⟨⟨Keep.refl _ _, hx⟩, rfl⟩),
                fun c wx hx => ObKP.op rfl (O.load Tryz.isAgg9 rfl (Strs.at (i := 4) ((hS4.keep hK13).ext hx) (by omega)) ⟨⟨Keep.refl _ _, hx⟩, rfl⟩),
                fun c wx hx => ObKP.pan rfl (PanO.call (xs := [.tmp 49]) Tryz.call107 rfl rfl (unoct_no ((wordsL 32 s).getD 4 []) wx (fun t e => hno2 ⟨t, e⟩) (hwd 4) (hL.ext (he013.trans hx))) (fun w' a hR ha => pan_leaf ha rfl rfl hne (hA13.ext (hx.trans hR)) (hC13.ext (hx.trans hR)) (he013.trans (hx.trans hR)) hb2 hb3 (EntP.no (none_oct (by rw [hk]) (.inr fun t e => hno2 ⟨t, e⟩))))),
                fun c wx hx => ObKP.op rfl (O.fieldAddr Tryz.runUnderlying42 rfl Tryz.sizeOf9 rfl ⟨⟨Keep.refl _ _, hx⟩, rfl⟩),
                trivial⟩ (fun w14 hI14 v50 hv50 => ?_)
            exact hv50.elim
        · refine L.op rfl rfl (O.assign rfl (L.nil (T.cond_true rfl (?_))))
          refine T.anyP mixed 9 0 [4, 2, 3] rfl [.is _, .is _, .is _, .such (fun _ _ => False), .is _, .is _, .is _, .such (fun _ _ => False), .is _] [[], [0], [1], [2], [], [4], [5], [6, 3], []] [none, none, none, none, none, none, none, none, none] [[], [0], [0, 1], [0, 1, 2], [], [4], [4, 5], [0, 1, 2, 3, 4, 5, 6], [0, 1, 2, 3], [0, 1, 2, 3, 4, 5, 6, 7, 8], [0, 1, 2, 3, 4, 5, 6, 7, 8, 9], [0, 1, 2, 3, 4, 5, 6, 7, 8, 9, 10]] (fun _ W => Ext w13 W) (Ext) (by kernel_rfl) (by kernel_rfl) (by kernel_rfl) rfl ⟨fun _ _ _ _ h => h, fun _ _ _ _ h => h, trivial⟩ (Keep.drew _ _) ⟨fun c wx hx => ObKP.op rfl (O.move rfl ⟨⟨Keep.refl _ _, hx⟩, rfl⟩),
              fun c wx hx => ObKP.op rfl (O.indexAddr Tryz.runUnderlying77 Tryz.sizeOf9 rfl rfl ((hS4.keep hK13).ext hx) (by omega) (by omega) ⟨⟨Keep.refl _ _, hx⟩, rfl⟩),
              fun c wx hx => ObKP.op rfl (O.load Tryz.isAgg9 rfl (Strs.at (i := 3) ((hS4.keep hK13).ext hx) (by omega)) ⟨⟨Keep.refl _ _, hx⟩, rfl⟩),
              fun c wx hx => ObKP.pan rfl (PanO.call (xs := [.tmp 45]) Tryz.call107 rfl rfl (unoct_no ((wordsL 32 s).getD 3 []) wx (fun t e => hno1 ⟨t, e⟩) (hwd 3) (hL.ext (he013.trans hx))) (fun w' a hR ha => pan_leaf ha rfl rfl hne (hA13.ext (hx.trans hR)) (hC13.ext (hx.trans hR)) (he013.trans (hx.trans hR)) hb2 hb3 (EntP.no (none_oct (by rw [hk]) (.inl fun t e => hno1 ⟨t, e⟩))))),
              fun c wx hx => ObKP.op rfl (O.move rfl ⟨⟨Keep.refl _ _, hx⟩, rfl⟩),
              fun c wx hx => ObKP.op rfl (O.indexAddr Tryz.runUnderlying77 Tryz.sizeOf9 rfl rfl ((hS4.keep hK13).ext hx) (by omega) (by omega) ⟨⟨Keep.refl _ _, hx⟩, rfl⟩),
              fun c wx hx => ObKP.op rfl (O.load Tryz.isAgg9 rfl (Strs.at (i := 4) ((hS4.keep hK13).ext hx) (by omega)) ⟨⟨Keep.refl _ _, hx⟩, rfl⟩),
              fun c wx hx v46 hv46 => hv46.elim,
              fun c wx hx => ObKP.op rfl (O.fieldAddr Tryz.runUnderlying42 rfl Tryz.sizeOf9 rfl ⟨⟨Keep.refl _ _, hx⟩, rfl⟩),
              trivial⟩ (fun w14 hI14 v46 hv46 v50 hv50 => ?_)
          exact hv46.elim
    · refine L.nil (T.seq (T.region (L.op rfl rfl (O.move rfl (L.op rfl rfl (O.makeFunc (fi := []) (ca := [.tmp 5, .tmp 2]) rfl rfl (L.callPan (xs := [.tmp 18, .tmp 19]) rfl Tryz.call104 rfl rfl (needStrs_no v4 105 #[.pointer (some ⟨b9, 0, none⟩), .pointer (some ⟨b2, 0, none⟩)] w10 Tryz.call105 (by rw [show (kEn k).k = k from rfl, decide_eq_false hlen] at hE3; exact hE3)) (fun w' a hR ha => pan_leaf ha rfl rfl hne (hA10.ext hR) (hC10.ext hR) (he010.trans hR) hb2 hb3 (EntP.no (none_len (by rw [hk]; exact hlen)))))))))))

end Go.Proofs.YtmnihgcffdmodaaGreatDoor
set_option linter.unusedVariables false
set_option linter.unusedSimpArgs false
set_option maxRecDepth 20000
namespace Go.Proofs.YtmnihgcffdmodaaGreatDoor
open Go Go.E RowKit
attribute [local irreducible] Go.E.T Go.E.L Go.E.O Go.E.Ob

attribute [local irreducible] Go.E.ObX Go.E.ObK
set_option maxHeartbeats 2000000 in
theorem Parse_calls (t : Str) (w : World) (hn : t.length ≤ 100000) (hL : LibM w) :
    Calls Tryz.prog 22 #[str t] w (Ret fun v w' => ∃ p, v = .tuple #[p, .int .i64 (parseT t).2.1, .int .i64 (parseT t).2.2] ∧ Ens 0 w' p (parseT t).1 ∧ Ext w w') := by
  refine T.enter (vs := [str t]) Tryz.func22 rfl Tryz.ntmps22 rfl ?_
  refine T.seq (T.region (L.op rfl rfl (O.assign rfl (L.op rfl rfl (O.assign rfl (L.op rfl rfl (O.assign rfl (L.nil (T.seq (T.seq (T.region (L.op rfl rfl (O.move rfl (L.op rfl rfl (O.len_str Tryz.runUnderlying9 rfl (L.op rfl rfl (O.gtr_s rfl rfl (fun hlong => ?_) (fun hlong => ?_))))))))))))))))))
  · refine L.nil (?_)
    have hp : parseT t = ([], 0, 3) := by rw [parseT, if_pos (by omega)]
    refine T.cond_true rfl (T.seq (T.region (L.op rfl rfl (O.assign rfl (L.op rfl rfl (O.assign rfl (L.op rfl rfl (O.assign rfl (L.nil (T.ret3 Tryz.results22 rfl rfl rfl ⟨.slice none 0 0, by rw [hp], by rw [hp]; exact Sl.nil _ _ _, Keep.refl _ _⟩))))))))))
  · refine L.nil (?_)
    have hp : parseT t = parseR [] t := by rw [parseT, if_neg (by omega)]
    refine T.cond_false rfl (T.skip (T.seq (T.block (?_))))
    refine T.loop (σ := Str × List En × Value) (fun g => [(0, str g.1), (2, g.2.2)]) (fun g w' => g.1.length ≤ 100000 ∧ Ext w w' ∧ w'.ownsRow w.heap.size 42 6 g.2.2 g.2.1.length (g.2.1.map En.cells).flatten ∧ g.2.1.length ≤ 60 ∧ parseR [] t = parseR g.2.1 g.1) (fun g => g.1.length) ((t, [], .slice none 0 0)) ⟨rfl, rfl, trivial⟩ ⟨hn, Keep.refl _ _, owns_nil _ _ _ _, Nat.zero_le _, rfl⟩ ?_
    rintro ⟨u, h, q⟩ w1 ⟨hu, he1, hO1, h60, hpar⟩
    simp only at hu hO1 h60 hpar
    refine T.seq (T.seq (T.region (L.op rfl rfl (O.move rfl (L.op rfl rfl (O.neq_str_s Tryz.runUnderlying9 rfl rfl (fun hne => ?_) (fun hne => ?_)))))))
    · refine L.nil (?_)
      have hne2 : u ≠ [] := hne
      refine T.cond_true rfl (T.skip (T.block (T.seq (T.seq (T.region (L.op rfl rfl (O.move rfl (L.op rfl rfl (O.len Tryz.runUnderlying27 rfl (Sl.val (Sl.of_owns hO1)) (L.op rfl rfl (O.eql_s rfl rfl (fun h6 => ?_) (fun h6 => ?_))))))))))))
      · refine L.nil (?_)
        have hr : parseR [] t = ([], 61, 3) := by rw [hpar, parse_long hne2 (by omega)]
        refine T.cond_true rfl (T.seq (T.region (L.op rfl rfl (O.assign rfl (L.op rfl rfl (O.assign rfl (L.op rfl rfl (O.assign rfl (L.nil (T.ret3 Tryz.results22 rfl rfl rfl ⟨.slice none 0 0, by rw [hp, hr], by rw [hp, hr]; exact Sl.nil _ _ _, he1⟩))))))))))
      · refine L.nil (?_)
        have h6' : ¬ h.length = 60 := by omega
        have hL1 := hL.ext he1
        rcases Classical.em ((10 : UInt8) ∈ u) with hm | hm
        · obtain ⟨a, b, rfl, hfree⟩ := split_at hm
          have hal : a.length + b.length + 1 ≤ 100000 := by simp at hu; omega
          refine T.cond_false rfl (T.skip (T.seq (T.region (L.op rfl rfl (O.move rfl (L.op rfl rfl (O.call (xs := [.tmp 19, _]) Tryz.call59 rfl rfl (cut_calls (a ++ 10 :: b) [10] w1 hL1 (by omega)) (fun v2 w2 hq => ?_))))))))
          obtain ⟨hv2, he2⟩ := hq
          rw [cut_yes hfree] at hv2
          subst hv2
          refine L.op rfl rfl (O.move rfl (?_))
          rcases hr : readE a with _ | x
          · refine L.op rfl rfl (O.extract rfl rfl (L.op rfl rfl (O.extract rfl rfl (L.op rfl rfl (O.extract rfl rfl (L.op rfl rfl (O.assign rfl (L.op rfl rfl (O.assign rfl (L.op rfl rfl (O.assign rfl (L.nil (T.seq (T.region (L.op rfl rfl (O.move rfl (L.op rfl rfl (O.call (xs := [.tmp 25]) Tryz.call60 rfl rfl (entry_calls a w2 (by omega) (hL1.ext he2)) (fun v3 w3 hq => ?_)))))))))))))))))))
            obtain rfl := hq.2.1 hr
            have he3 := hq.2.2
            refine L.op rfl rfl (O.move rfl (L.op rfl rfl (O.extract rfl rfl (L.op rfl rfl (O.extract rfl rfl (L.op rfl rfl (O.alloc Tryz.zeroValue42 (fun b4 w4 hb4 hz4 he4 hB4 => ?_))))))))
            have hz : Blk w4 b4 e0.cells 42 := hB4
            refine L.op rfl rfl (O.storeAgg Tryz.sizeOf42 rfl rfl rfl hz (Nat.le_refl _) (En.one e0) (fun w5 hu5 hB5 => ?_))
            have hu5 : Upd b4 _ _ := hu5
            have he05 : Ext w w5 := ((he1.trans he2).trans he3).trans (he4.upd hu5 (.inr (by omega)))
            refine L.op rfl rfl (O.assign rfl (L.nil (T.seq (T.seq (T.region (L.op rfl rfl (O.move rfl (L.op rfl rfl (O.not rfl (L.op rfl rfl (O.move rfl (L.op rfl rfl (O.move rfl (L.op rfl rfl (O.not rfl (L.op rfl rfl (O.pick_false rfl rfl (L.nil (T.cond_true rfl (T.seq (T.region (L.op rfl rfl (O.move rfl (L.op rfl rfl (O.len Tryz.runUnderlying27 rfl (Sl.val (Sl.of_owns (owns_keep hO1 ((he2.trans he3).trans (he4.upd hu5 (.inr (by omega)))) (Nat.zero_le _)))) (L.op rfl rfl (O.add64 rfl rfl (by omega) (?_))))))))))))))))))))))))))))
            have hr2 : parseR [] t = ([], (h.length : Int) + 1, 5) := by rw [hpar, parse_wrong h6' hfree hr]
            refine L.op rfl rfl (O.assign rfl (L.op rfl rfl (O.assign rfl (L.op rfl rfl (O.assign rfl (L.nil (T.ret3 Tryz.results22 rfl rfl rfl ⟨.slice none 0 0, by rw [hp, hr2], by rw [hp, hr2]; exact Sl.nil _ _ _, he05⟩)))))))
          · refine L.op rfl rfl (O.extract rfl rfl (L.op rfl rfl (O.extract rfl rfl (L.op rfl rfl (O.extract rfl rfl (L.op rfl rfl (O.assign rfl (L.op rfl rfl (O.assign rfl (L.op rfl rfl (O.assign rfl (L.nil (T.seq (T.region (L.op rfl rfl (O.move rfl (L.op rfl rfl (O.call (xs := [.tmp 25]) Tryz.call60 rfl rfl (entry_calls a w2 (by omega) (hL1.ext he2)) (fun v3 w3 hq => ?_)))))))))))))))))))
            obtain rfl := hq.1 x hr
            have he3 := hq.2.2
            refine L.op rfl rfl (O.move rfl (L.op rfl rfl (O.extract rfl rfl (L.op rfl rfl (O.extract rfl rfl (L.op rfl rfl (O.alloc Tryz.zeroValue42 (fun b4 w4 hb4 hz4 he4 hB4 => ?_))))))))
            have hz : Blk w4 b4 e0.cells 42 := hB4
            refine L.op rfl rfl (O.storeAgg Tryz.sizeOf42 rfl rfl rfl hz (Nat.le_refl _) (En.one x) (fun w5 hu5 hB5 => ?_))
            have hu5 : Upd b4 _ _ := hu5
            have hX5 : Blk w5 b4 x.cells 42 := hB5
            have he15 : Ext w1 w5 := (he2.trans he3).trans (he4.upd hu5 (.inr (by omega)))
            refine L.op rfl rfl (O.assign rfl (L.nil (T.seq (T.seq (T.region (L.op rfl rfl (O.move rfl (L.op rfl rfl (O.not rfl (L.op rfl rfl (O.move rfl (L.op rfl rfl (O.move rfl (L.op rfl rfl (O.not rfl (L.op rfl rfl (O.pick_false rfl rfl (L.nil (T.cond_false rfl (T.skip (T.region (L.op rfl rfl (O.move rfl (L.op rfl rfl (O.loadAgg Tryz.isAgg42 Tryz.sizeOf42 rfl rfl hX5.row (L.op rfl rfl (O.buildSlice (el := 42) (parts := [(0, .tmp 39)]) (vs := [(0, _)]) (cs := x.cells) rfl (fun w => by kernel_rfl) (fun b8 w8 hb8 hz8 he8 hB8 => ?_))))))))))))))))))))))))))))
            have he18 := he15.trans he8
            have hO8 := owns_keep hO1 (he18.mono (Nat.zero_le w.heap.size)) (Nat.le_refl _)
            refine L.op rfl rfl (O.append (size := 6) (bytes := 80) Tryz.runUnderlying27 Tryz.infoOf42 rfl rfl rfl rfl (by decide) rfl rfl hO8 (Sl.of_blk (lo := 0) (n := 1) (sz := 6) hB8 rfl (Nat.le_refl _) (by decide) (Nat.zero_le _)) (En.one _) (by omega) (by simp only [maxLen]; omega) (by have := he1.size; have := he18.size; omega) (fun v9 w9 hO9 hG9 => ?_))
            refine L.op rfl rfl (O.move rfl (L.op rfl rfl (O.assign rfl (L.op rfl rfl (O.assign rfl (L.nil (T.blk (T.again ((b, h ++ [x], v9)) (by simp; omega) ⟨rfl, rfl, trivial⟩ ⟨by (try dsimp only); omega, (he1.trans he18).grown0 hO8 hG9 (Nat.le_refl _), by (try dsimp only); rw [List.length_append, fl_append, fl_one]; exact hO9, by simp; omega, by (try dsimp only); rw [hpar, parse_next h6' hfree hr]⟩))))))))
        · refine T.cond_false rfl (T.skip (T.seq (T.region (L.op rfl rfl (O.move rfl (L.op rfl rfl (O.call (xs := [.tmp 19, _]) Tryz.call59 rfl rfl (cut_calls u [10] w1 hL1 (by omega)) (fun v2 w2 hq => ?_))))))))
          obtain ⟨hv2, he2⟩ := hq
          rw [cut_no hm] at hv2
          subst hv2
          have hr2 : parseR [] t = ([], (h.length : Int) + 1, 5) := by rw [hpar, parse_open hne2 h6' hm]
          refine L.op rfl rfl (O.move rfl (?_))
          rcases hr : readE u with _ | x
          · refine L.op rfl rfl (O.extract rfl rfl (L.op rfl rfl (O.extract rfl rfl (L.op rfl rfl (O.extract rfl rfl (L.op rfl rfl (O.assign rfl (L.op rfl rfl (O.assign rfl (L.op rfl rfl (O.assign rfl (L.nil (T.seq (T.region (L.op rfl rfl (O.move rfl (L.op rfl rfl (O.call (xs := [.tmp 25]) Tryz.call60 rfl rfl (entry_calls u w2 hu (hL1.ext he2)) (fun v3 w3 hq => ?_)))))))))))))))))))
            obtain rfl := hq.2.1 hr
            have he3 := hq.2.2
            refine L.op rfl rfl (O.move rfl (L.op rfl rfl (O.extract rfl rfl (L.op rfl rfl (O.extract rfl rfl (L.op rfl rfl (O.alloc Tryz.zeroValue42 (fun b4 w4 hb4 hz4 he4 hB4 => ?_))))))))
            have hz : Blk w4 b4 e0.cells 42 := hB4
            refine L.op rfl rfl (O.storeAgg Tryz.sizeOf42 rfl rfl rfl hz (Nat.le_refl _) (En.one e0) (fun w5 hu5 hB5 => ?_))
            have hu5 : Upd b4 _ _ := hu5
            refine L.op rfl rfl (O.assign rfl (L.nil (T.seq (T.seq (T.region (L.op rfl rfl (O.move rfl (L.op rfl rfl (O.not rfl (L.op rfl rfl (O.move rfl (L.pass rfl rfl (L.pass rfl rfl (L.op rfl rfl (O.pick_true rfl rfl (L.nil (T.cond_true rfl (T.seq (T.region (L.op rfl rfl (O.move rfl (L.op rfl rfl (O.len Tryz.runUnderlying27 rfl (Sl.val (Sl.of_owns (owns_keep hO1 ((he2.trans he3).trans (he4.upd hu5 (.inr (by omega)))) (Nat.zero_le _)))) (L.op rfl rfl (O.add64 rfl rfl (by omega) (L.op rfl rfl (O.assign rfl (L.op rfl rfl (O.assign rfl (L.op rfl rfl (O.assign rfl (L.nil (T.ret3 Tryz.results22 rfl rfl rfl ⟨.slice none 0 0, by rw [hp, hr2], by rw [hp, hr2]; exact Sl.nil _ _ _, ((he1.trans he2).trans he3).trans (he4.upd hu5 (.inr (by omega)))⟩)))))))))))))))))))))))))))))))))
          · refine L.op rfl rfl (O.extract rfl rfl (L.op rfl rfl (O.extract rfl rfl (L.op rfl rfl (O.extract rfl rfl (L.op rfl rfl (O.assign rfl (L.op rfl rfl (O.assign rfl (L.op rfl rfl (O.assign rfl (L.nil (T.seq (T.region (L.op rfl rfl (O.move rfl (L.op rfl rfl (O.call (xs := [.tmp 25]) Tryz.call60 rfl rfl (entry_calls u w2 hu (hL1.ext he2)) (fun v3 w3 hq => ?_)))))))))))))))))))
            obtain rfl := hq.1 x hr
            have he3 := hq.2.2
            refine L.op rfl rfl (O.move rfl (L.op rfl rfl (O.extract rfl rfl (L.op rfl rfl (O.extract rfl rfl (L.op rfl rfl (O.alloc Tryz.zeroValue42 (fun b4 w4 hb4 hz4 he4 hB4 => ?_))))))))
            have hz : Blk w4 b4 e0.cells 42 := hB4
            refine L.op rfl rfl (O.storeAgg Tryz.sizeOf42 rfl rfl rfl hz (Nat.le_refl _) (En.one x) (fun w5 hu5 hB5 => ?_))
            have hu5 : Upd b4 _ _ := hu5
            refine L.op rfl rfl (O.assign rfl (L.nil (T.seq (T.seq (T.region (L.op rfl rfl (O.move rfl (L.op rfl rfl (O.not rfl (L.op rfl rfl (O.move rfl (L.pass rfl rfl (L.pass rfl rfl (L.op rfl rfl (O.pick_true rfl rfl (L.nil (T.cond_true rfl (T.seq (T.region (L.op rfl rfl (O.move rfl (L.op rfl rfl (O.len Tryz.runUnderlying27 rfl (Sl.val (Sl.of_owns (owns_keep hO1 ((he2.trans he3).trans (he4.upd hu5 (.inr (by omega)))) (Nat.zero_le _)))) (L.op rfl rfl (O.add64 rfl rfl (by omega) (L.op rfl rfl (O.assign rfl (L.op rfl rfl (O.assign rfl (L.op rfl rfl (O.assign rfl (L.nil (T.ret3 Tryz.results22 rfl rfl rfl ⟨.slice none 0 0, by rw [hp, hr2], by rw [hp, hr2]; exact Sl.nil _ _ _, ((he1.trans he2).trans he3).trans (he4.upd hu5 (.inr (by omega)))⟩)))))))))))))))))))))))))))))))))
    · refine L.nil (?_)
      have hne2 : u = [] := hne
      have hr : parseR [] t = (h, 0, 0) := by rw [hpar, hne2, parse_nil]
      refine T.cond_false rfl (T.exit rfl (T.seq (T.region (L.op rfl rfl (O.move rfl (L.op rfl rfl (O.assign rfl (L.op rfl rfl (O.assign rfl (L.op rfl rfl (O.assign rfl (L.nil (T.ret3 Tryz.results22 rfl rfl rfl ⟨q, by rw [hp, hr], by rw [hp, hr]; exact (Sl.of_owns hO1).mono (Nat.zero_le _), he1⟩)))))))))))))

end Go.Proofs.YtmnihgcffdmodaaGreatDoor
set_option linter.unusedVariables false
set_option linter.unusedSimpArgs false
set_option maxRecDepth 20000
namespace Go.Proofs.YtmnihgcffdmodaaGreatDoor
open Go Go.E RowKit
attribute [local irreducible] Go.E.T Go.E.L Go.E.O Go.E.Ob

attribute [local irreducible] Go.E.ObX Go.E.ObK Go.E.ObKP
def sAnn : Str := [97, 110, 110]
def sBob : Str := [98, 111, 98]
def sZoe : Str := [122, 111, 101]
def sMap : Str := [109, 97, 112]
def sPlan : Str := [112, 108, 97, 110]
def sN : Str := [110]
def enA (q : Nat) : En := ⟨1, sAnn, sMap, q, [], []⟩
def enB : En := ⟨4, sZoe, [], 0, [], []⟩
def enC : En := ⟨5, sAnn, sMap, 0, sPlan, sN⟩
def itA (q : Nat) : It := ⟨sMap, sAnn, 1, q, false, false, []⟩
theorem chk_A (q : Nat) : checkE [enA q] = 0 := by rfl
theorem chk_AB (q : Nat) : checkE [enA q, enB] = 0 := by rfl
theorem chk_ABC (q : Nat) : checkE [enA q, enB, enC] = 0 := by rfl
theorem chk_AA (q : Nat) : checkE [enA q, enA q] = 0 := by rfl
theorem chk_BA (q : Nat) : checkE [enB, enA q] = 0 := by rfl
theorem chk_AC (q : Nat) : checkE [enA q, enC] = 0 := by rfl
theorem st_A (q : Nat) : stepE s0 (enA q) = some ⟨[itA q], false, []⟩ := by rfl
theorem st_AB (q : Nat) : stepE ⟨[itA q], false, []⟩ enB = some ⟨[itA q], true, sZoe⟩ := by rfl
theorem st_ABC {q : Nat} (h : q = sealN sPlan sN) : stepE ⟨[itA q], true, sZoe⟩ enC = some ⟨[{ itA q with op := true, con := sPlan }], true, sZoe⟩ := by
  have hf : findK [⟨sMap, sAnn, 1, q, false, false, []⟩] sMap = 0 := by rfl
  unfold stepE
  simp [enC, hf, itA, ← h]
theorem st_AA (q : Nat) : stepE ⟨[itA q], false, []⟩ (enA q) = none := by rfl
theorem st_B : stepE s0 enB = some ⟨[], true, sZoe⟩ := by rfl
theorem st_BA (q : Nat) : stepE ⟨[], true, sZoe⟩ (enA q) = none := by rfl
theorem st_AC (q : Nat) : stepE ⟨[itA q], false, []⟩ enC = none := by
  have hf : findK [itA q] sMap = 0 := by rfl
  unfold stepE
  simp [enC, hf, itA]
theorem rep_A (q : Nat) : replayR [enA q] = (⟨[itA q], false, []⟩, 0, 0) := by rw [replayR, if_pos (chk_A q), goE, st_A]; rfl
theorem rep_AB (q : Nat) : replayR [enA q, enB] = (⟨[itA q], true, sZoe⟩, 0, 0) := by rw [replayR, if_pos (chk_AB q), goE, st_A]; simp only; rw [goE, st_AB]; rfl
theorem rep_ABC {q : Nat} (h : q = sealN sPlan sN) : replayR [enA q, enB, enC] = (⟨[{ itA q with op := true, con := sPlan }], true, sZoe⟩, 0, 0) := by rw [replayR, if_pos (chk_ABC q), goE, st_A]; simp only; rw [goE, st_AB]; simp only; rw [goE, st_ABC h]; rfl
theorem rep_AA (q : Nat) : replayR [enA q, enA q] = (s0, 1, 8) := by rw [replayR, if_pos (chk_AA q), goE, st_A]; simp only; rw [goE, st_AA]; rfl
theorem rep_BA (q : Nat) : replayR [enB, enA q] = (s0, 1, 8) := by rw [replayR, if_pos (chk_BA q), goE, st_B]; simp only; rw [goE, st_BA]; rfl
theorem rep_AC (q : Nat) : replayR [enA q, enC] = (s0, 1, 8) := by rw [replayR, if_pos (chk_AC q), goE, st_A]; simp only; rw [goE, st_AC]; rfl
theorem view_bob (q : Nat) : viewR [enA q] sBob = ([⟨sMap, [], 1, 0, false, false, []⟩], 0) := by rw [viewR, rep_A]; rfl
theorem view_ann (q : Nat) : viewR [enA q] sAnn = ([⟨sMap, sAnn, 1, 0, false, false, []⟩], 0) := by rw [viewR, rep_A]; rfl
def sClose : Str := [99, 108, 111, 115, 101, 32, 122, 111, 101]
def sCloseX : Str := [99, 108, 111, 115, 101, 32, 122, 111, 101, 32, 120, 10]
theorem text_B : textR [enB] = (sClose ++ [10], 0) := by decide
theorem parse_c : parseT sClose = ([], 1, 5) := by decide
theorem parse_cx : parseT sCloseX = ([], 1, 5) := by decide
theorem ok_A {q : Nat} (h : q < 18446744073709551616) : (enA q).ok := ⟨by simp [enA, sAnn], by simp [enA, sMap], h, by simp [enA], by simp [enA]⟩
theorem ok_B : enB.ok := ⟨by decide, by decide, by decide, by decide, by decide⟩
theorem ok_C : enC.ok := ⟨by decide, by decide, by decide, by decide, by decide⟩
theorem allOk1 {x : En} (h : x.ok) : AllOk [x] := fun y hy => by simp at hy; subst hy; exact h
theorem allOk2 {x y : En} (h : x.ok) (h2 : y.ok) : AllOk [x, y] := fun z hz => by simp at hz; rcases hz with rfl | rfl; exact h; exact h2
theorem allOk3 {x y z : En} (h : x.ok) (h2 : y.ok) (h3 : z.ok) : AllOk [x, y, z] := fun u hu => by simp at hu; rcases hu with rfl | rfl | rfl; exact h; exact h2; exact h3
theorem ens_blk {w : World} {b n : Nat} {xs : List En} (h : Blk w b (xs.map En.cells).flatten 42) (hn : xs.length = n) (hm : n ≤ 100000) : Ens 0 w (.slice (some ⟨b, 0, none⟩) n n) xs := by
  subst hn
  exact Sl.of_blk h (fl_len En.len xs) (Nat.le_refl _) (by unfold maxLen; omega) (Nat.zero_le _)
theorem submit_lc (w : World) (hL : LibM w) :
    Calls Tryz.prog 31 #[] w (Ret fun v w' => v = (enA (sealN sPlan sN)).val ∧ Ext w w') := by
  refine T.enter (vs := []) Tryz.func31 rfl Tryz.ntmps31 rfl ?_
  refine T.seq (T.region (L.op rfl rfl (O.alloc Tryz.zeroValue42 (fun b0 w0 hb0 hz0 he0 hB0 => ?_))))
  refine L.nil (T.seq (T.region (L.op rfl rfl (O.call (xs := [_, _]) Tryz.call18 rfl rfl (seal_calls sPlan sN w0 (hL.ext he0) (by decide) (by decide)) (fun v1 w1 hq => ?_)))))
  obtain ⟨rfl, he1⟩ := hq
  refine L.op rfl rfl (O.build (v := (enA (sealN sPlan sN)).val) (parts := [(0, .const (.int .i64 1)), (1, _), (2, _), (3, .tmp 1)]) (vs := [(0, _), (1, _), (2, _), (3, _)]) rfl (fun w => by kernel_rfl) (?_))
  have hZ : Blk w1 b0 e0.cells 42 := hB0.ext he1
  refine L.op rfl rfl (O.storeAgg Tryz.sizeOf42 rfl rfl rfl hZ (Nat.le_refl _) (En.one _) (fun w2 hu2 hB2 => ?_))
  have hu2 : Upd b0 _ _ := hu2
  have hE2 : Blk w2 b0 (enA (sealN sPlan sN)).cells 42 := hB2
  refine L.nil (T.retA Tryz.results31 Tryz.isAgg42 Tryz.sizeOf42 rfl rfl hE2.row ⟨rfl, (he0.trans he1).upd hu2 (.inr (by omega))⟩)

theorem shut_lc (w : World) :
    Calls Tryz.prog 30 #[] w (Ret fun v w' => v = enB.val ∧ Ext w w') := by
  refine T.enter (vs := []) Tryz.func30 rfl Tryz.ntmps30 rfl ?_
  refine T.seq (T.region (L.op rfl rfl (O.alloc Tryz.zeroValue42 (fun b0 w0 hb0 hz0 he0 hB0 => ?_))))
  refine L.nil (T.seq (T.region (L.op rfl rfl (O.build (v := enB.val) (parts := [(0, .const (.int .i64 4)), (1, _)]) (vs := [(0, _), (1, _)]) rfl (fun w => by kernel_rfl) (?_)))))
  have hZ : Blk w0 b0 e0.cells 42 := hB0
  refine L.op rfl rfl (O.storeAgg Tryz.sizeOf42 rfl rfl rfl hZ (Nat.le_refl _) (En.one _) (fun w2 hu2 hB2 => ?_))
  have hu2 : Upd b0 _ _ := hu2
  have hE2 : Blk w2 b0 enB.cells 42 := hB2
  refine L.nil (T.retA Tryz.results30 Tryz.isAgg42 Tryz.sizeOf42 rfl rfl hE2.row ⟨rfl, he0.upd hu2 (.inr (by omega))⟩)

theorem open_lc (w : World) :
    Calls Tryz.prog 44 #[] w (Ret fun v w' => v = enC.val ∧ Ext w w') := by
  refine T.enter (vs := []) Tryz.func44 rfl Tryz.ntmps44 rfl ?_
  refine T.seq (T.region (L.op rfl rfl (O.alloc Tryz.zeroValue42 (fun b0 w0 hb0 hz0 he0 hB0 => ?_))))
  refine L.nil (T.seq (T.region (L.op rfl rfl (O.build (v := enC.val) (parts := [(0, .const (.int .i64 5)), (1, _), (2, _), (4, _), (5, _)]) (vs := [(0, _), (1, _), (2, _), (4, _), (5, _)]) rfl (fun w => by kernel_rfl) (?_)))))
  have hZ : Blk w0 b0 e0.cells 42 := hB0
  refine L.op rfl rfl (O.storeAgg Tryz.sizeOf42 rfl rfl rfl hZ (Nat.le_refl _) (En.one _) (fun w2 hu2 hB2 => ?_))
  have hu2 : Upd b0 _ _ := hu2
  have hE2 : Blk w2 b0 enC.cells 42 := hB2
  refine L.nil (T.retA Tryz.results44 Tryz.isAgg42 Tryz.sizeOf42 rfl rfl hE2.row ⟨rfl, he0.upd hu2 (.inr (by omega))⟩)

theorem stops_calls (lo : Nat) (p : Value) (xs : List En) (w : World) (hp : Ens lo w p xs) (hxs : AllOk xs) (hL : LibM w) (hr : replayR xs = (s0, 1, 8)) :
    Calls Tryz.prog 45 #[.int .i64 1, p] w (Ret fun v w' => v = .bool true ∧ Ext w w') := by
  refine T.enter (vs := [.int .i64 1, p]) Tryz.func45 rfl Tryz.ntmps45 rfl ?_
  refine T.seq (T.region (L.op rfl rfl (O.assign rfl (L.nil (T.seq (T.region (L.op rfl rfl (O.move rfl (L.op rfl rfl (O.call (xs := [.tmp 9]) Tryz.call12 rfl rfl (Replay_calls lo p xs w hp hxs hL) (fun v8 w8 hq => ?_)))))))))))
  obtain ⟨pv, hv8, hI8, he8⟩ := hq
  rw [hr] at hv8 hI8
  subst hv8
  have hI8' : Its 0 w8 pv [] := hI8
  refine L.op rfl rfl (O.move rfl (L.op rfl rfl (O.extract rfl rfl (L.op rfl rfl (O.extract rfl rfl (L.op rfl rfl (O.extract rfl rfl (L.op rfl rfl (O.alloc Tryz.zeroValue32 (fun b5 w5 hb5 hz5 he5 hB5 => ?_))))))))))
  refine L.op rfl rfl (O.storeAgg Tryz.sizeOf32 rfl rfl rfl hB5 (Nat.le_refl _) (stCells_one s0 (Sl.one hI8')) (fun w6 hu6 hB6 => ?_))
  have hu6 : Upd b5 _ _ := hu6
  have hS6 : Blk w6 b5 (stCells pv s0) 32 := hB6
  have he86 : Ext w8 w6 := he5.upd hu6 (.inr (by omega))
  refine L.op rfl rfl (O.assign rfl (L.op rfl rfl (O.assign rfl (L.nil (T.seq (T.region (L.op rfl rfl (O.fieldAddr Tryz.runUnderlying32 rfl Tryz.sizeOf30 rfl (L.op rfl rfl (O.load Tryz.isAgg30 rfl (hS6.cell rfl) (L.op rfl rfl (O.len Tryz.runUnderlying30 rfl (Sl.val (hI8'.ext he86)) (L.op rfl rfl (O.eql_t rfl rfl rfl (L.op rfl rfl (O.move rfl (L.op rfl rfl (O.move rfl (L.op rfl rfl (O.move rfl (L.op rfl rfl (O.eql_t rfl rfl rfl (L.op rfl rfl (O.pick_true rfl rfl (L.op rfl rfl (O.move rfl (L.op rfl rfl (O.move rfl (L.op rfl rfl (O.eql_t rfl rfl rfl (L.op rfl rfl (O.pick_true rfl rfl (L.op rfl rfl (O.assign rfl (L.nil (T.ret1 Tryz.results45 rfl ⟨rfl, he8.trans he86⟩))))))))))))))))))))))))))))))))))))

set_option maxHeartbeats 4000000 in
theorem wakes_calls (w : World) (hL : LibM w) :
    Calls Tryz.prog 10 #[] w (Ret fun v w' => v = .bool true ∧ Ext w w') := by
  obtain ⟨q, hq⟩ : ∃ q, q = sealN sPlan sN := ⟨_, rfl⟩
  have hq64 : q < 18446744073709551616 := by rw [hq]; exact sealN_lt _ _
  have oA := ok_A hq64
  refine T.enter (vs := []) Tryz.func10 rfl Tryz.ntmps10 rfl ?_
  refine T.seq (T.region (L.op rfl rfl (O.assign rfl (L.nil (T.seq (T.region (L.op rfl rfl (O.call (xs := []) Tryz.call31 rfl rfl (submit_lc w hL) (fun v1 w1 hq => ?_)))))))))
  obtain ⟨rfl, he1⟩ := hq
  refine L.op rfl rfl (O.call (xs := []) Tryz.call30 rfl rfl (shut_lc w1) (fun v2 w2 hq => ?_))
  obtain ⟨rfl, he2⟩ := hq
  refine L.op rfl rfl (O.call (xs := []) Tryz.call44 rfl rfl (open_lc w2) (fun v3 w3 hq => ?_))
  obtain ⟨rfl, he3⟩ := hq
  rw [← hq]
  refine L.op rfl rfl (O.alloc Tryz.zeroValue42 (fun b4 w4 hb4 hz4 he4 hB4 => ?_))
  refine L.op rfl rfl (O.alloc Tryz.zeroValue42 (fun b5 w5 hb5 hz5 he5 hB5 => ?_))
  refine L.op rfl rfl (O.alloc Tryz.zeroValue42 (fun b6 w6 hb6 hz6 he6 hB6 => ?_))
  have hZ4 : Blk w6 b4 e0.cells 42 := (hB4.ext he5).ext he6
  have hZ5 : Blk w6 b5 e0.cells 42 := hB5.ext he6
  have hZ6 : Blk w6 b6 e0.cells 42 := hB6
  refine L.op rfl rfl (O.storeAgg Tryz.sizeOf42 rfl rfl rfl hZ4 (Nat.le_refl _) (En.one _) (fun w7 hu7 hB7 => ?_))
  have hu7 : Upd b4 _ _ := hu7
  have hA7 : Blk w7 b4 (enA q).cells 42 := hB7
  refine L.op rfl rfl (O.storeAgg Tryz.sizeOf42 rfl rfl rfl (hZ5.upd hu7 (by omega)) (Nat.le_refl _) (En.one _) (fun w8 hu8 hB8 => ?_))
  have hu8 : Upd b5 _ _ := hu8
  have hC8 : Blk w8 b5 enB.cells 42 := hB8
  refine L.op rfl rfl (O.storeAgg Tryz.sizeOf42 rfl rfl rfl ((hZ6.upd hu7 (by omega)).upd hu8 (by omega)) (Nat.le_refl _) (En.one _) (fun w9 hu9 hB9 => ?_))
  have hu9 : Upd b6 _ _ := hu9
  have hD9 : Blk w9 b6 enC.cells 42 := hB9
  have hA9 := (hA7.upd hu8 (by omega)).upd hu9 (by omega)
  have hC9 := hC8.upd hu9 (by omega)
  have he09 : Ext w w9 := ((((((he1.trans he2).trans he3).trans he4).trans he5).trans he6).upd hu7 (.inr (by have := he1.size; have := he2.size; have := he3.size; omega))).upd hu8 (.inr (by have := he1.size; have := he2.size; have := he3.size; omega)) |>.upd hu9 (.inr (by have := he1.size; have := he2.size; have := he3.size; omega))
  have hL9 := hL.ext he09
  have hx10 : Ext w9 w9 := Keep.refl _ _
  refine L.nil (T.seq (T.region (L.op rfl rfl (O.loadAgg Tryz.isAgg42 Tryz.sizeOf42 rfl rfl ((hA9.ext hx10).row) (L.op rfl rfl (O.buildSlice (el := 42) (parts := [(0, .tmp 29)]) (vs := [(0, _)]) (cs := ([enA q].map En.cells).flatten) rfl (fun w => by kernel_rfl) (fun b101 w101 hb101 hz101 he101 hB101 => ?_)))))))
  have hx101 := hx10.trans he101
  have hP10 : Ens 0 w101 (.slice (some ⟨b101, 0, none⟩) 1 1) [enA q] := ens_blk hB101 rfl (by decide)
  refine L.op rfl rfl (O.call (xs := [.tmp 30]) Tryz.call12 rfl rfl (Replay_calls 0 _ _ w101 hP10 (allOk1 oA) (hL9.ext hx101)) (fun v102 w102 hq => ?_))
  obtain ⟨pv10, hv102, hI10, he102⟩ := hq
  rw [rep_A q] at hv102 hI10
  subst hv102
  simp only at hI10
  refine L.op rfl rfl (O.move rfl (L.op rfl rfl (O.extract rfl rfl (L.op rfl rfl (O.extract rfl rfl (L.op rfl rfl (O.extract rfl rfl (L.op rfl rfl (O.alloc Tryz.zeroValue32 (fun b103 w103 hb103 hz103 he103 hB103 => ?_))))))))))
  refine L.op rfl rfl (O.storeAgg Tryz.sizeOf32 rfl rfl rfl hB103 (Nat.le_refl _) (stCells_one (⟨[itA q], false, []⟩ : St) (Sl.one hI10)) (fun w104 hu104 hB104 => ?_))
  have hu104 : Upd b103 _ _ := hu104
  have hS10 : Blk w104 b103 (stCells pv10 ⟨[itA q], false, []⟩) 32 := hB104
  have hx102 : Ext w102 w104 := he103.upd hu104 (.inr (by omega))
  have hx11 := (hx101.trans he102).trans hx102
  have hJ10 : Its 0 w104 pv10 [itA q] := Its.ext hI10 hx102
  refine L.op rfl rfl (O.assign rfl (L.op rfl rfl (O.assign rfl (L.nil (T.seq (T.region (L.op rfl rfl (O.loadAgg Tryz.isAgg42 Tryz.sizeOf42 rfl rfl ((hA9.ext hx11).row) (L.op rfl rfl (O.loadAgg Tryz.isAgg42 Tryz.sizeOf42 rfl rfl ((hC9.ext hx11).row) (L.op rfl rfl (O.buildSlice (el := 42) (parts := [(0, .tmp 36), (1, .tmp 37)]) (vs := [(0, _), (1, _)]) (cs := ([enA q, enB].map En.cells).flatten) rfl (fun w => by kernel_rfl) (fun b111 w111 hb111 hz111 he111 hB111 => ?_)))))))))))))
  have hx111 := hx11.trans he111
  have hP11 : Ens 0 w111 (.slice (some ⟨b111, 0, none⟩) 2 2) [enA q, enB] := ens_blk hB111 rfl (by decide)
  refine L.op rfl rfl (O.call (xs := [.tmp 38]) Tryz.call12 rfl rfl (Replay_calls 0 _ _ w111 hP11 (allOk2 oA ok_B) (hL9.ext hx111)) (fun v112 w112 hq => ?_))
  obtain ⟨pv11, hv112, hI11, he112⟩ := hq
  rw [rep_AB q] at hv112 hI11
  subst hv112
  simp only at hI11
  refine L.op rfl rfl (O.move rfl (L.op rfl rfl (O.extract rfl rfl (L.op rfl rfl (O.extract rfl rfl (L.op rfl rfl (O.extract rfl rfl (L.op rfl rfl (O.alloc Tryz.zeroValue32 (fun b113 w113 hb113 hz113 he113 hB113 => ?_))))))))))
  refine L.op rfl rfl (O.storeAgg Tryz.sizeOf32 rfl rfl rfl hB113 (Nat.le_refl _) (stCells_one (⟨[itA q], true, sZoe⟩ : St) (Sl.one hI11)) (fun w114 hu114 hB114 => ?_))
  have hu114 : Upd b113 _ _ := hu114
  have hS11 : Blk w114 b113 (stCells pv11 ⟨[itA q], true, sZoe⟩) 32 := hB114
  have hx112 : Ext w112 w114 := he113.upd hu114 (.inr (by omega))
  have hx12 := (hx111.trans he112).trans hx112
  have hJ11 : Its 0 w114 pv11 [itA q] := Its.ext hI11 hx112
  refine L.op rfl rfl (O.assign rfl (L.op rfl rfl (O.assign rfl (L.nil (T.seq (T.region (L.op rfl rfl (O.loadAgg Tryz.isAgg42 Tryz.sizeOf42 rfl rfl ((hA9.ext hx12).row) (L.op rfl rfl (O.loadAgg Tryz.isAgg42 Tryz.sizeOf42 rfl rfl ((hC9.ext hx12).row) (L.op rfl rfl (O.loadAgg Tryz.isAgg42 Tryz.sizeOf42 rfl rfl ((hD9.ext hx12).row) (L.op rfl rfl (O.buildSlice (el := 42) (parts := [(0, .tmp 44), (1, .tmp 45), (2, .tmp 46)]) (vs := [(0, _), (1, _), (2, _)]) (cs := ([enA q, enB, enC].map En.cells).flatten) rfl (fun w => by kernel_rfl) (fun b121 w121 hb121 hz121 he121 hB121 => ?_)))))))))))))))
  have hx121 := hx12.trans he121
  have hP12 : Ens 0 w121 (.slice (some ⟨b121, 0, none⟩) 3 3) [enA q, enB, enC] := ens_blk hB121 rfl (by decide)
  refine L.op rfl rfl (O.call (xs := [.tmp 47]) Tryz.call12 rfl rfl (Replay_calls 0 _ _ w121 hP12 (allOk3 oA ok_B ok_C) (hL9.ext hx121)) (fun v122 w122 hq => ?_))
  obtain ⟨pv12, hv122, hI12, he122⟩ := hq
  rw [rep_ABC hq] at hv122 hI12
  subst hv122
  simp only at hI12
  refine L.op rfl rfl (O.move rfl (L.op rfl rfl (O.extract rfl rfl (L.op rfl rfl (O.extract rfl rfl (L.op rfl rfl (O.extract rfl rfl (L.op rfl rfl (O.alloc Tryz.zeroValue32 (fun b123 w123 hb123 hz123 he123 hB123 => ?_))))))))))
  refine L.op rfl rfl (O.storeAgg Tryz.sizeOf32 rfl rfl rfl hB123 (Nat.le_refl _) (stCells_one (⟨[{ itA q with op := true, con := sPlan }], true, sZoe⟩ : St) (Sl.one hI12)) (fun w124 hu124 hB124 => ?_))
  have hu124 : Upd b123 _ _ := hu124
  have hS12 : Blk w124 b123 (stCells pv12 ⟨[{ itA q with op := true, con := sPlan }], true, sZoe⟩) 32 := hB124
  have hx122 : Ext w122 w124 := he123.upd hu124 (.inr (by omega))
  have hx13 := (hx121.trans he122).trans hx122
  have hJ12 : Its 0 w124 pv12 [{ itA q with op := true, con := sPlan }] := Its.ext hI12 hx122
  refine L.op rfl rfl (O.assign rfl (L.op rfl rfl (O.assign rfl (L.nil (T.seq (T.region (L.op rfl rfl (O.loadAgg Tryz.isAgg42 Tryz.sizeOf42 rfl rfl ((hA9.ext hx13).row) (L.op rfl rfl (O.buildSlice (el := 42) (parts := [(0, .tmp 53)]) (vs := [(0, _)]) (cs := ([enA q].map En.cells).flatten) rfl (fun w => by kernel_rfl) (fun b131 w131 hb131 hz131 he131 hB131 => ?_)))))))))))
  have hx131 := hx13.trans he131
  have hP13 : Ens 0 w131 (.slice (some ⟨b131, 0, none⟩) 1 1) [enA q] := ens_blk hB131 rfl (by decide)
  refine L.op rfl rfl (O.call (xs := [.tmp 54, _]) Tryz.call13 rfl rfl (View_calls 0 _ _ sBob w131 hP13 (allOk1 oA) (by decide) (hL9.ext hx131)) (fun v132 w132 hq => ?_))
  obtain ⟨pv13, hv132, hI13, he132⟩ := hq
  rw [view_bob q] at hv132 hI13
  subst hv132
  have hJ13 : Its 0 w132 pv13 [⟨sMap, [], 1, 0, false, false, []⟩] := hI13
  have hx14 := hx131.trans he132
  refine L.op rfl rfl (O.move rfl (L.op rfl rfl (O.extract rfl rfl (L.op rfl rfl (O.extract rfl rfl (L.op rfl rfl (O.assign rfl (L.op rfl rfl (O.assign rfl (L.nil (T.seq (T.region (L.op rfl rfl (O.loadAgg Tryz.isAgg42 Tryz.sizeOf42 rfl rfl ((hA9.ext hx14).row) (L.op rfl rfl (O.buildSlice (el := 42) (parts := [(0, .tmp 59)]) (vs := [(0, _)]) (cs := ([enA q].map En.cells).flatten) rfl (fun w => by kernel_rfl) (fun b141 w141 hb141 hz141 he141 hB141 => ?_)))))))))))))))))
  have hx141 := hx14.trans he141
  have hP14 : Ens 0 w141 (.slice (some ⟨b141, 0, none⟩) 1 1) [enA q] := ens_blk hB141 rfl (by decide)
  refine L.op rfl rfl (O.call (xs := [.tmp 60, _]) Tryz.call13 rfl rfl (View_calls 0 _ _ sAnn w141 hP14 (allOk1 oA) (by decide) (hL9.ext hx141)) (fun v142 w142 hq => ?_))
  obtain ⟨pv14, hv142, hI14, he142⟩ := hq
  rw [view_ann q] at hv142 hI14
  subst hv142
  have hJ14 : Its 0 w142 pv14 [⟨sMap, sAnn, 1, 0, false, false, []⟩] := hI14
  have hx15 := hx141.trans he142
  refine L.op rfl rfl (O.move rfl (L.op rfl rfl (O.extract rfl rfl (L.op rfl rfl (O.extract rfl rfl (L.op rfl rfl (O.assign rfl (L.op rfl rfl (O.assign rfl (L.nil (T.seq (T.region (L.op rfl rfl (O.loadAgg Tryz.isAgg42 Tryz.sizeOf42 rfl rfl ((hC9.ext hx15).row) (L.op rfl rfl (O.buildSlice (el := 42) (parts := [(0, .tmp 65)]) (vs := [(0, _)]) (cs := ([enB].map En.cells).flatten) rfl (fun w => by kernel_rfl) (fun b151 w151 hb151 hz151 he151 hB151 => ?_)))))))))))))))))
  have hx151 := hx15.trans he151
  have hP15 : Ens 0 w151 (.slice (some ⟨b151, 0, none⟩) 1 1) [enB] := ens_blk hB151 rfl (by decide)
  refine L.op rfl rfl (O.call (xs := [.tmp 66]) Tryz.call20 rfl rfl (text_calls 0 _ _ w151 hP15 (allOk1 ok_B) (hL9.ext hx151)) (fun v152 w152 hq => ?_))
  obtain ⟨hv152, he152⟩ := hq
  rw [text_B] at hv152
  subst hv152
  have hx16 := hx151.trans he152
  refine L.op rfl rfl (O.move rfl (L.op rfl rfl (O.extract rfl rfl (L.op rfl rfl (O.extract rfl rfl (L.op rfl rfl (O.assign rfl (L.op rfl rfl (O.assign rfl (L.nil (T.seq (T.region (L.op rfl rfl (O.call (xs := [_]) Tryz.call22 rfl rfl (Parse_calls sClose w152 (by decide) (hL9.ext hx16)) (fun v162 w162 hq => ?_)))))))))))))))
  obtain ⟨pv16, hv162, hI16, he162⟩ := hq
  rw [parse_c] at hv162 hI16
  subst hv162
  have hx17 := hx16.trans he162
  refine L.op rfl rfl (O.move rfl (L.op rfl rfl (O.extract rfl rfl (L.op rfl rfl (O.extract rfl rfl (L.op rfl rfl (O.extract rfl rfl (L.op rfl rfl (O.assign rfl (L.op rfl rfl (O.assign rfl (L.op rfl rfl (O.assign rfl (L.nil (T.seq (T.region (L.op rfl rfl (O.call (xs := [_]) Tryz.call22 rfl rfl (Parse_calls sCloseX w162 (by decide) (hL9.ext hx17)) (fun v172 w172 hq => ?_)))))))))))))))))))
  obtain ⟨pv17, hv172, hI17, he172⟩ := hq
  rw [parse_cx] at hv172 hI17
  subst hv172
  have hx18 := hx17.trans he172
  have sk11 := (he111.trans he112).trans hx112
  have sk12 := (he121.trans he122).trans hx122
  have sk13 := he131.trans he132
  have sk14 := he141.trans he142
  have sk15 := he151.trans he152
  have sk127 : Ext w124 w172 := (((sk13.trans sk14).trans sk15).trans he162).trans he172
  have sk117 := sk12.trans sk127
  have sk107 := sk11.trans sk117
  have sk137 := ((sk14.trans sk15).trans he162).trans he172
  have sk147 := (sk15.trans he162).trans he172
  have hT10 := hS10.ext sk107
  have hV10 := hJ10.ext sk107
  have hT11 := hS11.ext sk117
  have hV11 := hJ11.ext sk117
  have hT12 := hS12.ext sk127
  have hV12 := hJ12.ext sk127
  have hV13 := hJ13.ext sk137
  have hV14 := hJ14.ext sk147
  refine L.op rfl rfl (O.move rfl (L.op rfl rfl (O.extract rfl rfl (L.op rfl rfl (O.extract rfl rfl (L.op rfl rfl (O.extract rfl rfl (L.op rfl rfl (O.assign rfl (L.op rfl rfl (O.assign rfl (L.op rfl rfl (O.assign rfl (L.nil (T.seq (T.seq (T.region (L.op rfl rfl (O.fieldAddr Tryz.runUnderlying32 rfl Tryz.sizeOf30 rfl (L.op rfl rfl (O.load Tryz.isAgg30 rfl (hT10.cell rfl) (L.op rfl rfl (O.len Tryz.runUnderlying30 rfl (Sl.val hV10) (L.op rfl rfl (O.neq_f rfl rfl rfl (L.op rfl rfl (O.move rfl (L.op rfl rfl (O.fieldAddr Tryz.runUnderlying32 rfl Tryz.sizeOf30 rfl (L.op rfl rfl (O.load Tryz.isAgg30 rfl (hT11.cell rfl) (L.op rfl rfl (O.len Tryz.runUnderlying30 rfl (Sl.val hV11) (L.op rfl rfl (O.neq_f rfl rfl rfl (L.op rfl rfl (O.pick_false rfl rfl (L.op rfl rfl (O.move rfl (L.op rfl rfl (O.fieldAddr Tryz.runUnderlying32 rfl Tryz.sizeOf30 rfl (L.op rfl rfl (O.load Tryz.isAgg30 rfl (hT12.cell rfl) (?_))))))))))))))))))))))))))))))))))))))))))))
  refine L.op rfl rfl (O.len Tryz.runUnderlying30 rfl (Sl.val hV12) (L.op rfl rfl (O.neq_f rfl rfl rfl (L.op rfl rfl (O.pick_false rfl rfl (L.op rfl rfl (O.move rfl (L.op rfl rfl (O.move rfl (L.op rfl rfl (O.len Tryz.runUnderlying30 rfl (Sl.val hV13) (L.op rfl rfl (O.neq_f rfl rfl rfl (L.op rfl rfl (O.pick_false rfl rfl (L.op rfl rfl (O.move rfl (L.op rfl rfl (O.move rfl (L.op rfl rfl (O.len Tryz.runUnderlying30 rfl (Sl.val hV14) (L.op rfl rfl (O.neq_f rfl rfl rfl (L.op rfl rfl (O.pick_false rfl rfl (L.nil (T.cond_false rfl (T.skip (T.seq (T.region (L.op rfl rfl (O.fieldAddr Tryz.runUnderlying32 rfl Tryz.sizeOf30 rfl (L.op rfl rfl (O.load Tryz.isAgg30 rfl (hT10.cell rfl) (L.op rfl rfl (O.indexAddr Tryz.runUnderlying30 Tryz.sizeOf39 rfl rfl hV10 (by simp) (by simp) (L.op rfl rfl (O.fieldAddr Tryz.runUnderlying39 rfl Tryz.sizeOf3 rfl (L.op rfl rfl (O.load Tryz.isAgg3 rfl (Its.cell (i := 0) (j := 2) hV10 (by simp) (by decide) rfl) (L.op rfl rfl (O.eql_t rfl rfl rfl (?_)))))))))))))))))))))))))))))))))))))))))))
  refine L.op rfl rfl (O.move rfl (L.op rfl rfl (O.move rfl (L.op rfl rfl (O.eql_t rfl rfl rfl (L.op rfl rfl (O.pick_true rfl rfl (L.op rfl rfl (O.move rfl (L.op rfl rfl (O.fieldAddr Tryz.runUnderlying32 rfl Tryz.sizeOf4 rfl (L.op rfl rfl (O.load Tryz.isAgg4 rfl (hT11.cell rfl) (L.op rfl rfl (O.pick_true rfl rfl (L.op rfl rfl (O.move rfl (L.op rfl rfl (O.move rfl (L.op rfl rfl (O.eql_t rfl rfl rfl (L.op rfl rfl (O.pick_true rfl rfl (L.op rfl rfl (O.move rfl (L.op rfl rfl (O.fieldAddr Tryz.runUnderlying32 rfl Tryz.sizeOf30 rfl (L.op rfl rfl (O.load Tryz.isAgg30 rfl (hT12.cell rfl) (L.op rfl rfl (O.indexAddr Tryz.runUnderlying30 Tryz.sizeOf39 rfl rfl hV12 (by simp) (by simp) (L.op rfl rfl (O.fieldAddr Tryz.runUnderlying39 rfl Tryz.sizeOf9 rfl (L.op rfl rfl (O.load Tryz.isAgg9 rfl (Its.cell (i := 0) (j := 6) hV12 (by simp) (by decide) rfl) (L.op rfl rfl (O.eql_str_t Tryz.runUnderlying9 rfl rfl rfl (L.op rfl rfl (O.pick_true rfl rfl (L.op rfl rfl (O.move rfl (L.op rfl rfl (O.fieldAddr Tryz.runUnderlying32 rfl Tryz.sizeOf30 rfl (L.op rfl rfl (O.load Tryz.isAgg30 rfl (hT12.cell rfl) (L.op rfl rfl (O.indexAddr Tryz.runUnderlying30 Tryz.sizeOf39 rfl rfl hV12 (by simp) (by simp) (?_))))))))))))))))))))))))))))))))))))))))))))))))
  refine L.op rfl rfl (O.fieldAddr Tryz.runUnderlying39 rfl Tryz.sizeOf4 rfl (L.op rfl rfl (O.load Tryz.isAgg4 rfl (Its.cell (i := 0) (j := 5) hV12 (by simp) (by decide) rfl) (L.op rfl rfl (O.pick_true rfl rfl (L.op rfl rfl (O.move rfl (L.op rfl rfl (O.move rfl (L.op rfl rfl (O.eql_t rfl rfl rfl (L.op rfl rfl (O.pick_true rfl rfl (L.op rfl rfl (O.move rfl (L.op rfl rfl (O.move rfl (L.op rfl rfl (O.indexAddr Tryz.runUnderlying30 Tryz.sizeOf39 rfl rfl hV13 (by simp) (by simp) (L.op rfl rfl (O.fieldAddr Tryz.runUnderlying39 rfl Tryz.sizeOf9 rfl (L.op rfl rfl (O.load Tryz.isAgg9 rfl (Its.cell (i := 0) (j := 1) hV13 (by simp) (by decide) rfl) (L.op rfl rfl (O.eql_str_t Tryz.runUnderlying9 rfl rfl rfl (L.op rfl rfl (O.pick_true rfl rfl (L.op rfl rfl (O.move rfl (L.op rfl rfl (O.move rfl (L.op rfl rfl (O.eql_t rfl rfl rfl (L.op rfl rfl (O.pick_true rfl rfl (L.op rfl rfl (O.move rfl (L.op rfl rfl (O.move rfl (L.op rfl rfl (O.indexAddr Tryz.runUnderlying30 Tryz.sizeOf39 rfl rfl hV14 (by simp) (by simp) (L.op rfl rfl (O.fieldAddr Tryz.runUnderlying39 rfl Tryz.sizeOf9 rfl (L.op rfl rfl (O.load Tryz.isAgg9 rfl (Its.cell (i := 0) (j := 1) hV14 (by simp) (by decide) rfl) (L.op rfl rfl (O.eql_str_t Tryz.runUnderlying9 rfl rfl rfl (?_))))))))))))))))))))))))))))))))))))))))))))))))
  refine L.op rfl rfl (O.pick_true rfl rfl (L.op rfl rfl (O.move rfl (L.op rfl rfl (O.move rfl (L.op rfl rfl (O.eql_t rfl rfl rfl (L.op rfl rfl (O.pick_true rfl rfl (L.op rfl rfl (O.move rfl (L.op rfl rfl (O.move rfl (L.op rfl rfl (O.eql_str_t Tryz.runUnderlying9 rfl rfl rfl (L.op rfl rfl (O.pick_true rfl rfl (L.op rfl rfl (O.move rfl (L.op rfl rfl (O.move rfl (L.op rfl rfl (O.eql_t rfl rfl rfl (L.op rfl rfl (O.pick_true rfl rfl (L.op rfl rfl (O.move rfl (L.op rfl rfl (O.move rfl (L.op rfl rfl (O.eql_t rfl rfl rfl (L.op rfl rfl (O.pick_true rfl rfl (L.op rfl rfl (O.move rfl (L.op rfl rfl (O.move rfl (L.op rfl rfl (O.eql_t rfl rfl rfl (L.op rfl rfl (O.pick_true rfl rfl (L.op rfl rfl (O.move rfl (L.op rfl rfl (O.move rfl (L.op rfl rfl (O.eql_t rfl rfl rfl (?_))))))))))))))))))))))))))))))))))))))))))))))))
  refine L.op rfl rfl (O.pick_true rfl rfl (L.op rfl rfl (O.move rfl (L.op rfl rfl (O.move rfl (L.op rfl rfl (O.eql_t rfl rfl rfl (L.op rfl rfl (O.pick_true rfl rfl (L.op rfl rfl (O.move rfl (L.op rfl rfl (O.loadAgg Tryz.isAgg42 Tryz.sizeOf42 rfl rfl ((hA9.ext hx18).row) (L.op rfl rfl (O.loadAgg Tryz.isAgg42 Tryz.sizeOf42 rfl rfl ((hA9.ext hx18).row) (L.op rfl rfl (O.buildSlice (el := 42) (parts := [(0, .tmp 190), (1, .tmp 191)]) (vs := [(0, _), (1, _)]) (cs := ([enA q, enA q].map En.cells).flatten) rfl (fun w => by kernel_rfl) (fun b181 w181 hb181 hz181 he181 hB181 => ?_))))))))))))))))))
  have hx181 := hx18.trans he181
  refine L.op rfl rfl (O.call (xs := [.const (.int .i64 1), .tmp 192]) Tryz.call45 rfl rfl (stops_calls 0 _ [enA q, enA q] w181 (ens_blk hB181 rfl (by decide)) (allOk2 oA oA) (hL9.ext hx181) (rep_AA q)) (fun v182 w182 hq => ?_))
  obtain ⟨rfl, he182⟩ := hq
  have hx19 := hx181.trans he182
  refine L.op rfl rfl (O.pick_true rfl rfl (L.op rfl rfl (O.move rfl (L.op rfl rfl (O.loadAgg Tryz.isAgg42 Tryz.sizeOf42 rfl rfl ((hC9.ext hx19).row) (L.op rfl rfl (O.loadAgg Tryz.isAgg42 Tryz.sizeOf42 rfl rfl ((hA9.ext hx19).row) (L.op rfl rfl (O.buildSlice (el := 42) (parts := [(0, .tmp 196), (1, .tmp 197)]) (vs := [(0, _), (1, _)]) (cs := ([enB, enA q].map En.cells).flatten) rfl (fun w => by kernel_rfl) (fun b191 w191 hb191 hz191 he191 hB191 => ?_))))))))))
  have hx191 := hx19.trans he191
  refine L.op rfl rfl (O.call (xs := [.const (.int .i64 1), .tmp 198]) Tryz.call45 rfl rfl (stops_calls 0 _ [enB, enA q] w191 (ens_blk hB191 rfl (by decide)) (allOk2 ok_B oA) (hL9.ext hx191) (rep_BA q)) (fun v192 w192 hq => ?_))
  obtain ⟨rfl, he192⟩ := hq
  have hx20 := hx191.trans he192
  refine L.op rfl rfl (O.pick_true rfl rfl (L.op rfl rfl (O.move rfl (L.op rfl rfl (O.loadAgg Tryz.isAgg42 Tryz.sizeOf42 rfl rfl ((hA9.ext hx20).row) (L.op rfl rfl (O.loadAgg Tryz.isAgg42 Tryz.sizeOf42 rfl rfl ((hD9.ext hx20).row) (L.op rfl rfl (O.buildSlice (el := 42) (parts := [(0, .tmp 202), (1, .tmp 203)]) (vs := [(0, _), (1, _)]) (cs := ([enA q, enC].map En.cells).flatten) rfl (fun w => by kernel_rfl) (fun b201 w201 hb201 hz201 he201 hB201 => ?_))))))))))
  have hx201 := hx20.trans he201
  refine L.op rfl rfl (O.call (xs := [.const (.int .i64 1), .tmp 204]) Tryz.call45 rfl rfl (stops_calls 0 _ [enA q, enC] w201 (ens_blk hB201 rfl (by decide)) (allOk2 oA ok_C) (hL9.ext hx201) (rep_AC q)) (fun v202 w202 hq => ?_))
  obtain ⟨rfl, he202⟩ := hq
  have hx21 := hx201.trans he202
  refine L.op rfl rfl (O.pick_true rfl rfl (L.op rfl rfl (O.assign rfl (L.nil (T.ret1 Tryz.results10 rfl ⟨rfl, he09.trans hx21⟩)))))

end Go.Proofs.YtmnihgcffdmodaaGreatDoor
set_option linter.unusedVariables false
set_option linter.unusedSimpArgs false
set_option maxRecDepth 20000
namespace Go.Proofs.YtmnihgcffdmodaaGreatDoor
open Go Go.E RowKit
attribute [local irreducible] Go.E.T Go.E.L Go.E.O Go.E.Ob

attribute [local irreducible] Go.E.ObX Go.E.ObK Go.E.ObKP
/-- Four small numbers. -/
structure R4 where
  a : Nat
  b : Nat
  c : Nat
  d : Nat
def r40 : R4 := ⟨0, 0, 0, 0⟩
def R4.cells (r : R4) : List Value := [.int .u8 r.a, .int .u8 r.b, .int .u8 r.c, .int .u8 r.d]
theorem R4.one (r : R4) : ∀ u ∈ r.cells, u.oneCell' = true := by
  intro u hu
  simp only [R4.cells, List.mem_cons, List.mem_nil_iff, or_false] at hu
  rcases hu with rfl | rfl | rfl | rfl <;> rfl
def Rws (lo : Nat) (w : World) (v : Value) (rs : List R4) : Prop := Sl lo w v rs.length 4 (rs.map R4.cells).flatten
theorem Rws.row {lo : Nat} {w : World} {v : Value} {xs : List R4} (h : Rws lo w v xs) {i : Nat} (hi : i < xs.length) : Row w ((sAddr v).add ((i : Int).toNat * 4)) (xs.getD i r40).cells := by
  rw [Int.toNat_natCast]
  refine Sl.elem h (fun c hc => ?_) (i := i) ?_ (by omega)
  · obtain ⟨x, _, rfl⟩ := List.mem_map.1 hc; rfl
  · rw [List.getElem?_map, List.getElem?_eq_getElem hi]; simp [List.getD, hi]
theorem Rws.ext {lo : Nat} {w w' : World} {v : Value} {xs : List R4} (h : Rws lo w v xs) (k : Ext w w') : Rws lo w' v xs := Sl.ext h k
def peopleL : List Str := [sAnn, sBob, sZoe]
def itemsL : List Str := [sMap, [109, 45, 50], [88, 95, 57]]
def contsL : List Str := [sPlan, [], [48, 32, 49, 32, 49], [126]]
def drK (r : R4) : Int := 1 + (r.a : Int) % 5
def drW (r : R4) : Str := peopleL.getD (r.b % 3) []
def drI (r : R4) : Str := itemsL.getD (r.c % 3) []
def drC (r : R4) : Str := contsL.getD (r.d % 4) []
def drE (r : R4) : En :=
  if drK r = 1 ∨ drK r = 2 then ⟨drK r, drW r, drI r, sealN (drC r) sN, [], []⟩
  else if drK r = 4 then ⟨drK r, drW r, [], 0, [], []⟩
  else if drK r = 5 then ⟨drK r, drW r, drI r, 0, drC r, sN⟩
  else ⟨drK r, drW r, drI r, 0, [], []⟩
def dstep (free : Bool) (acc : St × List En) (r : R4) : St × List En := match stepE acc.1 (drE r) with
  | some s' => (s', acc.2 ++ [drE r])
  | none => (acc.1, if free = true then acc.2 ++ [drE r] else acc.2)
def draftF (free : Bool) (rs : List R4) : St × List En := rs.foldl (dstep free) (s0, [])
def draftE (rs : List R4) (free : Bool) : List En := (draftF free (rs.take 12)).2
theorem draftF_snoc {free : Bool} {rs : List R4} {i : Nat} (h : i < rs.length) : draftF free (rs.take (i + 1)) = dstep free (draftF free (rs.take i)) (rs.getD i r40) := by
  rw [draftF, take_snoc (d := r40) h, foldl_snoc]; rfl
theorem mod_lt3 (n : Nat) : n % 3 = 0 ∨ n % 3 = 1 ∨ n % 3 = 2 := by omega
theorem mod_lt4 (n : Nat) : n % 4 = 0 ∨ n % 4 = 1 ∨ n % 4 = 2 ∨ n % 4 = 3 := by omega
theorem drW_cases (r : R4) : drW r = sAnn ∨ drW r = sBob ∨ drW r = sZoe := by
  unfold drW
  rcases mod_lt3 r.b with h | h | h <;> rw [h]
  · exact .inl rfl
  · exact .inr (.inl rfl)
  · exact .inr (.inr rfl)
theorem drI_cases (r : R4) : drI r = sMap ∨ drI r = [109, 45, 50] ∨ drI r = [88, 95, 57] := by
  unfold drI
  rcases mod_lt3 r.c with h | h | h <;> rw [h]
  · exact .inl rfl
  · exact .inr (.inl rfl)
  · exact .inr (.inr rfl)
theorem drC_cases (r : R4) : drC r = sPlan ∨ drC r = [] ∨ drC r = [48, 32, 49, 32, 49] ∨ drC r = [126] := by
  unfold drC
  rcases mod_lt4 r.d with h | h | h | h <;> rw [h]
  · exact .inl rfl
  · exact .inr (.inl rfl)
  · exact .inr (.inr (.inl rfl))
  · exact .inr (.inr (.inr rfl))
theorem drW_name (r : R4) : nameB (drW r) = true := by rcases drW_cases r with h | h | h <;> rw [h] <;> decide
theorem drI_name (r : R4) : nameB (drI r) = true := by rcases drI_cases r with h | h | h <;> rw [h] <;> decide
theorem drC_made (r : R4) : madeB plainI 0 200 (drC r) = true := by rcases drC_cases r with h | h | h | h <;> rw [h] <;> decide
theorem drK_range (r : R4) : 1 ≤ drK r ∧ drK r ≤ 5 := by unfold drK; omega
theorem drE_right (r : R4) : rightE (drE r) = true := by
  have hk := drK_range r
  have hw := drW_name r
  have hi := drI_name r
  have hc := drC_made r
  have hn : madeB plainI 1 40 sN = true := by decide
  unfold drE
  split
  · rename_i h; simp [rightE, hw, hi, hk, h]; omega
  · split
    · rename_i h; simp [rightE, hw, h]
    · split
      · rename_i h; simp [rightE, hw, hi, hc, hn, h]
      · simp [rightE, hw, hi, hk]; omega
theorem drE_ok (r : R4) : (drE r).ok := by
  have hw := name_len (drW_name r)
  have hi := name_len (drI_name r)
  have hc : (drC r).length ≤ 200 := by have h := drC_made r; simp only [madeB, Bool.and_eq_true, decide_eq_true_eq] at h; omega
  have hq := sealN_lt (drC r) sN
  unfold drE
  split
  · exact ⟨by show (drW r).length ≤ _; omega, by show (drI r).length ≤ _; omega, hq, by simp, by simp⟩
  · split
    · exact ⟨by show (drW r).length ≤ _; omega, by simp, by simp, by simp, by simp⟩
    · split
      · exact ⟨by show (drW r).length ≤ _; omega, by show (drI r).length ≤ _; omega, by simp, by show (drC r).length ≤ _; omega, by simp [sN]⟩
      · exact ⟨by show (drW r).length ≤ _; omega, by show (drI r).length ≤ _; omega, by simp, by simp, by simp⟩
theorem dstep_len (free : Bool) (acc : St × List En) (r : R4) : (dstep free acc r).2.length ≤ acc.2.length + 1 ∧ (dstep free acc r).1.its.length ≤ acc.1.its.length + 1 := by
  unfold dstep
  cases h : stepE acc.1 (drE r) with
  | none => simp only; split <;> simp
  | some s' => have := stepE_len h; simp; omega
def NewE (base : Nat) (v : Value) (w : World) : Prop := ∃ b, v = .pointer (some ⟨b, 0, none⟩) ∧ base ≤ b ∧ Blk w b e0.cells 42
theorem NewE.st {base : Nat} : ∀ v w w', Ext w w' → NewE base v w → NewE base v w' := fun _ _ _ he ⟨b, h1, h2, h3⟩ => ⟨b, h1, h2, h3.ext he⟩
theorem own_base {w : World} {base base' n sz : Nat} {el : TypeId} {v : Value} {cs : List Value} (h : w.ownsRow base el sz v n cs) (hb : base' ≤ base) : w.ownsRow base' el sz v n cs := ⟨h.1, h.2.imp id fun ⟨g, cap, cur, e, h1, rest⟩ => ⟨g, cap, cur, e, Nat.le_trans hb h1, rest⟩⟩
theorem Sl.grown {lo n sz : Nat} {w w' : World} {v : Value} {cs : List Value} {row : Option Nat} (h : Sl lo w v n sz cs) (hG : w.grownBy w' row) (hs : ∀ j, row = some j → 0 < n → v.ownBlock = some j → False) : Sl lo w' v n sz cs := by
  obtain ⟨h1, oa, cap, rfl, h3, h4, h5⟩ := h
  refine ⟨h1, oa, cap, rfl, h3, h4, ?_⟩
  rcases h5 with h5 | ⟨a, rfl, hl, hr⟩
  · exact .inl h5
  · rcases Nat.eq_zero_or_pos n with h0 | h0
    · exact .inl h0
    · refine .inr ⟨a, rfl, hl, fun j u hj => ?_⟩
      have h6 := hr j u hj
      have hlt := World.block_lt_of_cell? w _ h6
      rw [World.cell?_of_block (hG.block _ hlt (fun e => hs _ e.symm h0 (by rw [add_block]; rfl)))]
      exact h6
theorem Sl.ownb {lo n sz j : Nat} {w : World} {v : Value} {cs : List Value} (h : Sl lo w v n sz cs) (hz : 0 < sz) (hn : 0 < n) (hj : v.ownBlock = some j) : lo ≤ j ∧ j < w.heap.size := by
  obtain ⟨cap, hv, _, hlo, hr⟩ := h.there hn
  rw [hv] at hj
  cases hj
  refine ⟨hlo, hr.lt ?_⟩
  intro e
  have := h.1
  rw [e] at this
  have := Nat.mul_pos hn hz
  simp at *
  omega
def xE (r : R4) : En := ⟨drK r, drW r, drI r, 0, [], []⟩
set_option maxHeartbeats 1000000 in
theorem Entries_calls (lo cap : Nat) (oa : Option Addr) (free : Bool) (rs : List R4) (w : World) (hd : Rws lo w (.slice oa rs.length cap) rs) :
    Calls Tryz.prog 11 #[.agg #[.slice oa rs.length cap, .bool free]] w (Ret fun v w' => w'.ownsRow w.heap.size 42 6 v (draftE rs free).length ((draftE rs free).map En.cells).flatten ∧ Ext w w') := by
  have hle := Sl.le hd
  refine T.enter (vs := [.agg #[.slice oa rs.length cap, .bool free]]) Tryz.func11 rfl Tryz.ntmps11 rfl ?_
  refine T.seq (T.region (L.op rfl rfl (O.box rfl (fun b1 w1 hb1 hz1 he1 hB1 => ?_))))
  have hD1 : Blk w1 b1 [.slice oa rs.length cap, .bool free] 24 := hB1
  refine L.op rfl rfl (O.assign rfl (L.nil (T.seq (T.region (L.op rfl rfl (O.buildSlice (el := 9) (parts := [(0, _), (1, _), (2, _)]) (vs := [(0, _), (1, _), (2, _)]) (cs := (peopleL.map str)) rfl (fun w => by kernel_rfl) (fun b14 w14 hb14 hz14 he14 hB14 => ?_)))))))
  refine L.op rfl rfl (O.buildSlice (el := 9) (parts := [(0, _), (1, _), (2, _)]) (vs := [(0, _), (1, _), (2, _)]) (cs := (itemsL.map str)) rfl (fun w => by kernel_rfl) (fun b15 w15 hb15 hz15 he15 hB15 => ?_))
  refine L.op rfl rfl (O.assign rfl (L.op rfl rfl (O.assign rfl (L.nil (T.seq (T.region (L.op rfl rfl (O.buildSlice (el := 9) (parts := [(0, _), (1, _), (2, _), (3, _)]) (vs := [(0, _), (1, _), (2, _), (3, _)]) (cs := (contsL.map str)) rfl (fun w => by kernel_rfl) (fun b16 w16 hb16 hz16 he16 hB16 => ?_)))))))))
  have hP16 : Blk w16 b14 (peopleL.map str) 9 := (hB14.ext he15).ext he16
  have hI16 : Blk w16 b15 (itemsL.map str) 9 := hB15.ext he16
  have hC16 : Blk w16 b16 (contsL.map str) 9 := hB16
  refine L.op rfl rfl (O.assign rfl (L.nil (T.seq (T.region (L.op rfl rfl (O.assign rfl (L.nil (T.seq (T.region (L.op rfl rfl (O.alloc Tryz.zeroValue32 (fun b7 w7 hb7 hz7 he7 hB7 => ?_))))))))))))
  have hS7 : Blk w7 b7 stZ 32 := hB7
  have he716 := (he15.trans he16).trans he7
  have he07 := ((he1.trans he14).trans he716)
  have hD7 : Blk w7 b1 [.slice oa rs.length cap, .bool free] 24 := (hD1.ext he14).ext he716
  have hP7 := hP16.ext he7
  have hI7 := hI16.ext he7
  have hC7 := hC16.ext he7
  have hbz : b1 < b14 ∧ b14 < b15 ∧ b15 < b16 ∧ b16 < b7 ∧ w.heap.size ≤ b1 := by have := hD1.lt; have := hB14.lt; have := hB15.lt; have := hB16.lt; omega
  have hb7z : b7 < w7.heap.size := hS7.lt
  refine L.nil (T.seq (T.seq (T.region (L.op rfl rfl (O.assign rfl (L.nil (T.block (?_))))))))
  refine T.loop (σ := Nat × Value × Value) (fun g => [(1, .pointer (some ⟨b1, 0, none⟩)), (3, .slice (some ⟨b14, 0, none⟩) 3 3), (4, .slice (some ⟨b15, 0, none⟩) 3 3), (5, .slice (some ⟨b16, 0, none⟩) 4 4), (6, g.2.2), (7, .pointer (some ⟨b7, 0, none⟩)), (8, .int .i64 g.1)]) (fun g w' => g.1 ≤ rs.length ∧ g.1 ≤ 12 ∧ Ext w w' ∧ w7.heap.size ≤ w'.heap.size ∧ Blk w' b1 [.slice oa rs.length cap, .bool free] 24 ∧ Blk w' b14 (peopleL.map str) 9 ∧ Blk w' b15 (itemsL.map str) 9 ∧ Blk w' b16 (contsL.map str) 9 ∧ Blk w' b7 (stCells g.2.1 (draftF free (rs.take g.1)).1) 32 ∧ Its 0 w' g.2.1 (draftF free (rs.take g.1)).1.its ∧ w'.ownsRow w7.heap.size 42 6 g.2.2 (draftF free (rs.take g.1)).2.length ((draftF free (rs.take g.1)).2.map En.cells).flatten ∧ (draftF free (rs.take g.1)).2.length ≤ g.1 ∧ (draftF free (rs.take g.1)).1.its.length ≤ g.1 ∧ (∀ j, g.2.2.ownBlock = some j → 0 < (draftF free (rs.take g.1)).1.its.length → g.2.1.ownBlock = some j → False)) (fun g => 12 - g.1) ((0, .slice none 0 0, .slice none 0 0)) ⟨rfl, rfl, rfl, rfl, rfl, rfl, rfl, trivial⟩ ⟨Nat.zero_le _, Nat.zero_le _, he07, Nat.le_refl _, hD7, hP7, hI7, hC7, hS7, Sl.nil _ _ _, owns_nil _ _ _ _, Nat.le_refl _, Nat.le_refl _, fun j hj => by cases hj⟩ ?_
  rintro ⟨i, pv, hv⟩ w8 ⟨hi, hi12, he8, hz8, hD8, hP8, hI8, hC8, hS8, hT8, hO8, hl8, hs8, hsep⟩
  simp only at hi hi12 hS8 hT8 hO8 hl8 hs8 hsep
  have hd8 : Rws lo w8 (.slice oa rs.length cap) rs := hd.ext he8
  obtain ⟨s, hs⟩ : ∃ s, s = (draftF free (rs.take i)).1 := ⟨_, rfl⟩
  obtain ⟨h, hh⟩ : ∃ h, h = (draftF free (rs.take i)).2 := ⟨_, rfl⟩
  have hpair : draftF free (rs.take i) = (s, h) := by rw [hs, hh]
  rw [← hs] at hS8 hT8 hs8 hsep
  rw [← hh] at hO8 hl8
  refine T.seq (T.seq (T.region (L.op rfl rfl (O.move rfl (L.op rfl rfl (O.fieldAddr Tryz.runUnderlying24 rfl Tryz.sizeOf22 rfl (L.op rfl rfl (O.load Tryz.isAgg22 rfl (hD8.cell rfl) (L.op rfl rfl (O.len Tryz.runUnderlying22 rfl (Sl.val hd8) (?_)))))))))))
  rcases (show (i < rs.length ∧ i < 12) ∨ (i < rs.length ∧ ¬ i < 12) ∨ ¬ i < rs.length by omega) with hlt | hlt | hlt
  · obtain ⟨hlt1, hlt2⟩ := hlt
    refine L.op rfl rfl (O.lss_t rfl rfl (by (try dsimp only); omega) (L.op rfl rfl (O.move rfl (L.op rfl rfl (O.move rfl (L.op rfl rfl (O.lss_t rfl rfl (by (try dsimp only); omega) (?_))))))))
    obtain ⟨r, hr⟩ : ∃ r, r = rs.getD i r40 := ⟨_, rfl⟩
    have hsn := draftF_snoc (free := free) hlt1
    rw [hpair, ← hr] at hsn
    refine L.op rfl rfl (O.pick_true rfl rfl (L.nil (T.cond_true rfl (T.skip (T.seq (T.block (T.seq (T.region (L.op rfl rfl (O.fieldAddr Tryz.runUnderlying24 rfl Tryz.sizeOf22 rfl (L.op rfl rfl (O.load Tryz.isAgg22 rfl (hD8.cell rfl) (L.op rfl rfl (O.move rfl (L.op rfl rfl (O.indexAddr Tryz.runUnderlying22 Tryz.sizeOf78 rfl rfl hd8 (by (try dsimp only); omega) (by (try dsimp only); omega) (L.op rfl rfl (O.loadAgg Tryz.isAgg78 Tryz.sizeOf78 rfl rfl (hd8.row hlt1) (?_)))))))))))))))))))
    rw [← hr]
    refine L.op rfl rfl (O.alloc Tryz.zeroValue78 (fun b9 w9 hb9 hz9 he9 hB9 => ?_))
    have hZ9 : Blk w9 b9 r40.cells 78 := hB9
    refine L.op rfl rfl (O.storeAgg Tryz.sizeOf78 rfl rfl rfl hZ9 (Nat.le_refl _) (R4.one r) (fun w10 hu10 hB10 => ?_))
    have hu10 : Upd b9 _ _ := hu10
    have hR10 : Blk w10 b9 r.cells 78 := hB10
    have he810 : Ext w8 w10 := he9.upd hu10 (.inr (by omega))
    have hP10 : Strs 0 w10 (.slice (some ⟨b14, 0, none⟩) 3 3) peopleL := Strs.of_blk (hP8.ext he810) rfl (by decide) (Nat.zero_le _)
    have hI10 : Strs 0 w10 (.slice (some ⟨b15, 0, none⟩) 3 3) itemsL := Strs.of_blk (hI8.ext he810) rfl (by decide) (Nat.zero_le _)
    have hC10 : Strs 0 w10 (.slice (some ⟨b16, 0, none⟩) 4 4) contsL := Strs.of_blk (hC8.ext he810) rfl (by decide) (Nat.zero_le _)
    have l3 : peopleL.length = 3 ∧ itemsL.length = 3 ∧ contsL.length = 4 := ⟨rfl, rfl, rfl⟩
    refine L.nil (T.seq (?_))
    refine T.anyE mixed 19 [9, 3, 4] rfl [.is _, .is _, .is _, .is _, .is _, .is _, .is _, .is _, .is (.int .u8 ((r.b % 3 : Nat) : Int)), .is _, .is _, .is _, .is _, .is _, .is (.int .u8 ((r.c % 3 : Nat) : Int)), .is _, .is _, .is _, .such (NewE w10.heap.size)] [[], [0], [1], [2], [3], [], [], [6], [7], [5, 8], [9], [], [], [12], [13], [11, 14], [15], [4, 10, 16], []] [[], [0], [0, 1], [0, 1, 2], [0, 1, 2, 3], [], [], [6], [6, 7], [5, 6, 7, 8], [5, 6, 7, 8, 9], [], [], [12], [12, 13], [11, 12, 13, 14], [11, 12, 13, 14, 15], [0, 1, 2, 3, 4, 5, 6, 7, 8, 9, 10, 11, 12, 13, 14, 15, 16], [], [0, 1, 2, 3, 4, 5, 6, 7, 8, 9, 10, 11, 12, 13, 14, 15, 16, 17, 18]] (by kernel_rfl) (by kernel_rfl) rfl (by kernel_rfl) ⟨NewE.st, trivial⟩ ⟨fun wx hx => Ob.op rfl (O.indexAddr_arr Tryz.runUnderlying78 Tryz.sizeOf5 rfl rfl (by decide) (by decide) ⟨Keep.refl _ _, rfl⟩),
        fun wx hx => Ob.op rfl (O.load Tryz.isAgg5 rfl (Blk.at (hR10.ext hx) rfl) ⟨Keep.refl _ _, rfl⟩),
        fun wx hx => Ob.op rfl (O.rem rfl rfl (by omega) (by omega) ⟨Keep.refl _ _, rfl⟩),
        fun wx hx => Ob.op rfl (O.conv_to rfl (fun w => ⟨_, Tryz.runUnderlying5 w⟩) Tryz.runUnderlying3 (IntWalk.i64_in _ ⟨by omega, by omega⟩) ⟨Keep.refl _ _, rfl⟩),
        fun wx hx => Ob.op rfl (O.add64 rfl rfl (by omega) ⟨Keep.refl _ _, rfl⟩),
        fun wx hx => Ob.op rfl (O.move rfl ⟨Keep.refl _ _, rfl⟩),
        fun wx hx => Ob.op rfl (O.indexAddr_arr Tryz.runUnderlying78 Tryz.sizeOf5 rfl rfl (by decide) (by decide) ⟨Keep.refl _ _, rfl⟩),
        fun wx hx => Ob.op rfl (O.load Tryz.isAgg5 rfl (Blk.at (hR10.ext hx) rfl) ⟨Keep.refl _ _, rfl⟩),
        fun wx hx => Ob.op rfl (O.rem rfl rfl (by omega) (by omega) ⟨Keep.refl _ _, by rw [show ((r.b : Int) % 3) = ((r.b % 3 : Nat) : Int) by omega]; rfl⟩),
        fun wx hx => Ob.op rfl (O.indexAddr Tryz.runUnderlying77 Tryz.sizeOf9 rfl rfl (Strs.ext hP10 hx) (by omega) (by omega) ⟨Keep.refl _ _, rfl⟩),
        fun wx hx => Ob.op rfl (O.load Tryz.isAgg9 rfl (Strs.at (i := r.b % 3) (Strs.ext hP10 hx) (by omega)) ⟨Keep.refl _ _, rfl⟩),
        fun wx hx => Ob.op rfl (O.move rfl ⟨Keep.refl _ _, rfl⟩),
        fun wx hx => Ob.op rfl (O.indexAddr_arr Tryz.runUnderlying78 Tryz.sizeOf5 rfl rfl (by decide) (by decide) ⟨Keep.refl _ _, rfl⟩),
        fun wx hx => Ob.op rfl (O.load Tryz.isAgg5 rfl (Blk.at (hR10.ext hx) rfl) ⟨Keep.refl _ _, rfl⟩),
        fun wx hx => Ob.op rfl (O.rem rfl rfl (by omega) (by omega) ⟨Keep.refl _ _, by rw [show ((r.c : Int) % 3) = ((r.c % 3 : Nat) : Int) by omega]; rfl⟩),
        fun wx hx => Ob.op rfl (O.indexAddr Tryz.runUnderlying77 Tryz.sizeOf9 rfl rfl (Strs.ext hI10 hx) (by omega) (by omega) ⟨Keep.refl _ _, rfl⟩),
        fun wx hx => Ob.op rfl (O.load Tryz.isAgg9 rfl (Strs.at (i := r.c % 3) (Strs.ext hI10 hx) (by omega)) ⟨Keep.refl _ _, rfl⟩),
        fun wx hx => Ob.op rfl (O.build (v := (xE r).val) (parts := [(0, .tmp 37), (1, .tmp 43), (2, .tmp 49)]) (vs := [(0, _), (1, _), (2, _)]) rfl (fun w => by kernel_rfl) ⟨Keep.refl _ _, rfl⟩),
        fun wx hx => Ob.op rfl (O.alloc Tryz.zeroValue42 (fun b wy hb hz he hB => ⟨he, b, rfl, by have := hx.size; omega, hB⟩)),
        trivial⟩ (fun w11 he11 v10 hv10 => ?_)
    obtain ⟨b10, rfl, hb10, hZ11⟩ := hv10
    refine L.op rfl rfl (O.storeAgg Tryz.sizeOf42 rfl rfl rfl hZ11 (Nat.le_refl _) (En.one _) (fun w12 hu12 hB12 => ?_))
    have hu12 : Upd b10 _ _ := hu12
    have hX12 : Blk w12 b10 (xE r).cells 42 := hB12
    have hz10 := he810.size
    have he812 : Ext w8 w12 := (he810.trans he11).upd hu12 (.inr (by omega))
    have hR12 : Blk w12 b9 r.cells 78 := (hR10.ext he11).upd hu12 (by have := hR10.lt; omega)
    have hC12 : Strs 0 w12 (.slice (some ⟨b16, 0, none⟩) 4 4) contsL := Strs.of_blk (hC8.ext he812) rfl (by decide) (Nat.zero_le _)
    refine L.nil (T.seq (T.region (L.op rfl rfl (O.move rfl (L.op rfl rfl (O.indexAddr_arr Tryz.runUnderlying78 Tryz.sizeOf5 rfl rfl (by decide) (by decide) (L.op rfl rfl (O.load Tryz.isAgg5 rfl (Blk.at hR12 rfl) (L.op rfl rfl (O.rem rfl rfl (by omega) (by omega) (?_)))))))))))
    have e4 : ((r.d : Int) % 4) = ((r.d % 4 : Nat) : Int) := by omega
    rw [e4]
    refine L.op rfl rfl (O.indexAddr Tryz.runUnderlying77 Tryz.sizeOf9 rfl rfl hC12 (by omega) (by omega) (L.op rfl rfl (O.load Tryz.isAgg9 rfl (Strs.at (i := r.d % 4) hC12 (by omega)) (L.op rfl rfl (O.assign rfl (L.nil (T.seq (T.seq (T.region (L.op rfl rfl (O.fieldAddr Tryz.runUnderlying42 rfl Tryz.sizeOf3 rfl (L.op rfl rfl (O.load Tryz.isAgg3 rfl (hX12.cell rfl) (?_))))))))))))))
    have hkr := drK_range r
    have hb10w : w8.heap.size ≤ b10 := by omega
    refine L.nil (?_)
    refine T.join (σ := Unit) (fun _ => [(1, .pointer (some ⟨b1, 0, none⟩)), (3, .slice (some ⟨b14, 0, none⟩) 3 3), (4, .slice (some ⟨b15, 0, none⟩) 3 3), (5, .slice (some ⟨b16, 0, none⟩) 4 4), (6, hv), (7, .pointer (some ⟨b7, 0, none⟩)), (8, .int .i64 i), (10, .pointer (some ⟨b10, 0, none⟩))]) (fun _ w' => Ext w8 w' ∧ Blk w' b10 (drE r).cells 42) ?_ ?_
    · rcases (show (drK r = 1 ∨ drK r = 2) ∨ drK r = 3 ∨ drK r = 4 ∨ drK r = 5 by omega) with hk | hk | hk | hk
      · have hcl : (drC r).length ≤ 200 := by have h := drC_made r; simp only [madeB, Bool.and_eq_true, decide_eq_true_eq] at h; omega
        rcases hk with hk1 | hk1
        · refine T.block (T.seq (T.seq (T.region (L.op rfl rfl (O.eql_t rfl rfl hk1 (L.op rfl rfl (O.assign rfl (L.nil (T.cond_true rfl (T.skip (T.cond_true rfl (T.region (L.op rfl rfl (O.move rfl (L.op rfl rfl (O.call (xs := [.tmp 62, _]) Tryz.call32 rfl rfl (Seal_calls (drC r) sN w12 (by simp [sN]; omega)) (fun v13 w13 hq => ?_)))))))))))))))))
          obtain ⟨rfl, he13⟩ := hq
          refine L.op rfl rfl (O.fieldAddr Tryz.runUnderlying42 rfl Tryz.sizeOf25 rfl (L.op rfl rfl (O.store1 Tryz.sizeOf25 rfl rfl rfl (hX12.ext he13) (by simp [En.cells]) (fun w14 hu14 hB14 => ?_))))
          have hu14 : Upd b10 _ _ := hu14
          refine L.nil (T.blk (T.meet (()) ⟨rfl, rfl, rfl, rfl, rfl, rfl, rfl, rfl, trivial⟩ ⟨(he812.trans he13).upd hu14 (.inr hb10w), by rw [drE, if_pos (.inl hk1)]; exact hB14⟩))
        · refine T.block (T.seq (T.seq (T.region (L.op rfl rfl (O.eql_f rfl rfl (show ¬ drK r = 1 from by omega) (L.op rfl rfl (O.assign rfl (L.nil (T.cond_false rfl (T.region (L.op rfl rfl (O.eql_t rfl rfl hk1 (L.op rfl rfl (O.assign rfl (L.nil (T.cond_true rfl (T.region (L.op rfl rfl (O.move rfl (L.op rfl rfl (O.call (xs := [.tmp 62, _]) Tryz.call32 rfl rfl (Seal_calls (drC r) sN w12 (by simp [sN]; omega)) (fun v13 w13 hq => ?_))))))))))))))))))))))
          obtain ⟨rfl, he13⟩ := hq
          refine L.op rfl rfl (O.fieldAddr Tryz.runUnderlying42 rfl Tryz.sizeOf25 rfl (L.op rfl rfl (O.store1 Tryz.sizeOf25 rfl rfl rfl (hX12.ext he13) (by simp [En.cells]) (fun w14 hu14 hB14 => ?_))))
          have hu14 : Upd b10 _ _ := hu14
          refine L.nil (T.blk (T.meet (()) ⟨rfl, rfl, rfl, rfl, rfl, rfl, rfl, rfl, trivial⟩ ⟨(he812.trans he13).upd hu14 (.inr hb10w), by rw [drE, if_pos (.inr hk1)]; exact hB14⟩))
      · refine T.block (T.seq (T.seq (T.region (L.op rfl rfl (O.eql_f rfl rfl (show ¬ drK r = 1 from by omega) (L.op rfl rfl (O.assign rfl (L.nil (T.cond_false rfl (T.region (L.op rfl rfl (O.eql_f rfl rfl (show ¬ drK r = 2 from by omega) (L.op rfl rfl (O.assign rfl (L.nil (T.cond_false rfl (T.seq (T.region (L.op rfl rfl (O.eql_f rfl rfl (show ¬ drK r = 4 from by omega) (L.op rfl rfl (O.assign rfl (L.nil (T.cond_false rfl (T.seq (T.region (L.op rfl rfl (O.eql_f rfl rfl (show ¬ drK r = 5 from by omega) (L.op rfl rfl (O.assign rfl (L.nil (?_))))))))))))))))))))))))))))))))
        refine T.cond_false rfl (T.skip (T.blk (T.meet (()) ⟨rfl, rfl, rfl, rfl, rfl, rfl, rfl, rfl, trivial⟩ ⟨he812, by rw [drE, if_neg (by omega), if_neg (by omega), if_neg (by omega)]; exact hX12⟩)))
      · refine T.block (T.seq (T.seq (T.region (L.op rfl rfl (O.eql_f rfl rfl (show ¬ drK r = 1 from by omega) (L.op rfl rfl (O.assign rfl (L.nil (T.cond_false rfl (T.region (L.op rfl rfl (O.eql_f rfl rfl (show ¬ drK r = 2 from by omega) (L.op rfl rfl (O.assign rfl (L.nil (T.cond_false rfl (T.seq (T.region (L.op rfl rfl (O.eql_t rfl rfl hk (L.op rfl rfl (O.assign rfl (L.nil (T.cond_true rfl (T.region (L.op rfl rfl (O.fieldAddr Tryz.runUnderlying42 rfl Tryz.sizeOf9 rfl (L.op rfl rfl (O.store1 Tryz.sizeOf9 rfl rfl rfl hX12 (by simp [En.cells]) (fun w14 hu14 hB14 => ?_))))))))))))))))))))))))))))))
        have hu14 : Upd b10 _ _ := hu14
        refine L.nil (T.blk (T.meet (()) ⟨rfl, rfl, rfl, rfl, rfl, rfl, rfl, rfl, trivial⟩ ⟨he812.upd hu14 (.inr hb10w), by rw [drE, if_neg (by omega), if_pos hk]; exact hB14⟩))
      · refine T.block (T.seq (T.seq (T.region (L.op rfl rfl (O.eql_f rfl rfl (show ¬ drK r = 1 from by omega) (L.op rfl rfl (O.assign rfl (L.nil (T.cond_false rfl (T.region (L.op rfl rfl (O.eql_f rfl rfl (show ¬ drK r = 2 from by omega) (L.op rfl rfl (O.assign rfl (L.nil (T.cond_false rfl (T.seq (T.region (L.op rfl rfl (O.eql_f rfl rfl (show ¬ drK r = 4 from by omega) (L.op rfl rfl (O.assign rfl (L.nil (T.cond_false rfl (T.seq (T.region (L.op rfl rfl (O.eql_t rfl rfl hk (L.op rfl rfl (O.assign rfl (L.nil (?_))))))))))))))))))))))))))))))))
        refine T.cond_true rfl (T.seq (T.region (L.op rfl rfl (O.move rfl (L.op rfl rfl (O.fieldAddr Tryz.runUnderlying42 rfl Tryz.sizeOf9 rfl (L.op rfl rfl (O.store1 Tryz.sizeOf9 rfl rfl rfl hX12 (by simp [En.cells]) (fun w14 hu14 hB14 => ?_)))))))))
        have hu14 : Upd b10 _ _ := hu14
        have hX14 : Blk w14 b10 (⟨drK r, drW r, drI r, 0, drC r, []⟩ : En).cells 42 := hB14
        refine L.nil (T.region (L.op rfl rfl (O.fieldAddr Tryz.runUnderlying42 rfl Tryz.sizeOf9 rfl (L.op rfl rfl (O.store1 Tryz.sizeOf9 rfl rfl rfl hX14 (by simp [En.cells]) (fun w15 hu15 hB15 => ?_))))))
        have hu15 : Upd b10 _ _ := hu15
        refine L.nil (T.blk (T.meet (()) ⟨rfl, rfl, rfl, rfl, rfl, rfl, rfl, rfl, trivial⟩ ⟨(he812.upd hu14 (.inr hb10w)).upd hu15 (.inr hb10w), by rw [drE, if_neg (by omega), if_neg (by omega), if_pos hk]; exact hB15⟩))
    rintro _ w13 ⟨he13, hX13⟩
    have hS13 := hS8.ext he13
    have hT13 := hT8.ext he13
    have hO13 := owns_keep hO8 (he13.mono (Nat.zero_le w7.heap.size)) (Nat.le_refl _)
    have hxk : 1 ≤ (drE r).k ∧ (drE r).k ≤ 5 := (right_bounds (drE_right r)).k
    have hxb := right_bounds (drE_right r)
    have hxc := hxb.con
    have hxn := hxb.non
    refine T.seq (T.region (L.op rfl rfl (O.loadAgg Tryz.isAgg32 Tryz.sizeOf32 rfl rfl hS13.row (L.op rfl rfl (O.loadAgg Tryz.isAgg42 Tryz.sizeOf42 rfl rfl hX13.row (L.op rfl rfl (O.call (xs := [.tmp 74, .tmp 75]) Tryz.call46 rfl rfl (Rstep_callsF 0 pv s (drE r) w13 hT13 (drE_ok r) (by omega) hxk (by omega)) (fun v20 w20 hq => ?_))))))))
    obtain ⟨pv2, s2, hv20, hI20, hq20, he20⟩ := hq
    subst hv20
    refine L.op rfl rfl (O.move rfl (L.op rfl rfl (O.extract rfl rfl (L.op rfl rfl (O.extract rfl rfl (L.op rfl rfl (O.alloc Tryz.zeroValue32 (fun b23 w23 hb23 hz23 he23 hB23 => ?_))))))))
    refine L.op rfl rfl (O.storeAgg Tryz.sizeOf32 rfl rfl rfl hB23 (Nat.le_refl _) (stCells_one s2 (Sl.one hI20)) (fun w21 hu21 hB21 => ?_))
    have hu21 : Upd b23 _ _ := hu21
    have hS21 : Blk w21 b23 (stCells pv2 s2) 32 := hB21
    have he1321 : Ext w13 w21 := (he20.trans he23).upd hu21 (.inr (by have := he20.size; omega))
    have he821 := he13.trans he1321
    have he021 := he8.trans he821
    have hX21 := hX13.ext he1321
    have hS7_21 := hS8.ext he821
    have hO21 := owns_keep hO8 (he821.mono (Nat.zero_le w7.heap.size)) (Nat.le_refl _)
    have hz21 := he821.size
    have hD21 := hD8.ext he821
    have hI21 : Its w13.heap.size w21 pv2 s2.its := Its.ext hI20 (he23.upd hu21 (.inr (by omega)))
    have hb12 : b7 < b23 := by have := he13.size; have := he20.size; omega
    rcases hst : stepE s (drE r) with _ | s'
    · have hd2 : draftF free (rs.take (i + 1)) = (s, if free = true then h ++ [drE r] else h) := by rw [hsn, dstep]; simp only [hst]
      refine L.op rfl rfl (O.assign rfl (?_))
      rcases hfr : free with _ | _
      · refine L.nil (?_)
        rw [hfr] at hD21 hd2
        refine T.seq (T.seq (T.region (L.op rfl rfl (O.move rfl (L.nil (T.cond_false rfl (T.skip (T.seq (T.region (L.op rfl rfl (O.move rfl (L.op rfl rfl (O.move rfl (L.op rfl rfl (O.fieldAddr Tryz.runUnderlying24 rfl Tryz.sizeOf4 rfl (L.op rfl rfl (O.load Tryz.isAgg4 rfl (hD21.cell rfl) (L.op rfl rfl (O.pick_false rfl rfl (L.nil (T.cond_false rfl (T.skip (T.blk (T.region (L.op rfl rfl (O.move rfl (L.op rfl rfl (O.add64 rfl rfl (by (try dsimp only); omega) (L.op rfl rfl (O.assign rfl (L.nil (T.again ((i + 1, pv, hv)) (by omega) ⟨rfl, rfl, rfl, rfl, rfl, rfl, rfl, trivial⟩ ⟨hlt1, hlt2, he021, by omega, hD21, hP8.ext he821, hI8.ext he821, hC8.ext he821, by (try dsimp only); rw [hd2]; exact hS7_21, by (try dsimp only); rw [hd2]; exact hT8.ext he821, by (try dsimp only); rw [hd2]; exact hO21, by (try dsimp only); rw [hd2]; simp; omega, by (try dsimp only); rw [hd2]; simp only; omega, by (try dsimp only); rw [hd2]; exact hsep⟩))))))))))))))))))))))))))))))))
      · refine L.nil (?_)
        rw [hfr] at hD21 hd2
        refine T.seq (T.seq (T.region (L.op rfl rfl (O.move rfl (L.nil (T.cond_false rfl (T.skip (T.seq (T.region (L.op rfl rfl (O.move rfl (L.op rfl rfl (O.move rfl (L.op rfl rfl (O.fieldAddr Tryz.runUnderlying24 rfl Tryz.sizeOf4 rfl (L.op rfl rfl (O.load Tryz.isAgg4 rfl (hD21.cell rfl) (L.op rfl rfl (O.pick_false rfl rfl (L.nil (T.cond_true rfl (T.region (L.op rfl rfl (O.move rfl (L.op rfl rfl (O.loadAgg Tryz.isAgg42 Tryz.sizeOf42 rfl rfl hX21.row (L.op rfl rfl (O.buildSlice (el := 42) (parts := [(0, .tmp 87)]) (vs := [(0, _)]) (cs := (drE r).cells) rfl (fun w => by kernel_rfl) (fun b24 w24 hb24 hz24 he24 hB24 => ?_)))))))))))))))))))))))))))))
        have hO24 := owns_keep hO21 (he24.mono (Nat.zero_le w7.heap.size)) (Nat.le_refl _)
        refine L.op rfl rfl (O.appendF (size := 6) (bytes := 80) Tryz.runUnderlying27 Tryz.infoOf42 rfl rfl rfl rfl (by decide) rfl rfl hO24 (show (drE r).cells.length = 1 * 6 from rfl) hB24.row (En.one _) (by omega) (by simp only [maxLen]; omega) (by have := he24.size; omega) (fun v25 w25 hO25 hG25 hF25 => ?_))
        have hGE : ∀ {b : Nat} {cs : List Value} {t : TypeId}, Blk w21 b cs t → b < w7.heap.size → Blk w25 b cs t := fun h hb => (h.ext he24).grown hG25 (fun j hj e => by have := own_at hO24 hj; omega)
        have hE25 : Ext w w25 := (he021.trans he24).grown0 hO24 hG25 (by have := he07.size; omega)
        have hT24 : Its 0 w24 pv s.its := (hT8.ext he821).ext he24
        have hT25 : Its 0 w25 pv s.its := Sl.grown hT24 hG25 hsep
        have hsep25 : ∀ j, v25.ownBlock = some j → 0 < s.its.length → pv.ownBlock = some j → False := fun j h1 h2 h3 => by
          rcases hF25 j h1 with h4 | h4
          · exact hsep j h4 h2 h3
          · have := (Sl.ownb hT24 (by decide) h2 h3).2; omega
        rw [if_pos rfl] at hd2
        refine L.op rfl rfl (O.assign rfl (L.nil (T.blk (T.region (L.op rfl rfl (O.move rfl (L.op rfl rfl (O.add64 rfl rfl (by (try dsimp only); omega) (L.op rfl rfl (O.assign rfl (L.nil (T.again ((i + 1, pv, v25)) (by omega) ⟨rfl, rfl, rfl, rfl, rfl, rfl, rfl, trivial⟩ ⟨hlt1, hlt2, hE25, by have := he24.size; have := hG25.size; omega, hGE hD21 (by omega), hGE (hP8.ext he821) (by omega), hGE (hI8.ext he821) (by omega), hGE (hC8.ext he821) (by omega), by (try dsimp only); rw [hd2]; exact hGE hS7_21 hb7z, by (try dsimp only); rw [hd2]; exact hT25, by (try dsimp only); rw [hd2, List.length_append, fl_append, fl_one]; exact hO25, by (try dsimp only); rw [hd2]; simp; omega, by (try dsimp only); rw [hd2]; simp only; omega, by (try dsimp only); rw [hd2]; exact hsep25⟩))))))))))))
    · obtain rfl := hq20 _ hst
      have hd2 : draftF free (rs.take (i + 1)) = (s2, h ++ [drE r]) := by rw [hsn, dstep]; simp only [hst]
      refine L.op rfl rfl (O.assign rfl (L.nil (T.seq (T.seq (T.region (L.op rfl rfl (O.move rfl (L.nil (T.cond_true rfl (T.region (L.op rfl rfl (O.loadAgg Tryz.isAgg32 Tryz.sizeOf32 rfl rfl hS21.row (L.op rfl rfl (O.storeAgg Tryz.sizeOf32 rfl rfl rfl hS7_21 (Nat.le_refl _) (stCells_one s2 (Sl.one hI21)) (fun w22 hu22 hB22 => ?_)))))))))))))))
      have hu22 : Upd b7 _ _ := hu22
      have hX22 := hX21.upd hu22 (by omega)
      have hO22 := owns_upd' hO21 (fun j hj e => by have := own_at hO21 hj; omega) hu22
      refine L.nil (T.seq (T.region (L.op rfl rfl (O.move rfl (L.op rfl rfl (O.move rfl (L.pass rfl rfl (L.pass rfl rfl (L.op rfl rfl (O.pick_true rfl rfl (L.nil (T.cond_true rfl (T.region (L.op rfl rfl (O.move rfl (L.op rfl rfl (O.loadAgg Tryz.isAgg42 Tryz.sizeOf42 rfl rfl hX22.row (L.op rfl rfl (O.buildSlice (el := 42) (parts := [(0, .tmp 87)]) (vs := [(0, _)]) (cs := (drE r).cells) rfl (fun w => by kernel_rfl) (fun b24 w24 hb24 hz24 he24 hB24 => ?_))))))))))))))))))))
      have hO24 := owns_keep hO22 (he24.mono (Nat.zero_le w7.heap.size)) (Nat.le_refl _)
      refine L.op rfl rfl (O.appendF (size := 6) (bytes := 80) Tryz.runUnderlying27 Tryz.infoOf42 rfl rfl rfl rfl (by decide) rfl rfl hO24 (show (drE r).cells.length = 1 * 6 from rfl) hB24.row (En.one _) (by omega) (by simp only [maxLen]; omega) (by have := he24.size; have := hu22.size; omega) (fun v25 w25 hO25 hG25 hF25 => ?_))
      have hGE : ∀ {b : Nat} {cs : List Value} {t : TypeId}, Blk w22 b cs t → b < w7.heap.size → Blk w25 b cs t := fun h hb => (h.ext he24).grown hG25 (fun j hj e => by have := own_at hO24 hj; omega)
      have hS22 : Blk w22 b7 (stCells pv2 s2) 32 := hB22
      have hE25 : Ext w w25 := ((he021.upd hu22 (.inr (by omega))).trans he24).grown0 hO24 hG25 (by have := he07.size; omega)
      have hK25 : Keep w13.heap.size w24 w25 := ⟨hG25.os, hG25.tape, hG25.output, hG25.size, fun k hl hk => hG25.block k hk (fun e => by have := (own_at hO8 e.symm).2; have := he13.size; omega)⟩
      have hK2 : Keep w13.heap.size w21 w25 := (((Keep.refl w13.heap.size w21).upd hu22 (.inl (by have := he13.size; omega))).trans (he24.mono (Nat.zero_le _))).trans hK25
      have hI25 : Its 0 w25 pv2 s2.its := Sl.mono (Sl.keep hI21 hK2) (Nat.zero_le _)
      have hsep25 : ∀ j, v25.ownBlock = some j → 0 < s2.its.length → pv2.ownBlock = some j → False := fun j h1 h2 h3 => by
        have h5 := Sl.ownb hI21 (by decide) h2 h3
        rcases hF25 j h1 with h4 | h4
        · have := (own_at hO8 h4).2; have := he13.size; omega
        · have := hu22.size; have := he24.size; omega
      refine L.op rfl rfl (O.assign rfl (L.nil (T.blk (T.region (L.op rfl rfl (O.move rfl (L.op rfl rfl (O.add64 rfl rfl (by (try dsimp only); omega) (L.op rfl rfl (O.assign rfl (L.nil (T.again ((i + 1, pv2, v25)) (by omega) ⟨rfl, rfl, rfl, rfl, rfl, rfl, rfl, trivial⟩ ⟨hlt1, hlt2, hE25, by have := hu22.size; have := he24.size; have := hG25.size; omega, hGE (hD21.upd hu22 (by omega)) (by omega), hGE ((hP8.ext he821).upd hu22 (by omega)) (by omega), hGE ((hI8.ext he821).upd hu22 (by omega)) (by omega), hGE ((hC8.ext he821).upd hu22 (by omega)) (by omega), by (try dsimp only); rw [hd2]; exact hGE hS22 hb7z, by (try dsimp only); rw [hd2]; exact hI25, by (try dsimp only); rw [hd2, List.length_append, fl_append, fl_one]; exact hO25, by (try dsimp only); rw [hd2]; simp; omega, by have := stepE_len hst; (try dsimp only); rw [hd2]; simp only; omega, by (try dsimp only); rw [hd2]; exact hsep25⟩))))))))))))
  · refine L.op rfl rfl (O.lss_t rfl rfl (by (try dsimp only); omega) (L.op rfl rfl (O.move rfl (L.op rfl rfl (O.move rfl (L.op rfl rfl (O.lss_f rfl rfl (by (try dsimp only); omega) (?_))))))))
    have hfin : draftF free (rs.take i) = draftF free (rs.take 12) := by rw [show i = 12 by omega]
    refine L.op rfl rfl (O.pick_true rfl rfl (L.nil (T.cond_false rfl (T.exit rfl (T.seq (T.region (L.op rfl rfl (O.move rfl (L.op rfl rfl (O.assign rfl (L.nil (T.ret1 Tryz.results11 rfl ⟨by rw [draftE, ← hfin, ← hh]; exact (own_base hO8 (by have := he07.size; omega)), he8⟩))))))))))))
  · refine L.op rfl rfl (O.lss_f rfl rfl (by (try dsimp only); omega) (?_))
    have hfin : draftF free (rs.take i) = draftF free (rs.take 12) := by rw [List.take_of_length_le (by omega), List.take_of_length_le (by omega)]
    refine L.op rfl rfl (O.move rfl (L.pass rfl rfl (L.pass rfl rfl (L.op rfl rfl (O.pick_false rfl rfl (L.nil (T.cond_false rfl (T.exit rfl (T.seq (T.region (L.op rfl rfl (O.move rfl (L.op rfl rfl (O.assign rfl (L.nil (T.ret1 Tryz.results11 rfl ⟨by rw [draftE, ← hfin, ← hh]; exact (own_base hO8 (by have := he07.size; omega)), he8⟩))))))))))))))))

end Go.Proofs.YtmnihgcffdmodaaGreatDoor
set_option linter.unusedVariables false
set_option linter.unusedSimpArgs false
set_option maxRecDepth 20000
namespace Go.Proofs.YtmnihgcffdmodaaGreatDoor
open Go Go.E RowKit
attribute [local irreducible] Go.E.T Go.E.L Go.E.O Go.E.Ob

/-- The state behind allowed entries. -/
def runE (s : St) : List En → Option St
  | [] => some s
  | x :: r => match stepE s x with
    | none => none
    | some s' => runE s' r
theorem goE_run : ∀ (xs : List En) (s t : St) (i : Nat), runE s xs = some t → goE s xs i = (t, 0, 0)
  | [], s, t, i, h => by simp only [runE, Option.some.injEq] at h; rw [goE, h]
  | x :: r, s, t, i, h => by
    rw [runE] at h; rw [goE]
    cases hs : stepE s x with
    | none => rw [hs] at h; cases h
    | some s' => rw [hs] at h; exact goE_run r s' t (i + 1) h
theorem runE_app : ∀ (xs ys : List En) (s : St), runE s (xs ++ ys) = (runE s xs).bind fun t => runE t ys
  | [], ys, s => rfl
  | x :: r, ys, s => by
    rw [List.cons_append, runE, runE]
    cases hs : stepE s x with
    | none => rfl
    | some s' => exact runE_app r ys s'
theorem runE_one (s : St) (x : En) : runE s [x] = stepE s x := by
  rw [runE]; cases stepE s x <;> rfl
theorem check_zero {xs : List En} (h : xs.length ≤ 60) (hr : ∀ x ∈ xs, rightE x = true) : checkE xs = 0 := by
  rw [checkE, if_neg (by omega), if_pos (List.all_eq_true.2 hr)]
theorem replay_run {xs : List En} {t : St} (h : xs.length ≤ 60) (hr : ∀ x ∈ xs, rightE x = true) (ht : runE s0 xs = some t) : replayR xs = (t, 0, 0) := by
  rw [replayR, if_pos (check_zero h hr), goE_run xs s0 t 0 ht]
/-- What is known of a state behind drafted entries. -/
structure DrS (s : St) : Prop where
  nm : ∀ x ∈ s.its, x.nm ∈ itemsL
  con : ∀ x ∈ s.its, x.op = false → x.con = []
  nodup : (s.its.map (·.nm)).Nodup
theorem drs0 : DrS s0 := ⟨(fun x hx => by cases hx), (fun x hx => by cases hx), (by simp [s0])⟩
theorem findK_mem {its : List It} {nm : Str} (h : nm ∈ its.map (·.nm)) : findK its nm < its.length := by
  obtain ⟨x, hx, hn⟩ := List.mem_map.1 h
  rw [findK, List.findIdx_lt_length]
  exact ⟨x, hx, decide_eq_true hn⟩
theorem findK_at {its : List It} {nm : Str} (h : findK its nm < its.length) : (its.getD (findK its nm) i0).nm = nm := by
  rw [getD_get h]
  have := List.findIdx_getElem (w := h)
  exact of_decide_eq_true this
theorem map_set_nm {its : List It} {i : Nat} {y : It} (h : i < its.length) (hy : y.nm = (its.getD i i0).nm) : (its.set i y).map (·.nm) = its.map (·.nm) := by
  rw [List.map_set, hy, getD_get h]
  exact List.ext_getElem (by simp) fun j h1 h2 => by
    rw [List.getElem_set]; split
    · rename_i e; subst e; simp
    · rfl
theorem mem_set_or {α : Type} {l : List α} {i : Nat} {a x : α} (h : x ∈ l.set i a) : x ∈ l ∨ x = a := List.mem_or_eq_of_mem_set h
theorem drs_set {s : St} {i : Nat} {y : It} (hs : DrS s) (h : i < s.its.length) (hy : y.nm = (s.its.getD i i0).nm) (hc : y.op = false → y.con = []) : DrS { s with its := s.its.set i y } := by
  refine ⟨fun x hx => ?_, fun x hx ho => ?_, ?_⟩
  · rcases mem_set_or hx with hx | rfl
    · exact hs.nm x hx
    · rw [hy]; exact hs.nm _ (by rw [getD_get h]; exact List.getElem_mem h)
  · rcases mem_set_or hx with hx | rfl
    · exact hs.con x hx ho
    · exact hc ho
  · show ((s.its.set i y).map (·.nm)).Nodup
    rw [map_set_nm h hy]; exact hs.nodup
theorem drs_step {s s' : St} {x : En} (hs : DrS s) (hx : ¬ x.k = 4 → x.item ∈ itemsL) (h : stepE s x = some s') : DrS s' := by
  by_cases h4 : x.k = 4
  · unfold stepE at h
    rw [if_pos h4] at h
    split at h
    · cases h
    · cases h; exact ⟨hs.nm, hs.con, hs.nodup⟩
  · by_cases h1 : x.k = 1
    · unfold stepE at h
      rw [if_neg h4, if_pos h1] at h
      split at h
      · cases h
      · rename_i hn
        cases h
        have hni : ¬ findK s.its x.item < s.its.length := fun e => hn (.inr e)
        refine ⟨fun y hy => ?_, fun y hy ho => ?_, ?_⟩
        · rcases List.mem_append.1 hy with hy | hy
          · exact hs.nm y hy
          · simp only [List.mem_cons, List.mem_nil_iff, or_false] at hy; subst hy; exact hx h4
        · rcases List.mem_append.1 hy with hy | hy
          · exact hs.con y hy ho
          · simp only [List.mem_cons, List.mem_nil_iff, or_false] at hy; subst hy; rfl
        · show ((s.its ++ [itNew x]).map (·.nm)).Nodup
          rw [List.map_append, List.nodup_append]
          refine ⟨hs.nodup, by simp, fun a ha b hb e => ?_⟩
          simp only [List.map_cons, List.map_nil, List.mem_cons, List.mem_nil_iff, or_false] at hb
          subst e
          exact hni (findK_mem (by rw [hb] at ha; exact ha))
    · by_cases hf : findK s.its x.item < s.its.length
      · rw [step_item h4 h1 hf] at h
        have hm : s.its.getD (findK s.its x.item) i0 ∈ s.its := by rw [getD_get hf]; exact List.getElem_mem hf
        split at h
        · cases h
        · split at h
          · split at h
            · cases h
            · cases h; exact drs_set hs hf rfl (hs.con (s.its.getD (findK s.its x.item) i0) hm)
          · split at h
            · split at h
              · cases h
              · cases h; exact drs_set hs hf rfl (hs.con (s.its.getD (findK s.its x.item) i0) hm)
            · split at h
              · cases h
              · cases h; exact drs_set hs hf rfl (fun e => by cases e)
      · rw [step_old h4 h1 hf] at h; cases h
theorem drI_mem (r : R4) : drI r ∈ itemsL := by rcases drI_cases r with h | h | h <;> rw [h] <;> simp [itemsL]
theorem drE_item (r : R4) (h : ¬ (drE r).k = 4) : (drE r).item ∈ itemsL := by
  unfold drE at h ⊢
  split
  · exact drI_mem r
  · split
    · rename_i h1 h4; rw [if_neg h1, if_pos h4] at h; exact absurd h4 h
    · split
      · exact drI_mem r
      · exact drI_mem r
theorem fold_inv {P : St × List En → Prop} {free : Bool} (h : ∀ acc r, P acc → P (dstep free acc r)) : ∀ (rs : List R4) (acc : St × List En), P acc → P (rs.foldl (dstep free) acc)
  | [], acc, hp => hp
  | r :: rs, acc, hp => fold_inv h rs _ (h acc r hp)
/-- What is known of a drafted history without entries that are not allowed. -/
structure DrH (acc : St × List En) : Prop where
  run : runE s0 acc.2 = some acc.1
  st : DrS acc.1
theorem drh_step (acc : St × List En) (r : R4) (h : DrH acc) : DrH (dstep false acc r) := by
  unfold dstep
  cases hs : stepE acc.1 (drE r) with
  | none => exact ⟨h.run, h.st⟩
  | some s' => exact ⟨by rw [runE_app, h.run]; exact (runE_one _ _).trans hs, drs_step h.st (drE_item r) hs⟩
theorem drh (rs : List R4) : DrH (draftF false rs) := fold_inv drh_step rs _ ⟨rfl, drs0⟩
theorem drall (free : Bool) (rs : List R4) : ∀ x ∈ (draftF free rs).2, ∃ r, x = drE r := by
  refine fold_inv (P := fun acc => ∀ x ∈ acc.2, ∃ r, x = drE r) (fun acc r h x hx => ?_) rs _ (fun x hx => by cases hx)
  unfold dstep at hx
  cases hs : stepE acc.1 (drE r) with
  | none =>
    rw [hs] at hx
    simp only at hx
    split at hx
    · rcases List.mem_append.1 hx with hx | hx
      · exact h x hx
      · simp only [List.mem_cons, List.mem_nil_iff, or_false] at hx; exact ⟨r, hx⟩
    · exact h x hx
  | some s' =>
    rw [hs] at hx
    rcases List.mem_append.1 hx with hx | hx
    · exact h x hx
    · simp only [List.mem_cons, List.mem_nil_iff, or_false] at hx; exact ⟨r, hx⟩
theorem drlen (free : Bool) (rs : List R4) : (draftF free rs).2.length ≤ rs.length := by
  have key : ∀ (rs : List R4) (acc : St × List En), (rs.foldl (dstep free) acc).2.length ≤ acc.2.length + rs.length := by
    intro rs
    induction rs with
    | nil => intro acc; simp
    | cons r t ih =>
      intro acc
      have h1 := ih (dstep free acc r)
      have h2 := (dstep_len free acc r).1
      simp only [List.foldl_cons, List.length_cons]
      omega
  have := key rs (s0, [])
  simpa [draftF] using this
theorem draft_right (rs : List R4) (free : Bool) : ∀ x ∈ draftE rs free, rightE x = true := fun x hx => by
  obtain ⟨r, rfl⟩ := drall free _ x hx; exact drE_right r
theorem draft_ok (rs : List R4) (free : Bool) : AllOk (draftE rs free) := fun x hx => by
  obtain ⟨r, rfl⟩ := drall free _ x hx; exact drE_ok r
theorem draft_len (rs : List R4) (free : Bool) : (draftE rs free).length ≤ 12 := by
  have := drlen free (rs.take 12)
  rw [draftE]
  have h2 : (rs.take 12).length ≤ 12 := by rw [List.length_take]; omega
  omega
def draftS (rs : List R4) : St := (draftF false (rs.take 12)).1
theorem draft_run (rs : List R4) : runE s0 (draftE rs false) = some (draftS rs) := (drh (rs.take 12)).run
theorem draft_st (rs : List R4) : DrS (draftS rs) := (drh (rs.take 12)).st
theorem draft_replay (rs : List R4) : replayR (draftE rs false) = (draftS rs, 0, 0) := replay_run (by have := draft_len rs false; omega) (draft_right rs false) (draft_run rs)
end Go.Proofs.YtmnihgcffdmodaaGreatDoor
set_option linter.unusedVariables false
set_option linter.unusedSimpArgs false
set_option maxRecDepth 20000
namespace Go.Proofs.YtmnihgcffdmodaaGreatDoor
open Go Go.E RowKit
attribute [local irreducible] Go.E.T Go.E.L Go.E.O Go.E.Ob

attribute [local irreducible] Go.E.ObX Go.E.ObK Go.E.ObKP
/-- A list of entries in a block of its own. -/
structure OwnEs (base b n cap : Nat) (cur : List Value) (xs : List En) (w : World) : Prop where
  hb : base ≤ b
  blk : Blk w b cur 42
  len : xs.length = n
  hn : n ≤ cap
  hm : cap ≤ maxLen
  hl : cur.length = cap * 6
  ht : cur.take (n * 6) = (xs.map En.cells).flatten
def SlE (n : Nat) (cs : List Value) (v : Value) (w : World) : Prop := Sl 0 w v n 6 cs
/-- How a history is changed. -/
structure Bn where
  what : Nat
  at' : Nat
  n : Int
  s : Str
def Bn.cells (b : Bn) : List Value := [.int .u8 b.what, .int .u8 b.at', .int .i64 b.n, str b.s]
def Bn.val (b : Bn) : Value := .agg b.cells.toArray
structure Bn.ok (b : Bn) : Prop where
  what : b.what < 256
  at' : b.at' < 256
  s : b.s.length ≤ 9223372036854775807
def iEn (s : Str) : En := ⟨1, sAnn, s, 0, [], []⟩
end Go.Proofs.YtmnihgcffdmodaaGreatDoor
set_option linter.unusedVariables false
set_option linter.unusedSimpArgs false
set_option maxRecDepth 20000
namespace Go.Proofs.YtmnihgcffdmodaaGreatDoor
open Go Go.E RowKit
attribute [local irreducible] Go.E.T Go.E.L Go.E.O Go.E.Ob

attribute [local irreducible] Go.E.ObX Go.E.ObK Go.E.ObKP
/-- A list of entries, of any length. -/
def EnsX (v : Value) (w : World) : Prop := ∃ oa xs cap, v = .slice oa xs.length cap ∧ AllOk xs ∧ Ens 0 w (.slice oa xs.length cap) xs
def Arr3 (v : Value) (w : World) : Prop := ∃ a b c, v = .agg #[a, b, c] ∧ EnsX a w ∧ EnsX b w ∧ EnsX c w
def clA : En := ⟨4, sAnn, [], 0, [], []⟩
def mE (b : Bn) (who : Str) : En := ⟨b.n, b.s, who, 0, [], []⟩
end Go.Proofs.YtmnihgcffdmodaaGreatDoor
set_option linter.unusedVariables false
set_option linter.unusedSimpArgs false
set_option maxRecDepth 20000
namespace Go.Proofs.YtmnihgcffdmodaaGreatDoor
open Go Go.E RowKit ChangeShapes WideShapes
attribute [local irreducible] Go.E.T Go.E.L Go.E.O Go.E.Ob

attribute [local irreducible] Go.E.ObX Go.E.ObK Go.E.ObKP
abbrev laidL : List (String × DataW Unit) := Rows.historyReplaysRow.laid
theorem own : ownKnob Tryz.prog.godebug = none := by kernel_rfl
theorem laidOut : laidOutB Tryz.prog = true := by kernel_rfl
noncomputable abbrev laidWorld (os : Os) : World := World.laidAll Tryz.prog os laidL
theorem laidWorld_met (os : Os) (args : Array Value) : laidMet Tryz.prog laidL ((laidWorld os).forCall (fun _ _ => 0) ⟨#[], args, []⟩).memory :=
  laidMet_laidAll args (by kernel_rfl) (by kernel_rfl)
def dbTab : List Int := [0, 1, 56, 2, 57, 49, 28, 3, 61, 58, 42, 50, 38, 29, 17] ++ (4 :: ([62, 47, 59, 36, 45, 43, 51, 22, 53, 39, 33, 30, 24, 18, 12, 5] ++ [63, 55, 48, 27, 60, 41, 37, 16, 46, 35, 44, 21, 52, 32, 23, 11] ++ [54, 26, 40, 15, 34, 20, 31, 10, 25, 14, 19, 9, 13, 8, 7, 6]))
theorem laid_deb : (Rows.laid_math_bits_deBruijn64tab : DataW Unit) = Lib.tabData .u8 dbTab := by kernel_rfl
theorem laid_pow : (Rows.laid_internal_strconv_uint64pow10 : DataW Unit) = Lib.tabData .u64 Lib.pow10Tab := by kernel_rfl
theorem lib_of_laid {W : World} (h : laidMet Tryz.prog laidL W) (hs : W.ShapedOpen Tryz.prog) : LibM W := by
  obtain ⟨ps, ⟨g0, t0, c0, f0, p0, q0, hg0, ht0, hv0, hd0, ⟨g1, t1, c1, f1, p1, q1, hg1, ht1, hv1, hd1, ⟨g2, t2, c2, f2, p2, q2, hg2, ht2, hv2, hd2, ⟨g3, t3, c3, f3, p3, q3, hg3, ht3, hv3, hd3, ⟨g4, t4, c4, f4, p4, q4, hg4, ht4, hv4, hd4, ⟨g5, t5, c5, f5, p5, q5, hg5, ht5, hv5, hd5, _⟩, _⟩, _⟩, _⟩, _⟩, _⟩, _⟩ := h
  rw [laid_deb] at hd1
  rw [laid_pow] at hd2
  obtain rfl := Option.some.inj (hg1.symm.trans (show Tryz.prog.globalNamed "math/bits.deBruijn64tab" = some 5 by kernel_rfl))
  obtain rfl := Option.some.inj (ht1.symm.trans (show (Tryz.prog.globals[5]?).map (·.type) = some 195 by kernel_rfl))
  obtain ⟨gp, hgp⟩ : ∃ g, Tryz.prog.globalNamed "internal/strconv.uint64pow10" = some g := ⟨_, hg2⟩
  obtain rfl := Option.some.inj (ht2.symm.trans (show (Tryz.prog.globals[g2]?).map (·.type) = some 180 by
    obtain rfl := Option.some.inj (hg2.symm.trans (show Tryz.prog.globalNamed "internal/strconv.uint64pow10" = some 1 by kernel_rfl))
    kernel_rfl))
  have e1 := Lib.cells_of_tab (n := 64) (e := 5) (k := .u8) (by kernel_rfl) (by kernel_rfl) (by kernel_rfl) (by kernel_rfl) hd1
  have e2 := Lib.cells_of_tab (n := 20) (e := 25) (k := .u64) (by kernel_rfl) (by kernel_rfl) (by kernel_rfl) (by kernel_rfl) hd2
  have hdeb : Lib.TabIs Tryz.prog W "math/bits.deBruijn64tab" .u8 dbTab := by unfold Lib.TabIs; rw [hv1, ← e1]
  have hpow : Lib.TabIs Tryz.prog W "internal/strconv.uint64pow10" .u64 Lib.pow10Tab := by unfold Lib.TabIs; rw [hv2, ← e2]
  obtain rfl := Option.some.inj (hg4.symm.trans (show Tryz.prog.globalNamed "strconv.ErrRange" = some 3 by kernel_rfl))
  obtain rfl := Option.some.inj (hg5.symm.trans (show Tryz.prog.globalNamed "strconv.ErrSyntax" = some 2 by kernel_rfl))
  obtain rfl := Option.some.inj (ht4.symm.trans (show (Tryz.prog.globals[3]?).map (·.type) = some 97 by kernel_rfl))
  obtain rfl := Option.some.inj (ht5.symm.trans (show (Tryz.prog.globals[2]?).map (·.type) = some 97 by kernel_rfl))
  obtain ⟨ms, hms⟩ : ∃ ms, Tryz.prog.underlying 97 = some (.interface ms) := ⟨_, Tryz.underlying97⟩
  obtain ⟨_, u4, v4, h4, _, _⟩ := iface_of_trod hms hd4
  obtain ⟨_, u5, v5, h5, _, _⟩ := iface_of_trod hms hd5
  refine ⟨hpow, ?_, ?_, ⟨u5, v5, ?_⟩, ⟨u4, v4, ?_⟩⟩
  · exact cell_of_shapedOpen_int (t := 3) (zero := #[.int .i64 0]) hs (of_decide_eq_true (by kernel_rfl)) (by kernel_rfl) rfl (by kernel_rfl) (by kernel_rfl) (by kernel_rfl)
  · have := Lib.TabIs.cell (g := 5) hdeb (by kernel_rfl) 15 (by decide)
    exact this
  · rw [World.var?_cell hg5 hv5 0, ← Array.getElem?_toList, h5]; rfl
  · rw [World.var?_cell hg4 hv4 0, ← Array.getElem?_toList, h4]; rfl
theorem two_of {α : Type} {l : List α} (h : l.length = 2) : ∃ a b, l = [a, b] := by
  match l, h with
  | [a, b], _ => exact ⟨a, b, rfl⟩
theorem three {α : Type} {l : List α} (h : l.length = 3) : ∃ a b c, l = [a, b, c] := by
  match l, h with
  | [a, b, c], _ => exact ⟨a, b, c, rfl⟩
theorem four_of {α : Type} {l : List α} (h : l.length = 4) : ∃ a b c d, l = [a, b, c, d] := by
  match l, h with
  | [a, b, c, d], _ => exact ⟨a, b, c, d, rfl⟩
theorem wf_u8 {n : Int} (h : (Lit.int .u8 n).wf = true) : ∃ m : Nat, n = m ∧ m < 256 := by
  simp [Lit.wf, IntKind.min, IntKind.max, IntKind.signed, IntKind.bits] at h
  exact ⟨n.toNat, by omega, by omega⟩
theorem k8 : Tryz.prog.cellsOf 5 = 1 := by kernel_rfl
theorem kb : Tryz.prog.cellsOf 4 = 1 := by kernel_rfl
theorem ksl : Tryz.prog.cellsOf 22 = 1 := by kernel_rfl
theorem k4 : Tryz.prog.cellsOf 78 = 4 := by kernel_rfl
theorem kD : Tryz.prog.cellsOf 24 = 2 := by kernel_rfl
theorem all_map {α : Type} {f : α → List Value} : ∀ (css : List (List Value)), (∀ x ∈ css, ∃ r, x = f r) → ∃ rs : List α, css = rs.map f
  | [], _ => ⟨[], rfl⟩
  | x :: r, h => by
    obtain ⟨a, rfl⟩ := h x (List.mem_cons_self ..)
    obtain ⟨rs, hr⟩ := all_map r fun y hy => h y (List.mem_cons_of_mem _ hy)
    exact ⟨a :: rs, by rw [hr]; rfl⟩
theorem str_of_val (s : ByteArray) (h : s.size ≤ maxLen) : ∃ t : Str, Value.string s = str t ∧ t.length = s.size ∧ t.length ≤ 9223372036854775807 := ⟨s.data.toList, rfl, by rw [Array.length_toList]; rfl, by unfold maxLen at h; rw [Array.length_toList]; exact h⟩
theorem rok_r4 {W : World} {x : List Value} (h : Rok Tryz.prog W 78 x) : ∃ r : R4, x = r.cells := by
  obtain ⟨hl, ha⟩ := h.array Tryz.underlying78
  rw [k4] at hl
  obtain ⟨a, b, c, d, rfl⟩ := four_of hl
  have h0 := ha 0 (by decide)
  have h1 := ha 1 (by decide)
  have h2 := ha 2 (by decide)
  have h3 := ha 3 (by decide)
  rw [k8] at h0 h1 h2 h3
  obtain ⟨x0, e0, w0⟩ := Rok.int h0 Tryz.underlying5
  obtain ⟨x1, e1, w1⟩ := Rok.int h1 Tryz.underlying5
  obtain ⟨x2, e2, w2⟩ := Rok.int h2 Tryz.underlying5
  obtain ⟨x3, e3, w3⟩ := Rok.int h3 Tryz.underlying5
  simp at e0 e1 e2 e3
  subst e0 e1 e2 e3
  obtain ⟨y0, rfl, _⟩ := wf_u8 w0
  obtain ⟨y1, rfl, _⟩ := wf_u8 w1
  obtain ⟨y2, rfl, _⟩ := wf_u8 w2
  obtain ⟨y3, rfl, _⟩ := wf_u8 w3
  exact ⟨⟨y0, y1, y2, y3⟩, rfl⟩
theorem draft_of {W : World} {v : Value} (h : Arg Tryz.prog W 24 v) : ∃ (oa : Option Addr) (rs : List R4) (cap : Nat) (f : Bool), v = .agg #[.slice oa rs.length cap, .bool f] ∧ Rws 0 W (.slice oa rs.length cap) rs := by
  obtain ⟨cs, rfl, hl, hr⟩ := h.struct Tryz.underlying24
  rw [kD] at hl
  obtain ⟨a, b, rfl⟩ := two_of hl
  have F := fun q ft off n hf hc => hr.fld Tryz.underlying24 q ft off n hf hc
  obtain ⟨v, css, e0, hS, hall⟩ := Rok.slice (F 0 22 0 1 rfl ksl) Tryz.underlying22
  obtain ⟨f, e1⟩ := Rok.bool (F 1 4 1 1 rfl kb) Tryz.underlying4
  simp at e0 e1
  subst e0 e1
  obtain ⟨rs, rfl⟩ := all_map (f := R4.cells) css fun x hx => rok_r4 (hall x hx).2
  rw [List.length_map, k4] at hS
  obtain ⟨oa, cap, rfl, _⟩ := Sl.val hS
  exact ⟨oa, rs, cap, f, rfl, hS⟩
end Go.Proofs.YtmnihgcffdmodaaGreatDoor
set_option linter.unusedVariables false
set_option linter.unusedSimpArgs false
set_option maxRecDepth 20000
namespace Go.Proofs.YtmnihgcffdmodaaGreatDoor
open Go Go.E RowKit
attribute [local irreducible] Go.E.T Go.E.L Go.E.O Go.E.Ob

attribute [local irreducible] Go.E.ObX Go.E.ObK Go.E.ObKP
/-- The digits from place i on. -/
def hexUp (n i : Nat) : Str := (hex16 n).take (16 - i)
end Go.Proofs.YtmnihgcffdmodaaGreatDoor
set_option linter.unusedVariables false
set_option linter.unusedSimpArgs false
set_option maxRecDepth 20000
namespace Go.Proofs.YtmnihgcffdmodaaGreatDoor
open Go Go.E RowKit
attribute [local irreducible] Go.E.T Go.E.L Go.E.O Go.E.Ob

attribute [local irreducible] Go.E.ObX Go.E.ObK Go.E.ObKP
end Go.Proofs.YtmnihgcffdmodaaGreatDoor
