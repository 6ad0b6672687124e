/-
  HistoryTexts returns true for every input, and each argument reads behind the call as it read before. Conditions: the listed variables read as the program's text lays them (tied by the card).
-/
import Derived.Test.YtmnihgcffdmodaaGreatDoorMh
import Derived.Test.YtmnihgcffdmodaaGreatDoorCards
set_option linter.unusedVariables false
set_option linter.unusedSimpArgs false
set_option maxRecDepth 20000
namespace Go.Proofs.YtmnihgcffdmodaaGreatDoor
open Go Go.E RowKit
attribute [local irreducible] Go.E.T Go.E.L Go.E.O Go.E.Ob

attribute [local irreducible] Go.E.ObX Go.E.ObK Go.E.ObKP
theorem textR_len (xs : List En) : (textR xs).1.length ≤ 36060 := by
  unfold textR
  split
  · rename_i h
    obtain ⟨h1, h2⟩ := check_right h
    have := textL_len xs (fun x hx => right_bounds (h2 x hx))
    show (textL xs).length ≤ _
    omega
  · simp
theorem five_get {a b c d e : Str} {i : Nat} (hi : i < 5) (ha : a.length ≤ 100000) (hb : b.length ≤ 100000) (hc : c.length ≤ 100000) (hd : d.length ≤ 100000) (he : e.length ≤ 100000) : ∃ t : Str, #[str a, str b, str c, str d, str e][(i : Int).toNat]? = some (str t) ∧ t.length ≤ 100000 := by
  rcases (show i = 0 ∨ i = 1 ∨ i = 2 ∨ i = 3 ∨ i = 4 by omega) with rfl | rfl | rfl | rfl | rfl
  · exact ⟨a, rfl, ha⟩
  · exact ⟨b, rfl, hb⟩
  · exact ⟨c, rfl, hc⟩
  · exact ⟨d, rfl, hd⟩
  · exact ⟨e, rfl, he⟩
set_option maxHeartbeats 4000000 in
theorem HistoryTexts_calls (lo cd cap : Nat) (ad oa : Option Addr) (fd : Bool) (rs : List R4) (b : Bn) (xs : List En) (at' : Nat) (put text : Str) (w : World) (hL : LibM w) (hd : Rws lo w (.slice ad rs.length cd) rs) (hb : b.ok) (hp : Ens lo w (.slice oa xs.length cap) xs) (hxs : AllOk xs) (hat : at' < 65536) (hput : put.length ≤ 9223372036854775807) (htext : text.length ≤ 9223372036854775807) :
    Calls Tryz.prog 5 #[.agg #[.slice ad rs.length cd, .bool fd], b.val, .slice oa xs.length cap, .int .u16 at', str put, str text] w (Ret fun v w' => v = .bool true ∧ Ext w w') := by
  refine T.enter (vs := [.agg #[.slice ad rs.length cd, .bool fd], b.val, .slice oa xs.length cap, .int .u16 at', str put, str text]) Tryz.func5 rfl Tryz.ntmps5 rfl ?_
  refine T.seq (T.region (L.op rfl rfl (O.box rfl (fun b6 w6 hb6 hz6 he6 hB6 => ?_))))
  refine L.op rfl rfl (O.box rfl (fun b8 w8 hb8 hz8 he8 hB8 => ?_))
  have he08 := he6.trans he8
  have hA8 : Blk w8 b6 [.slice ad rs.length cd, .bool fd] 24 := Blk.ext (cs := [.slice ad rs.length cd, .bool fd]) hB6 he8
  have hD8 : Blk w8 b8 b.cells 52 := hB8
  refine L.op rfl rfl (O.assign rfl (L.nil (T.seq (T.seq (T.region (L.op rfl rfl (O.call (xs := []) Tryz.call10 rfl rfl (wakes_calls w8 (hL.ext he08)) (fun v39 w39 hq => ?_))))))))
  obtain ⟨rfl, he39⟩ := hq
  have he039 := he08.trans he39
  refine L.op rfl rfl (O.not rfl (L.nil (T.cond_false rfl (T.skip (T.seq (T.region (L.op rfl rfl (O.loadAgg Tryz.isAgg24 Tryz.sizeOf24 rfl rfl ((hA8.ext he39).row) (L.op rfl rfl (O.call (xs := [.tmp 31]) Tryz.call11 rfl rfl (Entries_calls lo cd ad fd rs w39 (hd.ext he039)) (fun v51 w51 hq => ?_)))))))))))
  obtain ⟨hO51, he51⟩ := hq
  have hok51 := draft_ok rs fd
  have hl51 := draft_len rs fd
  have hI51 : Ens 0 w51 v51 (draftE rs fd) := Sl.mono (Sl.of_owns hO51) (Nat.zero_le _)
  have hX51 : EnsX v51 w51 := EnsX.of hI51 hok51
  have he851 := he39.trans he51
  have he051 := he08.trans he851
  obtain ⟨oh, caph, rfl, _⟩ := Sl.val hI51
  refine L.op rfl rfl (O.assign rfl (L.nil (T.seq (T.seq (?_)))))
  refine T.anyE mixed 11 [13, 7, 2] rfl [.is _, .is _, .is _, .such EnsX, .is _, .is _, .is _, .is _, .such EnsX, .such Arr3, .is _] [[], [], [], [1, 2], [], [], [5], [6], [4, 7], [0, 3, 8], []] [[], [], [], [1, 2], [], [], [5], [5, 6], [4, 5, 6, 7], [0, 1, 2, 3, 4, 5, 6, 7, 8], []] (by kernel_rfl) (by kernel_rfl) rfl (by kernel_rfl) ⟨EnsX.st, EnsX.st, Arr3.st, trivial⟩ ⟨fun wx hx => Ob.op rfl (O.move rfl ⟨Keep.refl _ _, rfl⟩),
      fun wx hx => Ob.op rfl (O.loadAgg Tryz.isAgg52 Tryz.sizeOf52 rfl rfl (((hD8.ext he851).ext hx).row) ⟨Keep.refl _ _, rfl⟩),
      fun wx hx => Ob.op rfl (O.move rfl ⟨Keep.refl _ _, rfl⟩),
      fun wx hx => Ob.op rfl (O.call (xs := [.tmp 34, .tmp 35]) Tryz.call19 rfl rfl (of_calls 0 _ (draftE rs fd) b wx (hI51.ext hx) hok51 (by omega) hb) (fun v wy h => by obtain ⟨ys, h1, h2, h3⟩ := h; exact ⟨h3, EnsX.of h2 h1⟩)),
      fun wx hx => Ob.op rfl (O.move rfl ⟨Keep.refl _ _, rfl⟩),
      fun wx hx => Ob.op rfl (O.move rfl ⟨Keep.refl _ _, rfl⟩),
      fun wx hx => Ob.op rfl (O.len Tryz.runUnderlying27 rfl (Sl.val ((hp.ext he051).ext hx)) ⟨Keep.refl _ _, rfl⟩),
      fun wx hx => Ob.op rfl (O.minN (k := 65) rfl rfl ⟨Keep.refl _ _, rfl⟩),
      fun wx hx => Ob.op rfl (O.cut_h Tryz.runUnderlying27 Tryz.sizeOf42 rfl rfl ((hp.ext he051).ext hx) (by omega) (by omega) (fun v71 hs71 => ⟨Keep.refl _ _, EnsX.cut (by omega) hxs hs71⟩)),
      fun wx hx v36 hv36 v41 hv41 => by { obtain ⟨o1, x1, c1, rfl, hk1, hi1⟩ := hv36; obtain ⟨o2, x2, c2, rfl, hk2, hi2⟩ := hv41; exact Ob.op rfl (O.build (v := .agg #[.slice oh (draftE rs fd).length caph, .slice o1 x1.length c1, .slice o2 x2.length c2]) (parts := [(0, .tmp 33), (1, .tmp 36), (2, .tmp 41)]) (vs := [(0, _), (1, _), (2, _)]) rfl (fun w => by kernel_rfl) ⟨Keep.refl _ _, _, _, _, rfl, EnsX.st _ _ _ hx hX51, ⟨o1, x1, c1, rfl, hk1, hi1⟩, ⟨o2, x2, c2, rfl, hk2, hi2⟩⟩) },
      fun wx hx => Ob.op rfl (O.move rfl ⟨Keep.refl _ _, rfl⟩),
      trivial⟩ (fun w63 he63 v36 hv36 v41 hv41 v42 hv42 => ?_)
  refine L.nil (?_)
  obtain ⟨q1, q2, q3, rfl, hq1, hq2, hq3⟩ := hv42
  have he063 := he051.trans he63
  refine T.block (?_)
  refine T.loop (σ := Nat × Str) (fun g => [(3, .int .u16 at'), (4, str g.2), (5, str text), (42, .agg #[q1, q2, q3]), (43, .int .i64 g.1)]) (fun g w' => g.1 ≤ 3 ∧ g.2.length ≤ 9223372036854775807 ∧ Ext w63 w') (fun g => 3 - g.1) ((0, put)) ⟨rfl, rfl, rfl, rfl, rfl, trivial⟩ ⟨Nat.zero_le _, hput, Keep.refl _ _⟩ ?_
  rintro ⟨i0, q⟩ w70 ⟨hi, hq, he70⟩
  simp only at hi hq
  refine T.seq (T.region (L.op rfl rfl (O.lss_s rfl rfl (fun hlt => ?_) (fun hlt => ?_))))
  · refine L.nil (?_)
    obtain ⟨x, hx, hXx⟩ := arr3_get (i := i0) (by omega) hq1 hq2 hq3
    obtain ⟨ox, ys, capx, rfl, hoky, hY⟩ := EnsX.st _ _ _ he70 hXx
    refine T.seq (T.cond_true rfl (T.skip (T.seq (T.block (T.seq (T.region (L.op rfl rfl (O.index_arr Tryz.runUnderlying54 Tryz.isAgg27 Tryz.sizeOf27 rfl rfl (by omega) (by omega) hx (?_)))))))))
    have hL70 := (hL.ext he063).ext he70
    refine L.op rfl rfl (O.assign rfl (L.nil (T.seq (T.region (L.op rfl rfl (O.move rfl (L.op rfl rfl (O.call (xs := [.tmp 47]) Tryz.call20 rfl rfl (text_calls 0 _ ys w70 hY hoky hL70) (fun v48 w48 hq => ?_)))))))))
    obtain ⟨rfl, he48⟩ := hq
    refine L.op rfl rfl (O.move rfl (L.op rfl rfl (O.extract rfl rfl (L.op rfl rfl (O.extract rfl rfl (L.op rfl rfl (O.assign rfl (L.op rfl rfl (O.assign rfl (L.nil (T.seq (T.region (L.op rfl rfl (O.move rfl (L.op rfl rfl (O.call (xs := [.tmp 52]) Tryz.call21 rfl rfl (RText_calls 0 _ ys w48 (hY.ext he48) hoky) (fun v53 w53 hq => ?_)))))))))))))))))
    obtain ⟨rfl, he53⟩ := hq
    refine L.op rfl rfl (O.move rfl (L.op rfl rfl (O.extract rfl rfl (L.op rfl rfl (O.extract rfl rfl (L.op rfl rfl (O.assign rfl (L.op rfl rfl (O.assign rfl (L.nil (T.seq (T.seq (T.region (L.op rfl rfl (O.move rfl (L.op rfl rfl (O.move rfl (L.op rfl rfl (O.neq_str_f Tryz.runUnderlying9 rfl rfl rfl (L.op rfl rfl (O.move rfl (L.op rfl rfl (O.move rfl (L.op rfl rfl (O.move rfl (L.op rfl rfl (O.neq_f rfl rfl rfl (?_))))))))))))))))))))))))))))
    have htl := textR_len ys
    obtain ⟨t, ht⟩ : ∃ t, t = (textR ys).1 := ⟨_, rfl⟩
    rw [← ht] at htl
    rw [← ht]
    refine L.op rfl rfl (O.pick_false rfl rfl (L.nil (T.cond_false rfl (T.skip (T.seq (T.region (L.op rfl rfl (O.move rfl (L.op rfl rfl (O.conv_to rfl (fun w => ⟨_, Tryz.runUnderlying53 w⟩) Tryz.runUnderlying3 (IntWalk.i64_in _ ⟨by omega, by omega⟩) (L.op rfl rfl (O.move rfl (L.op rfl rfl (O.len_str Tryz.runUnderlying9 rfl (L.op rfl rfl (O.add64 rfl rfl (by omega) (L.op rfl rfl (O.rem rfl rfl (by omega) (by omega) (?_)))))))))))))))))))
    obtain ⟨i, hi'⟩ : ∃ i, i = at' % (t.length + 1) := ⟨_, rfl⟩
    have hil : i ≤ t.length := by have := Nat.mod_lt at' (show t.length + 1 > 0 by omega); omega
    have hie : ((at' : Int) % ((t.length : Int) + 1)) = (i : Int) := by rw [hi']; exact (Int.natCast_emod _ _).symm
    rw [hie]
    refine L.op rfl rfl (O.assign rfl (L.nil (T.seq (T.region (L.op rfl rfl (O.move rfl (L.op rfl rfl (O.move rfl (L.op rfl rfl (O.len_str Tryz.runUnderlying9 rfl (L.op rfl rfl (O.minN (k := 5) rfl rfl (L.op rfl rfl (O.slice_str_h Tryz.runUnderlying9 rfl rfl (by omega) (by omega) (?_)))))))))))))))
    obtain ⟨p, hp'⟩ : ∃ p, p = q.take (((min q.length 5 : Nat) : Int)).toNat := ⟨_, rfl⟩
    rw [← hp']
    have hpl : p.length ≤ 5 := by rw [hp', List.length_take]; omega
    obtain ⟨j, hj⟩ : ∃ j, j = min (i + 1) t.length := ⟨_, rfl⟩
    refine L.op rfl rfl (O.assign rfl (L.nil (T.seq (?_))))
    refine T.anyE mixed 33 [18, 20, 4, 5] rfl (.is _ :: .is _ :: .is _ :: .is _ :: .is _ :: .is _ :: .is _ :: .is _ :: .is _ :: .is _ :: .is _ :: .is _ :: .is _ :: .is _ :: .is _ :: .is _ :: .is _ :: .is _ :: .is _ :: .is _ :: .is _ :: .is (str t) :: .is (.int .i64 (t.length : Nat)) :: .is (.int .i64 (j : Nat)) :: .is _ :: .is _ :: .is _ :: .is _ :: .is _ :: .is _ :: .is _ :: .is _ :: .is _ :: []) ([] :: [] :: [] :: [1, 2] :: [] :: [] :: [4, 5] :: [] :: [6, 7] :: [] :: [] :: [9, 10] :: [8, 11] :: [] :: [] :: [13, 14] :: [] :: [15, 16] :: [] :: [] :: [19] :: [] :: [21] :: [20, 22] :: [18, 23] :: [17, 24] :: [] :: [] :: [27] :: [28] :: [26, 29] :: [0, 3, 12, 25, 30] :: [] :: []) ([] :: [] :: [] :: [1, 2] :: [] :: [] :: [4, 5] :: [] :: [4, 5, 6, 7] :: [] :: [] :: [9, 10] :: [4, 5, 6, 7, 8, 9, 10, 11] :: [] :: [] :: [13, 14] :: [] :: [13, 14, 15, 16] :: [] :: [] :: [19] :: [] :: [21] :: [19, 20, 21, 22] :: [18, 19, 20, 21, 22, 23] :: [13, 14, 15, 16, 17, 18, 19, 20, 21, 22, 23, 24] :: [] :: [] :: [27] :: [27, 28] :: [26, 27, 28, 29] :: (0 :: 1 :: 2 :: 3 :: 4 :: 5 :: 6 :: 7 :: 8 :: 9 :: 10 :: 11 :: 12 :: 13 :: 14 :: 15 :: 16 :: 17 :: 18 :: 19 :: 20 :: 21 :: 22 :: 23 :: 24 :: 25 :: 26 :: 27 :: 28 :: 29 :: 30 :: []) :: [] :: []) (by kernel_rfl) (by kernel_rfl) rfl (by kernel_rfl) trivial ⟨fun wx hx => Ob.op rfl (O.move rfl ⟨Keep.refl _ _, rfl⟩),
        fun wx hx => Ob.op rfl (O.move rfl ⟨Keep.refl _ _, rfl⟩),
        fun wx hx => Ob.op rfl (O.move rfl ⟨Keep.refl _ _, rfl⟩),
        fun wx hx => Ob.op rfl (O.slice_str_h Tryz.runUnderlying9 rfl rfl (by omega) (by omega) ⟨Keep.refl _ _, rfl⟩),
        fun wx hx => Ob.op rfl (O.move rfl ⟨Keep.refl _ _, rfl⟩),
        fun wx hx => Ob.op rfl (O.move rfl ⟨Keep.refl _ _, rfl⟩),
        fun wx hx => Ob.op rfl (O.slice_str_h Tryz.runUnderlying9 rfl rfl (by omega) (by omega) ⟨Keep.refl _ _, rfl⟩),
        fun wx hx => Ob.op rfl (O.move rfl ⟨Keep.refl _ _, rfl⟩),
        fun wx hx => Ob.op rfl (O.add_str rfl rfl (by simp only [List.length_take]; omega) ⟨Keep.refl _ _, rfl⟩),
        fun wx hx => Ob.op rfl (O.move rfl ⟨Keep.refl _ _, rfl⟩),
        fun wx hx => Ob.op rfl (O.move rfl ⟨Keep.refl _ _, rfl⟩),
        fun wx hx => Ob.op rfl (O.slice_str_l Tryz.runUnderlying9 rfl rfl (by omega) (by omega) ⟨Keep.refl _ _, rfl⟩),
        fun wx hx => Ob.op rfl (O.add_str rfl rfl (by simp only [List.length_append, List.length_take, List.length_drop]; omega) ⟨Keep.refl _ _, rfl⟩),
        fun wx hx => Ob.op rfl (O.move rfl ⟨Keep.refl _ _, rfl⟩),
        fun wx hx => Ob.op rfl (O.move rfl ⟨Keep.refl _ _, rfl⟩),
        fun wx hx => Ob.op rfl (O.slice_str_h Tryz.runUnderlying9 rfl rfl (by omega) (by omega) ⟨Keep.refl _ _, rfl⟩),
        fun wx hx => Ob.op rfl (O.move rfl ⟨Keep.refl _ _, rfl⟩),
        fun wx hx => Ob.op rfl (O.add_str rfl rfl (by simp only [List.length_take]; omega) ⟨Keep.refl _ _, rfl⟩),
        fun wx hx => Ob.op rfl (O.move rfl ⟨Keep.refl _ _, rfl⟩),
        fun wx hx => Ob.op rfl (O.move rfl ⟨Keep.refl _ _, rfl⟩),
        fun wx hx => Ob.op rfl (O.add64 rfl rfl (by omega) ⟨Keep.refl _ _, rfl⟩),
        fun wx hx => Ob.op rfl (O.move rfl ⟨Keep.refl _ _, rfl⟩),
        fun wx hx => Ob.op rfl (O.len_str Tryz.runUnderlying9 rfl ⟨Keep.refl _ _, rfl⟩),
        fun wx hx => Ob.op rfl (O.min rfl rfl ⟨Keep.refl _ _, by have e : (if (t.length : Int) < (i : Int) + 1 then (t.length : Int) else (i : Int) + 1) = (j : Int) := (by split <;> omega); show Value.int .i64 (if (t.length : Int) < (i : Int) + 1 then (t.length : Int) else (i : Int) + 1) = Value.int .i64 (j : Int); rw [e]⟩),
        fun wx hx => Ob.op rfl (O.slice_str_l Tryz.runUnderlying9 rfl rfl (by omega) (by omega) ⟨Keep.refl _ _, rfl⟩),
        fun wx hx => Ob.op rfl (O.add_str rfl rfl (by simp only [List.length_append, List.length_take, List.length_drop]; omega) ⟨Keep.refl _ _, rfl⟩),
        fun wx hx => Ob.op rfl (O.move rfl ⟨Keep.refl _ _, rfl⟩),
        fun wx hx => Ob.op rfl (O.move rfl ⟨Keep.refl _ _, rfl⟩),
        fun wx hx => Ob.op rfl (O.len_str Tryz.runUnderlying9 rfl ⟨Keep.refl _ _, rfl⟩),
        fun wx hx => Ob.op rfl (O.minN (k := 45000) rfl rfl ⟨Keep.refl _ _, rfl⟩),
        fun wx hx => Ob.op rfl (O.slice_str_h Tryz.runUnderlying9 rfl rfl (by omega) (by omega) ⟨Keep.refl _ _, rfl⟩),
        fun wx hx => Ob.op rfl (O.build (v := .agg #[str t, str (t.take (i : Int).toNat), str (t.take (i : Int).toNat ++ p ++ t.drop (i : Int).toNat), str (t.take (i : Int).toNat ++ p ++ t.drop (j : Int).toNat), str (text.take (((min text.length 45000 : Nat) : Int)).toNat)]) (parts := [(0, .tmp 75), (1, .tmp 78), (2, .tmp 87), (3, .tmp 100), (4, .tmp 105)]) (vs := [(0, _), (1, _), (2, _), (3, _), (4, _)]) rfl (fun w => by kernel_rfl) ⟨Keep.refl _ _, rfl⟩),
        fun wx hx => Ob.op rfl (O.move rfl ⟨Keep.refl _ _, rfl⟩),
        trivial⟩ (fun w72 he72 => ?_)
    refine L.nil (?_)
    have l1 : (t.take (i : Int).toNat).length ≤ 100000 := by rw [List.length_take]; omega
    have l2 : (t.take (i : Int).toNat ++ p ++ t.drop (i : Int).toNat).length ≤ 100000 := by simp only [List.length_append, List.length_take, List.length_drop]; omega
    have l3 : (t.take (i : Int).toNat ++ p ++ t.drop (j : Int).toNat).length ≤ 100000 := by simp only [List.length_append, List.length_take, List.length_drop]; omega
    have l4 : (text.take (((min text.length 45000 : Nat) : Int)).toNat).length ≤ 100000 := by rw [List.length_take]; omega
    obtain ⟨y1, hy1⟩ : ∃ y, y = t.take (i : Int).toNat := ⟨_, rfl⟩
    obtain ⟨y2, hy2⟩ : ∃ y, y = t.take (i : Int).toNat ++ p ++ t.drop (i : Int).toNat := ⟨_, rfl⟩
    obtain ⟨y3, hy3⟩ : ∃ y, y = t.take (i : Int).toNat ++ p ++ t.drop (j : Int).toNat := ⟨_, rfl⟩
    obtain ⟨y4, hy4⟩ : ∃ y, y = text.take (((min text.length 45000 : Nat) : Int)).toNat := ⟨_, rfl⟩
    rw [← hy1] at l1
    rw [← hy2] at l2
    rw [← hy3] at l3
    rw [← hy4] at l4
    rw [← hy3, ← hy2, ← hy1, ← hy4]
    have he7072 := (he48.trans he53).trans he72
    refine T.block (?_)
    refine T.loop (σ := Nat) (fun k => [(3, .int .u16 at'), (4, str p), (5, str text), (42, .agg #[q1, q2, q3]), (43, .int .i64 i0), (106, .agg #[str t, str y1, str y2, str y3, str y4]), (107, .int .i64 k)]) (fun k w' => k ≤ 5 ∧ Ext w70 w') (fun k => 5 - k) (0) ⟨rfl, rfl, rfl, rfl, rfl, rfl, rfl, trivial⟩ ⟨Nat.zero_le _, he7072⟩ ?_
    rintro k w80 ⟨hk, he80⟩
    refine T.seq (T.region (L.op rfl rfl (O.lss_s rfl rfl (fun hltk => ?_) (fun hltk => ?_))))
    · refine L.nil (?_)
      obtain ⟨y, hy, hyl⟩ := five_get (a := t) (i := k) (by omega) (by omega) l1 l2 l3 l4
      refine T.seq (T.cond_true rfl (T.skip (T.seq (T.block (T.seq (T.region (L.op rfl rfl (O.index_arr Tryz.runUnderlying57 Tryz.isAgg9 Tryz.sizeOf9 rfl rfl (by omega) (by omega) hy (L.op rfl rfl (O.assign rfl (L.nil (T.seq (T.region (L.op rfl rfl (O.move rfl (L.op rfl rfl (O.call (xs := [.tmp 111]) Tryz.call22 rfl rfl (Parse_calls y w80 hyl ((hL70.ext he80))) (fun v112 w112 hq => ?_))))))))))))))))))
      obtain ⟨u1, rfl, hu1, he112⟩ := hq
      refine L.op rfl rfl (O.move rfl (L.op rfl rfl (O.extract rfl rfl (L.op rfl rfl (O.extract rfl rfl (L.op rfl rfl (O.extract rfl rfl (L.op rfl rfl (O.assign rfl (L.op rfl rfl (O.assign rfl (L.op rfl rfl (O.assign rfl (L.nil (T.seq (T.region (L.op rfl rfl (O.move rfl (L.op rfl rfl (O.call (xs := [.tmp 117]) Tryz.call23 rfl rfl (RParse_calls y w112 (by omega)) (fun v118 w118 hq => ?_)))))))))))))))))))))
      obtain ⟨u2, rfl, hu2, he118⟩ := hq
      refine L.op rfl rfl (O.move rfl (L.op rfl rfl (O.extract rfl rfl (L.op rfl rfl (O.extract rfl rfl (L.op rfl rfl (O.extract rfl rfl (L.op rfl rfl (O.assign rfl (L.op rfl rfl (O.assign rfl (L.op rfl rfl (O.assign rfl (L.nil (T.seq (T.region (L.op rfl rfl (O.move rfl (L.op rfl rfl (O.move rfl (L.op rfl rfl (O.neq_f rfl rfl rfl (L.op rfl rfl (O.move rfl (L.op rfl rfl (O.move rfl (L.op rfl rfl (O.move rfl (L.op rfl rfl (O.neq_f rfl rfl rfl (L.op rfl rfl (O.pick_false rfl rfl (L.op rfl rfl (O.move rfl (L.op rfl rfl (O.move rfl (L.op rfl rfl (O.move rfl (L.op rfl rfl (O.call (xs := [.tmp 131, .tmp 132]) Tryz.call24 rfl rfl (equalE_calls 0 0 u1 u2 _ _ w118 (hu1.ext he118) hu2) (fun v133 w133 hq => ?_)))))))))))))))))))))))))))))))))))))))))
      obtain ⟨hv133, he133⟩ := hq
      rw [decide_eq_true rfl] at hv133
      subst hv133
      refine L.op rfl rfl (O.not rfl (L.op rfl rfl (O.pick_false rfl rfl (L.nil (T.cond_false rfl (T.skip (T.blk (T.region (L.op rfl rfl (O.add64 rfl rfl (by omega) (L.op rfl rfl (O.move rfl (L.nil (T.again (k + 1) (by omega) ⟨rfl, rfl, rfl, rfl, rfl, rfl, rfl, trivial⟩ ⟨by omega, he80.trans (he112.trans (he118.trans he133))⟩))))))))))))))
    · refine L.nil (T.seq (T.cond_false rfl (T.exit rfl (T.blk (T.region (L.op rfl rfl (O.add64 rfl rfl (by omega) (L.op rfl rfl (O.move rfl (L.nil (T.again ((i0 + 1, p)) (by omega) ⟨rfl, rfl, rfl, rfl, rfl, trivial⟩ ⟨by (try dsimp only); omega, by (try dsimp only); omega, he70.trans he80⟩)))))))))))
  · refine L.nil (T.seq (T.cond_false rfl (T.exit rfl (T.seq (T.region (L.op rfl rfl (O.assign rfl (L.nil (T.ret1 Tryz.results5 rfl ⟨rfl, he063.trans he70⟩)))))))))

end Go.Proofs.YtmnihgcffdmodaaGreatDoor
set_option linter.unusedVariables false
set_option linter.unusedSimpArgs false
set_option maxRecDepth 20000
namespace Go.Proofs.YtmnihgcffdmodaaGreatDoor
open Go Go.E RowKit ChangeShapes WideShapes
attribute [local irreducible] Go.E.T Go.E.L Go.E.O Go.E.Ob

set_option maxRecDepth 100000 in
theorem historyTexts_lifted (os : Os) (started : os.Started) (H : Type) (enc : TypeId × Value → H) :
    ReturnsInHanded {} Tryz.checked os 5 .any (fun w args => (Rows.historyTextsSpec.pre enc Tryz.prog Tryz.f5 [] false w args ∧ laidMetH Tryz.prog laidL w) ∧ sizedMet enc Tryz.prog Tryz.f5 (OpenSpec.ofChange Rows.historyTextsSpec) false w args)
      (Rows.historyTextsSpec.post enc Tryz.prog Tryz.f5 false true false false) := by
  refine law_liftedS (C := Tryz.checked) (X := fun w _ => laidMetH Tryz.prog laidL w) (tb := 4) (ts := [24, 52, 27, 53, 9, 9]) (fun _ _ _ hh h => h.of_heap hh) own started (by kernel_rfl) Tryz.func5
    rfl Tryz.params5 (fun ds h => ?_) (by kernel_rfl) Tryz.underlying4 laidOut (by kernel_rfl)
    (ChangeSpec.witness_at (enc := enc) (C := Tryz.checked) (os := os) (X := fun w _ => laidMetH Tryz.prog laidL w) false (laidWorld os) #[.agg #[.slice none 0 0, .bool false], .agg #[.int .u8 0, .int .u8 0, .int .i64 0, .string ⟨#[]⟩], .slice none 0 0, .int .u16 0, .string ⟨#[]⟩, .string ⟨#[]⟩] 8 (World.laidAll_os _ _ _) (by kernel_rfl) (by kernel_rfl) (by kernel_rfl) (by kernel_rfl) (by kernel_rfl) (laidWorld_met os _)) ?_
  · obtain ⟨a0, a1, a2, a3, a4, a5, rfl⟩ := six_of h
    rfl
  · intro W vs hl ha hz hX hsh
    have hL := lib_of_laid hX hsh
    obtain ⟨a0, a1, a2, a3, a4, a5, rfl⟩ := six_of hl
    obtain ⟨ad, rs, cd, fd, rfl, hd⟩ := draft_of (ha 0 _ _ rfl rfl)
    obtain ⟨b, rfl, hb⟩ := bend_of (ha 1 _ _ rfl rfl)
    obtain ⟨oa, xs, cap, rfl, hxs, hp⟩ := ens_of (ha 2 _ _ rfl rfl)
    obtain ⟨x3, rfl, hx3⟩ := (ha 3 _ _ rfl rfl).int Tryz.underlying53
    obtain ⟨m3, rfl, l3⟩ := wf_u16 hx3
    obtain ⟨s4, rfl, hs4⟩ := (ha 4 _ _ rfl rfl).string Tryz.underlying9
    obtain ⟨put, e4, _, l4⟩ := str_of_val s4 hs4
    rw [e4]
    obtain ⟨s5, rfl, hs5⟩ := (ha 5 _ _ rfl rfl).string Tryz.underlying9
    obtain ⟨text, e5, _, l5⟩ := str_of_val s5 hs5
    rw [e5]
    exact HistoryTexts_calls 0 cd cap ad oa fd rs b xs m3 put text W hL hd hb hp hxs l3 l4 l5
theorem historyTexts_over : Rows.HistoryTextsSaid :=
  OpenClaim.holds_of_wide 5 Tryz.f5 rfl rfl rfl rfl rfl rfl rfl ⟨rfl, rfl, rfl, rfl, rfl⟩ rfl rfl rfl rfl rfl (by kernel_rfl) Tryz.func5 (by kernel_rfl)
    (of_decide_eq_true (by kernel_rfl)) (by unfold Func.isWrapper; first | (rw [if_pos (by decide +kernel)]; kernel_rfl) | (rw [if_neg (by decide +kernel)]; exact ⟨rfl, rfl⟩))
    (fun os started H enc _ => historyTexts_lifted os started H enc)
theorem historyTexts_holds : Rows.HistoryTextsCardSaid :=
  Claim7.holds_tied_plain_at .later [] [.data, .data, .data, .data, .sentinel, .sentinel, .pinned] true (true, "aaf5ffa92cad1a37786ee6b649a4a6dda330fa9512e5f093092dbdd098bd3f5a") true
    historyTexts_over (fun _ h => by cases h) (by kernel_rfl) (fun _ h => by cases h) historyTexts_row_tie rfl ⟨rfl, rfl⟩ (by kernel_rfl) rfl
    (fun f fn hf hfn => by
      obtain rfl : f = 5 := Option.some.inj ((show Tryz.prog.funcNamed Rows.historyTextsRow.func = some 5 by kernel_rfl).symm.trans hf) |>.symm
      obtain rfl : fn = Tryz.f5 := (Option.some.inj (Tryz.func5.symm.trans hfn)).symm
      exact ⟨by kernel_rfl, fun j t ht => by
        rw [Tryz.params5] at ht
        have hall : (([24, 52, 27, 53, 9, 9] : List TypeId).all fun t => !Tryz.prog.wantsStandIn t) = true := by kernel_rfl
        have := List.all_eq_true.1 hall t (List.mem_of_getElem? (i := j) (by simpa using ht))
        have h2 : Tryz.prog.wantsStandIn t = false := by simpa using this
        exact h2⟩)
    (by kernel_rfl)
#print axioms historyTexts_holds
end Go.Proofs.YtmnihgcffdmodaaGreatDoor
