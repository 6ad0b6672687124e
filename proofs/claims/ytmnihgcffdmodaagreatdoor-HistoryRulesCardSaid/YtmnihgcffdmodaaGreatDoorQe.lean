/-
  Walks of the history's functions (2). Conditions: those of each statement.
-/
import Derived.Test.YtmnihgcffdmodaaGreatDoorQd
set_option linter.unusedVariables false
set_option linter.unusedSimpArgs false
set_option maxRecDepth 20000
namespace Go.Proofs.YtmnihgcffdmodaaGreatDoor
open Go Go.E RowKit
attribute [local irreducible] Go.E.T Go.E.L Go.E.O Go.E.Ob

attribute [local irreducible] Go.E.ObX
/-- A list of items in a block of its own. -/
structure OwnIts (base b n cap : Nat) (cur : List Value) (its : List It) (w : World) : Prop where
  hb : base ≤ b
  blk : Blk w b cur 39
  len : its.length = n
  hn : n ≤ cap
  hm : cap ≤ maxLen
  hl : cur.length = cap * 7
  ht : cur.take (n * 7) = (its.map It.cells).flatten
theorem OwnIts.of {base n : Nat} {v : Value} {its : List It} {w : World} (h : w.ownsRow base 39 7 v n (its.map It.cells).flatten) (hn : its.length = n) (hne : 0 < n) : ∃ b cap cur, v = .slice (some ⟨b, 0, none⟩) n cap ∧ OwnIts base b n cap cur its w := by
  have hl := h.1
  rcases h.2 with ⟨h0, _⟩ | ⟨g, cap, cur, rfl, hbase, hg, hnc, hm, hsz, htk⟩
  · omega
  · exact ⟨g, cap, cur.toList, rfl, hbase, by unfold Blk; simpa using hg, hn, hnc, hm, by simpa using hsz, htk⟩
theorem OwnIts.own {base b n cap : Nat} {cur : List Value} {its : List It} {w : World} (h : OwnIts base b n cap cur its w) : w.ownsRow base 39 7 (.slice (some ⟨b, 0, none⟩) n cap) n (its.map It.cells).flatten :=
  ⟨by rw [fl_len It.len, h.len], .inr ⟨b, cap, cur.toArray, rfl, h.hb, h.blk, h.hn, h.hm, by simpa using h.hl, by simpa using h.ht⟩⟩
theorem OwnIts.its {base b n cap : Nat} {cur : List Value} {its : List It} {w : World} (h : OwnIts base b n cap cur its w) : Its base w (.slice (some ⟨b, 0, none⟩) n cap) its := by
  have := Sl.of_owns h.own
  unfold Its; rw [h.len]; exact this
theorem OwnIts.keep {base lo b n cap : Nat} {cur : List Value} {its : List It} {w w' : World} (h : OwnIts base b n cap cur its w) (k : Keep lo w w') (hl : lo ≤ base) : OwnIts base b n cap cur its w' := ⟨h.hb, h.blk.keep k (Nat.le_trans hl h.hb), h.len, h.hn, h.hm, h.hl, h.ht⟩
theorem OwnIts.set {base b n cap i j : Nat} {cur : List Value} {its : List It} {w w' : World} {v : Value} {r' : It} (h : OwnIts base b n cap cur its w) (hB : Blk w' b (cur.set (0 + ((i : Int).toNat * 7 + j)) v) 39) (hi : i < its.length) (hj : j < 7) (hr : r'.cells = (its.getD i i0).cells.set j v) : OwnIts base b n cap (cur.set (0 + ((i : Int).toNat * 7 + j)) v) (its.set i r') w' := by
  refine ⟨h.hb, hB, by rw [List.length_set]; exact h.len, h.hn, h.hm, by rw [List.length_set]; exact h.hl, ?_⟩
  rw [Nat.zero_add, Int.toNat_natCast, List.take_set, h.ht]
  exact fl_set It.len its i j r' i0 v hi hj hr
theorem OwnIts.fit {base b n cap i j : Nat} {cur : List Value} {its : List It} {w : World} (h : OwnIts base b n cap cur its w) (hi : i < its.length) (hj : j < 7) : 0 + ((i : Int).toNat * 7 + j) < cur.length := by
  rw [h.hl, Int.toNat_natCast]
  have h1 := h.len; have h2 := h.hn
  have : (i + 1) * 7 ≤ cap * 7 := Nat.mul_le_mul_right 7 (by omega)
  omega
theorem stCells_one {v : Value} (s : St) (h : v.oneCell' = true) : ∀ u ∈ stCells v s, u.oneCell' = true := by
  intro u hu
  simp only [stCells, List.mem_cons, List.mem_nil_iff, or_false] at hu
  rcases hu with rfl | rfl | rfl
  · exact h
  · rfl
  · rfl
/-- What the reference's step gives. -/
def RStep (w : World) (s : St) (x : En) (v : Value) (w' : World) : Prop := ∃ pv' s', v = .tuple #[stVal pv' s', .bool (stepE s x).isSome] ∧ Its 0 w' pv' s'.its ∧ (∀ t, stepE s x = some t → s' = t) ∧ Ext w w'
/-- .. with a new list. -/
def RStepF (w : World) (s : St) (x : En) (v : Value) (w' : World) : Prop := ∃ pv' s', v = .tuple #[stVal pv' s', .bool (stepE s x).isSome] ∧ Its w.heap.size w' pv' s'.its ∧ (∀ t, stepE s x = some t → s' = t) ∧ Ext w w'
theorem RStepF.no {lo : Nat} {w w' : World} {s s' : St} {x : En} {pv : Value} (h : stepE s x = none) (hI : Its lo w' pv s'.its) (he : Ext w w') (hlo : w.heap.size ≤ lo := by omega) : RStepF w s x (.tuple #[.agg (stCells pv s').toArray, .bool false]) w' :=
  ⟨pv, s', by rw [h]; rfl, Sl.mono hI hlo, (fun t ht => by rw [h] at ht; cases ht), he⟩
theorem RStepF.yes {lo : Nat} {w w' : World} {s s' : St} {x : En} {pv : Value} (h : stepE s x = some s') (hI : Its lo w' pv s'.its) (he : Ext w w') (hlo : w.heap.size ≤ lo := by omega) : RStepF w s x (.tuple #[.agg (stCells pv s').toArray, .bool true]) w' :=
  ⟨pv, s', by rw [h]; rfl, Sl.mono hI hlo, (fun t ht => by rw [h] at ht; cases ht; rfl), he⟩
theorem getD_set_self {α : Type} {xs : List α} {i : Nat} {y d : α} (h : i < xs.length) : (xs.set i y).getD i d = y := by simp [List.getD, h]
theorem step_old {s : St} {x : En} (h4 : ¬ x.k = 4) (h1 : ¬ x.k = 1) (hf : ¬ findK s.its x.item < s.its.length) : stepE s x = none := by rw [stepE, if_neg h4, if_neg h1, if_pos hf]
theorem step_item {s : St} {x : En} (h4 : ¬ x.k = 4) (h1 : ¬ x.k = 1) (hf : findK s.its x.item < s.its.length) : stepE s x = (if ¬ (s.its.getD (findK s.its x.item) i0).ow = x.who ∨ (s.its.getD (findK s.its x.item) i0).wd = true then none
    else if x.k = 2 then (if s.cl = true then none else some { s with its := s.its.set (findK s.its x.item) { s.its.getD (findK s.its x.item) i0 with ver := wrap64 ((s.its.getD (findK s.its x.item) i0).ver + 1), sl := x.sl } })
    else if x.k = 3 then (if (s.its.getD (findK s.its x.item) i0).op = true then none else some { s with its := s.its.set (findK s.its x.item) { s.its.getD (findK s.its x.item) i0 with wd := true } })
    else if ¬ s.cl = true ∨ (s.its.getD (findK s.its x.item) i0).op = true ∨ ¬ (s.its.getD (findK s.its x.item) i0).sl = sealN x.con x.non then none
    else some { s with its := s.its.set (findK s.its x.item) { s.its.getD (findK s.its x.item) i0 with op := true, con := x.con } }) := by
  rw [stepE, if_neg h4, if_neg h1, if_neg (Classical.not_not.2 hf)]
set_option maxHeartbeats 1000000 in
theorem Rstep_callsF (lo : Nat) (pv : Value) (s : St) (x : En) (w : World) (hp : Its lo w pv s.its) (hx : x.ok) (hlen : s.its.length ≤ 100000) (hk : 1 ≤ x.k ∧ x.k ≤ 5) (hcn : x.con.length + x.non.length ≤ 4611686018427387904) :
    Calls Tryz.prog 46 #[stVal pv s, x.val] w (Ret fun v w' => RStepF w s x v w') := by
  refine T.enter (vs := [stVal pv s, x.val]) Tryz.func46 rfl Tryz.ntmps46 rfl ?_
  refine T.seq (T.region (L.op rfl rfl (O.box rfl (fun b2 w2 hb2 hz2 he2 hB2 => ?_))))
  refine L.op rfl rfl (O.box rfl (fun b3 w3 hb3 hz3 he3 hB3 => ?_))
  refine L.op rfl rfl (O.alloc Tryz.zeroValue32 (fun b4 w4 hb4 hz4 he4 hB4 => ?_))
  have hS4 : Blk w4 b2 (stCells pv s) 32 := (Blk.ext (cs := stCells pv s) hB2 he3).ext he4
  have hE4 : Blk w4 b3 x.cells 42 := Blk.ext (cs := x.cells) hB3 he4
  have hR4 : Blk w4 b4 (stCells (.slice none 0 0) s0) 32 := hB4
  have he04 := (he2.trans he3).trans he4
  refine L.op rfl rfl (O.assign rfl (L.nil (T.seq (T.region (L.op rfl rfl (O.buildSlice (el := 39) (parts := []) (vs := []) (cs := []) rfl (fun w => by kernel_rfl) (fun b7 w7 hb7 hz7 he7 hB7 => ?_)))))))
  have hO7 : w7.ownsRow b7 39 7 (.slice (some ⟨b7, 0, none⟩) 0 0) 0 [] := owns_blk (n := 0) hB7 (Nat.le_refl _) (Nat.le_refl _) (by decide) rfl
  refine L.op rfl rfl (O.fieldAddr Tryz.runUnderlying32 rfl Tryz.sizeOf30 rfl (L.op rfl rfl (O.load Tryz.isAgg30 rfl ((hS4.ext he7).cell rfl) (L.op rfl rfl (O.append (size := 7) (bytes := 72) Tryz.runUnderlying30 Tryz.infoOf39 rfl rfl rfl rfl (by decide) rfl rfl hO7 ((hp.ext he04).ext he7) (fl_one_cell It.one _) (by omega) (by simp only [maxLen]; omega) (by omega) (fun v10 w10 hO10 hG10 => ?_))))))
  have he10 : Ext w4 w10 := he7.grown0 hO7 hG10 (by omega)
  rw [Nat.zero_add, List.nil_append] at hO10
  refine L.op rfl rfl (O.fieldAddr Tryz.runUnderlying32 rfl Tryz.sizeOf30 rfl (L.op rfl rfl (O.store1 Tryz.sizeOf30 (Sl.one (Sl.of_owns hO10)) rfl rfl (hS4.ext he10) (by simp [stCells]) (fun w11 hu11 hB11 => ?_))))
  have hu11 : Upd b2 _ _ := hu11
  have hS11 : Blk w11 b2 (stCells v10 s) 32 := hB11
  have hE11 : Blk w11 b3 x.cells 42 := (hE4.ext he10).upd hu11 (by omega)
  have hR11 : Blk w11 b4 (stCells (.slice none 0 0) s0) 32 := (hR4.ext he10).upd hu11 (by omega)
  have hO11 := owns_keep hO10 ((Keep.refl b7 w10).upd hu11 (.inl (by omega))) (Nat.le_refl _)
  have hI11 : Its b7 w11 v10 s.its := Sl.of_owns hO11
  have h1c := Sl.one (Sl.of_owns hO10)
  have he011 : Ext w w11 := (he04.trans he10).upd hu11 (.inr (by omega))
  refine L.nil (T.seq (T.seq (T.region (L.op rfl rfl (O.fieldAddr Tryz.runUnderlying42 rfl Tryz.sizeOf3 rfl (L.op rfl rfl (O.load Tryz.isAgg3 rfl (hE11.cell rfl) (L.op rfl rfl (O.eql_s rfl rfl (fun h4 => ?_) (fun h4 => ?_))))))))))
  · refine L.nil (?_)
    rcases hc : s.cl with _ | _
    · refine T.cond_true rfl (T.seq (T.seq (T.region (L.op rfl rfl (O.fieldAddr Tryz.runUnderlying32 rfl Tryz.sizeOf4 rfl (L.op rfl rfl (O.load Tryz.isAgg4 rfl (hS11.cell (v := .bool false) (by simp [stCells, hc])) (L.nil (T.cond_false rfl (T.skip (T.seq (T.region (L.op rfl rfl (O.fieldAddr Tryz.runUnderlying32 rfl Tryz.sizeOf4 rfl (L.op rfl rfl (O.store1 Tryz.sizeOf4 rfl rfl rfl hS11 (by simp [stCells]) (fun w18 hu18 hB18 => ?_)))))))))))))))))
      have hu18 : Upd b2 _ _ := hu18
      refine L.nil (T.seq (T.region (L.op rfl rfl (O.fieldAddr Tryz.runUnderlying42 rfl Tryz.sizeOf9 rfl (L.op rfl rfl (O.load Tryz.isAgg9 rfl ((hE11.upd hu18 (by omega)).cell rfl) (L.op rfl rfl (O.fieldAddr Tryz.runUnderlying32 rfl Tryz.sizeOf9 rfl (L.op rfl rfl (O.store1 Tryz.sizeOf9 rfl rfl rfl hB18 (by simp [stCells]) (fun w21 hu21 hB21 => ?_)))))))))))
      have hu21 : Upd b2 _ _ := hu21
      have hS21 : Blk w21 b2 (stCells v10 { s with cl := true, by' := x.who }) 32 := hB21
      refine L.nil (T.seq (T.region (L.op rfl rfl (O.loadAgg Tryz.isAgg32 Tryz.sizeOf32 rfl rfl hS21.row (L.op rfl rfl (O.storeAgg Tryz.sizeOf32 rfl rfl rfl ((hR11.upd hu18 (by omega)).upd hu21 (by omega)) (Nat.le_refl _) (stCells_one _ h1c) (fun w22 hu22 hB22 => ?_)))))))
      have hu22 : Upd b4 _ _ := hu22
      have hR22 : Blk w22 b4 (stCells v10 { s with cl := true, by' := x.who }) 32 := hB22
      refine L.op rfl rfl (O.assign rfl (L.nil (T.retAT Tryz.results46 Tryz.isAgg32 Tryz.sizeOf32 rfl rfl rfl hR22.row (RStepF.yes (s' := { s with cl := true, by' := x.who }) (by rw [stepE, if_pos h4, if_neg (by rw [hc]; decide)]) (Sl.keep hI11 ((((Keep.refl b7 w11).upd hu18 (.inl (by omega))).upd hu21 (.inl (by omega))).upd hu22 (.inl (by omega)))) (((he011.upd hu18 (.inr (by omega))).upd hu21 (.inr (by omega))).upd hu22 (.inr (by omega)))))))
    · refine T.cond_true rfl (T.seq (T.seq (T.region (L.op rfl rfl (O.fieldAddr Tryz.runUnderlying32 rfl Tryz.sizeOf4 rfl (L.op rfl rfl (O.load Tryz.isAgg4 rfl (hS11.cell (v := .bool true) (by simp [stCells, hc])) (L.nil (T.cond_true rfl (T.seq (T.region (L.op rfl rfl (O.loadAgg Tryz.isAgg32 Tryz.sizeOf32 rfl rfl hS11.row (L.op rfl rfl (O.storeAgg Tryz.sizeOf32 rfl rfl rfl hR11 (Nat.le_refl _) (stCells_one _ h1c) (fun w1000 hu1000 hB1000 => ?_))))))))))))))))
      have hu1000 : Upd b4 _ _ := hu1000
      have hR1000 : Blk w1000 b4 (stCells _ s) 32 := hB1000
      refine L.op rfl rfl (O.assign rfl (L.nil (T.retAT Tryz.results46 Tryz.isAgg32 Tryz.sizeOf32 rfl rfl rfl hR1000.row (RStepF.no (by rw [stepE, if_pos h4, if_pos hc]) (Sl.keep hI11 ((Keep.refl b7 _).upd hu1000 (.inl (by omega)))) (he011.upd hu1000 (.inr (by omega)))))))
  · refine L.nil (T.cond_false rfl (T.skip (T.seq (T.region (L.op rfl rfl (O.loadAgg Tryz.isAgg32 Tryz.sizeOf32 rfl rfl hS11.row (L.op rfl rfl (O.fieldAddr Tryz.runUnderlying42 rfl Tryz.sizeOf9 rfl (L.op rfl rfl (O.load Tryz.isAgg9 rfl (hE11.cell rfl) (?_)))))))))))
    by_cases hf : findK s.its x.item < s.its.length
    · refine L.op rfl rfl (O.call (xs := [.tmp 23, .tmp 25]) Tryz.call82 rfl rfl (Rfind_calls b7 v10 s x.item w11 hI11) (fun v26 w26 hq => ?_))
      obtain ⟨hv26, he26⟩ := hq
      rw [if_pos hf] at hv26
      subst hv26
      have hS26 := hS11.ext he26
      have hE26 := hE11.ext he26
      have hR26 := hR11.ext he26
      have hI26 := hI11.ext he26
      have he026 := he011.trans he26
      have hO26 := owns_keep hO11 (he26.mono (Nat.zero_le b7)) (Nat.le_refl _)
      refine L.op rfl rfl (O.assign rfl (L.nil (T.seq (T.seq (T.region (L.op rfl rfl (O.fieldAddr Tryz.runUnderlying42 rfl Tryz.sizeOf3 rfl (L.op rfl rfl (O.load Tryz.isAgg3 rfl (hE26.cell rfl) (L.op rfl rfl (O.eql_s rfl rfl (fun h1 => ?_) (fun h1 => ?_))))))))))))
      · refine L.nil (?_)
        rcases hc : s.cl with _ | _
        · refine T.cond_true rfl (T.seq (T.seq (T.region (L.op rfl rfl (O.fieldAddr Tryz.runUnderlying32 rfl Tryz.sizeOf4 rfl (L.op rfl rfl (O.load Tryz.isAgg4 rfl (hS26.cell (v := .bool false) (by simp [stCells, hc])) (L.op rfl rfl (O.move rfl (L.op rfl rfl (O.move rfl (L.op rfl rfl (O.geq_t rfl rfl (by omega) (L.op rfl rfl (O.pick_false rfl rfl (L.nil (T.cond_true rfl (T.seq (T.region (L.op rfl rfl (O.loadAgg Tryz.isAgg32 Tryz.sizeOf32 rfl rfl hS26.row (L.op rfl rfl (O.storeAgg Tryz.sizeOf32 rfl rfl rfl hR26 (Nat.le_refl _) (stCells_one _ h1c) (fun w1000 hu1000 hB1000 => ?_))))))))))))))))))))))))
          have hu1000 : Upd b4 _ _ := hu1000
          have hR1000 : Blk w1000 b4 (stCells _ s) 32 := hB1000
          refine L.op rfl rfl (O.assign rfl (L.nil (T.retAT Tryz.results46 Tryz.isAgg32 Tryz.sizeOf32 rfl rfl rfl hR1000.row (RStepF.no (by rw [stepE, if_neg h4, if_pos h1, if_pos (.inr hf)]) (Sl.keep hI26 ((Keep.refl b7 _).upd hu1000 (.inl (by omega)))) (he026.upd hu1000 (.inr (by omega)))))))
        · refine T.cond_true rfl (T.seq (T.seq (T.region (L.op rfl rfl (O.fieldAddr Tryz.runUnderlying32 rfl Tryz.sizeOf4 rfl (L.op rfl rfl (O.load Tryz.isAgg4 rfl (hS26.cell (v := .bool true) (by simp [stCells, hc])) (L.op rfl rfl (O.move rfl (L.pass rfl rfl (L.pass rfl rfl (L.op rfl rfl (O.pick_true rfl rfl (L.nil (T.cond_true rfl (T.seq (T.region (L.op rfl rfl (O.loadAgg Tryz.isAgg32 Tryz.sizeOf32 rfl rfl hS26.row (L.op rfl rfl (O.storeAgg Tryz.sizeOf32 rfl rfl rfl hR26 (Nat.le_refl _) (stCells_one _ h1c) (fun w1000 hu1000 hB1000 => ?_))))))))))))))))))))))
          have hu1000 : Upd b4 _ _ := hu1000
          have hR1000 : Blk w1000 b4 (stCells _ s) 32 := hB1000
          refine L.op rfl rfl (O.assign rfl (L.nil (T.retAT Tryz.results46 Tryz.isAgg32 Tryz.sizeOf32 rfl rfl rfl hR1000.row (RStepF.no (by rw [stepE, if_neg h4, if_pos h1, if_pos (.inl hc)]) (Sl.keep hI26 ((Keep.refl b7 _).upd hu1000 (.inl (by omega)))) (he026.upd hu1000 (.inr (by omega)))))))
      · refine L.nil (?_)
        have hst := step_item h4 h1 hf
        by_cases how : (s.its.getD (findK s.its x.item) i0).ow = x.who
        · rcases hwd : (s.its.getD (findK s.its x.item) i0).wd with _ | _
          · rw [if_neg (fun h => h.elim (fun h => h how) (fun h => by rw [hwd] at h; cases h))] at hst
            refine T.cond_false rfl (T.skip (T.seq (T.seq (?_))))
            refine T.anyE mixed 17 [6, 2, 3] rfl [.is _, .is _, .is _, .is _, .is _, .is _, .is _, .is _, .is _, .is _, .is _, .is _, .is _, .is _, .is _, .is _, .is _] [[], [0], [1], [2], [3, 2], [2], [4, 5, 2], [6, 2], [7, 2], [2], [9, 2], [8, 10, 2], [2, 11], [12], [13], [14, 13], [13]] [[], [0], [0, 1], [0, 1, 2], [0, 1, 2, 3], [0, 1, 2], [0, 1, 2, 3, 4, 5], [0, 1, 2, 3, 4, 5, 6], [0, 1, 2, 3, 4, 5, 6, 7], [0, 1, 2], [0, 1, 2, 9], [0, 1, 2, 3, 4, 5, 6, 7, 8, 9, 10], [0, 1, 2, 3, 4, 5, 6, 7, 8, 9, 10, 11], [0, 1, 2, 3, 4, 5, 6, 7, 8, 9, 10, 11, 12], [0, 1, 2, 3, 4, 5, 6, 7, 8, 9, 10, 11, 12, 13], [0, 1, 2, 3, 4, 5, 6, 7, 8, 9, 10, 11, 12, 13, 14], [0, 1, 2, 3, 4, 5, 6, 7, 8, 9, 10, 11, 12, 13], [0, 1, 2, 3, 4, 5, 6, 7, 8, 9, 10, 11, 12, 13, 14, 15, 16], [0, 1, 2, 3, 4, 5, 6, 7, 8, 9, 10, 11, 12, 13, 14, 15, 16, 17], [0, 1, 2, 3, 4, 5, 6, 7, 8, 9, 10, 11, 12, 13, 14, 15, 16, 17, 18], [0, 1, 2, 3, 4, 5, 6, 7, 8, 9, 10, 11, 12, 13, 14, 15, 16, 17, 18, 19]] (by kernel_rfl) (by kernel_rfl) rfl (by kernel_rfl) trivial ⟨fun wx hx => Ob.op rfl (O.move rfl ⟨Keep.refl _ _, rfl⟩),
                fun wx hx => Ob.op rfl (O.lss_f rfl rfl (by omega) ⟨Keep.refl _ _, rfl⟩),
                fun wx hx => Ob.op rfl (O.move rfl ⟨Keep.refl _ _, rfl⟩),
                fun wx hx => Ob.op rfl (O.fieldAddr Tryz.runUnderlying32 rfl Tryz.sizeOf30 rfl ⟨Keep.refl _ _, rfl⟩),
                fun wx hx => Ob.op rfl (O.load Tryz.isAgg30 rfl ((hS26.ext hx).cell rfl) ⟨Keep.refl _ _, rfl⟩),
                fun wx hx => Ob.op rfl (O.move rfl ⟨Keep.refl _ _, rfl⟩),
                fun wx hx => Ob.op rfl (O.indexAddr Tryz.runUnderlying30 Tryz.sizeOf39 rfl rfl (hI26.ext hx) (by omega) (by omega) ⟨Keep.refl _ _, rfl⟩),
                fun wx hx => Ob.op rfl (O.fieldAddr Tryz.runUnderlying39 rfl Tryz.sizeOf9 rfl ⟨Keep.refl _ _, rfl⟩),
                fun wx hx => Ob.op rfl (O.load Tryz.isAgg9 rfl ((hI26.ext hx).cell (j := 1) hf (by decide) rfl) ⟨Keep.refl _ _, rfl⟩),
                fun wx hx => Ob.op rfl (O.fieldAddr Tryz.runUnderlying42 rfl Tryz.sizeOf9 rfl ⟨Keep.refl _ _, rfl⟩),
                fun wx hx => Ob.op rfl (O.load Tryz.isAgg9 rfl ((hE26.ext hx).cell rfl) ⟨Keep.refl _ _, rfl⟩),
                fun wx hx => Ob.op rfl (O.neq_str_f Tryz.runUnderlying9 rfl rfl how ⟨Keep.refl _ _, rfl⟩),
                fun wx hx => Ob.op rfl (O.pick_false rfl rfl ⟨Keep.refl _ _, rfl⟩),
                fun wx hx => Ob.op rfl (O.move rfl ⟨Keep.refl _ _, rfl⟩),
                fun wx hx => Ob.op rfl (O.fieldAddr Tryz.runUnderlying32 rfl Tryz.sizeOf30 rfl ⟨Keep.refl _ _, rfl⟩),
                fun wx hx => Ob.op rfl (O.load Tryz.isAgg30 rfl ((hS26.ext hx).cell rfl) ⟨Keep.refl _ _, rfl⟩),
                fun wx hx => Ob.op rfl (O.move rfl ⟨Keep.refl _ _, rfl⟩),
                trivial⟩ (fun w70 he70 => ?_)
            have hS70 := hS26.ext he70
            have hE70 := hE26.ext he70
            have hR70 := hR26.ext he70
            have hI70 := hI26.ext he70
            have he070 := he026.trans he70
            have hO70 := owns_keep hO26 (he70.mono (Nat.zero_le b7)) (Nat.le_refl _)
            refine L.op rfl rfl (O.indexAddr Tryz.runUnderlying30 Tryz.sizeOf39 rfl rfl hI70 (by omega) (by omega) (L.op rfl rfl (O.fieldAddr Tryz.runUnderlying39 rfl Tryz.sizeOf4 rfl (L.op rfl rfl (O.load Tryz.isAgg4 rfl (hI70.cell (j := 4) (u := .bool false) hf (by decide) (by rw [← hwd]; rfl)) (L.op rfl rfl (O.pick_false rfl rfl (L.nil (T.cond_false rfl (T.skip (T.seq (T.seq (T.region (L.op rfl rfl (O.fieldAddr Tryz.runUnderlying42 rfl Tryz.sizeOf3 rfl (L.op rfl rfl (O.load Tryz.isAgg3 rfl (hE70.cell rfl) (?_))))))))))))))))))
            obtain ⟨b, cap, cur, rfl, hw70⟩ := OwnIts.of hO70 rfl (by omega)
            refine L.nil (T.block (T.seq (T.region (L.op rfl rfl (O.eql_s rfl rfl (fun h2 => ?_) (fun h2 => ?_))))))
            · rw [if_pos h2] at hst
              refine L.op rfl rfl (O.assign rfl (?_))
              rcases hc : s.cl with _ | _
              · refine L.nil (?_)
                rw [if_neg (by rw [hc]; decide)] at hst
                refine T.cond_true rfl (T.seq (T.seq (T.region (L.op rfl rfl (O.fieldAddr Tryz.runUnderlying32 rfl Tryz.sizeOf4 rfl (L.op rfl rfl (O.load Tryz.isAgg4 rfl (hS70.cell (v := .bool false) (by simp [stCells, hc])) (L.nil (T.cond_false rfl (T.skip (T.seq (T.region (L.op rfl rfl (O.fieldAddr Tryz.runUnderlying32 rfl Tryz.sizeOf30 rfl (L.op rfl rfl (O.load Tryz.isAgg30 rfl (hS70.cell rfl) (L.op rfl rfl (O.move rfl (L.op rfl rfl (O.indexAddr Tryz.runUnderlying30 Tryz.sizeOf39 rfl rfl hw70.its (by omega) (by omega) (L.op rfl rfl (O.fieldAddr Tryz.runUnderlying39 rfl Tryz.sizeOf3 rfl (L.op rfl rfl (O.load Tryz.isAgg3 rfl (hw70.its.cell (j := 2) hf (by decide) rfl) (L.op rfl rfl (O.add rfl rfl (L.op rfl rfl (O.indexAddr Tryz.runUnderlying30 Tryz.sizeOf39 rfl rfl hw70.its (by omega) (by omega) (L.op rfl rfl (O.fieldAddr Tryz.runUnderlying39 rfl Tryz.sizeOf3 rfl (L.op rfl rfl (O.store1_at2 Tryz.sizeOf3 rfl rfl rfl hw70.blk (hw70.fit hf (by decide)) (fun w87 hu87 hB87 => ?_)))))))))))))))))))))))))))))))))
                have hu87 : Upd b _ _ := hu87
                have hw87 := hw70.set (r' := { s.its.getD (findK s.its x.item) i0 with ver := wrap64 ((s.its.getD (findK s.its x.item) i0).ver + 1) }) hB87 hf (by decide) rfl
                refine L.nil (T.region (L.op rfl rfl (O.fieldAddr Tryz.runUnderlying32 rfl Tryz.sizeOf30 rfl (L.op rfl rfl (O.load Tryz.isAgg30 rfl ((hS70.upd hu87 (by have := hw70.hb; omega)).cell rfl) (L.op rfl rfl (O.move rfl (L.op rfl rfl (O.fieldAddr Tryz.runUnderlying42 rfl Tryz.sizeOf25 rfl (L.op rfl rfl (O.load Tryz.isAgg25 rfl ((hE70.upd hu87 (by have := hw70.hb; omega)).cell rfl) (?_))))))))))))
                have hf' : findK s.its x.item < (s.its.set (findK s.its x.item) { s.its.getD (findK s.its x.item) i0 with ver := wrap64 ((s.its.getD (findK s.its x.item) i0).ver + 1) }).length := by rw [List.length_set]; exact hf
                refine L.op rfl rfl (O.indexAddr Tryz.runUnderlying30 Tryz.sizeOf39 rfl rfl hw87.its (by omega) (by omega) (L.op rfl rfl (O.fieldAddr Tryz.runUnderlying39 rfl Tryz.sizeOf25 rfl (L.op rfl rfl (O.store1_at2 Tryz.sizeOf25 rfl rfl rfl hw87.blk (hw87.fit hf' (by decide)) (fun w94 hu94 hB94 => ?_))))))
                have hu94 : Upd b _ _ := hu94
                have hw94 := hw87.set (r' := { s.its.getD (findK s.its x.item) i0 with ver := wrap64 ((s.its.getD (findK s.its x.item) i0).ver + 1), sl := x.sl }) hB94 hf' (by decide) (by rw [getD_set_self hf]; rfl)
                rw [List.set_set] at hw94
                have hS94 : Blk w94 b2 (stCells (.slice (some ⟨b, 0, none⟩) s.its.length cap) { s with its := s.its.set (findK s.its x.item) { s.its.getD (findK s.its x.item) i0 with ver := wrap64 ((s.its.getD (findK s.its x.item) i0).ver + 1), sl := x.sl } }) 32 := (hS70.upd hu87 (by have := hw70.hb; omega)).upd hu94 (by have := hw70.hb; omega)
                refine L.nil (T.blk (T.seq (T.region (L.op rfl rfl (O.loadAgg Tryz.isAgg32 Tryz.sizeOf32 rfl rfl hS94.row (L.op rfl rfl (O.storeAgg Tryz.sizeOf32 rfl rfl rfl ((hR70.upd hu87 (by have := hw70.hb; omega)).upd hu94 (by have := hw70.hb; omega)) (Nat.le_refl _) (stCells_one _ h1c) (fun w95 hu95 hB95 => ?_))))))))
                have hu95 : Upd b4 _ _ := hu95
                have hR95 : Blk w95 b4 (stCells (.slice (some ⟨b, 0, none⟩) s.its.length cap) { s with its := s.its.set (findK s.its x.item) { s.its.getD (findK s.its x.item) i0 with ver := wrap64 ((s.its.getD (findK s.its x.item) i0).ver + 1), sl := x.sl } }) 32 := hB95
                refine L.op rfl rfl (O.assign rfl (L.nil (T.retAT Tryz.results46 Tryz.isAgg32 Tryz.sizeOf32 rfl rfl rfl hR95.row (RStepF.yes hst (Sl.keep hw94.its ((Keep.refl b7 w94).upd hu95 (.inl (by omega)))) (((he070.upd hu87 (.inr (by have := hw70.hb; omega))).upd hu94 (.inr (by have := hw70.hb; omega))).upd hu95 (.inr (by omega)))))))
              · refine L.nil (?_)
                rw [if_pos hc] at hst
                refine T.cond_true rfl (T.seq (T.seq (T.region (L.op rfl rfl (O.fieldAddr Tryz.runUnderlying32 rfl Tryz.sizeOf4 rfl (L.op rfl rfl (O.load Tryz.isAgg4 rfl (hS70.cell (v := .bool true) (by simp [stCells, hc])) (L.nil (T.cond_true rfl (T.seq (T.region (L.op rfl rfl (O.loadAgg Tryz.isAgg32 Tryz.sizeOf32 rfl rfl hS70.row (L.op rfl rfl (O.storeAgg Tryz.sizeOf32 rfl rfl rfl hR70 (Nat.le_refl _) (stCells_one _ h1c) (fun w1000 hu1000 hB1000 => ?_))))))))))))))))
                have hu1000 : Upd b4 _ _ := hu1000
                have hR1000 : Blk w1000 b4 (stCells _ s) 32 := hB1000
                refine L.op rfl rfl (O.assign rfl (L.nil (T.retAT Tryz.results46 Tryz.isAgg32 Tryz.sizeOf32 rfl rfl rfl hR1000.row (RStepF.no (hst) (Sl.keep hI70 ((Keep.refl b7 _).upd hu1000 (.inl (by omega)))) (he070.upd hu1000 (.inr (by omega)))))))
            · rw [if_neg h2] at hst
              refine L.op rfl rfl (O.assign rfl (L.nil (T.cond_false rfl (T.seq (T.region (L.op rfl rfl (O.eql_s rfl rfl (fun h3 => ?_) (fun h3 => ?_))))))))
              · rw [if_pos h3] at hst
                refine L.op rfl rfl (O.assign rfl (?_))
                rcases ho : (s.its.getD (findK s.its x.item) i0).op with _ | _
                · refine L.nil (?_)
                  rw [if_neg (by rw [ho]; decide)] at hst
                  refine T.cond_true rfl (T.seq (T.seq (T.region (L.op rfl rfl (O.fieldAddr Tryz.runUnderlying32 rfl Tryz.sizeOf30 rfl (L.op rfl rfl (O.load Tryz.isAgg30 rfl (hS70.cell rfl) (L.op rfl rfl (O.move rfl (L.op rfl rfl (O.indexAddr Tryz.runUnderlying30 Tryz.sizeOf39 rfl rfl hw70.its (by omega) (by omega) (L.op rfl rfl (O.fieldAddr Tryz.runUnderlying39 rfl Tryz.sizeOf4 rfl (L.op rfl rfl (O.load Tryz.isAgg4 rfl (hw70.its.cell (j := 5) (u := .bool false) hf (by decide) (by rw [← ho]; rfl)) (L.nil (T.cond_false rfl (T.skip (T.region (L.op rfl rfl (O.fieldAddr Tryz.runUnderlying32 rfl Tryz.sizeOf30 rfl (L.op rfl rfl (O.load Tryz.isAgg30 rfl (hS70.cell rfl) (L.op rfl rfl (O.move rfl (L.op rfl rfl (O.indexAddr Tryz.runUnderlying30 Tryz.sizeOf39 rfl rfl hw70.its (by omega) (by omega) (L.op rfl rfl (O.fieldAddr Tryz.runUnderlying39 rfl Tryz.sizeOf4 rfl (L.op rfl rfl (O.store1_at2 Tryz.sizeOf4 rfl rfl rfl hw70.blk (hw70.fit hf (by decide)) (fun w94 hu94 hB94 => ?_))))))))))))))))))))))))))))))))
                  have hu94 : Upd b _ _ := hu94
                  have hw94 := hw70.set (r' := { s.its.getD (findK s.its x.item) i0 with wd := true }) hB94 hf (by decide) rfl
                  have hS94 : Blk w94 b2 (stCells (.slice (some ⟨b, 0, none⟩) s.its.length cap) { s with its := s.its.set (findK s.its x.item) { s.its.getD (findK s.its x.item) i0 with wd := true } }) 32 := hS70.upd hu94 (by have := hw70.hb; omega)
                  refine L.nil (T.blk (T.seq (T.region (L.op rfl rfl (O.loadAgg Tryz.isAgg32 Tryz.sizeOf32 rfl rfl hS94.row (L.op rfl rfl (O.storeAgg Tryz.sizeOf32 rfl rfl rfl (hR70.upd hu94 (by have := hw70.hb; omega)) (Nat.le_refl _) (stCells_one _ h1c) (fun w95 hu95 hB95 => ?_))))))))
                  have hu95 : Upd b4 _ _ := hu95
                  have hR95 : Blk w95 b4 (stCells (.slice (some ⟨b, 0, none⟩) s.its.length cap) { s with its := s.its.set (findK s.its x.item) { s.its.getD (findK s.its x.item) i0 with wd := true } }) 32 := hB95
                  refine L.op rfl rfl (O.assign rfl (L.nil (T.retAT Tryz.results46 Tryz.isAgg32 Tryz.sizeOf32 rfl rfl rfl hR95.row (RStepF.yes hst (Sl.keep hw94.its ((Keep.refl b7 w94).upd hu95 (.inl (by omega)))) ((he070.upd hu94 (.inr (by have := hw70.hb; omega))).upd hu95 (.inr (by omega)))))))
                · refine L.nil (?_)
                  rw [if_pos ho] at hst
                  refine T.cond_true rfl (T.seq (T.seq (T.region (L.op rfl rfl (O.fieldAddr Tryz.runUnderlying32 rfl Tryz.sizeOf30 rfl (L.op rfl rfl (O.load Tryz.isAgg30 rfl (hS70.cell rfl) (L.op rfl rfl (O.move rfl (L.op rfl rfl (O.indexAddr Tryz.runUnderlying30 Tryz.sizeOf39 rfl rfl hw70.its (by omega) (by omega) (L.op rfl rfl (O.fieldAddr Tryz.runUnderlying39 rfl Tryz.sizeOf4 rfl (L.op rfl rfl (O.load Tryz.isAgg4 rfl (hw70.its.cell (j := 5) (u := .bool true) hf (by decide) (by rw [← ho]; rfl)) (L.nil (T.cond_true rfl (T.seq (T.region (L.op rfl rfl (O.loadAgg Tryz.isAgg32 Tryz.sizeOf32 rfl rfl hS70.row (L.op rfl rfl (O.storeAgg Tryz.sizeOf32 rfl rfl rfl hR70 (Nat.le_refl _) (stCells_one _ h1c) (fun w1000 hu1000 hB1000 => ?_))))))))))))))))))))))))
                  have hu1000 : Upd b4 _ _ := hu1000
                  have hR1000 : Blk w1000 b4 (stCells _ s) 32 := hB1000
                  refine L.op rfl rfl (O.assign rfl (L.nil (T.retAT Tryz.results46 Tryz.isAgg32 Tryz.sizeOf32 rfl rfl rfl hR1000.row (RStepF.no (hst) (Sl.keep hI70 ((Keep.refl b7 _).upd hu1000 (.inl (by omega)))) (he070.upd hu1000 (.inr (by omega)))))))
              · rw [if_neg h3] at hst
                have h5 : x.k = 5 := by omega
                refine L.op rfl rfl (O.assign rfl (L.nil (T.cond_false rfl (T.seq (T.region (L.op rfl rfl (O.eql_t rfl rfl h5 (?_))))))))
                rcases hc : s.cl with _ | _
                · rw [if_pos (Or.inl (by rw [hc]; decide))] at hst
                  refine L.op rfl rfl (O.assign rfl (L.nil (T.cond_true rfl (T.seq (T.seq (?_))))))
                  refine T.anyE mixed 23 [2, 6, 3] rfl [.is _, .is _, .is _, .is _, .is undef, .is undef, .is undef, .is undef, .is undef, .is undef, .is _, .is _, .is undef, .is undef, .is undef, .is undef, .is undef, .is undef, .is undef, .is undef, .is undef, .is undef, .is undef] [[], [0], [1], [2], [3], [4, 3], [3], [5, 6, 3], [7, 3], [8, 3], [3, 9], [10], [11], [12, 11], [11], [13, 14, 11], [15, 11], [16, 11], [11], [18, 11], [11], [20, 11], [19, 21, 11]] [[], [0], [0, 1], [0, 1, 2], [0, 1, 2, 3], [0, 1, 2, 3, 4], [0, 1, 2, 3], [0, 1, 2, 3, 4, 5, 6], [0, 1, 2, 3, 4, 5, 6, 7], [0, 1, 2, 3, 4, 5, 6, 7, 8], [0, 1, 2, 3, 4, 5, 6, 7, 8, 9], [0, 1, 2, 3, 4, 5, 6, 7, 8, 9, 10], [0, 1, 2, 3, 4, 5, 6, 7, 8, 9, 10, 11], [0, 1, 2, 3, 4, 5, 6, 7, 8, 9, 10, 11, 12], [0, 1, 2, 3, 4, 5, 6, 7, 8, 9, 10, 11], [0, 1, 2, 3, 4, 5, 6, 7, 8, 9, 10, 11, 12, 13, 14], [0, 1, 2, 3, 4, 5, 6, 7, 8, 9, 10, 11, 12, 13, 14, 15], [0, 1, 2, 3, 4, 5, 6, 7, 8, 9, 10, 11, 12, 13, 14, 15, 16], [0, 1, 2, 3, 4, 5, 6, 7, 8, 9, 10, 11], [0, 1, 2, 3, 4, 5, 6, 7, 8, 9, 10, 11, 18], [0, 1, 2, 3, 4, 5, 6, 7, 8, 9, 10, 11], [0, 1, 2, 3, 4, 5, 6, 7, 8, 9, 10, 11, 20], [0, 1, 2, 3, 4, 5, 6, 7, 8, 9, 10, 11, 18, 19, 20, 21], [0, 1, 2, 3, 4, 5, 6, 7, 8, 9, 10, 11, 12, 13, 14, 15, 16, 17, 18, 19, 20, 21, 22], [0, 1, 2, 3, 4, 5, 6, 7, 8, 9, 10, 11, 12, 13, 14, 15, 16, 17, 18, 19, 20, 21, 22, 23]] (by kernel_rfl) (by kernel_rfl) rfl (by kernel_rfl) trivial ⟨fun wx hx => Ob.op rfl (O.fieldAddr Tryz.runUnderlying32 rfl Tryz.sizeOf4 rfl ⟨Keep.refl _ _, rfl⟩),
                      fun wx hx => Ob.op rfl (O.load Tryz.isAgg4 rfl ((hS70.ext hx).cell (v := .bool false) (by simp [stCells, hc])) ⟨Keep.refl _ _, rfl⟩),
                      fun wx hx => Ob.op rfl (O.not rfl ⟨Keep.refl _ _, rfl⟩),
                      fun wx hx => Ob.op rfl (O.move rfl ⟨Keep.refl _ _, rfl⟩),
                      fun wx hx => Ob.pass rfl rfl,
                      fun wx hx => Ob.pass rfl rfl,
                      fun wx hx => Ob.pass rfl rfl,
                      fun wx hx => Ob.pass rfl rfl,
                      fun wx hx => Ob.pass rfl rfl,
                      fun wx hx => Ob.pass rfl rfl,
                      fun wx hx => Ob.op rfl (O.pick_true rfl rfl ⟨Keep.refl _ _, rfl⟩),
                      fun wx hx => Ob.op rfl (O.move rfl ⟨Keep.refl _ _, rfl⟩),
                      fun wx hx => Ob.pass rfl rfl,
                      fun wx hx => Ob.pass rfl rfl,
                      fun wx hx => Ob.pass rfl rfl,
                      fun wx hx => Ob.pass rfl rfl,
                      fun wx hx => Ob.pass rfl rfl,
                      fun wx hx => Ob.pass rfl rfl,
                      fun wx hx => Ob.pass rfl rfl,
                      fun wx hx => Ob.pass rfl rfl,
                      fun wx hx => Ob.pass rfl rfl,
                      fun wx hx => Ob.pass rfl rfl,
                      fun wx hx => Ob.pass rfl rfl,
                      trivial⟩ (fun w135 he135 => ?_)
                  have hS135 := hS70.ext he135
                  have hE135 := hE70.ext he135
                  have hR135 := hR70.ext he135
                  have hI135 := hI70.ext he135
                  have he0135 := he070.trans he135
                  have hw135 := hw70.keep (he135.mono (Nat.zero_le b7)) (Nat.le_refl _)
                  refine L.pass rfl rfl (L.op rfl rfl (O.pick_true rfl rfl (L.nil (T.cond_true rfl (T.seq (T.region (L.op rfl rfl (O.loadAgg Tryz.isAgg32 Tryz.sizeOf32 rfl rfl hS135.row (L.op rfl rfl (O.storeAgg Tryz.sizeOf32 rfl rfl rfl hR135 (Nat.le_refl _) (stCells_one _ h1c) (fun w1000 hu1000 hB1000 => ?_)))))))))))
                  have hu1000 : Upd b4 _ _ := hu1000
                  have hR1000 : Blk w1000 b4 (stCells _ s) 32 := hB1000
                  refine L.op rfl rfl (O.assign rfl (L.nil (T.retAT Tryz.results46 Tryz.isAgg32 Tryz.sizeOf32 rfl rfl rfl hR1000.row (RStepF.no (hst) (Sl.keep hI135 ((Keep.refl b7 _).upd hu1000 (.inl (by omega)))) (he0135.upd hu1000 (.inr (by omega)))))))
                · refine L.op rfl rfl (O.assign rfl (?_))
                  rcases ho : (s.its.getD (findK s.its x.item) i0).op with _ | _
                  · refine L.nil (?_)
                    by_cases hs : (s.its.getD (findK s.its x.item) i0).sl = sealN x.con x.non
                    · rw [if_neg (fun h => h.elim (fun h => h hc) (fun h => h.elim (fun h => by rw [ho] at h; cases h) (fun h => h hs)))] at hst
                      refine T.cond_true rfl (T.seq (T.seq (?_)))
                      refine T.anyE mixed 23 [2, 6, 3] rfl [.is _, .is _, .is _, .is _, .is _, .is _, .is _, .is _, .is _, .is _, .is _, .is _, .is _, .is _, .is _, .is _, .is _, .is _, .is _, .is _, .is _, .is _, .is (wordV (sealN x.con x.non))] [[], [0], [1], [2], [3], [4, 3], [3], [5, 6, 3], [7, 3], [8, 3], [3, 9], [10], [11], [12, 11], [11], [13, 14, 11], [15, 11], [16, 11], [11], [18, 11], [11], [20, 11], [19, 21, 11]] [[], [0], [0, 1], [0, 1, 2], [0, 1, 2, 3], [0, 1, 2, 3, 4], [0, 1, 2, 3], [0, 1, 2, 3, 4, 5, 6], [0, 1, 2, 3, 4, 5, 6, 7], [0, 1, 2, 3, 4, 5, 6, 7, 8], [0, 1, 2, 3, 4, 5, 6, 7, 8, 9], [0, 1, 2, 3, 4, 5, 6, 7, 8, 9, 10], [0, 1, 2, 3, 4, 5, 6, 7, 8, 9, 10, 11], [0, 1, 2, 3, 4, 5, 6, 7, 8, 9, 10, 11, 12], [0, 1, 2, 3, 4, 5, 6, 7, 8, 9, 10, 11], [0, 1, 2, 3, 4, 5, 6, 7, 8, 9, 10, 11, 12, 13, 14], [0, 1, 2, 3, 4, 5, 6, 7, 8, 9, 10, 11, 12, 13, 14, 15], [0, 1, 2, 3, 4, 5, 6, 7, 8, 9, 10, 11, 12, 13, 14, 15, 16], [0, 1, 2, 3, 4, 5, 6, 7, 8, 9, 10, 11], [0, 1, 2, 3, 4, 5, 6, 7, 8, 9, 10, 11, 18], [0, 1, 2, 3, 4, 5, 6, 7, 8, 9, 10, 11], [0, 1, 2, 3, 4, 5, 6, 7, 8, 9, 10, 11, 20], [0, 1, 2, 3, 4, 5, 6, 7, 8, 9, 10, 11, 18, 19, 20, 21], [0, 1, 2, 3, 4, 5, 6, 7, 8, 9, 10, 11, 12, 13, 14, 15, 16, 17, 18, 19, 20, 21, 22], [0, 1, 2, 3, 4, 5, 6, 7, 8, 9, 10, 11, 12, 13, 14, 15, 16, 17, 18, 19, 20, 21, 22, 23]] (by kernel_rfl) (by kernel_rfl) rfl (by kernel_rfl) trivial ⟨fun wx hx => Ob.op rfl (O.fieldAddr Tryz.runUnderlying32 rfl Tryz.sizeOf4 rfl ⟨Keep.refl _ _, rfl⟩),
                          fun wx hx => Ob.op rfl (O.load Tryz.isAgg4 rfl ((hS70.ext hx).cell (v := .bool true) (by simp [stCells, hc])) ⟨Keep.refl _ _, rfl⟩),
                          fun wx hx => Ob.op rfl (O.not rfl ⟨Keep.refl _ _, rfl⟩),
                          fun wx hx => Ob.op rfl (O.move rfl ⟨Keep.refl _ _, rfl⟩),
                          fun wx hx => Ob.op rfl (O.fieldAddr Tryz.runUnderlying32 rfl Tryz.sizeOf30 rfl ⟨Keep.refl _ _, rfl⟩),
                          fun wx hx => Ob.op rfl (O.load Tryz.isAgg30 rfl ((hS70.ext hx).cell rfl) ⟨Keep.refl _ _, rfl⟩),
                          fun wx hx => Ob.op rfl (O.move rfl ⟨Keep.refl _ _, rfl⟩),
                          fun wx hx => Ob.op rfl (O.indexAddr Tryz.runUnderlying30 Tryz.sizeOf39 rfl rfl (hI70.ext hx) (by omega) (by omega) ⟨Keep.refl _ _, rfl⟩),
                          fun wx hx => Ob.op rfl (O.fieldAddr Tryz.runUnderlying39 rfl Tryz.sizeOf4 rfl ⟨Keep.refl _ _, rfl⟩),
                          fun wx hx => Ob.op rfl (O.load Tryz.isAgg4 rfl ((hI70.ext hx).cell (j := 5) (u := .bool false) hf (by decide) (by rw [← ho]; rfl)) ⟨Keep.refl _ _, rfl⟩),
                          fun wx hx => Ob.op rfl (O.pick_false rfl rfl ⟨Keep.refl _ _, rfl⟩),
                          fun wx hx => Ob.op rfl (O.move rfl ⟨Keep.refl _ _, rfl⟩),
                          fun wx hx => Ob.op rfl (O.fieldAddr Tryz.runUnderlying32 rfl Tryz.sizeOf30 rfl ⟨Keep.refl _ _, rfl⟩),
                          fun wx hx => Ob.op rfl (O.load Tryz.isAgg30 rfl ((hS70.ext hx).cell rfl) ⟨Keep.refl _ _, rfl⟩),
                          fun wx hx => Ob.op rfl (O.move rfl ⟨Keep.refl _ _, rfl⟩),
                          fun wx hx => Ob.op rfl (O.indexAddr Tryz.runUnderlying30 Tryz.sizeOf39 rfl rfl (hI70.ext hx) (by omega) (by omega) ⟨Keep.refl _ _, rfl⟩),
                          fun wx hx => Ob.op rfl (O.fieldAddr Tryz.runUnderlying39 rfl Tryz.sizeOf25 rfl ⟨Keep.refl _ _, rfl⟩),
                          fun wx hx => Ob.op rfl (O.load Tryz.isAgg25 rfl ((hI70.ext hx).cell (j := 3) hf (by decide) rfl) ⟨Keep.refl _ _, rfl⟩),
                          fun wx hx => Ob.op rfl (O.fieldAddr Tryz.runUnderlying42 rfl Tryz.sizeOf9 rfl ⟨Keep.refl _ _, rfl⟩),
                          fun wx hx => Ob.op rfl (O.load Tryz.isAgg9 rfl ((hE70.ext hx).cell rfl) ⟨Keep.refl _ _, rfl⟩),
                          fun wx hx => Ob.op rfl (O.fieldAddr Tryz.runUnderlying42 rfl Tryz.sizeOf9 rfl ⟨Keep.refl _ _, rfl⟩),
                          fun wx hx => Ob.op rfl (O.load Tryz.isAgg9 rfl ((hE70.ext hx).cell rfl) ⟨Keep.refl _ _, rfl⟩),
                          fun wx hx => Ob.op rfl (O.call (xs := [.tmp 130, .tmp 132]) Tryz.call32 rfl rfl (Seal_calls x.con x.non wx hcn) (fun v wy h => ⟨h.2, h.1⟩)),
                          trivial⟩ (fun w135 he135 => ?_)
                      have hS135 := hS70.ext he135
                      have hE135 := hE70.ext he135
                      have hR135 := hR70.ext he135
                      have hI135 := hI70.ext he135
                      have he0135 := he070.trans he135
                      have hw135 := hw70.keep (he135.mono (Nat.zero_le b7)) (Nat.le_refl _)
                      refine L.op rfl rfl (O.neq_f rfl rfl (by rw [hs]) (L.op rfl rfl (O.pick_false rfl rfl (L.nil (T.cond_false rfl (T.skip (T.seq (T.region (L.op rfl rfl (O.fieldAddr Tryz.runUnderlying32 rfl Tryz.sizeOf30 rfl (L.op rfl rfl (O.load Tryz.isAgg30 rfl (hS135.cell rfl) (L.op rfl rfl (O.move rfl (L.op rfl rfl (O.indexAddr Tryz.runUnderlying30 Tryz.sizeOf39 rfl rfl hw135.its (by omega) (by omega) (L.op rfl rfl (O.fieldAddr Tryz.runUnderlying39 rfl Tryz.sizeOf4 rfl (L.op rfl rfl (O.store1_at2 Tryz.sizeOf4 rfl rfl rfl hw135.blk (hw135.fit hf (by decide)) (fun w141 hu141 hB141 => ?_)))))))))))))))))))))
                      have hu141 : Upd b _ _ := hu141
                      have hw141 := hw135.set (r' := { s.its.getD (findK s.its x.item) i0 with op := true }) hB141 hf (by decide) rfl
                      refine L.nil (T.region (L.op rfl rfl (O.fieldAddr Tryz.runUnderlying32 rfl Tryz.sizeOf30 rfl (L.op rfl rfl (O.load Tryz.isAgg30 rfl ((hS135.upd hu141 (by have := hw70.hb; omega)).cell rfl) (L.op rfl rfl (O.move rfl (L.op rfl rfl (O.fieldAddr Tryz.runUnderlying42 rfl Tryz.sizeOf9 rfl (L.op rfl rfl (O.load Tryz.isAgg9 rfl ((hE135.upd hu141 (by have := hw70.hb; omega)).cell rfl) (?_))))))))))))
                      have hf' : findK s.its x.item < (s.its.set (findK s.its x.item) { s.its.getD (findK s.its x.item) i0 with op := true }).length := by rw [List.length_set]; exact hf
                      refine L.op rfl rfl (O.indexAddr Tryz.runUnderlying30 Tryz.sizeOf39 rfl rfl hw141.its (by omega) (by omega) (L.op rfl rfl (O.fieldAddr Tryz.runUnderlying39 rfl Tryz.sizeOf9 rfl (L.op rfl rfl (O.store1_at2 Tryz.sizeOf9 rfl rfl rfl hw141.blk (hw141.fit hf' (by decide)) (fun w148 hu148 hB148 => ?_))))))
                      have hu148 : Upd b _ _ := hu148
                      have hw148 := hw141.set (r' := { s.its.getD (findK s.its x.item) i0 with op := true, con := x.con }) hB148 hf' (by decide) (by rw [getD_set_self hf]; rfl)
                      rw [List.set_set] at hw148
                      have hS148 : Blk w148 b2 (stCells (.slice (some ⟨b, 0, none⟩) s.its.length cap) { s with its := s.its.set (findK s.its x.item) { s.its.getD (findK s.its x.item) i0 with op := true, con := x.con } }) 32 := (hS135.upd hu141 (by have := hw70.hb; omega)).upd hu148 (by have := hw70.hb; omega)
                      refine L.nil (T.blk (T.seq (T.region (L.op rfl rfl (O.loadAgg Tryz.isAgg32 Tryz.sizeOf32 rfl rfl hS148.row (L.op rfl rfl (O.storeAgg Tryz.sizeOf32 rfl rfl rfl ((hR135.upd hu141 (by have := hw70.hb; omega)).upd hu148 (by have := hw70.hb; omega)) (Nat.le_refl _) (stCells_one _ h1c) (fun w149 hu149 hB149 => ?_))))))))
                      have hu149 : Upd b4 _ _ := hu149
                      have hR149 : Blk w149 b4 (stCells (.slice (some ⟨b, 0, none⟩) s.its.length cap) { s with its := s.its.set (findK s.its x.item) { s.its.getD (findK s.its x.item) i0 with op := true, con := x.con } }) 32 := hB149
                      refine L.op rfl rfl (O.assign rfl (L.nil (T.retAT Tryz.results46 Tryz.isAgg32 Tryz.sizeOf32 rfl rfl rfl hR149.row (RStepF.yes hst (Sl.keep hw148.its ((Keep.refl b7 w148).upd hu149 (.inl (by omega)))) (((he0135.upd hu141 (.inr (by have := hw70.hb; omega))).upd hu148 (.inr (by have := hw70.hb; omega))).upd hu149 (.inr (by omega)))))))
                    · rw [if_pos (Or.inr (Or.inr hs))] at hst
                      refine T.cond_true rfl (T.seq (T.seq (?_)))
                      refine T.anyE mixed 23 [2, 6, 3] rfl [.is _, .is _, .is _, .is _, .is _, .is _, .is _, .is _, .is _, .is _, .is _, .is _, .is _, .is _, .is _, .is _, .is _, .is _, .is _, .is _, .is _, .is _, .is (wordV (sealN x.con x.non))] [[], [0], [1], [2], [3], [4, 3], [3], [5, 6, 3], [7, 3], [8, 3], [3, 9], [10], [11], [12, 11], [11], [13, 14, 11], [15, 11], [16, 11], [11], [18, 11], [11], [20, 11], [19, 21, 11]] [[], [0], [0, 1], [0, 1, 2], [0, 1, 2, 3], [0, 1, 2, 3, 4], [0, 1, 2, 3], [0, 1, 2, 3, 4, 5, 6], [0, 1, 2, 3, 4, 5, 6, 7], [0, 1, 2, 3, 4, 5, 6, 7, 8], [0, 1, 2, 3, 4, 5, 6, 7, 8, 9], [0, 1, 2, 3, 4, 5, 6, 7, 8, 9, 10], [0, 1, 2, 3, 4, 5, 6, 7, 8, 9, 10, 11], [0, 1, 2, 3, 4, 5, 6, 7, 8, 9, 10, 11, 12], [0, 1, 2, 3, 4, 5, 6, 7, 8, 9, 10, 11], [0, 1, 2, 3, 4, 5, 6, 7, 8, 9, 10, 11, 12, 13, 14], [0, 1, 2, 3, 4, 5, 6, 7, 8, 9, 10, 11, 12, 13, 14, 15], [0, 1, 2, 3, 4, 5, 6, 7, 8, 9, 10, 11, 12, 13, 14, 15, 16], [0, 1, 2, 3, 4, 5, 6, 7, 8, 9, 10, 11], [0, 1, 2, 3, 4, 5, 6, 7, 8, 9, 10, 11, 18], [0, 1, 2, 3, 4, 5, 6, 7, 8, 9, 10, 11], [0, 1, 2, 3, 4, 5, 6, 7, 8, 9, 10, 11, 20], [0, 1, 2, 3, 4, 5, 6, 7, 8, 9, 10, 11, 18, 19, 20, 21], [0, 1, 2, 3, 4, 5, 6, 7, 8, 9, 10, 11, 12, 13, 14, 15, 16, 17, 18, 19, 20, 21, 22], [0, 1, 2, 3, 4, 5, 6, 7, 8, 9, 10, 11, 12, 13, 14, 15, 16, 17, 18, 19, 20, 21, 22, 23]] (by kernel_rfl) (by kernel_rfl) rfl (by kernel_rfl) trivial ⟨fun wx hx => Ob.op rfl (O.fieldAddr Tryz.runUnderlying32 rfl Tryz.sizeOf4 rfl ⟨Keep.refl _ _, rfl⟩),
                          fun wx hx => Ob.op rfl (O.load Tryz.isAgg4 rfl ((hS70.ext hx).cell (v := .bool true) (by simp [stCells, hc])) ⟨Keep.refl _ _, rfl⟩),
                          fun wx hx => Ob.op rfl (O.not rfl ⟨Keep.refl _ _, rfl⟩),
                          fun wx hx => Ob.op rfl (O.move rfl ⟨Keep.refl _ _, rfl⟩),
                          fun wx hx => Ob.op rfl (O.fieldAddr Tryz.runUnderlying32 rfl Tryz.sizeOf30 rfl ⟨Keep.refl _ _, rfl⟩),
                          fun wx hx => Ob.op rfl (O.load Tryz.isAgg30 rfl ((hS70.ext hx).cell rfl) ⟨Keep.refl _ _, rfl⟩),
                          fun wx hx => Ob.op rfl (O.move rfl ⟨Keep.refl _ _, rfl⟩),
                          fun wx hx => Ob.op rfl (O.indexAddr Tryz.runUnderlying30 Tryz.sizeOf39 rfl rfl (hI70.ext hx) (by omega) (by omega) ⟨Keep.refl _ _, rfl⟩),
                          fun wx hx => Ob.op rfl (O.fieldAddr Tryz.runUnderlying39 rfl Tryz.sizeOf4 rfl ⟨Keep.refl _ _, rfl⟩),
                          fun wx hx => Ob.op rfl (O.load Tryz.isAgg4 rfl ((hI70.ext hx).cell (j := 5) (u := .bool false) hf (by decide) (by rw [← ho]; rfl)) ⟨Keep.refl _ _, rfl⟩),
                          fun wx hx => Ob.op rfl (O.pick_false rfl rfl ⟨Keep.refl _ _, rfl⟩),
                          fun wx hx => Ob.op rfl (O.move rfl ⟨Keep.refl _ _, rfl⟩),
                          fun wx hx => Ob.op rfl (O.fieldAddr Tryz.runUnderlying32 rfl Tryz.sizeOf30 rfl ⟨Keep.refl _ _, rfl⟩),
                          fun wx hx => Ob.op rfl (O.load Tryz.isAgg30 rfl ((hS70.ext hx).cell rfl) ⟨Keep.refl _ _, rfl⟩),
                          fun wx hx => Ob.op rfl (O.move rfl ⟨Keep.refl _ _, rfl⟩),
                          fun wx hx => Ob.op rfl (O.indexAddr Tryz.runUnderlying30 Tryz.sizeOf39 rfl rfl (hI70.ext hx) (by omega) (by omega) ⟨Keep.refl _ _, rfl⟩),
                          fun wx hx => Ob.op rfl (O.fieldAddr Tryz.runUnderlying39 rfl Tryz.sizeOf25 rfl ⟨Keep.refl _ _, rfl⟩),
                          fun wx hx => Ob.op rfl (O.load Tryz.isAgg25 rfl ((hI70.ext hx).cell (j := 3) hf (by decide) rfl) ⟨Keep.refl _ _, rfl⟩),
                          fun wx hx => Ob.op rfl (O.fieldAddr Tryz.runUnderlying42 rfl Tryz.sizeOf9 rfl ⟨Keep.refl _ _, rfl⟩),
                          fun wx hx => Ob.op rfl (O.load Tryz.isAgg9 rfl ((hE70.ext hx).cell rfl) ⟨Keep.refl _ _, rfl⟩),
                          fun wx hx => Ob.op rfl (O.fieldAddr Tryz.runUnderlying42 rfl Tryz.sizeOf9 rfl ⟨Keep.refl _ _, rfl⟩),
                          fun wx hx => Ob.op rfl (O.load Tryz.isAgg9 rfl ((hE70.ext hx).cell rfl) ⟨Keep.refl _ _, rfl⟩),
                          fun wx hx => Ob.op rfl (O.call (xs := [.tmp 130, .tmp 132]) Tryz.call32 rfl rfl (Seal_calls x.con x.non wx hcn) (fun v wy h => ⟨h.2, h.1⟩)),
                          trivial⟩ (fun w135 he135 => ?_)
                      have hS135 := hS70.ext he135
                      have hE135 := hE70.ext he135
                      have hR135 := hR70.ext he135
                      have hI135 := hI70.ext he135
                      have he0135 := he070.trans he135
                      have hw135 := hw70.keep (he135.mono (Nat.zero_le b7)) (Nat.le_refl _)
                      refine L.op rfl rfl (O.neq_t rfl rfl (fun e => hs (Int.ofNat.inj e)) (L.op rfl rfl (O.pick_false rfl rfl (L.nil (T.cond_true rfl (T.seq (T.region (L.op rfl rfl (O.loadAgg Tryz.isAgg32 Tryz.sizeOf32 rfl rfl hS135.row (L.op rfl rfl (O.storeAgg Tryz.sizeOf32 rfl rfl rfl hR135 (Nat.le_refl _) (stCells_one _ h1c) (fun w1000 hu1000 hB1000 => ?_))))))))))))
                      have hu1000 : Upd b4 _ _ := hu1000
                      have hR1000 : Blk w1000 b4 (stCells _ s) 32 := hB1000
                      refine L.op rfl rfl (O.assign rfl (L.nil (T.retAT Tryz.results46 Tryz.isAgg32 Tryz.sizeOf32 rfl rfl rfl hR1000.row (RStepF.no (hst) (Sl.keep hI135 ((Keep.refl b7 _).upd hu1000 (.inl (by omega)))) (he0135.upd hu1000 (.inr (by omega)))))))
                  · refine L.nil (?_)
                    rw [if_pos (Or.inr (Or.inl ho))] at hst
                    refine T.cond_true rfl (T.seq (T.seq (?_)))
                    refine T.anyE mixed 23 [2, 6, 3] rfl [.is _, .is _, .is _, .is _, .is _, .is _, .is _, .is _, .is _, .is _, .is _, .is _, .is undef, .is undef, .is undef, .is undef, .is undef, .is undef, .is undef, .is undef, .is undef, .is undef, .is undef] [[], [0], [1], [2], [3], [4, 3], [3], [5, 6, 3], [7, 3], [8, 3], [3, 9], [10], [11], [12, 11], [11], [13, 14, 11], [15, 11], [16, 11], [11], [18, 11], [11], [20, 11], [19, 21, 11]] [[], [0], [0, 1], [0, 1, 2], [0, 1, 2, 3], [0, 1, 2, 3, 4], [0, 1, 2, 3], [0, 1, 2, 3, 4, 5, 6], [0, 1, 2, 3, 4, 5, 6, 7], [0, 1, 2, 3, 4, 5, 6, 7, 8], [0, 1, 2, 3, 4, 5, 6, 7, 8, 9], [0, 1, 2, 3, 4, 5, 6, 7, 8, 9, 10], [0, 1, 2, 3, 4, 5, 6, 7, 8, 9, 10, 11], [0, 1, 2, 3, 4, 5, 6, 7, 8, 9, 10, 11, 12], [0, 1, 2, 3, 4, 5, 6, 7, 8, 9, 10, 11], [0, 1, 2, 3, 4, 5, 6, 7, 8, 9, 10, 11, 12, 13, 14], [0, 1, 2, 3, 4, 5, 6, 7, 8, 9, 10, 11, 12, 13, 14, 15], [0, 1, 2, 3, 4, 5, 6, 7, 8, 9, 10, 11, 12, 13, 14, 15, 16], [0, 1, 2, 3, 4, 5, 6, 7, 8, 9, 10, 11], [0, 1, 2, 3, 4, 5, 6, 7, 8, 9, 10, 11, 18], [0, 1, 2, 3, 4, 5, 6, 7, 8, 9, 10, 11], [0, 1, 2, 3, 4, 5, 6, 7, 8, 9, 10, 11, 20], [0, 1, 2, 3, 4, 5, 6, 7, 8, 9, 10, 11, 18, 19, 20, 21], [0, 1, 2, 3, 4, 5, 6, 7, 8, 9, 10, 11, 12, 13, 14, 15, 16, 17, 18, 19, 20, 21, 22], [0, 1, 2, 3, 4, 5, 6, 7, 8, 9, 10, 11, 12, 13, 14, 15, 16, 17, 18, 19, 20, 21, 22, 23]] (by kernel_rfl) (by kernel_rfl) rfl (by kernel_rfl) trivial ⟨fun wx hx => Ob.op rfl (O.fieldAddr Tryz.runUnderlying32 rfl Tryz.sizeOf4 rfl ⟨Keep.refl _ _, rfl⟩),
                        fun wx hx => Ob.op rfl (O.load Tryz.isAgg4 rfl ((hS70.ext hx).cell (v := .bool true) (by simp [stCells, hc])) ⟨Keep.refl _ _, rfl⟩),
                        fun wx hx => Ob.op rfl (O.not rfl ⟨Keep.refl _ _, rfl⟩),
                        fun wx hx => Ob.op rfl (O.move rfl ⟨Keep.refl _ _, rfl⟩),
                        fun wx hx => Ob.op rfl (O.fieldAddr Tryz.runUnderlying32 rfl Tryz.sizeOf30 rfl ⟨Keep.refl _ _, rfl⟩),
                        fun wx hx => Ob.op rfl (O.load Tryz.isAgg30 rfl ((hS70.ext hx).cell rfl) ⟨Keep.refl _ _, rfl⟩),
                        fun wx hx => Ob.op rfl (O.move rfl ⟨Keep.refl _ _, rfl⟩),
                        fun wx hx => Ob.op rfl (O.indexAddr Tryz.runUnderlying30 Tryz.sizeOf39 rfl rfl (hI70.ext hx) (by omega) (by omega) ⟨Keep.refl _ _, rfl⟩),
                        fun wx hx => Ob.op rfl (O.fieldAddr Tryz.runUnderlying39 rfl Tryz.sizeOf4 rfl ⟨Keep.refl _ _, rfl⟩),
                        fun wx hx => Ob.op rfl (O.load Tryz.isAgg4 rfl ((hI70.ext hx).cell (j := 5) (u := .bool true) hf (by decide) (by rw [← ho]; rfl)) ⟨Keep.refl _ _, rfl⟩),
                        fun wx hx => Ob.op rfl (O.pick_false rfl rfl ⟨Keep.refl _ _, rfl⟩),
                        fun wx hx => Ob.op rfl (O.move rfl ⟨Keep.refl _ _, rfl⟩),
                        fun wx hx => Ob.pass rfl rfl,
                        fun wx hx => Ob.pass rfl rfl,
                        fun wx hx => Ob.pass rfl rfl,
                        fun wx hx => Ob.pass rfl rfl,
                        fun wx hx => Ob.pass rfl rfl,
                        fun wx hx => Ob.pass rfl rfl,
                        fun wx hx => Ob.pass rfl rfl,
                        fun wx hx => Ob.pass rfl rfl,
                        fun wx hx => Ob.pass rfl rfl,
                        fun wx hx => Ob.pass rfl rfl,
                        fun wx hx => Ob.pass rfl rfl,
                        trivial⟩ (fun w135 he135 => ?_)
                    have hS135 := hS70.ext he135
                    have hE135 := hE70.ext he135
                    have hR135 := hR70.ext he135
                    have hI135 := hI70.ext he135
                    have he0135 := he070.trans he135
                    have hw135 := hw70.keep (he135.mono (Nat.zero_le b7)) (Nat.le_refl _)
                    refine L.pass rfl rfl (L.op rfl rfl (O.pick_true rfl rfl (L.nil (T.cond_true rfl (T.seq (T.region (L.op rfl rfl (O.loadAgg Tryz.isAgg32 Tryz.sizeOf32 rfl rfl hS135.row (L.op rfl rfl (O.storeAgg Tryz.sizeOf32 rfl rfl rfl hR135 (Nat.le_refl _) (stCells_one _ h1c) (fun w1000 hu1000 hB1000 => ?_)))))))))))
                    have hu1000 : Upd b4 _ _ := hu1000
                    have hR1000 : Blk w1000 b4 (stCells _ s) 32 := hB1000
                    refine L.op rfl rfl (O.assign rfl (L.nil (T.retAT Tryz.results46 Tryz.isAgg32 Tryz.sizeOf32 rfl rfl rfl hR1000.row (RStepF.no (hst) (Sl.keep hI135 ((Keep.refl b7 _).upd hu1000 (.inl (by omega)))) (he0135.upd hu1000 (.inr (by omega)))))))
          · rw [if_pos (Or.inr hwd)] at hst
            refine T.cond_false rfl (T.skip (T.seq (T.seq (?_))))
            refine T.anyE mixed 17 [6, 2, 3] rfl [.is _, .is _, .is _, .is _, .is _, .is _, .is _, .is _, .is _, .is _, .is _, .is _, .is _, .is _, .is _, .is _, .is _] [[], [0], [1], [2], [3, 2], [2], [4, 5, 2], [6, 2], [7, 2], [2], [9, 2], [8, 10, 2], [2, 11], [12], [13], [14, 13], [13]] [[], [0], [0, 1], [0, 1, 2], [0, 1, 2, 3], [0, 1, 2], [0, 1, 2, 3, 4, 5], [0, 1, 2, 3, 4, 5, 6], [0, 1, 2, 3, 4, 5, 6, 7], [0, 1, 2], [0, 1, 2, 9], [0, 1, 2, 3, 4, 5, 6, 7, 8, 9, 10], [0, 1, 2, 3, 4, 5, 6, 7, 8, 9, 10, 11], [0, 1, 2, 3, 4, 5, 6, 7, 8, 9, 10, 11, 12], [0, 1, 2, 3, 4, 5, 6, 7, 8, 9, 10, 11, 12, 13], [0, 1, 2, 3, 4, 5, 6, 7, 8, 9, 10, 11, 12, 13, 14], [0, 1, 2, 3, 4, 5, 6, 7, 8, 9, 10, 11, 12, 13], [0, 1, 2, 3, 4, 5, 6, 7, 8, 9, 10, 11, 12, 13, 14, 15, 16], [0, 1, 2, 3, 4, 5, 6, 7, 8, 9, 10, 11, 12, 13, 14, 15, 16, 17], [0, 1, 2, 3, 4, 5, 6, 7, 8, 9, 10, 11, 12, 13, 14, 15, 16, 17, 18], [0, 1, 2, 3, 4, 5, 6, 7, 8, 9, 10, 11, 12, 13, 14, 15, 16, 17, 18, 19]] (by kernel_rfl) (by kernel_rfl) rfl (by kernel_rfl) trivial ⟨fun wx hx => Ob.op rfl (O.move rfl ⟨Keep.refl _ _, rfl⟩),
                fun wx hx => Ob.op rfl (O.lss_f rfl rfl (by omega) ⟨Keep.refl _ _, rfl⟩),
                fun wx hx => Ob.op rfl (O.move rfl ⟨Keep.refl _ _, rfl⟩),
                fun wx hx => Ob.op rfl (O.fieldAddr Tryz.runUnderlying32 rfl Tryz.sizeOf30 rfl ⟨Keep.refl _ _, rfl⟩),
                fun wx hx => Ob.op rfl (O.load Tryz.isAgg30 rfl ((hS26.ext hx).cell rfl) ⟨Keep.refl _ _, rfl⟩),
                fun wx hx => Ob.op rfl (O.move rfl ⟨Keep.refl _ _, rfl⟩),
                fun wx hx => Ob.op rfl (O.indexAddr Tryz.runUnderlying30 Tryz.sizeOf39 rfl rfl (hI26.ext hx) (by omega) (by omega) ⟨Keep.refl _ _, rfl⟩),
                fun wx hx => Ob.op rfl (O.fieldAddr Tryz.runUnderlying39 rfl Tryz.sizeOf9 rfl ⟨Keep.refl _ _, rfl⟩),
                fun wx hx => Ob.op rfl (O.load Tryz.isAgg9 rfl ((hI26.ext hx).cell (j := 1) hf (by decide) rfl) ⟨Keep.refl _ _, rfl⟩),
                fun wx hx => Ob.op rfl (O.fieldAddr Tryz.runUnderlying42 rfl Tryz.sizeOf9 rfl ⟨Keep.refl _ _, rfl⟩),
                fun wx hx => Ob.op rfl (O.load Tryz.isAgg9 rfl ((hE26.ext hx).cell rfl) ⟨Keep.refl _ _, rfl⟩),
                fun wx hx => Ob.op rfl (O.neq_str_f Tryz.runUnderlying9 rfl rfl how ⟨Keep.refl _ _, rfl⟩),
                fun wx hx => Ob.op rfl (O.pick_false rfl rfl ⟨Keep.refl _ _, rfl⟩),
                fun wx hx => Ob.op rfl (O.move rfl ⟨Keep.refl _ _, rfl⟩),
                fun wx hx => Ob.op rfl (O.fieldAddr Tryz.runUnderlying32 rfl Tryz.sizeOf30 rfl ⟨Keep.refl _ _, rfl⟩),
                fun wx hx => Ob.op rfl (O.load Tryz.isAgg30 rfl ((hS26.ext hx).cell rfl) ⟨Keep.refl _ _, rfl⟩),
                fun wx hx => Ob.op rfl (O.move rfl ⟨Keep.refl _ _, rfl⟩),
                trivial⟩ (fun w70 he70 => ?_)
            have hS70 := hS26.ext he70
            have hE70 := hE26.ext he70
            have hR70 := hR26.ext he70
            have hI70 := hI26.ext he70
            have he070 := he026.trans he70
            have hO70 := owns_keep hO26 (he70.mono (Nat.zero_le b7)) (Nat.le_refl _)
            refine L.op rfl rfl (O.indexAddr Tryz.runUnderlying30 Tryz.sizeOf39 rfl rfl hI70 (by omega) (by omega) (L.op rfl rfl (O.fieldAddr Tryz.runUnderlying39 rfl Tryz.sizeOf4 rfl (L.op rfl rfl (O.load Tryz.isAgg4 rfl (hI70.cell (j := 4) (u := .bool true) hf (by decide) (by rw [← hwd]; rfl)) (L.op rfl rfl (O.pick_false rfl rfl (L.nil (T.cond_true rfl (T.seq (T.region (L.op rfl rfl (O.loadAgg Tryz.isAgg32 Tryz.sizeOf32 rfl rfl hS70.row (L.op rfl rfl (O.storeAgg Tryz.sizeOf32 rfl rfl rfl hR70 (Nat.le_refl _) (stCells_one _ h1c) (fun w1000 hu1000 hB1000 => ?_))))))))))))))))
            have hu1000 : Upd b4 _ _ := hu1000
            have hR1000 : Blk w1000 b4 (stCells _ s) 32 := hB1000
            refine L.op rfl rfl (O.assign rfl (L.nil (T.retAT Tryz.results46 Tryz.isAgg32 Tryz.sizeOf32 rfl rfl rfl hR1000.row (RStepF.no (hst) (Sl.keep hI70 ((Keep.refl b7 _).upd hu1000 (.inl (by omega)))) (he070.upd hu1000 (.inr (by omega)))))))
        · rw [if_pos (Or.inl how)] at hst
          refine T.cond_false rfl (T.skip (T.seq (T.seq (?_))))
          refine T.anyE mixed 17 [6, 2, 3] rfl [.is _, .is _, .is _, .is _, .is _, .is _, .is _, .is _, .is _, .is _, .is _, .is _, .is _, .is _, .is undef, .is undef, .is undef] [[], [0], [1], [2], [3, 2], [2], [4, 5, 2], [6, 2], [7, 2], [2], [9, 2], [8, 10, 2], [2, 11], [12], [13], [14, 13], [13]] [[], [0], [0, 1], [0, 1, 2], [0, 1, 2, 3], [0, 1, 2], [0, 1, 2, 3, 4, 5], [0, 1, 2, 3, 4, 5, 6], [0, 1, 2, 3, 4, 5, 6, 7], [0, 1, 2], [0, 1, 2, 9], [0, 1, 2, 3, 4, 5, 6, 7, 8, 9, 10], [0, 1, 2, 3, 4, 5, 6, 7, 8, 9, 10, 11], [0, 1, 2, 3, 4, 5, 6, 7, 8, 9, 10, 11, 12], [0, 1, 2, 3, 4, 5, 6, 7, 8, 9, 10, 11, 12, 13], [0, 1, 2, 3, 4, 5, 6, 7, 8, 9, 10, 11, 12, 13, 14], [0, 1, 2, 3, 4, 5, 6, 7, 8, 9, 10, 11, 12, 13], [0, 1, 2, 3, 4, 5, 6, 7, 8, 9, 10, 11, 12, 13, 14, 15, 16], [0, 1, 2, 3, 4, 5, 6, 7, 8, 9, 10, 11, 12, 13, 14, 15, 16, 17], [0, 1, 2, 3, 4, 5, 6, 7, 8, 9, 10, 11, 12, 13, 14, 15, 16, 17, 18], [0, 1, 2, 3, 4, 5, 6, 7, 8, 9, 10, 11, 12, 13, 14, 15, 16, 17, 18, 19]] (by kernel_rfl) (by kernel_rfl) rfl (by kernel_rfl) trivial ⟨fun wx hx => Ob.op rfl (O.move rfl ⟨Keep.refl _ _, rfl⟩),
              fun wx hx => Ob.op rfl (O.lss_f rfl rfl (by omega) ⟨Keep.refl _ _, rfl⟩),
              fun wx hx => Ob.op rfl (O.move rfl ⟨Keep.refl _ _, rfl⟩),
              fun wx hx => Ob.op rfl (O.fieldAddr Tryz.runUnderlying32 rfl Tryz.sizeOf30 rfl ⟨Keep.refl _ _, rfl⟩),
              fun wx hx => Ob.op rfl (O.load Tryz.isAgg30 rfl ((hS26.ext hx).cell rfl) ⟨Keep.refl _ _, rfl⟩),
              fun wx hx => Ob.op rfl (O.move rfl ⟨Keep.refl _ _, rfl⟩),
              fun wx hx => Ob.op rfl (O.indexAddr Tryz.runUnderlying30 Tryz.sizeOf39 rfl rfl (hI26.ext hx) (by omega) (by omega) ⟨Keep.refl _ _, rfl⟩),
              fun wx hx => Ob.op rfl (O.fieldAddr Tryz.runUnderlying39 rfl Tryz.sizeOf9 rfl ⟨Keep.refl _ _, rfl⟩),
              fun wx hx => Ob.op rfl (O.load Tryz.isAgg9 rfl ((hI26.ext hx).cell (j := 1) hf (by decide) rfl) ⟨Keep.refl _ _, rfl⟩),
              fun wx hx => Ob.op rfl (O.fieldAddr Tryz.runUnderlying42 rfl Tryz.sizeOf9 rfl ⟨Keep.refl _ _, rfl⟩),
              fun wx hx => Ob.op rfl (O.load Tryz.isAgg9 rfl ((hE26.ext hx).cell rfl) ⟨Keep.refl _ _, rfl⟩),
              fun wx hx => Ob.op rfl (O.neq_str_t Tryz.runUnderlying9 rfl rfl how ⟨Keep.refl _ _, rfl⟩),
              fun wx hx => Ob.op rfl (O.pick_false rfl rfl ⟨Keep.refl _ _, rfl⟩),
              fun wx hx => Ob.op rfl (O.move rfl ⟨Keep.refl _ _, rfl⟩),
              fun wx hx => Ob.pass rfl rfl,
              fun wx hx => Ob.pass rfl rfl,
              fun wx hx => Ob.pass rfl rfl,
              trivial⟩ (fun w70 he70 => ?_)
          have hS70 := hS26.ext he70
          have hE70 := hE26.ext he70
          have hR70 := hR26.ext he70
          have hI70 := hI26.ext he70
          have he070 := he026.trans he70
          have hO70 := owns_keep hO26 (he70.mono (Nat.zero_le b7)) (Nat.le_refl _)
          refine L.pass rfl rfl (L.pass rfl rfl (L.pass rfl rfl (L.op rfl rfl (O.pick_true rfl rfl (L.nil (T.cond_true rfl (T.seq (T.region (L.op rfl rfl (O.loadAgg Tryz.isAgg32 Tryz.sizeOf32 rfl rfl hS70.row (L.op rfl rfl (O.storeAgg Tryz.sizeOf32 rfl rfl rfl hR70 (Nat.le_refl _) (stCells_one _ h1c) (fun w1000 hu1000 hB1000 => ?_)))))))))))))
          have hu1000 : Upd b4 _ _ := hu1000
          have hR1000 : Blk w1000 b4 (stCells _ s) 32 := hB1000
          refine L.op rfl rfl (O.assign rfl (L.nil (T.retAT Tryz.results46 Tryz.isAgg32 Tryz.sizeOf32 rfl rfl rfl hR1000.row (RStepF.no (hst) (Sl.keep hI70 ((Keep.refl b7 _).upd hu1000 (.inl (by omega)))) (he070.upd hu1000 (.inr (by omega)))))))
    · refine L.op rfl rfl (O.call (xs := [.tmp 23, .tmp 25]) Tryz.call82 rfl rfl (Rfind_calls b7 v10 s x.item w11 hI11) (fun v26 w26 hq => ?_))
      obtain ⟨hv26, he26⟩ := hq
      rw [if_neg hf] at hv26
      subst hv26
      have hS26 := hS11.ext he26
      have hE26 := hE11.ext he26
      have hR26 := hR11.ext he26
      have hI26 := hI11.ext he26
      have he026 := he011.trans he26
      have hO26 := owns_keep hO11 (he26.mono (Nat.zero_le b7)) (Nat.le_refl _)
      refine L.op rfl rfl (O.assign rfl (L.nil (T.seq (T.seq (T.region (L.op rfl rfl (O.fieldAddr Tryz.runUnderlying42 rfl Tryz.sizeOf3 rfl (L.op rfl rfl (O.load Tryz.isAgg3 rfl (hE26.cell rfl) (L.op rfl rfl (O.eql_s rfl rfl (fun h1 => ?_) (fun h1 => ?_))))))))))))
      · refine L.nil (?_)
        rcases hc : s.cl with _ | _
        · refine T.cond_true rfl (T.seq (T.seq (T.region (L.op rfl rfl (O.fieldAddr Tryz.runUnderlying32 rfl Tryz.sizeOf4 rfl (L.op rfl rfl (O.load Tryz.isAgg4 rfl (hS26.cell (v := .bool false) (by simp [stCells, hc])) (L.op rfl rfl (O.move rfl (L.op rfl rfl (O.move rfl (L.op rfl rfl (O.geq_f rfl rfl (by omega) (L.op rfl rfl (O.pick_false rfl rfl (L.nil (T.cond_false rfl (T.skip (T.seq (T.region (L.op rfl rfl (O.fieldAddr Tryz.runUnderlying32 rfl Tryz.sizeOf30 rfl (L.op rfl rfl (O.load Tryz.isAgg30 rfl (hS26.cell rfl) (L.op rfl rfl (O.fieldAddr Tryz.runUnderlying42 rfl Tryz.sizeOf9 rfl (L.op rfl rfl (O.load Tryz.isAgg9 rfl (hE26.cell rfl) (L.op rfl rfl (O.fieldAddr Tryz.runUnderlying42 rfl Tryz.sizeOf9 rfl (L.op rfl rfl (O.load Tryz.isAgg9 rfl (hE26.cell rfl) (L.op rfl rfl (O.fieldAddr Tryz.runUnderlying42 rfl Tryz.sizeOf25 rfl (L.op rfl rfl (O.load Tryz.isAgg25 rfl (hE26.cell rfl) (L.op rfl rfl (O.build (v := (itNew x).val) (parts := [(0, .tmp 40), (1, .tmp 42), (2, .const (.int .i64 1)), (3, .tmp 44)]) (vs := [(0, _), (1, _), (2, _), (3, _)]) rfl (fun w => by kernel_rfl) (?_)))))))))))))))))))))))))))))))))))))))
          refine L.op rfl rfl (O.buildSlice (el := 39) (parts := [(0, .tmp 45)]) (vs := [(0, _)]) (cs := (itNew x).cells) rfl (fun w => by kernel_rfl) (fun b46 w46 hb46 hz46 he46 hB46 => ?_))
          have hO46 := owns_keep hO26 (he46.mono (Nat.zero_le b7)) (Nat.le_refl _)
          refine L.op rfl rfl (O.append (size := 7) (bytes := 72) Tryz.runUnderlying30 Tryz.infoOf39 rfl rfl rfl rfl (by decide) rfl rfl hO46 (Sl.of_blk (lo := 0) (n := 1) (sz := 7) hB46 rfl (Nat.le_refl _) (by decide) (Nat.zero_le _)) (It.one _) (by omega) (by simp only [maxLen]; omega) (by have := he46.size; have := he26.size; have := hu11.size; have := he10.size; omega) (fun v47 w47 hO47 hG47 => ?_))
          have hn46 : ∀ c, c < b7 → ∀ j, v10.ownBlock = some j → j ≠ c := fun c hc j hj => by have := (hO46.lt j hj).1; omega
          have hS47 := (hS26.ext he46).grown hG47 (hn46 b2 (by omega))
          have hR47 := (hR26.ext he46).grown hG47 (hn46 b4 (by omega))
          have he047 : Ext w w47 := (he026.trans he46).grown0 hO46 hG47 (by omega)
          have hI47 : Its b7 w47 v47 (s.its ++ [itNew x]) := by unfold Its; rw [List.length_append, fl_append, fl_one]; exact Sl.of_owns hO47
          have h1d := Sl.one (Sl.of_owns hO47)
          refine L.op rfl rfl (O.fieldAddr Tryz.runUnderlying32 rfl Tryz.sizeOf30 rfl (L.op rfl rfl (O.store1 Tryz.sizeOf30 h1d rfl rfl hS47 (by simp [stCells]) (fun w48 hu48 hB48 => ?_))))
          have hu48 : Upd b2 _ _ := hu48
          have hS48 : Blk w48 b2 (stCells v47 { s with its := s.its ++ [itNew x] }) 32 := hB48
          refine L.nil (T.seq (T.region (L.op rfl rfl (O.loadAgg Tryz.isAgg32 Tryz.sizeOf32 rfl rfl hS48.row (L.op rfl rfl (O.storeAgg Tryz.sizeOf32 rfl rfl rfl (hR47.upd hu48 (by omega)) (Nat.le_refl _) (stCells_one _ h1d) (fun w49 hu49 hB49 => ?_)))))))
          have hu49 : Upd b4 _ _ := hu49
          have hR49 : Blk w49 b4 (stCells v47 { s with its := s.its ++ [itNew x] }) 32 := hB49
          refine L.op rfl rfl (O.assign rfl (L.nil (T.retAT Tryz.results46 Tryz.isAgg32 Tryz.sizeOf32 rfl rfl rfl hR49.row (RStepF.yes (s' := { s with its := s.its ++ [itNew x] }) (by rw [stepE, if_neg h4, if_pos h1, if_neg (by rw [hc]; simp [hf])]) (Sl.keep hI47 (((Keep.refl b7 w47).upd hu48 (.inl (by omega))).upd hu49 (.inl (by omega)))) ((he047.upd hu48 (.inr (by omega))).upd hu49 (.inr (by omega)))))))
        · refine T.cond_true rfl (T.seq (T.seq (T.region (L.op rfl rfl (O.fieldAddr Tryz.runUnderlying32 rfl Tryz.sizeOf4 rfl (L.op rfl rfl (O.load Tryz.isAgg4 rfl (hS26.cell (v := .bool true) (by simp [stCells, hc])) (L.op rfl rfl (O.move rfl (L.pass rfl rfl (L.pass rfl rfl (L.op rfl rfl (O.pick_true rfl rfl (L.nil (T.cond_true rfl (T.seq (T.region (L.op rfl rfl (O.loadAgg Tryz.isAgg32 Tryz.sizeOf32 rfl rfl hS26.row (L.op rfl rfl (O.storeAgg Tryz.sizeOf32 rfl rfl rfl hR26 (Nat.le_refl _) (stCells_one _ h1c) (fun w1000 hu1000 hB1000 => ?_))))))))))))))))))))))
          have hu1000 : Upd b4 _ _ := hu1000
          have hR1000 : Blk w1000 b4 (stCells _ s) 32 := hB1000
          refine L.op rfl rfl (O.assign rfl (L.nil (T.retAT Tryz.results46 Tryz.isAgg32 Tryz.sizeOf32 rfl rfl rfl hR1000.row (RStepF.no (by rw [stepE, if_neg h4, if_pos h1, if_pos (.inl hc)]) (Sl.keep hI26 ((Keep.refl b7 _).upd hu1000 (.inl (by omega)))) (he026.upd hu1000 (.inr (by omega)))))))
      · refine L.nil (T.cond_false rfl (T.skip (T.seq (T.seq (?_)))))
        refine T.anyE mixed 17 [6, 2, 3] rfl [.is _, .is _, .is _, .is undef, .is undef, .is undef, .is undef, .is undef, .is undef, .is undef, .is undef, .is undef, .is _, .is _, .is undef, .is undef, .is undef] [[], [0], [1], [2], [3, 2], [2], [4, 5, 2], [6, 2], [7, 2], [2], [9, 2], [8, 10, 2], [2, 11], [12], [13], [14, 13], [13]] [[], [0], [0, 1], [0, 1, 2], [0, 1, 2, 3], [0, 1, 2], [0, 1, 2, 3, 4, 5], [0, 1, 2, 3, 4, 5, 6], [0, 1, 2, 3, 4, 5, 6, 7], [0, 1, 2], [0, 1, 2, 9], [0, 1, 2, 3, 4, 5, 6, 7, 8, 9, 10], [0, 1, 2, 3, 4, 5, 6, 7, 8, 9, 10, 11], [0, 1, 2, 3, 4, 5, 6, 7, 8, 9, 10, 11, 12], [0, 1, 2, 3, 4, 5, 6, 7, 8, 9, 10, 11, 12, 13], [0, 1, 2, 3, 4, 5, 6, 7, 8, 9, 10, 11, 12, 13, 14], [0, 1, 2, 3, 4, 5, 6, 7, 8, 9, 10, 11, 12, 13], [0, 1, 2, 3, 4, 5, 6, 7, 8, 9, 10, 11, 12, 13, 14, 15, 16], [0, 1, 2, 3, 4, 5, 6, 7, 8, 9, 10, 11, 12, 13, 14, 15, 16, 17], [0, 1, 2, 3, 4, 5, 6, 7, 8, 9, 10, 11, 12, 13, 14, 15, 16, 17, 18], [0, 1, 2, 3, 4, 5, 6, 7, 8, 9, 10, 11, 12, 13, 14, 15, 16, 17, 18, 19]] (by kernel_rfl) (by kernel_rfl) rfl (by kernel_rfl) trivial ⟨fun wx hx => Ob.op rfl (O.move rfl ⟨Keep.refl _ _, rfl⟩),
            fun wx hx => Ob.op rfl (O.lss_t rfl rfl (by omega) ⟨Keep.refl _ _, rfl⟩),
            fun wx hx => Ob.op rfl (O.move rfl ⟨Keep.refl _ _, rfl⟩),
            fun wx hx => Ob.pass rfl rfl,
            fun wx hx => Ob.pass rfl rfl,
            fun wx hx => Ob.pass rfl rfl,
            fun wx hx => Ob.pass rfl rfl,
            fun wx hx => Ob.pass rfl rfl,
            fun wx hx => Ob.pass rfl rfl,
            fun wx hx => Ob.pass rfl rfl,
            fun wx hx => Ob.pass rfl rfl,
            fun wx hx => Ob.pass rfl rfl,
            fun wx hx => Ob.op rfl (O.pick_true rfl rfl ⟨Keep.refl _ _, rfl⟩),
            fun wx hx => Ob.op rfl (O.move rfl ⟨Keep.refl _ _, rfl⟩),
            fun wx hx => Ob.pass rfl rfl,
            fun wx hx => Ob.pass rfl rfl,
            fun wx hx => Ob.pass rfl rfl,
            trivial⟩ (fun w70 he70 => ?_)
        have hS70 := hS26.ext he70
        have hE70 := hE26.ext he70
        have hR70 := hR26.ext he70
        have hI70 := hI26.ext he70
        have he070 := he026.trans he70
        have hO70 := owns_keep hO26 (he70.mono (Nat.zero_le b7)) (Nat.le_refl _)
        refine L.pass rfl rfl (L.pass rfl rfl (L.pass rfl rfl (L.op rfl rfl (O.pick_true rfl rfl (L.nil (T.cond_true rfl (T.seq (T.region (L.op rfl rfl (O.loadAgg Tryz.isAgg32 Tryz.sizeOf32 rfl rfl hS70.row (L.op rfl rfl (O.storeAgg Tryz.sizeOf32 rfl rfl rfl hR70 (Nat.le_refl _) (stCells_one _ h1c) (fun w1000 hu1000 hB1000 => ?_)))))))))))))
        have hu1000 : Upd b4 _ _ := hu1000
        have hR1000 : Blk w1000 b4 (stCells _ s) 32 := hB1000
        refine L.op rfl rfl (O.assign rfl (L.nil (T.retAT Tryz.results46 Tryz.isAgg32 Tryz.sizeOf32 rfl rfl rfl hR1000.row (RStepF.no (by rw [step_old h4 h1 hf]) (Sl.keep hI70 ((Keep.refl b7 _).upd hu1000 (.inl (by omega)))) (he070.upd hu1000 (.inr (by omega)))))))

end Go.Proofs.YtmnihgcffdmodaaGreatDoor
set_option linter.unusedVariables false
set_option linter.unusedSimpArgs false
set_option maxRecDepth 20000
namespace Go.Proofs.YtmnihgcffdmodaaGreatDoor
open Go Go.E RowKit
attribute [local irreducible] Go.E.T Go.E.L Go.E.O Go.E.Ob

attribute [local irreducible] Go.E.ObX
theorem Row.upd_small {w w' : World} {a : Addr} {cs : List Value} {b : Nat} {cs' : List Value} {t : TypeId} (h : Row w a cs) (hB : Blk w b cs' t) (hl : cs'.length < cs.length) (k : Upd b w w') : Row w' a cs := by
  have hne : a.block ≠ b := by
    intro e
    have h1 : cs[cs.length - 1]? = some cs[cs.length - 1] := List.getElem?_eq_getElem _
    have h2 := h _ _ h1
    have hoff : (a.add (cs.length - 1)).off = a.off + (cs.length - 1) := by unfold Addr.add; split <;> simp_all
    unfold World.cell? at h2
    unfold Blk at hB
    rw [add_block, e, hB, hoff] at h2
    simp only at h2
    split at h2
    · cases h2
    · rw [Array.getElem?_eq_none (by simp; omega)] at h2; cases h2
  intro j u hj
  have := h j u hj
  unfold World.cell? at this ⊢
  rw [add_block] at this ⊢
  rwa [k.block _ hne]
theorem Its.upd {lo : Nat} {w w' : World} {v : Value} {xs : List It} {b : Nat} {cs' : List Value} {t : TypeId} (h : Its lo w v xs) (hB : Blk w b cs' t) (hl : cs'.length < 7) (k : Upd b w w') : Its lo w' v xs := by
  obtain ⟨h1, oa, cap, h2, h3, h4, h5⟩ := h
  refine ⟨h1, oa, cap, h2, h3, h4, ?_⟩
  rcases h5 with h5 | ⟨a, ha, hlo, hr⟩
  · exact .inl h5
  · by_cases h0 : xs.length = 0
    · exact .inl h0
    · exact .inr ⟨a, ha, hlo, Row.upd_small hr hB (by rw [h1]; omega) k⟩
/-- What a history leads to: the state; where it stops; and why. -/
def goE (s : St) : List En → Nat → St × Int × Int
  | [], _ => (s, 0, 0)
  | x :: r, i => match stepE s x with
    | none => (s0, (i : Int), 8)
    | some s' => goE s' r (i + 1)
def replayR (xs : List En) : St × Int × Int := if checkE xs = 0 then goE s0 xs 0 else (s0, 0, checkE xs)
theorem drop_cons {α : Type} {xs : List α} {i : Nat} {d : α} (h : i < xs.length) : xs.drop i = xs.getD i d :: xs.drop (i + 1) := by
  rw [List.drop_eq_getElem_cons h, getD_get h]
theorem goE_no {s : St} {xs : List En} {i : Nat} (h : i < xs.length) (hs : stepE s (xs.getD i e0) = none) : goE s (xs.drop i) i = (s0, (i : Int), 8) := by
  rw [drop_cons (d := e0) h, goE, hs]
theorem goE_yes {s s' : St} {xs : List En} {i : Nat} (h : i < xs.length) (hs : stepE s (xs.getD i e0) = some s') : goE s (xs.drop i) i = goE s' (xs.drop (i + 1)) (i + 1) := by
  rw [drop_cons (d := e0) h, goE, hs]
theorem goE_end {s : St} {xs : List En} {i : Nat} (h : ¬ i < xs.length) : goE s (xs.drop i) i = (s, 0, 0) := by
  rw [List.drop_of_length_le (by omega), goE]
theorem stepE_len {s s' : St} {x : En} (h : stepE s x = some s') : s'.its.length ≤ s.its.length + 1 := by
  unfold stepE at h
  simp only at h
  repeat' split at h
  all_goals (first | cases h | skip)
  all_goals simp
structure Bounds (x : En) : Prop where
  k : 1 ≤ x.k ∧ x.k ≤ 5
  who : x.who.length ≤ 12
  item : x.item.length ≤ 12
  con : x.con.length ≤ 200
  non : x.non.length ≤ 40
theorem name_len {s : Str} (h : nameB s = true) : s.length ≤ 12 := by
  simp only [nameB, madeB, Bool.and_eq_true, decide_eq_true_eq] at h; omega
theorem right_bounds {x : En} (h : rightE x = true) : Bounds x := by
  simp only [rightE, Bool.and_eq_true, decide_eq_true_eq] at h
  obtain ⟨hk, hw, hi, _, hc⟩ := h
  have h5 : x.con.length ≤ 200 ∧ x.non.length ≤ 40 := by
    split at hc
    · simp only [madeB, Bool.and_eq_true, decide_eq_true_eq] at hc
      obtain ⟨⟨_, h1, _⟩, ⟨_, h2, _⟩⟩ := hc
      omega
    · simp only [Bool.and_eq_true, decide_eq_true_eq] at hc
      rw [hc.1, hc.2]; simp
  refine ⟨hk, name_len hw, ?_, h5.1, h5.2⟩
  split at hi
  · have := of_decide_eq_true hi; rw [this]; simp
  · exact name_len hi
theorem check_right {xs : List En} (h : checkE xs = 0) : xs.length ≤ 60 ∧ ∀ x ∈ xs, rightE x = true := by
  unfold checkE at h
  split at h
  · cases h
  · split at h
    · rename_i h1 h2
      exact ⟨by omega, fun x hx => List.all_eq_true.1 h2 x hx⟩
    · cases h
/-- Behind a step, in the reference. -/
def RY (bb : Bool) (Y : St → Prop) (v : Value) (w : World) : Prop := ∃ pv s, v = .tuple #[stVal pv s, .bool bb] ∧ Y s ∧ Its 0 w pv s.its
def IsSt (Y : St → Prop) (v : Value) (w : World) : Prop := ∃ pv s, v = stVal pv s ∧ Y s ∧ Its 0 w pv s.its
/-- A new variable that holds a state. -/
def NewS (base : Nat) (v : Value) (w : World) : Prop := ∃ b cs, v = .pointer (some ⟨b, 0, none⟩) ∧ base ≤ b ∧ cs.length = 3 ∧ Blk w b cs 32
def LkS (Y : St → Prop) (base : Nat) (v : Value) (w : World) : Prop := ∃ b pv s, v = .pointer (some ⟨b, 0, none⟩) ∧ base ≤ b ∧ Blk w b (stCells pv s) 32 ∧ Y s ∧ Its 0 w pv s.its
structure RelS (bb : Bool) (Y : St → Prop) (base : Nat) (w w' : World) : Prop where
  y : ∀ v, RY bb Y v w → RY bb Y v w'
  i : ∀ v, IsSt Y v w → IsSt Y v w'
  n : ∀ v, NewS base v w → NewS base v w'
  l : ∀ v, LkS Y base v w → LkS Y base v w'
def stZ : List Value := stCells (.slice none 0 0) s0
end Go.Proofs.YtmnihgcffdmodaaGreatDoor
set_option linter.unusedVariables false
set_option linter.unusedSimpArgs false
set_option maxRecDepth 20000
namespace Go.Proofs.YtmnihgcffdmodaaGreatDoor
open Go Go.E RowKit
attribute [local irreducible] Go.E.T Go.E.L Go.E.O Go.E.Ob

attribute [local irreducible] Go.E.ObX
def ptrV (b : Nat) : Value := .pointer (some ⟨b, 0, none⟩)
section
variable {C : Cx} {e : Env} {w : World} {K : Value → World → Prop} {d : Option Tmp} {ty tx ty' : TypeId} {pos : String} {aft : Array Edge} {g : Option (Nat × Bool)} {x y : Operand}
theorem O.eql_nilp {p : Option Addr} (hu : C.P.underlying tx = some (.pointer (C.P.pointee tx))) (hx : ev e x = some (.pointer p)) (hy : ev e y = some (.pointer none)) (h : K (.bool p.isNone) w) : O C e ⟨d, .binOp .eql tx x y ty', ty, pos, aft, g⟩ w K :=
  O.of_run (by simp) (fun ac hq => by simp [execOp, hq.eval hx, hq.eval hy, eqGuard, run_eql_pointer_nil w tx p hu]) h
theorem O.neq_nilp {p : Option Addr} (hu : C.P.underlying tx = some (.pointer (C.P.pointee tx))) (hx : ev e x = some (.pointer p)) (hy : ev e y = some (.pointer none)) (h : K (.bool (!p.isNone)) w) : O C e ⟨d, .binOp .neq tx x y ty', ty, pos, aft, g⟩ w K :=
  O.of_run (by simp) (fun ac hq => by simp [execOp, hq.eval hx, hq.eval hy, eqGuard, run_neq_pointer_nil w tx p hu]) h
end
/-- The book: the records lie in blocks of their own. -/
structure Book (base B : Nat) (s : St) (rv : Value) (ps : List Nat) (w : World) : Prop where
  c : Blk w B [rv, .bool s.cl, str s.by'] 88
  own : w.ownsRow base 121 1 rv ps.length (ps.map ptrV)
  rc : ∀ i, i < ps.length → Blk w (ps.getD i 0) (s.its.getD i i0).cells 123
  len : ps.length = s.its.length
  hB : base ≤ B
  hps : ∀ i, i < ps.length → base ≤ ps.getD i 0 ∧ ps.getD i 0 ≠ B ∧ rv.ownBlock ≠ some (ps.getD i 0)
  inj : ∀ i j, i < ps.length → j < ps.length → ps.getD i 0 = ps.getD j 0 → i = j
  hrv : rv.ownBlock ≠ some B
theorem Book.keep {base lo B : Nat} {s : St} {rv : Value} {ps : List Nat} {w w' : World} (h : Book base B s rv ps w) (k : Keep lo w w') (hl : lo ≤ base) : Book base B s rv ps w' :=
  ⟨h.c.keep k (Nat.le_trans hl h.hB), owns_keep h.own k hl, fun i hi => (h.rc i hi).keep k (Nat.le_trans hl (h.hps i hi).1), h.len, h.hB, h.hps, h.inj, h.hrv⟩
theorem Book.ext {base B : Nat} {s : St} {rv : Value} {ps : List Nat} {w w' : World} (h : Book base B s rv ps w) (k : Ext w w') : Book base B s rv ps w' := h.keep k (Nat.zero_le _)
theorem Book.sl {base B : Nat} {s : St} {rv : Value} {ps : List Nat} {w : World} (h : Book base B s rv ps w) : Sl base w rv ps.length 1 (ps.map ptrV) := Sl.of_owns h.own
theorem Book.at {base B : Nat} {s : St} {rv : Value} {ps : List Nat} {w : World} (h : Book base B s rv ps w) {i : Nat} (hi : i < ps.length) : w.cell? ((sAddr rv).add ((i : Int).toNat * 1)) = some (ptrV (ps.getD i 0)) := Sl.at1 h.sl (by simp [List.getD, hi])
/-- What find gives. -/
def findP (s : St) (ps : List Nat) (nm : Str) : Option Addr := if findK s.its nm < s.its.length then some ⟨ps.getD (findK s.its nm) 0, 0, none⟩ else none
theorem find_calls (base B : Nat) (s : St) (rv : Value) (ps : List Nat) (nm : Str) (w : World) (hb : Book base B s rv ps w) :
    Calls Tryz.prog 124 #[.pointer (some ⟨B, 0, none⟩), str nm] w (Ret fun v w' => v = .pointer (findP s ps nm) ∧ w' = w) := by
  have hle := Sl.le hb.sl
  have hlen := hb.len
  refine T.enter (vs := [.pointer (some ⟨B, 0, none⟩), str nm]) Tryz.func124 rfl Tryz.ntmps124 rfl ?_
  refine T.seq (T.region (L.op rfl rfl (O.assign rfl (L.nil (T.seq (T.seq (T.region (L.op rfl rfl (O.move rfl (L.op rfl rfl (O.nilCheck rfl (L.op rfl rfl (O.fieldAddr Tryz.runUnderlying88 rfl Tryz.sizeOf86 rfl (L.op rfl rfl (O.load Tryz.isAgg86 rfl (hb.c.cell rfl) (L.op rfl rfl (O.len Tryz.runUnderlying86 rfl (Sl.val hb.sl) (L.op rfl rfl (O.move rfl (L.nil (T.block (?_))))))))))))))))))))))
  refine T.loop (σ := Nat) (fun i => [(0, .pointer (some ⟨B, 0, none⟩)), (1, str nm), (10, rv), (11, .int .i64 ps.length), (12, .int .i64 i)]) (fun i w' => i ≤ ps.length ∧ w' = w ∧ ∀ j, j < i → ¬ (s.its.getD j i0).nm = nm) (fun i => ps.length - i) (0) ⟨rfl, rfl, rfl, rfl, rfl, trivial⟩ ⟨Nat.zero_le _, rfl, fun j hj => absurd hj (Nat.not_lt_zero _)⟩ ?_
  rintro i w3 ⟨hi, rfl, hall⟩
  refine T.seq (T.region (L.op rfl rfl (O.lss_s rfl rfl (fun hlt => ?_) (fun hlt => ?_))))
  · refine L.nil (?_)
    have hlt' : i < ps.length := by omega
    refine T.seq (T.cond_true rfl (T.skip (T.seq (T.block (T.seq (T.region (L.op rfl rfl (O.indexAddr Tryz.runUnderlying86 Tryz.sizeOf121 rfl rfl hb.sl (by omega) (by omega) (L.op rfl rfl (O.load Tryz.isAgg121 rfl (hb.at hlt') (L.op rfl rfl (O.assign rfl (L.nil (T.seq (T.region (L.op rfl rfl (O.move rfl (L.op rfl rfl (O.nilCheck rfl (L.op rfl rfl (O.fieldAddr Tryz.runUnderlying123 rfl Tryz.sizeOf39 rfl (L.op rfl rfl (O.fieldAddr Tryz.runUnderlying39 rfl Tryz.sizeOf9 rfl (L.op rfl rfl (O.load Tryz.isAgg9 rfl ((hb.rc i hlt').cell rfl) (L.op rfl rfl (O.move rfl (L.op rfl rfl (O.eql_str_s Tryz.runUnderlying9 rfl rfl (fun hq => ?_) (fun hq => ?_))))))))))))))))))))))))))))))
    · refine L.nil (T.cond_true rfl (T.seq (T.region (L.op rfl rfl (O.move rfl (L.op rfl rfl (O.assign rfl (L.nil (T.ret1 Tryz.results124 rfl ⟨by rw [findP, findK_eq (by omega) hq hall, if_pos (by omega)]; rfl, rfl⟩)))))))))
    · refine L.nil (T.cond_false rfl (T.skip (T.blk (T.region (L.op rfl rfl (O.add64 rfl rfl (by omega) (L.op rfl rfl (O.move rfl (L.nil (T.again (i + 1) (by omega) ⟨rfl, rfl, rfl, rfl, rfl, trivial⟩ ⟨hlt', rfl, upto_step (q := fun j => ¬ (s.its.getD j i0).nm = nm) hall hq⟩))))))))))
  · refine L.nil (T.seq (T.cond_false rfl (T.exit rfl (T.seq (T.region (L.op rfl rfl (O.assign rfl (L.nil (T.ret1 Tryz.results124 rfl ⟨by rw [findP, findK_none fun j hj => hall j (by omega), if_neg (by omega)], rfl⟩)))))))))

end Go.Proofs.YtmnihgcffdmodaaGreatDoor
set_option linter.unusedVariables false
set_option linter.unusedSimpArgs false
set_option maxRecDepth 20000
namespace Go.Proofs.YtmnihgcffdmodaaGreatDoor
open Go Go.E RowKit
attribute [local irreducible] Go.E.T Go.E.L Go.E.O Go.E.Ob

attribute [local irreducible] Go.E.ObX
theorem ptr121 : Tryz.prog.underlying 121 = some (.pointer (Tryz.prog.pointee 121)) := by kernel_rfl
/-- The record that an entry holds. -/
def heldI (s : St) (x : En) : Bool := decide (findK s.its x.item < s.its.length) && (decide ((s.its.getD (findK s.its x.item) i0).ow = x.who) && !(s.its.getD (findK s.its x.item) i0).wd)
def heldP (s : St) (ps : List Nat) (x : En) : Option Addr := if heldI s x = true then some ⟨ps.getD (findK s.its x.item) 0, 0, none⟩ else none
theorem findP_yes {s : St} {ps : List Nat} {nm : Str} (h : findK s.its nm < s.its.length) : findP s ps nm = some ⟨ps.getD (findK s.its nm) 0, 0, none⟩ := if_pos h
theorem findP_no {s : St} {ps : List Nat} {nm : Str} (h : ¬ findK s.its nm < s.its.length) : findP s ps nm = none := if_neg h
theorem heldP_yes {s : St} {ps : List Nat} {x : En} (h : heldI s x = true) : heldP s ps x = some ⟨ps.getD (findK s.its x.item) 0, 0, none⟩ := if_pos h
theorem heldP_no {s : St} {ps : List Nat} {x : En} (h : heldI s x = false) : heldP s ps x = none := by rw [heldP, h]; rfl
theorem held_lt {s : St} {x : En} (h : heldI s x = true) : findK s.its x.item < s.its.length := by
  simp only [heldI, Bool.and_eq_true, decide_eq_true_eq] at h; exact h.1
theorem Book.lt {base B : Nat} {s : St} {rv : Value} {ps : List Nat} {w : World} (h : Book base B s rv ps w) {i : Nat} (hi : i < s.its.length) : i < ps.length := by rw [h.len]; exact hi
/-- What a step of the book gives. -/
def BStep (base B : Nat) (s : St) (x : En) (w : World) (v : Value) (w' : World) : Prop := v = .bool (stepE s x).isSome ∧ Below base w w' ∧ ∀ t, stepE s x = some t → ∃ rv ps, Book base B t rv ps w'
theorem BStep.no {base B : Nat} {s : St} {x : En} {w w' : World} (h : stepE s x = none) (hb : Below base w w') : BStep base B s x w (.bool false) w' := ⟨by rw [h]; rfl, hb, fun t ht => by rw [h] at ht; cases ht⟩
theorem BStep.yes {base B : Nat} {s t : St} {x : En} {w w' : World} {rv : Value} {ps : List Nat} (h : stepE s x = some t) (hb : Below base w w') (hB : Book base B t rv ps w') : BStep base B s x w (.bool true) w' := ⟨by rw [h]; rfl, hb, fun u hu => by rw [h] at hu; cases hu; exact ⟨rv, ps, hB⟩⟩
theorem Ext.to_below {base : Nat} {w w' : World} (h : Ext w w') (hb : base ≤ w.heap.size) : Below base w w' := ⟨h.os, h.tape, h.output, h.size, fun k hk => h.block k (Nat.zero_le _) (by omega)⟩
theorem below_upd {base b : Nat} {w w' w'' : World} (h : Below base w w') (k : Upd b w' w'') (hb : base ≤ b) : Below base w w'' := ⟨k.os.trans h.os, k.tape.trans h.tape, k.output.trans h.output, by rw [k.size]; exact h.size, fun i hi => (k.block i (by omega)).trans (h.block i hi)⟩
/-- The book's own cells are set anew. -/
theorem Book.setC {base B : Nat} {s t : St} {rv : Value} {ps : List Nat} {w w' : World} (h : Book base B s rv ps w) (hu : Upd B w w') (hc : Blk w' B [rv, .bool t.cl, str t.by'] 88) (hi : t.its = s.its) : Book base B t rv ps w' := by
  refine ⟨hc, ?_, fun i h1 => by rw [hi]; exact (h.rc i h1).upd hu (h.hps i h1).2.1, by rw [hi]; exact h.len, h.hB, h.hps, h.inj, h.hrv⟩
  rcases h.own.2 with ⟨h1, h2⟩ | ⟨g, cap, cur, e, hb, hg, rest⟩
  · exact ⟨h.own.1, .inl ⟨h1, h2⟩⟩
  · refine ⟨h.own.1, .inr ⟨g, cap, cur, e, hb, hu.blk ?_ hg, rest⟩⟩
    rintro rfl; exact h.hrv (by rw [e]; rfl)
/-- A record is set anew. -/
theorem Book.setR {base B i : Nat} {s : St} {rv : Value} {ps : List Nat} {w w' : World} {r : It} (h : Book base B s rv ps w) (hi : i < ps.length) (hu : Upd (ps.getD i 0) w w') (hr : Blk w' (ps.getD i 0) r.cells 123) : Book base B { s with its := s.its.set i r } rv ps w' := by
  have hp := h.hps i hi
  refine ⟨h.c.upd hu (Ne.symm hp.2.1), ?_, fun j hj => ?_, by rw [List.length_set]; exact h.len, h.hB, h.hps, h.inj, h.hrv⟩
  · rcases h.own.2 with ⟨h1, h2⟩ | ⟨g, cap, cur, e, hb, hg, rest⟩
    · exact ⟨h.own.1, .inl ⟨h1, h2⟩⟩
    · refine ⟨h.own.1, .inr ⟨g, cap, cur, e, hb, hu.blk ?_ hg, rest⟩⟩
      rintro rfl; exact hp.2.2 (by rw [e]; rfl)
  · by_cases hji : j = i
    · subst hji
      rw [show (s.its.set j r).getD j i0 = r from getD_set_self (by rw [← h.len]; exact hj)]
      exact hr
    · rw [show (s.its.set i r).getD j i0 = s.its.getD j i0 from by simp [List.getD, List.getElem?_set, Ne.symm hji]]
      exact (h.rc j hj).upd hu (fun e => hji (h.inj j i hj hi e))
theorem held_calls (base B : Nat) (s : St) (rv : Value) (ps : List Nat) (x : En) (w : World) (hb : Book base B s rv ps w) :
    Calls Tryz.prog 125 #[.pointer (some ⟨B, 0, none⟩), x.val] w (Ret fun v w' => v = .pointer (heldP s ps x) ∧ Ext w w') := by
  refine T.enter (vs := [.pointer (some ⟨B, 0, none⟩), x.val]) Tryz.func125 rfl Tryz.ntmps125 rfl ?_
  refine T.seq (T.region (L.op rfl rfl (O.box rfl (fun b3 w3 hb3 hz3 he3 hB3 => ?_))))
  have hE3 : Blk w3 b3 x.cells _ := hB3
  have hb3' := hb.ext he3
  refine L.op rfl rfl (O.assign rfl (L.nil (T.seq (T.region (L.op rfl rfl (O.move rfl (L.op rfl rfl (O.fieldAddr Tryz.runUnderlying42 rfl Tryz.sizeOf9 rfl (L.op rfl rfl (O.load Tryz.isAgg9 rfl (hE3.cell rfl) (L.op rfl rfl (O.call (xs := [.tmp 6, .tmp 8]) Tryz.call124 rfl rfl (find_calls base B s rv ps x.item w3 hb3') (fun v5 w5 hq => ?_)))))))))))))
  obtain ⟨hv5, rfl⟩ := hq
  by_cases hf : findK s.its x.item < s.its.length
  · rw [findP_yes hf] at hv5
    subst hv5
    have hfp := hb3'.lt hf
    refine L.op rfl rfl (O.assign rfl (?_))
    by_cases how : (s.its.getD (findK s.its x.item) i0).ow = x.who
    · refine L.nil (T.seq (T.seq (?_)))
      refine T.anyE mixed 10 [5, 3] rfl [.is _, .is _, .is _, .is _, .is _, .is _, .is _, .is _, .is _, .is _] [[], [0], [1], [2], [3, 2], [4, 2], [5, 2], [6, 2], [2], [8, 2]] [[], [0], [0, 1], [0, 1, 2], [0, 1, 2, 3], [0, 1, 2, 3, 4], [0, 1, 2, 3, 4, 5], [0, 1, 2, 3, 4, 5, 6], [0, 1, 2], [0, 1, 2, 8], [0, 1, 2, 3, 4, 5, 6, 7, 8, 9], [0, 1, 2, 3, 4, 5, 6, 7, 8, 9, 10], [0, 1, 2, 3, 4, 5, 6, 7, 8, 9, 10, 11], [0, 1, 2, 3, 4, 5, 6, 7, 8, 9, 10, 11, 12], [0, 1, 2, 3, 4, 5, 6, 7, 8, 9, 10, 11, 12, 13], [0, 1, 2, 3, 4, 5, 6, 7, 8, 9, 10, 11, 12, 13, 14], [0, 1, 2, 3, 4, 5, 6, 7, 8, 9, 10, 11, 12, 13, 14, 15], [0, 1, 2, 3, 4, 5, 6, 7, 8, 9, 10, 11, 12, 13, 14, 15, 16], [0, 1, 2, 3, 4, 5, 6, 7, 8, 9, 10, 11, 12, 13, 14, 15, 16, 17]] (by kernel_rfl) (by kernel_rfl) rfl (by kernel_rfl) trivial ⟨fun wx hx => Ob.op rfl (O.move rfl ⟨Keep.refl _ _, rfl⟩),
          fun wx hx => Ob.op rfl (O.eql_nilp ptr121 rfl rfl ⟨Keep.refl _ _, rfl⟩),
          fun wx hx => Ob.op rfl (O.move rfl ⟨Keep.refl _ _, rfl⟩),
          fun wx hx => Ob.op rfl (O.move rfl ⟨Keep.refl _ _, rfl⟩),
          fun wx hx => Ob.op rfl (O.nilCheck rfl ⟨Keep.refl _ _, rfl⟩),
          fun wx hx => Ob.op rfl (O.fieldAddr Tryz.runUnderlying123 rfl Tryz.sizeOf39 rfl ⟨Keep.refl _ _, rfl⟩),
          fun wx hx => Ob.op rfl (O.fieldAddr Tryz.runUnderlying39 rfl Tryz.sizeOf9 rfl ⟨Keep.refl _ _, rfl⟩),
          fun wx hx => Ob.op rfl (O.load Tryz.isAgg9 rfl (((hb3'.ext hx).rc _ hfp).cell rfl) ⟨Keep.refl _ _, rfl⟩),
          fun wx hx => Ob.op rfl (O.fieldAddr Tryz.runUnderlying42 rfl Tryz.sizeOf9 rfl ⟨Keep.refl _ _, rfl⟩),
          fun wx hx => Ob.op rfl (O.load Tryz.isAgg9 rfl ((hE3.ext hx).cell rfl) ⟨Keep.refl _ _, rfl⟩),
          trivial⟩ (fun w7 he7 => ?_)
      refine L.op rfl rfl (O.neq_str_f Tryz.runUnderlying9 rfl rfl how (?_))
      rcases hwd : (s.its.getD (findK s.its x.item) i0).wd with _ | _
      · refine L.op rfl rfl (O.pick_false rfl rfl (L.op rfl rfl (O.move rfl (L.op rfl rfl (O.move rfl (L.op rfl rfl (O.nilCheck rfl (L.op rfl rfl (O.fieldAddr Tryz.runUnderlying123 rfl Tryz.sizeOf39 rfl (L.op rfl rfl (O.fieldAddr Tryz.runUnderlying39 rfl Tryz.sizeOf4 rfl (L.op rfl rfl (O.load Tryz.isAgg4 rfl (((hb3'.ext he7).rc _ hfp).cell (i := 4) (v := .bool false) (by rw [← hwd]; rfl)) (L.op rfl rfl (O.pick_false rfl rfl (L.nil (T.cond_false rfl (T.skip (T.seq (T.region (L.op rfl rfl (O.move rfl (L.op rfl rfl (O.assign rfl (L.nil (T.ret1 Tryz.results125 rfl ⟨by rw [heldP_yes (by rw [heldI, decide_eq_true hf, decide_eq_true how, hwd]; rfl)], he3.trans he7⟩))))))))))))))))))))))))))
      · refine L.op rfl rfl (O.pick_false rfl rfl (L.op rfl rfl (O.move rfl (L.op rfl rfl (O.move rfl (L.op rfl rfl (O.nilCheck rfl (L.op rfl rfl (O.fieldAddr Tryz.runUnderlying123 rfl Tryz.sizeOf39 rfl (L.op rfl rfl (O.fieldAddr Tryz.runUnderlying39 rfl Tryz.sizeOf4 rfl (L.op rfl rfl (O.load Tryz.isAgg4 rfl (((hb3'.ext he7).rc _ hfp).cell (i := 4) (v := .bool true) (by rw [← hwd]; rfl)) (L.op rfl rfl (O.pick_false rfl rfl (L.nil (T.cond_true rfl (T.seq (T.region (L.op rfl rfl (O.assign rfl (L.nil (T.ret1 Tryz.results125 rfl ⟨by rw [heldP_no (by rw [heldI, hwd]; simp only [Bool.not_true, Bool.and_false])], he3.trans he7⟩)))))))))))))))))))))))
    · refine L.nil (T.seq (T.seq (?_)))
      refine T.anyE mixed 10 [5, 3] rfl [.is _, .is _, .is _, .is _, .is _, .is _, .is _, .is _, .is _, .is _] [[], [0], [1], [2], [3, 2], [4, 2], [5, 2], [6, 2], [2], [8, 2]] [[], [0], [0, 1], [0, 1, 2], [0, 1, 2, 3], [0, 1, 2, 3, 4], [0, 1, 2, 3, 4, 5], [0, 1, 2, 3, 4, 5, 6], [0, 1, 2], [0, 1, 2, 8], [0, 1, 2, 3, 4, 5, 6, 7, 8, 9], [0, 1, 2, 3, 4, 5, 6, 7, 8, 9, 10], [0, 1, 2, 3, 4, 5, 6, 7, 8, 9, 10, 11], [0, 1, 2, 3, 4, 5, 6, 7, 8, 9, 10, 11, 12], [0, 1, 2, 3, 4, 5, 6, 7, 8, 9, 10, 11, 12, 13], [0, 1, 2, 3, 4, 5, 6, 7, 8, 9, 10, 11, 12, 13, 14], [0, 1, 2, 3, 4, 5, 6, 7, 8, 9, 10, 11, 12, 13, 14, 15], [0, 1, 2, 3, 4, 5, 6, 7, 8, 9, 10, 11, 12, 13, 14, 15, 16], [0, 1, 2, 3, 4, 5, 6, 7, 8, 9, 10, 11, 12, 13, 14, 15, 16, 17]] (by kernel_rfl) (by kernel_rfl) rfl (by kernel_rfl) trivial ⟨fun wx hx => Ob.op rfl (O.move rfl ⟨Keep.refl _ _, rfl⟩),
          fun wx hx => Ob.op rfl (O.eql_nilp ptr121 rfl rfl ⟨Keep.refl _ _, rfl⟩),
          fun wx hx => Ob.op rfl (O.move rfl ⟨Keep.refl _ _, rfl⟩),
          fun wx hx => Ob.op rfl (O.move rfl ⟨Keep.refl _ _, rfl⟩),
          fun wx hx => Ob.op rfl (O.nilCheck rfl ⟨Keep.refl _ _, rfl⟩),
          fun wx hx => Ob.op rfl (O.fieldAddr Tryz.runUnderlying123 rfl Tryz.sizeOf39 rfl ⟨Keep.refl _ _, rfl⟩),
          fun wx hx => Ob.op rfl (O.fieldAddr Tryz.runUnderlying39 rfl Tryz.sizeOf9 rfl ⟨Keep.refl _ _, rfl⟩),
          fun wx hx => Ob.op rfl (O.load Tryz.isAgg9 rfl (((hb3'.ext hx).rc _ hfp).cell rfl) ⟨Keep.refl _ _, rfl⟩),
          fun wx hx => Ob.op rfl (O.fieldAddr Tryz.runUnderlying42 rfl Tryz.sizeOf9 rfl ⟨Keep.refl _ _, rfl⟩),
          fun wx hx => Ob.op rfl (O.load Tryz.isAgg9 rfl ((hE3.ext hx).cell rfl) ⟨Keep.refl _ _, rfl⟩),
          trivial⟩ (fun w7 he7 => ?_)
      refine L.op rfl rfl (O.neq_str_t Tryz.runUnderlying9 rfl rfl how (L.op rfl rfl (O.pick_false rfl rfl (L.op rfl rfl (O.move rfl (L.pass rfl rfl (L.pass rfl rfl (L.pass rfl rfl (L.pass rfl rfl (L.pass rfl rfl (L.op rfl rfl (O.pick_true rfl rfl (L.nil (T.cond_true rfl (T.seq (T.region (L.op rfl rfl (O.assign rfl (L.nil (T.ret1 Tryz.results125 rfl ⟨by rw [heldP_no (by simp only [heldI, decide_eq_false how, Bool.false_and, Bool.and_false])], he3.trans he7⟩))))))))))))))))))))
  · rw [findP_no hf] at hv5
    subst hv5
    refine L.op rfl rfl (O.assign rfl (L.nil (T.seq (T.seq (?_)))))
    refine T.anyE mixed 10 [5, 3] rfl [.is _, .is _, .is _, .is undef, .is undef, .is undef, .is undef, .is undef, .is undef, .is undef] [[], [0], [1], [2], [3, 2], [4, 2], [5, 2], [6, 2], [2], [8, 2]] [[], [0], [0, 1], [0, 1, 2], [0, 1, 2, 3], [0, 1, 2, 3, 4], [0, 1, 2, 3, 4, 5], [0, 1, 2, 3, 4, 5, 6], [0, 1, 2], [0, 1, 2, 8], [0, 1, 2, 3, 4, 5, 6, 7, 8, 9], [0, 1, 2, 3, 4, 5, 6, 7, 8, 9, 10], [0, 1, 2, 3, 4, 5, 6, 7, 8, 9, 10, 11], [0, 1, 2, 3, 4, 5, 6, 7, 8, 9, 10, 11, 12], [0, 1, 2, 3, 4, 5, 6, 7, 8, 9, 10, 11, 12, 13], [0, 1, 2, 3, 4, 5, 6, 7, 8, 9, 10, 11, 12, 13, 14], [0, 1, 2, 3, 4, 5, 6, 7, 8, 9, 10, 11, 12, 13, 14, 15], [0, 1, 2, 3, 4, 5, 6, 7, 8, 9, 10, 11, 12, 13, 14, 15, 16], [0, 1, 2, 3, 4, 5, 6, 7, 8, 9, 10, 11, 12, 13, 14, 15, 16, 17]] (by kernel_rfl) (by kernel_rfl) rfl (by kernel_rfl) trivial ⟨fun wx hx => Ob.op rfl (O.move rfl ⟨Keep.refl _ _, rfl⟩),
        fun wx hx => Ob.op rfl (O.eql_nilp ptr121 rfl rfl ⟨Keep.refl _ _, rfl⟩),
        fun wx hx => Ob.op rfl (O.move rfl ⟨Keep.refl _ _, rfl⟩),
        fun wx hx => Ob.pass rfl rfl,
        fun wx hx => Ob.pass rfl rfl,
        fun wx hx => Ob.pass rfl rfl,
        fun wx hx => Ob.pass rfl rfl,
        fun wx hx => Ob.pass rfl rfl,
        fun wx hx => Ob.pass rfl rfl,
        fun wx hx => Ob.pass rfl rfl,
        trivial⟩ (fun w7 he7 => ?_)
    refine L.pass rfl rfl (L.op rfl rfl (O.pick_true rfl rfl (L.op rfl rfl (O.move rfl (L.pass rfl rfl (L.pass rfl rfl (L.pass rfl rfl (L.pass rfl rfl (L.pass rfl rfl (L.op rfl rfl (O.pick_true rfl rfl (L.nil (T.cond_true rfl (T.seq (T.region (L.op rfl rfl (O.assign rfl (L.nil (T.ret1 Tryz.results125 rfl ⟨by rw [heldP_no (by simp only [heldI, decide_eq_false hf, Bool.false_and])], he3.trans he7⟩)))))))))))))))))))

end Go.Proofs.YtmnihgcffdmodaaGreatDoor
set_option linter.unusedVariables false
set_option linter.unusedSimpArgs false
set_option maxRecDepth 20000
namespace Go.Proofs.YtmnihgcffdmodaaGreatDoor
open Go Go.E RowKit
attribute [local irreducible] Go.E.T Go.E.L Go.E.O Go.E.Ob

attribute [local irreducible] Go.E.ObX
def f2 (a b : St) : Nat → St
  | 0 => a
  | _ => b
def f3 (a b : St) : Nat → St
  | 0 => a
  | 1 => a
  | _ => b
/-- While a region writes into the book. -/
structure InvC (base B : Nat) (f : Nat → St) (rv : Value) (ps : List Nat) (b3 : Nat) (x : En) (w : World) (c : Nat) (W : World) : Prop where
  b : Book base B (f c) rv ps W
  e : Blk W b3 x.cells 42
  l : Below base w W
theorem below_drew (base : Nat) (w : World) : Below base w w.drew := ⟨rfl, rfl, rfl, Nat.le_refl _, fun _ _ => rfl⟩
theorem held_no {s : St} {x : En} (h4 : ¬ x.k = 4) (h1 : ¬ x.k = 1) (h : heldI s x = false) : stepE s x = none := by
  by_cases hf : findK s.its x.item < s.its.length
  · rw [step_item h4 h1 hf]
    by_cases how : (s.its.getD (findK s.its x.item) i0).ow = x.who
    · rw [heldI, decide_eq_true hf, decide_eq_true how] at h
      rw [if_pos (Or.inr (by simpa using h))]
    · rw [if_pos (Or.inl how)]
  · exact step_old h4 h1 hf
theorem held_step {s : St} {x : En} (h4 : ¬ x.k = 4) (h1 : ¬ x.k = 1) (h : heldI s x = true) : stepE s x = (if x.k = 2 then (if s.cl = true then none else some { s with its := s.its.set (findK s.its x.item) { s.its.getD (findK s.its x.item) i0 with ver := wrap64 ((s.its.getD (findK s.its x.item) i0).ver + 1), sl := x.sl } })
    else if x.k = 3 then (if (s.its.getD (findK s.its x.item) i0).op = true then none else some { s with its := s.its.set (findK s.its x.item) { s.its.getD (findK s.its x.item) i0 with wd := true } })
    else if ¬ s.cl = true ∨ (s.its.getD (findK s.its x.item) i0).op = true ∨ ¬ (s.its.getD (findK s.its x.item) i0).sl = sealN x.con x.non then none
    else some { s with its := s.its.set (findK s.its x.item) { s.its.getD (findK s.its x.item) i0 with op := true, con := x.con } }) := by
  rw [step_item h4 h1 (held_lt h)]
  simp only [heldI, Bool.and_eq_true, decide_eq_true_eq, Bool.not_eq_true'] at h
  rw [if_neg (fun hh => hh.elim (fun a => a h.2.1) (fun a => by rw [h.2.2] at a; cases a))]
theorem shut_calls (base B : Nat) (s : St) (rv : Value) (ps : List Nat) (x : En) (w : World) (hb : Book base B s rv ps w) (hw : base ≤ w.heap.size) (hk : x.k = 4) :
    Calls Tryz.prog 90 #[.pointer (some ⟨B, 0, none⟩), x.val] w (Ret fun v w' => BStep base B s x w v w') := by
  refine T.enter (vs := [.pointer (some ⟨B, 0, none⟩), x.val]) Tryz.func90 rfl Tryz.ntmps90 rfl ?_
  refine T.seq (T.region (L.op rfl rfl (O.box rfl (fun b3 w3 hb3 hz3 he3 hB3 => ?_))))
  have hE3 : Blk w3 b3 x.cells 42 := hB3
  have hb3' := hb.ext he3
  have hBl := hb.c.lt
  have hl3 := Ext.to_below he3 hw
  rcases hc : s.cl with _ | _
  · refine L.op rfl rfl (O.assign rfl (L.nil (T.seq (T.seq (T.region (L.op rfl rfl (O.move rfl (L.op rfl rfl (O.nilCheck rfl (L.op rfl rfl (O.fieldAddr Tryz.runUnderlying88 rfl Tryz.sizeOf4 rfl (L.op rfl rfl (O.load Tryz.isAgg4 rfl (hb3'.c.cell (i := 1) (v := .bool false) (by rw [← hc]; rfl)) (L.nil (T.cond_false rfl (T.skip (T.seq (?_))))))))))))))))))
    refine T.any mixed 7 1 [0, 3] rfl [.is _, .is _, .is _, .is _, .is _, .is _, .is undef] [[], [], [], [2], [0], [4], [5]] [none, none, none, none, none, none, some 0] [[], [], [], [2], [0], [0, 4], [0, 4, 5], [0, 1, 2, 3, 4, 5, 6], [0, 1, 2, 3, 4, 5, 6, 7], [0, 1, 2, 3, 4, 5, 6, 7, 8]] (InvC base B (f2 s { s with cl := true }) rv ps b3 x w) (fun _ _ => True) (by kernel_rfl) (by kernel_rfl) (by kernel_rfl) rfl trivial ⟨hb3'.ext (Keep.drew _ _), hE3.ext (Keep.drew _ _), hl3.trans (below_drew _ _)⟩ ⟨fun c wx hx => ObK.op rfl (O.move rfl ⟨⟨trivial, hx⟩, rfl⟩),
        fun c wx hx => ObK.op rfl (O.move rfl ⟨⟨trivial, hx⟩, rfl⟩),
        fun c wx hx => ObK.op rfl (O.fieldAddr Tryz.runUnderlying42 rfl Tryz.sizeOf9 rfl ⟨⟨trivial, hx⟩, rfl⟩),
        fun c wx hx => ObK.op rfl (O.load Tryz.isAgg9 rfl (hx.e.cell rfl) ⟨⟨trivial, hx⟩, rfl⟩),
        fun c wx hx => ObK.op rfl (O.nilCheck rfl ⟨⟨trivial, hx⟩, rfl⟩),
        fun c wx hx => ObK.op rfl (O.fieldAddr Tryz.runUnderlying88 rfl Tryz.sizeOf4 rfl ⟨⟨trivial, hx⟩, rfl⟩),
        fun wx hx => ObK.op rfl (O.store1 Tryz.sizeOf4 rfl rfl rfl hx.b.c (by simp) (fun w6 hu6 hB6 => ⟨⟨trivial, hx.b.setC (t := { s with cl := true }) hu6 hB6 rfl, hx.e.upd hu6 (by show b3 ≠ B; omega), below_upd hx.l hu6 hb.hB⟩, rfl⟩)),
        trivial⟩ (fun w7 hI7 => ?_)
    refine L.op rfl rfl (O.nilCheck rfl (L.op rfl rfl (O.fieldAddr Tryz.runUnderlying88 rfl Tryz.sizeOf9 rfl (L.op rfl rfl (O.store1 Tryz.sizeOf9 rfl rfl rfl hI7.b.c (by simp) (fun w9 hu9 hB9 => ?_))))))
    have hb9 := hI7.b.setC (t := { s with cl := true, by' := x.who }) hu9 hB9 rfl
    refine L.nil (T.seq (T.region (L.op rfl rfl (O.assign rfl (L.nil (T.ret1 Tryz.results90 rfl (BStep.yes (by rw [stepE, if_pos hk, if_neg (by rw [hc]; decide)]) (below_upd hI7.l hu9 hb.hB) hb9)))))))
  · refine L.op rfl rfl (O.assign rfl (L.nil (T.seq (T.seq (T.region (L.op rfl rfl (O.move rfl (L.op rfl rfl (O.nilCheck rfl (L.op rfl rfl (O.fieldAddr Tryz.runUnderlying88 rfl Tryz.sizeOf4 rfl (L.op rfl rfl (O.load Tryz.isAgg4 rfl (hb3'.c.cell (i := 1) (v := .bool true) (by rw [← hc]; rfl)) (L.nil (T.cond_true rfl (T.seq (T.region (L.op rfl rfl (O.assign rfl (L.nil (T.ret1 Tryz.results90 rfl (BStep.no (by rw [stepE, if_pos hk, if_pos hc]) hl3))))))))))))))))))))))

theorem withdraw_calls (base B : Nat) (s : St) (rv : Value) (ps : List Nat) (x : En) (w : World) (hb : Book base B s rv ps w) (hw : base ≤ w.heap.size) (hk : x.k = 3) :
    Calls Tryz.prog 89 #[.pointer (some ⟨B, 0, none⟩), x.val] w (Ret fun v w' => BStep base B s x w v w') := by
  refine T.enter (vs := [.pointer (some ⟨B, 0, none⟩), x.val]) Tryz.func89 rfl Tryz.ntmps89 rfl ?_
  refine T.seq (T.region (L.op rfl rfl (O.box rfl (fun b3 w3 hb3 hz3 he3 hB3 => ?_))))
  have hE3 : Blk w3 b3 x.cells 42 := hB3
  have hb3' := hb.ext he3
  refine L.op rfl rfl (O.assign rfl (L.nil (T.seq (T.region (L.op rfl rfl (O.move rfl (L.op rfl rfl (O.loadAgg Tryz.isAgg42 Tryz.sizeOf42 rfl rfl hE3.row (L.op rfl rfl (O.call (xs := [.tmp 6, .tmp 7]) Tryz.call125 rfl rfl (held_calls base B s rv ps x w3 hb3') (fun v5 w5 hq => ?_)))))))))))
  obtain ⟨hv5, he5⟩ := hq
  have hb5 := hb3'.ext he5
  have hl5 := Ext.to_below (he3.trans he5) hw
  rcases hh : heldI s x with _ | _
  · rw [heldP_no hh] at hv5
    subst hv5
    refine L.op rfl rfl (O.assign rfl (L.nil (T.seq (T.seq (T.region (L.op rfl rfl (O.move rfl (L.op rfl rfl (O.eql_nilp ptr121 rfl rfl (L.op rfl rfl (O.move rfl (L.pass rfl rfl (L.pass rfl rfl (L.pass rfl rfl (L.pass rfl rfl (L.pass rfl rfl (L.op rfl rfl (O.pick_true rfl rfl (L.nil (T.cond_true rfl (T.seq (T.region (L.op rfl rfl (O.assign rfl (L.nil (T.ret1 Tryz.results89 rfl (BStep.no (held_no (by omega) (by omega) hh) hl5)))))))))))))))))))))))))))
  · rw [heldP_yes hh] at hv5
    subst hv5
    have hfp := hb5.lt (held_lt hh)
    have hst := held_step (by omega) (by omega) hh
    rw [if_neg (by omega), if_pos hk] at hst
    refine L.op rfl rfl (O.assign rfl (L.nil (T.seq (T.seq (T.region (L.op rfl rfl (O.move rfl (L.op rfl rfl (O.eql_nilp ptr121 rfl rfl (?_))))))))))
    rcases ho : (s.its.getD (findK s.its x.item) i0).op with _ | _
    · refine L.op rfl rfl (O.move rfl (L.op rfl rfl (O.move rfl (L.op rfl rfl (O.nilCheck rfl (L.op rfl rfl (O.fieldAddr Tryz.runUnderlying123 rfl Tryz.sizeOf39 rfl (L.op rfl rfl (O.fieldAddr Tryz.runUnderlying39 rfl Tryz.sizeOf4 rfl (L.op rfl rfl (O.load Tryz.isAgg4 rfl ((hb5.rc _ hfp).cell (i := 5) (v := .bool false) (by rw [← ho]; rfl)) (L.op rfl rfl (O.pick_false rfl rfl (L.nil (T.cond_false rfl (T.skip (T.seq (T.region (L.op rfl rfl (O.move rfl (L.op rfl rfl (O.nilCheck rfl (L.op rfl rfl (O.fieldAddr Tryz.runUnderlying123 rfl Tryz.sizeOf39 rfl (L.op rfl rfl (O.fieldAddr Tryz.runUnderlying39 rfl Tryz.sizeOf4 rfl (L.op rfl rfl (O.store1 Tryz.sizeOf4 rfl rfl rfl (hb5.rc _ hfp) (by simp [It.cells, Addr.add]) (fun w6 hu6 hB6 => ?_)))))))))))))))))))))))))))))
      have hu6 : Upd (ps.getD (findK s.its x.item) 0) _ _ := hu6
      refine L.nil (T.seq (T.region (L.op rfl rfl (O.assign rfl (L.nil (T.ret1 Tryz.results89 rfl (BStep.yes (hst.trans (if_neg (by rw [ho]; decide))) (below_upd hl5 hu6 (hb5.hps _ hfp).1) (hb5.setR (r := { s.its.getD (findK s.its x.item) i0 with wd := true }) hfp hu6 hB6))))))))
    · refine L.op rfl rfl (O.move rfl (L.op rfl rfl (O.move rfl (L.op rfl rfl (O.nilCheck rfl (L.op rfl rfl (O.fieldAddr Tryz.runUnderlying123 rfl Tryz.sizeOf39 rfl (L.op rfl rfl (O.fieldAddr Tryz.runUnderlying39 rfl Tryz.sizeOf4 rfl (L.op rfl rfl (O.load Tryz.isAgg4 rfl ((hb5.rc _ hfp).cell (i := 5) (v := .bool true) (by rw [← ho]; rfl)) (L.op rfl rfl (O.pick_false rfl rfl (L.nil (T.cond_true rfl (T.seq (T.region (L.op rfl rfl (O.assign rfl (L.nil (T.ret1 Tryz.results89 rfl (BStep.no (hst.trans (if_pos ho)) hl5))))))))))))))))))))))

theorem revise_calls (base B : Nat) (s : St) (rv : Value) (ps : List Nat) (x : En) (w : World) (hb : Book base B s rv ps w) (hw : base ≤ w.heap.size) (hk : x.k = 2) :
    Calls Tryz.prog 88 #[.pointer (some ⟨B, 0, none⟩), x.val] w (Ret fun v w' => BStep base B s x w v w') := by
  refine T.enter (vs := [.pointer (some ⟨B, 0, none⟩), x.val]) Tryz.func88 rfl Tryz.ntmps88 rfl ?_
  refine T.seq (T.region (L.op rfl rfl (O.box rfl (fun b3 w3 hb3 hz3 he3 hB3 => ?_))))
  have hE3 : Blk w3 b3 x.cells 42 := hB3
  have hb3' := hb.ext he3
  refine L.op rfl rfl (O.assign rfl (L.nil (T.seq (T.region (L.op rfl rfl (O.move rfl (L.op rfl rfl (O.loadAgg Tryz.isAgg42 Tryz.sizeOf42 rfl rfl hE3.row (L.op rfl rfl (O.call (xs := [.tmp 6, .tmp 7]) Tryz.call125 rfl rfl (held_calls base B s rv ps x w3 hb3') (fun v5 w5 hq => ?_)))))))))))
  obtain ⟨hv5, he5⟩ := hq
  have hb5 := hb3'.ext he5
  have hE5 := hE3.ext he5
  have hl5 := Ext.to_below (he3.trans he5) hw
  rcases hh : heldI s x with _ | _
  · rw [heldP_no hh] at hv5
    subst hv5
    refine L.op rfl rfl (O.assign rfl (L.nil (T.seq (T.seq (T.region (L.op rfl rfl (O.move rfl (L.op rfl rfl (O.eql_nilp ptr121 rfl rfl (L.op rfl rfl (O.move rfl (L.pass rfl rfl (L.pass rfl rfl (L.pass rfl rfl (L.pass rfl rfl (L.op rfl rfl (O.pick_true rfl rfl (L.nil (T.cond_true rfl (T.seq (T.region (L.op rfl rfl (O.assign rfl (L.nil (T.ret1 Tryz.results88 rfl (BStep.no (held_no (by omega) (by omega) hh) hl5))))))))))))))))))))))))))
  · rw [heldP_yes hh] at hv5
    subst hv5
    have hfp := hb5.lt (held_lt hh)
    have hst := held_step (by omega) (by omega) hh
    rw [if_pos hk] at hst
    have hneP : ps.getD (findK s.its x.item) 0 ≠ b3 := by have := (hb.rc _ hfp).lt; omega
    refine L.op rfl rfl (O.assign rfl (L.nil (T.seq (T.seq (T.region (L.op rfl rfl (O.move rfl (L.op rfl rfl (O.eql_nilp ptr121 rfl rfl (?_))))))))))
    rcases hc : s.cl with _ | _
    · refine L.op rfl rfl (O.move rfl (L.op rfl rfl (O.move rfl (L.op rfl rfl (O.nilCheck rfl (L.op rfl rfl (O.fieldAddr Tryz.runUnderlying88 rfl Tryz.sizeOf4 rfl (L.op rfl rfl (O.load Tryz.isAgg4 rfl (hb5.c.cell (i := 1) (v := .bool false) (by rw [← hc]; rfl)) (L.op rfl rfl (O.pick_false rfl rfl (L.nil (T.cond_false rfl (T.skip (T.seq (?_))))))))))))))))
      refine T.any mixed 14 2 [5, 3] rfl [.is _, .is _, .is _, .is _, .is _, .is _, .is (.int .i64 (s.its.getD (findK s.its x.item) i0).ver), .is _, .is _, .is _, .is _, .is _, .is _, .is undef] [[], [], [], [2], [3], [4], [5], [6], [], [8], [0], [10], [11], [12, 7]] [none, none, none, none, none, none, some 0, none, none, none, none, none, none, some 1] [[], [], [], [2], [2, 3], [2, 3, 4], [2, 3, 4, 5], [2, 3, 4, 5, 6], [], [8], [0, 2, 3, 4, 5, 6, 7], [0, 2, 3, 4, 5, 6, 7, 10], [0, 2, 3, 4, 5, 6, 7, 10, 11], [0, 2, 3, 4, 5, 6, 7, 10, 11, 12], [0, 1, 2, 3, 4, 5, 6, 7, 8, 9, 10, 11, 12, 13], [0, 1, 2, 3, 4, 5, 6, 7, 8, 9, 10, 11, 12, 13, 14], [0, 1, 2, 3, 4, 5, 6, 7, 8, 9, 10, 11, 12, 13, 14, 15], [0, 1, 2, 3, 4, 5, 6, 7, 8, 9, 10, 11, 12, 13, 14, 15, 16]] (InvC base B (f3 s { s with its := s.its.set (findK s.its x.item) { s.its.getD (findK s.its x.item) i0 with ver := wrap64 ((s.its.getD (findK s.its x.item) i0).ver + 1) } }) rv ps b3 x w) (fun _ _ => True) (by kernel_rfl) (by kernel_rfl) (by kernel_rfl) rfl trivial ⟨hb5.ext (Keep.drew _ _), hE5.ext (Keep.drew _ _), hl5.trans (below_drew _ _)⟩ ⟨fun c wx hx => ObK.op rfl (O.move rfl ⟨⟨trivial, hx⟩, rfl⟩),
          fun c wx hx => ObK.op rfl (O.move rfl ⟨⟨trivial, hx⟩, rfl⟩),
          fun c wx hx => ObK.op rfl (O.move rfl ⟨⟨trivial, hx⟩, rfl⟩),
          fun c wx hx => ObK.op rfl (O.nilCheck rfl ⟨⟨trivial, hx⟩, rfl⟩),
          fun c wx hx => ObK.op rfl (O.fieldAddr Tryz.runUnderlying123 rfl Tryz.sizeOf39 rfl ⟨⟨trivial, hx⟩, rfl⟩),
          fun c wx hx => ObK.op rfl (O.fieldAddr Tryz.runUnderlying39 rfl Tryz.sizeOf3 rfl ⟨⟨trivial, hx⟩, rfl⟩),
          fun wx hx => ObK.op rfl (O.load Tryz.isAgg3 rfl ((hx.b.rc _ hfp).cell rfl) ⟨⟨trivial, hx.b, hx.e, hx.l⟩, rfl⟩),
          fun c wx hx => ObK.op rfl (O.add rfl rfl ⟨⟨trivial, hx⟩, rfl⟩),
          fun c wx hx => ObK.op rfl (O.fieldAddr Tryz.runUnderlying42 rfl Tryz.sizeOf25 rfl ⟨⟨trivial, hx⟩, rfl⟩),
          fun c wx hx => ObK.op rfl (O.load Tryz.isAgg25 rfl (hx.e.cell rfl) ⟨⟨trivial, hx⟩, rfl⟩),
          fun c wx hx => ObK.op rfl (O.nilCheck rfl ⟨⟨trivial, hx⟩, rfl⟩),
          fun c wx hx => ObK.op rfl (O.fieldAddr Tryz.runUnderlying123 rfl Tryz.sizeOf39 rfl ⟨⟨trivial, hx⟩, rfl⟩),
          fun c wx hx => ObK.op rfl (O.fieldAddr Tryz.runUnderlying39 rfl Tryz.sizeOf3 rfl ⟨⟨trivial, hx⟩, rfl⟩),
          fun wx hx => ObK.op rfl (O.store1 Tryz.sizeOf3 rfl rfl rfl (hx.b.rc _ hfp) (by simp [It.cells, Addr.add]) (fun w6 hu6 hB6 => ⟨⟨trivial, hx.b.setR (r := { s.its.getD (findK s.its x.item) i0 with ver := wrap64 ((s.its.getD (findK s.its x.item) i0).ver + 1) }) hfp hu6 hB6, hx.e.upd hu6 (Ne.symm hneP), below_upd hx.l hu6 (hb5.hps _ hfp).1⟩, rfl⟩)),
          trivial⟩ (fun w9 hI9 => ?_)
      have hrc := hI9.b.rc _ hfp
      have hg := getD_set_self (d := i0) (y := { s.its.getD (findK s.its x.item) i0 with ver := wrap64 ((s.its.getD (findK s.its x.item) i0).ver + 1) }) (held_lt hh)
      refine L.op rfl rfl (O.nilCheck rfl (L.op rfl rfl (O.fieldAddr Tryz.runUnderlying123 rfl Tryz.sizeOf39 rfl (L.op rfl rfl (O.fieldAddr Tryz.runUnderlying39 rfl Tryz.sizeOf25 rfl (L.op rfl rfl (O.store1 Tryz.sizeOf25 rfl rfl rfl hrc (by simp [It.cells, Addr.add]) (fun w10 hu10 hB10 => ?_))))))))
      have hu10 : Upd (ps.getD (findK s.its x.item) 0) _ _ := hu10
      have hb10 := hI9.b.setR (r := { s.its.getD (findK s.its x.item) i0 with ver := wrap64 ((s.its.getD (findK s.its x.item) i0).ver + 1), sl := x.sl }) hfp hu10 (by
        have h := hB10
        simp only [f3] at h
        rw [hg] at h
        exact h)
      simp only [f3, List.set_set] at hb10
      refine L.nil (T.seq (T.region (L.op rfl rfl (O.assign rfl (L.nil (T.ret1 Tryz.results88 rfl (BStep.yes (hst.trans (if_neg (by rw [hc]; decide))) (below_upd hI9.l hu10 (hb5.hps _ hfp).1) hb10)))))))
    · refine L.op rfl rfl (O.move rfl (L.op rfl rfl (O.move rfl (L.op rfl rfl (O.nilCheck rfl (L.op rfl rfl (O.fieldAddr Tryz.runUnderlying88 rfl Tryz.sizeOf4 rfl (L.op rfl rfl (O.load Tryz.isAgg4 rfl (hb5.c.cell (i := 1) (v := .bool true) (by rw [← hc]; rfl)) (L.op rfl rfl (O.pick_false rfl rfl (L.nil (T.cond_true rfl (T.seq (T.region (L.op rfl rfl (O.assign rfl (L.nil (T.ret1 Tryz.results88 rfl (BStep.no (hst.trans (if_pos hc)) hl5))))))))))))))))))))

end Go.Proofs.YtmnihgcffdmodaaGreatDoor
set_option linter.unusedVariables false
set_option linter.unusedSimpArgs false
set_option maxRecDepth 20000
namespace Go.Proofs.YtmnihgcffdmodaaGreatDoor
open Go Go.E RowKit
attribute [local irreducible] Go.E.T Go.E.L Go.E.O Go.E.Ob

attribute [local irreducible] Go.E.ObX
theorem open_calls (base B : Nat) (s : St) (rv : Value) (ps : List Nat) (x : En) (w : World) (hb : Book base B s rv ps w) (hw : base ≤ w.heap.size) (hk : x.k = 5) (hxo : x.ok) (hL : LibM w) :
    Calls Tryz.prog 91 #[.pointer (some ⟨B, 0, none⟩), x.val] w (Ret fun v w' => BStep base B s x w v w') := by
  refine T.enter (vs := [.pointer (some ⟨B, 0, none⟩), x.val]) Tryz.func91 rfl Tryz.ntmps91 rfl ?_
  refine T.seq (T.region (L.op rfl rfl (O.box rfl (fun b3 w3 hb3 hz3 he3 hB3 => ?_))))
  have hE3 : Blk w3 b3 x.cells 42 := hB3
  have hb3' := hb.ext he3
  refine L.op rfl rfl (O.assign rfl (L.nil (T.seq (T.region (L.op rfl rfl (O.move rfl (L.op rfl rfl (O.loadAgg Tryz.isAgg42 Tryz.sizeOf42 rfl rfl hE3.row (L.op rfl rfl (O.call (xs := [.tmp 6, .tmp 7]) Tryz.call125 rfl rfl (held_calls base B s rv ps x w3 hb3') (fun v5 w5 hq => ?_)))))))))))
  obtain ⟨hv5, he5⟩ := hq
  have hb5 := hb3'.ext he5
  have hE5 := hE3.ext he5
  have hL5 := hL.ext (he3.trans he5)
  have he05 := he3.trans he5
  rcases hh : heldI s x with _ | _
  · rw [heldP_no hh] at hv5
    subst hv5
    refine L.op rfl rfl (O.assign rfl (L.nil (T.seq (T.seq (?_)))))
    refine T.anyE mixed 27 [5, 0, 3] rfl [.is _, .is _, .is _, .is undef, .is undef, .is undef, .is undef, .is undef, .is _, .is _, .is undef, .is undef, .is undef, .is undef, .is undef, .is _, .is _, .is undef, .is undef, .is undef, .is undef, .is undef, .is undef, .is undef, .is undef, .is undef, .is undef] [[], [0], [1], [2], [3, 2], [4, 2], [5, 2], [6, 2], [2, 7], [8], [9], [10, 9], [11, 9], [12, 9], [13, 9], [9, 14], [15], [16], [17, 16], [18, 16], [19, 16], [20, 16], [16], [22, 16], [16], [24, 16], [23, 25, 16]] [[], [0], [0, 1], [0, 1, 2], [0, 1, 2, 3], [0, 1, 2, 3, 4], [0, 1, 2, 3, 4, 5], [0, 1, 2, 3, 4, 5, 6], [0, 1, 2, 3, 4, 5, 6, 7], [0, 1, 2, 3, 4, 5, 6, 7, 8], [0, 1, 2, 3, 4, 5, 6, 7, 8, 9], [0, 1, 2, 3, 4, 5, 6, 7, 8, 9, 10], [0, 1, 2, 3, 4, 5, 6, 7, 8, 9, 10, 11], [0, 1, 2, 3, 4, 5, 6, 7, 8, 9, 10, 11, 12], [0, 1, 2, 3, 4, 5, 6, 7, 8, 9, 10, 11, 12, 13], [0, 1, 2, 3, 4, 5, 6, 7, 8, 9, 10, 11, 12, 13, 14], [0, 1, 2, 3, 4, 5, 6, 7, 8, 9, 10, 11, 12, 13, 14, 15], [0, 1, 2, 3, 4, 5, 6, 7, 8, 9, 10, 11, 12, 13, 14, 15, 16], [0, 1, 2, 3, 4, 5, 6, 7, 8, 9, 10, 11, 12, 13, 14, 15, 16, 17], [0, 1, 2, 3, 4, 5, 6, 7, 8, 9, 10, 11, 12, 13, 14, 15, 16, 17, 18], [0, 1, 2, 3, 4, 5, 6, 7, 8, 9, 10, 11, 12, 13, 14, 15, 16, 17, 18, 19], [0, 1, 2, 3, 4, 5, 6, 7, 8, 9, 10, 11, 12, 13, 14, 15, 16, 17, 18, 19, 20], [0, 1, 2, 3, 4, 5, 6, 7, 8, 9, 10, 11, 12, 13, 14, 15, 16], [0, 1, 2, 3, 4, 5, 6, 7, 8, 9, 10, 11, 12, 13, 14, 15, 16, 22], [0, 1, 2, 3, 4, 5, 6, 7, 8, 9, 10, 11, 12, 13, 14, 15, 16], [0, 1, 2, 3, 4, 5, 6, 7, 8, 9, 10, 11, 12, 13, 14, 15, 16, 24], [0, 1, 2, 3, 4, 5, 6, 7, 8, 9, 10, 11, 12, 13, 14, 15, 16, 22, 23, 24, 25], [0, 1, 2, 3, 4, 5, 6, 7, 8, 9, 10, 11, 12, 13, 14, 15, 16, 17, 18, 19, 20, 21, 22, 23, 24, 25, 26], [0, 1, 2, 3, 4, 5, 6, 7, 8, 9, 10, 11, 12, 13, 14, 15, 16, 17, 18, 19, 20, 21, 22, 23, 24, 25, 26, 27]] (by kernel_rfl) (by kernel_rfl) rfl (by kernel_rfl) trivial ⟨fun wx hx => Ob.op rfl (O.move rfl ⟨Keep.refl _ _, rfl⟩),
        fun wx hx => Ob.op rfl (O.eql_nilp ptr121 rfl rfl ⟨Keep.refl _ _, rfl⟩),
        fun wx hx => Ob.op rfl (O.move rfl ⟨Keep.refl _ _, rfl⟩),
        fun wx hx => Ob.pass rfl rfl,
        fun wx hx => Ob.pass rfl rfl,
        fun wx hx => Ob.pass rfl rfl,
        fun wx hx => Ob.pass rfl rfl,
        fun wx hx => Ob.pass rfl rfl,
        fun wx hx => Ob.op rfl (O.pick_true rfl rfl ⟨Keep.refl _ _, rfl⟩),
        fun wx hx => Ob.op rfl (O.move rfl ⟨Keep.refl _ _, rfl⟩),
        fun wx hx => Ob.pass rfl rfl,
        fun wx hx => Ob.pass rfl rfl,
        fun wx hx => Ob.pass rfl rfl,
        fun wx hx => Ob.pass rfl rfl,
        fun wx hx => Ob.pass rfl rfl,
        fun wx hx => Ob.op rfl (O.pick_true rfl rfl ⟨Keep.refl _ _, rfl⟩),
        fun wx hx => Ob.op rfl (O.move rfl ⟨Keep.refl _ _, rfl⟩),
        fun wx hx => Ob.pass rfl rfl,
        fun wx hx => Ob.pass rfl rfl,
        fun wx hx => Ob.pass rfl rfl,
        fun wx hx => Ob.pass rfl rfl,
        fun wx hx => Ob.pass rfl rfl,
        fun wx hx => Ob.pass rfl rfl,
        fun wx hx => Ob.pass rfl rfl,
        fun wx hx => Ob.pass rfl rfl,
        fun wx hx => Ob.pass rfl rfl,
        fun wx hx => Ob.pass rfl rfl,
        trivial⟩ (fun w6 he6 => ?_)
    refine L.pass rfl rfl (L.op rfl rfl (O.pick_true rfl rfl (L.nil (T.cond_true rfl (T.seq (T.region (L.op rfl rfl (O.assign rfl (L.nil (T.ret1 Tryz.results91 rfl (BStep.no (held_no (by omega) (by omega) hh) (Ext.to_below (he05.trans he6) hw))))))))))))
  · rw [heldP_yes hh] at hv5
    subst hv5
    have hfp := hb5.lt (held_lt hh)
    have hst := held_step (by omega) (by omega) hh
    rw [if_neg (by omega), if_neg (by omega)] at hst
    have hneP : ps.getD (findK s.its x.item) 0 ≠ b3 := by have := (hb.rc _ hfp).lt; omega
    refine L.op rfl rfl (O.assign rfl (?_))
    rcases hc : s.cl with _ | _
    · refine L.nil (T.seq (T.seq (?_)))
      refine T.anyE mixed 27 [5, 0, 3] rfl [.is _, .is _, .is _, .is _, .is _, .is _, .is _, .is _, .is _, .is _, .is undef, .is undef, .is undef, .is undef, .is undef, .is _, .is _, .is undef, .is undef, .is undef, .is undef, .is undef, .is undef, .is undef, .is undef, .is undef, .is undef] [[], [0], [1], [2], [3, 2], [4, 2], [5, 2], [6, 2], [2, 7], [8], [9], [10, 9], [11, 9], [12, 9], [13, 9], [9, 14], [15], [16], [17, 16], [18, 16], [19, 16], [20, 16], [16], [22, 16], [16], [24, 16], [23, 25, 16]] [[], [0], [0, 1], [0, 1, 2], [0, 1, 2, 3], [0, 1, 2, 3, 4], [0, 1, 2, 3, 4, 5], [0, 1, 2, 3, 4, 5, 6], [0, 1, 2, 3, 4, 5, 6, 7], [0, 1, 2, 3, 4, 5, 6, 7, 8], [0, 1, 2, 3, 4, 5, 6, 7, 8, 9], [0, 1, 2, 3, 4, 5, 6, 7, 8, 9, 10], [0, 1, 2, 3, 4, 5, 6, 7, 8, 9, 10, 11], [0, 1, 2, 3, 4, 5, 6, 7, 8, 9, 10, 11, 12], [0, 1, 2, 3, 4, 5, 6, 7, 8, 9, 10, 11, 12, 13], [0, 1, 2, 3, 4, 5, 6, 7, 8, 9, 10, 11, 12, 13, 14], [0, 1, 2, 3, 4, 5, 6, 7, 8, 9, 10, 11, 12, 13, 14, 15], [0, 1, 2, 3, 4, 5, 6, 7, 8, 9, 10, 11, 12, 13, 14, 15, 16], [0, 1, 2, 3, 4, 5, 6, 7, 8, 9, 10, 11, 12, 13, 14, 15, 16, 17], [0, 1, 2, 3, 4, 5, 6, 7, 8, 9, 10, 11, 12, 13, 14, 15, 16, 17, 18], [0, 1, 2, 3, 4, 5, 6, 7, 8, 9, 10, 11, 12, 13, 14, 15, 16, 17, 18, 19], [0, 1, 2, 3, 4, 5, 6, 7, 8, 9, 10, 11, 12, 13, 14, 15, 16, 17, 18, 19, 20], [0, 1, 2, 3, 4, 5, 6, 7, 8, 9, 10, 11, 12, 13, 14, 15, 16], [0, 1, 2, 3, 4, 5, 6, 7, 8, 9, 10, 11, 12, 13, 14, 15, 16, 22], [0, 1, 2, 3, 4, 5, 6, 7, 8, 9, 10, 11, 12, 13, 14, 15, 16], [0, 1, 2, 3, 4, 5, 6, 7, 8, 9, 10, 11, 12, 13, 14, 15, 16, 24], [0, 1, 2, 3, 4, 5, 6, 7, 8, 9, 10, 11, 12, 13, 14, 15, 16, 22, 23, 24, 25], [0, 1, 2, 3, 4, 5, 6, 7, 8, 9, 10, 11, 12, 13, 14, 15, 16, 17, 18, 19, 20, 21, 22, 23, 24, 25, 26], [0, 1, 2, 3, 4, 5, 6, 7, 8, 9, 10, 11, 12, 13, 14, 15, 16, 17, 18, 19, 20, 21, 22, 23, 24, 25, 26, 27]] (by kernel_rfl) (by kernel_rfl) rfl (by kernel_rfl) trivial ⟨fun wx hx => Ob.op rfl (O.move rfl ⟨Keep.refl _ _, rfl⟩),
          fun wx hx => Ob.op rfl (O.eql_nilp ptr121 rfl rfl ⟨Keep.refl _ _, rfl⟩),
          fun wx hx => Ob.op rfl (O.move rfl ⟨Keep.refl _ _, rfl⟩),
          fun wx hx => Ob.op rfl (O.move rfl ⟨Keep.refl _ _, rfl⟩),
          fun wx hx => Ob.op rfl (O.nilCheck rfl ⟨Keep.refl _ _, rfl⟩),
          fun wx hx => Ob.op rfl (O.fieldAddr Tryz.runUnderlying88 rfl Tryz.sizeOf4 rfl ⟨Keep.refl _ _, rfl⟩),
          fun wx hx => Ob.op rfl (O.load Tryz.isAgg4 rfl ((hb5.ext hx).c.cell (i := 1) (v := .bool false) (by rw [← hc]; rfl)) ⟨Keep.refl _ _, rfl⟩),
          fun wx hx => Ob.op rfl (O.not rfl ⟨Keep.refl _ _, rfl⟩),
          fun wx hx => Ob.op rfl (O.pick_false rfl rfl ⟨Keep.refl _ _, rfl⟩),
          fun wx hx => Ob.op rfl (O.move rfl ⟨Keep.refl _ _, rfl⟩),
          fun wx hx => Ob.pass rfl rfl,
          fun wx hx => Ob.pass rfl rfl,
          fun wx hx => Ob.pass rfl rfl,
          fun wx hx => Ob.pass rfl rfl,
          fun wx hx => Ob.pass rfl rfl,
          fun wx hx => Ob.op rfl (O.pick_true rfl rfl ⟨Keep.refl _ _, rfl⟩),
          fun wx hx => Ob.op rfl (O.move rfl ⟨Keep.refl _ _, rfl⟩),
          fun wx hx => Ob.pass rfl rfl,
          fun wx hx => Ob.pass rfl rfl,
          fun wx hx => Ob.pass rfl rfl,
          fun wx hx => Ob.pass rfl rfl,
          fun wx hx => Ob.pass rfl rfl,
          fun wx hx => Ob.pass rfl rfl,
          fun wx hx => Ob.pass rfl rfl,
          fun wx hx => Ob.pass rfl rfl,
          fun wx hx => Ob.pass rfl rfl,
          fun wx hx => Ob.pass rfl rfl,
          trivial⟩ (fun w6 he6 => ?_)
      refine L.pass rfl rfl (L.op rfl rfl (O.pick_true rfl rfl (L.nil (T.cond_true rfl (T.seq (T.region (L.op rfl rfl (O.assign rfl (L.nil (T.ret1 Tryz.results91 rfl (BStep.no (hst.trans (if_pos (Or.inl (by rw [hc]; decide)))) (Ext.to_below (he05.trans he6) hw))))))))))))
    · refine L.nil (?_)
      rcases ho : (s.its.getD (findK s.its x.item) i0).op with _ | _
      · by_cases hs : (s.its.getD (findK s.its x.item) i0).sl = sealN x.con x.non
        · refine T.seq (T.seq (?_))
          refine T.anyE mixed 27 [5, 0, 3] rfl [.is _, .is _, .is _, .is _, .is _, .is _, .is _, .is _, .is _, .is _, .is _, .is _, .is _, .is _, .is _, .is _, .is _, .is _, .is _, .is _, .is _, .is _, .is _, .is _, .is _, .is _, .is (wordV (sealN x.con x.non))] [[], [0], [1], [2], [3, 2], [4, 2], [5, 2], [6, 2], [2, 7], [8], [9], [10, 9], [11, 9], [12, 9], [13, 9], [9, 14], [15], [16], [17, 16], [18, 16], [19, 16], [20, 16], [16], [22, 16], [16], [24, 16], [23, 25, 16]] [[], [0], [0, 1], [0, 1, 2], [0, 1, 2, 3], [0, 1, 2, 3, 4], [0, 1, 2, 3, 4, 5], [0, 1, 2, 3, 4, 5, 6], [0, 1, 2, 3, 4, 5, 6, 7], [0, 1, 2, 3, 4, 5, 6, 7, 8], [0, 1, 2, 3, 4, 5, 6, 7, 8, 9], [0, 1, 2, 3, 4, 5, 6, 7, 8, 9, 10], [0, 1, 2, 3, 4, 5, 6, 7, 8, 9, 10, 11], [0, 1, 2, 3, 4, 5, 6, 7, 8, 9, 10, 11, 12], [0, 1, 2, 3, 4, 5, 6, 7, 8, 9, 10, 11, 12, 13], [0, 1, 2, 3, 4, 5, 6, 7, 8, 9, 10, 11, 12, 13, 14], [0, 1, 2, 3, 4, 5, 6, 7, 8, 9, 10, 11, 12, 13, 14, 15], [0, 1, 2, 3, 4, 5, 6, 7, 8, 9, 10, 11, 12, 13, 14, 15, 16], [0, 1, 2, 3, 4, 5, 6, 7, 8, 9, 10, 11, 12, 13, 14, 15, 16, 17], [0, 1, 2, 3, 4, 5, 6, 7, 8, 9, 10, 11, 12, 13, 14, 15, 16, 17, 18], [0, 1, 2, 3, 4, 5, 6, 7, 8, 9, 10, 11, 12, 13, 14, 15, 16, 17, 18, 19], [0, 1, 2, 3, 4, 5, 6, 7, 8, 9, 10, 11, 12, 13, 14, 15, 16, 17, 18, 19, 20], [0, 1, 2, 3, 4, 5, 6, 7, 8, 9, 10, 11, 12, 13, 14, 15, 16], [0, 1, 2, 3, 4, 5, 6, 7, 8, 9, 10, 11, 12, 13, 14, 15, 16, 22], [0, 1, 2, 3, 4, 5, 6, 7, 8, 9, 10, 11, 12, 13, 14, 15, 16], [0, 1, 2, 3, 4, 5, 6, 7, 8, 9, 10, 11, 12, 13, 14, 15, 16, 24], [0, 1, 2, 3, 4, 5, 6, 7, 8, 9, 10, 11, 12, 13, 14, 15, 16, 22, 23, 24, 25], [0, 1, 2, 3, 4, 5, 6, 7, 8, 9, 10, 11, 12, 13, 14, 15, 16, 17, 18, 19, 20, 21, 22, 23, 24, 25, 26], [0, 1, 2, 3, 4, 5, 6, 7, 8, 9, 10, 11, 12, 13, 14, 15, 16, 17, 18, 19, 20, 21, 22, 23, 24, 25, 26, 27]] (by kernel_rfl) (by kernel_rfl) rfl (by kernel_rfl) trivial ⟨fun wx hx => Ob.op rfl (O.move rfl ⟨Keep.refl _ _, rfl⟩),
              fun wx hx => Ob.op rfl (O.eql_nilp ptr121 rfl rfl ⟨Keep.refl _ _, rfl⟩),
              fun wx hx => Ob.op rfl (O.move rfl ⟨Keep.refl _ _, rfl⟩),
              fun wx hx => Ob.op rfl (O.move rfl ⟨Keep.refl _ _, rfl⟩),
              fun wx hx => Ob.op rfl (O.nilCheck rfl ⟨Keep.refl _ _, rfl⟩),
              fun wx hx => Ob.op rfl (O.fieldAddr Tryz.runUnderlying88 rfl Tryz.sizeOf4 rfl ⟨Keep.refl _ _, rfl⟩),
              fun wx hx => Ob.op rfl (O.load Tryz.isAgg4 rfl ((hb5.ext hx).c.cell (i := 1) (v := .bool true) (by rw [← hc]; rfl)) ⟨Keep.refl _ _, rfl⟩),
              fun wx hx => Ob.op rfl (O.not rfl ⟨Keep.refl _ _, rfl⟩),
              fun wx hx => Ob.op rfl (O.pick_false rfl rfl ⟨Keep.refl _ _, rfl⟩),
              fun wx hx => Ob.op rfl (O.move rfl ⟨Keep.refl _ _, rfl⟩),
              fun wx hx => Ob.op rfl (O.move rfl ⟨Keep.refl _ _, rfl⟩),
              fun wx hx => Ob.op rfl (O.nilCheck rfl ⟨Keep.refl _ _, rfl⟩),
              fun wx hx => Ob.op rfl (O.fieldAddr Tryz.runUnderlying123 rfl Tryz.sizeOf39 rfl ⟨Keep.refl _ _, rfl⟩),
              fun wx hx => Ob.op rfl (O.fieldAddr Tryz.runUnderlying39 rfl Tryz.sizeOf4 rfl ⟨Keep.refl _ _, rfl⟩),
              fun wx hx => Ob.op rfl (O.load Tryz.isAgg4 rfl (((hb5.ext hx).rc _ hfp).cell (i := 5) (v := .bool false) (by rw [← ho]; rfl)) ⟨Keep.refl _ _, rfl⟩),
              fun wx hx => Ob.op rfl (O.pick_false rfl rfl ⟨Keep.refl _ _, rfl⟩),
              fun wx hx => Ob.op rfl (O.move rfl ⟨Keep.refl _ _, rfl⟩),
              fun wx hx => Ob.op rfl (O.move rfl ⟨Keep.refl _ _, rfl⟩),
              fun wx hx => Ob.op rfl (O.nilCheck rfl ⟨Keep.refl _ _, rfl⟩),
              fun wx hx => Ob.op rfl (O.fieldAddr Tryz.runUnderlying123 rfl Tryz.sizeOf39 rfl ⟨Keep.refl _ _, rfl⟩),
              fun wx hx => Ob.op rfl (O.fieldAddr Tryz.runUnderlying39 rfl Tryz.sizeOf25 rfl ⟨Keep.refl _ _, rfl⟩),
              fun wx hx => Ob.op rfl (O.load Tryz.isAgg25 rfl (((hb5.ext hx).rc _ hfp).cell rfl) ⟨Keep.refl _ _, rfl⟩),
              fun wx hx => Ob.op rfl (O.fieldAddr Tryz.runUnderlying42 rfl Tryz.sizeOf9 rfl ⟨Keep.refl _ _, rfl⟩),
              fun wx hx => Ob.op rfl (O.load Tryz.isAgg9 rfl ((hE5.ext hx).cell rfl) ⟨Keep.refl _ _, rfl⟩),
              fun wx hx => Ob.op rfl (O.fieldAddr Tryz.runUnderlying42 rfl Tryz.sizeOf9 rfl ⟨Keep.refl _ _, rfl⟩),
              fun wx hx => Ob.op rfl (O.load Tryz.isAgg9 rfl ((hE5.ext hx).cell rfl) ⟨Keep.refl _ _, rfl⟩),
              fun wx hx => Ob.op rfl (O.call (xs := [.tmp 32, .tmp 34]) Tryz.call18 rfl rfl (seal_calls x.con x.non wx (hL5.ext hx) hxo.con hxo.non) (fun v wy h => ⟨h.2, h.1⟩)),
              trivial⟩ (fun w6 he6 => ?_)
          refine L.op rfl rfl (O.neq_f rfl rfl (by rw [hs]) (?_))
          have hb6 := hb5.ext he6
          have hE6 := hE5.ext he6
          have hl6 := Ext.to_below (he05.trans he6) hw
          refine L.op rfl rfl (O.pick_false rfl rfl (L.nil (T.cond_false rfl (T.skip (T.seq (?_))))))
          refine T.any mixed 8 1 [5, 3] rfl [.is _, .is _, .is _, .is _, .is _, .is _, .is _, .is undef] [[], [], [], [2], [0], [4], [5], [6]] [none, none, none, none, none, none, none, some 0] [[], [], [], [2], [0], [0, 4], [0, 4, 5], [0, 4, 5, 6], [0, 1, 2, 3, 4, 5, 6, 7], [0, 1, 2, 3, 4, 5, 6, 7, 8], [0, 1, 2, 3, 4, 5, 6, 7, 8, 9], [0, 1, 2, 3, 4, 5, 6, 7, 8, 9, 10]] (InvC base B (f2 s { s with its := s.its.set (findK s.its x.item) { s.its.getD (findK s.its x.item) i0 with op := true } }) rv ps b3 x w) (fun _ _ => True) (by kernel_rfl) (by kernel_rfl) (by kernel_rfl) rfl trivial ⟨hb6.ext (Keep.drew _ _), hE6.ext (Keep.drew _ _), hl6.trans (below_drew _ _)⟩ ⟨fun c wx hx => ObK.op rfl (O.move rfl ⟨⟨trivial, hx⟩, rfl⟩),
              fun c wx hx => ObK.op rfl (O.move rfl ⟨⟨trivial, hx⟩, rfl⟩),
              fun c wx hx => ObK.op rfl (O.fieldAddr Tryz.runUnderlying42 rfl Tryz.sizeOf9 rfl ⟨⟨trivial, hx⟩, rfl⟩),
              fun c wx hx => ObK.op rfl (O.load Tryz.isAgg9 rfl (hx.e.cell rfl) ⟨⟨trivial, hx⟩, rfl⟩),
              fun c wx hx => ObK.op rfl (O.nilCheck rfl ⟨⟨trivial, hx⟩, rfl⟩),
              fun c wx hx => ObK.op rfl (O.fieldAddr Tryz.runUnderlying123 rfl Tryz.sizeOf39 rfl ⟨⟨trivial, hx⟩, rfl⟩),
              fun c wx hx => ObK.op rfl (O.fieldAddr Tryz.runUnderlying39 rfl Tryz.sizeOf4 rfl ⟨⟨trivial, hx⟩, rfl⟩),
              fun wx hx => ObK.op rfl (O.store1 Tryz.sizeOf4 rfl rfl rfl (hx.b.rc _ hfp) (by simp [It.cells, Addr.add]) (fun w6 hu6 hB6 => ⟨⟨trivial, hx.b.setR (r := { s.its.getD (findK s.its x.item) i0 with op := true }) hfp hu6 hB6, hx.e.upd hu6 (Ne.symm hneP), below_upd hx.l hu6 (hb5.hps _ hfp).1⟩, rfl⟩)),
              trivial⟩ (fun w7 hI7 => ?_)
          have hrc := hI7.b.rc _ hfp
          have hg := getD_set_self (d := i0) (y := { s.its.getD (findK s.its x.item) i0 with op := true }) (held_lt hh)
          refine L.op rfl rfl (O.nilCheck rfl (L.op rfl rfl (O.fieldAddr Tryz.runUnderlying123 rfl Tryz.sizeOf39 rfl (L.op rfl rfl (O.fieldAddr Tryz.runUnderlying39 rfl Tryz.sizeOf9 rfl (L.op rfl rfl (O.store1 Tryz.sizeOf9 rfl rfl rfl hrc (by simp [It.cells, Addr.add]) (fun w10 hu10 hB10 => ?_))))))))
          have hu10 : Upd (ps.getD (findK s.its x.item) 0) _ _ := hu10
          have hb10 := hI7.b.setR (r := { s.its.getD (findK s.its x.item) i0 with op := true, con := x.con }) hfp hu10 (by
            have h := hB10
            simp only [f2] at h
            rw [hg] at h
            exact h)
          simp only [f2, List.set_set] at hb10
          refine L.nil (T.seq (T.region (L.op rfl rfl (O.assign rfl (L.nil (T.ret1 Tryz.results91 rfl (BStep.yes (hst.trans (if_neg (fun h => h.elim (fun h => h hc) (fun h => h.elim (fun h => by rw [ho] at h; cases h) (fun h => h hs))))) (below_upd hI7.l hu10 (hb5.hps _ hfp).1) hb10)))))))
        · refine T.seq (T.seq (?_))
          refine T.anyE mixed 27 [5, 0, 3] rfl [.is _, .is _, .is _, .is _, .is _, .is _, .is _, .is _, .is _, .is _, .is _, .is _, .is _, .is _, .is _, .is _, .is _, .is _, .is _, .is _, .is _, .is _, .is _, .is _, .is _, .is _, .is (wordV (sealN x.con x.non))] [[], [0], [1], [2], [3, 2], [4, 2], [5, 2], [6, 2], [2, 7], [8], [9], [10, 9], [11, 9], [12, 9], [13, 9], [9, 14], [15], [16], [17, 16], [18, 16], [19, 16], [20, 16], [16], [22, 16], [16], [24, 16], [23, 25, 16]] [[], [0], [0, 1], [0, 1, 2], [0, 1, 2, 3], [0, 1, 2, 3, 4], [0, 1, 2, 3, 4, 5], [0, 1, 2, 3, 4, 5, 6], [0, 1, 2, 3, 4, 5, 6, 7], [0, 1, 2, 3, 4, 5, 6, 7, 8], [0, 1, 2, 3, 4, 5, 6, 7, 8, 9], [0, 1, 2, 3, 4, 5, 6, 7, 8, 9, 10], [0, 1, 2, 3, 4, 5, 6, 7, 8, 9, 10, 11], [0, 1, 2, 3, 4, 5, 6, 7, 8, 9, 10, 11, 12], [0, 1, 2, 3, 4, 5, 6, 7, 8, 9, 10, 11, 12, 13], [0, 1, 2, 3, 4, 5, 6, 7, 8, 9, 10, 11, 12, 13, 14], [0, 1, 2, 3, 4, 5, 6, 7, 8, 9, 10, 11, 12, 13, 14, 15], [0, 1, 2, 3, 4, 5, 6, 7, 8, 9, 10, 11, 12, 13, 14, 15, 16], [0, 1, 2, 3, 4, 5, 6, 7, 8, 9, 10, 11, 12, 13, 14, 15, 16, 17], [0, 1, 2, 3, 4, 5, 6, 7, 8, 9, 10, 11, 12, 13, 14, 15, 16, 17, 18], [0, 1, 2, 3, 4, 5, 6, 7, 8, 9, 10, 11, 12, 13, 14, 15, 16, 17, 18, 19], [0, 1, 2, 3, 4, 5, 6, 7, 8, 9, 10, 11, 12, 13, 14, 15, 16, 17, 18, 19, 20], [0, 1, 2, 3, 4, 5, 6, 7, 8, 9, 10, 11, 12, 13, 14, 15, 16], [0, 1, 2, 3, 4, 5, 6, 7, 8, 9, 10, 11, 12, 13, 14, 15, 16, 22], [0, 1, 2, 3, 4, 5, 6, 7, 8, 9, 10, 11, 12, 13, 14, 15, 16], [0, 1, 2, 3, 4, 5, 6, 7, 8, 9, 10, 11, 12, 13, 14, 15, 16, 24], [0, 1, 2, 3, 4, 5, 6, 7, 8, 9, 10, 11, 12, 13, 14, 15, 16, 22, 23, 24, 25], [0, 1, 2, 3, 4, 5, 6, 7, 8, 9, 10, 11, 12, 13, 14, 15, 16, 17, 18, 19, 20, 21, 22, 23, 24, 25, 26], [0, 1, 2, 3, 4, 5, 6, 7, 8, 9, 10, 11, 12, 13, 14, 15, 16, 17, 18, 19, 20, 21, 22, 23, 24, 25, 26, 27]] (by kernel_rfl) (by kernel_rfl) rfl (by kernel_rfl) trivial ⟨fun wx hx => Ob.op rfl (O.move rfl ⟨Keep.refl _ _, rfl⟩),
              fun wx hx => Ob.op rfl (O.eql_nilp ptr121 rfl rfl ⟨Keep.refl _ _, rfl⟩),
              fun wx hx => Ob.op rfl (O.move rfl ⟨Keep.refl _ _, rfl⟩),
              fun wx hx => Ob.op rfl (O.move rfl ⟨Keep.refl _ _, rfl⟩),
              fun wx hx => Ob.op rfl (O.nilCheck rfl ⟨Keep.refl _ _, rfl⟩),
              fun wx hx => Ob.op rfl (O.fieldAddr Tryz.runUnderlying88 rfl Tryz.sizeOf4 rfl ⟨Keep.refl _ _, rfl⟩),
              fun wx hx => Ob.op rfl (O.load Tryz.isAgg4 rfl ((hb5.ext hx).c.cell (i := 1) (v := .bool true) (by rw [← hc]; rfl)) ⟨Keep.refl _ _, rfl⟩),
              fun wx hx => Ob.op rfl (O.not rfl ⟨Keep.refl _ _, rfl⟩),
              fun wx hx => Ob.op rfl (O.pick_false rfl rfl ⟨Keep.refl _ _, rfl⟩),
              fun wx hx => Ob.op rfl (O.move rfl ⟨Keep.refl _ _, rfl⟩),
              fun wx hx => Ob.op rfl (O.move rfl ⟨Keep.refl _ _, rfl⟩),
              fun wx hx => Ob.op rfl (O.nilCheck rfl ⟨Keep.refl _ _, rfl⟩),
              fun wx hx => Ob.op rfl (O.fieldAddr Tryz.runUnderlying123 rfl Tryz.sizeOf39 rfl ⟨Keep.refl _ _, rfl⟩),
              fun wx hx => Ob.op rfl (O.fieldAddr Tryz.runUnderlying39 rfl Tryz.sizeOf4 rfl ⟨Keep.refl _ _, rfl⟩),
              fun wx hx => Ob.op rfl (O.load Tryz.isAgg4 rfl (((hb5.ext hx).rc _ hfp).cell (i := 5) (v := .bool false) (by rw [← ho]; rfl)) ⟨Keep.refl _ _, rfl⟩),
              fun wx hx => Ob.op rfl (O.pick_false rfl rfl ⟨Keep.refl _ _, rfl⟩),
              fun wx hx => Ob.op rfl (O.move rfl ⟨Keep.refl _ _, rfl⟩),
              fun wx hx => Ob.op rfl (O.move rfl ⟨Keep.refl _ _, rfl⟩),
              fun wx hx => Ob.op rfl (O.nilCheck rfl ⟨Keep.refl _ _, rfl⟩),
              fun wx hx => Ob.op rfl (O.fieldAddr Tryz.runUnderlying123 rfl Tryz.sizeOf39 rfl ⟨Keep.refl _ _, rfl⟩),
              fun wx hx => Ob.op rfl (O.fieldAddr Tryz.runUnderlying39 rfl Tryz.sizeOf25 rfl ⟨Keep.refl _ _, rfl⟩),
              fun wx hx => Ob.op rfl (O.load Tryz.isAgg25 rfl (((hb5.ext hx).rc _ hfp).cell rfl) ⟨Keep.refl _ _, rfl⟩),
              fun wx hx => Ob.op rfl (O.fieldAddr Tryz.runUnderlying42 rfl Tryz.sizeOf9 rfl ⟨Keep.refl _ _, rfl⟩),
              fun wx hx => Ob.op rfl (O.load Tryz.isAgg9 rfl ((hE5.ext hx).cell rfl) ⟨Keep.refl _ _, rfl⟩),
              fun wx hx => Ob.op rfl (O.fieldAddr Tryz.runUnderlying42 rfl Tryz.sizeOf9 rfl ⟨Keep.refl _ _, rfl⟩),
              fun wx hx => Ob.op rfl (O.load Tryz.isAgg9 rfl ((hE5.ext hx).cell rfl) ⟨Keep.refl _ _, rfl⟩),
              fun wx hx => Ob.op rfl (O.call (xs := [.tmp 32, .tmp 34]) Tryz.call18 rfl rfl (seal_calls x.con x.non wx (hL5.ext hx) hxo.con hxo.non) (fun v wy h => ⟨h.2, h.1⟩)),
              trivial⟩ (fun w6 he6 => ?_)
          refine L.op rfl rfl (O.neq_t rfl rfl (fun e => hs (Int.ofNat.inj e)) (L.op rfl rfl (O.pick_false rfl rfl (L.nil (T.cond_true rfl (T.seq (T.region (L.op rfl rfl (O.assign rfl (L.nil (T.ret1 Tryz.results91 rfl (BStep.no (hst.trans (if_pos (Or.inr (Or.inr hs)))) (Ext.to_below (he05.trans he6) hw)))))))))))))
      · refine T.seq (T.seq (?_))
        refine T.anyE mixed 27 [5, 0, 3] rfl [.is _, .is _, .is _, .is _, .is _, .is _, .is _, .is _, .is _, .is _, .is _, .is _, .is _, .is _, .is _, .is _, .is _, .is undef, .is undef, .is undef, .is undef, .is undef, .is undef, .is undef, .is undef, .is undef, .is undef] [[], [0], [1], [2], [3, 2], [4, 2], [5, 2], [6, 2], [2, 7], [8], [9], [10, 9], [11, 9], [12, 9], [13, 9], [9, 14], [15], [16], [17, 16], [18, 16], [19, 16], [20, 16], [16], [22, 16], [16], [24, 16], [23, 25, 16]] [[], [0], [0, 1], [0, 1, 2], [0, 1, 2, 3], [0, 1, 2, 3, 4], [0, 1, 2, 3, 4, 5], [0, 1, 2, 3, 4, 5, 6], [0, 1, 2, 3, 4, 5, 6, 7], [0, 1, 2, 3, 4, 5, 6, 7, 8], [0, 1, 2, 3, 4, 5, 6, 7, 8, 9], [0, 1, 2, 3, 4, 5, 6, 7, 8, 9, 10], [0, 1, 2, 3, 4, 5, 6, 7, 8, 9, 10, 11], [0, 1, 2, 3, 4, 5, 6, 7, 8, 9, 10, 11, 12], [0, 1, 2, 3, 4, 5, 6, 7, 8, 9, 10, 11, 12, 13], [0, 1, 2, 3, 4, 5, 6, 7, 8, 9, 10, 11, 12, 13, 14], [0, 1, 2, 3, 4, 5, 6, 7, 8, 9, 10, 11, 12, 13, 14, 15], [0, 1, 2, 3, 4, 5, 6, 7, 8, 9, 10, 11, 12, 13, 14, 15, 16], [0, 1, 2, 3, 4, 5, 6, 7, 8, 9, 10, 11, 12, 13, 14, 15, 16, 17], [0, 1, 2, 3, 4, 5, 6, 7, 8, 9, 10, 11, 12, 13, 14, 15, 16, 17, 18], [0, 1, 2, 3, 4, 5, 6, 7, 8, 9, 10, 11, 12, 13, 14, 15, 16, 17, 18, 19], [0, 1, 2, 3, 4, 5, 6, 7, 8, 9, 10, 11, 12, 13, 14, 15, 16, 17, 18, 19, 20], [0, 1, 2, 3, 4, 5, 6, 7, 8, 9, 10, 11, 12, 13, 14, 15, 16], [0, 1, 2, 3, 4, 5, 6, 7, 8, 9, 10, 11, 12, 13, 14, 15, 16, 22], [0, 1, 2, 3, 4, 5, 6, 7, 8, 9, 10, 11, 12, 13, 14, 15, 16], [0, 1, 2, 3, 4, 5, 6, 7, 8, 9, 10, 11, 12, 13, 14, 15, 16, 24], [0, 1, 2, 3, 4, 5, 6, 7, 8, 9, 10, 11, 12, 13, 14, 15, 16, 22, 23, 24, 25], [0, 1, 2, 3, 4, 5, 6, 7, 8, 9, 10, 11, 12, 13, 14, 15, 16, 17, 18, 19, 20, 21, 22, 23, 24, 25, 26], [0, 1, 2, 3, 4, 5, 6, 7, 8, 9, 10, 11, 12, 13, 14, 15, 16, 17, 18, 19, 20, 21, 22, 23, 24, 25, 26, 27]] (by kernel_rfl) (by kernel_rfl) rfl (by kernel_rfl) trivial ⟨fun wx hx => Ob.op rfl (O.move rfl ⟨Keep.refl _ _, rfl⟩),
            fun wx hx => Ob.op rfl (O.eql_nilp ptr121 rfl rfl ⟨Keep.refl _ _, rfl⟩),
            fun wx hx => Ob.op rfl (O.move rfl ⟨Keep.refl _ _, rfl⟩),
            fun wx hx => Ob.op rfl (O.move rfl ⟨Keep.refl _ _, rfl⟩),
            fun wx hx => Ob.op rfl (O.nilCheck rfl ⟨Keep.refl _ _, rfl⟩),
            fun wx hx => Ob.op rfl (O.fieldAddr Tryz.runUnderlying88 rfl Tryz.sizeOf4 rfl ⟨Keep.refl _ _, rfl⟩),
            fun wx hx => Ob.op rfl (O.load Tryz.isAgg4 rfl ((hb5.ext hx).c.cell (i := 1) (v := .bool true) (by rw [← hc]; rfl)) ⟨Keep.refl _ _, rfl⟩),
            fun wx hx => Ob.op rfl (O.not rfl ⟨Keep.refl _ _, rfl⟩),
            fun wx hx => Ob.op rfl (O.pick_false rfl rfl ⟨Keep.refl _ _, rfl⟩),
            fun wx hx => Ob.op rfl (O.move rfl ⟨Keep.refl _ _, rfl⟩),
            fun wx hx => Ob.op rfl (O.move rfl ⟨Keep.refl _ _, rfl⟩),
            fun wx hx => Ob.op rfl (O.nilCheck rfl ⟨Keep.refl _ _, rfl⟩),
            fun wx hx => Ob.op rfl (O.fieldAddr Tryz.runUnderlying123 rfl Tryz.sizeOf39 rfl ⟨Keep.refl _ _, rfl⟩),
            fun wx hx => Ob.op rfl (O.fieldAddr Tryz.runUnderlying39 rfl Tryz.sizeOf4 rfl ⟨Keep.refl _ _, rfl⟩),
            fun wx hx => Ob.op rfl (O.load Tryz.isAgg4 rfl (((hb5.ext hx).rc _ hfp).cell (i := 5) (v := .bool true) (by rw [← ho]; rfl)) ⟨Keep.refl _ _, rfl⟩),
            fun wx hx => Ob.op rfl (O.pick_false rfl rfl ⟨Keep.refl _ _, rfl⟩),
            fun wx hx => Ob.op rfl (O.move rfl ⟨Keep.refl _ _, rfl⟩),
            fun wx hx => Ob.pass rfl rfl,
            fun wx hx => Ob.pass rfl rfl,
            fun wx hx => Ob.pass rfl rfl,
            fun wx hx => Ob.pass rfl rfl,
            fun wx hx => Ob.pass rfl rfl,
            fun wx hx => Ob.pass rfl rfl,
            fun wx hx => Ob.pass rfl rfl,
            fun wx hx => Ob.pass rfl rfl,
            fun wx hx => Ob.pass rfl rfl,
            fun wx hx => Ob.pass rfl rfl,
            trivial⟩ (fun w6 he6 => ?_)
        refine L.pass rfl rfl (L.op rfl rfl (O.pick_true rfl rfl (L.nil (T.cond_true rfl (T.seq (T.region (L.op rfl rfl (O.assign rfl (L.nil (T.ret1 Tryz.results91 rfl (BStep.no (hst.trans (if_pos (Or.inr (Or.inl ho)))) (Ext.to_below (he05.trans he6) hw))))))))))))

end Go.Proofs.YtmnihgcffdmodaaGreatDoor
set_option linter.unusedVariables false
set_option linter.unusedSimpArgs false
set_option maxRecDepth 20000
namespace Go.Proofs.YtmnihgcffdmodaaGreatDoor
open Go Go.E RowKit
attribute [local irreducible] Go.E.T Go.E.L Go.E.O Go.E.Ob

attribute [local irreducible] Go.E.ObX Go.E.ObK
theorem upd_refl (b : Nat) (w : World) : Upd b w w := ⟨rfl, rfl, rfl, rfl, fun _ _ => rfl⟩
section ops
variable {C : Cx} {e : Env} {w : World} {K : Value → World → Prop} {d : Option Tmp} {ty : TypeId} {pos : String} {aft : Array Edge} {g : Option (Nat × Bool)} {x y z x3 : Operand} {t : TypeId}
/-- 'append' where there is room. -/
theorem O.appendRoom {b n cap m size lo : Nat} {el : TypeId} {i : TypeInfo} {cur news : List Value} {u : Value} (ht : ∀ w, (underlying t).run C.P w = .ok (.slice el) w) (hi : C.P.info? el = some i) (hsize : i.size = size)
    (hx : ev e x = some (.slice (some ⟨b, 0, none⟩) n cap)) (hy : ev e y = some u) (hB : Blk w b cur el) (hu : Sl lo w u m size news) (h1 : ∀ c ∈ news, c.oneCell' = true) (hroom : n + m ≤ cap) (hl : cur.length = cap * size)
    (h : ∀ w', Upd b w w' → Blk w' b (cur.take (n * size) ++ news ++ cur.drop (n * size + news.length)) el → K (.slice (some ⟨b, 0, none⟩) (n + m) cap) w') :
    O C e ⟨d, .call { callee := .builtin .append, args := #[x, y], argTypes := #[t, t] }, ty, pos, aft, g⟩ w K := by
  have ht' : C.P.underlying t = some (.slice el) := by
    have := ht w
    simp only [underlying, Sem.run_bind, run_program, Result.andThen_ok] at this
    cases hq : C.P.underlying t with
    | none => simp [hq, stuck] at this
    | some q => simp [hq] at this; rw [this]
  subst hsize
  have hfit : n * i.size + news.length ≤ cur.length := by rw [hu.1, hl, ← Nat.add_mul]; exact Nat.mul_le_mul_right _ hroom
  have hgen : ∀ (ad : Addr) (c : Nat), Row w ad news → ∃ w', (Builtin.append_ #[t, t] ty #[.slice (some ⟨b, 0, none⟩) n cap, .slice (some ad) m c]).run C.P w = .ok (.slice (some ⟨b, 0, none⟩) (n + m) cap) w' ∧ Upd b w w' ∧ Blk w' b (cur.take (n * i.size) ++ news ++ cur.drop (n * i.size + news.length)) el := by
    intro ad c hr
    have hr2 := run_append_room (P := C.P) w t ty el i ht' hi b n cap cur.toArray hB ad m c news hu.1 hr h1 hroom (by simpa using hfit)
    refine ⟨_, hr2, ⟨rfl, rfl, rfl, by simp, fun k hk => setRow_other w b k _ hk⟩, ?_⟩
    have := setRow_heap w b cur.toArray (cur.take (n * i.size) ++ news ++ cur.drop (n * i.size + news.length)).toArray el (0, 0) hB
    unfold Blk
    simpa using this
  have key : ∃ w', (Builtin.append_ #[t, t] ty #[.slice (some ⟨b, 0, none⟩) n cap, u]).run C.P w = .ok (.slice (some ⟨b, 0, none⟩) (n + m) cap) w' ∧ Upd b w w' ∧ Blk w' b (cur.take (n * i.size) ++ news ++ cur.drop (n * i.size + news.length)) el := by
    obtain ⟨hl2, oa, c, rfl, hc, hm, hrow⟩ := hu
    rcases hrow with rfl | ⟨ad, rfl, _, hr⟩
    · have hnil : news = [] := List.eq_nil_of_length_eq_zero (by simpa using hl2)
      subst hnil
      cases oa with
      | some ad => exact hgen ad c (fun j u hj => by simp at hj)
      | none =>
        refine ⟨w, ?_, upd_refl _ _, by simpa using hB⟩
        have : storeCells ((⟨b, 0, none⟩ : Addr).add (n * i.size)) [] = (pure () : Sem Unit) := rfl
        simp [Builtin.append_, ht w, run_underlying ht', sizeOf, typeInfo, hi, Builtin.lenOf, Builtin.firstCells, (show n ≤ cap by omega), this]
    · exact hgen ad c hr
  obtain ⟨w', hr, h2, h3⟩ := key
  exact O.of_run (by simp) (fun a ha => by simp [execOp, resolve, invoke, builtin, ha.eval hx, ha.eval hy, hr]) (h w' h2 h3)
end ops
/-- 'append' onto a block of one's own: in place, or into a new block. -/
theorem O.append2 {C : Cx} {e : Env} {w : World} {K : Value → World → Prop} {d : Option Tmp} {ty : TypeId} {pos : String} {aft : Array Edge} {g : Option (Nat × Bool)} {x y : Operand} {t : TypeId} {b n cap m size bytes lo : Nat} {el : TypeId} {i : TypeInfo} {zv : Value} {cur news : List Value} {u : Value} (ht : ∀ w, (underlying t).run C.P w = .ok (.slice el) w) (hi : C.P.info? el = some i) (hz : i.zero = some zv) (hsize : i.size = size) (hby : i.bytes = bytes) (hzs : zv.cells.size = size) (hsz : 0 < size)
    (hx : ev e x = some (.slice (some ⟨b, 0, none⟩) n cap)) (hy : ev e y = some u) (hB : Blk w b cur el) (hu : Sl lo w u m size news) (h1 : ∀ c ∈ news, c.oneCell' = true) (hnc : n ≤ cap) (hcm : cap ≤ maxLen) (hl : cur.length = cap * size) (h63 : n + m ≤ maxLen) (hbytes : (n + m) * bytes ≤ 140737488355328)
    (hr : ∀ w', n + m ≤ cap → Upd b w w' → Blk w' b (cur.take (n * size) ++ news ++ cur.drop (n * size + news.length)) el → K (.slice (some ⟨b, 0, none⟩) (n + m) cap) w')
    (hg : ∀ v' w', Ext w w' → w'.ownsRow w.heap.size el size v' (n + m) (cur.take (n * size) ++ news) → K v' w') :
    O C e ⟨d, .call { callee := .builtin .append, args := #[x, y], argTypes := #[t, t] }, ty, pos, aft, g⟩ w K := by
  by_cases hroom : n + m ≤ cap
  · exact O.appendRoom ht hi hsize hx hy hB hu h1 hroom hl (fun w' => hr w' hroom)
  · have ht' : C.P.underlying t = some (.slice el) := by
      have := ht w
      simp only [underlying, Sem.run_bind, run_program, Result.andThen_ok] at this
      cases hq : C.P.underlying t with
      | none => simp [hq, stuck] at this
      | some q => simp [hq] at this; rw [this]
    subst hsize hby
    have hm0 : 0 < m := by omega
    obtain ⟨cap2, hue, _, _, hrow⟩ := hu.there hm0
    have hlen : (cur.take (n * i.size)).length = n * i.size := by rw [List.length_take, hl]; exact Nat.min_eq_left (Nat.mul_le_mul_right _ hnc)
    have holds : ∀ j v, (cur.take (n * i.size))[j]? = some v → w.cell? ((⟨b, 0, none⟩ : Addr).add j) = some v := fun j v hj => (Row.of_blk hB).take (n * i.size) j v hj
    have hrun := run_append_grow (P := C.P) w t ty el i zv ht' hi hz ⟨b, 0, none⟩ n cap (cur.take (n * i.size)) hlen holds (sAddr u) m cap2 news hu.1 hrow (by omega) (by unfold maxLen at h63; omega) (growslice_fits (by omega) hbytes)
    have hge := grownCap_ge w (n + m) cap el
    have hcm2 : grownCap w (n + m) cap el ≤ maxLen := grownCap_le_maxLen w (n + m) cap el h63
    have hlen2 : (cur.take (n * i.size) ++ news).length = (n + m) * i.size := by rw [List.length_append, hlen, hu.1, Nat.add_mul]
    refine O.of_run (by simp) (fun a ha => by
      have e1 := ha.eval hy
      rw [hue] at e1
      simp [execOp, resolve, invoke, builtin, ha.eval hx, e1, hrun]; rfl) (hg _ _ ((Keep.drew 0 w).trans (Keep.alloc _ _ _)) ⟨hlen2, .inr ⟨w.heap.size, _, _, rfl, Nat.le_refl _, heap_alloc_new w.drew _, hge, hcm2, ?_, ?_⟩⟩)
    · simp only [Array.size_append, List.size_toArray, size_zeroCells, hzs, hlen2, ← Nat.add_mul]
      congr 1
      omega
    · rw [Array.toList_append, ← hlen2]
      exact List.take_left
end Go.Proofs.YtmnihgcffdmodaaGreatDoor
set_option linter.unusedVariables false
set_option linter.unusedSimpArgs false
set_option maxRecDepth 20000
namespace Go.Proofs.YtmnihgcffdmodaaGreatDoor
open Go Go.E RowKit
attribute [local irreducible] Go.E.T Go.E.L Go.E.O Go.E.Ob

attribute [local irreducible] Go.E.ObX Go.E.ObK
/-- A new record; a list of it alone; the records with it. -/
def NewRec (n0 : Nat) (x : En) (v : Value) (w : World) : Prop := ∃ b, v = ptrV b ∧ n0 ≤ b ∧ Blk w b (itNew x).cells 123
def NewLit (n0 : Nat) (x : En) (v : Value) (w : World) : Prop := ∃ b c, v = .slice (some ⟨c, 0, none⟩) 1 1 ∧ n0 ≤ b ∧ n0 ≤ c ∧ Blk w b (itNew x).cells 123 ∧ Blk w c [ptrV b] 121
def NewRow (base B n0 : Nat) (ps : List Nat) (x : En) (v : Value) (w : World) : Prop := ∃ bn b cap cur, n0 ≤ bn ∧ Blk w bn (itNew x).cells 123 ∧ v = .slice (some ⟨b, 0, none⟩) (ps.length + 1) cap ∧ base ≤ b ∧ Blk w b cur 121 ∧ ps.length + 1 ≤ cap ∧ cap ≤ maxLen ∧ cur.length = cap ∧ cur.take (ps.length + 1) = (ps ++ [bn]).map ptrV ∧ b ≠ B ∧ (∀ i, i < ps.length → b ≠ ps.getD i 0) ∧ b ≠ bn
structure RelN (base B n0 : Nat) (ps : List Nat) (x : En) (w w' : World) : Prop where
  a : ∀ v, NewRec n0 x v w → NewRec n0 x v w'
  l : ∀ v, NewLit n0 x v w → NewLit n0 x v w'
  r : ∀ v, NewRow base B n0 ps x v w → NewRow base B n0 ps x v w'
theorem RelN.of_ext {base B n0 : Nat} {ps : List Nat} {x : En} {w w' : World} (h : Ext w w') : RelN base B n0 ps x w w' :=
  ⟨fun _ ⟨b, h1, h2, h3⟩ => ⟨b, h1, h2, h3.ext h⟩, fun _ ⟨b, c, h1, h2, h3, h4, h5⟩ => ⟨b, c, h1, h2, h3, h4.ext h, h5.ext h⟩,
   fun _ ⟨bn, b, cap, cur, h1, h2, h3, h4, h5, h6⟩ => ⟨bn, b, cap, cur, h1, h2.ext h, h3, h4, h5.ext h, h6⟩⟩
theorem Blk.same {w : World} {b : Nat} {cs cs' : List Value} {t t' : TypeId} (h : Blk w b cs t) (h' : Blk w b cs' t') : cs = cs' := by
  have e2 := h.symm.trans h'
  simp only [Option.some.injEq, Obj.cells.injEq] at e2
  have := congrArg Array.toList e2.1
  simpa using this
/-- What is left as it was behind the append. -/
structure FinS (base : Nat) (rv : Value) (n0 : Nat) (w w3 W : World) : Prop where
  k : ∀ k, k < n0 → rv.ownBlock ≠ some k → W.heap[k]? = w3.heap[k]?
  l : Below base w W
def InvS (base : Nat) (rv : Value) (n0 : Nat) (w w3 : World) : Nat → World → Prop
  | 0, W => Ext w3 W
  | 1, W => Ext w3 W
  | 2, W => Ext w3 W
  | _, W => FinS base rv n0 w w3 W
theorem InvS.blk {base : Nat} {rv : Value} {w w3 : World} {c : Nat} {W : World} (h : InvS base rv w3.heap.size w w3 c W) {b : Nat} {cs : List Value} {t : TypeId} (hB : Blk w3 b cs t) (hne : rv.ownBlock ≠ some b) : Blk W b cs t := by
  match c, h with
  | 0, h => exact Blk.ext hB h
  | 1, h => exact Blk.ext hB h
  | 2, h => exact Blk.ext hB h
  | n + 3, h => exact (h.k b hB.lt hne).trans hB
/-- The append in place. -/
theorem sub_room {base B b bn cap : Nat} {s : St} {ps : List Nat} {x : En} {cur : List Value} {w w3 wx w' : World} (hb : Book base B s (.slice (some ⟨b, 0, none⟩) ps.length cap) ps w3) (hx : Ext w3 wx) (hl : Below base w w3) (hcur : cur.length = cap) (hm : cap ≤ maxLen) (htk : cur.take (ps.length * 1) = ps.map ptrV) (hbb : base ≤ b) (hlt : b < w3.heap.size)
    (hn : w3.heap.size ≤ bn) (hBn : Blk wx bn (itNew x).cells 123) (hroom : ps.length + 1 ≤ cap) (hB0 : Blk wx b cur 121) (hu : Upd b wx w') (hB' : Blk w' b (cur.take (ps.length * 1) ++ [ptrV bn] ++ cur.drop (ps.length * 1 + [ptrV bn].length)) 121) :
    (RelN base B w3.heap.size ps x wx w' ∧ FinS base (.slice (some ⟨b, 0, none⟩) ps.length cap) w3.heap.size w w3 w') ∧ NewRow base B w3.heap.size ps x (.slice (some ⟨b, 0, none⟩) (ps.length + 1) cap) w' := by
  have hB1 : b ≠ B := fun e => hb.hrv (by rw [← e]; rfl)
  have hB2 : ∀ i, i < ps.length → b ≠ ps.getD i 0 := fun i hi e => (hb.hps i hi).2.2 (by rw [← e]; rfl)
  have hpl : (ps.map ptrV).length = ps.length := List.length_map _
  have htake : (cur.take (ps.length * 1) ++ [ptrV bn] ++ cur.drop (ps.length * 1 + [ptrV bn].length)).take (ps.length + 1) = (ps ++ [bn]).map ptrV := by
    rw [htk, List.map_append, List.map_singleton, show ps.length + 1 = (ps.map ptrV ++ [ptrV bn]).length by simp, List.take_left]
  have hlen : (cur.take (ps.length * 1) ++ [ptrV bn] ++ cur.drop (ps.length * 1 + [ptrV bn].length)).length = cap := by
    simp only [List.length_append, List.length_take, List.length_drop, List.length_singleton]; omega
  refine ⟨⟨⟨?_, ?_, ?_⟩, ⟨fun k hk hne => (hu.block k (fun e => hne (by rw [e]; rfl))).trans (hx.block k (Nat.zero_le _) hk), ?_⟩⟩, ?_⟩
  · rintro v ⟨c, h1, h2, h3⟩; exact ⟨c, h1, h2, h3.upd hu (by omega)⟩
  · rintro v ⟨c, c', h1, h2, h3, h4, h5⟩; exact ⟨c, c', h1, h2, h3, h4.upd hu (by omega), h5.upd hu (by omega)⟩
  · rintro v ⟨bn', b', cap', cur', h1, h2, h3, h4, h5, h6, h7, h8, h9, h10, h11, h12⟩
    by_cases e : b' = b
    · subst e
      have ec := Blk.same h5 hB0
      subst ec
      exact ⟨bn, b', cap', _, hn, hBn.upd hu (by omega), h3, h4, hB', h6, h7, by rw [hlen]; omega, htake, h10, h11, by omega⟩
    · exact ⟨bn', b', cap', cur', h1, h2.upd hu (by omega), h3, h4, h5.upd hu e, h6, h7, h8, h9, h10, h11, h12⟩
  · exact below_upd (hl.trans (Ext.to_below hx (by omega))) hu hbb
  · exact ⟨bn, b, cap, _, hn, hBn.upd hu (by omega), rfl, hbb, hB', hroom, hm, hlen, htake, hB1, hB2, by omega⟩
/-- The append into a new block. -/
theorem sub_grow {base B bn : Nat} {s : St} {rv v : Value} {ps : List Nat} {x : En} {w w3 wx w' : World} (hb : Book base B s rv ps w3) (hx : Ext w3 wx) (hl : Below base w w3) (hbw : base ≤ w3.heap.size)
    (hn : w3.heap.size ≤ bn) (hBn : Blk wx bn (itNew x).cells 123) (he : Ext wx w') (hO : w'.ownsRow wx.heap.size 121 1 v (ps.length + 1) (ps.map ptrV ++ [ptrV bn])) :
    (RelN base B w3.heap.size ps x wx w' ∧ FinS base rv w3.heap.size w w3 w') ∧ NewRow base B w3.heap.size ps x v w' := by
  have hsz := hx.size
  have hlt := hBn.lt
  refine ⟨⟨RelN.of_ext he, fun k hk _ => (hx.trans he).block k (Nat.zero_le _) hk, hl.trans (Ext.to_below (hx.trans he) (by omega))⟩, ?_⟩
  rcases hO.2 with ⟨h0, _⟩ | ⟨g, cap, cur, rfl, hbase, hg, hnc, hm, hs, htk⟩
  · omega
  · refine ⟨bn, g, cap, cur.toList, hn, hBn.ext he, rfl, by omega, by unfold Blk; simpa using hg, hnc, hm, by simpa using hs, by simpa using htk, ?_, fun i hi => ?_, by omega⟩
    · have := hb.c.lt; omega
    · have := (hb.rc i hi).lt; omega
end Go.Proofs.YtmnihgcffdmodaaGreatDoor
set_option linter.unusedVariables false
set_option linter.unusedSimpArgs false
set_option maxRecDepth 20000
namespace Go.Proofs.YtmnihgcffdmodaaGreatDoor
open Go Go.E RowKit
attribute [local irreducible] Go.E.T Go.E.L Go.E.O Go.E.Ob

attribute [local irreducible] Go.E.ObX Go.E.ObK
theorem sub_book {base B : Nat} {s : St} {rv v : Value} {ps : List Nat} {x : En} {w w3 W W' : World} (hb : Book base B s rv ps w3) (hbw : base ≤ w3.heap.size) (hF : FinS base rv w3.heap.size w w3 W) (hr : NewRow base B w3.heap.size ps x v W) (hu : Upd B W W') (hB' : Blk W' B [v, .bool s.cl, str s.by'] 88) : ∃ rv' ps', Book base B { s with its := s.its ++ [itNew x] } rv' ps' W' := by
  obtain ⟨bn, b, cap, cur, h1, h2, rfl, h4, h5, h6, h7, h8, h9, h10, h11, h12⟩ := hr
  have hBl := hb.c.lt
  have hlen := hb.len
  have hold : ∀ i, i < ps.length → (ps ++ [bn]).getD i 0 = ps.getD i 0 := fun i hi => by simp [List.getD, List.getElem?_append_left hi]
  have hnew : (ps ++ [bn]).getD ps.length 0 = bn := by simp [List.getD]
  have hl1 : (ps ++ [bn]).length = ps.length + 1 := by simp
  refine ⟨_, ps ++ [bn], hB', ?_, fun i hi => ?_, by simp [hlen], hb.hB, fun i hi => ?_, fun i j hi hj e => ?_, fun e => h10 (by simpa [Value.ownBlock] using e)⟩
  · rw [hl1]
    exact ⟨by simp, .inr ⟨b, cap, cur.toArray, rfl, h4, h5.upd hu h10, h6, h7, by simpa using h8, by simpa using h9⟩⟩
  · by_cases hi2 : i < ps.length
    · rw [hold i hi2, show (s.its ++ [itNew x]).getD i i0 = s.its.getD i i0 from by simp [List.getD, List.getElem?_append_left (show i < s.its.length by omega)]]
      have hp := hb.hps i hi2
      have hr := hb.rc i hi2
      exact Blk.upd ((hF.k _ hr.lt hp.2.2).trans hr) hu hp.2.1
    · have : i = ps.length := by omega
      subst this
      rw [hnew, show (s.its ++ [itNew x]).getD ps.length i0 = itNew x from by rw [hlen]; simp [List.getD]]
      exact h2.upd hu (by omega)
  · by_cases hi2 : i < ps.length
    · rw [hold i hi2]
      have hp := hb.hps i hi2
      exact ⟨hp.1, hp.2.1, fun e => h11 i hi2 (by simpa [Value.ownBlock] using e)⟩
    · have : i = ps.length := by omega
      subst this
      rw [hnew]
      exact ⟨by omega, by omega, fun e => h12 (by simpa [Value.ownBlock] using e)⟩
  · by_cases hi2 : i < ps.length
    · by_cases hj2 : j < ps.length
      · rw [hold i hi2, hold j hj2] at e; exact hb.inj i j hi2 hj2 e
      · have : j = ps.length := by omega
        subst this
        rw [hold i hi2, hnew] at e
        have := (hb.rc i hi2).lt; omega
    · have : i = ps.length := by omega
      subst this
      by_cases hj2 : j < ps.length
      · rw [hold j hj2, hnew] at e
        have := (hb.rc j hj2).lt; omega
      · omega
theorem submit_calls (base B : Nat) (s : St) (rv : Value) (ps : List Nat) (x : En) (w : World) (hb : Book base B s rv ps w) (hw : base ≤ w.heap.size) (hk : x.k = 1) (hlen : ps.length ≤ 100000) :
    Calls Tryz.prog 87 #[.pointer (some ⟨B, 0, none⟩), x.val] w (Ret fun v w' => BStep base B s x w v w') := by
  refine T.enter (vs := [.pointer (some ⟨B, 0, none⟩), x.val]) Tryz.func87 rfl Tryz.ntmps87 rfl ?_
  refine T.seq (T.region (L.op rfl rfl (O.box rfl (fun b3 w3 hb3 hz3 he3 hB3 => ?_))))
  have hE3 : Blk w3 b3 x.cells 42 := hB3
  have hb3' := hb.ext he3
  have hl3 := Ext.to_below he3 hw
  have hbw : base ≤ w3.heap.size := by omega
  have hne3 : rv.ownBlock ≠ some b3 := fun e => by have := (hb.own.lt _ e).2; omega
  rcases hc : s.cl with _ | _
  · refine L.op rfl rfl (O.assign rfl (?_))
    by_cases hf : findK s.its x.item < s.its.length
    · refine L.nil (T.seq (T.seq (T.region (L.op rfl rfl (O.move rfl (L.op rfl rfl (O.nilCheck rfl (L.op rfl rfl (O.fieldAddr Tryz.runUnderlying88 rfl Tryz.sizeOf4 rfl (L.op rfl rfl (O.load Tryz.isAgg4 rfl (hb3'.c.cell (i := 1) (v := .bool false) (by rw [← hc]; rfl)) (L.op rfl rfl (O.move rfl (L.op rfl rfl (O.move rfl (L.op rfl rfl (O.fieldAddr Tryz.runUnderlying42 rfl Tryz.sizeOf9 rfl (L.op rfl rfl (O.load Tryz.isAgg9 rfl (hE3.cell rfl) (L.op rfl rfl (O.call (xs := [.tmp 10, .tmp 12]) Tryz.call124 rfl rfl (find_calls base B s rv ps x.item w3 hb3') (fun v13 w13 hq => ?_))))))))))))))))))))))
      obtain ⟨hv13, rfl⟩ := hq
      rw [findP_yes hf] at hv13
      subst hv13
      refine L.op rfl rfl (O.neq_nilp ptr121 rfl rfl (L.op rfl rfl (O.pick_false rfl rfl (L.nil (T.cond_true rfl (T.seq (T.region (L.op rfl rfl (O.assign rfl (L.nil (T.ret1 Tryz.results87 rfl (BStep.no (by rw [stepE, if_neg (by omega), if_pos hk, if_pos (.inr hf)]) hl3))))))))))))
    · refine L.nil (T.seq (T.seq (T.region (L.op rfl rfl (O.move rfl (L.op rfl rfl (O.nilCheck rfl (L.op rfl rfl (O.fieldAddr Tryz.runUnderlying88 rfl Tryz.sizeOf4 rfl (L.op rfl rfl (O.load Tryz.isAgg4 rfl (hb3'.c.cell (i := 1) (v := .bool false) (by rw [← hc]; rfl)) (L.op rfl rfl (O.move rfl (L.op rfl rfl (O.move rfl (L.op rfl rfl (O.fieldAddr Tryz.runUnderlying42 rfl Tryz.sizeOf9 rfl (L.op rfl rfl (O.load Tryz.isAgg9 rfl (hE3.cell rfl) (L.op rfl rfl (O.call (xs := [.tmp 10, .tmp 12]) Tryz.call124 rfl rfl (find_calls base B s rv ps x.item w3 hb3') (fun v13 w13 hq => ?_))))))))))))))))))))))
      obtain ⟨hv13, rfl⟩ := hq
      rw [findP_no hf] at hv13
      subst hv13
      refine L.op rfl rfl (O.neq_nilp ptr121 rfl rfl (?_))
      have hst : stepE s x = some { s with its := s.its ++ [itNew x] } := by rw [stepE, if_neg (by omega), if_pos hk, if_neg (by rw [hc]; simp [hf])]
      rcases hb3'.own.2 with ⟨h0, hn0⟩ | ⟨g, cap, cur, hrv, hbg, hg, hnc, hcm, hcs, htk⟩
      · subst h0
        refine L.op rfl rfl (O.pick_false rfl rfl (L.nil (T.cond_false rfl (T.skip (T.seq (?_))))))
        refine T.any mixed 16 3 [0, 3] rfl [.is _, .is _, .is _, .is _, .is _, .is _, .is _, .is _, .is _, .is _, .is _, .is _, .is _, .such (NewRec w13.heap.size x), .such (NewLit w13.heap.size x), .such (NewRow base B w13.heap.size ps x)] [[], [], [1], [2], [3], [], [5], [], [7], [], [9], [6, 8, 10], [11], [12], [13], [4, 14]] [none, none, none, none, none, none, none, none, none, none, none, none, none, some 0, some 1, some 2] [[], [], [1], [1, 2], [1, 2, 3], [], [5], [], [7], [], [9], [5, 6, 7, 8, 9, 10], [5, 6, 7, 8, 9, 10, 11], [5, 6, 7, 8, 9, 10, 11, 12], [5, 6, 7, 8, 9, 10, 11, 12, 13], [1, 2, 3, 4, 5, 6, 7, 8, 9, 10, 11, 12, 13, 14], [0, 1, 2, 3, 4, 5, 6, 7, 8, 9, 10, 11, 12, 13, 14, 15], [0, 1, 2, 3, 4, 5, 6, 7, 8, 9, 10, 11, 12, 13, 14, 15, 16], [0, 1, 2, 3, 4, 5, 6, 7, 8, 9, 10, 11, 12, 13, 14, 15, 16, 17]] (InvS base (.slice none 0 0) w13.heap.size w w13) (RelN base B w13.heap.size ps x) (by kernel_rfl) (by kernel_rfl) (by kernel_rfl) rfl ⟨fun _ _ _ h hm => h.a _ hm, fun _ _ _ h hm => h.l _ hm, fun _ _ _ h hm => h.r _ hm, trivial⟩ (Keep.drew _ _) ⟨fun c wx hx => ObK.op rfl (O.move rfl ⟨⟨RelN.of_ext (Keep.refl _ _), hx⟩, rfl⟩),
            fun c wx hx => ObK.op rfl (O.move rfl ⟨⟨RelN.of_ext (Keep.refl _ _), hx⟩, rfl⟩),
            fun c wx hx => ObK.op rfl (O.nilCheck rfl ⟨⟨RelN.of_ext (Keep.refl _ _), hx⟩, rfl⟩),
            fun c wx hx => ObK.op rfl (O.fieldAddr Tryz.runUnderlying88 rfl Tryz.sizeOf86 rfl ⟨⟨RelN.of_ext (Keep.refl _ _), hx⟩, rfl⟩),
            fun c wx hx => ObK.op rfl (O.load Tryz.isAgg86 rfl ((hx.blk hb3'.c hb3'.hrv).cell rfl) ⟨⟨RelN.of_ext (Keep.refl _ _), hx⟩, rfl⟩),
            fun c wx hx => ObK.op rfl (O.fieldAddr Tryz.runUnderlying42 rfl Tryz.sizeOf9 rfl ⟨⟨RelN.of_ext (Keep.refl _ _), hx⟩, rfl⟩),
            fun c wx hx => ObK.op rfl (O.load Tryz.isAgg9 rfl ((hx.blk hE3 hne3).cell rfl) ⟨⟨RelN.of_ext (Keep.refl _ _), hx⟩, rfl⟩),
            fun c wx hx => ObK.op rfl (O.fieldAddr Tryz.runUnderlying42 rfl Tryz.sizeOf9 rfl ⟨⟨RelN.of_ext (Keep.refl _ _), hx⟩, rfl⟩),
            fun c wx hx => ObK.op rfl (O.load Tryz.isAgg9 rfl ((hx.blk hE3 hne3).cell rfl) ⟨⟨RelN.of_ext (Keep.refl _ _), hx⟩, rfl⟩),
            fun c wx hx => ObK.op rfl (O.fieldAddr Tryz.runUnderlying42 rfl Tryz.sizeOf25 rfl ⟨⟨RelN.of_ext (Keep.refl _ _), hx⟩, rfl⟩),
            fun c wx hx => ObK.op rfl (O.load Tryz.isAgg25 rfl ((hx.blk hE3 hne3).cell rfl) ⟨⟨RelN.of_ext (Keep.refl _ _), hx⟩, rfl⟩),
            fun c wx hx => ObK.op rfl (O.build (v := (itNew x).val) (parts := [(0, .tmp 22), (1, .tmp 24), (2, .const (.int .i64 1)), (3, .tmp 26)]) (vs := [(0, _), (1, _), (2, _), (3, _)]) rfl (fun w => by kernel_rfl) ⟨⟨RelN.of_ext (Keep.refl _ _), hx⟩, rfl⟩),
            fun c wx hx => ObK.op rfl (O.build (v := (itNew x).val) (parts := [(0, .tmp 27)]) (vs := [(0, _)]) rfl (fun w => by kernel_rfl) ⟨⟨RelN.of_ext (Keep.refl _ _), hx⟩, rfl⟩),
            fun wx hx => ObK.op rfl (O.box rfl (fun b29 w29 hb29 hz29 he29 hB29 => ⟨⟨RelN.of_ext he29, (show Ext w13 wx from hx).trans he29⟩, b29, rfl, by have := (show Ext w13 wx from hx).size; omega, hB29⟩)),
            fun wx hx v29 hv29 => by { obtain ⟨bn, rfl, hbn, hBn⟩ := hv29; exact ObK.op rfl (O.buildSlice (el := 121) (parts := [(0, .tmp 29)]) (vs := [(0, _)]) (cs := [ptrV bn]) rfl (fun w => by kernel_rfl) (fun b30 w30 hb30 hz30 he30 hB30 => ⟨⟨RelN.of_ext he30, (show Ext w13 wx from hx).trans he30⟩, bn, b30, rfl, hbn, by have := (show Ext w13 wx from hx).size; omega, hBn.ext he30, hB30⟩)) },
            fun wx hx v30 hv30 => by { obtain ⟨bn, bc, rfl, hbn, hbc, hBn, hBc⟩ := hv30; exact ObK.op rfl (O.append (size := 1) (bytes := 8) Tryz.runUnderlying86 Tryz.infoOf121 rfl rfl rfl rfl (by decide) rfl rfl (owns_nil wx wx.heap.size 121 1) (Sl.of_blk (lo := 0) (n := 1) (sz := 1) hBc rfl (Nat.le_refl 1) (by decide) (Nat.zero_le _)) (by intro u hu; simp [ptrV] at hu; subst hu; rfl) (by omega) (by simp only [maxLen]; omega) (Nat.le_refl _) (fun v31 w31 hO31 hG31 => sub_grow hb3' (show Ext w13 wx from hx) hl3 hbw hbn hBn (Keep.grown (Keep.refl _ _) hG31 (fun j hj => by cases hj)) (by rw [hn0]; have h := hO31; rw [show ps.map ptrV = [] from by rw [List.length_eq_zero_iff.1 hn0]; rfl]; simpa using h))) },
            trivial⟩ (fun w16 hI16 v29 hv29 v30 hv30 v31 hv31 => ?_)
        have hF16 : FinS base (.slice none 0 0) w13.heap.size w w13 w16 := hI16
        have hC16 : Blk w16 B _ 88 := (hF16.k B hb3'.c.lt hb3'.hrv).trans hb3'.c
        have h31 : v31.oneCell' = true := by obtain ⟨_, _, _, _, _, _, rfl, _⟩ := hv31; rfl
        refine L.op rfl rfl (O.nilCheck rfl (L.op rfl rfl (O.fieldAddr Tryz.runUnderlying88 rfl Tryz.sizeOf86 rfl (L.op rfl rfl (O.store1 Tryz.sizeOf86 h31 rfl rfl hC16 (by simp) (fun w17 hu17 hB17 => ?_))))))
        obtain ⟨rv', ps', hbk⟩ := sub_book hb3' hbw hF16 hv31 hu17 hB17
        refine L.nil (T.seq (T.region (L.op rfl rfl (O.assign rfl (L.nil (T.ret1 Tryz.results87 rfl (BStep.yes hst (below_upd hF16.l hu17 hb.hB) hbk)))))))
      · subst hrv
        have hBg : Blk w13 g cur.toList 121 := by unfold Blk; simpa using hg
        refine L.op rfl rfl (O.pick_false rfl rfl (L.nil (T.cond_false rfl (T.skip (T.seq (?_))))))
        refine T.any mixed 16 3 [0, 3] rfl [.is _, .is _, .is _, .is _, .is _, .is _, .is _, .is _, .is _, .is _, .is _, .is _, .is _, .such (NewRec w13.heap.size x), .such (NewLit w13.heap.size x), .such (NewRow base B w13.heap.size ps x)] [[], [], [1], [2], [3], [], [5], [], [7], [], [9], [6, 8, 10], [11], [12], [13], [4, 14]] [none, none, none, none, none, none, none, none, none, none, none, none, none, some 0, some 1, some 2] [[], [], [1], [1, 2], [1, 2, 3], [], [5], [], [7], [], [9], [5, 6, 7, 8, 9, 10], [5, 6, 7, 8, 9, 10, 11], [5, 6, 7, 8, 9, 10, 11, 12], [5, 6, 7, 8, 9, 10, 11, 12, 13], [1, 2, 3, 4, 5, 6, 7, 8, 9, 10, 11, 12, 13, 14], [0, 1, 2, 3, 4, 5, 6, 7, 8, 9, 10, 11, 12, 13, 14, 15], [0, 1, 2, 3, 4, 5, 6, 7, 8, 9, 10, 11, 12, 13, 14, 15, 16], [0, 1, 2, 3, 4, 5, 6, 7, 8, 9, 10, 11, 12, 13, 14, 15, 16, 17]] (InvS base (.slice (some ⟨g, 0, none⟩) ps.length cap) w13.heap.size w w13) (RelN base B w13.heap.size ps x) (by kernel_rfl) (by kernel_rfl) (by kernel_rfl) rfl ⟨fun _ _ _ h hm => h.a _ hm, fun _ _ _ h hm => h.l _ hm, fun _ _ _ h hm => h.r _ hm, trivial⟩ (Keep.drew _ _) ⟨fun c wx hx => ObK.op rfl (O.move rfl ⟨⟨RelN.of_ext (Keep.refl _ _), hx⟩, rfl⟩),
            fun c wx hx => ObK.op rfl (O.move rfl ⟨⟨RelN.of_ext (Keep.refl _ _), hx⟩, rfl⟩),
            fun c wx hx => ObK.op rfl (O.nilCheck rfl ⟨⟨RelN.of_ext (Keep.refl _ _), hx⟩, rfl⟩),
            fun c wx hx => ObK.op rfl (O.fieldAddr Tryz.runUnderlying88 rfl Tryz.sizeOf86 rfl ⟨⟨RelN.of_ext (Keep.refl _ _), hx⟩, rfl⟩),
            fun c wx hx => ObK.op rfl (O.load Tryz.isAgg86 rfl ((hx.blk hb3'.c hb3'.hrv).cell rfl) ⟨⟨RelN.of_ext (Keep.refl _ _), hx⟩, rfl⟩),
            fun c wx hx => ObK.op rfl (O.fieldAddr Tryz.runUnderlying42 rfl Tryz.sizeOf9 rfl ⟨⟨RelN.of_ext (Keep.refl _ _), hx⟩, rfl⟩),
            fun c wx hx => ObK.op rfl (O.load Tryz.isAgg9 rfl ((hx.blk hE3 hne3).cell rfl) ⟨⟨RelN.of_ext (Keep.refl _ _), hx⟩, rfl⟩),
            fun c wx hx => ObK.op rfl (O.fieldAddr Tryz.runUnderlying42 rfl Tryz.sizeOf9 rfl ⟨⟨RelN.of_ext (Keep.refl _ _), hx⟩, rfl⟩),
            fun c wx hx => ObK.op rfl (O.load Tryz.isAgg9 rfl ((hx.blk hE3 hne3).cell rfl) ⟨⟨RelN.of_ext (Keep.refl _ _), hx⟩, rfl⟩),
            fun c wx hx => ObK.op rfl (O.fieldAddr Tryz.runUnderlying42 rfl Tryz.sizeOf25 rfl ⟨⟨RelN.of_ext (Keep.refl _ _), hx⟩, rfl⟩),
            fun c wx hx => ObK.op rfl (O.load Tryz.isAgg25 rfl ((hx.blk hE3 hne3).cell rfl) ⟨⟨RelN.of_ext (Keep.refl _ _), hx⟩, rfl⟩),
            fun c wx hx => ObK.op rfl (O.build (v := (itNew x).val) (parts := [(0, .tmp 22), (1, .tmp 24), (2, .const (.int .i64 1)), (3, .tmp 26)]) (vs := [(0, _), (1, _), (2, _), (3, _)]) rfl (fun w => by kernel_rfl) ⟨⟨RelN.of_ext (Keep.refl _ _), hx⟩, rfl⟩),
            fun c wx hx => ObK.op rfl (O.build (v := (itNew x).val) (parts := [(0, .tmp 27)]) (vs := [(0, _)]) rfl (fun w => by kernel_rfl) ⟨⟨RelN.of_ext (Keep.refl _ _), hx⟩, rfl⟩),
            fun wx hx => ObK.op rfl (O.box rfl (fun b29 w29 hb29 hz29 he29 hB29 => ⟨⟨RelN.of_ext he29, (show Ext w13 wx from hx).trans he29⟩, b29, rfl, by have := (show Ext w13 wx from hx).size; omega, hB29⟩)),
            fun wx hx v29 hv29 => by { obtain ⟨bn, rfl, hbn, hBn⟩ := hv29; exact ObK.op rfl (O.buildSlice (el := 121) (parts := [(0, .tmp 29)]) (vs := [(0, _)]) (cs := [ptrV bn]) rfl (fun w => by kernel_rfl) (fun b30 w30 hb30 hz30 he30 hB30 => ⟨⟨RelN.of_ext he30, (show Ext w13 wx from hx).trans he30⟩, bn, b30, rfl, hbn, by have := (show Ext w13 wx from hx).size; omega, hBn.ext he30, hB30⟩)) },
            fun wx hx v30 hv30 => by { obtain ⟨bn, bc, rfl, hbn, hbc, hBn, hBc⟩ := hv30; exact ObK.op rfl (O.append2 (size := 1) (bytes := 8) Tryz.runUnderlying86 Tryz.infoOf121 rfl rfl rfl rfl (by decide) rfl rfl (Blk.ext hBg (show Ext w13 wx from hx)) (Sl.of_blk (lo := 0) (n := 1) (sz := 1) hBc rfl (Nat.le_refl 1) (by decide) (Nat.zero_le _)) (by intro u hu; simp [ptrV] at hu; subst hu; rfl) hnc hcm (by simpa using hcs) (by simp only [maxLen]; omega) (by omega) (fun w' hrm hu hB ↦ sub_room hb3' (show Ext w13 wx from hx) hl3 (by simpa using hcs) hcm htk hbg hBg.lt hbn hBn hrm (Blk.ext hBg (show Ext w13 wx from hx)) hu hB) (fun v31 w31 he31 hO31 => sub_grow hb3' (show Ext w13 wx from hx) hl3 hbw hbn hBn he31 (by rw [htk] at hO31; exact hO31))) },
            trivial⟩ (fun w16 hI16 v29 hv29 v30 hv30 v31 hv31 => ?_)
        have hF16 : FinS base (.slice (some ⟨g, 0, none⟩) ps.length cap) w13.heap.size w w13 w16 := hI16
        have hC16 : Blk w16 B _ 88 := (hF16.k B hb3'.c.lt hb3'.hrv).trans hb3'.c
        have h31 : v31.oneCell' = true := by obtain ⟨_, _, _, _, _, _, rfl, _⟩ := hv31; rfl
        refine L.op rfl rfl (O.nilCheck rfl (L.op rfl rfl (O.fieldAddr Tryz.runUnderlying88 rfl Tryz.sizeOf86 rfl (L.op rfl rfl (O.store1 Tryz.sizeOf86 h31 rfl rfl hC16 (by simp) (fun w17 hu17 hB17 => ?_))))))
        obtain ⟨rv', ps', hbk⟩ := sub_book hb3' hbw hF16 hv31 hu17 hB17
        refine L.nil (T.seq (T.region (L.op rfl rfl (O.assign rfl (L.nil (T.ret1 Tryz.results87 rfl (BStep.yes hst (below_upd hF16.l hu17 hb.hB) hbk)))))))
  · refine L.op rfl rfl (O.assign rfl (L.nil (T.seq (T.seq (T.region (L.op rfl rfl (O.move rfl (L.op rfl rfl (O.nilCheck rfl (L.op rfl rfl (O.fieldAddr Tryz.runUnderlying88 rfl Tryz.sizeOf4 rfl (L.op rfl rfl (O.load Tryz.isAgg4 rfl (hb3'.c.cell (i := 1) (v := .bool true) (by rw [← hc]; rfl)) (L.op rfl rfl (O.move rfl (L.pass rfl rfl (L.pass rfl rfl (L.pass rfl rfl (L.pass rfl rfl (L.pass rfl rfl (L.op rfl rfl (O.pick_true rfl rfl (L.nil (T.cond_true rfl (T.seq (T.region (L.op rfl rfl (O.assign rfl (L.nil (T.ret1 Tryz.results87 rfl (BStep.no (by rw [stepE, if_neg (by omega), if_pos hk, if_pos (.inl hc)]) hl3)))))))))))))))))))))))))))))))

end Go.Proofs.YtmnihgcffdmodaaGreatDoor
set_option linter.unusedVariables false
set_option linter.unusedSimpArgs false
set_option maxRecDepth 20000
namespace Go.Proofs.YtmnihgcffdmodaaGreatDoor
open Go Go.E RowKit
attribute [local irreducible] Go.E.T Go.E.L Go.E.O Go.E.Ob

attribute [local irreducible] Go.E.ObX Go.E.ObK
section maps
variable {α β : Type} [DecidableEq α] {kf : α → Value} {vf : β → Value} {kd : TypeDesc}
variable {C : Cx} {e : Env} {w : World} {K : Value → World → Prop} {d : Option Tmp} {ty : TypeId} {pos : String} {aft : Array Edge} {g : Option (Nat × Bool)}
variable {x y z : Operand} {t kt vt : TypeId}
theorem O.insertG {b : Nat} {k : α} {v : β} {kvs : List (α × β)} (hK : Key kf kd) (hu : ∀ w, (underlying t).run C.P w = .ok (.map kt vt) w) (hk : ∀ w, (underlying kt).run C.P w = .ok kd w)
    (hx : ev e x = some (.map (some b))) (hy : ev e y = some (kf k)) (hz : ev e z = some (vf v)) (hm : MapG kf vf w b kvs) (h : ∀ w', Upd b w w' → MapG kf vf w' b (putG kvs k v) → K undef w') : O C e ⟨d, .insert t x y z, ty, pos, aft, g⟩ w K := by
  have hf := run_findKey_g (vf := vf) hK (underlying_of hk) k kvs w
  have hlt := hm.lt
  cases hc : findG kvs k 0 with
  | none =>
    rw [hc] at hf
    refine O.of_skip (w' := { w with heap := w.heap.setIfInBounds b (.map ((gEs kf vf 0 kvs).toArray.push { key := kf k, val := vf v, born := kvs.length }) (kvs.length + 1)) }) (by simp) (fun a ha => by
      simp [execOp, Instr.mapUpdate, ha.eval hx, ha.eval hy, ha.eval hz, hu w, MapKept.run_getObj_map hm, hK.check _ _ _ _ _ (underlying_of hk), hf, MapKept.run_setObj_map _ hm]) (h _ ?_ ?_)
    · exact upd_putObj w b _
    · have e : putG kvs k v = kvs ++ [(k, v)] := by rw [putG, hc]
      unfold MapG
      rw [e, gEs_snoc, Array.getElem?_setIfInBounds_self]
      simp [hlt, gE]
  | some p =>
    rw [hc] at hf
    obtain ⟨_, hg⟩ := findG_get kvs k 0 (i := p.1) (v := p.2) hc
    rw [Nat.sub_zero] at hg
    have hes : (gEs kf vf 0 kvs).toArray[p.1]? = some (gE kf vf (k, p.2) p.1) := by simp [gEs_get, hg]
    have hmod := gEs_modify (kf := kf) (vf := vf) kvs p.1 (k, v) (fun e => { e with key := kf k, val := vf v }) (fun q _ => rfl)
    refine O.of_skip (w' := { w with heap := w.heap.setIfInBounds b (.map ((gEs kf vf 0 kvs).toArray.modify p.1 fun e => { e with key := kf k, val := vf v }) kvs.length) }) (by simp) (fun a ha => by
      have hst := hK.stays C.P k w
      simp only [execOp, Instr.mapUpdate, ha.eval hx, ha.eval hy, ha.eval hz, Sem.run_bind, hu w, Result.andThen_ok, MapKept.run_getObj_map hm, hK.check _ _ _ _ _ (underlying_of hk), hf, Option.map_some]
      rw [hes]
      simp [gE, hst, MapKept.run_setObj_map _ hm]) (h _ ?_ ?_)
    · exact upd_putObj w b _
    · have e : putG kvs k v = kvs.set p.1 (k, v) := by rw [putG, hc]
      unfold MapG
      rw [hmod, e, Array.getElem?_setIfInBounds_self]
      simp [hlt]
end maps
/-- Functions, or none. -/
def fnV : Option Nat → Value
  | none => .nilFunc
  | some g => .func (.func g) #[] #[]
def stepFns : List (Int × Option Nat) := [(1, some 87), (2, some 88), (3, some 89), (4, some 90), (5, some 91)]
theorem step_calls (base B : Nat) (s : St) (rv : Value) (ps : List Nat) (x : En) (w : World) (hb : Book base B s rv ps w) (hw : base ≤ w.heap.size) (hk : 1 ≤ x.k ∧ x.k ≤ 5) (hlen : ps.length ≤ 100000) (hxo : x.ok) (hL : LibM w) :
    Calls Tryz.prog 52 #[.pointer (some ⟨B, 0, none⟩), x.val] w (Ret fun v w' => BStep base B s x w v w') := by
  refine T.enter (vs := [.pointer (some ⟨B, 0, none⟩), x.val]) Tryz.func52 rfl Tryz.ntmps52 rfl ?_
  refine T.seq (T.region (L.op rfl rfl (O.box rfl (fun b3 w3 hb3 hz3 he3 hB3 => ?_))))
  have hE3 : Blk w3 b3 x.cells 42 := hB3
  refine L.op rfl rfl (O.assign rfl (L.nil (T.seq (T.region (L.op rfl rfl (O.makeMapG (kf := (Value.int .i64)) (vf := fnV) (fun b6 w6 hb6 hz6 he6 hM6 => ?_)))))))
  refine L.op rfl rfl (O.insertG (kf := (Value.int .i64)) (vf := fnV) (v := (some 87)) (key_int _) Tryz.runUnderlying127 Tryz.runUnderlying3 rfl rfl rfl hM6 (fun w7 hu7 hM7 => ?_))
  refine L.op rfl rfl (O.insertG (kf := (Value.int .i64)) (vf := fnV) (v := (some 88)) (key_int _) Tryz.runUnderlying127 Tryz.runUnderlying3 rfl rfl rfl hM7 (fun w8 hu8 hM8 => ?_))
  refine L.op rfl rfl (O.insertG (kf := (Value.int .i64)) (vf := fnV) (v := (some 89)) (key_int _) Tryz.runUnderlying127 Tryz.runUnderlying3 rfl rfl rfl hM8 (fun w9 hu9 hM9 => ?_))
  refine L.op rfl rfl (O.insertG (kf := (Value.int .i64)) (vf := fnV) (v := (some 90)) (key_int _) Tryz.runUnderlying127 Tryz.runUnderlying3 rfl rfl rfl hM9 (fun w10 hu10 hM10 => ?_))
  refine L.op rfl rfl (O.insertG (kf := (Value.int .i64)) (vf := fnV) (v := (some 91)) (key_int _) Tryz.runUnderlying127 Tryz.runUnderlying3 rfl rfl rfl hM10 (fun w11 hu11 hM11 => ?_))
  have hu7 : Upd b6 _ _ := hu7
  have he11 : Ext w3 w11 := ((((he6.upd hu7 (.inr (by omega))).upd hu8 (.inr (by omega))).upd hu9 (.inr (by omega))).upd hu10 (.inr (by omega))).upd hu11 (.inr (by omega))
  have hM : MapG (Value.int .i64) fnV w11 b6 stepFns := hM11
  have he011 := he3.trans he11
  have hb11 := hb.ext he011
  have hL11 := hL.ext he011
  have hE11 := hE3.ext he11
  have hw11 : base ≤ w11.heap.size := Nat.le_trans hw he011.size
  have hl11 := Ext.to_below he011 hw
  have hfin : ∀ v w', BStep base B s x w11 v w' → BStep base B s x w v w' := fun v w' h => ⟨h.1, hl11.trans h.2.1, h.2.2⟩
  refine L.op rfl rfl (O.move rfl (L.op rfl rfl (O.assign rfl (L.nil (T.seq (T.region (L.op rfl rfl (O.move rfl (L.op rfl rfl (O.fieldAddr Tryz.runUnderlying42 rfl Tryz.sizeOf3 rfl (L.op rfl rfl (O.load Tryz.isAgg3 rfl (hE11.cell rfl) (L.op rfl rfl (O.lookupG (kf := (Value.int .i64)) (vf := fnV) (z0 := none) (key_int _) Tryz.runUnderlying127 Tryz.runUnderlying3 Tryz.zeroValue126 rfl rfl hM (L.op rfl rfl (O.move rfl (L.op rfl rfl (O.loadAgg Tryz.isAgg42 Tryz.sizeOf42 rfl rfl hE11.row (?_)))))))))))))))))))
  rcases (show x.k = 1 ∨ x.k = 2 ∨ x.k = 3 ∨ x.k = 4 ∨ x.k = 5 by omega) with h | h | h | h | h
  · rw [h]
    refine L.op rfl rfl (O.call (xs := [.tmp 12, .tmp 13]) Tryz.call87 rfl rfl (submit_calls base B s rv ps x w11 hb11 hw11 h hlen) (fun v12 w12 hq => ?_))
    obtain ⟨h12a, h12b, h12c⟩ := hq
    refine L.op rfl rfl (O.assign rfl (L.nil (T.ret1 Tryz.results52 rfl (hfin _ _ ⟨h12a, h12b, h12c⟩))))
  · rw [h]
    refine L.op rfl rfl (O.call (xs := [.tmp 12, .tmp 13]) Tryz.call88 rfl rfl (revise_calls base B s rv ps x w11 hb11 hw11 h) (fun v12 w12 hq => ?_))
    obtain ⟨h12a, h12b, h12c⟩ := hq
    refine L.op rfl rfl (O.assign rfl (L.nil (T.ret1 Tryz.results52 rfl (hfin _ _ ⟨h12a, h12b, h12c⟩))))
  · rw [h]
    refine L.op rfl rfl (O.call (xs := [.tmp 12, .tmp 13]) Tryz.call89 rfl rfl (withdraw_calls base B s rv ps x w11 hb11 hw11 h) (fun v12 w12 hq => ?_))
    obtain ⟨h12a, h12b, h12c⟩ := hq
    refine L.op rfl rfl (O.assign rfl (L.nil (T.ret1 Tryz.results52 rfl (hfin _ _ ⟨h12a, h12b, h12c⟩))))
  · rw [h]
    refine L.op rfl rfl (O.call (xs := [.tmp 12, .tmp 13]) Tryz.call90 rfl rfl (shut_calls base B s rv ps x w11 hb11 hw11 h) (fun v12 w12 hq => ?_))
    obtain ⟨h12a, h12b, h12c⟩ := hq
    refine L.op rfl rfl (O.assign rfl (L.nil (T.ret1 Tryz.results52 rfl (hfin _ _ ⟨h12a, h12b, h12c⟩))))
  · rw [h]
    refine L.op rfl rfl (O.call (xs := [.tmp 12, .tmp 13]) Tryz.call91 rfl rfl (open_calls base B s rv ps x w11 hb11 hw11 h hxo hL11) (fun v12 w12 hq => ?_))
    obtain ⟨h12a, h12b, h12c⟩ := hq
    refine L.op rfl rfl (O.assign rfl (L.nil (T.ret1 Tryz.results52 rfl (hfin _ _ ⟨h12a, h12b, h12c⟩))))

end Go.Proofs.YtmnihgcffdmodaaGreatDoor
set_option linter.unusedVariables false
set_option linter.unusedSimpArgs false
set_option maxRecDepth 20000
namespace Go.Proofs.YtmnihgcffdmodaaGreatDoor
open Go Go.E RowKit
attribute [local irreducible] Go.E.T Go.E.L Go.E.O Go.E.Ob

attribute [local irreducible] Go.E.ObX Go.E.ObK
theorem T.ret3 {k : List E.It} {e : Env} {w : World} {P : Program} {fn : Func} {n : Nat} {R : Value → World → Prop} {s1 s2 s3 : Tmp} {v1 v2 v3 : Value} (hres : fn.results = #[.tmp s1, .tmp s2, .tmp s3])
    (h1 : E.look e s1 = some v1) (h2 : E.look e s2 = some v2) (h3 : E.look e s3 = some v3) (h : R (.tuple #[v1, v2, v3]) w) : T (fnCx P fn n R) (.code .ret :: k) e w :=
  T.ret fun a ha => bodyPost_ret (v := .tuple #[v1, v2, v3]) (by
    have e1 := ha.sat.get s1 _ h1
    have e2 := ha.sat.get s2 _ h2
    have e3 := ha.sat.get s3 _ h3
    simp [results, hres, Array.getD_eq_getD_getElem?, e1, e2, e3]) ha.defers h
/-- What replay gives. -/
structure RepPost (xs : List En) (w : World) (v : Value) (w' : World) : Prop where
  e : Ext w w'
  y : (replayR xs).2.2 = 0 → ∃ B rv ps, v = .tuple #[ptrV B, .int .i64 0, .int .i64 0] ∧ Book w.heap.size B (replayR xs).1 rv ps w'
  n : ¬ (replayR xs).2.2 = 0 → v = .tuple #[.pointer none, .int .i64 (replayR xs).2.1, .int .i64 (replayR xs).2.2]
def bkZ : List Value := [.slice none 0 0, .bool false, str []]
theorem Book.start {w : World} {base b : Nat} (h : Blk w b bkZ 88) (hb : base ≤ b) : Book base b s0 (.slice none 0 0) [] w :=
  ⟨h, owns_nil _ _ _ _, fun i hi => absurd hi (Nat.not_lt_zero _), rfl, hb, fun i hi => absurd hi (Nat.not_lt_zero _), fun i _ hi => absurd hi (Nat.not_lt_zero _), fun e => by simp [Value.ownBlock] at e⟩
theorem replay_calls (lo : Nat) (p : Value) (xs : List En) (w : World) (hp : Ens lo w p xs) (hxs : AllOk xs) (hL : LibM w) :
    Calls Tryz.prog 47 #[p] w (Ret fun v w' => RepPost xs w v w') := by
  have hle := Sl.le hp
  refine T.enter (vs := [p]) Tryz.func47 rfl Tryz.ntmps47 rfl ?_
  refine T.seq (T.region (L.op rfl rfl (O.assign rfl (L.op rfl rfl (O.assign rfl (L.op rfl rfl (O.assign rfl (L.nil (T.seq (T.seq (T.region (L.op rfl rfl (O.move rfl (L.op rfl rfl (O.call (xs := [.tmp 9]) Tryz.call28 rfl rfl (check_calls lo p xs w hp hxs) (fun v5 w5 hq => ?_))))))))))))))))
  obtain ⟨rfl, he5⟩ := hq
  refine L.op rfl rfl (O.assign rfl (L.nil (T.seq (T.region (L.op rfl rfl (O.move rfl (L.op rfl rfl (O.neq_s rfl rfl (fun hc => ?_) (fun hc => ?_)))))))))
  · refine L.nil (?_)
    have hrep : replayR xs = (s0, 0, checkE xs) := by rw [replayR, if_neg hc]
    refine T.cond_true rfl (T.seq (T.region (L.op rfl rfl (O.move rfl (L.op rfl rfl (O.assign rfl (L.op rfl rfl (O.assign rfl (L.op rfl rfl (O.assign rfl (L.nil (T.ret3 Tryz.results47 rfl rfl rfl ⟨he5, fun h => absurd (by rw [hrep] at h; exact h) hc, fun _ => by rw [hrep]⟩))))))))))))
  · refine L.nil (?_)
    have hcr := check_right hc
    refine T.cond_false rfl (T.skip (T.seq (T.region (L.op rfl rfl (O.build (v := .agg bkZ.toArray) (parts := []) (vs := []) rfl (fun w => by kernel_rfl) (L.op rfl rfl (O.box rfl (fun b6 w6 hb6 hz6 he6 hB6 => ?_))))))))
    have hS6 : Blk w6 b6 bkZ 88 := hB6
    have he06 := he5.trans he6
    have hp6 := hp.ext he06
    have hb6' : w.heap.size ≤ b6 := by have := he5.size; omega
    refine L.op rfl rfl (O.assign rfl (L.nil (T.seq (T.seq (T.region (L.op rfl rfl (O.move rfl (L.op rfl rfl (O.len Tryz.runUnderlying27 rfl (Sl.val hp6) (L.op rfl rfl (O.move rfl (L.nil (T.block (?_))))))))))))))
    refine T.loop (σ := Nat × St) (fun g => [(6, .pointer (some ⟨b6, 0, none⟩)), (16, p), (17, .int .i64 xs.length), (18, .int .i64 g.1)]) (fun g w' => g.1 ≤ xs.length ∧ Ext w w' ∧ (∃ rv ps, Book w.heap.size b6 g.2 rv ps w') ∧ g.2.its.length ≤ g.1 ∧ goE s0 xs 0 = goE g.2 (xs.drop g.1) g.1) (fun g => xs.length - g.1) ((0, s0)) ⟨rfl, rfl, rfl, rfl, trivial⟩ ⟨Nat.zero_le _, he06, ⟨_, _, Book.start hS6 hb6'⟩, Nat.le_refl _, rfl⟩ ?_
    rintro ⟨i, s⟩ w7 ⟨hi, he7, ⟨rv, ps, hbk⟩, hsl, hgo⟩
    simp only at hi hbk hsl hgo
    refine T.seq (T.region (L.op rfl rfl (O.lss_s rfl rfl (fun hlt => ?_) (fun hlt => ?_))))
    · refine L.nil (?_)
      have hlt' : i < xs.length := by omega
      have hbd := right_bounds (hcr.2 _ (mem_of_getD hlt' (d := e0) rfl))
      have hp7 := hp.ext he7
      refine T.seq (T.cond_true rfl (T.skip (T.seq (T.block (T.seq (T.region (L.op rfl rfl (O.move rfl (L.op rfl rfl (O.indexAddr Tryz.runUnderlying27 Tryz.sizeOf42 rfl rfl hp7 (by omega) (by omega) (L.op rfl rfl (O.loadAgg Tryz.isAgg42 Tryz.sizeOf42 rfl rfl (hp7.row hlt') (L.op rfl rfl (O.alloc Tryz.zeroValue42 (fun b8 w8 hb8 hz8 he8 hB8 => ?_)))))))))))))))
      refine L.op rfl rfl (O.assign rfl (L.op rfl rfl (O.storeAgg Tryz.sizeOf42 rfl rfl rfl hB8 (Nat.le_refl _) (En.one _) (fun w9 hu9 hB9 => ?_))))
      have hu9 : Upd b8 _ _ := hu9
      have hE9 : Blk w9 b8 (xs.getD i e0).cells 42 := hB9
      have he9 : Ext w7 w9 := he8.upd hu9 (.inr (by omega))
      have he09 := he7.trans he9
      have hb9 := hbk.ext he9
      have hps : ps.length ≤ 100000 := by have := hb9.len; have := hcr.1; omega
      rcases hs : stepE s (xs.getD i e0) with _ | s'
      · refine L.nil (T.seq (T.region (L.op rfl rfl (O.move rfl (L.op rfl rfl (O.loadAgg Tryz.isAgg42 Tryz.sizeOf42 rfl rfl hE9.row (L.op rfl rfl (O.call (xs := [.tmp 23, .tmp 24]) Tryz.call52 rfl rfl (step_calls w.heap.size b6 s rv ps (xs.getD i e0) w9 hb9 he09.size hbd.k hps (hxs.at hlt') (hL.ext he09)) (fun v10 w10 hq => ?_)))))))))
        obtain ⟨hv10, hl10, hy10⟩ := hq
        rw [hs] at hv10
        subst hv10
        have hrep : replayR xs = (s0, (i : Int), 8) := by rw [replayR, if_pos hc, hgo, goE_no hlt' hs]
        refine L.op rfl rfl (O.not rfl (L.nil (T.cond_true rfl (T.seq (T.region (L.op rfl rfl (O.move rfl (L.op rfl rfl (O.assign rfl (L.op rfl rfl (O.assign rfl (L.op rfl rfl (O.assign rfl (L.nil (T.ret3 Tryz.results47 rfl rfl rfl ⟨Ext.below_trans he09 hl10, (fun h => by rw [hrep] at h; cases h), fun _ => by rw [hrep]⟩)))))))))))))))
      · refine L.nil (T.seq (T.region (L.op rfl rfl (O.move rfl (L.op rfl rfl (O.loadAgg Tryz.isAgg42 Tryz.sizeOf42 rfl rfl hE9.row (L.op rfl rfl (O.call (xs := [.tmp 23, .tmp 24]) Tryz.call52 rfl rfl (step_calls w.heap.size b6 s rv ps (xs.getD i e0) w9 hb9 he09.size hbd.k hps (hxs.at hlt') (hL.ext he09)) (fun v10 w10 hq => ?_)))))))))
        obtain ⟨hv10, hl10, hy10⟩ := hq
        rw [hs] at hv10
        subst hv10
        refine L.op rfl rfl (O.not rfl (L.nil (T.cond_false rfl (T.skip (T.blk (T.region (L.op rfl rfl (O.add64 rfl rfl (by omega) (L.op rfl rfl (O.move rfl (L.nil (T.again ((i + 1, s')) (by omega) ⟨rfl, rfl, rfl, rfl, trivial⟩ ⟨hlt', Ext.below_trans he09 hl10, hy10 _ hs, by have := stepE_len hs; (try dsimp only); omega, by rw [hgo, goE_yes hlt' hs]⟩))))))))))))
    · refine L.nil (?_)
      have hrep : replayR xs = (s, 0, 0) := by rw [replayR, if_pos hc, hgo, goE_end (by omega)]
      refine T.seq (T.cond_false rfl (T.exit rfl (T.seq (T.region (L.op rfl rfl (O.move rfl (L.op rfl rfl (O.assign rfl (L.op rfl rfl (O.assign rfl (L.op rfl rfl (O.assign rfl (L.nil (T.ret3 Tryz.results47 rfl rfl rfl ⟨he7, fun _ => ⟨b6, rv, ps, rfl, by rw [hrep]; exact hbk⟩, fun h => absurd (by rw [hrep]) h⟩))))))))))))))

end Go.Proofs.YtmnihgcffdmodaaGreatDoor
