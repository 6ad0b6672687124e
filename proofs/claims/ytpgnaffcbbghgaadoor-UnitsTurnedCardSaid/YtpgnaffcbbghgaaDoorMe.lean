/-
  Walks of the units' functions (2). Conditions: those of each statement.
-/
import Derived.Test.YtpgnaffcbbghgaaDoorMd
import Derived.Test.YtpgnaffcbbghgaaDoorMc
import Derived.Laws.StructEq
set_option linter.unusedVariables false
set_option linter.unusedSimpArgs false
set_option maxRecDepth 20000
namespace Go.Proofs.YtpgnaffcbbghgaaDoor
open Go Go.E
attribute [local irreducible] Go.E.T Go.E.L Go.E.O Go.E.Ob

attribute [local irreducible] Go.E.ObX
/-- The land units of a roll. -/
def lu (r : RoV) : List UnV := r.us.take (landsN r.us)
theorem lu_len (r : RoV) : (lu r).length = landsN r.us := by rw [lu, List.length_take, Nat.min_eq_left (landsN_le _)]
theorem lu_get {r : RoV} {k : Nat} (h : k < landsN r.us) : (lu r).getD k u0 = r.us.getD k u0 := by
  rw [getD_get (by rw [lu_len]; exact h), getD_get (Nat.lt_of_lt_of_le h (landsN_le _))]; simp [lu]
open Classical in
noncomputable def totErr (r : RoV) (set : Nat) : Int := if rollErr r = 0 then (if set < 2 ^ landsN r.us then 0 else 2) else rollErr r
open Classical in
noncomputable def totP (r : RoV) (set : Nat) : Int := if totErr r set = 0 then sumK (lu r) UnV.pp (idxs set (lu r).length) else 0
open Classical in
noncomputable def totG (r : RoV) (set : Nat) : List Int := if totErr r set = 0 then sumL (lu r) UnV.gs r.G.toNat (idxs set (lu r).length) else []
open Classical in
noncomputable def totV (r : RoV) (set : Nat) : List Int := if totErr r set = 0 then sumL (lu r) UnV.vs r.P.toNat (idxs set (lu r).length) else []
theorem totErr_roll {r : RoV} {set : Nat} (h : rollErr r ≠ 0) : totErr r set = rollErr r := if_neg h
theorem totErr_arg {r : RoV} {set : Nat} (h : rollErr r = 0) (h2 : ¬ set < 2 ^ landsN r.us) : totErr r set = 2 := by rw [totErr, if_pos h, if_neg h2]
theorem totErr_ok {r : RoV} {set : Nat} (h : rollErr r = 0) (h2 : set < 2 ^ landsN r.us) : totErr r set = 0 := by rw [totErr, if_pos h, if_pos h2]
/-- What 'Total' hands back. -/
def TotPost (r : RoV) (set : Nat) (w : World) (v : Value) (w' : World) : Prop :=
  Ext w w' ∧ ∃ g x, v = .tuple #[.int .i64 (totP r set), g, x, .int .i64 (totErr r set)] ∧ Ints .i64 w.heap.size w' g (totG r set) ∧ Ints .i64 w.heap.size w' x (totV r set)
theorem TotPost.bad {r : RoV} {set : Nat} {w w' : World} (h : totErr r set ≠ 0) (he : Ext w w') : TotPost r set w (.tuple #[.int .i64 0, .slice none 0 0, .slice none 0 0, .int .i64 (totErr r set)]) w' :=
  ⟨he, _, _, by rw [totP, if_neg h], by rw [totG, if_neg h]; exact Sl.nil _ _ _, by rw [totV, if_neg h]; exact Sl.nil _ _ _⟩
theorem TotPost.badE {r : RoV} {set : Nat} {w w' : World} {e : Int} (h : totErr r set = e) (h0 : e ≠ 0) (he : Ext w w') : TotPost r set w (.tuple #[.int .i64 0, .slice none 0 0, .slice none 0 0, .int .i64 e]) w' := by
  subst h; exact TotPost.bad h0 he
/-- What holds of each land unit of a valid roll. -/
structure UnitOk (G P : Nat) (u : UnV) : Prop where
  p0 : 0 ≤ u.pp
  p1 : u.pp ≤ 1000000000
  gl : u.gs.length = G
  g : ∀ q, q < G → 0 ≤ u.gs.getD q 0 ∧ u.gs.getD q 0 ≤ u.pp
  vl : u.vs.length = P
  v : ∀ q, q < P → 0 ≤ u.vs.getD q 0 ∧ u.vs.getD q 0 ≤ 1000000000
theorem unit_ok {r : RoV} {G P k : Nat} (h : rollErr r = 0) (hG : r.G = G) (hP : r.P = P) (hk : k < r.us.length) : UnitOk G P (r.us.getD k u0) := by
  have hr := right_iff.1 ((roll_of h).good k hk).right
  obtain ⟨_, h1, h2, h3, h4, _⟩ := hr
  have hv := votes_le (r.us.getD k u0)
  have h3 := within_iff.1 h3
  have h4 := within_iff.1 h4
  refine ⟨h1, by omega, by omega, fun q hq => h3.2 q (by omega), by omega, fun q hq => ?_⟩
  have := h4.2 q (by omega); omega
def MadeZ (lo n : Nat) (v : Value) (w : World) : Prop := ∃ b, lo ≤ b ∧ v = .slice (some ⟨b, 0, none⟩) n n ∧ Blk w b (List.replicate n (.int .i64 0)) 3
theorem MadeZ.st {lo n : Nat} : ∀ v w w', Ext w w' → MadeZ lo n v w → MadeZ lo n v w' := fun _ _ _ he ⟨b, h1, h2, h3⟩ => ⟨b, h1, h2, h3.ext he⟩
theorem MadeZ.lt {lo n : Nat} {v : Value} {w : World} (h : MadeZ lo n v w) : ∀ b, v.ownBlock = some b → b < w.heap.size := fun b hb => by
  obtain ⟨b', _, rfl, h3⟩ := h
  cases hb; exact h3.lt
theorem idx_ok {r : RoV} {G P set : Nat} (h : rollErr r = 0) (hG : r.G = G) (hP : r.P = P) {ks : List Nat} (hk : ∀ k ∈ ks, k ∈ idxs set (lu r).length) : ∀ k ∈ ks, UnitOk G P ((lu r).getD k u0) := fun k hkk => by
  have hlt := idxs_lt (hk k hkk)
  rw [lu_len] at hlt
  rw [lu_get hlt]
  exact unit_ok h hG hP (Nat.lt_of_lt_of_le hlt (landsN_le _))
theorem idxs_len_le {set n : Nat} {done rem : List Nat} (h : done ++ rem = idxs set n) : done.length ≤ n := by
  have h1 := idxs_len set n
  rw [← h, List.length_append] at h1; omega
/-- Only block b may have turned; it is not turned again. -/
structure But1 (b : Nat) (t : TypeId) (w w' : World) : Prop where
  os : w'.os = w.os
  tape : w'.tape = w.tape
  output : w'.output = w.output
  size : w.heap.size ≤ w'.heap.size
  block : ∀ k, k ≠ b → k < w.heap.size → w'.heap[k]? = w.heap[k]?
  once : Blk w b [.slice none 0 0] t ∨ w'.heap[b]? = w.heap[b]?
theorem But1.of_ext {b : Nat} {t : TypeId} {w w' : World} (h : Ext w w') (hb : b < w.heap.size) : But1 b t w w' := ⟨h.os, h.tape, h.output, h.size, fun k _ hk => h.block k (Nat.zero_le _) hk, .inr (h.block b (Nat.zero_le _) hb)⟩
theorem But1.blk {b k : Nat} {t t' : TypeId} {w w' : World} {cs : List Value} (h : But1 b t w w') (hk : k ≠ b) (hB : Blk w k cs t') : Blk w' k cs t' := (h.block k hk hB.lt).trans hB
/-- The world behind a region that makes two slices and keeps the first. -/
def Inv1 (b : Nat) (w : World) : Nat → World → Prop
  | 0, W => Ext w W
  | _, W => ∃ W1, Ext w W1 ∧ ∃ W2, Upd b W1 W2 ∧ Ext W2 W
theorem Inv1.ext {b c : Nat} {w W W' : World} (h : Inv1 b w c W) (he : Ext W W') : Inv1 b w c W' := by
  cases c with
  | zero => exact Keep.trans h he
  | succ c => obtain ⟨W1, h1, W2, h2, h3⟩ := h; exact ⟨W1, h1, W2, h2, h3.trans he⟩
theorem Inv1.size {b c : Nat} {w W : World} (h : Inv1 b w c W) : w.heap.size ≤ W.heap.size := by
  cases c with
  | zero => exact Keep.size h
  | succ c => obtain ⟨W1, h1, W2, h2, h3⟩ := h; have := h1.size; have := h2.size; have := h3.size; omega
theorem Inv1.blk {b c k : Nat} {t : TypeId} {w W : World} {cs : List Value} (h : Inv1 b w c W) (hk : k ≠ b) (hB : Blk w k cs t) : Blk W k cs t := by
  cases c with
  | zero => exact Blk.ext hB h
  | succ c => obtain ⟨W1, h1, W2, h2, h3⟩ := h; exact ((hB.ext h1).upd h2 hk).ext h3
theorem Inv1.start {b : Nat} {t : TypeId} {w W : World} {cs : List Value} (h : Inv1 b w 0 W) (hB : Blk w b cs t) : Blk W b cs t := Blk.ext hB h
theorem Inv1.from {b c : Nat} {w0 w W : World} (h : Inv1 b w c W) (h0 : Ext w0 w) (hb : w0.heap.size ≤ b) : Ext w0 W := by
  cases c with
  | zero => exact h0.trans h
  | succ c => obtain ⟨W1, h1, W2, h2, h3⟩ := h; exact ((h0.trans h1).upd h2 (.inr hb)).trans h3
theorem MadeZ.but {b lo n : Nat} {t : TypeId} {v : Value} {w w' : World} (hl : b < lo) (h : But1 b t w w') (hm : MadeZ lo n v w) : MadeZ lo n v w' := by
  obtain ⟨b', h1, h2, h3⟩ := hm
  exact ⟨b', h1, h2, h.blk (by omega) h3⟩
/-- What holds between the rounds of 'Total'. -/
structure TotI (r : RoV) (set G P b4 b5 b6 bg bv bf bm : Nat) (w w15 : World) (rem : List Nat) (S : Nat → Prop) (w' : World) : Prop where
  ext : Ext w w'
  size : w15.heap.size ≤ w'.heap.size
  new : ∀ k, S k → w15.heap.size ≤ k ∧ k < w'.heap.size
  fn : ∃ t, Blk w' bf [.func (.func 30) #[] #[]] t
  b5 : Blk w' b5 [.slice (some ⟨bg, 0, none⟩) G G] 37
  b6 : Blk w' b6 [.slice (some ⟨bv, 0, none⟩) P P] 37
  ml : Blk w' bm [lv r] 30
  ms : Blk w' (bm + 1) [.int .u64 set] 28
  sums : ∃ done : List Nat, done ++ rem = idxs set (lu r).length ∧ Blk w' b4 [.int .i64 (sumK (lu r) UnV.pp done)] 3 ∧ Blk w' bg ((sumL (lu r) UnV.gs G done).map (Value.int .i64)) 3 ∧ Blk w' bv ((sumL (lu r) UnV.vs P done).map (Value.int .i64)) 3
theorem TotI.of_ext {r : RoV} {set G P b4 b5 b6 bg bv bf bm : Nat} {w w15 W W' : World} {rem : List Nat} {S S' : Nat → Prop} (h : TotI r set G P b4 b5 b6 bg bv bf bm w w15 rem S W) (he : Ext W W') (hS : ∀ k, S' k → S k ∨ W.heap.size ≤ k ∧ k < W'.heap.size) : TotI r set G P b4 b5 b6 bg bv bf bm w w15 rem S' W' := by
  obtain ⟨h1, h2, h3, ⟨t, h4⟩, h5, h6, h7, h8, done, h9, h10, h11, h12⟩ := h
  have hz := he.size
  refine ⟨h1.trans he, by omega, fun k hk => ?_, ⟨t, h4.ext he⟩, h5.ext he, h6.ext he, h7.ext he, h8.ext he, done, h9, h10.ext he, h11.ext he, h12.ext he⟩
  rcases hS k hk with h | h
  · have := h3 k h; omega
  · omega
theorem TotI.of_upd {r : RoV} {set G P b4 b5 b6 bg bv bf bm b : Nat} {w w15 W W' : World} {rem : List Nat} {S : Nat → Prop} (h : TotI r set G P b4 b5 b6 bg bv bf bm w w15 rem S W) (hb : S b) (hu : Upd b W W') (hl : w.heap.size ≤ w15.heap.size ∧ b4 < w15.heap.size ∧ b5 < w15.heap.size ∧ b6 < w15.heap.size ∧ bg < w15.heap.size ∧ bv < w15.heap.size ∧ bf < w15.heap.size ∧ bm + 1 < w15.heap.size) : TotI r set G P b4 b5 b6 bg bv bf bm w w15 rem S W' := by
  obtain ⟨h1, h2, h3, ⟨t, h4⟩, h5, h6, h7, h8, done, h9, h10, h11, h12⟩ := h
  have hb' := h3 b hb
  have hz := hu.size
  exact ⟨h1.upd hu (.inr (by omega)), by omega, fun k hk => by rw [hz]; exact h3 k hk, ⟨t, h4.upd hu (by omega)⟩, h5.upd hu (by omega), h6.upd hu (by omega), h7.upd hu (by omega), h8.upd hu (by omega), done, h9, h10.upd hu (by omega), h11.upd hu (by omega), h12.upd hu (by omega)⟩
theorem ext_of_same {b : Nat} {cs : List Value} {t : TypeId} {w w' : World} (hu : Upd b w w') (h : Blk w b cs t) (h' : Blk w' b cs t) : Ext w w' :=
  ⟨hu.os, hu.tape, hu.output, Nat.le_of_eq hu.size.symm, fun k _ _ => by
    by_cases e : k = b
    · subst e; exact h'.trans h.symm
    · exact hu.block k e⟩
theorem blk_ne {w : World} {b b' : Nat} {cs cs' : List Value} {t t' : TypeId} (h : Blk w b cs t) (h' : Blk w b' cs' t') (hne : cs ≠ cs') : b ≠ b' := fun e => by
  subst e
  have := h.symm.trans h'
  simp only [Option.some.injEq, Obj.cells.injEq] at this
  exact hne (by simpa using this.1)
theorem cells_ne_ints (u : UnV) (xs : List Int) : u.cells ≠ xs.map (Value.int .i64) := fun e => by
  have : str u.nm ∈ xs.map (Value.int .i64) := e ▸ (by simp [UnV.cells])
  obtain ⟨_, _, h⟩ := List.mem_map.1 this
  cases h
theorem val_cells {u v : UnV} (h : u.val = v.val) : u.cells = v.cells := by
  have := congrArg Value.cells h
  simpa [UnV.val, Value.cells] using this
theorem Total_calls (lo : Nat) (r : RoV) (set : Nat) (w : World) (hr : r.ok lo w) (hset : set < 18446744073709551616) :
    Calls Tryd.prog 11 #[r.val, .int .u64 set] w (Ret fun v w' => TotPost r set w v w') := by
  refine T.enterM (vs := [r.val, .int .u64 set]) Tryd.func11 rfl Tryd.ntmps11 rfl ?_
  refine T.seq (T.region (L.op rfl rfl (O.box rfl (fun b2 w2 hb2 hz2 he2 hB2 => ?_))))
  refine L.op rfl rfl (O.alloc Tryd.zeroValue3 (fun b4 w4 hb4 hz4 he4 hB4 => ?_))
  refine L.op rfl rfl (O.alloc Tryd.zeroValue37 (fun b5 w5 hb5 hz5 he5 hB5 => ?_))
  refine L.op rfl rfl (O.alloc Tryd.zeroValue37 (fun b6 w6 hb6 hz6 he6 hB6 => ?_))
  have he06 := ((he2.trans he4).trans he5).trans he6
  have hC6 : Blk w6 b2 r.cells 32 := ((Blk.ext (cs := r.cells) hB2 he4).ext he5).ext he6
  have hB46 : Blk w6 b4 [.int .i64 0] 3 := (hB4.ext he5).ext he6
  have hB56 : Blk w6 b5 [.slice none 0 0] 37 := hB5.ext he6
  have hB66 : Blk w6 b6 [.slice none 0 0] 37 := hB6
  refine L.op rfl rfl (O.assign rfl (L.nil (T.seq (T.seq (T.region (L.op rfl rfl (O.loadAgg Tryd.isAgg32 Tryd.sizeOf32 rfl rfl hC6.row (L.op rfl rfl (O.call (xs := [.tmp 14]) Tryd.call25 rfl rfl (CheckRoll_calls lo r w6 (hr.ext he06)) (fun v7 w7 hq => ?_))))))))))
  obtain ⟨rfl, he7⟩ := hq
  have he07 := he06.trans he7
  refine L.op rfl rfl (O.assign rfl (L.nil (T.seq (T.region (L.op rfl rfl (O.move rfl (L.op rfl rfl (O.neq_s rfl rfl (fun h0 => ?_) (fun h0 => ?_)))))))))
  · refine L.nil (T.cond_true rfl (T.seq (T.region (L.op rfl rfl (O.move rfl (L.op rfl rfl (O.store1 Tryd.sizeOf3 rfl rfl rfl (hB46.ext he7) (by simp [Value.cells]) (fun w8 hu8 hB8 => ?_))))))))
    refine L.op rfl rfl (O.store1 Tryd.sizeOf37 rfl rfl rfl ((hB56.ext he7).upd hu8 (by omega)) (by simp [Value.cells]) (fun w9 hu9 hB9 => ?_))
    refine L.op rfl rfl (O.store1 Tryd.sizeOf37 rfl rfl rfl (((hB66.ext he7).upd hu8 (by omega)).upd hu9 (by omega)) (by simp [Value.cells]) (fun w10 hu10 hB10 => ?_))
    refine L.op rfl rfl (O.assign rfl (L.nil (T.retC3T Tryd.results11 Tryd.isAgg3 Tryd.isAgg37 Tryd.isAgg37 rfl rfl rfl rfl (Opn.nil _) (fun w' hs => ⟨((Keep.refl 0 w10).shut hs (fun r hr => by cases hr)).cell (Nat.zero_le _) (((hB8.upd hu9 (by omega)).upd hu10 (by omega)).cell rfl), ((Keep.refl 0 w10).shut hs (fun r hr => by cases hr)).cell (Nat.zero_le _) ((hB9.upd hu10 (by omega)).cell rfl), ((Keep.refl 0 w10).shut hs (fun r hr => by cases hr)).cell (Nat.zero_le _) (hB10.cell rfl)⟩) (fun w' hs => TotPost.badE (totErr_roll h0) h0 ((((he07.upd hu8 (.inr (by omega))).upd hu9 (.inr (by omega))).upd hu10 (.inr (by omega))).shut hs (fun r hr => by cases hr))))))
  · refine L.nil (?_)
    have h0n : rollErr r = 0 := by omega
    refine T.cond_false rfl (T.skip (T.seq (T.region (L.op rfl rfl (O.loadAgg Tryd.isAgg32 Tryd.sizeOf32 rfl rfl ((hC6.ext he7).row) (L.op rfl rfl (O.call (xs := [.tmp 19]) Tryd.call29 rfl rfl (land_calls lo r w7 (hr.ext he07)) (fun v8 w8 hq => ?_))))))))
    obtain ⟨rfl, he8⟩ := hq
    have he08 := he07.trans he8
    have he68 := he7.trans he8
    have hU8 : Units lo w8 (lv r) (r.us.take (landsN r.us)) := lv_units (hr.ext he08)
    have hll : (r.us.take (landsN r.us)).length = landsN r.us := lu_len r
    have hln := landsN_le r.us
    have hbnd := roll_bnd h0
    refine L.op rfl rfl (O.assign rfl (L.nil (T.seq (T.seq (T.region (L.op rfl rfl (O.move rfl (L.op rfl rfl (O.len Tryd.runUnderlying30 rfl (Sl.val hU8.sl) (?_))))))))))
    rw [hll]
    refine L.op rfl rfl (O.assign rfl (L.nil (?_)))
    refine T.join (σ := Unit) (fun _ => [(1, .int .u64 set), (2, .pointer (some ⟨b2, 0, none⟩)), (4, .pointer (some ⟨b4, 0, none⟩)), (5, .pointer (some ⟨b5, 0, none⟩)), (6, .pointer (some ⟨b6, 0, none⟩)), (7, .int .i64 0), (9, lv r)]) (fun _ w' => w' = w8 ∧ set < 2 ^ landsN r.us) ?_ ?_
    · refine T.seq (T.region (L.op rfl rfl (O.move rfl (L.op rfl rfl (O.lss_s rfl rfl (fun h64 => ?_) (fun h64 => ?_))))))
      · refine L.op rfl rfl (O.move rfl (L.op rfl rfl (O.move rfl (L.op rfl rfl (O.move rfl (L.op rfl rfl (O.shr_u64 rfl rfl rfl hset (by omega) (L.op rfl rfl (O.neq_s rfl rfl (fun hbad => ?_) (fun hbad => ?_))))))))))
        · have hnf : ¬ set < 2 ^ landsN r.us := fun h => by
            rw [Int.toNat_natCast] at hbad
            have := (Nat.div_eq_zero_iff_lt (Nat.pow_pos (by decide) : 0 < 2 ^ landsN r.us)).2 h
            omega
          refine L.op rfl rfl (O.pick_true rfl rfl (L.nil (T.cond_true rfl (T.seq (T.region (L.op rfl rfl (O.store1 Tryd.sizeOf3 rfl rfl rfl (hB46.ext he68) (by simp [Value.cells]) (fun w18 hu18 hB18 => ?_))))))))
          refine L.op rfl rfl (O.store1 Tryd.sizeOf37 rfl rfl rfl ((hB56.ext he68).upd hu18 (by omega)) (by simp [Value.cells]) (fun w19 hu19 hB19 => ?_))
          refine L.op rfl rfl (O.store1 Tryd.sizeOf37 rfl rfl rfl (((hB66.ext he68).upd hu18 (by omega)).upd hu19 (by omega)) (by simp [Value.cells]) (fun w20 hu20 hB20 => ?_))
          refine L.op rfl rfl (O.assign rfl (L.nil (T.retC3T Tryd.results11 Tryd.isAgg3 Tryd.isAgg37 Tryd.isAgg37 rfl rfl rfl rfl (Opn.nil _) (fun w' hs => ⟨((Keep.refl 0 w20).shut hs (fun r hr => by cases hr)).cell (Nat.zero_le _) (((hB18.upd hu19 (by omega)).upd hu20 (by omega)).cell rfl), ((Keep.refl 0 w20).shut hs (fun r hr => by cases hr)).cell (Nat.zero_le _) ((hB19.upd hu20 (by omega)).cell rfl), ((Keep.refl 0 w20).shut hs (fun r hr => by cases hr)).cell (Nat.zero_le _) (hB20.cell rfl)⟩) (fun w' hs => TotPost.badE (totErr_arg h0 hnf) (by decide) ((((he08.upd hu18 (.inr (by omega))).upd hu19 (.inr (by omega))).upd hu20 (.inr (by omega))).shut hs (fun r hr => by cases hr))))))
        · refine L.op rfl rfl (O.pick_true rfl rfl (L.nil (T.cond_false rfl (T.skip (T.meet (()) ⟨rfl, rfl, rfl, rfl, rfl, rfl, rfl, trivial⟩ ⟨rfl, ?_⟩)))))
          · rw [Int.toNat_natCast] at hbad
            exact (Nat.div_eq_zero_iff_lt (Nat.pow_pos (by decide))).1 (by omega)
      · refine L.op rfl rfl (O.move rfl (L.pass rfl rfl (L.pass rfl rfl (L.pass rfl rfl (L.pass rfl rfl (L.op rfl rfl (O.pick_false rfl rfl (L.nil (T.cond_false rfl (T.skip (T.meet (()) ⟨rfl, rfl, rfl, rfl, rfl, rfl, rfl, trivial⟩ ⟨rfl, ?_⟩)))))))))))
        · rw [show landsN r.us = 64 by omega]; exact hset
    rintro _ w9 ⟨rfl, hfit⟩
    obtain ⟨G, hG⟩ : ∃ G : Nat, r.G = G := ⟨r.G.toNat, by omega⟩
    obtain ⟨Pn, hP⟩ : ∃ Pn : Nat, r.P = Pn := ⟨r.P.toNat, by omega⟩
    have hz06 := he06.size
    have hz68 := he68.size
    have hb2 : b2 < w6.heap.size := hC6.lt
    have hB59 : Blk w9 b5 [.slice none 0 0] 37 := hB56.ext he68
    have hC9 : Blk w9 b2 r.cells 32 := hC6.ext he68
    refine T.seq (?_)
    refine T.anyF mixed 7 1 [2, 5] rfl [.is _, .is _, .such (MadeZ w9.heap.size G), .is _, .is _, .such (MadeZ w9.heap.size Pn), .is undef] [[], [0], [1], [], [3], [4], [2]] [none, none, none, none, none, none, some 0] [[], [0], [0, 1], [], [3], [3, 4], [0, 1, 2], [0, 1, 2, 3, 4, 5, 6]] [2, 5] [(6, 2, 33)] (fun _ _ u _ W => u ≠ .slice none 0 0 ∧ Blk W b5 [u] 37) (Inv1 b5 w9) (But1 b5 37) (fun i f v w hi hf hh => by { rcases (show i = 2 ∨ i = 5 by simpa using hi) with rfl | rfl <;> (simp only [List.getElem?_cons_succ, List.getElem?_cons_zero, Option.some.injEq] at hf; subst hf; exact MadeZ.lt hh) }) (fun i j vi vj W W' hr h => ⟨h.1, by { rcases hr.once with h1 | h1; exact absurd (by have := h1.symm.trans h.2; simpa using this) h.1.symm; exact h1.trans h.2 }⟩) (by kernel_rfl) (by kernel_rfl) (by kernel_rfl) (by kernel_rfl) rfl ⟨fun _ _ _ h hm => MadeZ.but (by omega) h hm, fun _ _ _ h hm => MadeZ.but (by omega) h hm, trivial⟩ (Keep.drew _ _) ⟨fun c wx hx => ObX.op rfl (O.fieldAddr Tryd.runUnderlying32 rfl Tryd.sizeOf3 rfl ⟨⟨But1.of_ext (Keep.refl _ _) (by have := hx.size; omega), hx⟩, rfl, trivial, trivial⟩),
        fun c wx hx => ObX.op rfl (O.load Tryd.isAgg3 rfl ((hx.blk (by omega) hC9).cell rfl) ⟨⟨But1.of_ext (Keep.refl _ _) (by have := hx.size; omega), hx⟩, rfl, trivial, trivial⟩),
        fun c wx hx => ObX.op rfl (O.makeSlice Tryd.runUnderlying37 Tryd.typeInfo3 Tryd.sizeOf3 Tryd.zeroValue3 rfl rfl hG (by show G * 8 ≤ _; omega) (by omega) (fun b3 w3 hb3 hz3 he3 hB3 => and3 ⟨⟨But1.of_ext he3 (by have := hx.size; omega), hx.ext he3⟩, b3, by have := hx.size; omega, rfl, hB3⟩ ⟨fun b h => by { cases h; exact Nat.le_of_eq hb3.symm }, trivial⟩)),
        fun c wx hx => ObX.op rfl (O.fieldAddr Tryd.runUnderlying32 rfl Tryd.sizeOf3 rfl ⟨⟨But1.of_ext (Keep.refl _ _) (by have := hx.size; omega), hx⟩, rfl, trivial, trivial⟩),
        fun c wx hx => ObX.op rfl (O.load Tryd.isAgg3 rfl ((hx.blk (by omega) hC9).cell rfl) ⟨⟨But1.of_ext (Keep.refl _ _) (by have := hx.size; omega), hx⟩, rfl, trivial, trivial⟩),
        fun c wx hx => ObX.op rfl (O.makeSlice Tryd.runUnderlying37 Tryd.typeInfo3 Tryd.sizeOf3 Tryd.zeroValue3 rfl rfl hP (by show Pn * 8 ≤ _; omega) (by omega) (fun b3 w3 hb3 hz3 he3 hB3 => and3 ⟨⟨But1.of_ext he3 (by have := hx.size; omega), hx.ext he3⟩, b3, by have := hx.size; omega, rfl, hB3⟩ ⟨fun b h => by { cases h; exact Nat.le_of_eq hb3.symm }, trivial⟩)),
        fun wx hx v33 hv33 => by { obtain ⟨bq, hbq, rfl, hBq⟩ := hv33; exact ObX.op rfl (O.store1 Tryd.sizeOf37 rfl rfl rfl (hx.start hB59) (by simp [Value.cells]) (fun w3 hu3 hB3 => and3 ⟨⟨⟨hu3.os, hu3.tape, hu3.output, Nat.le_of_eq hu3.size.symm, fun k hk _ => hu3.block k hk, .inl (hx.start hB59)⟩, ⟨_, hx, _, hu3, Keep.refl _ _⟩⟩, rfl⟩ ⟨trivial, fun u hu => by { cases hu; exact ⟨by simp, hB3⟩ }⟩)) },
        trivial⟩ (fun w10 hI10 v33 hv33 v36 hv36 hp10 => ?_)
    obtain ⟨vj, hvj, hfr, _⟩ := hp10 2 5 _ _ _ _ (by decide) (by decide) rfl rfl rfl rfl
    obtain rfl := hvj _ _ rfl rfl
    obtain ⟨_, _, _, hlk⟩ := hp10 2 6 _ _ _ _ (by decide) (by decide) rfl rfl rfl rfl
    have hB510 := (hlk rfl).2
    obtain ⟨bg, hbg, rfl, hBg⟩ := hv33
    obtain ⟨bv, hbv, rfl, hBv⟩ := hv36
    have hne : bg ≠ bv := fun e => hfr bg rfl (by rw [e]; rfl)
    have he010 : Ext w w10 := hI10.from he08 (by have := he2.size; have := he4.size; omega)
    have hz10 := hI10.size
    have hB69 : Blk w9 b6 [.slice none 0 0] 37 := hB66.ext he68
    have hB49 : Blk w9 b4 [.int .i64 0] 3 := hB46.ext he68
    refine L.op rfl rfl (O.store1 Tryd.sizeOf37 rfl rfl rfl (hI10.blk (by omega) hB69) (by simp [Value.cells]) (fun w12 hu12 hB12 => ?_))
    have hz08 := he08.size
    have hlg := hBg.lt
    have hlv := hBv.lt
    have hz12 := hu12.size
    have he012 : Ext w w12 := he010.upd hu12 (.inr (by omega))
    refine L.nil (T.seq (T.region (L.op rfl rfl (O.alloc Tryd.zeroValue78 (fun b13 w13 hb13 hz13 he13 hB13 => ?_)))))
    refine L.op rfl rfl (O.store1 Tryd.sizeOf78 rfl rfl rfl hB13 (by simp [Value.cells]) (fun w14 hu14 hB14 => ?_))
    have hz14 := hu14.size
    have he1214 : Ext w12 w14 := he13.upd hu14 (.inr (by omega))
    have he014 := he012.trans he1214
    have hU14 : Units lo w14 (lv r) (lu r) := lv_units (hr.ext he014)
    refine L.nil (T.seq (T.seq (T.region (L.op rfl rfl (O.move rfl (L.op rfl rfl (O.move rfl (L.op rfl rfl (O.call (xs := [.tmp 37, .tmp 38]) Tryd.call31 rfl rfl (members_calls lo (lv r) (lu r) set w14 hU14) (fun v15 w15 hq => ?_))))))))))
    obtain ⟨rfl, he15, hBl15, hBs15⟩ := hq
    have hz15 := he15.size
    have hll64 : (lu r).length ≤ 64 := by rw [lu_len]; omega
    have hll2 := lu_len r
    have hbl := hBl15.lt
    have hbs := hBs15.lt
    have he015 := he014.trans he15
    have hB415 : Blk w15 b4 [.int .i64 0] 3 := (((hI10.blk (by omega) hB49).upd hu12 (by omega)).ext he1214).ext he15
    have hB515 : Blk w15 b5 [.slice (some ⟨bg, 0, none⟩) G G] 37 := ((hB510.upd hu12 (by omega)).ext he1214).ext he15
    have hB615 : Blk w15 b6 [.slice (some ⟨bv, 0, none⟩) Pn Pn] 37 := (hB12.ext he1214).ext he15
    have hBg15 : Blk w15 bg ((sumL (lu r) UnV.gs G []).map (Value.int .i64)) 3 := by rw [sumL_nil, List.map_replicate]; exact ((hBg.upd hu12 (by omega)).ext he1214).ext he15
    have hBv15 : Blk w15 bv ((sumL (lu r) UnV.vs Pn []).map (Value.int .i64)) 3 := by rw [sumL_nil, List.map_replicate]; exact ((hBv.upd hu12 (by omega)).ext he1214).ext he15
    have hB1115 : ∃ t, Blk w15 b13 [.func (.func 30) #[] #[]] t := ⟨_, hB14.ext he15⟩
    refine L.nil (T.block (?_))
    refine T.rangeFuncM2 (e1 := fun v x => [(4, .pointer (some ⟨b4, 0, none⟩)), (5, .pointer (some ⟨b5, 0, none⟩)), (6, .pointer (some ⟨b6, 0, none⟩)), (11, .pointer (some ⟨b13, 0, none⟩)), (13, .pointer (some ⟨x, 0, none⟩))]) (fun rem S w' => TotI r set G Pn b4 b5 b6 bg bv b13 w14.heap.size w w15 rem S w') (fun _ _ _ => False) (fun v x w' => ∃ u : UnV, v.2 = u.val ∧ Blk w' x u.cells 42) rfl Tryd.call45 rfl rfl (members_seq w14.heap.size (w14.heap.size + 1) lo (lv r) (lu r) set hll64 hset) ?_ ?_ ?_ ?_ ?_ ?_ ?_ ?_ ?_ ?_ ?_
    · exact ⟨fun i S S' W W' h he hS => h.of_ext he hS, fun i S W W' b h hb hu => h.of_upd hb hu (by omega)⟩
    · exact fun _ _ _ _ _ h _ _ => h.elim
    · exact fun i S W h => ⟨lv_units (hr.ext h.ext), h.ml, h.ms⟩
    · exact ⟨he015, Nat.le_refl _, fun k hk => hk.elim, hB1115, hB515, hB615, hBl15, hBs15, [], rfl, hB415, hBg15, hBv15⟩
    · exact fun k hk => hk.elim
    · exact fun W hW => trivial
    · rintro v x W W' b' ⟨u, h1, h2⟩ hne hu
      exact ⟨u, h1, h2.upd hu (Ne.symm hne)⟩
    · intro l Q i j v k W hn hK
      obtain ⟨k, _, hk, rfl⟩ := hn
      refine T.region (L.op rfl rfl (O.alloc Tryd.zeroValue42 (fun b16 w16 hb16 hz16 he16 hB16 => ?_)))
      refine L.op rfl rfl (O.storeAgg Tryd.sizeOf42 rfl rfl rfl hB16 (Nat.le_refl _) ((lv_units hr).at (show k < (r.us.take (landsN r.us)).length from hk)).one (fun w17 hu17 hB17 => ?_))
      refine L.nil (T.sub ?_ (hK b16 _ (by omega) (he16.upd hu17 (.inr (by omega))) ⟨_, rfl, hB17⟩))
      exact ⟨rfl, rfl, rfl, rfl, rfl, trivial⟩
    · rintro l rem v x rem' S w18 ⟨k, rfl, hk, rfl⟩ ⟨heI, hzI, hnI, ⟨tf, hfI⟩, h5I, h6I, hmlI, hmsI, done, hdI, h4I, hgI, hvI⟩ ⟨u, hu, hBx18⟩
      rw [← val_cells hu] at hBx18
      have hkk : ∀ j ∈ done ++ [k], j ∈ idxs set (lu r).length := fun j hj => by rw [← hdI]; simp at hj ⊢; rcases hj with h | h; exact .inl h; exact .inr (.inl h)
      have hok := idx_ok h0n hG hP hkk
      have hokk := hok k (by simp)
      have hokd : ∀ j ∈ done, UnitOk G Pn ((lu r).getD j u0) := fun j hj => hok j (by simp [hj])
      have hdl := idxs_len_le hdI
      have hat := (lv_units hr).at (show k < (r.us.take (landsN r.us)).length from hk)
      have hp1 := sumK_le (lu r) UnV.pp 1000000000 (by decide) done (fun j hj => ⟨(hokd j hj).p0, (hokd j hj).p1⟩)
      have hk0 := hokk.p0
      have hk1 := hokk.p1
      have hdl2 : (done.length : Int) * 1000000000 ≤ 64000000000 := by omega
      refine T.block (T.seq (T.region (L.op rfl rfl (O.load Tryd.isAgg3 rfl (h4I.cell rfl) (L.op rfl rfl (O.fieldAddr Tryd.runUnderlying42 rfl Tryd.sizeOf3 rfl (L.op rfl rfl (O.load Tryd.isAgg3 rfl (hBx18.cell rfl) (L.op rfl rfl (O.add64 rfl rfl (by omega) (L.op rfl rfl (O.store1 Tryd.sizeOf3 rfl rfl rfl h4I (by simp [Value.cells]) (fun w20 hu20 hB20 => ?_)))))))))))))
      have hx4 : x ≠ b4 := blk_ne hBx18 h4I (cells_ne_ints _ [_])
      have hxg : x ≠ bg := blk_ne hBx18 hgI (cells_ne_ints _ _)
      have hxv : x ≠ bv := blk_ne hBx18 hvI (cells_ne_ints _ _)
      have hx20 := hBx18.upd hu20 hx4
      have hgd : ∀ q, q < G → 0 ≤ (sumL (lu r) UnV.gs G done).getD q 0 ∧ (sumL (lu r) UnV.gs G done).getD q 0 ≤ 64000000000 := fun q hq => by
        rw [sumL_get hq]
        have := sumK_le (lu r) (fun u => u.gs.getD q 0) 1000000000 (by decide) done (fun j hj => ⟨((hokd j hj).g q hq).1, by have := ((hokd j hj).g q hq).2; have := (hokd j hj).p1; omega⟩)
        omega
      have hvd : ∀ q, q < Pn → 0 ≤ (sumL (lu r) UnV.vs Pn done).getD q 0 ∧ (sumL (lu r) UnV.vs Pn done).getD q 0 ≤ 64000000000 := fun q hq => by
        rw [sumL_get hq]
        have := sumK_le (lu r) (fun u => u.vs.getD q 0) 1000000000 (by decide) done (fun j hj => (hokd j hj).v q hq)
        omega
      have hbg2 : ∀ j, j < G → -1000000000000 ≤ (sumL (lu r) UnV.gs G done).getD j 0 ∧ (sumL (lu r) UnV.gs G done).getD j 0 ≤ 1000000000000 ∧ -1000000000000 ≤ ((lu r).getD k u0).gs.getD j 0 ∧ ((lu r).getD k u0).gs.getD j 0 ≤ 1000000000000 := fun j hj => ⟨by have := hgd j hj; omega, by have := hgd j hj; omega, by have := (hokk.g j hj).1; omega, by have := (hokk.g j hj).2; omega⟩
      have hbv2 : ∀ j, j < Pn → -1000000000000 ≤ (sumL (lu r) UnV.vs Pn done).getD j 0 ∧ (sumL (lu r) UnV.vs Pn done).getD j 0 ≤ 1000000000000 ∧ -1000000000000 ≤ ((lu r).getD k u0).vs.getD j 0 ∧ ((lu r).getD k u0).vs.getD j 0 ≤ 1000000000000 := fun j hj => ⟨by have := hvd j hj; omega, by have := hvd j hj; omega, by have := (hokk.v j hj).1; omega, by have := (hokk.v j hj).2; omega⟩
      have he20 : Ext w w20 := heI.upd hu20 (.inr (by omega))
      refine L.nil (T.seq (T.region (L.op rfl rfl (O.load Tryd.isAgg78 rfl ((hfI.upd hu20 (by omega)).cell rfl) (L.op rfl rfl (O.load Tryd.isAgg37 rfl ((h5I.upd hu20 (by omega)).cell rfl) (L.op rfl rfl (O.fieldAddr Tryd.runUnderlying42 rfl Tryd.sizeOf37 rfl (L.op rfl rfl (O.load Tryd.isAgg37 rfl (hx20.cell rfl) (L.op rfl rfl (O.call (xs := [.tmp 47, .tmp 49]) Tryd.call30 rfl rfl (addTo_calls lo bg _ G ((lu r).getD k u0).gv (sumL (lu r) UnV.gs G done) ((lu r).getD k u0).gs w20 w (hgI.upd hu20 (by omega)) (sumL_len _ _ _ _) hokk.gl (by omega) hat.g he20 (by omega) hbg2) (fun v21 w21 hq => ?_)))))))))))))
      obtain ⟨rfl, hu21, hB21⟩ := hq
      rw [addAt_sum hokk.gl] at hB21
      have he21 : Ext w w21 := he20.upd hu21 (.inr (by omega))
      have hx21 := hx20.upd hu21 hxg
      refine L.nil (T.region (L.op rfl rfl (O.load Tryd.isAgg78 rfl (((hfI.upd hu20 (by omega)).upd hu21 (by omega)).cell rfl) (L.op rfl rfl (O.load Tryd.isAgg37 rfl (((h6I.upd hu20 (by omega)).upd hu21 (by omega)).cell rfl) (L.op rfl rfl (O.fieldAddr Tryd.runUnderlying42 rfl Tryd.sizeOf37 rfl (L.op rfl rfl (O.load Tryd.isAgg37 rfl (hx21.cell rfl) (L.op rfl rfl (O.call (xs := [.tmp 52, .tmp 54]) Tryd.call30 rfl rfl (addTo_calls lo bv _ Pn ((lu r).getD k u0).vv (sumL (lu r) UnV.vs Pn done) ((lu r).getD k u0).vs w21 w ((hvI.upd hu20 (by omega)).upd hu21 (by omega)) (sumL_len _ _ _ _) hokk.vl (by omega) hat.v he21 (by omega) hbv2) (fun v22 w22 hq => ?_))))))))))))
      obtain ⟨rfl, hu22, hB22⟩ := hq
      rw [addAt_sum hokk.vl] at hB22
      have hs22 : w22.heap.size = w18.heap.size := by rw [hu22.size, hu21.size, hu20.size]
      refine L.nil (T.blk (T.roundEnd ⟨⟨he21.upd hu22 (.inr (by omega)), by omega, fun j hj => by rw [hs22]; exact hnI j hj, ⟨tf, ((hfI.upd hu20 (by omega)).upd hu21 (by omega)).upd hu22 (by omega)⟩, ((h5I.upd hu20 (by omega)).upd hu21 (by omega)).upd hu22 (by omega), ((h6I.upd hu20 (by omega)).upd hu21 (by omega)).upd hu22 (by omega), ((hmlI.upd hu20 (by omega)).upd hu21 (by omega)).upd hu22 (by omega), ((hmsI.upd hu20 (by omega)).upd hu21 (by omega)).upd hu22 (by omega), done ++ [k], by rw [List.append_assoc]; exact hdI, ?_, hB21.upd hu22 (by omega), hB22⟩, fun j hj => ?_⟩))
      · rw [sumK_append, sumK_one]; exact (hB20.upd hu21 (by omega)).upd hu22 (by omega)
      · have := hnI j hj
        rw [hu22.block j (by omega), hu21.block j (by omega), hu20.block j (by omega)]
    · rintro S D w18 hD hS0 hSD ⟨heI, hzI, hnI, ⟨tf, hfI⟩, h5I, h6I, hmlI, hmsI, done, hdI, h4I, hgI, hvI⟩ hD18
      rw [List.append_nil] at hdI
      refine T.blk (T.seq (?_))
      refine T.anyE mixed 5 [4, 5, 6] rfl [.is _, .is _, .is _, .is undef, .is undef] [[], [], [], [0], [1]] [[], [], [], [0], [0, 1, 3], [0, 1, 2, 3, 4], [0, 1, 2, 3, 4, 5]] (by kernel_rfl) (by kernel_rfl) rfl (by kernel_rfl) trivial ⟨fun wx hx => Ob.op rfl (O.load Tryd.isAgg3 rfl ((h4I.ext hx).cell rfl) ⟨Keep.refl _ _, rfl⟩),
          fun wx hx => Ob.op rfl (O.load Tryd.isAgg37 rfl ((h5I.ext hx).cell rfl) ⟨Keep.refl _ _, rfl⟩),
          fun wx hx => Ob.op rfl (O.load Tryd.isAgg37 rfl ((h6I.ext hx).cell rfl) ⟨Keep.refl _ _, rfl⟩),
          fun wx hx => Ob.op rfl (O.store1 Tryd.sizeOf3 rfl rfl rfl (h4I.ext hx) (by simp [Value.cells]) (fun w3 hu3 hB3 => ⟨ext_of_same hu3 (h4I.ext hx) hB3, rfl⟩)),
          fun wx hx => Ob.op rfl (O.store1 Tryd.sizeOf37 rfl rfl rfl (h5I.ext hx) (by simp [Value.cells]) (fun w3 hu3 hB3 => ⟨ext_of_same hu3 (h5I.ext hx) hB3, rfl⟩)),
          trivial⟩ (fun w30 he30 => ?_)
      refine L.op rfl rfl (O.store1 Tryd.sizeOf37 rfl rfl rfl (h6I.ext he30) (by simp [Value.cells]) (fun w31 hu31 hB31 => ?_))
      have he31 := ext_of_same hu31 (h6I.ext he30) hB31
      have he1831 := he30.trans he31
      have hD31 := he1831.blk (Nat.zero_le _) hD18
      have hz31 := he1831.size
      refine L.op rfl rfl (O.assign rfl (L.nil (T.retC3T Tryd.results11 Tryd.isAgg3 Tryd.isAgg37 Tryd.isAgg37 rfl rfl rfl rfl ⟨List.nodup_cons.2 ⟨List.not_mem_nil, List.nodup_nil⟩, fun r hr => by rw [List.mem_singleton] at hr; subst hr; exact hD31⟩ (fun w' hs => ⟨(hs.block b4 (by simp; omega)).trans (h4I.ext he1831) |> fun h => Blk.cell (b := b4) h rfl, (hs.block b5 (by simp; omega)).trans (h5I.ext he1831) |> fun h => Blk.cell (b := b5) h rfl, (hs.block b6 (by simp; omega)).trans (h6I.ext he1831) |> fun h => Blk.cell (b := b6) h rfl⟩) (fun w' hs => ⟨(heI.trans he1831).shut hs (fun q hq => by rw [List.mem_singleton] at hq; subst hq; exact .inr (by omega)), _, _, by rw [totErr_ok h0n hfit, totP, if_pos (totErr_ok h0n hfit), ← hdI], ?_, ?_⟩))))
      · rw [totG, if_pos (totErr_ok h0n hfit), ← hdI, hG, Int.toNat_natCast]
        exact Ints.of_blk ((hs.block bg (by simp; omega)).trans (hgI.ext he1831)) (sumL_len _ _ _ _) (by unfold maxLen; omega) (by omega)
      · rw [totV, if_pos (totErr_ok h0n hfit), ← hdI, hP, Int.toNat_natCast]
        exact Ints.of_blk ((hs.block bv (by simp; omega)).trans (hvI.ext he1831)) (sumL_len _ _ _ _) (by unfold maxLen; omega) (by omega)
    · exact fun _ _ _ _ _ _ h _ => h.elim

end Go.Proofs.YtpgnaffcbbghgaaDoor
set_option linter.unusedVariables false
set_option linter.unusedSimpArgs false
set_option maxRecDepth 20000
namespace Go.Proofs.YtpgnaffcbbghgaaDoor
open Go Go.E
attribute [local irreducible] Go.E.T Go.E.L Go.E.O Go.E.Ob

attribute [local irreducible] Go.E.ObX
theorem idxs_yes {set i : Nat} (h : set.testBit i = true) : idxs set (i + 1) = idxs set i ++ [i] := by rw [idxs_succ, h]; rfl
theorem idxs_no {set i : Nat} (h : set.testBit i = false) : idxs set (i + 1) = idxs set i := by rw [idxs_succ, h]; simp
theorem RTotal_calls (lo : Nat) (r : RoV) (set : Nat) (w : World) (hr : r.ok lo w) (hset : set < 18446744073709551616) :
    Calls Tryd.prog 18 #[r.val, .int .u64 set] w (Ret fun v w' => TotPost r set w v w') := by
  refine T.enter (vs := [r.val, .int .u64 set]) Tryd.func18 rfl Tryd.ntmps18 rfl ?_
  refine T.seq (T.region (L.op rfl rfl (O.box rfl (fun b2 w2 hb2 hz2 he2 hB2 => ?_))))
  have hC2 : Blk w2 b2 r.cells 32 := hB2
  refine L.op rfl rfl (O.assign rfl (L.op rfl rfl (O.assign rfl (L.op rfl rfl (O.assign rfl (L.op rfl rfl (O.assign rfl (L.nil (T.seq (T.seq (T.region (L.op rfl rfl (O.loadAgg Tryd.isAgg32 Tryd.sizeOf32 rfl rfl hC2.row (L.op rfl rfl (O.call (xs := [.tmp 16]) Tryd.call36 rfl rfl (RCheckRoll_calls lo r w2 (hr.ext he2)) (fun v7 w7 hq => ?_))))))))))))))))
  obtain ⟨rfl, he7⟩ := hq
  have he07 := he2.trans he7
  refine L.op rfl rfl (O.assign rfl (L.nil (T.seq (T.region (L.op rfl rfl (O.move rfl (L.op rfl rfl (O.neq_s rfl rfl (fun h0 => ?_) (fun h0 => ?_)))))))))
  · refine L.nil (T.cond_true rfl (T.seq (T.region (L.op rfl rfl (O.move rfl (L.op rfl rfl (O.assign rfl (L.op rfl rfl (O.assign rfl (L.op rfl rfl (O.assign rfl (L.op rfl rfl (O.assign rfl (L.nil (T.ret4 Tryd.results18 rfl rfl rfl rfl (TotPost.badE (totErr_roll h0) h0 he07))))))))))))))))
  · refine L.nil (?_)
    have h0n : rollErr r = 0 := by omega
    refine T.cond_false rfl (T.skip (T.seq (T.region (L.op rfl rfl (O.loadAgg Tryd.isAgg32 Tryd.sizeOf32 rfl rfl ((hC2.ext he7).row) (L.op rfl rfl (O.call (xs := [.tmp 21]) Tryd.call37 rfl rfl (Lands_calls lo r w7 (hr.ext he07)) (fun v8 w8 hq => ?_))))))))
    obtain ⟨rfl, he8⟩ := hq
    have he08 := he07.trans he8
    have hln := landsN_le r.us
    have hbnd := roll_bnd h0n
    have hC8 : Blk w8 b2 r.cells 32 := (hC2.ext he7).ext he8
    refine L.op rfl rfl (O.assign rfl (L.nil (T.seq (T.seq (T.region (L.op rfl rfl (O.move rfl (L.op rfl rfl (O.move rfl (L.op rfl rfl (O.call (xs := [.tmp 23, .tmp 24]) Tryd.call38 rfl rfl (Fits_calls set (landsN r.us) w8 hset (by omega)) (fun v9 w9 hq => ?_))))))))))))
    obtain ⟨rfl, rfl⟩ := hq
    cases hf : decide (set < 2 ^ landsN r.us)
    · refine L.op rfl rfl (O.not rfl (L.nil (T.cond_true rfl (T.seq (T.region (L.op rfl rfl (O.assign rfl (L.op rfl rfl (O.assign rfl (L.op rfl rfl (O.assign rfl (L.op rfl rfl (O.assign rfl (L.nil (T.ret4 Tryd.results18 rfl rfl rfl rfl (TotPost.badE (totErr_arg h0n (by simpa using hf)) (by decide) he08))))))))))))))))
    · have hfit : set < 2 ^ landsN r.us := by simpa using hf
      obtain ⟨G, hG⟩ : ∃ G : Nat, r.G = G := ⟨r.G.toNat, by omega⟩
      obtain ⟨Pn, hP⟩ : ∃ Pn : Nat, r.P = Pn := ⟨r.P.toNat, by omega⟩
      refine L.op rfl rfl (O.not rfl (L.nil (T.cond_false rfl (T.skip (T.seq (?_))))))
      refine T.anyF mixed 8 0 [2] rfl [.is _, .is _, .such (MadeZ w9.heap.size G), .is _, .is _, .such (MadeZ w9.heap.size Pn), .is _, .such (MadeZ w9.heap.size G)] [[], [0], [1], [], [3], [4], [], [2]] [none, none, none, none, none, none, none, none] [[], [0], [0, 1], [], [3], [3, 4], [], [0, 1, 2, 6], [0, 1, 2, 3, 4, 5, 6, 7]] [2, 5] [(7, 2, 29)] (fun _ _ u v _ => u = v) (fun _ wq => Ext w9 wq) (Ext) (fun i f v w hi hf hh => by { rcases (show i = 2 ∨ i = 5 by simpa using hi) with rfl | rfl <;> (simp only [List.getElem?_cons_succ, List.getElem?_cons_zero, Option.some.injEq] at hf; subst hf; exact MadeZ.lt hh) }) (fun i j vi vj W W' hr h => h) (by kernel_rfl) (by kernel_rfl) (by kernel_rfl) (by kernel_rfl) rfl ⟨MadeZ.st, MadeZ.st, MadeZ.st, trivial⟩ (Keep.drew _ _) ⟨fun c wx hx => ObX.op rfl (O.fieldAddr Tryd.runUnderlying32 rfl Tryd.sizeOf3 rfl ⟨⟨Keep.refl _ _, hx⟩, rfl, trivial, trivial⟩),
          fun c wx hx => ObX.op rfl (O.load Tryd.isAgg3 rfl ((hC8.ext hx).cell rfl) ⟨⟨Keep.refl _ _, hx⟩, rfl, trivial, trivial⟩),
          fun c wx hx => ObX.op rfl (O.makeSlice Tryd.runUnderlying37 Tryd.typeInfo3 Tryd.sizeOf3 Tryd.zeroValue3 rfl rfl hG (by show G * 8 ≤ _; omega) (by omega) (fun b3 w3 hb3 hz3 he3 hB3 => and3 ⟨⟨he3, hx.trans he3⟩, b3, by have := hx.size; omega, rfl, hB3⟩ ⟨fun b h => by { cases h; exact Nat.le_of_eq hb3.symm }, trivial⟩)),
          fun c wx hx => ObX.op rfl (O.fieldAddr Tryd.runUnderlying32 rfl Tryd.sizeOf3 rfl ⟨⟨Keep.refl _ _, hx⟩, rfl, trivial, trivial⟩),
          fun c wx hx => ObX.op rfl (O.load Tryd.isAgg3 rfl ((hC8.ext hx).cell rfl) ⟨⟨Keep.refl _ _, hx⟩, rfl, trivial, trivial⟩),
          fun c wx hx => ObX.op rfl (O.makeSlice Tryd.runUnderlying37 Tryd.typeInfo3 Tryd.sizeOf3 Tryd.zeroValue3 rfl rfl hP (by show Pn * 8 ≤ _; omega) (by omega) (fun b3 w3 hb3 hz3 he3 hB3 => and3 ⟨⟨he3, hx.trans he3⟩, b3, by have := hx.size; omega, rfl, hB3⟩ ⟨fun b h => by { cases h; exact Nat.le_of_eq hb3.symm }, trivial⟩)),
          fun c wx hx => ObX.op rfl (O.assign rfl (and3 ⟨⟨Keep.refl _ _, hx⟩, rfl⟩ ⟨trivial, trivial⟩)),
          fun c wx hx v29 hv29 => by { obtain ⟨bq, hbq, rfl, hBq⟩ := hv29; exact ObX.op rfl (O.assign rfl (and3 ⟨⟨Keep.refl _ _, hx⟩, ⟨bq, hbq, rfl, hBq⟩⟩ ⟨trivial, fun u hu => by { cases hu; rfl }⟩)) },
          trivial⟩ (fun w10 hI10 v29 hv29 v32 hv32 v11 hv11 hp10 => ?_)
      obtain ⟨vj, hvj, hfr, _⟩ := hp10 2 5 _ _ _ _ (by decide) (by decide) rfl rfl rfl rfl
      obtain rfl := hvj _ _ rfl rfl
      obtain ⟨vk, hvk, _, hlk⟩ := hp10 2 7 _ _ _ _ (by decide) (by decide) rfl rfl rfl rfl
      obtain rfl := hvk _ _ rfl rfl
      obtain rfl := hlk rfl
      obtain ⟨bg, hbg, rfl, hBg⟩ := hv29
      obtain ⟨bv, hbv, rfl, hBv⟩ := hv32
      have hne : bg ≠ bv := fun e => hfr bg rfl (by rw [e]; rfl)
      have hz10 := Keep.size hI10
      have hz08 := he08.size
      have he010 : Ext w w10 := he08.trans hI10
      have hlg := hBg.lt
      have hlv := hBv.lt
      have hb2 := hC8.lt
      have hll2 := lu_len r
      have hGm : G ≤ maxLen := by unfold maxLen; omega
      have hPm : Pn ≤ maxLen := by unfold maxLen; omega
      have hBg10 : Blk w10 bg ((sumL (lu r) UnV.gs G (idxs set 0)).map (Value.int .i64)) 3 := by rw [show idxs set 0 = [] from rfl, sumL_nil, List.map_replicate]; exact hBg
      have hBv10 : Blk w10 bv ((sumL (lu r) UnV.vs Pn (idxs set 0)).map (Value.int .i64)) 3 := by rw [show idxs set 0 = [] from rfl, sumL_nil, List.map_replicate]; exact hBv
      refine L.op rfl rfl (O.assign rfl (L.nil (T.seq (T.seq (T.region (L.op rfl rfl (O.assign rfl (L.nil (T.block (?_))))))))))
      refine T.loop (σ := Nat) (fun i => [(1, .int .u64 set), (2, .pointer (some ⟨b2, 0, none⟩)), (9, .int .i64 (landsN r.us)), (10, .int .i64 (sumK (lu r) UnV.pp (idxs set i))), (11, .slice (some ⟨bg, 0, none⟩) G G), (12, .slice (some ⟨bv, 0, none⟩) Pn Pn), (13, .int .i64 i)]) (fun i w' => i ≤ landsN r.us ∧ Ext w w' ∧ w10.heap.size ≤ w'.heap.size ∧ Blk w' b2 r.cells 32 ∧ Blk w' bg ((sumL (lu r) UnV.gs G (idxs set i)).map (Value.int .i64)) 3 ∧ Blk w' bv ((sumL (lu r) UnV.vs Pn (idxs set i)).map (Value.int .i64)) 3) (fun i => landsN r.us - i) (0) ⟨rfl, rfl, rfl, rfl, rfl, rfl, rfl, trivial⟩ ⟨Nat.zero_le _, he010, Nat.le_refl _, hC8.ext hI10, hBg10, hBv10⟩ ?_
      rintro i w11 ⟨hi, he11, hz11, hC11, hg11, hv11⟩
      refine T.seq (T.seq (T.region (L.op rfl rfl (O.move rfl (L.op rfl rfl (O.move rfl (L.op rfl rfl (O.lss_s rfl rfl (fun hlt => ?_) (fun hlt => ?_)))))))))
      · refine L.nil (?_)
        have hlt' : i < landsN r.us := by omega
        refine T.cond_true rfl (T.skip (T.seq (T.block (T.seq (T.seq (T.region (L.op rfl rfl (O.move rfl (L.op rfl rfl (O.move rfl (L.op rfl rfl (O.call (xs := [.tmp 38, .tmp 39]) Tryd.call39 rfl rfl (Has_calls set i w11 hset (by omega)) (fun v12 w12 hq => ?_)))))))))))))
        obtain ⟨rfl, rfl⟩ := hq
        cases hbit : set.testBit i
        · refine L.op rfl rfl (O.not rfl (L.nil (T.cond_true rfl (T.exit rfl (T.region (L.op rfl rfl (O.move rfl (L.op rfl rfl (O.add64 rfl rfl (by omega) (L.op rfl rfl (O.assign rfl (L.nil (T.again (i + 1) (by omega) ⟨rfl, rfl, rfl, ?_, rfl, rfl, rfl, trivial⟩ ⟨hlt', he11, hz11, hC11, by rw [idxs_no hbit]; exact hg11, by rw [idxs_no hbit]; exact hv11⟩)))))))))))))
          · rw [idxs_no hbit]; rfl
        · have hiu : i < r.us.length := by omega
          have hU := hr.ext he11
          have hkk : ∀ j ∈ idxs set i, j ∈ idxs set (lu r).length := fun j hj => by
            have h1 := idxs_lt hj
            simp only [idxs, List.mem_filter, List.mem_range] at hj ⊢
            exact ⟨by omega, hj.2⟩
          have hokd := idx_ok h0n hG hP hkk
          have hoki := unit_ok h0n hG hP hiu
          have hdl := idxs_len set i
          have hp1 := sumK_le (lu r) UnV.pp 1000000000 (by decide) (idxs set i) (fun j hj => ⟨(hokd j hj).p0, (hokd j hj).p1⟩)
          have hk0 := hoki.p0
          have hk1 := hoki.p1
          have hat : (r.us.getD i u0).ok lo w12 := Units.at hU hiu
          have hgi := lu_get hlt'
          have hgd : ∀ q, q < G → 0 ≤ (sumL (lu r) UnV.gs G (idxs set i)).getD q 0 ∧ (sumL (lu r) UnV.gs G (idxs set i)).getD q 0 ≤ 64000000000 := fun q hq => by
            rw [sumL_get hq]
            have := sumK_le (lu r) (fun u => u.gs.getD q 0) 1000000000 (by decide) (idxs set i) (fun j hj => ⟨((hokd j hj).g q hq).1, by have := ((hokd j hj).g q hq).2; have := (hokd j hj).p1; omega⟩)
            omega
          have hvd : ∀ q, q < Pn → 0 ≤ (sumL (lu r) UnV.vs Pn (idxs set i)).getD q 0 ∧ (sumL (lu r) UnV.vs Pn (idxs set i)).getD q 0 ≤ 64000000000 := fun q hq => by
            rw [sumL_get hq]
            have := sumK_le (lu r) (fun u => u.vs.getD q 0) 1000000000 (by decide) (idxs set i) (fun j hj => (hokd j hj).v q hq)
            omega
          refine L.op rfl rfl (O.not rfl (L.nil (T.cond_false rfl (T.skip (T.seq (T.region (L.op rfl rfl (O.move rfl (L.op rfl rfl (O.fieldAddr Tryd.runUnderlying32 rfl Tryd.sizeOf30 rfl (L.op rfl rfl (O.load Tryd.isAgg30 rfl (hC11.cell rfl) (L.op rfl rfl (O.move rfl (L.op rfl rfl (O.indexAddr Tryd.runUnderlying30 Tryd.sizeOf42 rfl rfl hU.sl (by omega) (by omega) (L.op rfl rfl (O.fieldAddr Tryd.runUnderlying42 rfl Tryd.sizeOf3 rfl (L.op rfl rfl (O.load Tryd.isAgg3 rfl ((Units.row hU hiu) 1 _ rfl) (L.op rfl rfl (O.add64 rfl rfl (by omega) (L.op rfl rfl (O.assign rfl (L.nil (T.seq (T.seq (T.region (L.op rfl rfl (O.assign rfl (L.nil (T.block (?_)))))))))))))))))))))))))))))))))
          refine T.loop (σ := Nat) (fun k => [(1, .int .u64 set), (2, .pointer (some ⟨b2, 0, none⟩)), (9, .int .i64 (landsN r.us)), (10, .int .i64 (sumK (lu r) UnV.pp (idxs set (i + 1)))), (11, .slice (some ⟨bg, 0, none⟩) G G), (12, .slice (some ⟨bv, 0, none⟩) Pn Pn), (13, .int .i64 i), (14, .int .i64 k)]) (fun k w' => k ≤ G ∧ Ext w w' ∧ w10.heap.size ≤ w'.heap.size ∧ Blk w' b2 r.cells 32 ∧ Blk w' bg ((addAt (sumL (lu r) UnV.gs G (idxs set i)) (r.us.getD i u0).gs k).map (Value.int .i64)) 3 ∧ Blk w' bv ((sumL (lu r) UnV.vs Pn (idxs set i)).map (Value.int .i64)) 3) (fun k => G - k) (0) ⟨rfl, rfl, rfl, ?_, rfl, rfl, rfl, rfl, trivial⟩ ⟨Nat.zero_le _, he11, hz11, hC11, hg11, hv11⟩ ?_
          · rw [idxs_yes hbit, sumK_append, sumK_one, hgi]; rfl
          rintro k w13 ⟨hk, he13, hz13, hC13, hg13, hv13⟩
          have hU13 := hr.ext he13
          refine T.seq (T.seq (T.region (L.op rfl rfl (O.move rfl (L.op rfl rfl (O.fieldAddr Tryd.runUnderlying32 rfl Tryd.sizeOf3 rfl (L.op rfl rfl (O.load Tryd.isAgg3 rfl (hC13.cell rfl) (L.op rfl rfl (O.lss_s rfl rfl (fun hlk => ?_) (fun hlk => ?_)))))))))))
          · refine L.nil (?_)
            have hlk' : k < G := by omega
            have hX : ∀ W, Ext w13 W → Ints .i64 0 W (.slice (some ⟨bg, 0, none⟩) G G) (addAt (sumL (lu r) UnV.gs G (idxs set i)) (r.us.getD i u0).gs k) := fun W hW => Ints.of_blk (hg13.ext hW) (by rw [addAt_len, sumL_len]) hGm (Nat.zero_le _)
            have hall : (addAt (sumL (lu r) UnV.gs G (idxs set i)) (r.us.getD i u0).gs k).length = G := by rw [addAt_len, sumL_len]
            have hgg : (addAt (sumL (lu r) UnV.gs G (idxs set i)) (r.us.getD i u0).gs k).getD k 0 = (sumL (lu r) UnV.gs G (idxs set i)).getD k 0 := by rw [addAt_get _ _ _ _ (by rw [sumL_len]; exact hlk'), if_neg (by omega)]
            have hgb := hgd k hlk'
            have hub := hoki.g k hlk'
            have hgl := hoki.gl
            have hat13 : (r.us.getD i u0).ok lo w13 := Units.at hU13 hiu
            refine T.cond_true rfl (T.skip (T.seq (T.block (?_))))
            refine T.anyE mixed 16 [11, 14, 2, 13] rfl [.is _, .is _, .is _, .is _, .is _, .is _, .is _, .is _, .is _, .is _, .is _, .is _, .is _, .is _, .is _, .is _] [[], [], [], [], [2, 3], [4], [], [6], [], [7, 8], [9], [10], [], [11, 12], [13], [5, 14]] [[], [], [], [], [2, 3], [2, 3, 4], [], [6], [], [6, 7, 8], [6, 7, 8, 9], [6, 7, 8, 9, 10], [], [6, 7, 8, 9, 10, 11, 12], [6, 7, 8, 9, 10, 11, 12, 13], [2, 3, 4, 5, 6, 7, 8, 9, 10, 11, 12, 13, 14], [0, 1, 2, 3, 4, 5, 6, 7, 8, 9, 10, 11, 12, 13, 14, 15], [0, 1, 2, 3, 4, 5, 6, 7, 8, 9, 10, 11, 12, 13, 14, 15, 16]] (by kernel_rfl) (by kernel_rfl) rfl (by kernel_rfl) trivial ⟨fun wx hx => Ob.op rfl (O.move rfl ⟨Keep.refl _ _, rfl⟩),
                fun wx hx => Ob.op rfl (O.move rfl ⟨Keep.refl _ _, rfl⟩),
                fun wx hx => Ob.op rfl (O.move rfl ⟨Keep.refl _ _, rfl⟩),
                fun wx hx => Ob.op rfl (O.move rfl ⟨Keep.refl _ _, rfl⟩),
                fun wx hx => Ob.op rfl (O.indexAddr Tryd.runUnderlying37 Tryd.sizeOf3 rfl rfl (hX _ hx) (by omega) (by rw [hall]; omega) ⟨Keep.refl _ _, rfl⟩),
                fun wx hx => Ob.op rfl (O.load Tryd.isAgg3 rfl (Ints.at (hX _ hx) (by rw [hall]; omega)) ⟨Keep.refl _ _, rfl⟩),
                fun wx hx => Ob.op rfl (O.fieldAddr Tryd.runUnderlying32 rfl Tryd.sizeOf30 rfl ⟨Keep.refl _ _, rfl⟩),
                fun wx hx => Ob.op rfl (O.load Tryd.isAgg30 rfl ((hC13.ext hx).cell rfl) ⟨Keep.refl _ _, rfl⟩),
                fun wx hx => Ob.op rfl (O.move rfl ⟨Keep.refl _ _, rfl⟩),
                fun wx hx => Ob.op rfl (O.indexAddr Tryd.runUnderlying30 Tryd.sizeOf42 rfl rfl ((Units.ext hU13 hx).sl) (by omega) (by omega) ⟨Keep.refl _ _, rfl⟩),
                fun wx hx => Ob.op rfl (O.fieldAddr Tryd.runUnderlying42 rfl Tryd.sizeOf37 rfl ⟨Keep.refl _ _, rfl⟩),
                fun wx hx => Ob.op rfl (O.load Tryd.isAgg37 rfl (((Units.ext hU13 hx).row hiu) 2 _ rfl) ⟨Keep.refl _ _, rfl⟩),
                fun wx hx => Ob.op rfl (O.move rfl ⟨Keep.refl _ _, rfl⟩),
                fun wx hx => Ob.op rfl (O.indexAddr Tryd.runUnderlying37 Tryd.sizeOf3 rfl rfl (hat13.g.ext hx) (by omega) (by omega) ⟨Keep.refl _ _, rfl⟩),
                fun wx hx => Ob.op rfl (O.load Tryd.isAgg3 rfl (Ints.at (hat13.g.ext hx) (by omega)) ⟨Keep.refl _ _, rfl⟩),
                fun wx hx => Ob.op rfl (O.add64 rfl rfl (by rw [hgg]; omega) ⟨Keep.refl _ _, rfl⟩),
                trivial⟩ (fun w14 he14 => ?_)
            refine L.op rfl rfl (O.indexAddr Tryd.runUnderlying37 Tryd.sizeOf3 rfl rfl (hX _ he14) (by omega) (by rw [hall]; omega) (L.op rfl rfl (O.store1_at Tryd.sizeOf3 rfl rfl rfl (hg13.ext he14) (by rw [List.length_map, hall]; omega) (fun w15 hu15 hB15 => ?_))))
            have hz14 := he14.size
            refine L.nil (T.blk (T.region (L.op rfl rfl (O.move rfl (L.op rfl rfl (O.add64 rfl rfl (by omega) (L.op rfl rfl (O.assign rfl (L.nil (T.again (k + 1) (by omega) ⟨rfl, rfl, rfl, rfl, rfl, rfl, rfl, rfl, trivial⟩ ⟨hlk', (he13.trans he14).upd hu15 (.inr (by omega)), by have := hu15.size; omega, (hC13.ext he14).upd hu15 (by omega), ?_, (hv13.ext he14).upd hu15 (by omega)⟩))))))))))
            · rw [hgg, show 0 + (k : Int).toNat * 1 = k by omega] at hB15
              rw [addAt, List.map_set]; exact hB15
          · refine L.nil (?_)
            obtain rfl : k = G := by omega
            have hg13' : Blk w13 bg ((sumL (lu r) UnV.gs k (idxs set (i + 1))).map (Value.int .i64)) 3 := by rw [idxs_yes hbit, ← addAt_sum (by rw [hgi]; exact hoki.gl), hgi]; exact hg13
            refine T.cond_false rfl (T.exit rfl (T.seq (T.region (L.op rfl rfl (O.assign rfl (L.nil (T.block (?_))))))))
            refine T.loop (σ := Nat) (fun q => [(1, .int .u64 set), (2, .pointer (some ⟨b2, 0, none⟩)), (9, .int .i64 (landsN r.us)), (10, .int .i64 (sumK (lu r) UnV.pp (idxs set (i + 1)))), (11, .slice (some ⟨bg, 0, none⟩) k k), (12, .slice (some ⟨bv, 0, none⟩) Pn Pn), (13, .int .i64 i), (15, .int .i64 q)]) (fun q w' => q ≤ Pn ∧ Ext w w' ∧ w10.heap.size ≤ w'.heap.size ∧ Blk w' b2 r.cells 32 ∧ Blk w' bg ((sumL (lu r) UnV.gs k (idxs set (i + 1))).map (Value.int .i64)) 3 ∧ Blk w' bv ((addAt (sumL (lu r) UnV.vs Pn (idxs set i)) (r.us.getD i u0).vs q).map (Value.int .i64)) 3) (fun q => Pn - q) (0) ⟨rfl, rfl, rfl, rfl, rfl, rfl, rfl, rfl, trivial⟩ ⟨Nat.zero_le _, he13, hz13, hC13, hg13', hv13⟩ ?_
            rintro q w14 ⟨hq, he14, hz14, hC14, hg14, hv14⟩
            have hU14 := hr.ext he14
            refine T.seq (T.seq (T.region (L.op rfl rfl (O.move rfl (L.op rfl rfl (O.fieldAddr Tryd.runUnderlying32 rfl Tryd.sizeOf3 rfl (L.op rfl rfl (O.load Tryd.isAgg3 rfl (hC14.cell rfl) (L.op rfl rfl (O.lss_s rfl rfl (fun hlq => ?_) (fun hlq => ?_)))))))))))
            · refine L.nil (?_)
              have hlq' : q < Pn := by omega
              have hX : ∀ W, Ext w14 W → Ints .i64 0 W (.slice (some ⟨bv, 0, none⟩) Pn Pn) (addAt (sumL (lu r) UnV.vs Pn (idxs set i)) (r.us.getD i u0).vs q) := fun W hW => Ints.of_blk (hv14.ext hW) (by rw [addAt_len, sumL_len]) hPm (Nat.zero_le _)
              have hall : (addAt (sumL (lu r) UnV.vs Pn (idxs set i)) (r.us.getD i u0).vs q).length = Pn := by rw [addAt_len, sumL_len]
              have hgg : (addAt (sumL (lu r) UnV.vs Pn (idxs set i)) (r.us.getD i u0).vs q).getD q 0 = (sumL (lu r) UnV.vs Pn (idxs set i)).getD q 0 := by rw [addAt_get _ _ _ _ (by rw [sumL_len]; exact hlq'), if_neg (by omega)]
              have hgb := hvd q hlq'
              have hub := hoki.v q hlq'
              have hgl := hoki.vl
              have hat14 : (r.us.getD i u0).ok lo w14 := Units.at hU14 hiu
              refine T.cond_true rfl (T.skip (T.seq (T.block (?_))))
              refine T.anyE mixed 16 [12, 15, 2, 13] rfl [.is _, .is _, .is _, .is _, .is _, .is _, .is _, .is _, .is _, .is _, .is _, .is _, .is _, .is _, .is _, .is _] [[], [], [], [], [2, 3], [4], [], [6], [], [7, 8], [9], [10], [], [11, 12], [13], [5, 14]] [[], [], [], [], [2, 3], [2, 3, 4], [], [6], [], [6, 7, 8], [6, 7, 8, 9], [6, 7, 8, 9, 10], [], [6, 7, 8, 9, 10, 11, 12], [6, 7, 8, 9, 10, 11, 12, 13], [2, 3, 4, 5, 6, 7, 8, 9, 10, 11, 12, 13, 14], [0, 1, 2, 3, 4, 5, 6, 7, 8, 9, 10, 11, 12, 13, 14, 15], [0, 1, 2, 3, 4, 5, 6, 7, 8, 9, 10, 11, 12, 13, 14, 15, 16]] (by kernel_rfl) (by kernel_rfl) rfl (by kernel_rfl) trivial ⟨fun wx hx => Ob.op rfl (O.move rfl ⟨Keep.refl _ _, rfl⟩),
                  fun wx hx => Ob.op rfl (O.move rfl ⟨Keep.refl _ _, rfl⟩),
                  fun wx hx => Ob.op rfl (O.move rfl ⟨Keep.refl _ _, rfl⟩),
                  fun wx hx => Ob.op rfl (O.move rfl ⟨Keep.refl _ _, rfl⟩),
                  fun wx hx => Ob.op rfl (O.indexAddr Tryd.runUnderlying37 Tryd.sizeOf3 rfl rfl (hX _ hx) (by omega) (by rw [hall]; omega) ⟨Keep.refl _ _, rfl⟩),
                  fun wx hx => Ob.op rfl (O.load Tryd.isAgg3 rfl (Ints.at (hX _ hx) (by rw [hall]; omega)) ⟨Keep.refl _ _, rfl⟩),
                  fun wx hx => Ob.op rfl (O.fieldAddr Tryd.runUnderlying32 rfl Tryd.sizeOf30 rfl ⟨Keep.refl _ _, rfl⟩),
                  fun wx hx => Ob.op rfl (O.load Tryd.isAgg30 rfl ((hC14.ext hx).cell rfl) ⟨Keep.refl _ _, rfl⟩),
                  fun wx hx => Ob.op rfl (O.move rfl ⟨Keep.refl _ _, rfl⟩),
                  fun wx hx => Ob.op rfl (O.indexAddr Tryd.runUnderlying30 Tryd.sizeOf42 rfl rfl ((Units.ext hU14 hx).sl) (by omega) (by omega) ⟨Keep.refl _ _, rfl⟩),
                  fun wx hx => Ob.op rfl (O.fieldAddr Tryd.runUnderlying42 rfl Tryd.sizeOf37 rfl ⟨Keep.refl _ _, rfl⟩),
                  fun wx hx => Ob.op rfl (O.load Tryd.isAgg37 rfl (((Units.ext hU14 hx).row hiu) 3 _ rfl) ⟨Keep.refl _ _, rfl⟩),
                  fun wx hx => Ob.op rfl (O.move rfl ⟨Keep.refl _ _, rfl⟩),
                  fun wx hx => Ob.op rfl (O.indexAddr Tryd.runUnderlying37 Tryd.sizeOf3 rfl rfl (hat14.v.ext hx) (by omega) (by omega) ⟨Keep.refl _ _, rfl⟩),
                  fun wx hx => Ob.op rfl (O.load Tryd.isAgg3 rfl (Ints.at (hat14.v.ext hx) (by omega)) ⟨Keep.refl _ _, rfl⟩),
                  fun wx hx => Ob.op rfl (O.add64 rfl rfl (by rw [hgg]; omega) ⟨Keep.refl _ _, rfl⟩),
                  trivial⟩ (fun w15 he15 => ?_)
              refine L.op rfl rfl (O.indexAddr Tryd.runUnderlying37 Tryd.sizeOf3 rfl rfl (hX _ he15) (by omega) (by rw [hall]; omega) (L.op rfl rfl (O.store1_at Tryd.sizeOf3 rfl rfl rfl (hv14.ext he15) (by rw [List.length_map, hall]; omega) (fun w16 hu16 hB16 => ?_))))
              have hz15 := he15.size
              refine L.nil (T.blk (T.region (L.op rfl rfl (O.move rfl (L.op rfl rfl (O.add64 rfl rfl (by omega) (L.op rfl rfl (O.assign rfl (L.nil (T.again (q + 1) (by omega) ⟨rfl, rfl, rfl, rfl, rfl, rfl, rfl, rfl, trivial⟩ ⟨hlq', (he14.trans he15).upd hu16 (.inr (by omega)), by have := hu16.size; omega, (hC14.ext he15).upd hu16 (by omega), (hg14.ext he15).upd hu16 (by omega), ?_⟩))))))))))
              · rw [hgg, show 0 + (q : Int).toNat * 1 = q by omega] at hB16
                rw [addAt, List.map_set]; exact hB16
            · refine L.nil (?_)
              obtain rfl : q = Pn := by omega
              refine T.cond_false rfl (T.exit rfl (T.blk (T.region (L.op rfl rfl (O.move rfl (L.op rfl rfl (O.add64 rfl rfl (by omega) (L.op rfl rfl (O.assign rfl (L.nil (T.again (i + 1) (by omega) ⟨rfl, rfl, rfl, rfl, rfl, rfl, rfl, trivial⟩ ⟨hlt', he14, hz14, hC14, hg14, ?_⟩)))))))))))
              · rw [idxs_yes hbit, ← addAt_sum (by rw [hgi]; exact hoki.vl), hgi]; exact hv14
      · refine L.nil (?_)
        obtain rfl : i = landsN r.us := by omega
        refine T.cond_false rfl (T.exit rfl (T.seq (T.region (L.op rfl rfl (O.move rfl (L.op rfl rfl (O.move rfl (L.op rfl rfl (O.move rfl (L.op rfl rfl (O.assign rfl (L.op rfl rfl (O.assign rfl (L.op rfl rfl (O.assign rfl (L.op rfl rfl (O.assign rfl (L.nil (T.ret4 Tryd.results18 rfl rfl rfl rfl ⟨he11, _, _, by rw [totErr_ok h0n hfit, totP, if_pos (totErr_ok h0n hfit), hll2], ?_, ?_⟩)))))))))))))))))))
        · rw [totG, if_pos (totErr_ok h0n hfit), hll2, hG, Int.toNat_natCast]
          exact Ints.of_blk hg11 (sumL_len _ _ _ _) hGm (by omega)
        · rw [totV, if_pos (totErr_ok h0n hfit), hll2, hP, Int.toNat_natCast]
          exact Ints.of_blk hv11 (sumL_len _ _ _ _) hPm (by omega)

end Go.Proofs.YtpgnaffcbbghgaaDoor
set_option linter.unusedVariables false
set_option linter.unusedSimpArgs false
set_option maxRecDepth 20000
namespace Go.Proofs.YtpgnaffcbbghgaaDoor
open Go Go.E
attribute [local irreducible] Go.E.T Go.E.L Go.E.O Go.E.Ob

theorem totals_calls (lo l1 l2 : Nat) (r : RoV) (set : Nat) (m : Int) (g x : Value) (gs xs : List Int) (w : World) (hr : r.ok lo w) (hset : set < 18446744073709551616) (hg : Ints .i64 l1 w g gs) (hx : Ints .i64 l2 w x xs) :
    Calls Tryd.prog 12 #[r.val, .int .u64 set, .int .i64 m, g, x] w (Ret fun v w' => v = .bool (decide (totP r set = m ∧ totErr r set = 0 ∧ totG r set = gs ∧ totV r set = xs)) ∧ Ext w w') := by
  refine T.enter (vs := [r.val, .int .u64 set, .int .i64 m, g, x]) Tryd.func12 rfl Tryd.ntmps12 rfl ?_
  refine T.seq (T.region (L.op rfl rfl (O.box rfl (fun b1 w1 hb1 hz1 he1 hB1 => ?_))))
  have hC1 : Blk w1 b1 r.cells _ := hB1
  refine L.op rfl rfl (O.assign rfl (L.nil (T.seq (T.region (L.op rfl rfl (O.loadAgg Tryd.isAgg32 Tryd.sizeOf32 rfl rfl hC1.row (L.op rfl rfl (O.move rfl (L.op rfl rfl (O.call (xs := [.tmp 16, .tmp 17]) Tryd.call11 rfl rfl (Total_calls lo r set w1 (hr.ext he1) hset) (fun v2 w2 hq => ?_)))))))))))
  obtain ⟨he2, g2, x2, rfl, hg2, hx2⟩ := hq
  have he02 := he1.trans he2
  refine L.op rfl rfl (O.move rfl (L.op rfl rfl (O.extract rfl rfl (L.op rfl rfl (O.extract rfl rfl (L.op rfl rfl (O.extract rfl rfl (L.op rfl rfl (O.extract rfl rfl (L.op rfl rfl (O.assign rfl (L.op rfl rfl (O.assign rfl (L.op rfl rfl (O.assign rfl (L.op rfl rfl (O.assign rfl (L.nil (T.seq (T.region (L.op rfl rfl (O.move rfl (L.op rfl rfl (O.move rfl (L.op rfl rfl (O.eql_s rfl rfl (fun hm => ?_) (fun hm => ?_)))))))))))))))))))))))))))
  · refine L.op rfl rfl (O.move rfl (L.op rfl rfl (O.move rfl (L.op rfl rfl (O.eql_s rfl rfl (fun h0 => ?_) (fun h0 => ?_))))))
    · refine L.op rfl rfl (O.pick_true rfl rfl (L.op rfl rfl (O.move rfl (L.op rfl rfl (O.move rfl (L.op rfl rfl (O.move rfl (L.op rfl rfl (O.call (xs := [.tmp 31, .tmp 32]) Tryd.call19 rfl rfl (equalI_calls _ l1 g2 g _ gs w2 hg2 (hg.ext he02)) (fun v3 w3 hq => ?_))))))))))
      obtain ⟨rfl, he3⟩ := hq
      cases he : decide (totG r set = gs)
      · refine L.op rfl rfl (O.pick_true rfl rfl (L.op rfl rfl (O.move rfl (L.pass rfl rfl (L.pass rfl rfl (L.pass rfl rfl (L.op rfl rfl (O.pick_false rfl rfl (L.op rfl rfl (O.assign rfl (L.nil (T.ret1 Tryd.results12 rfl ⟨by rw [decide_eq_false (fun h => by rw [decide_eq_true h.2.2.1] at he; cases he)], he02.trans he3⟩))))))))))))
      · refine L.op rfl rfl (O.pick_true rfl rfl (L.op rfl rfl (O.move rfl (L.op rfl rfl (O.move rfl (L.op rfl rfl (O.move rfl (L.op rfl rfl (O.call (xs := [.tmp 36, .tmp 37]) Tryd.call19 rfl rfl (equalI_calls _ l2 x2 x _ xs w3 (hx2.ext he3) (hx.ext (he02.trans he3))) (fun v4 w4 hq => ?_))))))))))
        obtain ⟨rfl, he4⟩ := hq
        refine L.op rfl rfl (O.pick_true rfl rfl (L.op rfl rfl (O.assign rfl (L.nil (T.ret1 Tryd.results12 rfl ⟨?_, (he02.trans he3).trans he4⟩)))))
        by_cases hq : totV r set = xs
        · rw [decide_eq_true hq, decide_eq_true ⟨hm, h0, by simpa using he, hq⟩]
        · rw [decide_eq_false hq, decide_eq_false (fun h => hq h.2.2.2)]
    · refine L.op rfl rfl (O.pick_true rfl rfl (L.op rfl rfl (O.move rfl (L.pass rfl rfl (L.pass rfl rfl (L.pass rfl rfl (L.op rfl rfl (O.pick_false rfl rfl (L.op rfl rfl (O.move rfl (L.pass rfl rfl (L.pass rfl rfl (L.pass rfl rfl (L.op rfl rfl (O.pick_false rfl rfl (L.op rfl rfl (O.assign rfl (L.nil (T.ret1 Tryd.results12 rfl ⟨by rw [decide_eq_false (fun h => h0 h.2.1)], he02⟩)))))))))))))))))))
  · refine L.op rfl rfl (O.move rfl (L.pass rfl rfl (L.pass rfl rfl (L.op rfl rfl (O.pick_false rfl rfl (L.op rfl rfl (O.move rfl (L.pass rfl rfl (L.pass rfl rfl (L.pass rfl rfl (L.op rfl rfl (O.pick_false rfl rfl (L.op rfl rfl (O.move rfl (L.pass rfl rfl (L.pass rfl rfl (L.pass rfl rfl (L.op rfl rfl (O.pick_false rfl rfl (L.op rfl rfl (O.assign rfl (L.nil (T.ret1 Tryd.results12 rfl ⟨by rw [decide_eq_false (fun h => hm h.1)], he02⟩)))))))))))))))))))))))

/-- The units of a set whose number at a level is this one. -/
def famTo (us : List UnV) (level : Nat) (n : Int) : Nat → Nat
  | 0 => 0
  | i + 1 => if (us.getD i u0).ps.getD level 0 = n then famTo us level n i ||| bit64 i else famTo us level n i
theorem famTo_lt (us : List UnV) (level : Nat) (n : Int) : ∀ i, famTo us level n i < 18446744073709551616
  | 0 => by simp [famTo]
  | i + 1 => by
    simp only [famTo]
    split
    · exact Nat.or_lt_two_pow (n := 64) (famTo_lt us level n i) (bit64_lt i)
    · exact famTo_lt us level n i
/-- The parents: numbers below k that have units. -/
def parsTo (us : List UnV) (level : Nat) : Nat → List (Int × Nat)
  | 0 => []
  | k + 1 => if famTo us level k us.length = 0 then parsTo us level k else parsTo us level k ++ [((k : Int), famTo us level k us.length)]
theorem parsTo_len (us : List UnV) (level : Nat) : ∀ k, (parsTo us level k).length ≤ k
  | 0 => Nat.le_refl _
  | k + 1 => by
    have := parsTo_len us level k
    simp only [parsTo]; split <;> simp <;> omega
def pcells : List (Int × Nat) → List Value
  | [] => []
  | q :: r => .int .i64 q.1 :: wordV q.2 :: pcells r
theorem pcells_len : ∀ ps, (pcells ps).length = ps.length * 2
  | [] => rfl
  | q :: r => by simp [pcells, pcells_len r]; omega
theorem pcells_append : ∀ a b, pcells (a ++ b) = pcells a ++ pcells b
  | [], b => rfl
  | q :: r, b => by simp [pcells, pcells_append r b]
def Pars (lo : Nat) (w : World) (v : Value) (ps : List (Int × Nat)) : Prop := Sl lo w v ps.length 2 (pcells ps)
/-- What is in the map of parents behind i units. -/
def FamAt (us : List UnV) (level i : Nat) (kvs : List (Int × Nat)) : Prop := ∀ n : Int, (getG kvs n).getD 0 = famTo us level n i
theorem FamAt.step {us : List UnV} {level i : Nat} {kvs : List (Int × Nat)} (h : FamAt us level i kvs) : FamAt us level (i + 1) (putG kvs ((us.getD i u0).ps.getD level 0) ((getG kvs ((us.getD i u0).ps.getD level 0)).getD 0 ||| bit64 i)) := fun n => by
  rw [getG_put]
  by_cases e : n = (us.getD i u0).ps.getD level 0
  · rw [if_pos e, famTo, if_pos e.symm, ← e, h n]; rfl
  · rw [if_neg e, famTo, if_neg (fun h => e h.symm)]; exact h n
open Classical in
noncomputable def parErr (r : RoV) (level : Int) : Int := if rollErr r = 0 then (if 0 ≤ level ∧ level < r.L then 0 else 2) else rollErr r
open Classical in
noncomputable def parGot (r : RoV) (level : Int) : List (Int × Nat) := if parErr r level = 0 then parsTo (lu r) level.toNat 64 else []
theorem parErr_roll {r : RoV} {level : Int} (h : rollErr r ≠ 0) : parErr r level = rollErr r := if_neg h
theorem parErr_arg {r : RoV} {level : Int} (h : rollErr r = 0) (h2 : ¬ (0 ≤ level ∧ level < r.L)) : parErr r level = 2 := by rw [parErr, if_pos h, if_neg h2]
theorem parErr_ok {r : RoV} {level : Int} (h : rollErr r = 0) (h2 : 0 ≤ level ∧ level < r.L) : parErr r level = 0 := by rw [parErr, if_pos h, if_pos h2]
/-- What 'Parents' hands back. -/
def ParPost (r : RoV) (level : Int) (w : World) (v : Value) (w' : World) : Prop :=
  Ext w w' ∧ ∃ l, v = .tuple #[l, .int .i64 (parErr r level)] ∧ Pars w.heap.size w' l (parGot r level)
theorem ParPost.bad {r : RoV} {level e : Int} {w w' : World} (h : parErr r level = e) (h0 : e ≠ 0) (he : Ext w w') : ParPost r level w (.tuple #[.slice none 0 0, .int .i64 e]) w' := by
  subst h; exact ⟨he, _, rfl, by rw [parGot, if_neg h0]; exact Sl.nil _ _ _⟩
theorem par_unit {r : RoV} {k : Nat} (h : rollErr r = 0) (hk : k < r.us.length) : ((r.us.getD k u0).ps.length : Int) = r.L ∧ ∀ q, q < (r.us.getD k u0).ps.length → 0 ≤ (r.us.getD k u0).ps.getD q 0 ∧ (r.us.getD k u0).ps.getD q 0 ≤ 63 := by
  have hr := right_iff.1 ((roll_of h).good k hk).right
  have hp := par_le (r.us.getD k u0)
  have h5 := within_iff.1 hr.2.2.2.2.2
  exact ⟨h5.1, fun q hq => by have := h5.2 q hq; omega⟩
end Go.Proofs.YtpgnaffcbbghgaaDoor
set_option linter.unusedVariables false
set_option linter.unusedSimpArgs false
set_option maxRecDepth 20000
namespace Go.Proofs.YtpgnaffcbbghgaaDoor
open Go Go.E
attribute [local irreducible] Go.E.T Go.E.L Go.E.O Go.E.Ob

theorem Parents_calls (lo : Nat) (r : RoV) (level : Int) (w : World) (hr : r.ok lo w) :
    Calls Tryd.prog 20 #[r.val, .int .i64 level] w (Ret fun v w' => ParPost r level w v w') := by
  refine T.enter (vs := [r.val, .int .i64 level]) Tryd.func20 rfl Tryd.ntmps20 rfl ?_
  refine T.seq (T.region (L.op rfl rfl (O.box rfl (fun b2 w2 hb2 hz2 he2 hB2 => ?_))))
  have hC2 : Blk w2 b2 r.cells 32 := hB2
  refine L.op rfl rfl (O.assign rfl (L.op rfl rfl (O.assign rfl (L.nil (T.seq (T.seq (T.region (L.op rfl rfl (O.loadAgg Tryd.isAgg32 Tryd.sizeOf32 rfl rfl hC2.row (L.op rfl rfl (O.call (xs := [.tmp 13]) Tryd.call25 rfl rfl (CheckRoll_calls lo r w2 (hr.ext he2)) (fun v7 w7 hq => ?_))))))))))))
  obtain ⟨rfl, he7⟩ := hq
  have he07 := he2.trans he7
  have hC7 : Blk w7 b2 r.cells 32 := hC2.ext he7
  refine L.op rfl rfl (O.assign rfl (L.nil (T.seq (T.region (L.op rfl rfl (O.move rfl (L.op rfl rfl (O.neq_s rfl rfl (fun h0 => ?_) (fun h0 => ?_)))))))))
  · refine L.nil (T.cond_true rfl (T.seq (T.region (L.op rfl rfl (O.move rfl (L.op rfl rfl (O.assign rfl (L.op rfl rfl (O.assign rfl (L.nil (T.ret2 Tryd.results20 rfl rfl (ParPost.bad (parErr_roll h0) h0 he07))))))))))))
  · refine L.nil (?_)
    have h0n : rollErr r = 0 := by omega
    have hbnd := roll_bnd h0n
    refine T.cond_false rfl (T.skip (T.seq (T.seq (T.region (L.op rfl rfl (O.move rfl (L.op rfl rfl (O.lss_s rfl rfl (fun hneg => ?_) (fun hneg => ?_)))))))))
    · refine L.op rfl rfl (O.move rfl (L.pass rfl rfl (L.pass rfl rfl (L.pass rfl rfl (L.pass rfl rfl (L.op rfl rfl (O.pick_true rfl rfl (L.nil (T.cond_true rfl (T.seq (T.region (L.op rfl rfl (O.assign rfl (L.op rfl rfl (O.assign rfl (L.nil (T.ret2 Tryd.results20 rfl rfl (ParPost.bad (parErr_arg h0n (by omega)) (by decide) he07))))))))))))))))))
    · refine L.op rfl rfl (O.move rfl (L.op rfl rfl (O.move rfl (L.op rfl rfl (O.fieldAddr Tryd.runUnderlying32 rfl Tryd.sizeOf3 rfl (L.op rfl rfl (O.load Tryd.isAgg3 rfl (hC7.cell rfl) (L.op rfl rfl (O.geq_s rfl rfl (fun hge => ?_) (fun hge => ?_))))))))))
      · refine L.op rfl rfl (O.pick_false rfl rfl (L.nil (T.cond_true rfl (T.seq (T.region (L.op rfl rfl (O.assign rfl (L.op rfl rfl (O.assign rfl (L.nil (T.ret2 Tryd.results20 rfl rfl (ParPost.bad (parErr_arg h0n (by omega)) (by decide) he07))))))))))))
      · obtain ⟨Lv, rfl⟩ : ∃ Lv : Nat, level = Lv := ⟨level.toNat, by omega⟩
        refine L.op rfl rfl (O.pick_false rfl rfl (L.nil (T.cond_false rfl (T.skip (T.seq (T.region (L.op rfl rfl (O.makeMapG (kf := (Value.int .i64)) (vf := wordV) (fun b8 w8 hb8 hz8 he8 hM8 => ?_)))))))))
        refine L.op rfl rfl (O.assign rfl (L.nil (T.seq (T.seq (T.region (L.op rfl rfl (O.loadAgg Tryd.isAgg32 Tryd.sizeOf32 rfl rfl ((hC7.ext he8).row) (L.op rfl rfl (O.call (xs := [.tmp 27]) Tryd.call29 rfl rfl (land_calls lo r w8 (hr.ext (he07.trans he8))) (fun v9 w9 hq => ?_))))))))))
        obtain ⟨rfl, he9⟩ := hq
        have he09 := (he07.trans he8).trans he9
        have hln := landsN_le r.us
        have hll := lu_len r
        have hU9 : Units lo w9 (lv r) (lu r) := lv_units (hr.ext he09)
        have hz07 := he07.size
        refine L.op rfl rfl (O.len Tryd.runUnderlying30 rfl (Sl.val hU9.sl) (L.op rfl rfl (O.move rfl (L.nil (T.block (?_))))))
        refine T.loop (σ := Nat × List (Int × Nat)) (fun s => [(1, .int .i64 Lv), (7, .map (some b8)), (28, lv r), (29, .int .i64 (lu r).length), (30, .int .i64 s.1)]) (fun s w' => s.1 ≤ (lu r).length ∧ Ext w w' ∧ MapG (Value.int .i64) wordV w' b8 s.2 ∧ FamAt (lu r) Lv s.1 s.2) (fun s => (lu r).length - s.1) ((0, [])) ⟨rfl, rfl, rfl, rfl, rfl, trivial⟩ ⟨Nat.zero_le _, he09, hM8.ext he9, fun n => rfl⟩ ?_
        rintro ⟨i, kvs⟩ w10 ⟨hi, he10, hM10, hF10⟩
        simp only at hi hM10 hF10
        have hU10 : Units lo w10 (lv r) (lu r) := lv_units (hr.ext he10)
        refine T.seq (T.region (L.op rfl rfl (O.lss_s rfl rfl (fun hlt => ?_) (fun hlt => ?_))))
        · refine L.nil (?_)
          have hlt' : i < (lu r).length := by simpa using hlt
          have hgi := lu_get (show i < landsN r.us by omega)
          have hps := par_unit h0n (show i < r.us.length by omega)
          rw [← hgi] at hps
          refine T.seq (T.cond_true rfl (T.skip (T.seq (T.block (T.seq (T.region (L.op rfl rfl (O.move rfl (L.op rfl rfl (O.indexAddr Tryd.runUnderlying30 Tryd.sizeOf42 rfl rfl hU10.sl (by omega) (by omega) (L.op rfl rfl (O.loadAgg Tryd.isAgg42 Tryd.sizeOf42 rfl rfl (hU10.row hlt') (L.op rfl rfl (O.alloc Tryd.zeroValue42 (fun b11 w11 hb11 hz11 he11 hB11 => ?_)))))))))))))))
          refine L.op rfl rfl (O.assign rfl (L.op rfl rfl (O.storeAgg Tryd.sizeOf42 rfl rfl rfl hB11 (Nat.le_refl _) (hU10.at hlt').one (fun w12 hu12 hB12 => ?_))))
          have hB12' : Blk w12 b11 ((lu r).getD i u0).cells 42 := hB12
          have he1012 : Ext w10 w12 := he11.upd hu12 (.inr (by omega))
          have hat := (hU10.at hlt').ext he1012
          have hM12 := hM10.ext he1012
          refine L.nil (?_)
          refine T.anyE mixed 9 [7, 9, 1, 8] rfl [.is _, .is _, .is _, .is _, .is _, .is _, .is _, .is _, .is _] [[], [], [1], [], [2, 3], [4], [0, 5], [], [7]] [[], [], [1], [], [1, 2, 3], [1, 2, 3, 4], [0, 1, 2, 3, 4, 5], [], [7], [0, 1, 2, 3, 4, 5, 6, 7, 8], [0, 1, 2, 3, 4, 5, 6, 7, 8, 9]] (by kernel_rfl) (by kernel_rfl) rfl (by kernel_rfl) trivial ⟨fun wx hx => Ob.op rfl (O.move rfl ⟨Keep.refl _ _, rfl⟩),
              fun wx hx => Ob.op rfl (O.fieldAddr Tryd.runUnderlying42 rfl Tryd.sizeOf37 rfl ⟨Keep.refl _ _, rfl⟩),
              fun wx hx => Ob.op rfl (O.load Tryd.isAgg37 rfl ((hB12'.ext hx).cell rfl) ⟨Keep.refl _ _, rfl⟩),
              fun wx hx => Ob.op rfl (O.move rfl ⟨Keep.refl _ _, rfl⟩),
              fun wx hx => Ob.op rfl (O.indexAddr Tryd.runUnderlying37 Tryd.sizeOf3 rfl rfl (hat.p.ext hx) (by omega) (by omega) ⟨Keep.refl _ _, rfl⟩),
              fun wx hx => Ob.op rfl (O.load Tryd.isAgg3 rfl (Ints.at (hat.p.ext hx) (by omega)) ⟨Keep.refl _ _, rfl⟩),
              fun wx hx => Ob.op rfl (O.lookupG (kf := (Value.int .i64)) (vf := wordV) (z0 := 0) (key_int _) Tryd.runUnderlying89 Tryd.runUnderlying3 Tryd.zeroValue28 rfl rfl (hM12.ext hx) ⟨Keep.refl _ _, rfl⟩),
              fun wx hx => Ob.op rfl (O.move rfl ⟨Keep.refl _ _, rfl⟩),
              fun wx hx => Ob.op rfl (O.bit_u64 rfl rfl (by omega) ⟨Keep.refl _ _, rfl⟩),
              trivial⟩ (fun w13 he13 => ?_)
          refine L.op rfl rfl (O.or_u64 rfl rfl (by rw [hF10]; exact famTo_lt _ _ _ _) (bit64_lt _) rfl rfl (L.op rfl rfl (O.mapUpdateG (kf := (Value.int .i64)) (vf := wordV) (v := ((getG kvs (((lu r).getD i u0).ps.getD Lv 0)).getD 0 ||| bit64 i)) (key_int _) Tryd.runUnderlying89 Tryd.runUnderlying3 rfl rfl rfl (hM12.ext he13) (fun w14 hu14 hM14 => ?_))))
          refine L.nil (T.blk (T.region (L.op rfl rfl (O.add64 rfl rfl (by omega) (L.op rfl rfl (O.move rfl (L.nil (T.again ((i + 1, putG kvs (((lu r).getD i u0).ps.getD Lv 0) ((getG kvs (((lu r).getD i u0).ps.getD Lv 0)).getD 0 ||| bit64 i))) (by omega) ⟨rfl, rfl, rfl, rfl, rfl, trivial⟩ ⟨hlt', ((he10.trans he1012).trans he13).upd hu14 (.inr (by omega)), hM14, hF10.step⟩))))))))
        · refine L.nil (?_)
          obtain rfl : i = (lu r).length := by simp only at hlt; omega
          refine T.seq (T.cond_false rfl (T.exit rfl (T.seq (T.region (L.op rfl rfl (O.assign rfl (L.nil (T.seq (T.seq (T.region (L.op rfl rfl (O.move rfl (L.nil (T.block (?_)))))))))))))))
          refine T.loop (σ := Nat × Value) (fun s => [(7, .map (some b8)), (10, s.2), (46, .int .i64 s.1)]) (fun s w' => s.1 ≤ 64 ∧ Ext w w' ∧ w10.heap.size ≤ w'.heap.size ∧ MapG (Value.int .i64) wordV w' b8 kvs ∧ w'.ownsRow w10.heap.size 62 2 s.2 (parsTo (lu r) Lv s.1).length (pcells (parsTo (lu r) Lv s.1))) (fun s => 64 - s.1) ((0, .slice none 0 0)) ⟨rfl, rfl, rfl, trivial⟩ ⟨Nat.zero_le _, he10, Nat.le_refl _, hM10, owns_nil _ _ _ _⟩ ?_
          rintro ⟨n, l⟩ w15 ⟨hn, he15, hz15, hM15, hO15⟩
          simp only at hn hM15 hO15
          have hpl := parsTo_len (lu r) Lv n
          have hb8 := hM10.lt
          have hz10 := he10.size
          have hFn : (getG kvs (n : Int)).getD 0 = famTo (lu r) Lv n (lu r).length := hF10 n
          refine T.seq (T.region (L.op rfl rfl (O.lss_s rfl rfl (fun hln2 => ?_) (fun hln2 => ?_))))
          · refine L.nil (?_)
            have hln' : n < 64 := by simp only at hln2; omega
            refine T.seq (T.cond_true rfl (T.skip (T.seq (T.block (T.seq (T.region (L.op rfl rfl (O.move rfl (L.op rfl rfl (O.assign rfl (L.nil (T.seq (T.region (L.op rfl rfl (O.move rfl (L.op rfl rfl (O.move rfl (L.op rfl rfl (O.lookupG (kf := (Value.int .i64)) (vf := wordV) (z0 := 0) (key_int _) Tryd.runUnderlying89 Tryd.runUnderlying3 Tryd.zeroValue28 rfl rfl hM15 (L.op rfl rfl (O.assign rfl (L.nil (T.seq (T.region (L.op rfl rfl (O.move rfl (L.op rfl rfl (O.neq_s rfl rfl (fun hne => ?_) (fun hne => ?_)))))))))))))))))))))))))))))
            · refine L.nil (?_)
              have hz : ¬ famTo (lu r) Lv n (lu r).length = 0 := by have h1 : ¬ (((getG kvs (n : Int)).getD 0 : Nat) : Int) = 0 := hne; rw [← hFn]; omega
              refine T.cond_true rfl (T.region (L.op rfl rfl (O.move rfl (L.op rfl rfl (O.move rfl (L.op rfl rfl (O.move rfl (L.op rfl rfl (O.build (v := .agg #[.int .i64 n, wordV ((getG kvs (n : Int)).getD 0)]) (parts := [(0, .tmp 55), (1, .tmp 56)]) (vs := [(0, _), (1, _)]) rfl (fun w => by kernel_rfl) (L.op rfl rfl (O.buildSlice (el := 62) (parts := [(0, .tmp 57)]) (vs := [(0, _)]) (cs := [.int .i64 n, wordV ((getG kvs (n : Int)).getD 0)]) rfl (fun w => by kernel_rfl) (fun b16 w16 hb16 hz16 he16 hB16 => ?_))))))))))))
              refine L.op rfl rfl (O.append (size := 2) (bytes := 16) Tryd.runUnderlying57 Tryd.infoOf62 rfl rfl rfl rfl (by decide) rfl rfl (owns_keep hO15 he16 (Nat.zero_le _)) (Sl.of_blk (lo := 0) (n := 1) (sz := 2) hB16 rfl (Nat.le_refl _) (by decide) (Nat.zero_le _)) (by intro c hc; simp at hc; rcases hc with (rfl|rfl) <;> rfl) (by omega) (by simp only [maxLen]; omega) (by omega) (fun v17 w17 hO17 hG17 => ?_))
              refine L.op rfl rfl (O.assign rfl (L.nil (T.blk (T.region (L.op rfl rfl (O.add64 rfl rfl (by omega) (L.op rfl rfl (O.move rfl (L.nil (T.again ((n + 1, v17)) (by omega) ⟨rfl, rfl, rfl, trivial⟩ ⟨hln', (he15.trans he16).grown0 (owns_keep hO15 he16 (Nat.zero_le _)) hG17 hz10, ?_, (hM15.ext he16).grown hG17 ?_, ?_⟩))))))))))
              · have := hG17.size; have := he16.size; omega
              · intro j hj e
                have := (own_at hO15 hj).1; omega
              · simp only [parsTo, if_neg hz, List.length_append, List.length_singleton, pcells_append]
                rw [← hFn]; exact hO17
            · refine L.nil (?_)
              have hz : famTo (lu r) Lv n (lu r).length = 0 := by have h1 : (((getG kvs (n : Int)).getD 0 : Nat) : Int) = 0 := hne; rw [← hFn]; omega
              refine T.cond_false rfl (T.skip (T.blk (T.region (L.op rfl rfl (O.add64 rfl rfl (by omega) (L.op rfl rfl (O.move rfl (L.nil (T.again ((n + 1, l)) (by omega) ⟨rfl, rfl, rfl, trivial⟩ ⟨hln', he15, hz15, hM15, by simp only [parsTo, if_pos hz]; exact hO15⟩)))))))))
          · refine L.nil (?_)
            obtain rfl : n = 64 := by simp only at hln2; omega
            refine T.seq (T.cond_false rfl (T.exit rfl (T.seq (T.region (L.op rfl rfl (O.move rfl (L.op rfl rfl (O.assign rfl (L.op rfl rfl (O.assign rfl (L.nil (T.ret2 Tryd.results20 rfl rfl ⟨he15, l, by rw [parErr_ok h0n (by omega)], ?_⟩))))))))))))
            rw [parGot, if_pos (parErr_ok h0n (by omega)), Int.toNat_natCast]
            exact (Sl.of_owns hO15).mono hz10

end Go.Proofs.YtpgnaffcbbghgaaDoor
set_option linter.unusedVariables false
set_option linter.unusedSimpArgs false
set_option maxRecDepth 20000
namespace Go.Proofs.YtpgnaffcbbghgaaDoor
open Go Go.E
attribute [local irreducible] Go.E.T Go.E.L Go.E.O Go.E.Ob

theorem RParents_calls (lo : Nat) (r : RoV) (level : Int) (w : World) (hr : r.ok lo w) :
    Calls Tryd.prog 21 #[r.val, .int .i64 level] w (Ret fun v w' => ParPost r level w v w') := by
  refine T.enter (vs := [r.val, .int .i64 level]) Tryd.func21 rfl Tryd.ntmps21 rfl ?_
  refine T.seq (T.region (L.op rfl rfl (O.box rfl (fun b2 w2 hb2 hz2 he2 hB2 => ?_))))
  have hC2 : Blk w2 b2 r.cells 32 := hB2
  refine L.op rfl rfl (O.assign rfl (L.op rfl rfl (O.assign rfl (L.nil (T.seq (T.seq (T.region (L.op rfl rfl (O.loadAgg Tryd.isAgg32 Tryd.sizeOf32 rfl rfl hC2.row (L.op rfl rfl (O.call (xs := [.tmp 11]) Tryd.call36 rfl rfl (RCheckRoll_calls lo r w2 (hr.ext he2)) (fun v7 w7 hq => ?_))))))))))))
  obtain ⟨rfl, he7⟩ := hq
  have he07 := he2.trans he7
  have hC7 : Blk w7 b2 r.cells 32 := hC2.ext he7
  refine L.op rfl rfl (O.assign rfl (L.nil (T.seq (T.region (L.op rfl rfl (O.move rfl (L.op rfl rfl (O.neq_s rfl rfl (fun h0 => ?_) (fun h0 => ?_)))))))))
  · refine L.nil (T.cond_true rfl (T.seq (T.region (L.op rfl rfl (O.move rfl (L.op rfl rfl (O.assign rfl (L.op rfl rfl (O.assign rfl (L.nil (T.ret2 Tryd.results21 rfl rfl (ParPost.bad (parErr_roll h0) h0 he07))))))))))))
  · refine L.nil (?_)
    have h0n : rollErr r = 0 := by omega
    have hbnd := roll_bnd h0n
    refine T.cond_false rfl (T.skip (T.seq (T.seq (T.region (L.op rfl rfl (O.move rfl (L.op rfl rfl (O.lss_s rfl rfl (fun hneg => ?_) (fun hneg => ?_)))))))))
    · refine L.op rfl rfl (O.move rfl (L.pass rfl rfl (L.pass rfl rfl (L.pass rfl rfl (L.pass rfl rfl (L.op rfl rfl (O.pick_true rfl rfl (L.nil (T.cond_true rfl (T.seq (T.region (L.op rfl rfl (O.assign rfl (L.op rfl rfl (O.assign rfl (L.nil (T.ret2 Tryd.results21 rfl rfl (ParPost.bad (parErr_arg h0n (by omega)) (by decide) he07))))))))))))))))))
    · refine L.op rfl rfl (O.move rfl (L.op rfl rfl (O.move rfl (L.op rfl rfl (O.fieldAddr Tryd.runUnderlying32 rfl Tryd.sizeOf3 rfl (L.op rfl rfl (O.load Tryd.isAgg3 rfl (hC7.cell rfl) (L.op rfl rfl (O.geq_s rfl rfl (fun hge => ?_) (fun hge => ?_))))))))))
      · refine L.op rfl rfl (O.pick_false rfl rfl (L.nil (T.cond_true rfl (T.seq (T.region (L.op rfl rfl (O.assign rfl (L.op rfl rfl (O.assign rfl (L.nil (T.ret2 Tryd.results21 rfl rfl (ParPost.bad (parErr_arg h0n (by omega)) (by decide) he07))))))))))))
      · obtain ⟨Lv, rfl⟩ : ∃ Lv : Nat, level = Lv := ⟨level.toNat, by omega⟩
        have hln := landsN_le r.us
        have hll := lu_len r
        have hz07 := he07.size
        refine L.op rfl rfl (O.pick_false rfl rfl (L.nil (T.cond_false rfl (T.skip (T.seq (T.region (L.op rfl rfl (O.assign rfl (L.nil (T.seq (T.seq (T.region (L.op rfl rfl (O.assign rfl (L.nil (T.block (?_)))))))))))))))))
        refine T.loop (σ := Nat × Value) (fun s => [(1, .int .i64 Lv), (2, .pointer (some ⟨b2, 0, none⟩)), (7, s.2), (8, .int .i64 s.1)]) (fun s w' => s.1 ≤ 64 ∧ Ext w7 w' ∧ w'.ownsRow w7.heap.size 62 2 s.2 (parsTo (lu r) Lv s.1).length (pcells (parsTo (lu r) Lv s.1))) (fun s => 64 - s.1) ((0, .slice none 0 0)) ⟨rfl, rfl, rfl, rfl, trivial⟩ ⟨Nat.zero_le _, Keep.refl _ _, owns_nil _ _ _ _⟩ ?_
        rintro ⟨n, l⟩ w15 ⟨hn, he15, hO15⟩
        simp only at hn hO15
        have hpl := parsTo_len (lu r) Lv n
        refine T.seq (T.seq (T.region (L.op rfl rfl (O.move rfl (L.op rfl rfl (O.leq_s rfl rfl (fun hln2 => ?_) (fun hln2 => ?_)))))))
        · refine L.nil (?_)
          have hln' : n < 64 := by simp only at hln2; omega
          refine T.cond_true rfl (T.skip (T.seq (T.block (T.seq (T.region (L.op rfl rfl (O.assign rfl (L.nil (T.seq (T.seq (T.region (L.op rfl rfl (O.assign rfl (L.nil (T.block (?_))))))))))))))))
          refine T.loop (σ := Nat) (fun i => [(1, .int .i64 Lv), (2, .pointer (some ⟨b2, 0, none⟩)), (7, l), (8, .int .i64 n), (9, .int .u64 (famTo (lu r) Lv n i)), (10, .int .i64 i)]) (fun i w' => i ≤ landsN r.us ∧ Ext w15 w') (fun i => landsN r.us - i) (0) ⟨rfl, rfl, rfl, rfl, rfl, rfl, trivial⟩ ⟨Nat.zero_le _, Keep.refl _ _⟩ ?_
          rintro i w16 ⟨hi, he16⟩
          have he716 := he15.trans he16
          have hC16 := hC7.ext he716
          refine T.seq (T.seq (T.region (L.op rfl rfl (O.move rfl (L.op rfl rfl (O.loadAgg Tryd.isAgg32 Tryd.sizeOf32 rfl rfl hC16.row (L.op rfl rfl (O.call (xs := [.tmp 29]) Tryd.call37 rfl rfl (Lands_calls lo r w16 (hr.ext (he07.trans he716))) (fun v17 w17 hq => ?_)))))))))
          obtain ⟨rfl, he17⟩ := hq
          have he1517 := he16.trans he17
          have hC17 := hC16.ext he17
          have hU17 := hr.ext ((he07.trans he716).trans he17)
          have hft := famTo_lt (lu r) Lv n i
          refine L.op rfl rfl (O.lss_s rfl rfl (fun hli => ?_) (fun hli => ?_))
          · refine L.nil (?_)
            have hli' : i < landsN r.us := by omega
            have hiu : i < r.us.length := by omega
            have hps := par_unit h0n hiu
            have hgi := lu_get hli'
            have hat : (r.us.getD i u0).ok lo w17 := Units.at hU17 hiu
            refine T.cond_true rfl (T.skip (T.seq (T.block (T.seq (T.region (L.op rfl rfl (O.fieldAddr Tryd.runUnderlying32 rfl Tryd.sizeOf30 rfl (L.op rfl rfl (O.load Tryd.isAgg30 rfl (hC17.cell rfl) (L.op rfl rfl (O.move rfl (L.op rfl rfl (O.indexAddr Tryd.runUnderlying30 Tryd.sizeOf42 rfl rfl (Units.sl hU17) (by omega) (by omega) (L.op rfl rfl (O.fieldAddr Tryd.runUnderlying42 rfl Tryd.sizeOf37 rfl (L.op rfl rfl (O.load Tryd.isAgg37 rfl ((Units.row hU17 hiu) 4 _ rfl) (L.op rfl rfl (O.move rfl (L.op rfl rfl (O.indexAddr Tryd.runUnderlying37 Tryd.sizeOf3 rfl rfl hat.p (by omega) (by omega) (L.op rfl rfl (O.load Tryd.isAgg3 rfl (Ints.at hat.p (by omega)) (L.op rfl rfl (O.move rfl (L.op rfl rfl (O.eql_s rfl rfl (fun heq => ?_) (fun heq => ?_))))))))))))))))))))))))))))
            · refine L.nil (T.cond_true rfl (T.region (L.op rfl rfl (O.move rfl (L.op rfl rfl (O.move rfl (L.op rfl rfl (O.conv_to rfl (fun w => ⟨_, Tryd.runUnderlying3 w⟩) Tryd.runUnderlying52 (IntWalk.u64_in _ ⟨by omega, by omega⟩) (L.op rfl rfl (O.bit_u64 rfl rfl (by omega) (L.op rfl rfl (O.or_u64 rfl rfl (by exact hft) (bit64_lt _) rfl rfl (L.op rfl rfl (O.assign rfl (L.nil (T.blk (T.region (L.op rfl rfl (O.move rfl (L.op rfl rfl (O.add64 rfl rfl (by omega) (L.op rfl rfl (O.assign rfl (L.nil (T.again (i + 1) (by omega) ⟨rfl, rfl, rfl, rfl, ?_, rfl, trivial⟩ ⟨hli', he1517⟩)))))))))))))))))))))))))
              · simp only [famTo, hgi]; rw [if_pos heq]; rfl
            · refine L.nil (T.cond_false rfl (T.skip (T.blk (T.region (L.op rfl rfl (O.move rfl (L.op rfl rfl (O.add64 rfl rfl (by omega) (L.op rfl rfl (O.assign rfl (L.nil (T.again (i + 1) (by omega) ⟨rfl, rfl, rfl, rfl, ?_, rfl, trivial⟩ ⟨hli', he1517⟩))))))))))))
              · simp only [famTo, hgi]; rw [if_neg heq]; rfl
          · refine L.nil (?_)
            obtain rfl : i = landsN r.us := by omega
            have hO17 := owns_keep hO15 he1517 (Nat.zero_le _)
            refine T.cond_false rfl (T.exit rfl (T.seq (T.region (L.op rfl rfl (O.move rfl (L.op rfl rfl (O.neq_s rfl rfl (fun hne => ?_) (fun hne => ?_))))))))
            · refine L.nil (?_)
              have hz : ¬ famTo (lu r) Lv n (lu r).length = 0 := by rw [hll]; omega
              refine T.cond_true rfl (T.region (L.op rfl rfl (O.move rfl (L.op rfl rfl (O.move rfl (L.op rfl rfl (O.move rfl (L.op rfl rfl (O.build (v := .agg #[.int .i64 n, wordV (famTo (lu r) Lv n (landsN r.us))]) (parts := [(0, .tmp 53), (1, .tmp 54)]) (vs := [(0, _), (1, _)]) rfl (fun w => by kernel_rfl) (L.op rfl rfl (O.buildSlice (el := 62) (parts := [(0, .tmp 55)]) (vs := [(0, _)]) (cs := [.int .i64 n, wordV (famTo (lu r) Lv n (landsN r.us))]) rfl (fun w => by kernel_rfl) (fun b18 w18 hb18 hz18 he18 hB18 => ?_))))))))))))
              refine L.op rfl rfl (O.append (size := 2) (bytes := 16) Tryd.runUnderlying57 Tryd.infoOf62 rfl rfl rfl rfl (by decide) rfl rfl (owns_keep hO17 he18 (Nat.zero_le _)) (Sl.of_blk (lo := 0) (n := 1) (sz := 2) hB18 rfl (Nat.le_refl _) (by decide) (Nat.zero_le _)) (by intro c hc; simp at hc; rcases hc with (rfl|rfl) <;> rfl) (by omega) (by simp only [maxLen]; omega) (by have := (he15.trans (he1517.trans he18)).size; omega) (fun v19 w19 hO19 hG19 => ?_))
              refine L.op rfl rfl (O.assign rfl (L.nil (T.blk (T.region (L.op rfl rfl (O.move rfl (L.op rfl rfl (O.add64 rfl rfl (by omega) (L.op rfl rfl (O.assign rfl (L.nil (T.again ((n + 1, v19)) (by omega) ⟨rfl, rfl, rfl, rfl, trivial⟩ ⟨hln', (he15.trans (he1517.trans he18)).grown0 (owns_keep hO17 he18 (Nat.zero_le _)) hG19 (Nat.le_refl _), ?_⟩))))))))))))
              · simp only [parsTo, if_neg hz, List.length_append, List.length_singleton, pcells_append]
                rw [hll]; exact hO19
            · refine L.nil (?_)
              have hz : famTo (lu r) Lv n (lu r).length = 0 := by rw [hll]; omega
              refine T.cond_false rfl (T.skip (T.blk (T.region (L.op rfl rfl (O.move rfl (L.op rfl rfl (O.add64 rfl rfl (by omega) (L.op rfl rfl (O.assign rfl (L.nil (T.again ((n + 1, l)) (by omega) ⟨rfl, rfl, rfl, rfl, trivial⟩ ⟨hln', he15.trans he1517, by simp only [parsTo, if_pos hz]; exact hO17⟩)))))))))))
        · refine L.nil (?_)
          obtain rfl : n = 64 := by simp only at hln2; omega
          refine T.cond_false rfl (T.exit rfl (T.seq (T.region (L.op rfl rfl (O.move rfl (L.op rfl rfl (O.assign rfl (L.op rfl rfl (O.assign rfl (L.nil (T.ret2 Tryd.results21 rfl rfl ⟨he07.trans he15, l, by rw [parErr_ok h0n (by omega)], ?_⟩)))))))))))
          rw [parGot, if_pos (parErr_ok h0n (by omega)), Int.toNat_natCast]
          exact (Sl.of_owns hO15).mono hz07

end Go.Proofs.YtpgnaffcbbghgaaDoor
set_option linter.unusedVariables false
set_option linter.unusedSimpArgs false
set_option maxRecDepth 20000
namespace Go.Proofs.YtpgnaffcbbghgaaDoor
open Go Go.E
attribute [local irreducible] Go.E.T Go.E.L Go.E.O Go.E.Ob

/-- Equal parents of a level have equal parents of the next. -/
def Nest1 (us : List UnV) (q i k : Nat) : Prop := (us.getD i u0).ps.getD q 0 = (us.getD k u0).ps.getD q 0 → (us.getD i u0).ps.getD (q + 1) 0 = (us.getD k u0).ps.getD (q + 1) 0
def Nest (us : List UnV) (L : Nat) : Prop := ∀ q, q + 1 < L → ∀ i, i < us.length → ∀ k, k < us.length → Nest1 us q i k
open Classical in
noncomputable def nestB (r : RoV) : Bool := if rollErr r = 0 ∧ Nest (lu r) r.L.toNat then true else false
theorem nestB_roll {r : RoV} (h : rollErr r ≠ 0) : nestB r = false := if_neg fun h2 => h h2.1
theorem nestB_yes {r : RoV} (h : rollErr r = 0) (h2 : Nest (lu r) r.L.toNat) : nestB r = true := if_pos ⟨h, h2⟩
theorem nestB_no {r : RoV} {q i k : Nat} (hq : q + 1 < r.L.toNat) (hi : i < (lu r).length) (hk : k < (lu r).length) (h2 : ¬ Nest1 (lu r) q i k) : nestB r = false := if_neg fun h => h2 (h.2 q hq i hi k hk)
/-- The map of the next level's parents. -/
structure NextAt (us : List UnV) (q i : Nat) (kvs : List (Int × Int)) : Prop where
  at' : ∀ j, j < i → getG kvs ((us.getD j u0).ps.getD q 0) = some ((us.getD j u0).ps.getD (q + 1) 0)
  of : ∀ x y, getG kvs x = some y → ∃ j, j < i ∧ (us.getD j u0).ps.getD q 0 = x ∧ (us.getD j u0).ps.getD (q + 1) 0 = y
theorem NextAt.step {us : List UnV} {q i : Nat} {kvs : List (Int × Int)} (h : NextAt us q i kvs) (hn : ∀ y, getG kvs ((us.getD i u0).ps.getD q 0) = some y → y = (us.getD i u0).ps.getD (q + 1) 0) : NextAt us q (i + 1) (putG kvs ((us.getD i u0).ps.getD q 0) ((us.getD i u0).ps.getD (q + 1) 0)) := by
  refine ⟨fun j hj => ?_, fun x y hxy => ?_⟩
  · rw [getG_put]
    by_cases e : j = i
    · subst e; rw [if_pos rfl]
    · have h1 := h.at' j (by omega)
      split
      · rename_i he; rw [he] at h1; rw [hn _ h1]
      · exact h1
  · rw [getG_put] at hxy
    split at hxy
    · rename_i he; cases hxy; exact ⟨i, by omega, he.symm, rfl⟩
    · obtain ⟨j, hj, h1⟩ := h.of x y hxy; exact ⟨j, by omega, h1⟩
theorem NextAt.all {us : List UnV} {q : Nat} {kvs : List (Int × Int)} (h : NextAt us q us.length kvs) : ∀ i, i < us.length → ∀ k, k < us.length → Nest1 us q i k := fun i hi k hk e => by
  have h1 := h.at' i hi
  have h2 := h.at' k hk
  rw [e, h2] at h1
  exact (Option.some.inj h1).symm
theorem Nested_calls (lo : Nat) (r : RoV) (w : World) (hr : r.ok lo w) :
    Calls Tryd.prog 23 #[r.val] w (Ret fun v w' => v = .tuple #[.bool (nestB r), .int .i64 (rollErr r)] ∧ Ext w w') := by
  refine T.enter (vs := [r.val]) Tryd.func23 rfl Tryd.ntmps23 rfl ?_
  refine T.seq (T.region (L.op rfl rfl (O.box rfl (fun b2 w2 hb2 hz2 he2 hB2 => ?_))))
  have hC2 : Blk w2 b2 r.cells 32 := hB2
  refine L.op rfl rfl (O.assign rfl (L.op rfl rfl (O.assign rfl (L.nil (T.seq (T.seq (T.region (L.op rfl rfl (O.loadAgg Tryd.isAgg32 Tryd.sizeOf32 rfl rfl hC2.row (L.op rfl rfl (O.call (xs := [.tmp 12]) Tryd.call25 rfl rfl (CheckRoll_calls lo r w2 (hr.ext he2)) (fun v7 w7 hq => ?_))))))))))))
  obtain ⟨rfl, he7⟩ := hq
  have he07 := he2.trans he7
  have hC7 : Blk w7 b2 r.cells 32 := hC2.ext he7
  refine L.op rfl rfl (O.assign rfl (L.nil (T.seq (T.region (L.op rfl rfl (O.move rfl (L.op rfl rfl (O.neq_s rfl rfl (fun h0 => ?_) (fun h0 => ?_)))))))))
  · refine L.nil (T.cond_true rfl (T.seq (T.region (L.op rfl rfl (O.move rfl (L.op rfl rfl (O.assign rfl (L.op rfl rfl (O.assign rfl (L.nil (T.ret2 Tryd.results23 rfl rfl ⟨by rw [nestB_roll h0], he07⟩)))))))))))
  · refine L.nil (?_)
    have h0n : rollErr r = 0 := by omega
    have hbnd := roll_bnd h0n
    have hln := landsN_le r.us
    have hll := lu_len r
    refine T.cond_false rfl (T.skip (T.seq (T.seq (T.region (L.op rfl rfl (O.assign rfl (L.nil (T.block (?_)))))))))
    refine T.loop (σ := Nat) (fun q => [(1, .pointer (some ⟨b2, 0, none⟩)), (5, .int .i64 ((q + 1 : Nat) : Int))]) (fun q w' => q ≤ 3 ∧ Ext w7 w' ∧ ∀ p, p < q → ∀ i, i < (lu r).length → ∀ k, k < (lu r).length → Nest1 (lu r) p i k) (fun q => 3 - q) (0) ⟨rfl, rfl, trivial⟩ ⟨Nat.zero_le _, Keep.refl _ _, fun p hp => absurd hp (Nat.not_lt_zero _)⟩ ?_
    rintro q w8 ⟨hq, he8, hN8⟩
    refine T.seq (T.seq (T.region (L.op rfl rfl (O.move rfl (L.op rfl rfl (O.fieldAddr Tryd.runUnderlying32 rfl Tryd.sizeOf3 rfl (L.op rfl rfl (O.load Tryd.isAgg3 rfl ((hC7.ext he8).cell rfl) (L.op rfl rfl (O.lss_s rfl rfl (fun hlq => ?_) (fun hlq => ?_)))))))))))
    · refine L.nil (T.cond_true rfl (T.skip (T.seq (T.block (T.seq (T.region (L.op rfl rfl (O.makeMapG (kf := (Value.int .i64)) (vf := (Value.int .i64)) (fun b9 w9 hb9 hz9 he9 hM9 => ?_)))))))))
      refine L.op rfl rfl (O.assign rfl (L.nil (T.seq (T.region (L.op rfl rfl (O.loadAgg Tryd.isAgg32 Tryd.sizeOf32 rfl rfl ((hC7.ext (he8.trans he9)).row) (L.op rfl rfl (O.call (xs := [.tmp 24]) Tryd.call29 rfl rfl (land_calls lo r w9 (hr.ext (he07.trans (he8.trans he9)))) (fun v10 w10 hq => ?_)))))))))
      obtain ⟨rfl, he10⟩ := hq
      have he710 := (he8.trans he9).trans he10
      have hU10 : Units lo w10 (lv r) (lu r) := lv_units (hr.ext (he07.trans he710))
      refine L.op rfl rfl (O.len Tryd.runUnderlying30 rfl (Sl.val hU10.sl) (?_))
      have hz78 := he8.size
      refine L.op rfl rfl (O.move rfl (L.nil (T.block (?_))))
      refine T.loop (σ := Nat × List (Int × Int)) (fun s => [(1, .pointer (some ⟨b2, 0, none⟩)), (5, .int .i64 ((q + 1 : Nat) : Int)), (6, .map (some b9)), (25, lv r), (26, .int .i64 (lu r).length), (27, .int .i64 s.1)]) (fun s w' => s.1 ≤ (lu r).length ∧ Ext w7 w' ∧ MapG (Value.int .i64) (Value.int .i64) w' b9 s.2 ∧ NextAt (lu r) q s.1 s.2) (fun s => (lu r).length - s.1) ((0, [])) ⟨rfl, rfl, rfl, rfl, rfl, rfl, trivial⟩ ⟨Nat.zero_le _, he710, hM9.ext he10, ⟨fun j hj => absurd hj (Nat.not_lt_zero _), fun x y h => by cases h⟩⟩ ?_
      rintro ⟨i, kvs⟩ w11 ⟨hi, he11, hM11, hX11⟩
      simp only at hi hM11 hX11
      have hU11 : Units lo w11 (lv r) (lu r) := lv_units (hr.ext (he07.trans he11))
      refine T.seq (T.region (L.op rfl rfl (O.lss_s rfl rfl (fun hlt => ?_) (fun hlt => ?_))))
      · refine L.nil (?_)
        have hlt' : i < (lu r).length := by simp only at hlt; omega
        have hgi := lu_get (show i < landsN r.us by omega)
        have hps := par_unit h0n (show i < r.us.length by omega)
        rw [← hgi] at hps
        refine T.seq (T.cond_true rfl (T.skip (T.seq (T.block (T.seq (T.region (L.op rfl rfl (O.indexAddr Tryd.runUnderlying30 Tryd.sizeOf42 rfl rfl hU11.sl (by omega) (by omega) (L.op rfl rfl (O.loadAgg Tryd.isAgg42 Tryd.sizeOf42 rfl rfl (hU11.row hlt') (L.op rfl rfl (O.alloc Tryd.zeroValue42 (fun b12 w12 hb12 hz12 he12 hB12 => ?_)))))))))))))
        refine L.op rfl rfl (O.storeAgg Tryd.sizeOf42 rfl rfl rfl hB12 (Nat.le_refl _) (hU11.at hlt').one (fun w13 hu13 hB13 => ?_))
        have hB13' : Blk w13 b12 ((lu r).getD i u0).cells 42 := hB13
        have he1113 : Ext w11 w13 := he12.upd hu13 (.inr (by omega))
        have hat := (hU11.at hlt').ext he1113
        have hM13 := hM11.ext he1113
        have hq1 : (((q + 1 : Nat) : Int) - 1) = (q : Int) := by omega
        refine L.nil (T.seq (T.region (L.op rfl rfl (O.fieldAddr Tryd.runUnderlying42 rfl Tryd.sizeOf37 rfl (L.op rfl rfl (O.load Tryd.isAgg37 rfl (hB13'.cell rfl) (L.op rfl rfl (O.move rfl (L.op rfl rfl (O.sub64 rfl rfl (by omega) (?_)))))))))))
        rw [hq1]
        refine L.op rfl rfl (O.indexAddr Tryd.runUnderlying37 Tryd.sizeOf3 rfl rfl hat.p (by omega) (by omega) (L.op rfl rfl (O.load Tryd.isAgg3 rfl (Ints.at hat.p (by omega)) (L.op rfl rfl (O.assign rfl (L.nil (T.seq (T.seq (T.region (L.op rfl rfl (O.move rfl (L.op rfl rfl (O.move rfl (L.op rfl rfl (O.lookupOkG (kf := (Value.int .i64)) (vf := (Value.int .i64)) (z0 := 0) (key_int _) Tryd.runUnderlying90 Tryd.runUnderlying3 Tryd.zeroValue3 rfl rfl hM13 (?_))))))))))))))))
        rcases hgk : getG kvs (((lu r).getD i u0).ps.getD q 0) with _ | y
        · refine L.op rfl rfl (O.move rfl (L.op rfl rfl (O.extract rfl rfl (L.op rfl rfl (O.extract rfl rfl (L.op rfl rfl (O.assign rfl (L.op rfl rfl (O.assign rfl (L.nil (T.seq (T.region (L.op rfl rfl (O.move rfl (L.op rfl rfl (O.move rfl (L.pass rfl rfl (L.pass rfl rfl (L.pass rfl rfl (L.pass rfl rfl (L.pass rfl rfl (L.pass rfl rfl (L.pass rfl rfl (L.op rfl rfl (O.pick_false rfl rfl (L.nil (T.cond_false rfl (T.skip (T.region (L.op rfl rfl (O.move rfl (L.op rfl rfl (O.move rfl (?_))))))))))))))))))))))))))))))))))
          refine L.op rfl rfl (O.fieldAddr Tryd.runUnderlying42 rfl Tryd.sizeOf37 rfl (L.op rfl rfl (O.load Tryd.isAgg37 rfl (hB13'.cell rfl) (L.op rfl rfl (O.move rfl (L.op rfl rfl (O.indexAddr Tryd.runUnderlying37 Tryd.sizeOf3 rfl rfl hat.p (by omega) (by omega) (L.op rfl rfl (O.load Tryd.isAgg3 rfl (Ints.at hat.p (by omega)) (L.op rfl rfl (O.mapUpdateG (kf := (Value.int .i64)) (vf := (Value.int .i64)) (v := (((lu r).getD i u0).ps.getD (q + 1) 0)) (key_int _) Tryd.runUnderlying90 Tryd.runUnderlying3 rfl rfl rfl hM13 (fun w14 hu14 hM14 => ?_))))))))))))
          refine L.nil (T.blk (T.region (L.op rfl rfl (O.add64 rfl rfl (by omega) (L.op rfl rfl (O.move rfl (L.nil (T.again ((i + 1, putG kvs (((lu r).getD i u0).ps.getD q 0) (((lu r).getD i u0).ps.getD (q + 1) 0))) (by omega) ⟨rfl, rfl, rfl, rfl, rfl, rfl, trivial⟩ ⟨hlt', (he11.trans he1113).upd hu14 (.inr (by omega)), hM14, hX11.step (fun y hy => by rw [hgk] at hy; cases hy)⟩))))))))
        · refine L.op rfl rfl (O.move rfl (L.op rfl rfl (O.extract rfl rfl (L.op rfl rfl (O.extract rfl rfl (L.op rfl rfl (O.assign rfl (L.op rfl rfl (O.assign rfl (L.nil (T.seq (T.region (L.op rfl rfl (O.move rfl (L.op rfl rfl (O.move rfl (L.op rfl rfl (O.move rfl (L.op rfl rfl (O.fieldAddr Tryd.runUnderlying42 rfl Tryd.sizeOf37 rfl (L.op rfl rfl (O.load Tryd.isAgg37 rfl (hB13'.cell rfl) (L.op rfl rfl (O.move rfl (L.op rfl rfl (O.indexAddr Tryd.runUnderlying37 Tryd.sizeOf3 rfl rfl hat.p (by omega) (by omega) (L.op rfl rfl (O.load Tryd.isAgg3 rfl (Ints.at hat.p (by omega)) (L.op rfl rfl (O.neq_s rfl rfl (fun hne => ?_) (fun hne => ?_)))))))))))))))))))))))))))))))
          · obtain ⟨j, hj, hj1, hj2⟩ := hX11.of _ _ hgk
            refine L.op rfl rfl (O.pick_true rfl rfl (L.nil (T.cond_true rfl (T.seq (T.region (L.op rfl rfl (O.assign rfl (L.op rfl rfl (O.assign rfl (L.nil (T.ret2 Tryd.results23 rfl rfl ⟨by rw [nestB_no (q := q) (i := j) (k := i) (by omega) (by omega) hlt' (fun h => hne (by rw [← h hj1, hj2]; rfl)), h0n], he07.trans (he11.trans he1113)⟩)))))))))))
          · refine L.op rfl rfl (O.pick_true rfl rfl (L.nil (T.cond_false rfl (T.skip (T.region (L.op rfl rfl (O.move rfl (L.op rfl rfl (O.move rfl (L.op rfl rfl (O.fieldAddr Tryd.runUnderlying42 rfl Tryd.sizeOf37 rfl (L.op rfl rfl (O.load Tryd.isAgg37 rfl (hB13'.cell rfl) (L.op rfl rfl (O.move rfl (L.op rfl rfl (O.indexAddr Tryd.runUnderlying37 Tryd.sizeOf3 rfl rfl hat.p (by omega) (by omega) (L.op rfl rfl (O.load Tryd.isAgg3 rfl (Ints.at hat.p (by omega)) (L.op rfl rfl (O.mapUpdateG (kf := (Value.int .i64)) (vf := (Value.int .i64)) (v := (((lu r).getD i u0).ps.getD (q + 1) 0)) (key_int _) Tryd.runUnderlying90 Tryd.runUnderlying3 rfl rfl rfl hM13 (fun w14 hu14 hM14 => ?_))))))))))))))))))))))
            refine L.nil (T.blk (T.region (L.op rfl rfl (O.add64 rfl rfl (by omega) (L.op rfl rfl (O.move rfl (L.nil (T.again ((i + 1, putG kvs (((lu r).getD i u0).ps.getD q 0) (((lu r).getD i u0).ps.getD (q + 1) 0))) (by omega) ⟨rfl, rfl, rfl, rfl, rfl, rfl, trivial⟩ ⟨hlt', (he11.trans he1113).upd hu14 (.inr (by omega)), hM14, hX11.step (fun z hz => by rw [hgk] at hz; cases hz; exact hne)⟩))))))))
      · refine L.nil (?_)
        obtain rfl : i = (lu r).length := by simp only at hlt; omega
        refine T.seq (T.cond_false rfl (T.exit rfl (T.blk (T.region (L.op rfl rfl (O.move rfl (L.op rfl rfl (O.add64 rfl rfl (by omega) (L.op rfl rfl (O.assign rfl (L.nil (T.again (q + 1) (by omega) ⟨rfl, rfl, trivial⟩ ⟨by omega, he11, fun p hp => ?_⟩))))))))))))
        · by_cases e : p = q
          · subst e; exact hX11.all
          · exact hN8 p (by omega)
    · refine L.nil (T.cond_false rfl (T.exit rfl (T.seq (T.region (L.op rfl rfl (O.assign rfl (L.op rfl rfl (O.assign rfl (L.nil (T.ret2 Tryd.results23 rfl rfl ⟨by rw [nestB_yes h0n (fun p hp => hN8 p (by omega)), h0n], he07.trans he8⟩))))))))))

end Go.Proofs.YtpgnaffcbbghgaaDoor
set_option linter.unusedVariables false
set_option linter.unusedSimpArgs false
set_option maxRecDepth 20000
namespace Go.Proofs.YtpgnaffcbbghgaaDoor
open Go Go.E
attribute [local irreducible] Go.E.T Go.E.L Go.E.O Go.E.Ob

theorem RNested_calls (lo : Nat) (r : RoV) (w : World) (hr : r.ok lo w) :
    Calls Tryd.prog 24 #[r.val] w (Ret fun v w' => v = .tuple #[.bool (nestB r), .int .i64 (rollErr r)] ∧ Ext w w') := by
  refine T.enter (vs := [r.val]) Tryd.func24 rfl Tryd.ntmps24 rfl ?_
  refine T.seq (T.region (L.op rfl rfl (O.box rfl (fun b2 w2 hb2 hz2 he2 hB2 => ?_))))
  have hC2 : Blk w2 b2 r.cells 32 := hB2
  refine L.op rfl rfl (O.assign rfl (L.op rfl rfl (O.assign rfl (L.nil (T.seq (T.seq (T.region (L.op rfl rfl (O.loadAgg Tryd.isAgg32 Tryd.sizeOf32 rfl rfl hC2.row (L.op rfl rfl (O.call (xs := [.tmp 11]) Tryd.call36 rfl rfl (RCheckRoll_calls lo r w2 (hr.ext he2)) (fun v7 w7 hq => ?_))))))))))))
  obtain ⟨rfl, he7⟩ := hq
  have he07 := he2.trans he7
  have hC7 : Blk w7 b2 r.cells 32 := hC2.ext he7
  refine L.op rfl rfl (O.assign rfl (L.nil (T.seq (T.region (L.op rfl rfl (O.move rfl (L.op rfl rfl (O.neq_s rfl rfl (fun h0 => ?_) (fun h0 => ?_)))))))))
  · refine L.nil (T.cond_true rfl (T.seq (T.region (L.op rfl rfl (O.move rfl (L.op rfl rfl (O.assign rfl (L.op rfl rfl (O.assign rfl (L.nil (T.ret2 Tryd.results24 rfl rfl ⟨by rw [nestB_roll h0], he07⟩)))))))))))
  · refine L.nil (?_)
    have h0n : rollErr r = 0 := by omega
    have hbnd := roll_bnd h0n
    have hln := landsN_le r.us
    have hll := lu_len r
    refine T.cond_false rfl (T.skip (T.seq (T.region (L.op rfl rfl (O.loadAgg Tryd.isAgg32 Tryd.sizeOf32 rfl rfl hC7.row (L.op rfl rfl (O.call (xs := [.tmp 16]) Tryd.call37 rfl rfl (Lands_calls lo r w7 (hr.ext he07)) (fun v8 w8 hq => ?_))))))))
    obtain ⟨rfl, he8⟩ := hq
    refine L.op rfl rfl (O.assign rfl (L.nil (T.seq (T.seq (T.region (L.op rfl rfl (O.assign rfl (L.nil (T.block (?_))))))))))
    refine T.loop (σ := Nat) (fun q => [(1, .pointer (some ⟨b2, 0, none⟩)), (5, .int .i64 (landsN r.us)), (6, .int .i64 q)]) (fun q w' => q ≤ 3 ∧ Ext w7 w' ∧ ∀ p, p < q → ∀ i, i < (lu r).length → ∀ k, k < (lu r).length → Nest1 (lu r) p i k) (fun q => 3 - q) (0) ⟨rfl, rfl, rfl, trivial⟩ ⟨Nat.zero_le _, he8, fun p hp => absurd hp (Nat.not_lt_zero _)⟩ ?_
    rintro q w9 ⟨hq, he9, hN9⟩
    refine T.seq (T.seq (T.region (L.op rfl rfl (O.move rfl (L.op rfl rfl (O.add64 rfl rfl (by omega) (L.op rfl rfl (O.fieldAddr Tryd.runUnderlying32 rfl Tryd.sizeOf3 rfl (L.op rfl rfl (O.load Tryd.isAgg3 rfl ((hC7.ext he9).cell rfl) (L.op rfl rfl (O.lss_s rfl rfl (fun hlq => ?_) (fun hlq => ?_)))))))))))))
    · refine L.nil (T.cond_true rfl (T.skip (T.seq (T.block (T.seq (T.region (L.op rfl rfl (O.assign rfl (L.nil (T.block (?_)))))))))))
      refine T.loop (σ := Nat) (fun i => [(1, .pointer (some ⟨b2, 0, none⟩)), (5, .int .i64 (landsN r.us)), (6, .int .i64 q), (7, .int .i64 i)]) (fun i w' => i ≤ landsN r.us ∧ Ext w7 w' ∧ ∀ j, j < i → ∀ k, k < (lu r).length → Nest1 (lu r) q j k) (fun i => landsN r.us - i) (0) ⟨rfl, rfl, rfl, rfl, trivial⟩ ⟨Nat.zero_le _, he9, fun p hp => absurd hp (Nat.not_lt_zero _)⟩ ?_
      rintro i w10 ⟨hi, he10, hN10⟩
      refine T.seq (T.seq (T.region (L.op rfl rfl (O.move rfl (L.op rfl rfl (O.move rfl (L.op rfl rfl (O.lss_s rfl rfl (fun hlt => ?_) (fun hlt => ?_)))))))))
      · refine L.nil (?_)
        have hlt' : i < landsN r.us := by omega
        refine T.cond_true rfl (T.skip (T.seq (T.block (T.seq (T.region (L.op rfl rfl (O.assign rfl (L.nil (T.block (?_))))))))))
        refine T.loop (σ := Nat) (fun k => [(1, .pointer (some ⟨b2, 0, none⟩)), (5, .int .i64 (landsN r.us)), (6, .int .i64 q), (7, .int .i64 i), (8, .int .i64 k)]) (fun k w' => k ≤ landsN r.us ∧ Ext w7 w' ∧ ∀ j, j < k → Nest1 (lu r) q i j) (fun k => landsN r.us - k) (0) ⟨rfl, rfl, rfl, rfl, rfl, trivial⟩ ⟨Nat.zero_le _, he10, fun p hp => absurd hp (Nat.not_lt_zero _)⟩ ?_
        rintro k w11 ⟨hk, he11, hN11⟩
        refine T.seq (T.seq (T.region (L.op rfl rfl (O.move rfl (L.op rfl rfl (O.move rfl (L.op rfl rfl (O.lss_s rfl rfl (fun hlk => ?_) (fun hlk => ?_)))))))))
        · refine L.nil (?_)
          have hlk' : k < landsN r.us := by omega
          have hU11 := hr.ext (he07.trans he11)
          have hC11 := hC7.ext he11
          have hiu : i < r.us.length := by omega
          have hku : k < r.us.length := by omega
          have hgi := lu_get hlt'
          have hgk := lu_get hlk'
          have hpi := par_unit h0n hiu
          have hpk := par_unit h0n hku
          refine T.cond_true rfl (T.skip (T.seq (T.block (T.seq (?_)))))
          refine T.anyE mixed 13 [1, 7, 8] rfl [.is _, .is _, .is _, .is _, .is _, .is _, .is _, .is _, .is _, .is _, .is _, .is _, .is _] [[], [0], [], [1, 2], [3], [4], [], [6], [], [7, 8], [9], [10], [5]] [[], [0], [], [0, 1, 2], [0, 1, 2, 3], [0, 1, 2, 3, 4], [], [6], [], [6, 7, 8], [6, 7, 8, 9], [6, 7, 8, 9, 10], [0, 1, 2, 3, 4, 5], [0, 1, 2, 3, 4, 5, 6, 7, 8, 9, 10, 11, 12]] (by kernel_rfl) (by kernel_rfl) rfl (by kernel_rfl) trivial ⟨fun wx hx => Ob.op rfl (O.fieldAddr Tryd.runUnderlying32 rfl Tryd.sizeOf30 rfl ⟨Keep.refl _ _, rfl⟩),
              fun wx hx => Ob.op rfl (O.load Tryd.isAgg30 rfl ((hC11.ext hx).cell rfl) ⟨Keep.refl _ _, rfl⟩),
              fun wx hx => Ob.op rfl (O.move rfl ⟨Keep.refl _ _, rfl⟩),
              fun wx hx => Ob.op rfl (O.indexAddr Tryd.runUnderlying30 Tryd.sizeOf42 rfl rfl ((Units.ext hU11 hx).sl) (by omega) (by omega) ⟨Keep.refl _ _, rfl⟩),
              fun wx hx => Ob.op rfl (O.fieldAddr Tryd.runUnderlying42 rfl Tryd.sizeOf37 rfl ⟨Keep.refl _ _, rfl⟩),
              fun wx hx => Ob.op rfl (O.load Tryd.isAgg37 rfl (((Units.ext hU11 hx).row hiu) 4 _ rfl) ⟨Keep.refl _ _, rfl⟩),
              fun wx hx => Ob.op rfl (O.fieldAddr Tryd.runUnderlying32 rfl Tryd.sizeOf30 rfl ⟨Keep.refl _ _, rfl⟩),
              fun wx hx => Ob.op rfl (O.load Tryd.isAgg30 rfl ((hC11.ext hx).cell rfl) ⟨Keep.refl _ _, rfl⟩),
              fun wx hx => Ob.op rfl (O.move rfl ⟨Keep.refl _ _, rfl⟩),
              fun wx hx => Ob.op rfl (O.indexAddr Tryd.runUnderlying30 Tryd.sizeOf42 rfl rfl ((Units.ext hU11 hx).sl) (by omega) (by omega) ⟨Keep.refl _ _, rfl⟩),
              fun wx hx => Ob.op rfl (O.fieldAddr Tryd.runUnderlying42 rfl Tryd.sizeOf37 rfl ⟨Keep.refl _ _, rfl⟩),
              fun wx hx => Ob.op rfl (O.load Tryd.isAgg37 rfl (((Units.ext hU11 hx).row hku) 4 _ rfl) ⟨Keep.refl _ _, rfl⟩),
              fun wx hx => Ob.op rfl (O.assign rfl ⟨Keep.refl _ _, rfl⟩),
              trivial⟩ (fun w12 he12 => ?_)
          have hU12 := Units.ext hU11 he12
          have hai : (r.us.getD i u0).ok lo w12 := Units.at hU12 hiu
          have hak : (r.us.getD k u0).ok lo w12 := Units.at hU12 hku
          have he712 := he11.trans he12
          refine L.op rfl rfl (O.assign rfl (?_))
          by_cases heq : (r.us.getD i u0).ps.getD q 0 = (r.us.getD k u0).ps.getD q 0
          · refine L.nil (T.seq (?_))
            refine T.anyE mixed 20 [9, 6, 10] rfl [.is _, .is _, .is _, .is _, .is _, .is _, .is _, .is _, .is _, .is _, .is _, .is _, .is _, .is _, .is _, .is _, .is _, .is _, .is _, .is _] [[], [], [0, 1], [2], [], [], [4, 5], [6], [3, 7], [8], [9], [9], [11, 9], [10, 12, 9], [13, 9], [9], [9], [16, 9], [15, 17, 9], [18, 9]] [[], [], [0, 1], [0, 1, 2], [], [], [4, 5], [4, 5, 6], [0, 1, 2, 3, 4, 5, 6, 7], [0, 1, 2, 3, 4, 5, 6, 7, 8], [0, 1, 2, 3, 4, 5, 6, 7, 8, 9], [0, 1, 2, 3, 4, 5, 6, 7, 8, 9], [0, 1, 2, 3, 4, 5, 6, 7, 8, 9, 11], [0, 1, 2, 3, 4, 5, 6, 7, 8, 9, 10, 11, 12], [0, 1, 2, 3, 4, 5, 6, 7, 8, 9, 10, 11, 12, 13], [0, 1, 2, 3, 4, 5, 6, 7, 8, 9], [0, 1, 2, 3, 4, 5, 6, 7, 8, 9], [0, 1, 2, 3, 4, 5, 6, 7, 8, 9, 16], [0, 1, 2, 3, 4, 5, 6, 7, 8, 9, 15, 16, 17], [0, 1, 2, 3, 4, 5, 6, 7, 8, 9, 15, 16, 17, 18], [0, 1, 2, 3, 4, 5, 6, 7, 8, 9, 10, 11, 12, 13, 14, 15, 16, 17, 18, 19], [0, 1, 2, 3, 4, 5, 6, 7, 8, 9, 10, 11, 12, 13, 14, 15, 16, 17, 18, 19, 20]] (by kernel_rfl) (by kernel_rfl) rfl (by kernel_rfl) trivial ⟨fun wx hx => Ob.op rfl (O.move rfl ⟨Keep.refl _ _, rfl⟩),
                fun wx hx => Ob.op rfl (O.move rfl ⟨Keep.refl _ _, rfl⟩),
                fun wx hx => Ob.op rfl (O.indexAddr Tryd.runUnderlying37 Tryd.sizeOf3 rfl rfl (hai.p.ext hx) (by omega) (by omega) ⟨Keep.refl _ _, rfl⟩),
                fun wx hx => Ob.op rfl (O.load Tryd.isAgg3 rfl (Ints.at (hai.p.ext hx) (by omega)) ⟨Keep.refl _ _, rfl⟩),
                fun wx hx => Ob.op rfl (O.move rfl ⟨Keep.refl _ _, rfl⟩),
                fun wx hx => Ob.op rfl (O.move rfl ⟨Keep.refl _ _, rfl⟩),
                fun wx hx => Ob.op rfl (O.indexAddr Tryd.runUnderlying37 Tryd.sizeOf3 rfl rfl (hak.p.ext hx) (by omega) (by omega) ⟨Keep.refl _ _, rfl⟩),
                fun wx hx => Ob.op rfl (O.load Tryd.isAgg3 rfl (Ints.at (hak.p.ext hx) (by omega)) ⟨Keep.refl _ _, rfl⟩),
                fun wx hx => Ob.op rfl (O.eql_t rfl rfl heq ⟨Keep.refl _ _, rfl⟩),
                fun wx hx => Ob.op rfl (O.move rfl ⟨Keep.refl _ _, rfl⟩),
                fun wx hx => Ob.op rfl (O.move rfl ⟨Keep.refl _ _, rfl⟩),
                fun wx hx => Ob.op rfl (O.move rfl ⟨Keep.refl _ _, rfl⟩),
                fun wx hx => Ob.op rfl (O.add64 rfl rfl (by omega) ⟨Keep.refl _ _, rfl⟩),
                fun wx hx => Ob.op rfl (O.indexAddr Tryd.runUnderlying37 Tryd.sizeOf3 rfl rfl (hai.p.ext hx) (by omega) (by omega) ⟨Keep.refl _ _, rfl⟩),
                fun wx hx => Ob.op rfl (O.load Tryd.isAgg3 rfl (Ints.at (i := q + 1) (hai.p.ext hx) (by omega)) ⟨Keep.refl _ _, rfl⟩),
                fun wx hx => Ob.op rfl (O.move rfl ⟨Keep.refl _ _, rfl⟩),
                fun wx hx => Ob.op rfl (O.move rfl ⟨Keep.refl _ _, rfl⟩),
                fun wx hx => Ob.op rfl (O.add64 rfl rfl (by omega) ⟨Keep.refl _ _, rfl⟩),
                fun wx hx => Ob.op rfl (O.indexAddr Tryd.runUnderlying37 Tryd.sizeOf3 rfl rfl (hak.p.ext hx) (by omega) (by omega) ⟨Keep.refl _ _, rfl⟩),
                fun wx hx => Ob.op rfl (O.load Tryd.isAgg3 rfl (Ints.at (i := q + 1) (hak.p.ext hx) (by omega)) ⟨Keep.refl _ _, rfl⟩),
                trivial⟩ (fun w13 he13 => ?_)
            refine L.op rfl rfl (O.neq_s rfl rfl (fun hne => ?_) (fun hne => ?_))
            · refine L.op rfl rfl (O.pick_true rfl rfl (L.nil (T.cond_true rfl (T.seq (T.region (L.op rfl rfl (O.assign rfl (L.op rfl rfl (O.assign rfl (L.nil (T.ret2 Tryd.results24 rfl rfl ⟨by rw [nestB_no (q := q) (i := i) (k := k) (by omega) (by omega) (by omega) (fun h => hne (by unfold Nest1 at h; rw [hgi, hgk] at h; exact h heq)), h0n], he07.trans (he712.trans he13)⟩)))))))))))
            · refine L.op rfl rfl (O.pick_true rfl rfl (L.nil (T.cond_false rfl (T.skip (T.blk (T.region (L.op rfl rfl (O.move rfl (L.op rfl rfl (O.add64 rfl rfl (by omega) (L.op rfl rfl (O.assign rfl (L.nil (T.again (k + 1) (by omega) ⟨rfl, rfl, rfl, rfl, rfl, trivial⟩ ⟨hlk', he712.trans he13, fun j hj => ?_⟩))))))))))))))
              · by_cases e : j = k
                · subst e; intro _; rw [hgi, hgk]; exact hne
                · exact hN11 j (by omega)
          · refine L.nil (T.seq (?_))
            refine T.anyE mixed 20 [9, 6, 10] rfl [.is _, .is _, .is _, .is _, .is _, .is _, .is _, .is _, .is _, .is _, .is undef, .is undef, .is undef, .is undef, .is undef, .is undef, .is undef, .is undef, .is undef, .is undef] [[], [], [0, 1], [2], [], [], [4, 5], [6], [3, 7], [8], [9], [9], [11, 9], [10, 12, 9], [13, 9], [9], [9], [16, 9], [15, 17, 9], [18, 9]] [[], [], [0, 1], [0, 1, 2], [], [], [4, 5], [4, 5, 6], [0, 1, 2, 3, 4, 5, 6, 7], [0, 1, 2, 3, 4, 5, 6, 7, 8], [0, 1, 2, 3, 4, 5, 6, 7, 8, 9], [0, 1, 2, 3, 4, 5, 6, 7, 8, 9], [0, 1, 2, 3, 4, 5, 6, 7, 8, 9, 11], [0, 1, 2, 3, 4, 5, 6, 7, 8, 9, 10, 11, 12], [0, 1, 2, 3, 4, 5, 6, 7, 8, 9, 10, 11, 12, 13], [0, 1, 2, 3, 4, 5, 6, 7, 8, 9], [0, 1, 2, 3, 4, 5, 6, 7, 8, 9], [0, 1, 2, 3, 4, 5, 6, 7, 8, 9, 16], [0, 1, 2, 3, 4, 5, 6, 7, 8, 9, 15, 16, 17], [0, 1, 2, 3, 4, 5, 6, 7, 8, 9, 15, 16, 17, 18], [0, 1, 2, 3, 4, 5, 6, 7, 8, 9, 10, 11, 12, 13, 14, 15, 16, 17, 18, 19], [0, 1, 2, 3, 4, 5, 6, 7, 8, 9, 10, 11, 12, 13, 14, 15, 16, 17, 18, 19, 20]] (by kernel_rfl) (by kernel_rfl) rfl (by kernel_rfl) trivial ⟨fun wx hx => Ob.op rfl (O.move rfl ⟨Keep.refl _ _, rfl⟩),
                fun wx hx => Ob.op rfl (O.move rfl ⟨Keep.refl _ _, rfl⟩),
                fun wx hx => Ob.op rfl (O.indexAddr Tryd.runUnderlying37 Tryd.sizeOf3 rfl rfl (hai.p.ext hx) (by omega) (by omega) ⟨Keep.refl _ _, rfl⟩),
                fun wx hx => Ob.op rfl (O.load Tryd.isAgg3 rfl (Ints.at (hai.p.ext hx) (by omega)) ⟨Keep.refl _ _, rfl⟩),
                fun wx hx => Ob.op rfl (O.move rfl ⟨Keep.refl _ _, rfl⟩),
                fun wx hx => Ob.op rfl (O.move rfl ⟨Keep.refl _ _, rfl⟩),
                fun wx hx => Ob.op rfl (O.indexAddr Tryd.runUnderlying37 Tryd.sizeOf3 rfl rfl (hak.p.ext hx) (by omega) (by omega) ⟨Keep.refl _ _, rfl⟩),
                fun wx hx => Ob.op rfl (O.load Tryd.isAgg3 rfl (Ints.at (hak.p.ext hx) (by omega)) ⟨Keep.refl _ _, rfl⟩),
                fun wx hx => Ob.op rfl (O.eql_f rfl rfl heq ⟨Keep.refl _ _, rfl⟩),
                fun wx hx => Ob.op rfl (O.move rfl ⟨Keep.refl _ _, rfl⟩),
                fun wx hx => Ob.pass rfl rfl,
                fun wx hx => Ob.pass rfl rfl,
                fun wx hx => Ob.pass rfl rfl,
                fun wx hx => Ob.pass rfl rfl,
                fun wx hx => Ob.pass rfl rfl,
                fun wx hx => Ob.pass rfl rfl,
                fun wx hx => Ob.pass rfl rfl,
                fun wx hx => Ob.pass rfl rfl,
                fun wx hx => Ob.pass rfl rfl,
                fun wx hx => Ob.pass rfl rfl,
                trivial⟩ (fun w13 he13 => ?_)
            refine L.pass rfl rfl (L.op rfl rfl (O.pick_false rfl rfl (L.nil (T.cond_false rfl (T.skip (T.blk (T.region (L.op rfl rfl (O.move rfl (L.op rfl rfl (O.add64 rfl rfl (by omega) (L.op rfl rfl (O.assign rfl (L.nil (T.again (k + 1) (by omega) ⟨rfl, rfl, rfl, rfl, rfl, trivial⟩ ⟨hlk', he712.trans he13, fun j hj => ?_⟩)))))))))))))))
            · by_cases e : j = k
              · subst e; intro h; rw [hgi, hgk] at h; exact absurd h heq
              · exact hN11 j (by omega)
        · refine L.nil (T.cond_false rfl (T.exit rfl (T.blk (T.region (L.op rfl rfl (O.move rfl (L.op rfl rfl (O.add64 rfl rfl (by omega) (L.op rfl rfl (O.assign rfl (L.nil (T.again (i + 1) (by omega) ⟨rfl, rfl, rfl, rfl, trivial⟩ ⟨hlt', he11, fun j hj k' hk' => ?_⟩))))))))))))
          · by_cases e : j = i
            · subst e; exact hN11 k' (by omega)
            · exact hN10 j (by omega) k' hk'
      · refine L.nil (T.cond_false rfl (T.exit rfl (T.blk (T.region (L.op rfl rfl (O.move rfl (L.op rfl rfl (O.add64 rfl rfl (by omega) (L.op rfl rfl (O.assign rfl (L.nil (T.again (q + 1) (by omega) ⟨rfl, rfl, rfl, trivial⟩ ⟨by omega, he10, fun p hp i' hi' => ?_⟩))))))))))))
        · by_cases e : p = q
          · subst e; exact hN10 i' (by omega)
          · exact hN9 p (by omega) i' hi'
    · refine L.nil (T.cond_false rfl (T.exit rfl (T.seq (T.region (L.op rfl rfl (O.assign rfl (L.op rfl rfl (O.assign rfl (L.nil (T.ret2 Tryd.results24 rfl rfl ⟨by rw [nestB_yes h0n (fun p hp => hN9 p (by omega)), h0n], he07.trans he9⟩))))))))))

end Go.Proofs.YtpgnaffcbbghgaaDoor
set_option linter.unusedVariables false
set_option linter.unusedSimpArgs false
set_option maxRecDepth 20000
namespace Go.Proofs.YtpgnaffcbbghgaaDoor
open Go Go.E
attribute [local irreducible] Go.E.T Go.E.L Go.E.O Go.E.Ob

theorem run_partI (cs : Array Value) (i : Nat) (v : Value) (w : World) (h : cs[i]? = some v) : (part 3 cs i).run Tryd.prog w = .ok v w := by
  simp [part, Tryd.isAgg3 w, h]
theorem run_partU (cs : Array Value) (i : Nat) (v : Value) (w : World) (h : cs[i]? = some v) : (part 28 cs i).run Tryd.prog w = .ok v w := by
  simp [part, Tryd.isAgg28 w, h]
theorem eqPar_guard : Tryd.prog.eqGuardType Tryd.prog.depth 62 = false := by kernel_rfl
theorem eqPar (a a' : Int) (b b' : Nat) (w : World) : (Op.equalIn 10000 62 (.agg #[.int .i64 a, wordV b]) (.agg #[.int .i64 a', wordV b'])).run Tryd.prog w = .ok (decide ((a, b) = (a', b'))) w := by
  have h3 : Tryd.prog.underlying 3 = some (.int .i64) := by kernel_rfl
  have h4 : Tryd.prog.underlying 28 = some (.int .u64) := by kernel_rfl
  rw [run_equalIn_struct w 9999 62 _ _ (by kernel_rfl) (by kernel_rfl)]
  rw [show (Tryd.prog.fieldsOf 62).toList = [{ name := "Number", type := 3, offset := 0, embedded := false, tag := "", pkgPath := "", byteOffset := 0 }, { name := "Units", type := 28, offset := 1, embedded := false, tag := "", pkgPath := "", byteOffset := 8 }] from by kernel_rfl]
  have p0 : ∀ (x : Int) (y : Nat) (w : World), (part 3 #[Value.int .i64 x, wordV y] 0).run Tryd.prog w = .ok (.int .i64 x) w := fun x y w => run_partI _ _ _ w rfl
  have p1 : ∀ (x : Int) (y : Nat) (w : World), (part 28 #[Value.int .i64 x, wordV y] 1).run Tryd.prog w = .ok (.int .u64 (y : Int)) w := fun x y w => run_partU _ _ _ w rfl
  have e3 : ∀ (x y : Int) (w : World), (Op.equalIn 9999 3 (.int .i64 x) (.int .i64 y)).run Tryd.prog w = .ok (x == y) w := fun x y w => run_equalIn_int w 9998 3 _ _ x y h3
  have e4 : ∀ (x y : Int) (w : World), (Op.equalIn 9999 28 (.int .u64 x) (.int .u64 y)).run Tryd.prog w = .ok (x == y) w := fun x y w => run_equalIn_int w 9998 28 _ _ x y h4
  simp only [Op.eqFields]
  by_cases h1 : a = a' <;> by_cases h2 : b = b' <;> simp [h1, h2, p0, p1, e3, e4, Int.ofNat_inj]
theorem O.neqPar {C : Cx} {e : Env} {w : World} {K : Value → World → Prop} {d : Option Tmp} {ty : TypeId} {pos : String} {aft : Array Edge} {g : Option (Nat × Bool)} {x y : Operand} {p p' : Int × Nat} (hP : C.P = Tryd.prog) (hx : ev e x = some (.agg #[.int .i64 p.1, wordV p.2])) (hy : ev e y = some (.agg #[.int .i64 p'.1, wordV p'.2]))
    (h : K (.bool (!decide (p = p'))) w) : O C e ⟨d, .binOp .neq 62 x y 62, ty, pos, aft, g⟩ w K :=
  O.of_run (by simp) (fun q hq => by
    rw [hP]
    simp only [execOp, hq.eval hx, hq.eval hy, Sem.run_bind, run_eqGuard_agg w _ _ _ _ _ _ eqPar_guard, Result.andThen_ok, run_neq_struct, eqPar]
    rfl) h
theorem O.neqPar_t {C : Cx} {e : Env} {w : World} {K : Value → World → Prop} {d : Option Tmp} {ty : TypeId} {pos : String} {aft : Array Edge} {g : Option (Nat × Bool)} {x y : Operand} {p p' : Int × Nat} (hP : C.P = Tryd.prog) (hx : ev e x = some (.agg #[.int .i64 p.1, wordV p.2])) (hy : ev e y = some (.agg #[.int .i64 p'.1, wordV p'.2]))
    (hne : ¬ p = p') (h : K (.bool true) w) : O C e ⟨d, .binOp .neq 62 x y 62, ty, pos, aft, g⟩ w K := O.neqPar hP hx hy (by rw [decide_eq_false hne]; exact h)
theorem O.neqPar_f {C : Cx} {e : Env} {w : World} {K : Value → World → Prop} {d : Option Tmp} {ty : TypeId} {pos : String} {aft : Array Edge} {g : Option (Nat × Bool)} {x y : Operand} {p p' : Int × Nat} (hP : C.P = Tryd.prog) (hx : ev e x = some (.agg #[.int .i64 p.1, wordV p.2])) (hy : ev e y = some (.agg #[.int .i64 p'.1, wordV p'.2]))
    (he : p = p') (h : K (.bool false) w) : O C e ⟨d, .binOp .neq 62 x y 62, ty, pos, aft, g⟩ w K := O.neqPar hP hx hy (by rw [decide_eq_true he]; exact h)
theorem pcells_at : ∀ (ps : List (Int × Nat)) (i : Nat), i < ps.length → (pcells ps)[i * 2]? = some (.int .i64 (ps.getD i (0, 0)).1) ∧ (pcells ps)[i * 2 + 1]? = some (wordV (ps.getD i (0, 0)).2)
  | [], i, h => absurd h (Nat.not_lt_zero _)
  | q :: r, 0, _ => ⟨rfl, rfl⟩
  | q :: r, i + 1, h => by
    have := pcells_at r i (by simpa using h)
    rw [show (i + 1) * 2 = i * 2 + 1 + 1 by omega]
    simpa [pcells] using this
theorem Pars.row {w : World} {v : Value} {lo : Nat} {ps : List (Int × Nat)} (h : Pars lo w v ps) {i : Nat} (hi : i < ps.length) : Row w ((sAddr v).add ((i : Int).toNat * 2)) [.int .i64 (ps.getD i (0, 0)).1, wordV (ps.getD i (0, 0)).2] := by
  intro j u hj
  obtain ⟨h0, h1⟩ := pcells_at ps i hi
  rw [add_add, Int.toNat_natCast]
  rcases j with _ | _ | j
  · simp only [List.getElem?_cons_zero, Option.some.injEq] at hj; subst hj
    exact Sl.cell h h0
  · simp only [Nat.zero_add, List.getElem?_cons_succ, List.getElem?_cons_zero, Option.some.injEq] at hj; subst hj
    exact Sl.cell h h1
  · simp at hj
theorem equalPar_calls (lo lo' : Nat) (p q : Value) (xs ys : List (Int × Nat)) (w : World) (hp : Pars lo w p xs) (hq : Pars lo' w q ys) :
    Calls Tryd.prog 22 #[p, q] w (Ret fun v w' => v = .bool (decide (xs = ys)) ∧ Ext w w') := by
  have hle := Sl.le hp
  refine T.enter (vs := [p, q]) Tryd.func22 rfl Tryd.ntmps22 rfl ?_
  refine T.seq (T.region (L.op rfl rfl (O.assign rfl (L.nil (T.seq (T.seq (T.region (L.op rfl rfl (O.move rfl (L.op rfl rfl (O.len Tryd.runUnderlying57 rfl (Sl.val hp) (L.op rfl rfl (O.move rfl (L.op rfl rfl (O.len Tryd.runUnderlying57 rfl (Sl.val hq) (L.op rfl rfl (O.neq_s rfl rfl (fun hl => ?_) (fun hl => ?_))))))))))))))))))
  · refine L.nil (T.cond_true rfl (T.seq (T.region (L.op rfl rfl (O.assign rfl (L.nil (T.ret1 Tryd.results22 rfl ⟨by rw [decide_eq_false (fun h => hl (by rw [h]))], Keep.refl _ _⟩)))))))
  · refine L.nil (?_)
    have hlen : xs.length = ys.length := by omega
    refine T.cond_false rfl (T.skip (T.seq (T.seq (T.region (L.op rfl rfl (O.move rfl (L.op rfl rfl (O.len Tryd.runUnderlying57 rfl (Sl.val hp) (L.op rfl rfl (O.move rfl (L.nil (T.block (?_)))))))))))))
    refine T.loop (σ := Nat) (fun i => [(0, p), (1, q), (12, .int .i64 xs.length), (13, .int .i64 i)]) (fun i w' => i ≤ xs.length ∧ Ext w w' ∧ ∀ j, j < i → xs.getD j (0, 0) = ys.getD j (0, 0)) (fun i => xs.length - i) (0) ⟨rfl, rfl, rfl, rfl, trivial⟩ ⟨Nat.zero_le _, Keep.refl _ _, fun j hj => absurd hj (Nat.not_lt_zero _)⟩ ?_
    rintro i w1 ⟨hi, he1, hall⟩
    have hp1 : Pars lo w1 p xs := Sl.ext hp he1
    have hq1 : Pars lo' w1 q ys := Sl.ext hq he1
    refine T.seq (T.region (L.op rfl rfl (O.lss_s rfl rfl (fun hlt => ?_) (fun hlt => ?_))))
    · refine L.nil (?_)
      have hlt' : i < xs.length := by omega
      by_cases heq : xs.getD i (0, 0) = ys.getD i (0, 0)
      · refine T.seq (T.cond_true rfl (T.skip (T.seq (T.block (T.seq (T.region (L.op rfl rfl (O.move rfl (L.op rfl rfl (O.assign rfl (L.nil (T.seq (?_)))))))))))))
        refine T.anyE mixed 8 [0, 5, 1] rfl [.is _, .is _, .is _, .is _, .is _, .is _, .is _, .is _] [[], [], [0, 1], [2], [], [], [4, 5], [6]] [[], [], [0, 1], [0, 1, 2], [], [], [4, 5], [4, 5, 6], [0, 1, 2, 3, 4, 5, 6, 7]] (by kernel_rfl) (by kernel_rfl) rfl (by kernel_rfl) trivial ⟨fun wx hx => Ob.op rfl (O.move rfl ⟨Keep.refl _ _, rfl⟩),
            fun wx hx => Ob.op rfl (O.move rfl ⟨Keep.refl _ _, rfl⟩),
            fun wx hx => Ob.op rfl (O.indexAddr Tryd.runUnderlying57 Tryd.sizeOf62 rfl rfl hp1 (by omega) (by omega) ⟨Keep.refl _ _, rfl⟩),
            fun wx hx => Ob.op rfl (O.loadAgg Tryd.isAgg62 Tryd.sizeOf62 rfl rfl (Pars.row (Sl.ext hp1 hx) hlt') ⟨Keep.refl _ _, rfl⟩),
            fun wx hx => Ob.op rfl (O.move rfl ⟨Keep.refl _ _, rfl⟩),
            fun wx hx => Ob.op rfl (O.move rfl ⟨Keep.refl _ _, rfl⟩),
            fun wx hx => Ob.op rfl (O.indexAddr Tryd.runUnderlying57 Tryd.sizeOf62 rfl rfl hq1 (by omega) (by omega) ⟨Keep.refl _ _, rfl⟩),
            fun wx hx => Ob.op rfl (O.loadAgg Tryd.isAgg62 Tryd.sizeOf62 rfl rfl (Pars.row (Sl.ext hq1 hx) (by omega)) ⟨Keep.refl _ _, rfl⟩),
            trivial⟩ (fun w2 he2 => ?_)
        refine L.op rfl rfl (O.neqPar_f rfl rfl rfl heq (L.nil (T.cond_false rfl (T.skip (T.blk (T.region (L.op rfl rfl (O.add64 rfl rfl (by omega) (L.op rfl rfl (O.move rfl (L.nil (T.again (i + 1) (by omega) ⟨rfl, rfl, rfl, rfl, trivial⟩ ⟨hlt', he1.trans he2, fun j hj => ?_⟩))))))))))))
        · by_cases hji : j = i
          · subst hji; exact heq
          · exact hall j (by omega)
      · refine T.seq (T.cond_true rfl (T.skip (T.seq (T.block (T.seq (T.region (L.op rfl rfl (O.move rfl (L.op rfl rfl (O.assign rfl (L.nil (T.seq (?_)))))))))))))
        refine T.anyE mixed 8 [0, 5, 1] rfl [.is _, .is _, .is _, .is _, .is _, .is _, .is _, .is _] [[], [], [0, 1], [2], [], [], [4, 5], [6]] [[], [], [0, 1], [0, 1, 2], [], [], [4, 5], [4, 5, 6], [0, 1, 2, 3, 4, 5, 6, 7]] (by kernel_rfl) (by kernel_rfl) rfl (by kernel_rfl) trivial ⟨fun wx hx => Ob.op rfl (O.move rfl ⟨Keep.refl _ _, rfl⟩),
            fun wx hx => Ob.op rfl (O.move rfl ⟨Keep.refl _ _, rfl⟩),
            fun wx hx => Ob.op rfl (O.indexAddr Tryd.runUnderlying57 Tryd.sizeOf62 rfl rfl hp1 (by omega) (by omega) ⟨Keep.refl _ _, rfl⟩),
            fun wx hx => Ob.op rfl (O.loadAgg Tryd.isAgg62 Tryd.sizeOf62 rfl rfl (Pars.row (Sl.ext hp1 hx) hlt') ⟨Keep.refl _ _, rfl⟩),
            fun wx hx => Ob.op rfl (O.move rfl ⟨Keep.refl _ _, rfl⟩),
            fun wx hx => Ob.op rfl (O.move rfl ⟨Keep.refl _ _, rfl⟩),
            fun wx hx => Ob.op rfl (O.indexAddr Tryd.runUnderlying57 Tryd.sizeOf62 rfl rfl hq1 (by omega) (by omega) ⟨Keep.refl _ _, rfl⟩),
            fun wx hx => Ob.op rfl (O.loadAgg Tryd.isAgg62 Tryd.sizeOf62 rfl rfl (Pars.row (Sl.ext hq1 hx) (by omega)) ⟨Keep.refl _ _, rfl⟩),
            trivial⟩ (fun w2 he2 => ?_)
        refine L.op rfl rfl (O.neqPar_t rfl rfl rfl heq (L.nil (T.cond_true rfl (T.seq (T.region (L.op rfl rfl (O.assign rfl (L.nil (T.ret1 Tryd.results22 rfl ⟨by rw [decide_eq_false (fun h => heq (by rw [h]))], he1.trans he2⟩)))))))))
    · refine L.nil (T.seq (T.cond_false rfl (T.exit rfl (T.seq (T.region (L.op rfl rfl (O.assign rfl (L.nil (T.ret1 Tryd.results22 rfl ⟨by rw [decide_eq_true (list_eq_of (d := (0, 0)) hlen (fun j hj => hall j (by omega)))], he1⟩)))))))))

end Go.Proofs.YtpgnaffcbbghgaaDoor
set_option linter.unusedVariables false
set_option linter.unusedSimpArgs false
set_option maxRecDepth 20000
namespace Go.Proofs.YtpgnaffcbbghgaaDoor
open Go Go.E
attribute [local irreducible] Go.E.T Go.E.L Go.E.O Go.E.Ob

/-- What makes two units equal. -/
def sameBs (u v : UnV) : List Bool := [decide (u.nm = v.nm), decide (u.pp = v.pp), u.wt == v.wt, decide (u.gs = v.gs), decide (u.vs = v.vs), decide (u.ps = v.ps)]
def sameU (u v : UnV) : Bool := (sameBs u v).all id
theorem sameU_iff {u v : UnV} : sameU u v = true ↔ u.nm = v.nm ∧ u.pp = v.pp ∧ u.wt = v.wt ∧ u.gs = v.gs ∧ u.vs = v.vs ∧ u.ps = v.ps := by
  simp only [sameU, sameBs, List.all_cons, List.all_nil, id, Bool.and_eq_true, decide_eq_true_eq, beq_iff_eq, and_true]
def SameUs (us vs : List UnV) : Prop := us.length = vs.length ∧ ∀ i, i < us.length → sameU (us.getD i u0) (vs.getD i u0) = true
open Classical in
noncomputable def sameUsB (us vs : List UnV) : Bool := if SameUs us vs then true else false
theorem sameUs_yes {us vs : List UnV} (h : SameUs us vs) : sameUsB us vs = true := if_pos h
theorem sameUs_no {us vs : List UnV} (h : ¬ SameUs us vs) : sameUsB us vs = false := if_neg h
noncomputable def sameB (a b : RoV) : Bool := (decide (a.G = b.G) && (decide (a.P = b.P) && decide (a.L = b.L))) && sameUsB a.us b.us
theorem same1_calls (lo lo' : Nat) (u v : UnV) (w : World) (hu : u.ok lo w) (hv : v.ok lo' w) :
    Calls Tryd.prog 34 #[u.val, v.val] w (Ret fun x w' => x = .bool (sameU u v) ∧ Ext w w') := by
  refine T.enter (vs := [u.val, v.val]) Tryd.func34 rfl Tryd.ntmps34 rfl ?_
  refine T.seq (T.region (L.op rfl rfl (O.box rfl (fun b1 w1 hb1 hz1 he1 hB1 => ?_))))
  refine L.op rfl rfl (O.box rfl (fun b2 w2 hb2 hz2 he2 hB2 => ?_))
  have he := he1.trans he2
  have hC1 : Blk w2 b1 u.cells _ := Blk.ext (cs := u.cells) hB1 he2
  have hC2 : Blk w2 b2 v.cells _ := hB2
  have hu2 := hu.ext he
  have hv2 := hv.ext he
  refine L.op rfl rfl (O.assign rfl (L.nil (T.seq (?_))))
  refine T.anyE mixed 30 [2, 3] rfl [.is _, .is _, .is _, .is _, .is _, .is _, .is _, .is _, .is _, .is _, .is _, .is _, .is _, .is _, .is _, .is _, .is _, .is _, .is _, .is (.bool (decide (u.gs = v.gs))), .is _, .is _, .is _, .is _, .is (.bool (decide (u.vs = v.vs))), .is _, .is _, .is _, .is _, .is (.bool (decide (u.ps = v.ps)))] [[], [0], [], [2], [1, 3], [], [5], [], [7], [6, 8], [], [10], [], [12], [11, 13], [], [15], [], [17], [16, 18], [], [20], [], [22], [21, 23], [], [25], [], [27], [26, 28]] ([] :: [0] :: [] :: [2] :: [0, 1, 2, 3] :: [] :: [5] :: [] :: [7] :: [5, 6, 7, 8] :: [] :: [10] :: [] :: [12] :: [10, 11, 12, 13] :: [] :: [15] :: [] :: [17] :: [15, 16, 17, 18] :: [] :: [20] :: [] :: [22] :: [15, 16, 17, 18, 19, 20, 21, 22, 23] :: [] :: [25] :: [] :: [27] :: [15, 16, 17, 18, 19, 20, 21, 22, 23, 24, 25, 26, 27, 28] :: [0, 1, 2, 3, 4, 5, 6, 7, 8, 9, 10, 11, 12, 13, 14, 15, 16, 17, 18, 19, 20, 21, 22, 23, 24, 25, 26, 27, 28, 29] :: (0 :: 1 :: 2 :: 3 :: 4 :: 5 :: 6 :: 7 :: 8 :: 9 :: 10 :: 11 :: 12 :: 13 :: 14 :: 15 :: 16 :: 17 :: 18 :: 19 :: 20 :: 21 :: 22 :: 23 :: 24 :: 25 :: 26 :: 27 :: 28 :: 29 :: 30 :: []) :: (0 :: 1 :: 2 :: 3 :: 4 :: 5 :: 6 :: 7 :: 8 :: 9 :: 10 :: 11 :: 12 :: 13 :: 14 :: 15 :: 16 :: 17 :: 18 :: 19 :: 20 :: 21 :: 22 :: 23 :: 24 :: 25 :: 26 :: 27 :: 28 :: 29 :: 30 :: 31 :: []) :: []) (by kernel_rfl) (by kernel_rfl) rfl (by kernel_rfl) trivial ⟨fun wx hx => Ob.op rfl (O.fieldAddr Tryd.runUnderlying42 rfl Tryd.sizeOf9 rfl ⟨Keep.refl _ _, rfl⟩),
      fun wx hx => Ob.op rfl (O.load Tryd.isAgg9 rfl ((hC1.ext hx).cell rfl) ⟨Keep.refl _ _, rfl⟩),
      fun wx hx => Ob.op rfl (O.fieldAddr Tryd.runUnderlying42 rfl Tryd.sizeOf9 rfl ⟨Keep.refl _ _, rfl⟩),
      fun wx hx => Ob.op rfl (O.load Tryd.isAgg9 rfl ((hC2.ext hx).cell rfl) ⟨Keep.refl _ _, rfl⟩),
      fun wx hx => Ob.op rfl (O.eql_str Tryd.runUnderlying9 rfl rfl ⟨Keep.refl _ _, rfl⟩),
      fun wx hx => Ob.op rfl (O.fieldAddr Tryd.runUnderlying42 rfl Tryd.sizeOf3 rfl ⟨Keep.refl _ _, rfl⟩),
      fun wx hx => Ob.op rfl (O.load Tryd.isAgg3 rfl ((hC1.ext hx).cell rfl) ⟨Keep.refl _ _, rfl⟩),
      fun wx hx => Ob.op rfl (O.fieldAddr Tryd.runUnderlying42 rfl Tryd.sizeOf3 rfl ⟨Keep.refl _ _, rfl⟩),
      fun wx hx => Ob.op rfl (O.load Tryd.isAgg3 rfl ((hC2.ext hx).cell rfl) ⟨Keep.refl _ _, rfl⟩),
      fun wx hx => Ob.op rfl (O.eql rfl rfl ⟨Keep.refl _ _, rfl⟩),
      fun wx hx => Ob.op rfl (O.fieldAddr Tryd.runUnderlying42 rfl Tryd.sizeOf4 rfl ⟨Keep.refl _ _, rfl⟩),
      fun wx hx => Ob.op rfl (O.load Tryd.isAgg4 rfl ((hC1.ext hx).cell rfl) ⟨Keep.refl _ _, rfl⟩),
      fun wx hx => Ob.op rfl (O.fieldAddr Tryd.runUnderlying42 rfl Tryd.sizeOf4 rfl ⟨Keep.refl _ _, rfl⟩),
      fun wx hx => Ob.op rfl (O.load Tryd.isAgg4 rfl ((hC2.ext hx).cell rfl) ⟨Keep.refl _ _, rfl⟩),
      fun wx hx => Ob.op rfl (O.eql_bool Tryd.runUnderlying4 rfl rfl ⟨Keep.refl _ _, rfl⟩),
      fun wx hx => Ob.op rfl (O.fieldAddr Tryd.runUnderlying42 rfl Tryd.sizeOf37 rfl ⟨Keep.refl _ _, rfl⟩),
      fun wx hx => Ob.op rfl (O.load Tryd.isAgg37 rfl ((hC1.ext hx).cell rfl) ⟨Keep.refl _ _, rfl⟩),
      fun wx hx => Ob.op rfl (O.fieldAddr Tryd.runUnderlying42 rfl Tryd.sizeOf37 rfl ⟨Keep.refl _ _, rfl⟩),
      fun wx hx => Ob.op rfl (O.load Tryd.isAgg37 rfl ((hC2.ext hx).cell rfl) ⟨Keep.refl _ _, rfl⟩),
      fun wx hx => Ob.op rfl (O.call (xs := [.tmp 21, .tmp 23]) Tryd.call19 rfl rfl (equalI_calls lo lo' u.gv v.gv u.gs v.gs wx (hu2.g.ext hx) (hv2.g.ext hx)) (fun v wy h => ⟨h.2, h.1⟩)),
      fun wx hx => Ob.op rfl (O.fieldAddr Tryd.runUnderlying42 rfl Tryd.sizeOf37 rfl ⟨Keep.refl _ _, rfl⟩),
      fun wx hx => Ob.op rfl (O.load Tryd.isAgg37 rfl ((hC1.ext hx).cell rfl) ⟨Keep.refl _ _, rfl⟩),
      fun wx hx => Ob.op rfl (O.fieldAddr Tryd.runUnderlying42 rfl Tryd.sizeOf37 rfl ⟨Keep.refl _ _, rfl⟩),
      fun wx hx => Ob.op rfl (O.load Tryd.isAgg37 rfl ((hC2.ext hx).cell rfl) ⟨Keep.refl _ _, rfl⟩),
      fun wx hx => Ob.op rfl (O.call (xs := [.tmp 26, .tmp 28]) Tryd.call19 rfl rfl (equalI_calls lo lo' u.vv v.vv u.vs v.vs wx (hu2.v.ext hx) (hv2.v.ext hx)) (fun v wy h => ⟨h.2, h.1⟩)),
      fun wx hx => Ob.op rfl (O.fieldAddr Tryd.runUnderlying42 rfl Tryd.sizeOf37 rfl ⟨Keep.refl _ _, rfl⟩),
      fun wx hx => Ob.op rfl (O.load Tryd.isAgg37 rfl ((hC1.ext hx).cell rfl) ⟨Keep.refl _ _, rfl⟩),
      fun wx hx => Ob.op rfl (O.fieldAddr Tryd.runUnderlying42 rfl Tryd.sizeOf37 rfl ⟨Keep.refl _ _, rfl⟩),
      fun wx hx => Ob.op rfl (O.load Tryd.isAgg37 rfl ((hC2.ext hx).cell rfl) ⟨Keep.refl _ _, rfl⟩),
      fun wx hx => Ob.op rfl (O.call (xs := [.tmp 31, .tmp 33]) Tryd.call19 rfl rfl (equalI_calls lo lo' u.pv v.pv u.ps v.ps wx (hu2.p.ext hx) (hv2.p.ext hx)) (fun v wy h => ⟨h.2, h.1⟩)),
      trivial⟩ (fun w4 he4 => ?_)
  refine L.op rfl rfl (O.buildSlice (el := 4) (parts := [(0, .tmp 9), (1, .tmp 14), (2, .tmp 19), (3, .tmp 24), (4, .tmp 29), (5, .tmp 34)]) (vs := [(0, _), (1, _), (2, _), (3, _), (4, _), (5, _)]) (cs := ((sameBs u v).map Value.bool)) rfl (fun w => by kernel_rfl) (fun b5 w5 hb5 hz5 he5 hB5 => ?_))
  refine L.op rfl rfl (O.call (xs := [.tmp 35]) Tryd.call32 rfl rfl (every_calls 0 _ (sameBs u v) w5 (bools_of_blk hB5 rfl (by decide) (Nat.zero_le _))) (fun v6 w6 hq => ?_))
  obtain ⟨rfl, rfl⟩ := hq
  refine L.op rfl rfl (O.assign rfl (L.nil (T.ret1 Tryd.results34 rfl ⟨rfl, (he.trans he4).trans he5⟩)))

theorem equalU_calls (lo lo' : Nat) (p q : Value) (us vs : List UnV) (w : World) (hp : Units lo w p us) (hq : Units lo' w q vs) :
    Calls Tryd.prog 33 #[p, q, .func (.func 34) #[] #[]] w (Ret fun v w' => v = .bool (sameUsB us vs) ∧ Ext w w') := by
  have hle := Sl.le hp.sl
  refine T.enter (vs := [p, q, .func (.func 34) #[] #[]]) Tryd.func33 rfl Tryd.ntmps33 rfl ?_
  refine T.seq (T.region (L.op rfl rfl (O.assign rfl (L.nil (T.seq (T.seq (T.region (L.op rfl rfl (O.move rfl (L.op rfl rfl (O.len Tryd.runUnderlying30 rfl (Sl.val hp.sl) (L.op rfl rfl (O.move rfl (L.op rfl rfl (O.len Tryd.runUnderlying30 rfl (Sl.val hq.sl) (L.op rfl rfl (O.neq_s rfl rfl (fun hl => ?_) (fun hl => ?_))))))))))))))))))
  · refine L.nil (T.cond_true rfl (T.seq (T.region (L.op rfl rfl (O.assign rfl (L.nil (T.ret1 Tryd.results33 rfl ⟨by rw [sameUs_no (fun h => hl (by rw [h.1]))], Keep.refl _ _⟩)))))))
  · refine L.nil (?_)
    have hlen : us.length = vs.length := by omega
    refine T.cond_false rfl (T.skip (T.seq (T.seq (T.region (L.op rfl rfl (O.move rfl (L.op rfl rfl (O.len Tryd.runUnderlying30 rfl (Sl.val hp.sl) (L.op rfl rfl (O.move rfl (L.nil (T.block (?_)))))))))))))
    refine T.loop (σ := Nat) (fun i => [(1, q), (2, .func (.func 34) #[] #[]), (15, p), (16, .int .i64 us.length), (17, .int .i64 i)]) (fun i w' => i ≤ us.length ∧ Ext w w' ∧ ∀ j, j < i → sameU (us.getD j u0) (vs.getD j u0) = true) (fun i => us.length - i) (0) ⟨rfl, rfl, rfl, rfl, rfl, trivial⟩ ⟨Nat.zero_le _, Keep.refl _ _, fun j hj => absurd hj (Nat.not_lt_zero _)⟩ ?_
    rintro i w1 ⟨hi, he1, hall⟩
    have hp1 := hp.ext he1
    have hq1 := hq.ext he1
    refine T.seq (T.region (L.op rfl rfl (O.lss_s rfl rfl (fun hlt => ?_) (fun hlt => ?_))))
    · refine L.nil (?_)
      have hlt' : i < us.length := by omega
      have hlt2 : i < vs.length := by omega
      refine T.seq (T.cond_true rfl (T.skip (T.seq (T.block (T.seq (T.region (L.op rfl rfl (O.move rfl (L.op rfl rfl (O.indexAddr Tryd.runUnderlying30 Tryd.sizeOf42 rfl rfl hp1.sl (by omega) (by omega) (L.op rfl rfl (O.loadAgg Tryd.isAgg42 Tryd.sizeOf42 rfl rfl (hp1.row hlt') (L.op rfl rfl (O.alloc Tryd.zeroValue42 (fun b2 w2 hb2 hz2 he2 hB2 => ?_)))))))))))))))
      refine L.op rfl rfl (O.assign rfl (L.op rfl rfl (O.storeAgg Tryd.sizeOf42 rfl rfl rfl hB2 (Nat.le_refl _) (hp1.at hlt').one (fun w3 hu3 hB3 => ?_))))
      have hB3' : Blk w3 b2 (us.getD i u0).cells 42 := hB3
      have he13 : Ext w1 w3 := he2.upd hu3 (.inr (by omega))
      have hq3 := hq1.ext he13
      refine L.nil (T.seq (T.region (L.op rfl rfl (O.move rfl (L.op rfl rfl (O.move rfl (L.op rfl rfl (O.indexAddr Tryd.runUnderlying30 Tryd.sizeOf42 rfl rfl hq3.sl (by omega) (by omega) (L.op rfl rfl (O.loadAgg Tryd.isAgg42 Tryd.sizeOf42 rfl rfl (hq3.row hlt2) (L.op rfl rfl (O.alloc Tryd.zeroValue42 (fun b4 w4 hb4 hz4 he4 hB4 => ?_)))))))))))))
      refine L.op rfl rfl (O.storeAgg Tryd.sizeOf42 rfl rfl rfl hB4 (Nat.le_refl _) (hq3.at hlt2).one (fun w5 hu5 hB5 => ?_))
      have hB5' : Blk w5 b4 (vs.getD i u0).cells 42 := hB5
      have he35 : Ext w3 w5 := he4.upd hu5 (.inr (by omega))
      refine L.nil (T.seq (T.region (L.op rfl rfl (O.move rfl (L.op rfl rfl (O.loadAgg Tryd.isAgg42 Tryd.sizeOf42 rfl rfl ((hB3'.ext he35).row) (L.op rfl rfl (O.loadAgg Tryd.isAgg42 Tryd.sizeOf42 rfl rfl hB5'.row (L.op rfl rfl (O.call (xs := [.tmp 27, .tmp 28]) Tryd.call34 rfl rfl (same1_calls lo lo' (us.getD i u0) (vs.getD i u0) w5 ((hp1.at hlt').ext (he13.trans he35)) ((hq3.at hlt2).ext he35)) (fun v6 w6 hq => ?_)))))))))))
      obtain ⟨rfl, he6⟩ := hq
      cases hs : sameU (us.getD i u0) (vs.getD i u0)
      · refine L.op rfl rfl (O.not rfl (L.nil (T.cond_true rfl (T.seq (T.region (L.op rfl rfl (O.assign rfl (L.nil (T.ret1 Tryd.results33 rfl ⟨by rw [sameUs_no (fun h => by have := h.2 i hlt'; rw [hs] at this; cases this)], he1.trans ((he13.trans he35).trans he6)⟩)))))))))
      · refine L.op rfl rfl (O.not rfl (L.nil (T.cond_false rfl (T.skip (T.blk (T.region (L.op rfl rfl (O.add64 rfl rfl (by omega) (L.op rfl rfl (O.move rfl (L.nil (T.again (i + 1) (by omega) ⟨rfl, rfl, rfl, rfl, rfl, trivial⟩ ⟨hlt', he1.trans ((he13.trans he35).trans he6), fun j hj => ?_⟩))))))))))))
        · by_cases e : j = i
          · subst e; exact hs
          · exact hall j (by omega)
    · refine L.nil (T.seq (T.cond_false rfl (T.exit rfl (T.seq (T.region (L.op rfl rfl (O.assign rfl (L.nil (T.ret1 Tryd.results33 rfl ⟨by rw [sameUs_yes ⟨hlen, fun j hj => hall j (by omega)⟩], he1⟩)))))))))

theorem SameRoll_calls (lo lo' : Nat) (a b : RoV) (w : World) (ha : a.ok lo w) (hb : b.ok lo' w) :
    Calls Tryd.prog 14 #[a.val, b.val] w (Ret fun v w' => v = .bool (sameB a b) ∧ Ext w w') := by
  refine T.enter (vs := [a.val, b.val]) Tryd.func14 rfl Tryd.ntmps14 rfl ?_
  refine T.seq (T.region (L.op rfl rfl (O.box rfl (fun b1 w1 hb1 hz1 he1 hB1 => ?_))))
  refine L.op rfl rfl (O.box rfl (fun b2 w2 hb2 hz2 he2 hB2 => ?_))
  have he := he1.trans he2
  have hC1 : Blk w2 b1 a.cells _ := Blk.ext (cs := a.cells) hB1 he2
  have hC2 : Blk w2 b2 b.cells _ := hB2
  refine L.op rfl rfl (O.assign rfl (L.nil (T.seq (T.region (L.op rfl rfl (O.fieldAddr Tryd.runUnderlying32 rfl Tryd.sizeOf3 rfl (L.op rfl rfl (O.load Tryd.isAgg3 rfl (hC1.cell rfl) (L.op rfl rfl (O.fieldAddr Tryd.runUnderlying32 rfl Tryd.sizeOf3 rfl (L.op rfl rfl (O.load Tryd.isAgg3 rfl (hC2.cell rfl) (L.op rfl rfl (O.eql rfl rfl (L.op rfl rfl (O.fieldAddr Tryd.runUnderlying32 rfl Tryd.sizeOf3 rfl (L.op rfl rfl (O.load Tryd.isAgg3 rfl (hC1.cell rfl) (L.op rfl rfl (O.fieldAddr Tryd.runUnderlying32 rfl Tryd.sizeOf3 rfl (L.op rfl rfl (O.load Tryd.isAgg3 rfl (hC2.cell rfl) (L.op rfl rfl (O.eql rfl rfl (L.op rfl rfl (O.fieldAddr Tryd.runUnderlying32 rfl Tryd.sizeOf3 rfl (L.op rfl rfl (O.load Tryd.isAgg3 rfl (hC1.cell rfl) (L.op rfl rfl (O.fieldAddr Tryd.runUnderlying32 rfl Tryd.sizeOf3 rfl (L.op rfl rfl (O.load Tryd.isAgg3 rfl (hC2.cell rfl) (L.op rfl rfl (O.eql rfl rfl (L.op rfl rfl (O.buildSlice (el := 4) (parts := [(0, .tmp 9), (1, .tmp 14), (2, .tmp 19)]) (vs := [(0, _), (1, _), (2, _)]) (cs := ([decide (a.G = b.G), decide (a.P = b.P), decide (a.L = b.L)].map Value.bool)) rfl (fun w => by kernel_rfl) (fun b3 w3 hb3 hz3 he3 hB3 => ?_)))))))))))))))))))))))))))))))))))))
  refine L.op rfl rfl (O.call (xs := [.tmp 20]) Tryd.call32 rfl rfl (every_calls 0 _ [decide (a.G = b.G), decide (a.P = b.P), decide (a.L = b.L)] w3 (bools_of_blk hB3 rfl (by decide) (Nat.zero_le _))) (fun v4 w4 hq => ?_))
  obtain ⟨rfl, rfl⟩ := hq
  have hhd : [decide (a.G = b.G), decide (a.P = b.P), decide (a.L = b.L)].all id = (decide (a.G = b.G) && (decide (a.P = b.P) && decide (a.L = b.L))) := by simp
  cases hs : [decide (a.G = b.G), decide (a.P = b.P), decide (a.L = b.L)].all id
  · refine L.op rfl rfl (O.move rfl (L.pass rfl rfl (L.pass rfl rfl (L.pass rfl rfl (L.pass rfl rfl (L.pass rfl rfl (L.op rfl rfl (O.pick_false rfl rfl (L.op rfl rfl (O.assign rfl (L.nil (T.ret1 Tryd.results14 rfl ⟨by rw [sameB, ← hhd, hs]; rfl, he.trans he3⟩))))))))))))
  · refine L.op rfl rfl (O.move rfl (L.op rfl rfl (O.fieldAddr Tryd.runUnderlying32 rfl Tryd.sizeOf30 rfl (L.op rfl rfl (O.load Tryd.isAgg30 rfl ((hC1.ext he3).cell rfl) (L.op rfl rfl (O.fieldAddr Tryd.runUnderlying32 rfl Tryd.sizeOf30 rfl (L.op rfl rfl (O.load Tryd.isAgg30 rfl ((hC2.ext he3).cell rfl) (L.op rfl rfl (O.call (xs := [.tmp 24, .tmp 26, .func 34]) Tryd.call33 rfl rfl (equalU_calls lo lo' a.uv b.uv a.us b.us w4 (ha.ext (he.trans he3)) (hb.ext (he.trans he3))) (fun v5 w5 hq => ?_))))))))))))
    obtain ⟨rfl, he5⟩ := hq
    refine L.op rfl rfl (O.pick_true rfl rfl (L.op rfl rfl (O.assign rfl (L.nil (T.ret1 Tryd.results14 rfl ⟨by rw [sameB, ← hhd, hs]; rfl, (he.trans he3).trans he5⟩)))))

end Go.Proofs.YtpgnaffcbbghgaaDoor
set_option linter.unusedVariables false
set_option linter.unusedSimpArgs false
set_option maxRecDepth 20000
namespace Go.Proofs.YtpgnaffcbbghgaaDoor
open Go Go.E
attribute [local irreducible] Go.E.T Go.E.L Go.E.O Go.E.Ob

/-- A draft of a land: what it holds, with the slices that hold it. -/
structure Dr where
  wd : Int
  hi : Int
  cv : Value
  cs : List Int
  sv : Value
  ss : List Int
  ho : Bool
  g : Int
  p : Int
  l : Int
  nv : Value
  ns : List Int
  wa : Int
def Dr.cells (d : Dr) : List Value := [.int .u8 d.wd, .int .u8 d.hi, d.cv, d.sv, .bool d.ho, .int .u8 d.g, .int .u8 d.p, .int .u8 d.l, d.nv, .int .u8 d.wa]
def Dr.val (d : Dr) : Value := .agg d.cells.toArray
def Low8 (x : Int) : Prop := 0 ≤ x ∧ x ≤ 255
structure Dr.ok (lo : Nat) (w : World) (d : Dr) : Prop where
  c : Ints .u8 lo w d.cv d.cs
  s : Ints .u8 lo w d.sv d.ss
  n : Ints .u16 lo w d.nv d.ns
  cl : ∀ j, j < d.cs.length → Low8 (d.cs.getD j 0)
  sl : ∀ j, j < d.ss.length → Low8 (d.ss.getD j 0)
  nl : ∀ j, j < d.ns.length → 0 ≤ d.ns.getD j 0 ∧ d.ns.getD j 0 ≤ 65535
  w0 : Low8 d.wd
  h0 : Low8 d.hi
  g0 : Low8 d.g
  p0 : Low8 d.p
  l0 : Low8 d.l
  a0 : Low8 d.wa
theorem Dr.ok.ext {lo : Nat} {w w' : World} {d : Dr} (h : d.ok lo w) (k : Ext w w') : d.ok lo w' := ⟨h.c.ext k, h.s.ext k, h.n.ext k, h.cl, h.sl, h.nl, h.w0, h.h0, h.g0, h.p0, h.l0, h.a0⟩
/-- A draft's small number. -/
def numD (ns : List Int) (i : Nat) : Int := if ns = [] then 100 + (7 * i : Nat) % 31 else ns.getD (i % ns.length) 0
theorem numD_le {ns : List Int} (h : ∀ j, j < ns.length → 0 ≤ ns.getD j 0 ∧ ns.getD j 0 ≤ 65535) (i : Nat) : 0 ≤ numD ns i ∧ numD ns i ≤ 65535 := by
  unfold numD
  split
  · omega
  · rename_i hn
    have : 0 < ns.length := List.length_pos_iff.2 hn
    exact h _ (Nat.mod_lt _ this)
def num8 (ns : List Int) (i : Nat) : Int := if ns = [] then 0 else ns.getD (i % ns.length) 0
theorem num8_le {ns : List Int} (h : ∀ j, j < ns.length → Low8 (ns.getD j 0)) (i : Nat) : 0 ≤ num8 ns i ∧ num8 ns i ≤ 255 := by
  unfold num8
  split
  · omega
  · rename_i hn
    have : 0 < ns.length := List.length_pos_iff.2 hn
    exact h _ (Nat.mod_lt _ this)
theorem num8_calls (lo : Nat) (p : Value) (xs : List Int) (i : Nat) (w : World) (hp : Ints .u8 lo w p xs) (hl : ∀ j, j < xs.length → Low8 (xs.getD j 0)) (hi : i ≤ 1000) :
    Calls Tryd.prog 53 #[p, .int .i64 i] w (Ret fun v w' => v = .int .i64 (num8 xs i) ∧ w' = w) := by
  have hle := Sl.le hp
  refine T.enter (vs := [p, .int .i64 i]) Tryd.func53 rfl Tryd.ntmps53 rfl ?_
  refine T.seq (T.region (L.op rfl rfl (O.assign rfl (L.nil (T.seq (T.seq (T.region (L.op rfl rfl (O.move rfl (L.op rfl rfl (O.len Tryd.runUnderlying22 rfl (Sl.val hp) (L.op rfl rfl (O.eql_s rfl rfl (fun h0 => ?_) (fun h0 => ?_))))))))))))))
  · refine L.nil (T.cond_true rfl (T.seq (T.region (L.op rfl rfl (O.assign rfl (L.nil (T.ret1 Tryd.results53 rfl ⟨by rw [num8, if_pos (List.length_eq_zero_iff.1 (by omega))], rfl⟩)))))))
  · refine L.nil (?_)
    have hpos : 0 < xs.length := by omega
    have hm : (i : Int) % (xs.length : Int) = ((i % xs.length : Nat) : Int) := by simp
    have hlt : i % xs.length < xs.length := Nat.mod_lt _ hpos
    have hv := hl _ hlt
    refine T.cond_false rfl (T.skip (T.seq (T.region (L.op rfl rfl (O.move rfl (L.op rfl rfl (O.move rfl (L.op rfl rfl (O.move rfl (L.op rfl rfl (O.len Tryd.runUnderlying22 rfl (Sl.val hp) (L.op rfl rfl (O.rem rfl rfl (by omega) (by omega) (?_))))))))))))))
    rw [hm]
    refine L.op rfl rfl (O.indexAddr Tryd.runUnderlying22 Tryd.sizeOf5 rfl rfl hp (by omega) (by omega) (L.op rfl rfl (O.load Tryd.isAgg5 rfl (Ints.at hp hlt) (?_))))
    unfold Low8 at hv
    refine L.op rfl rfl (O.conv_to rfl (fun w => ⟨_, Tryd.runUnderlying5 w⟩) Tryd.runUnderlying3 (IntWalk.i64_in _ ⟨by omega, by omega⟩) (L.op rfl rfl (O.assign rfl (L.nil (T.ret1 Tryd.results53 rfl ⟨by rw [num8, if_neg (fun h => by rw [h] at hpos; simp at hpos)], rfl⟩)))))

theorem numD_calls (lo : Nat) (d : Dr) (i : Nat) (w : World) (hd : d.ok lo w) (hi : i ≤ 1000) :
    Calls Tryd.prog 54 #[d.val, .int .i64 i] w (Ret fun v w' => v = .int .i64 (numD d.ns i) ∧ Ext w w') := by
  refine T.enter (vs := [d.val, .int .i64 i]) Tryd.func54 rfl Tryd.ntmps54 rfl ?_
  refine T.seq (T.region (L.op rfl rfl (O.box rfl (fun b1 w1 hb1 hz1 he1 hB1 => ?_))))
  have hC1 : Blk w1 b1 d.cells _ := hB1
  have hd1 := hd.ext he1
  have hle := Sl.le hd1.n
  refine L.op rfl rfl (O.assign rfl (L.nil (T.seq (T.seq (T.region (L.op rfl rfl (O.fieldAddr Tryd.runUnderlying27 rfl Tryd.sizeOf25 rfl (L.op rfl rfl (O.load Tryd.isAgg25 rfl (hC1.cell rfl) (L.op rfl rfl (O.len Tryd.runUnderlying25 rfl (Sl.val hd1.n) (L.op rfl rfl (O.eql_s rfl rfl (fun h0 => ?_) (fun h0 => ?_))))))))))))))
  · refine L.nil (T.cond_true rfl (T.seq (T.region (L.op rfl rfl (O.move rfl (L.op rfl rfl (O.mul64 rfl rfl (by omega) (L.op rfl rfl (O.rem rfl rfl (by omega) (by omega) (L.op rfl rfl (O.add64 rfl rfl (by omega) (L.op rfl rfl (O.assign rfl (L.nil (T.ret1 Tryd.results54 rfl ⟨by rw [numD, if_pos (List.length_eq_zero_iff.1 (by omega))]; simp, he1⟩)))))))))))))))
  · refine L.nil (?_)
    have hpos : 0 < d.ns.length := by omega
    have hm : (i : Int) % (d.ns.length : Int) = ((i % d.ns.length : Nat) : Int) := by simp
    have hlt : i % d.ns.length < d.ns.length := Nat.mod_lt _ hpos
    have hv := hd.nl _ hlt
    refine T.cond_false rfl (T.skip (T.seq (?_)))
    refine T.anyE mixed 7 [2, 1] rfl [.is _, .is _, .is _, .is _, .is _, .is _, .is (.int .i64 ((i % d.ns.length : Nat) : Int))] [[], [0], [], [], [3], [4], [2, 5]] [[], [0], [], [], [3], [3, 4], [2, 3, 4, 5], [0, 1, 2, 3, 4, 5, 6], [0, 1, 2, 3, 4, 5, 6, 7], [0, 1, 2, 3, 4, 5, 6, 7, 8], [0, 1, 2, 3, 4, 5, 6, 7, 8, 9]] (by kernel_rfl) (by kernel_rfl) rfl (by kernel_rfl) trivial ⟨fun wx hx => Ob.op rfl (O.fieldAddr Tryd.runUnderlying27 rfl Tryd.sizeOf25 rfl ⟨Keep.refl _ _, rfl⟩),
        fun wx hx => Ob.op rfl (O.load Tryd.isAgg25 rfl ((hC1.ext hx).cell rfl) ⟨Keep.refl _ _, rfl⟩),
        fun wx hx => Ob.op rfl (O.move rfl ⟨Keep.refl _ _, rfl⟩),
        fun wx hx => Ob.op rfl (O.fieldAddr Tryd.runUnderlying27 rfl Tryd.sizeOf25 rfl ⟨Keep.refl _ _, rfl⟩),
        fun wx hx => Ob.op rfl (O.load Tryd.isAgg25 rfl ((hC1.ext hx).cell rfl) ⟨Keep.refl _ _, rfl⟩),
        fun wx hx => Ob.op rfl (O.len Tryd.runUnderlying25 rfl (Sl.val (hd1.n.ext hx)) ⟨Keep.refl _ _, rfl⟩),
        fun wx hx => Ob.op rfl (O.rem rfl rfl (by omega) (by omega) ⟨Keep.refl _ _, by rw [hm]; rfl⟩),
        trivial⟩ (fun w3 he3 => ?_)
    refine L.op rfl rfl (O.indexAddr Tryd.runUnderlying25 Tryd.sizeOf125 rfl rfl (hd1.n.ext he3) (by omega) (by omega) (L.op rfl rfl (O.load Tryd.isAgg125 rfl (Ints.at (hd1.n.ext he3) hlt) (L.op rfl rfl (O.conv_to rfl (fun w => ⟨_, Tryd.runUnderlying125 w⟩) Tryd.runUnderlying3 (IntWalk.i64_in _ ⟨by omega, by omega⟩) (L.op rfl rfl (O.assign rfl (L.nil (T.ret1 Tryd.results54 rfl ⟨by rw [numD, if_neg (fun h => by rw [h] at hpos; simp at hpos)], he1.trans he3⟩)))))))))

end Go.Proofs.YtpgnaffcbbghgaaDoor
