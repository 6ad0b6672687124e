/-
  Walks of the units' functions (3). Conditions: those of each statement.
-/
import Derived.Test.YtpgnaffcbbghgaaDoorMe
set_option linter.unusedVariables false
set_option linter.unusedSimpArgs false
set_option maxRecDepth 20000
namespace Go.Proofs.YtpgnaffcbbghgaaDoor
open Go Go.E
attribute [local irreducible] Go.E.T Go.E.L Go.E.O Go.E.Ob

attribute [local irreducible] Go.E.ObX
/-- A list of numbers in a block of its own. -/
def OwnL (base : Nat) (w : World) (v : Value) (xs : List Int) : Prop := w.ownsRow base 3 1 v xs.length (xs.map (Value.int .i64))
theorem OwnL.ints {base : Nat} {w : World} {v : Value} {xs : List Int} (h : OwnL base w v xs) : Ints .i64 base w v xs := Sl.of_owns h
theorem OwnL.ext {base : Nat} {w w' : World} {v : Value} {xs : List Int} (h : OwnL base w v xs) (k : Ext w w') : OwnL base w' v xs := owns_keep h k (Nat.zero_le _)
def OwnX (base n : Nat) (v : Value) (w : World) : Prop := ∃ xs : List Int, xs.length ≤ n ∧ OwnL base w v xs
theorem OwnX.st {base n : Nat} : ∀ v w w', Ext w w' → OwnX base n v w → OwnX base n v w' := fun _ _ _ he ⟨xs, h1, h2⟩ => ⟨xs, h1, h2.ext he⟩
theorem OwnX.ints {base n : Nat} {v : Value} {w : World} (h : OwnX base n v w) : ∃ xs, Ints .i64 base w v xs := by
  obtain ⟨xs, _, h⟩ := h; exact ⟨xs, h.ints⟩
theorem OwnX.mono {base base' n n' : Nat} {v : Value} {w : World} (h : OwnX base n v w) (hb : base' ≤ base) (hn : n ≤ n') : OwnX base' n' v w := by
  obtain ⟨xs, h1, h2, h3⟩ := h
  refine ⟨xs, by omega, h2, h3.imp id ?_⟩
  rintro ⟨g, cap, cur, rfl, h4, rest⟩
  exact ⟨g, cap, cur, rfl, by omega, rest⟩
theorem OwnX.lt {base n b : Nat} {v : Value} {w : World} (h : OwnX base n v w) (hb : v.ownBlock = some b) : base ≤ b ∧ b < w.heap.size := by
  obtain ⟨xs, _, h⟩ := h; exact own_at h hb
theorem OwnX.one {base n : Nat} {v : Value} {w : World} (h : OwnX base n v w) : v.oneCell' = true := by
  obtain ⟨xs, h⟩ := h.ints; exact Sl.one h
/-- What turns here lies in the block of 'q' or is new. -/
structure Loc (q : Value) (w w' : World) : Prop where
  os : w'.os = w.os
  tape : w'.tape = w.tape
  output : w'.output = w.output
  size : w.heap.size ≤ w'.heap.size
  block : ∀ k, k < w.heap.size → q.ownBlock ≠ some k → w'.heap[k]? = w.heap[k]?
theorem Loc.of_ext {q : Value} {w w' : World} (h : Ext w w') : Loc q w w' := ⟨h.os, h.tape, h.output, h.size, fun k hk _ => h.block k (Nat.zero_le _) hk⟩
theorem Loc.of_upd {q : Value} {b : Nat} {w w' : World} (h : Upd b w w') (hb : q.ownBlock = some b) : Loc q w w' := ⟨h.os, h.tape, h.output, Nat.le_of_eq h.size.symm, fun k _ hk => h.block k (fun e => hk (by rw [hb, e]))⟩
theorem Loc.of_grown {q : Value} {w w' : World} (h : w.grownBy w' q.ownBlock) : Loc q w w' := ⟨h.os, h.tape, h.output, h.size, fun k hk hn => h.block k hk (fun e => hn e.symm)⟩
theorem Loc.trans {q : Value} {a b c : World} (h : Loc q a b) (k : Loc q b c) : Loc q a c := ⟨k.os.trans h.os, k.tape.trans h.tape, k.output.trans h.output, Nat.le_trans h.size k.size, fun i hi hq => (k.block i (Nat.lt_of_lt_of_le hi h.size) hq).trans (h.block i hi hq)⟩
theorem Loc.blk {q : Value} {w w' : World} {b : Nat} {cs : List Value} {t : TypeId} (h : Loc q w w') (hB : Blk w b cs t) (hn : q.ownBlock ≠ some b) : Blk w' b cs t := (h.block b hB.lt hn).trans hB
theorem Loc.keep {q : Value} {lo : Nat} {w0 w w' : World} (h : Loc q w w') (k : Keep lo w0 w) (hq : ∀ b, q.ownBlock = some b → w0.heap.size ≤ b) : Keep lo w0 w' :=
  ⟨h.os.trans k.os, h.tape.trans k.tape, h.output.trans k.output, Nat.le_trans k.size h.size, fun i hl hi => (h.block i (Nat.lt_of_lt_of_le hi k.size) (fun e => by have := hq i e; omega)).trans (k.block i hl hi)⟩
theorem owns_loc {q : Value} {w w' : World} {base sz n : Nat} {el : TypeId} {v : Value} {xs : List Value} (h : w.ownsRow base el sz v n xs) (k : Loc q w w') (hn : ∀ b, v.ownBlock = some b → q.ownBlock ≠ some b) : w'.ownsRow base el sz v n xs := by
  refine ⟨h.1, h.2.imp id ?_⟩
  rintro ⟨g, cap, cur, rfl, hb, hg, rest⟩
  exact ⟨g, cap, cur, rfl, hb, (k.block g (Array.getElem?_eq_some_iff.1 hg).1 (hn g rfl)).trans hg, rest⟩
theorem OwnX.loc {base n : Nat} {q v : Value} {w w' : World} (h : OwnX base n v w) (k : Loc q w w') (hn : ∀ b, v.ownBlock = some b → q.ownBlock ≠ some b) : OwnX base n v w' := by
  obtain ⟨xs, h1, h2⟩ := h; exact ⟨xs, h1, owns_loc h2 k hn⟩
/-- A number set in a list of one's own. -/
theorem OwnX.set {base n b i : Nat} {x : Int} {v : Value} {w w' : World} {cs : List Value} (h : OwnX base n v w) (hb : v.ownBlock = some b) (hB : Blk w b cs 3) (hB' : Blk w' b (cs.set i (.int .i64 x)) 3) : OwnX base n v w' := by
  obtain ⟨xs, h1, h2, h3⟩ := h
  rcases h3 with ⟨rfl, _⟩ | ⟨g, cap, cur, rfl, hbase, hg, hn, hm, hsz, htk⟩
  · cases hb
  · cases hb
    have e := hB.symm.trans hg
    simp only [Option.some.injEq, Obj.cells.injEq] at e
    have ecs : cs = cur.toList := by rw [← e.1]
    refine ⟨xs.set i x, by simpa using h1, by simp, .inr ⟨g, cap, (cs.set i (.int .i64 x)).toArray, by simp, hbase, hB', by simpa using hn, hm, ?_, ?_⟩⟩
    · simp [ecs, hsz]
    · simp only [ecs, List.length_set, List.map_set]
      rw [← htk, List.take_set]
theorem OwnX.blk {base n b : Nat} {v : Value} {w : World} (h : OwnX base n v w) (hb : v.ownBlock = some b) : ∃ xs cs cap, xs.length ≤ n ∧ Blk w b cs 3 ∧ v = .slice (some ⟨b, 0, none⟩) xs.length cap ∧ xs.length ≤ cs.length ∧ Ints .i64 base w v xs := by
  obtain ⟨xs, h1, h2⟩ := h
  have hI := h2.ints
  obtain ⟨_, h3⟩ := h2
  rcases h3 with ⟨rfl, _⟩ | ⟨g, cap, cur, rfl, hbase, hg, hn, hm, hsz, htk⟩
  · cases hb
  · cases hb
    exact ⟨xs, cur.toList, cap, h1, by unfold Blk; simpa using hg, rfl, by simp [hsz]; omega, hI⟩
theorem OwnX.cut {base n m : Nat} {v : Value} {w : World} (h : OwnX base n v w) (hm : ∀ xs, Ints .i64 base w v xs → m ≤ xs.length) (hv : m = 0 ∨ v ≠ .slice none 0 0) : OwnX base n (cutH v m) w := by
  obtain ⟨xs, h1, h2⟩ := h
  have hI := hm xs h2.ints
  obtain ⟨h2, h3⟩ := h2
  rcases h3 with ⟨rfl, h0⟩ | ⟨g, cap, cur, rfl, hbase, hg, hn, hmx, hsz, htk⟩
  · obtain rfl : m = 0 := by omega
    exact ⟨[], Nat.zero_le _, by simp, .inl ⟨rfl, rfl⟩⟩
  · refine ⟨xs.take m, by simp; omega, by simp, .inr ⟨g, cap, cur, ?_, hbase, hg, by simp; omega, hmx, hsz, ?_⟩⟩
    · simp [cutH, Nat.min_eq_left hI]
    · rw [List.length_take, Nat.min_eq_left hI, List.map_take, ← htk, List.take_take]
      simp [Nat.min_eq_left hI]
theorem own_cutH (v : Value) (m : Nat) : (cutH v m).ownBlock = v.ownBlock := by
  cases v <;> try rfl
  rename_i oa _ _
  cases oa <;> rfl
/-- Lists in blocks of their own, none shared. -/
structure LS (base n : Nat) (w : World) (qs : List Value) : Prop where
  all : ∀ q ∈ qs, OwnX base n q w
  nd : (qs.filterMap Value.ownBlock).Nodup
theorem LS.nil (base n : Nat) (w : World) : LS base n w [] := ⟨fun _ h => (by cases h), List.nodup_nil⟩
theorem LS.ext {base n : Nat} {w w' : World} {qs : List Value} (h : LS base n w qs) (k : Ext w w') : LS base n w' qs := ⟨fun q hq => OwnX.st _ _ _ k (h.all q hq), h.nd⟩
theorem LS.mono {base base' n n' : Nat} {w : World} {qs : List Value} (h : LS base n w qs) (hb : base' ≤ base) (hn : n ≤ n') : LS base' n' w qs := ⟨fun q hq => (h.all q hq).mono hb hn, h.nd⟩
theorem LS.loc {base n : Nat} {w w' : World} {qs : List Value} {r : Value} (h : LS base n w qs) (k : Loc r w w') (hr : ∀ q ∈ qs, ∀ b, q.ownBlock = some b → r.ownBlock ≠ some b) : LS base n w' qs := ⟨fun q hq => (h.all q hq).loc k (hr q hq), h.nd⟩
theorem LS.sub {base n : Nat} {w : World} {qs qs' : List Value} (h : LS base n w qs) (hs : qs'.Sublist qs) : LS base n w qs' := ⟨fun q hq => h.all q (hs.subset hq), h.nd.sublist (hs.filterMap _)⟩
theorem LS.perm {base n : Nat} {w : World} {qs qs' : List Value} (h : LS base n w qs) (hs : qs.Perm qs') : LS base n w qs' := ⟨fun q hq => h.all q (hs.mem_iff.2 hq), (hs.filterMap _).nodup_iff.1 h.nd⟩
theorem mem_fm {qs : List Value} {b : Nat} : b ∈ qs.filterMap Value.ownBlock ↔ ∃ q ∈ qs, q.ownBlock = some b := by simp
/-- Lists of which one half is new. -/
theorem LS.append {base n m : Nat} {w : World} {qs rs : List Value} (h : LS base n w qs) (k : LS base n w rs) (hq : ∀ q ∈ qs, ∀ b, q.ownBlock = some b → b < m) (hr : ∀ q ∈ rs, ∀ b, q.ownBlock = some b → m ≤ b) : LS base n w (qs ++ rs) := by
  refine ⟨fun q hq' => (List.mem_append.1 hq').elim (h.all q) (k.all q), ?_⟩
  rw [List.filterMap_append, List.nodup_append]
  refine ⟨h.nd, k.nd, fun a ha b hb e => ?_⟩
  obtain ⟨q, h1, h2⟩ := mem_fm.1 ha
  obtain ⟨q', h3, h4⟩ := mem_fm.1 hb
  have := hq q h1 a h2
  have := hr q' h3 b h4
  omega
theorem LS.lt {base n : Nat} {w : World} {qs : List Value} (h : LS base n w qs) : ∀ q ∈ qs, ∀ b, q.ownBlock = some b → b < w.heap.size := fun q hq b hb => ((h.all q hq).lt hb).2
theorem LS.replace {base n n' : Nat} {w w' : World} {A B : List Value} {q q' : Value} (h : LS base n w (A ++ q :: B)) (k : Loc q w w') (hn : n ≤ n') (hq : OwnX base n' q' w') (hf : ∀ b, q'.ownBlock = some b → q.ownBlock = some b ∨ w.heap.size ≤ b) : LS base n' w' (A ++ q' :: B) := by
  have hnd := h.nd
  have hne : ∀ x, x ∈ A ∨ x ∈ B → ∀ b, x.ownBlock = some b → q.ownBlock ≠ some b := fun x hx b hb hqb => by
    rw [List.filterMap_append, List.filterMap_cons, hqb] at hnd
    simp only [List.nodup_append, List.nodup_cons] at hnd
    rcases hx with hx | hx
    · exact hnd.2.2 b (mem_fm.2 ⟨x, hx, hb⟩) b (List.mem_cons_self ..) rfl
    · exact hnd.2.1.1 (mem_fm.2 ⟨x, hx, hb⟩)
  refine ⟨fun x hx => ?_, ?_⟩
  · rcases List.mem_append.1 hx with hx | hx
    · exact ((h.all x (List.mem_append_left _ hx)).loc k (hne x (.inl hx))).mono (Nat.le_refl _) hn
    · rcases List.mem_cons.1 hx with rfl | hx
      · exact hq
      · exact ((h.all x (List.mem_append_right _ (List.mem_cons_of_mem _ hx))).loc k (hne x (.inr hx))).mono (Nat.le_refl _) hn
  · cases hb : q'.ownBlock with
    | none =>
      have hs : (A.filterMap Value.ownBlock ++ B.filterMap Value.ownBlock).Sublist ((A ++ q :: B).filterMap Value.ownBlock) := by
        rw [List.filterMap_append]
        exact (List.Sublist.refl _).append ((List.sublist_cons_self q B).filterMap _)
      rw [List.filterMap_append, List.filterMap_cons, hb]
      exact hnd.sublist hs
    | some b =>
      rw [List.filterMap_append, List.filterMap_cons, hb]
      have hs : (A.filterMap Value.ownBlock ++ B.filterMap Value.ownBlock).Nodup := by
        refine hnd.sublist ?_
        rw [List.filterMap_append]
        exact (List.Sublist.refl _).append ((List.sublist_cons_self q B).filterMap _)
      have hout : ∀ x, x ∈ A ∨ x ∈ B → x.ownBlock ≠ some b := fun x hx hxb => by
        rcases hf b hb with h1 | h1
        · exact hne x hx b hxb h1
        · have := ((h.all x (by rcases hx with hx | hx; exact List.mem_append_left _ hx; exact List.mem_append_right _ (List.mem_cons_of_mem _ hx))).lt hxb).2
          omega
      rw [List.nodup_append] at hs
      rw [List.nodup_append, List.nodup_cons]
      refine ⟨hs.1, ⟨fun hm => ?_, hs.2.1⟩, fun a ha c hc e => ?_⟩
      · obtain ⟨x, h1, h2⟩ := mem_fm.1 hm; exact hout x (.inr h1) h2
      · rcases List.mem_cons.1 hc with rfl | hc
        · obtain ⟨x, h1, h2⟩ := mem_fm.1 ha; exact hout x (.inl h1) (by rw [h2, e])
        · exact hs.2.2 a ha c hc e
def UnV.ls (u : UnV) : List Value := [u.gv, u.vv, u.pv]
def lsOf (us : List UnV) : List Value := us.flatMap UnV.ls
theorem lsOf_append (a b : List UnV) : lsOf (a ++ b) = lsOf a ++ lsOf b := by simp [lsOf]
theorem lsOf_one (u : UnV) : lsOf [u] = u.ls := by simp [lsOf]
/-- Units whose lists lie in blocks of their own, in a block of their own; of the units only the cells count. -/
structure Sk (base n : Nat) (w : World) (v : Value) (us : List UnV) : Prop where
  row : w.ownsRow base 42 6 v us.length (ucells us)
  ls : LS base n w (lsOf us)
  nm : ∀ u ∈ us, u.nm.length ≤ 9223372036854775807
theorem Sk.ext {base n : Nat} {w w' : World} {v : Value} {us : List UnV} (h : Sk base n w v us) (k : Ext w w') : Sk base n w' v us := ⟨owns_keep h.row k (Nat.zero_le _), h.ls.ext k, h.nm⟩
theorem Sk.mono {base base' n n' : Nat} {w : World} {v : Value} {us : List UnV} (h : Sk base n w v us) (hb : base' ≤ base) (hn : n ≤ n') : Sk base' n' w v us := by
  refine ⟨⟨h.row.1, h.row.2.imp id ?_⟩, h.ls.mono hb hn, h.nm⟩
  rintro ⟨g, cap, cur, rfl, h4, rest⟩
  exact ⟨g, cap, cur, rfl, by omega, rest⟩
theorem Sk.nil (base n : Nat) (w : World) : Sk base n w (.slice none 0 0) [] := ⟨owns_nil _ _ _ _, LS.nil _ _ _, fun _ h => by cases h⟩
theorem unit_fill {base n : Nat} {w : World} {u : UnV} (h : ∀ q ∈ u.ls, OwnX base n q w) (hn : u.nm.length ≤ 9223372036854775807) : ∃ u' : UnV, u'.cells = u.cells ∧ u'.ok base w := by
  obtain ⟨gs, hg⟩ := (h u.gv (by simp [UnV.ls])).ints
  obtain ⟨vs, hv⟩ := (h u.vv (by simp [UnV.ls])).ints
  obtain ⟨ps, hp⟩ := (h u.pv (by simp [UnV.ls])).ints
  exact ⟨⟨u.nm, u.pp, u.gv, gs, u.vv, vs, u.pv, ps, u.wt⟩, rfl, ⟨hg, hv, hp, hn⟩⟩
theorem units_fill {base n : Nat} {w : World} : ∀ {us : List UnV}, (∀ q ∈ lsOf us, OwnX base n q w) → (∀ u ∈ us, u.nm.length ≤ 9223372036854775807) → ∃ us' : List UnV, us'.length = us.length ∧ us'.map UnV.cells = us.map UnV.cells ∧ ∀ u ∈ us', u.ok base w
  | [], _, _ => ⟨[], rfl, rfl, fun _ h => by cases h⟩
  | u :: r, h, hn => by
    obtain ⟨us', h1, h2, h3⟩ := units_fill (us := r) (fun q hq => h q (by rw [show u :: r = [u] ++ r from rfl, lsOf_append]; exact List.mem_append_right _ hq)) (fun u hu => hn u (List.mem_cons_of_mem _ hu))
    obtain ⟨u', k1, k2⟩ := unit_fill (u := u) (fun q hq => h q (by rw [show u :: r = [u] ++ r from rfl, lsOf_append, lsOf_one]; exact List.mem_append_left _ hq)) (hn u (List.mem_cons_self ..))
    exact ⟨u' :: us', by simp [h1], by simp [h2, k1], fun x hx => by rcases List.mem_cons.1 hx with rfl | hx; exact k2; exact h3 x hx⟩
/-- What units so laid are. -/
theorem Sk.units {base n : Nat} {w : World} {v : Value} {us : List UnV} (h : Sk base n w v us) : ∃ us', us'.length = us.length ∧ us'.map UnV.cells = us.map UnV.cells ∧ Units base w v us' := by
  obtain ⟨us', h1, h2, h3⟩ := units_fill h.ls.all h.nm
  refine ⟨us', h1, h2, ⟨?_, h3⟩⟩
  have := Sl.of_owns h.row
  rw [h1, ucells, h2]; exact this
theorem Sk.one {base n : Nat} {w : World} {v : Value} {us : List UnV} (h : Sk base n w v us) : ∀ u ∈ us, ∀ c ∈ u.cells, c.oneCell' = true := fun u hu => by
  obtain ⟨u', k1, k2⟩ := unit_fill (u := u) (fun q hq => h.ls.all q (List.mem_flatMap.2 ⟨u, hu, hq⟩)) (h.nm u hu)
  rw [← k1]; exact k2.one
/-- A block of units is none of numbers. -/
theorem row_ne {base n b j : Nat} {w : World} {v : Value} {xs cs : List Value} (h : w.ownsRow base 42 6 v n xs) (hv : v.ownBlock = some j) (hB : Blk w b cs 3) : j ≠ b := fun e => by
  subst e
  rcases h.2 with ⟨rfl, _⟩ | ⟨g, cap, cur, rfl, _, hg, _⟩
  · cases hv
  · cases hv
    have := hB.symm.trans hg
    simp at this
theorem Sk.out {base n : Nat} {w : World} {v : Value} {us : List UnV} (h : Sk base n w v us) : ∀ q ∈ lsOf us, ∀ b, q.ownBlock = some b → v.ownBlock ≠ some b := fun q hq b hb hv => by
  obtain ⟨_, cs, _, _, hB, _⟩ := (h.ls.all q hq).blk hb
  exact row_ne h.row hv hB rfl
theorem take_ints {kd : IntKind} {lo : Nat} {w : World} {v : Value} {xs : List Int} (h : Ints kd lo w v xs) {m : Nat} (hm : m ≤ xs.length) : Ints kd lo w (cutH v m) (xs.take m) := by
  have := Sl_cutH h hm
  unfold Ints
  rw [List.length_take, Nat.min_eq_left hm, List.map_take]
  rwa [Nat.mul_one] at this
theorem min_ite (n : Nat) (m : Int) (k : Nat) (hm : m = k) : (if m < (n : Int) then m else (n : Int)) = ((min n k : Nat) : Int) := by
  subst hm; split <;> omega
theorem O.minN {C : Cx} {e : Env} {w : World} {K : Value → World → Prop} {d : Option Tmp} {ty : TypeId} {pos : String} {aft : Array Edge} {g : Option (Nat × Bool)} {x y : Operand} {tys : Array TypeId} {n k : Nat} (hx : ev e x = some (.int .i64 n)) (hy : ev e y = some (.int .i64 k)) (h : K (.int .i64 ((min n k : Nat) : Int)) w) :
    O C e ⟨d, .call { callee := .builtin .min, args := #[x, y], argTypes := tys }, ty, pos, aft, g⟩ w K := O.min hx hy (by rw [min_ite _ _ k rfl]; exact h)
theorem OwnX.of_own {base base' n : Nat} {w : World} {v : Value} {xs : List Int} (h : w.ownsRow base 3 1 v xs.length (xs.map (Value.int .i64))) (hb : base' ≤ base) (hn : xs.length ≤ n) : OwnX base' n v w := (show OwnX base xs.length v w from ⟨xs, Nat.le_refl _, h⟩).mono hb hn
theorem three_nd {a b c : Value} (h1 : ∀ x, a.ownBlock = some x → b.ownBlock = some x → False) (h2 : ∀ x, a.ownBlock = some x → c.ownBlock = some x → False) (h3 : ∀ x, b.ownBlock = some x → c.ownBlock = some x → False) : ([a, b, c].filterMap Value.ownBlock).Nodup := by
  cases ha : a.ownBlock <;> cases hb : b.ownBlock <;> cases hc : c.ownBlock <;> simp [List.filterMap_cons, ha, hb, hc]
  · rintro rfl; exact h3 _ hb hc
  · rintro rfl; exact h2 _ ha hc
  · rintro rfl; exact h1 _ ha hb
  · refine ⟨⟨?_, ?_⟩, ?_⟩
    · rintro rfl; exact h1 _ ha hb
    · rintro rfl; exact h2 _ ha hc
    · rintro rfl; exact h3 _ hb hc
theorem OwnX.ltb {base n : Nat} {v : Value} {w : World} (h : OwnX base n v w) : ∀ b, v.ownBlock = some b → b < w.heap.size := fun _ hb => (h.lt hb).2
theorem copied_calls (lo : Nat) (r : RoV) (w : World) (hr : r.ok lo w) :
    Calls Tryd.prog 47 #[r.val] w (Ret fun v w' => Ext w w' ∧ ∃ cv us, v = (RoV.mk r.G r.P r.L cv us).val ∧ Sk w.heap.size 15 w' cv us ∧ us.length = min r.us.length 66) := by
  refine T.enter (vs := [r.val]) Tryd.func47 rfl Tryd.ntmps47 rfl ?_
  refine T.seq (T.region (L.op rfl rfl (O.box rfl (fun b1 w1 hb1 hz1 he1 hB1 => ?_))))
  refine L.op rfl rfl (O.alloc Tryd.zeroValue32 (fun b2 w2 hb2 hz2 he2 hB2 => ?_))
  have he02 := he1.trans he2
  have hC2 : Blk w2 b1 r.cells 32 := Blk.ext (cs := r.cells) hB1 he2
  have hR2 : Blk w2 b2 [.int .i64 0, .int .i64 0, .int .i64 0, .slice none 0 0] 32 := hB2
  have hU2 : Units lo w2 r.uv r.us := hr.ext he02
  have hle := Sl.le hU2.sl
  refine L.nil (T.seq (T.region (L.op rfl rfl (O.assign rfl (L.nil (T.seq (T.seq (T.region (L.op rfl rfl (O.fieldAddr Tryd.runUnderlying32 rfl Tryd.sizeOf30 rfl (L.op rfl rfl (O.load Tryd.isAgg30 rfl (hC2.cell rfl) (L.op rfl rfl (O.fieldAddr Tryd.runUnderlying32 rfl Tryd.sizeOf30 rfl (L.op rfl rfl (O.load Tryd.isAgg30 rfl (hC2.cell rfl) (?_)))))))))))))))))
  have hm66 : min r.us.length 66 ≤ r.us.length := Nat.min_le_left _ _
  refine L.op rfl rfl (O.len Tryd.runUnderlying30 rfl (Sl.val hU2.sl) (L.op rfl rfl (O.minN (k := 66) rfl rfl (?_))))
  have hm2 : min r.us.length 66 ≤ 66 := Nat.min_le_right _ _
  have hcl : (r.us.take (min r.us.length 66)).length = min r.us.length 66 := by rw [List.length_take]; omega
  refine L.op rfl rfl (O.cutH Tryd.runUnderlying30 Tryd.sizeOf42 rfl rfl hU2.sl hm66 (?_))
  have hK2 := hU2.cutH hm66
  refine L.op rfl rfl (O.len Tryd.runUnderlying30 rfl (Sl.val hK2.sl) (?_))
  rw [hcl]
  refine L.op rfl rfl (O.move rfl (L.nil (T.block (?_))))
  refine T.loop (σ := Nat × Value × List UnV) (fun s => [(1, .pointer (some ⟨b1, 0, none⟩)), (2, .pointer (some ⟨b2, 0, none⟩)), (3, s.2.1), (12, cutH r.uv (min r.us.length 66)), (13, .int .i64 ((min r.us.length 66 : Nat) : Int)), (14, .int .i64 s.1)]) (fun s w' => s.1 ≤ min r.us.length 66 ∧ Ext w2 w' ∧ Sk w2.heap.size 15 w' s.2.1 s.2.2 ∧ s.2.2.length = s.1) (fun s => min r.us.length 66 - s.1) ((0, .slice none 0 0, [])) ⟨rfl, rfl, rfl, rfl, rfl, rfl, trivial⟩ ⟨Nat.zero_le _, Keep.refl _ _, Sk.nil _ _ _, rfl⟩ ?_
  rintro ⟨i, l, us⟩ w3 ⟨hi, he3, hS3, hl3⟩
  simp only at hi hS3 hl3
  have hK3 := hK2.ext he3
  refine T.seq (T.region (L.op rfl rfl (O.lss_s rfl rfl (fun hlt => ?_) (fun hlt => ?_))))
  · refine L.nil (?_)
    have hlt' : i < min r.us.length 66 := by simpa using hlt
    have hlt2 : i < (r.us.take (min r.us.length 66)).length := by omega
    refine T.seq (T.cond_true rfl (T.skip (T.seq (T.block (T.seq (T.region (L.op rfl rfl (O.indexAddr Tryd.runUnderlying30 Tryd.sizeOf42 rfl rfl hK3.sl (by omega) (by omega) (L.op rfl rfl (O.loadAgg Tryd.isAgg42 Tryd.sizeOf42 rfl rfl (hK3.row hlt2) (L.op rfl rfl (O.alloc Tryd.zeroValue42 (fun b4 w4 hb4 hz4 he4 hB4 => ?_)))))))))))))
    refine L.op rfl rfl (O.storeAgg Tryd.sizeOf42 rfl rfl rfl hB4 (Nat.le_refl _) (hK3.at hlt2).one (fun w5 hu5 hB5 => ?_))
    have hw : ∃ u, u = (r.us.take (min r.us.length 66)).getD i u0 := ⟨_, rfl⟩
    obtain ⟨u, hu⟩ := hw
    have hB5' : Blk w5 b4 u.cells 42 := by rw [hu]; exact hB5
    have he35 : Ext w3 w5 := he4.upd hu5 (.inr (by omega))
    have hat : u.ok lo w5 := by rw [hu]; exact (hK3.at hlt2).ext he35
    have hg15 : min u.gs.length 15 ≤ u.gs.length := Nat.min_le_left _ _
    have hv15 : min u.vs.length 15 ≤ u.vs.length := Nat.min_le_left _ _
    have hp15 : min u.ps.length 15 ≤ u.ps.length := Nat.min_le_left _ _
    have hgt : (u.gs.take (min u.gs.length 15)).length ≤ 15 := by rw [List.length_take]; omega
    have hvt : (u.vs.take (min u.vs.length 15)).length ≤ 15 := by rw [List.length_take]; omega
    have hpt : (u.ps.take (min u.ps.length 15)).length ≤ 15 := by rw [List.length_take]; omega
    have hz25 := (he3.trans he35).size
    refine L.nil (T.seq (?_))
    refine T.anyF mixed 25 0 [5] rfl [.is _, .is _, .is _, .is _, .is _, .is _, .is _, .such (OwnX w5.heap.size 15), .is _, .is _, .is _, .is _, .is _, .is _, .is _, .such (OwnX w5.heap.size 15), .is _, .is _, .is _, .is _, .is _, .is _, .is _, .such (OwnX w5.heap.size 15), .is _] [[], [0], [], [2], [3], [4], [1, 5], [6], [], [8], [], [10], [11], [12], [9, 13], [14], [], [16], [], [18], [19], [20], [17, 21], [22], []] [none, none, none, none, none, none, none, none, none, none, none, none, none, none, none, none, none, none, none, none, none, none, none, none, none] [[], [0], [], [2], [2, 3], [2, 3, 4], [0, 1, 2, 3, 4, 5], [0, 1, 2, 3, 4, 5, 6], [], [8], [], [10], [10, 11], [10, 11, 12], [8, 9, 10, 11, 12, 13], [0, 1, 2, 3, 4, 5, 6, 7, 8, 9, 10, 11, 12, 13, 14], [], [16], [], [18], [18, 19], [18, 19, 20], [16, 17, 18, 19, 20, 21], [0, 1, 2, 3, 4, 5, 6, 7, 8, 9, 10, 11, 12, 13, 14, 15, 16, 17, 18, 19, 20, 21, 22], [0, 1, 2, 3, 4, 5, 6, 7, 8, 9, 10, 11, 16, 17, 18, 19], [0, 1, 2, 3, 4, 5, 6, 7, 8, 9, 10, 11, 12, 13, 14, 15, 16, 17, 18, 19, 20, 21, 22, 23, 24], [0, 1, 2, 3, 4, 5, 6, 7, 8, 9, 10, 11, 12, 13, 14, 15, 16, 17, 18, 19, 20, 21, 22, 23, 24, 25], [0, 1, 2, 3, 4, 5, 6, 7, 8, 9, 10, 11, 12, 13, 14, 15, 16, 17, 18, 19, 20, 21, 22, 23, 24, 25, 26], [0, 1, 2, 3, 4, 5, 6, 7, 8, 9, 10, 11, 12, 13, 14, 15, 16, 17, 18, 19, 20, 21, 22, 23, 24, 25, 26, 27], [0, 1, 2, 3, 4, 5, 6, 7, 8, 9, 10, 11, 12, 13, 14, 15, 16, 17, 18, 19, 20, 21, 22, 23, 24, 25, 26, 27, 28]] [7, 15, 23] [] (fun _ _ _ _ _ => True) (fun _ wq => Ext w5 wq) (Ext) (fun i f v w hi hf hh => by { rcases (show i = 7 ∨ i = 15 ∨ i = 23 by simpa using hi) with rfl | rfl | rfl <;> (simp only [List.getElem?_cons_succ, List.getElem?_cons_zero, Option.some.injEq] at hf; subst hf; exact OwnX.ltb hh) }) (fun _ _ _ _ _ _ _ _ => trivial) (by kernel_rfl) (by kernel_rfl) (by kernel_rfl) (by kernel_rfl) rfl ⟨OwnX.st, OwnX.st, OwnX.st, trivial⟩ (Keep.drew _ _) ⟨fun c wx hx => ObX.op rfl (O.fieldAddr Tryd.runUnderlying42 rfl Tryd.sizeOf37 rfl ⟨⟨Keep.refl _ _, hx⟩, rfl, trivial, trivial⟩),
        fun c wx hx => ObX.op rfl (O.load Tryd.isAgg37 rfl ((hB5'.ext hx).cell rfl) ⟨⟨Keep.refl _ _, hx⟩, rfl, trivial, trivial⟩),
        fun c wx hx => ObX.op rfl (O.fieldAddr Tryd.runUnderlying42 rfl Tryd.sizeOf37 rfl ⟨⟨Keep.refl _ _, hx⟩, rfl, trivial, trivial⟩),
        fun c wx hx => ObX.op rfl (O.load Tryd.isAgg37 rfl ((hB5'.ext hx).cell rfl) ⟨⟨Keep.refl _ _, hx⟩, rfl, trivial, trivial⟩),
        fun c wx hx => ObX.op rfl (O.len Tryd.runUnderlying37 rfl (Sl.val (hat.g.ext hx)) ⟨⟨Keep.refl _ _, hx⟩, rfl, trivial, trivial⟩),
        fun c wx hx => ObX.op rfl (O.minN (k := 15) rfl rfl ⟨⟨Keep.refl _ _, hx⟩, rfl, trivial, trivial⟩),
        fun c wx hx => ObX.op rfl (O.cutH Tryd.runUnderlying37 Tryd.sizeOf3 rfl rfl (hat.g.ext hx) hg15 ⟨⟨Keep.refl _ _, hx⟩, rfl, trivial, trivial⟩),
        fun c wx hx => ObX.op rfl (O.call (xs := [.tmp 24]) Tryd.call56 rfl rfl (clone_calls lo _ (u.gs.take (min u.gs.length 15)) wx (take_ints (hat.g.ext hx) hg15) (by omega)) (fun v wy h => and3 ⟨⟨h.1, hx.trans h.1⟩, OwnX.of_own h.2 hx.size hgt⟩ ⟨fun b hb => (own_at h.2 hb).1, trivial⟩)),
        fun c wx hx => ObX.op rfl (O.fieldAddr Tryd.runUnderlying42 rfl Tryd.sizeOf37 rfl ⟨⟨Keep.refl _ _, hx⟩, rfl, trivial, trivial⟩),
        fun c wx hx => ObX.op rfl (O.load Tryd.isAgg37 rfl ((hB5'.ext hx).cell rfl) ⟨⟨Keep.refl _ _, hx⟩, rfl, trivial, trivial⟩),
        fun c wx hx => ObX.op rfl (O.fieldAddr Tryd.runUnderlying42 rfl Tryd.sizeOf37 rfl ⟨⟨Keep.refl _ _, hx⟩, rfl, trivial, trivial⟩),
        fun c wx hx => ObX.op rfl (O.load Tryd.isAgg37 rfl ((hB5'.ext hx).cell rfl) ⟨⟨Keep.refl _ _, hx⟩, rfl, trivial, trivial⟩),
        fun c wx hx => ObX.op rfl (O.len Tryd.runUnderlying37 rfl (Sl.val (hat.v.ext hx)) ⟨⟨Keep.refl _ _, hx⟩, rfl, trivial, trivial⟩),
        fun c wx hx => ObX.op rfl (O.minN (k := 15) rfl rfl ⟨⟨Keep.refl _ _, hx⟩, rfl, trivial, trivial⟩),
        fun c wx hx => ObX.op rfl (O.cutH Tryd.runUnderlying37 Tryd.sizeOf3 rfl rfl (hat.v.ext hx) hv15 ⟨⟨Keep.refl _ _, hx⟩, rfl, trivial, trivial⟩),
        fun c wx hx => ObX.op rfl (O.call (xs := [.tmp 32]) Tryd.call56 rfl rfl (clone_calls lo _ (u.vs.take (min u.vs.length 15)) wx (take_ints (hat.v.ext hx) hv15) (by omega)) (fun v wy h => and3 ⟨⟨h.1, hx.trans h.1⟩, OwnX.of_own h.2 hx.size hvt⟩ ⟨fun b hb => (own_at h.2 hb).1, trivial⟩)),
        fun c wx hx => ObX.op rfl (O.fieldAddr Tryd.runUnderlying42 rfl Tryd.sizeOf37 rfl ⟨⟨Keep.refl _ _, hx⟩, rfl, trivial, trivial⟩),
        fun c wx hx => ObX.op rfl (O.load Tryd.isAgg37 rfl ((hB5'.ext hx).cell rfl) ⟨⟨Keep.refl _ _, hx⟩, rfl, trivial, trivial⟩),
        fun c wx hx => ObX.op rfl (O.fieldAddr Tryd.runUnderlying42 rfl Tryd.sizeOf37 rfl ⟨⟨Keep.refl _ _, hx⟩, rfl, trivial, trivial⟩),
        fun c wx hx => ObX.op rfl (O.load Tryd.isAgg37 rfl ((hB5'.ext hx).cell rfl) ⟨⟨Keep.refl _ _, hx⟩, rfl, trivial, trivial⟩),
        fun c wx hx => ObX.op rfl (O.len Tryd.runUnderlying37 rfl (Sl.val (hat.p.ext hx)) ⟨⟨Keep.refl _ _, hx⟩, rfl, trivial, trivial⟩),
        fun c wx hx => ObX.op rfl (O.minN (k := 15) rfl rfl ⟨⟨Keep.refl _ _, hx⟩, rfl, trivial, trivial⟩),
        fun c wx hx => ObX.op rfl (O.cutH Tryd.runUnderlying37 Tryd.sizeOf3 rfl rfl (hat.p.ext hx) hp15 ⟨⟨Keep.refl _ _, hx⟩, rfl, trivial, trivial⟩),
        fun c wx hx => ObX.op rfl (O.call (xs := [.tmp 40]) Tryd.call56 rfl rfl (clone_calls lo _ (u.ps.take (min u.ps.length 15)) wx (take_ints (hat.p.ext hx) hp15) (by omega)) (fun v wy h => and3 ⟨⟨h.1, hx.trans h.1⟩, OwnX.of_own h.2 hx.size hpt⟩ ⟨fun b hb => (own_at h.2 hb).1, trivial⟩)),
        fun c wx hx => ObX.op rfl (O.fieldAddr Tryd.runUnderlying42 rfl Tryd.sizeOf37 rfl ⟨⟨Keep.refl _ _, hx⟩, rfl, trivial, trivial⟩),
        trivial⟩ (fun w6 hI6 v25 hv25 v33 hv33 v41 hv41 hp6 => ?_)
    obtain ⟨va, hva, hf1, _⟩ := hp6 7 15 _ _ _ _ (by decide) (by decide) rfl rfl rfl rfl
    obtain rfl := hva _ _ rfl rfl
    obtain ⟨va, hva, hf2, _⟩ := hp6 7 23 _ _ _ _ (by decide) (by decide) rfl rfl rfl rfl
    obtain rfl := hva _ _ rfl rfl
    obtain ⟨va, hva, hf3, _⟩ := hp6 15 23 _ _ _ _ (by decide) (by decide) rfl rfl rfl rfl
    obtain rfl := hva _ _ rfl rfl
    have hz56 := Keep.size hI6
    have hb4 := hB5'.lt
    have hB5L : Blk w6 b4 [str u.nm, .int .i64 u.pp, u.gv, u.vv, u.pv, .bool u.wt] 42 := hB5'.ext hI6
    refine L.op rfl rfl (O.store1 Tryd.sizeOf37 (OwnX.one hv25) rfl rfl hB5L (by simp [Value.cells]) (fun w7 hu7 hB7 => ?_))
    refine L.op rfl rfl (O.fieldAddr Tryd.runUnderlying42 rfl Tryd.sizeOf37 rfl (L.op rfl rfl (O.store1 Tryd.sizeOf37 (OwnX.one hv33) rfl rfl hB7 (by simp [Value.cells]) (fun w8 hu8 hB8 => ?_))))
    refine L.op rfl rfl (O.fieldAddr Tryd.runUnderlying42 rfl Tryd.sizeOf37 rfl (L.op rfl rfl (O.store1 Tryd.sizeOf37 (OwnX.one hv41) rfl rfl hB8 (by simp [Value.cells]) (fun w9 hu9 hB9 => ?_))))
    obtain ⟨u', hu'⟩ : ∃ u' : UnV, u' = ⟨u.nm, u.pp, v25, [], v33, [], v41, [], u.wt⟩ := ⟨_, rfl⟩
    have hB9' : Blk w9 b4 u'.cells 42 := by rw [hu']; exact hB9
    have hlc : Loc (.slice (some ⟨b4, 0, none⟩) 0 0) w6 w9 := ((Loc.of_upd hu7 rfl).trans (Loc.of_upd hu8 rfl)).trans (Loc.of_upd hu9 rfl)
    have hn4 : ∀ {n : Nat} {v : Value} {w : World}, OwnX w5.heap.size n v w → ∀ b, v.ownBlock = some b → (Value.slice (some ⟨b4, 0, none⟩) 0 0).ownBlock ≠ some b := fun h b hb e => by have e' : b4 = b := Option.some.inj e; have := (h.lt hb).1; omega
    have hL9 : LS w5.heap.size 15 w9 u'.ls := by
      rw [hu']
      refine ⟨fun q hq => ?_, ?_⟩
      · simp only [UnV.ls, List.mem_cons, List.mem_nil_iff, or_false] at hq
        rcases hq with rfl | rfl | rfl
        · exact OwnX.loc hv25 hlc (hn4 hv25)
        · exact OwnX.loc hv33 hlc (hn4 hv33)
        · exact OwnX.loc hv41 hlc (hn4 hv41)
      · exact three_nd hf1 hf2 hf3
    have hS5 : Sk w2.heap.size 15 w6 l us := hS3.ext (he35.trans hI6)
    have hnb : ∀ q ∈ lsOf us, ∀ b, q.ownBlock = some b → b < w3.heap.size := hS3.ls.lt
    have hz35 := he4.size
    have hz5 := hu5.size
    have hb4s : w3.heap.size ≤ b4 := by omega
    have hS9 : Sk w2.heap.size 15 w9 l us := by
      refine ⟨owns_loc hS5.row hlc (fun b hb e => ?_), hS5.ls.loc hlc (fun q hq b hb e => ?_), hS5.nm⟩
      · have e' : b4 = b := Option.some.inj e; have := (own_at hS3.row hb).2; omega
      · have e' : b4 = b := Option.some.inj e; have := hnb q hq _ hb; omega
    refine L.nil (T.region (L.op rfl rfl (O.move rfl (L.op rfl rfl (O.loadAgg Tryd.isAgg42 Tryd.sizeOf42 rfl rfl hB9'.row (L.op rfl rfl (O.buildSlice (el := 42) (parts := [(0, .tmp 46)]) (vs := [(0, _)]) (cs := u'.cells) rfl (fun w => by kernel_rfl) (fun b10 w10 hb10 hz10 he10 hB10 => ?_))))))))
    have hS10 := hS9.ext he10
    refine L.op rfl rfl (O.append (size := 6) (bytes := 104) Tryd.runUnderlying30 Tryd.infoOf42 rfl rfl rfl rfl (by decide) rfl rfl hS10.row (Sl.of_blk (lo := 0) (n := 1) (sz := 6) hB10 rfl (Nat.le_refl _) (by decide) (Nat.zero_le _)) (by rw [hu']; intro c hc; simp [UnV.cells] at hc; rcases hc with (rfl|rfl|rfl|rfl|rfl|rfl); rfl; rfl; exact OwnX.one hv25; exact OwnX.one hv33; exact OwnX.one hv41; rfl) (by omega) (by simp only [maxLen]; omega) (by have := hu7.size; have := hu8.size; have := hu9.size; omega) (fun v11 w11 hO11 hG11 => ?_))
    have hz9 : w9.heap.size = w6.heap.size := by rw [hu9.size, hu8.size, hu7.size]
    refine L.op rfl rfl (O.assign rfl (L.nil (T.blk (T.region (L.op rfl rfl (O.add64 rfl rfl (by omega) (L.op rfl rfl (O.move rfl (L.nil (T.again ((i + 1, v11, us ++ [u'])) (by omega) ⟨rfl, rfl, rfl, rfl, rfl, rfl, trivial⟩ ⟨hlt', ?_, ⟨?_, ?_, ?_⟩, by simp [hl3]⟩))))))))))
    · exact Keep.grown0 ((hlc.keep (he3.trans (he35.trans hI6)) (fun b hb => by have e' : b4 = b := Option.some.inj hb; have := he3.size; omega)).trans he10) hS10.row hG11 (by omega)
    · rw [List.length_append, List.length_singleton, ucells_append, ucells_one]; exact hO11
    · rw [lsOf_append, lsOf_one]
      have hz10 := he10.size
      have hall : LS w2.heap.size 15 w10 (lsOf us ++ u'.ls) := hS10.ls.append ((hL9.ext he10).mono (by omega) (Nat.le_refl _)) (m := w5.heap.size) (fun q hq b hb => by have := hnb q hq b hb; omega) (fun q hq b hb => ((hL9.all q hq).lt hb).1)
      exact hall.loc (r := l) (Loc.of_grown hG11) (fun q hq b hb e => by
        obtain ⟨_, cs, _, _, hB, _⟩ := (hall.all q hq).blk hb
        exact row_ne hS10.row e hB rfl)
    · intro x hx
      rcases List.mem_append.1 hx with hx | hx
      · exact hS10.nm x hx
      · rw [List.mem_singleton.1 hx, hu']; exact hat.n
  · refine L.nil (?_)
    obtain rfl : i = min r.us.length 66 := by simp only at hlt; omega
    have hC3 : Blk w3 b1 [.int .i64 r.G, .int .i64 r.P, .int .i64 r.L, r.uv] 32 := hC2.ext he3
    refine T.seq (T.cond_false rfl (T.exit rfl (T.seq (T.region (L.op rfl rfl (O.move rfl (L.op rfl rfl (O.fieldAddr Tryd.runUnderlying32 rfl Tryd.sizeOf30 rfl (L.op rfl rfl (O.store1 Tryd.sizeOf30 (Sl.one (Sl.of_owns hS3.row)) rfl rfl hC3 (by simp [Value.cells]) (fun w4 hu4 hB4 => ?_)))))))))))
    replace hu4 : Upd b1 w3 w4 := hu4
    have hC4 : Blk w4 b1 [.int .i64 r.G, .int .i64 r.P, .int .i64 r.L, l] 32 := hB4
    refine L.nil (T.seq (T.region (L.op rfl rfl (O.loadAgg Tryd.isAgg32 Tryd.sizeOf32 rfl rfl hC4.row (?_)))))
    have hz := he02.size
    have hR4 := (hR2.ext he3).upd hu4 (by omega)
    have hb1' := hC2.lt
    have hb2' := hR2.lt
    have hS4 : Sk w2.heap.size 15 w4 l us := ⟨owns_upd hS3.row hu4 hb1', hS3.ls.loc (r := .slice (some ⟨b1, 0, none⟩) 0 0) (Loc.of_upd hu4 rfl) (fun q hq b hb e => by have e' : b1 = b := Option.some.inj e; have := ((hS3.ls.all q hq).lt hb).1; omega), hS3.nm⟩
    refine L.op rfl rfl (O.storeAgg Tryd.sizeOf32 rfl rfl rfl hR4 (Nat.le_refl _) (by intro u hu; simp at hu; rcases hu with (rfl|rfl|rfl|rfl); rfl; rfl; rfl; exact Sl.one (Sl.of_owns hS3.row)) (fun w5 hu5 hB5 => ?_))
    have hS5 : Sk w2.heap.size 15 w5 l us := ⟨owns_upd hS4.row hu5 hb2', hS4.ls.loc (r := .slice (some ⟨b2, 0, none⟩) 0 0) (Loc.of_upd hu5 rfl) (fun q hq b hb e => by have e' : b2 = b := Option.some.inj e; have := ((hS4.ls.all q hq).lt hb).1; omega), hS4.nm⟩
    have hR5 : Blk w5 b2 [.int .i64 r.G, .int .i64 r.P, .int .i64 r.L, l] 32 := hB5
    refine L.nil (T.retA Tryd.results47 Tryd.isAgg32 Tryd.sizeOf32 rfl rfl hR5.row ⟨((he02.trans he3).upd hu4 (.inr (by omega))).upd hu5 (.inr (by omega)), l, us, rfl, hS5.mono hz (Nat.le_refl _), hl3⟩)

end Go.Proofs.YtpgnaffcbbghgaaDoor
set_option linter.unusedVariables false
set_option linter.unusedSimpArgs false
set_option maxRecDepth 20000
namespace Go.Proofs.YtpgnaffcbbghgaaDoor
open Go Go.E
attribute [local irreducible] Go.E.T Go.E.L Go.E.O Go.E.Ob

section ops
variable {C : Cx} {e : Env} {w : World} {K : Value → World → Prop} {d : Option Tmp} {ty : TypeId} {pos : String} {aft : Array Edge} {g : Option (Nat × Bool)} {x y z x3 : Operand} {t : TypeId}
/-- 's[l:h:m]', only as a check. -/
theorem O.slice3 {oa : Option Addr} {n cap sz : Nat} {el : TypeId} {l h m : Nat} (hu : ∀ w, (underlying t).run C.P w = .ok (.slice el) w) (hs : ∀ w, (sizeOf el).run C.P w = .ok sz w) (hx : ev e x = some (.slice oa n cap)) (hy : ev e y = some (.int .i64 l)) (hz : ev e z = some (.int .i64 h)) (h3 : ev e x3 = some (.int .i64 m)) (h1 : l ≤ h) (h2 : h ≤ m) (h4 : m ≤ cap) (hk : ∀ v, K v w) :
    O C e ⟨d, .slice t x (some y) (some z) (some x3), ty, pos, aft, g⟩ w K :=
  O.of_run (v := .slice (if m = l then oa else oa.map (·.add (l * sz))) (h - l) (m - l)) (by simp) (fun a ha => by
    simp [execOp, Instr.sliceAt, Instr.slice, Instr.sliceBounds, Instr.sliceBound, asIntOf, ha.eval hx, ha.eval hy, ha.eval hz, ha.eval h3, hu w, hs w, h1, h2, h4]) (hk _)
/-- 's[l:h]' where h may lie behind the end. -/
theorem O.sliceCap {b n cap sz : Nat} {el : TypeId} {l h : Nat} (hu : ∀ w, (underlying t).run C.P w = .ok (.slice el) w) (hs : ∀ w, (sizeOf el).run C.P w = .ok sz w) (hx : ev e x = some (.slice (some ⟨b, 0, none⟩) n cap)) (hy : ev e y = some (.int .i64 l)) (hz : ev e z = some (.int .i64 h)) (h1 : l ≤ h) (h2 : h ≤ cap) (h3 : l < cap) (hk : K (.slice (some ⟨b, l * sz, none⟩) (h - l) (cap - l)) w) :
    O C e ⟨d, .slice t x (some y) (some z) none, ty, pos, aft, g⟩ w K :=
  O.of_run (v := .slice (some ⟨b, l * sz, none⟩) (h - l) (cap - l)) (by simp) (fun a ha => by
    have hne : ¬ cap = l := by omega
    have e1 : ((⟨b, 0, none⟩ : Addr).add (l * sz)) = ⟨b, l * sz, none⟩ := by rw [add_at]; simp
    simp [execOp, Instr.sliceAt, Instr.slice, Instr.sliceBounds, Instr.sliceBound, asIntOf, ha.eval hx, ha.eval hy, ha.eval hz, hu w, hs w, h1, h2, hne, e1]) hk
/-- 'append' where there is room. -/
theorem O.appendRoom {b n cap m size lo : Nat} {el : TypeId} {i : TypeInfo} {cur news : List Value} {u : Value} (ht : ∀ w, (underlying t).run C.P w = .ok (.slice el) w) (hi : C.P.info? el = some i) (hsize : i.size = size)
    (hx : ev e x = some (.slice (some ⟨b, 0, none⟩) n cap)) (hy : ev e y = some u) (hB : Blk w b cur el) (hu : Sl lo w u m size news) (h1 : ∀ c ∈ news, c.oneCell' = true) (hroom : n + m ≤ cap) (hl : cur.length = cap * size)
    (h : ∀ w', Upd b w w' → Blk w' b (cur.take (n * size) ++ news ++ cur.drop (n * size + news.length)) el → K (.slice (some ⟨b, 0, none⟩) (n + m) cap) w') :
    O C e ⟨d, .call { callee := .builtin .append, args := #[x, y], argTypes := #[t, t] }, ty, pos, aft, g⟩ w K := by
  have ht' : C.P.underlying t = some (.slice el) := by
    have := ht w
    simp only [underlying, Sem.run_bind, run_program, Result.andThen_ok] at this
    cases hq : C.P.underlying t with
    | none => simp [hq, stuck] at this
    | some q => simp [hq] at this; rw [this]
  subst hsize
  have hfit : n * i.size + news.length ≤ cur.length := by rw [hu.1, hl, ← Nat.add_mul]; exact Nat.mul_le_mul_right _ hroom
  have hgen : ∀ (ad : Addr) (c : Nat), Row w ad news → ∃ w', (Builtin.append_ #[t, t] ty #[.slice (some ⟨b, 0, none⟩) n cap, .slice (some ad) m c]).run C.P w = .ok (.slice (some ⟨b, 0, none⟩) (n + m) cap) w' ∧ Upd b w w' ∧ Blk w' b (cur.take (n * i.size) ++ news ++ cur.drop (n * i.size + news.length)) el := by
    intro ad c hr
    have hr2 := run_append_room (P := C.P) w t ty el i ht' hi b n cap cur.toArray hB ad m c news hu.1 hr h1 hroom (by simpa using hfit)
    refine ⟨_, hr2, ⟨rfl, rfl, rfl, by simp, fun k hk => setRow_other w b k _ hk⟩, ?_⟩
    have := setRow_heap w b cur.toArray (cur.take (n * i.size) ++ news ++ cur.drop (n * i.size + news.length)).toArray el (0, 0) hB
    unfold Blk
    simpa using this
  have key : ∃ w', (Builtin.append_ #[t, t] ty #[.slice (some ⟨b, 0, none⟩) n cap, u]).run C.P w = .ok (.slice (some ⟨b, 0, none⟩) (n + m) cap) w' ∧ Upd b w w' ∧ Blk w' b (cur.take (n * i.size) ++ news ++ cur.drop (n * i.size + news.length)) el := by
    obtain ⟨hl2, oa, c, rfl, hc, hm, hrow⟩ := hu
    rcases hrow with rfl | ⟨ad, rfl, _, hr⟩
    · have hnil : news = [] := List.eq_nil_of_length_eq_zero (by simpa using hl2)
      subst hnil
      cases oa with
      | some ad => exact hgen ad c (fun j u hj => by simp at hj)
      | none =>
        refine ⟨w, ?_, upd_refl _ _, by simpa using hB⟩
        have : storeCells ((⟨b, 0, none⟩ : Addr).add (n * i.size)) [] = (pure () : Sem Unit) := rfl
        simp [Builtin.append_, ht w, run_underlying ht', sizeOf, typeInfo, hi, Builtin.lenOf, Builtin.firstCells, (show n ≤ cap by omega), this]
    · exact hgen ad c hr
  obtain ⟨w', hr, h2, h3⟩ := key
  exact O.of_run (by simp) (fun a ha => by simp [execOp, resolve, invoke, builtin, ha.eval hx, ha.eval hy, hr]) (h w' h2 h3)
/-- 'clear' of a part of a block. -/
theorem O.clearAt {b off n c : Nat} {el : TypeId} {zv : Value} {cur : List Value} (ht : ∀ w, (underlying t).run C.P w = .ok (.slice el) w) (hz : ∀ w, (zeroValue el).run C.P w = .ok zv w) (h1 : ∀ u ∈ zv.cells, u.oneCell' = true)
    (hx : ev e x = some (.slice (some ⟨b, off, none⟩) n c)) (hn : 0 < n) (hB : Blk w b cur el) (hfit : off + n * zv.cells.size ≤ cur.length)
    (h : ∀ w', Upd b w w' → (∃ cs, cs.length = cur.length ∧ cs.take off = cur.take off ∧ Blk w' b cs el) → K (.tuple #[]) w') :
    O C e ⟨d, .call { callee := .builtin .clear, args := #[x], argTypes := #[t] }, ty, pos, aft, g⟩ w K := by
  have hzs : (Builtin.zeroCells zv.cells n).toList.length = n * zv.cells.size := by simp [Builtin.zeroCells]
  have hall : ∀ u ∈ (Builtin.zeroCells zv.cells n).toList, u.oneCell' = true := fun u hu => by
    simp only [Builtin.zeroCells, Array.mem_toList_iff, Array.mem_map, Array.mem_range] at hu
    obtain ⟨j, hj, rfl⟩ := hu
    have hp : 0 < zv.cells.size := by
      rcases Nat.eq_zero_or_pos zv.cells.size with h0 | h0
      · rw [h0] at hj; simp at hj
      · exact h0
    have hlt := Nat.mod_lt j hp
    rw [getElem!_pos zv.cells (j % zv.cells.size) hlt]
    exact h1 _ (Array.getElem_mem hlt)
  have hst := run_storeCells_at C.P b off el (Builtin.zeroCells zv.cells n).toList 0 cur.toArray w hB (by rw [hzs]; simpa using hfit) hall
  obtain ⟨n, rfl⟩ : ∃ q, n = q + 1 := ⟨n - 1, by omega⟩
  refine O.of_run (v := .tuple #[]) (w' := w.setRow b (cur.toArray.toList.take (off + 0) ++ (Builtin.zeroCells zv.cells (n + 1)).toList ++ cur.toArray.toList.drop (off + 0 + (Builtin.zeroCells zv.cells (n + 1)).toList.length)).toArray) (by simp) (fun a ha => by
    simp only [execOp, resolve, invoke, builtin, ha.eval hx, Builtin.clear_, List.map_toArray, List.map_cons, List.map_nil, Sem.run_bind, Sem.run_pure, Result.andThen_ok, ht w, hz w, hst]
    simp [Builtin.clear_, ht w, hz w, hst]) (h _ ⟨rfl, rfl, rfl, by simp, fun k hk => setRow_other w b k _ hk⟩ ⟨_, ?_, ?_, setRow_heap w b cur.toArray _ el (0, 0) hB⟩)
  · simp only [List.length_append, List.length_take, List.length_drop, hzs, Nat.add_zero]; omega
  · rw [Nat.add_zero, List.append_assoc, List.take_append_of_le_length (by simp; omega)]
    simp [List.take_take]
end ops
theorem Sk.blk {base n : Nat} {w : World} {v : Value} {us : List UnV} (h : Sk base n w v us) (hne : us ≠ []) : ∃ b cap cur, v = .slice (some ⟨b, 0, none⟩) us.length cap ∧ base ≤ b ∧ Blk w b cur 42 ∧ us.length ≤ cap ∧ cap ≤ maxLen ∧ cur.length = cap * 6 ∧ cur.take (us.length * 6) = ucells us := by
  rcases h.row.2 with ⟨_, h0⟩ | ⟨g, cap, cur, rfl, hbase, hg, hn, hm, hsz, htk⟩
  · exact absurd (List.length_eq_zero_iff.1 h0) hne
  · exact ⟨g, cap, cur.toList, rfl, hbase, by unfold Blk; simpa using hg, hn, hm, by simpa using hsz, htk⟩
theorem row_of {base b cap : Nat} {w : World} {cur : List Value} {us : List UnV} (hb : base ≤ b) (hB : Blk w b cur 42) (hn : us.length ≤ cap) (hm : cap ≤ maxLen) (hl : cur.length = cap * 6) (ht : cur.take (us.length * 6) = ucells us) : w.ownsRow base 42 6 (.slice (some ⟨b, 0, none⟩) us.length cap) us.length (ucells us) :=
  ⟨ucells_len us, .inr ⟨b, cap, cur.toArray, rfl, hb, hB, hn, hm, by simpa using hl, by simpa using ht⟩⟩
def SlW (n : Nat) (cs : List Value) (v : Value) (w : World) : Prop := Sl 0 w v n 6 cs
theorem SlW.st {n : Nat} {cs : List Value} : ∀ v w w', Ext w w' → SlW n cs v w → SlW n cs v w' := fun _ _ _ he h => Sl.ext h he
theorem lsOf_sub {us vs : List UnV} (h : us.Sublist vs) : (lsOf us).Sublist (lsOf vs) := by
  induction h with
  | slnil => exact List.Sublist.refl _
  | cons a h ih => rw [show ∀ l : List UnV, lsOf (a :: l) = a.ls ++ lsOf l from fun l => by simp [lsOf]]; exact ih.trans (List.sublist_append_right _ _)
  | cons_cons a h ih => rw [show ∀ l : List UnV, lsOf (a :: l) = a.ls ++ lsOf l from fun l => by simp [lsOf]]; rw [show ∀ l : List UnV, lsOf (a :: l) = a.ls ++ lsOf l from fun l => by simp [lsOf]]; exact (List.Sublist.refl _).append ih
theorem del_sub (us : List UnV) (i : Nat) : (us.take i ++ us.drop (i + 1)).Sublist us := by
  have := (List.Sublist.refl (us.take i)).append (List.drop_sublist_drop_left us (Nat.le_succ i))
  rwa [List.take_append_drop] at this
theorem deleteU_calls (base m i : Nat) (v : Value) (us : List UnV) (w : World) (hS : Sk base m w v us) (hi : i < us.length) (hlen : us.length ≤ 100) :
    Calls Tryd.prog 49 #[v, .int .i64 i, .int .i64 ((i : Int) + 1)] w (Ret fun v' w' => Loc v w w' ∧ Sk base m w' v' (us.take i ++ us.drop (i + 1)) ∧ v'.ownBlock = v.ownBlock) := by
  have hone : ∀ c ∈ ucells us, c.oneCell' = true := fun c hc => by
    obtain ⟨l, hl, hc2⟩ := List.mem_flatten.1 hc
    obtain ⟨u, hu, rfl⟩ := List.mem_map.1 hl
    exact hS.one u hu c hc2
  have hone' : ∀ c ∈ ucells (us.drop (i + 1)), c.oneCell' = true := fun c hc => hone c (by rw [← ucells_drop] at hc; exact List.mem_of_mem_drop hc)
  have hSl : Sl 0 w v us.length 6 (ucells us) := (Sl.of_owns hS.row).mono (Nat.zero_le _)
  refine T.enter (vs := [v, .int .i64 i, .int .i64 ((i : Int) + 1)]) Tryd.func49 rfl Tryd.ntmps49 rfl ?_
  refine T.seq (T.region (L.op rfl rfl (O.assign rfl (L.nil (T.seq (T.region (L.op rfl rfl (O.move rfl (L.op rfl rfl (O.move rfl (L.op rfl rfl (O.move rfl (L.op rfl rfl (O.move rfl (L.op rfl rfl (O.len Tryd.runUnderlying30 rfl (Sl.val hSl) (?_)))))))))))))))))
  obtain ⟨b, cap, cur, rfl, hb, hB, hnc, hcm, hcl, hct⟩ := hS.blk (by intro h; rw [h] at hi; simp at hi)
  refine L.op rfl rfl (O.slice3 (l := i) (h := i + 1) (m := us.length) Tryd.runUnderlying30 Tryd.sizeOf42 rfl rfl rfl rfl (by omega) (by omega) (by omega) (fun v13 => ?_))
  refine L.nil (T.seq (T.seq (T.region (L.op rfl rfl (O.move rfl (L.op rfl rfl (O.move rfl (L.op rfl rfl (O.eql_f rfl rfl (by omega) (L.nil (T.cond_false rfl (T.skip (T.seq (T.region (L.op rfl rfl (O.move rfl (L.op rfl rfl (O.len Tryd.runUnderlying30 rfl (Sl.val hSl) (L.op rfl rfl (O.assign rfl (L.nil (T.seq (?_)))))))))))))))))))))))
  refine T.anyE mixed 6 [0, 1, 2] rfl [.is _, .is _, .is _, .is _, .is _, .such (SlW (us.length - (i + 1)) (ucells (us.drop (i + 1))))] [[], [], [0, 1], [], [], [3, 4]] [[], [], [0, 1], [], [], [3, 4], [0, 1, 2, 3, 4, 5], [0, 1, 2, 3, 4, 5, 6]] (by kernel_rfl) (by kernel_rfl) rfl (by kernel_rfl) ⟨SlW.st, trivial⟩ ⟨fun wx hx => Ob.op rfl (O.move rfl ⟨Keep.refl _ _, rfl⟩),
      fun wx hx => Ob.op rfl (O.move rfl ⟨Keep.refl _ _, rfl⟩),
      fun wx hx => Ob.op rfl (O.slice_to Tryd.runUnderlying30 Tryd.sizeOf42 rfl rfl (by omega) (by omega) ⟨Keep.refl _ _, rfl⟩),
      fun wx hx => Ob.op rfl (O.move rfl ⟨Keep.refl _ _, rfl⟩),
      fun wx hx => Ob.op rfl (O.move rfl ⟨Keep.refl _ _, rfl⟩),
      fun wx hx => Ob.op rfl (O.cut_l Tryd.runUnderlying30 Tryd.sizeOf42 rfl rfl (hSl.ext hx) (by omega) (by omega) (fun v25 hs25 => ⟨Keep.refl _ _, by rw [show ((i : Int) + 1).toNat = i + 1 by omega, ucells_drop] at hs25; exact hs25⟩)),
      trivial⟩ (fun w14 he14 v25 hv25 => ?_)
  refine L.op rfl rfl (O.appendRoom (size := 6) Tryd.runUnderlying30 Tryd.infoOf42 rfl rfl rfl (hB.ext he14) hv25 hone' (by omega) hcl (fun w15 hu15 hB15 => ?_))
  have hi' : (i : Int).toNat = i := Int.toNat_natCast i
  rw [hi'] at hB15
  obtain ⟨us', hus'⟩ : ∃ us', us' = us.take i ++ us.drop (i + 1) := ⟨_, rfl⟩
  have hl' : us'.length = i + (us.length - (i + 1)) := by rw [hus', List.length_append, List.length_take, List.length_drop]; omega
  have hti : cur.take (i * 6) = ucells (us.take i) := by rw [← ucells_take, ← hct, List.take_take, Nat.min_eq_left (by omega)]
  obtain ⟨cs, hcs⟩ : ∃ cs, cs = cur.take (i * 6) ++ ucells (us.drop (i + 1)) ++ cur.drop (i * 6 + (ucells (us.drop (i + 1))).length) := ⟨_, rfl⟩
  rw [← hcs] at hB15
  have hl15 : cs.length = cap * 6 := by rw [hcs]; simp only [List.length_append, List.length_take, List.length_drop, ucells_len]; omega
  have ht15 : cs.take (us'.length * 6) = ucells us' := by
    rw [hcs, hti, ← ucells_append, ← hus', ← ucells_len us', List.take_left]
  rw [hi']
  rw [← hl']
  have hrow15 := row_of hb hB15 (us := us') (cap := cap) (by omega) hcm hl15 ht15
  refine L.op rfl rfl (O.assign rfl (L.nil (T.seq (T.region (L.op rfl rfl (O.move rfl (L.op rfl rfl (O.move rfl (L.op rfl rfl (O.len Tryd.runUnderlying30 rfl (Sl.val (Sl.of_owns hrow15)) (L.op rfl rfl (O.move rfl (L.op rfl rfl (O.sliceCap Tryd.runUnderlying30 Tryd.sizeOf42 rfl rfl rfl (by omega) (by omega) (by omega) (L.op rfl rfl (O.clearAt Tryd.runUnderlying30 Tryd.zeroValue42 (by intro u hu; simp [Value.cells] at hu; rcases hu with (rfl|rfl|rfl|rfl|rfl|rfl) <;> rfl) rfl (by omega) hB15 (by rw [hl15]; show us'.length * 6 + (us.length - us'.length) * 6 ≤ cap * 6; omega) (fun w16 hu16 ⟨cs16, hl16, ht16, hB16⟩ => ?_)))))))))))))))))
  have hrow16 := row_of hb hB16 (us := us') (cap := cap) (by omega) hcm (by omega) (by rw [ht16, ht15])
  have hloc : Loc (.slice (some ⟨b, 0, none⟩) us.length cap) w w16 := ((Loc.of_ext he14).trans (Loc.of_upd hu15 rfl)).trans (Loc.of_upd hu16 rfl)
  refine L.nil (T.seq (T.region (L.op rfl rfl (O.move rfl (L.op rfl rfl (O.assign rfl (L.nil (T.ret1 Tryd.results49 rfl ⟨hloc, ⟨by rw [← hus']; exact hrow16, ?_, fun u hu => hS.nm u ((del_sub us i).subset hu)⟩, rfl⟩))))))))
  exact (hS.ls.sub (lsOf_sub (del_sub us i))).loc hloc (fun q hq c hc => hS.out q ((lsOf_sub (del_sub us i)).subset hq) c hc)

end Go.Proofs.YtpgnaffcbbghgaaDoor
set_option linter.unusedVariables false
set_option linter.unusedSimpArgs false
set_option maxRecDepth 20000
namespace Go.Proofs.YtpgnaffcbbghgaaDoor
open Go Go.E
attribute [local irreducible] Go.E.T Go.E.L Go.E.O Go.E.Ob

theorem O.add8 {C : Cx} {e : Env} {w : World} {K : Value → World → Prop} {d : Option Tmp} {ty : TypeId} {pos : String} {aft : Array Edge} {g : Option (Nat × Bool)} {x y : Operand} {tx ty' : TypeId} {m n : Int} (hx : ev e x = some (.int .u8 m)) (hy : ev e y = some (.int .u8 n)) (hb : 0 ≤ m + n ∧ m + n ≤ 255) (h : K (.int .u8 (m + n)) w) : O C e ⟨d, .binOp .add tx x y ty', ty, pos, aft, g⟩ w K :=
  O.add hx hy (by rw [IntWalk.u8_in _ hb]; exact h)
theorem ucells_cons (u : UnV) (r : List UnV) : ucells (u :: r) = u.cells ++ ucells r := by simp [ucells]
theorem ucells_set : ∀ (us : List UnV) (k j : Nat) (c : Value) (u' : UnV), k < us.length → j < 6 → u'.cells = (us.getD k u0).cells.set j c → (ucells us).set (k * 6 + j) c = ucells (us.set k u')
  | [], k, _, _, _, h, _, _ => by simp at h
  | u :: r, 0, j, c, u', _, hj, hc => by
    have hc' : u'.cells = u.cells.set j c := hc
    rw [List.set_cons_zero, ucells_cons, ucells_cons, hc', Nat.zero_mul, Nat.zero_add, List.set_append_left _ _ (by rw [u.cells_len]; exact hj)]
  | u :: r, k + 1, j, c, u', h, hj, hc => by
    have ih := ucells_set r k j c u' (by simpa using h) hj (by simpa using hc)
    rw [List.set_cons_succ, ucells_cons, ucells_cons, ← ih, List.set_append_right _ _ (by rw [u.cells_len]; omega), u.cells_len, show (k + 1) * 6 + j - 6 = k * 6 + j by omega]
theorem ucells_get : ∀ (us : List UnV) (k j : Nat), k < us.length → j < 6 → (ucells us)[k * 6 + j]? = (us.getD k u0).cells[j]?
  | [], k, _, h, _ => by simp at h
  | u :: r, 0, j, _, hj => by
    rw [ucells_cons, Nat.zero_mul, Nat.zero_add, List.getElem?_append_left (by rw [u.cells_len]; exact hj)]; rfl
  | u :: r, k + 1, j, h, hj => by
    rw [ucells_cons, List.getElem?_append_right (by rw [u.cells_len]; omega), u.cells_len, show (k + 1) * 6 + j - 6 = k * 6 + j by omega, ucells_get r k j (by simpa using h) hj]
    simp
theorem lsOf_split {us : List UnV} {k : Nat} (h : k < us.length) : lsOf us = lsOf (us.take k) ++ ((us.getD k u0).ls ++ lsOf (us.drop (k + 1))) := by
  have e : us = us.take k ++ ([us.getD k u0] ++ us.drop (k + 1)) := by
    rw [getD_get h, List.singleton_append, List.getElem_cons_drop h, List.take_append_drop]
  conv => lhs; rw [e]
  rw [lsOf_append, lsOf_append, lsOf_one]
theorem lsOf_set {us : List UnV} {k : Nat} {u' : UnV} (h : k < us.length) : lsOf (us.set k u') = lsOf (us.take k) ++ (u'.ls ++ lsOf (us.drop (k + 1))) := by
  rw [List.set_eq_take_append_cons_drop, if_pos h, lsOf_append, show u' :: us.drop (k + 1) = [u'] ++ us.drop (k + 1) from rfl, lsOf_append, lsOf_one]
theorem lsOf_set_same {us : List UnV} {k : Nat} {u' : UnV} (h : k < us.length) (hl : u'.ls = (us.getD k u0).ls) : lsOf (us.set k u') = lsOf us := by rw [lsOf_set h, lsOf_split h, hl]
theorem OwnX.ne_unit {base n b : Nat} {q : Value} {w : World} {cur : List Value} (h : OwnX base n q w) (hB : Blk w b cur 42) : q.ownBlock ≠ some b := fun hb => by
  obtain ⟨_, cs, _, _, hB2, _⟩ := h.blk hb
  have := hB2.symm.trans hB
  simp at this
def bcells (W A T N : Int) (nm : Str) : List Value := [.int .u8 W, .int .u8 A, .int .u8 T, .int .i64 N, str nm]
def zroll : List Value := [.int .i64 0, .int .i64 0, .int .i64 0, .slice none 0 0]
def IntBox (lo : Nat) (x : Int) (v : Value) (w : World) : Prop := ∃ b, v = .pointer (some ⟨b, 0, none⟩) ∧ lo ≤ b ∧ Blk w b [.int .i64 x] 3
theorem IntBox.st {lo : Nat} {x : Int} : ∀ v w w', Ext w w' → IntBox lo x v w → IntBox lo x v w' := fun _ _ _ he ⟨b, h1, h2, h3⟩ => ⟨b, h1, h2, h3.ext he⟩
theorem set_take6 {cur : List Value} {us : List UnV} {k j : Nat} {c : Value} {u' : UnV} (ht : cur.take (us.length * 6) = ucells us) (hk : k < us.length) (hj : j < 6) (hc : u'.cells = (us.getD k u0).cells.set j c) : (cur.set (k * 6 + j) c).take ((us.set k u').length * 6) = ucells (us.set k u') := by
  rw [List.length_set, List.take_set, ht, ucells_set us k j c u' hk hj hc]
/-- What holds when the change of a roll begins. -/
structure OfS (base b b3 b4 b7 cap : Nat) (cur : List Value) (T G P L : Int) (us : List UnV) (w W : World) : Prop where
  ext : Ext w W
  hz : w.heap.size ≤ base
  l3 : b3 < base
  l4 : b4 < base
  n34 : b3 ≠ b4
  o3 : w.heap.size ≤ b3
  hb : base ≤ b
  c3 : Blk W b3 [.int .i64 G, .int .i64 P, .int .i64 L, .slice (some ⟨b, 0, none⟩) us.length cap] 32
  c4 : Blk W b4 zroll 32
  c7 : Blk W b7 [.int .i64 T] 3
  c : Blk W b cur 42
  sk : Sk base 15 W (.slice (some ⟨b, 0, none⟩) us.length cap) us
  nc : us.length ≤ cap
  cm : cap ≤ maxLen
  cl : cur.length = cap * 6
  ct : cur.take (us.length * 6) = ucells us
  l66 : us.length ≤ 66
/-- What holds when it ends. -/
def OfI (base b3 b4 : Nat) (w W : World) : Prop := Ext w W ∧ Blk W b4 zroll 32 ∧ ∃ G P L uv us, Blk W b3 [.int .i64 G, .int .i64 P, .int .i64 L, uv] 32 ∧ Sk base 16 W uv us ∧ us.length ≤ 67
section
variable {base b b3 b4 b7 cap : Nat} {cur : List Value} {T G P L : Int} {us : List UnV} {w W : World}
theorem OfS.cell {k j : Nat} {c : Value} {u' : UnV} {W' : World} (h : OfS base b b3 b4 b7 cap cur T G P L us w W) (hu : Upd b W W') (hB : Blk W' b (cur.set (k * 6 + j) c) 42) (hk : k < us.length) (hj : j < 6) (hc : u'.cells = (us.getD k u0).cells.set j c) (hl : u'.ls = (us.getD k u0).ls) (hn : u'.nm.length ≤ 9223372036854775807) : OfI base b3 b4 w W' := by
  have h1 := h.l3; have h2 := h.l4; have h3 := h.hb
  refine ⟨h.ext.upd hu (.inr (by have := h.hz; omega)), h.c4.upd hu (by omega), G, P, L, _, us.set k u', h.c3.upd hu (by omega), ⟨?_, ?_, ?_⟩, by rw [List.length_set]; have := h.l66; omega⟩
  · have := row_of (us := us.set k u') h.hb hB (cap := cap) (by rw [List.length_set]; exact h.nc) h.cm (by rw [List.length_set]; exact h.cl) (set_take6 h.ct hk hj hc)
    rwa [List.length_set] at this ⊢
  · rw [lsOf_set_same hk hl]
    exact (h.sk.ls.mono (Nat.le_refl _) (by decide)).loc (r := .slice (some ⟨b, 0, none⟩) 0 0) (Loc.of_upd hu rfl) (fun q hq b' hb' e => (h.sk.ls.all q hq).ne_unit h.c (hb'.trans e.symm |>.trans rfl))
  · intro u hu'
    rcases List.mem_or_eq_of_mem_set hu' with h1 | rfl
    · exact h.sk.nm u h1
    · exact hn
theorem OfS.roll {G' P' L' : Int} {W' : World} (h : OfS base b b3 b4 b7 cap cur T G P L us w W) (hu : Upd b3 W W') (hB : Blk W' b3 [.int .i64 G', .int .i64 P', .int .i64 L', .slice (some ⟨b, 0, none⟩) us.length cap] 32) : OfI base b3 b4 w W' := by
  have h1 := h.l3; have h2 := h.l4; have h3 := h.hb
  refine ⟨h.ext.upd hu (.inr h.o3), h.c4.upd hu (Ne.symm h.n34), G', P', L', _, us, hB, ⟨owns_upd h.sk.row hu h1, ?_, h.sk.nm⟩, by have := h.l66; omega⟩
  exact (h.sk.ls.mono (Nat.le_refl _) (by decide)).loc (r := .slice (some ⟨b3, 0, none⟩) 0 0) (Loc.of_upd hu rfl) (fun q hq b' hb' e => by have e' : b3 = b' := Option.some.inj e; have := ((h.sk.ls.all q hq).lt hb').1; omega)
/-- One list turned in its own block. -/
theorem OfS.list {q : Value} {A B : List Value} {W' : World} (h : OfS base b b3 b4 b7 cap cur T G P L us w W) (hu : Loc q W W') (hs : lsOf us = A ++ q :: B) (hq : OwnX base 16 q W') : OfI base b3 b4 w W' := by
  have h1 := h.l3; have h2 := h.l4; have h3 := h.hb
  have hqm : q ∈ lsOf us := by rw [hs]; simp
  have hq0 := h.sk.ls.all q hqm
  refine ⟨hu.keep h.ext (fun b' hb' => by have := (hq0.lt hb').1; have := h.hz; omega), hu.blk h.c4 (fun e => by have := (hq0.lt e).1; omega), G, P, L, _, us, hu.blk h.c3 (fun e => by have := (hq0.lt e).1; omega), ⟨owns_loc h.sk.row hu (fun b' hb' e => h.sk.out q hqm b' e hb'), ?_, h.sk.nm⟩, by have := h.l66; omega⟩
  have := h.sk.ls
  rw [hs] at this ⊢
  exact this.replace hu (by decide) hq (fun _ h => .inl h)
/-- A list changed, and put into its unit. -/
theorem OfS.swap {q q' : Value} {A B : List Value} {k j : Nat} {u' : UnV} {W1 W' : World} (h : OfS base b b3 b4 b7 cap cur T G P L us w W) (hu : Loc q W W1) (hs : lsOf us = A ++ q :: B) (hs' : lsOf (us.set k u') = A ++ q' :: B) (hq : OwnX base 16 q' W1) (hf : ∀ b, q'.ownBlock = some b → q.ownBlock = some b ∨ W.heap.size ≤ b)
    (hu2 : Upd b W1 W') (hB : Blk W' b (cur.set (k * 6 + j) q') 42) (hk : k < us.length) (hj : j < 6) (hc : u'.cells = (us.getD k u0).cells.set j q') (hn : u'.nm.length ≤ 9223372036854775807) : OfI base b3 b4 w W' := by
  have h1 := h.l3; have h2 := h.l4; have h3 := h.hb
  have hqm : q ∈ lsOf us := by rw [hs]; simp
  have hq0 := h.sk.ls.all q hqm
  have hc1 : Blk W1 b cur 42 := hu.blk h.c (hq0.ne_unit h.c)
  have hL : LS base 16 W1 (A ++ q' :: B) := by
    have := h.sk.ls
    rw [hs] at this
    exact this.replace hu (by decide) hq hf
  refine ⟨(hu.keep h.ext (fun b' hb' => by have := (hq0.lt hb').1; have := h.hz; omega)).upd hu2 (.inr (by have := h.hz; omega)), (hu.blk h.c4 (fun e => by have := (hq0.lt e).1; omega)).upd hu2 (by omega), G, P, L, _, us.set k u', (hu.blk h.c3 (fun e => by have := (hq0.lt e).1; omega)).upd hu2 (by omega), ⟨?_, ?_, ?_⟩, by rw [List.length_set]; have := h.l66; omega⟩
  · have := row_of (us := us.set k u') h.hb hB (cap := cap) (by rw [List.length_set]; exact h.nc) h.cm (by rw [List.length_set]; exact h.cl) (set_take6 h.ct hk hj hc)
    rwa [List.length_set] at this ⊢
  · rw [hs']
    exact hL.loc (r := .slice (some ⟨b, 0, none⟩) 0 0) (Loc.of_upd hu2 rfl) (fun x hx b' hb' e => (hL.all x hx).ne_unit hc1 (hb'.trans e.symm |>.trans rfl))
  · intro u hu'
    rcases List.mem_or_eq_of_mem_set hu' with h1 | rfl
    · exact h.sk.nm u h1
    · exact hn
end
theorem set_calls (base m b2 b7 : Nat) (W A To N : Int) (nm : Str) (q : Value) (w : World) (hq : OwnX base m q w) (h2 : Blk w b2 (bcells W A To N nm) 47) (h7 : Blk w b7 [.int .i64 To] 3) (hT : 0 ≤ To) :
    Calls Tryd.prog 48 #[q, .pointer (some ⟨b2, 0, none⟩), .pointer (some ⟨b7, 0, none⟩)] w (Ret fun v w' => v = .tuple #[] ∧ Loc q w w' ∧ OwnX base m q w') := by
  obtain ⟨xs, hI⟩ := hq.ints
  refine T.enter (vs := [q, .pointer (some ⟨b2, 0, none⟩), .pointer (some ⟨b7, 0, none⟩)]) Tryd.func48 rfl Tryd.ntmps48 rfl ?_
  refine T.seq (T.region (L.op rfl rfl (O.move rfl (L.op rfl rfl (O.len Tryd.runUnderlying37 rfl (Sl.val hI) (L.op rfl rfl (O.gtr_s rfl rfl (fun h0 => ?_) (fun h0 => ?_))))))))
  · refine L.nil (?_)
    have hpos : 0 < xs.length := by omega
    obtain ⟨b, hqb⟩ : ∃ b, q.ownBlock = some b := by
      obtain ⟨cap, e, _⟩ := Sl.there hI hpos
      exact ⟨_, by rw [e]; rfl⟩
    obtain ⟨xs2, cs, cap, _, hB, hqe, hlc, hI2⟩ := hq.blk hqb
    have hlx : xs.length = xs2.length := by
      obtain ⟨_, _, e, _⟩ := Sl.val hI
      rw [hqe] at e
      simp only [Value.slice.injEq] at e; exact e.2.1.symm
    obtain ⟨k, hk⟩ : ∃ k : Nat, To % (xs.length : Int) = k := ⟨(To % (xs.length : Int)).toNat, by have := Int.emod_nonneg To (show (xs.length : Int) ≠ 0 by omega); omega⟩
    have hk2 : k < xs.length := by have := Int.emod_lt_of_pos To (show (0 : Int) < xs.length by omega); omega
    refine T.cond_true rfl (?_)
    refine T.anyE mixed 7 [0, 2, 1] rfl [.is _, .is _, .is _, .is _, .is (.int .i64 (k : Nat)), .is _, .is _] [[], [], [], [2], [1, 3], [], [5]] [[], [], [], [2], [1, 2, 3], [], [5], [0, 1, 2, 3, 4, 5, 6], [0, 1, 2, 3, 4, 5, 6, 7]] (by kernel_rfl) (by kernel_rfl) rfl (by kernel_rfl) trivial ⟨fun wx hx => Ob.op rfl (O.move rfl ⟨Keep.refl _ _, rfl⟩),
        fun wx hx => Ob.op rfl (O.load Tryd.isAgg3 rfl ((h7.ext hx).cell rfl) ⟨Keep.refl _ _, rfl⟩),
        fun wx hx => Ob.op rfl (O.move rfl ⟨Keep.refl _ _, rfl⟩),
        fun wx hx => Ob.op rfl (O.len Tryd.runUnderlying37 rfl (Sl.val (Ints.ext hI hx)) ⟨Keep.refl _ _, rfl⟩),
        fun wx hx => Ob.op rfl (O.rem rfl rfl (by omega) (by omega) ⟨Keep.refl _ _, by rw [hk]; rfl⟩),
        fun wx hx => Ob.op rfl (O.fieldAddr Tryd.runUnderlying47 rfl Tryd.sizeOf3 rfl ⟨Keep.refl _ _, rfl⟩),
        fun wx hx => Ob.op rfl (O.load Tryd.isAgg3 rfl ((h2.ext hx).cell rfl) ⟨Keep.refl _ _, rfl⟩),
        trivial⟩ (fun w3 he3 => ?_)
    subst hqe
    refine L.op rfl rfl (O.indexAddr Tryd.runUnderlying37 Tryd.sizeOf3 rfl rfl (Ints.ext hI he3) (by omega) (by omega) (L.op rfl rfl (O.store1_at Tryd.sizeOf3 rfl rfl rfl (hB.ext he3) (by show 0 + (k : Int).toNat * 1 < _; omega) (fun w4 hu4 hB4 => ?_))))
    refine L.nil (T.end0 Tryd.results48 ⟨rfl, (Loc.of_ext he3).trans (Loc.of_upd hu4 rfl), OwnX.set (OwnX.st _ _ _ he3 hq) rfl (hB.ext he3) hB4⟩)
  · refine L.nil (T.cond_false rfl (T.skip (T.end0 Tryd.results48 ⟨rfl, Loc.of_ext (Keep.refl _ _), hq⟩)))

end Go.Proofs.YtpgnaffcbbghgaaDoor
set_option linter.unusedVariables false
set_option linter.unusedSimpArgs false
set_option maxRecDepth 20000
namespace Go.Proofs.YtpgnaffcbbghgaaDoor
open Go Go.E
attribute [local irreducible] Go.E.T Go.E.L Go.E.O Go.E.Ob

attribute [local irreducible] Go.E.ObX Go.E.ObK
theorem cellB {w : World} {b k j : Nat} {cur : List Value} {c : Value} {t : TypeId} (h : Blk w b (cur.set (0 + ((k : Int).toNat * 6 + j)) c) t) : Blk w b (cur.set (k * 6 + j) c) t := by
  rw [show 0 + ((k : Int).toNat * 6 + j) = k * 6 + j by omega] at h; exact h
section
variable {base b b3 b4 b7 cap : Nat} {cur : List Value} {T G P L : Int} {us : List UnV} {w W : World}
theorem OfS.at (h : OfS base b b3 b4 b7 cap cur T G P L us w W) {W' : World} (hB : Blk W' b cur 42) {k j : Nat} {c : Value} (hk : k < us.length) (hc : (us.getD k u0).cells[j]? = some c) (hj : j < 6 := by decide) : W'.cell? (((sAddr (.slice (some ⟨b, 0, none⟩) us.length cap)).add ((k : Int).toNat * 6)).add j) = some c := by
  refine Blk.at2 hB ?_
  rw [show 0 + ((k : Int).toNat * 6 + j) = k * 6 + j by omega]
  have e := ucells_get us k j hk hj
  rw [← h.ct] at e
  rw [List.getElem?_take_of_lt (by omega)] at e
  rw [e, hc]
theorem OfS.mem (h : OfS base b b3 b4 b7 cap cur T G P L us w W) {k : Nat} (hk : k < us.length) : ∀ q ∈ (us.getD k u0).ls, OwnX base 15 q W := fun q hq => h.sk.ls.all q (by rw [lsOf_split hk]; exact List.mem_append_right _ (List.mem_append_left _ hq))
theorem OfS.nm (h : OfS base b b3 b4 b7 cap cur T G P L us w W) {k : Nat} (hk : k < us.length) : (us.getD k u0).nm.length ≤ 9223372036854775807 := h.sk.nm _ (by rw [getD_get hk]; exact List.getElem_mem hk)
theorem OfS.fit (h : OfS base b b3 b4 b7 cap cur T G P L us w W) {k j : Nat} (hk : k < us.length) (hj : j < 6) : 0 + ((k : Int).toNat * 6 + j) < cur.length := by
  have := h.cl; have := h.nc; omega
theorem OfS.keep (h : OfS base b b3 b4 b7 cap cur T G P L us w W) {W' : World} (he : Ext W W') : OfS base b b3 b4 b7 cap cur T G P L us w W' :=
  ⟨h.ext.trans he, h.hz, h.l3, h.l4, h.n34, h.o3, h.hb, h.c3.ext he, h.c4.ext he, h.c7.ext he, h.c.ext he, h.sk.ext he, h.nc, h.cm, h.cl, h.ct, h.l66⟩
theorem split_g (us : List UnV) {k : Nat} (h : k < us.length) : lsOf us = lsOf (us.take k) ++ (us.getD k u0).gv :: ([(us.getD k u0).vv, (us.getD k u0).pv] ++ lsOf (us.drop (k + 1))) := by rw [lsOf_split h]; rfl
theorem split_v (us : List UnV) {k : Nat} (h : k < us.length) : lsOf us = (lsOf (us.take k) ++ [(us.getD k u0).gv]) ++ (us.getD k u0).vv :: ([(us.getD k u0).pv] ++ lsOf (us.drop (k + 1))) := by rw [lsOf_split h]; simp [UnV.ls]
theorem split_p (us : List UnV) {k : Nat} (h : k < us.length) : lsOf us = (lsOf (us.take k) ++ [(us.getD k u0).gv, (us.getD k u0).vv]) ++ (us.getD k u0).pv :: lsOf (us.drop (k + 1)) := by rw [lsOf_split h]; simp [UnV.ls]
end
theorem Sk.ofI {base b3 b4 : Nat} {w W : World} {G P L : Int} {uv : Value} {us : List UnV} (he : Ext w W) (h4 : Blk W b4 zroll 32) (h3 : Blk W b3 [.int .i64 G, .int .i64 P, .int .i64 L, uv] 32) (hs : Sk base 16 W uv us) (hl : us.length ≤ 67) : OfI base b3 b4 w W := ⟨he, h4, G, P, L, uv, us, h3, hs, hl⟩
/-- A roll that is a copy. -/
def CpV (lo n : Nat) (v : Value) (w : World) : Prop := ∃ r : RoV, v = r.val ∧ Sk lo 15 w r.uv r.us ∧ r.us.length = n
theorem CpV.st {lo n : Nat} : ∀ v w w', Ext w w' → CpV lo n v w → CpV lo n v w' := fun _ _ _ he ⟨r, h1, h2, h3⟩ => ⟨r, h1, h2.ext he, h3⟩
def CpU (lo n : Nat) (v : Value) (w : World) : Prop := ∃ us, Sk lo 15 w v us ∧ us.length = n
theorem CpU.st {lo n : Nat} : ∀ v w w', Ext w w' → CpU lo n v w → CpU lo n v w' := fun _ _ _ he ⟨us, h1, h2⟩ => ⟨us, h1.ext he, h2⟩
def CpOne (lo : Nat) (u : UnV) (w : World) : Prop := LS lo 15 w u.ls ∧ u.nm.length ≤ 9223372036854775807
theorem CpOne.one {lo : Nat} {u : UnV} {w : World} (h : CpOne lo u w) : ∀ c ∈ u.cells, c.oneCell' = true := by
  obtain ⟨u', h1, h2⟩ := unit_fill (u := u) h.1.all h.2
  rw [← h1]; exact h2.one
def CpP (lo : Nat) (v : Value) (w : World) : Prop := ∃ (a : Addr) (u : UnV), v = .pointer (some a) ∧ Row w a u.cells ∧ CpOne lo u w
theorem CpP.st {lo : Nat} : ∀ v w w', Ext w w' → CpP lo v w → CpP lo v w' := fun _ _ _ he ⟨a, u, h1, h2, h3, h4⟩ => ⟨a, u, h1, h2.keep he (Nat.zero_le _), h3.ext he, h4⟩
def CpX (lo : Nat) (v : Value) (w : World) : Prop := ∃ u : UnV, v = u.val ∧ CpOne lo u w
theorem CpX.st {lo : Nat} : ∀ v w w', Ext w w' → CpX lo v w → CpX lo v w' := fun _ _ _ he ⟨u, h1, h3, h4⟩ => ⟨u, h1, h3.ext he, h4⟩
def CpL (lo : Nat) (v : Value) (w : World) : Prop := ∃ (b : Nat) (u : UnV), v = .slice (some ⟨b, 0, none⟩) 1 1 ∧ Blk w b u.cells 42 ∧ CpOne lo u w
theorem CpL.st {lo : Nat} : ∀ v w w', Ext w w' → CpL lo v w → CpL lo v w' := fun _ _ _ he ⟨b, u, h1, h2, h3, h4⟩ => ⟨b, u, h1, h2.ext he, h3.ext he, h4⟩
theorem sk_elem {base n k : Nat} {w : World} {v : Value} {us : List UnV} (h : Sk base n w v us) (hk : k < us.length) : Row w ((sAddr v).add ((k : Int).toNat * 6)) (us.getD k u0).cells ∧ LS base n w (us.getD k u0).ls ∧ (us.getD k u0).nm.length ≤ 9223372036854775807 := by
  obtain ⟨us', h1, h2, h3⟩ := h.units
  have hr := h3.row (i := k) (by omega)
  have e : (us'.getD k u0).cells = (us.getD k u0).cells := by
    rw [getD_get (by omega), getD_get hk]
    have := congrArg (fun l => l[k]?) h2
    simpa [List.getElem?_map, List.getElem?_eq_getElem hk, List.getElem?_eq_getElem (show k < us'.length by omega)] using this
  rw [e] at hr
  refine ⟨hr, h.ls.sub ?_, h.nm _ (by rw [getD_get hk]; exact List.getElem_mem hk)⟩
  rw [lsOf_split hk]
  exact (List.sublist_append_left _ _).trans (List.sublist_append_right _ _)
/-- A unit more, whose lists are new. -/
theorem Sk.snoc {base n m : Nat} {w w' : World} {v v' : Value} {us : List UnV} {u : UnV} (h : Sk base n w v us) (hu : LS base n w u.ls) (hn : u.nm.length ≤ 9223372036854775807) (hlt : ∀ q ∈ lsOf us, ∀ b, q.ownBlock = some b → b < m) (hge : ∀ q ∈ u.ls, ∀ b, q.ownBlock = some b → m ≤ b)
    (hO : w'.ownsRow base 42 6 v' (us.length + 1) (ucells us ++ u.cells)) (hG : w.grownBy w' v.ownBlock) : Sk base n w' v' (us ++ [u]) := by
  refine ⟨by rw [List.length_append, List.length_singleton, ucells_append, ucells_one]; exact hO, ?_, fun x hx => ?_⟩
  · rw [lsOf_append, lsOf_one]
    have hall : LS base n w (lsOf us ++ u.ls) := h.ls.append hu (m := m) hlt hge
    exact hall.loc (r := v) (Loc.of_grown hG) (fun q hq b hb e => by
      obtain ⟨_, cs, _, _, hB, _⟩ := (hall.all q hq).blk hb
      exact row_ne h.row e hB rfl)
  · rcases List.mem_append.1 hx with hx | hx
    · exact h.nm x hx
    · rw [List.mem_singleton.1 hx]; exact hn
/-- A cell of a unit set. -/
theorem Sk.setC {base n b cap k j : Nat} {c : Value} {cur : List Value} {us : List UnV} {u' : UnV} {w w' : World} (h : Sk base n w (.slice (some ⟨b, 0, none⟩) us.length cap) us) (hb : base ≤ b) (hB : Blk w b cur 42) (hnc : us.length ≤ cap) (hcm : cap ≤ maxLen) (hcl : cur.length = cap * 6) (hct : cur.take (us.length * 6) = ucells us)
    (hu : Upd b w w') (hB' : Blk w' b (cur.set (k * 6 + j) c) 42) (hk : k < us.length) (hj : j < 6) (hc : u'.cells = (us.getD k u0).cells.set j c) (hl : u'.ls = (us.getD k u0).ls) (hn : u'.nm.length ≤ 9223372036854775807) : Sk base n w' (.slice (some ⟨b, 0, none⟩) us.length cap) (us.set k u') := by
  refine ⟨?_, ?_, ?_⟩
  · have := row_of (us := us.set k u') hb hB' (cap := cap) (by rw [List.length_set]; exact hnc) hcm (by rw [List.length_set]; exact hcl) (set_take6 hct hk hj hc)
    rwa [List.length_set] at this ⊢
  · rw [lsOf_set_same hk hl]
    exact h.ls.loc (r := .slice (some ⟨b, 0, none⟩) 0 0) (Loc.of_upd hu rfl) (fun q hq b' hb' e => (h.ls.all q hq).ne_unit hB (hb'.trans e.symm |>.trans rfl))
  · intro u hu'
    rcases List.mem_or_eq_of_mem_set hu' with h1 | rfl
    · exact h.nm u h1
    · exact hn
/-- Two digits. -/
def dig2 (n : Nat) : Str := [UInt8.ofNat (48 + n / 10), UInt8.ofNat (48 + n % 10)]
theorem dig2_ints {n : Nat} (h : n < 100) : ((dig2 n).map fun c => (c.toNat : Int)) = [48 + (n : Int) / 10, 48 + (n : Int) % 10] := by
  simp only [dig2, List.map_cons, List.map_nil, List.cons.injEq, and_true]
  constructor <;> (rw [UInt8.toNat_ofNat_of_lt' (by show _ < 256; omega)]; omega)
/-- The world behind a region that swaps. -/
def SwI (b : Nat) (cs : List Value) (w8 : World) : Nat → World → Prop
  | 0, W => Ext w8 W
  | _, W => ∃ W1, Ext w8 W1 ∧ ∃ W2, Upd b W1 W2 ∧ Blk W2 b cs 42 ∧ Ext W2 W
theorem SwI.blk {b c k : Nat} {t : TypeId} {cs cs1 : List Value} {w8 W : World} (h : SwI b cs1 w8 c W) (hk : k ≠ b) (hB : Blk w8 k cs t) : Blk W k cs t := by
  cases c with
  | zero => exact Blk.ext hB h
  | succ c => obtain ⟨W1, h1, W2, h2, _, h3⟩ := h; exact ((hB.ext h1).upd h2 hk).ext h3
theorem SwI.own {b c : Nat} {cur cs1 : List Value} {w8 W : World} (h : SwI b cs1 w8 c W) (hB : Blk w8 b cur 42) (hl : cs1.length = cur.length) : ∃ cs, Blk W b cs 42 ∧ cs.length = cur.length ∧ (W.heap[b]? = w8.heap[b]? → cs = cur) := by
  cases c with
  | zero => exact ⟨cur, Blk.ext hB h, rfl, fun _ => rfl⟩
  | succ c =>
    obtain ⟨W1, h1, W2, h2, h4, h3⟩ := h
    refine ⟨cs1, h4.ext h3, hl, fun e => ?_⟩
    have e2 := (h4.ext h3).symm.trans (e.trans hB)
    simp only [Option.some.injEq, Obj.cells.injEq] at e2
    simpa using e2.1
def SwP (b : Nat) (w8 : World) (x v : Value) (w : World) : Prop := w.heap[b]? = w8.heap[b]? → v = x
theorem SwI.unit {b c i cap : Nat} {cur cs1 : List Value} {us : List UnV} {w8 W : World} (h : SwI b cs1 w8 c W) (hB : Blk w8 b cur 42) (hl : cs1.length = cur.length) (hcl : cur.length = cap * 6) (hn : us.length ≤ cap) (hct : cur.take (us.length * 6) = ucells us) (hi : i < us.length) :
    ∃ cs, Row W ((⟨b, 0, none⟩ : Addr).add ((i : Int).toNat * 6)) cs ∧ cs.length = 6 ∧ (W.heap[b]? = w8.heap[b]? → cs = (us.getD i u0).cells) := by
  obtain ⟨cs, h1, h2, h3⟩ := h.own hB hl
  refine ⟨(cs.drop ((i : Int).toNat * 6)).take 6, (Row.of_blk h1).part _ _, by rw [List.length_take, List.length_drop]; omega, fun e => ?_⟩
  rw [h3 e, Int.toNat_natCast]
  have h4 : (cur.drop (i * 6)).take 6 = ((cur.take (us.length * 6)).drop (i * 6)).take 6 := by
    rw [List.drop_take, List.take_take, Nat.min_eq_left (by omega)]
  rw [h4, hct]
  have := flat_part (us.map UnV.cells) i (us.getD i u0).cells (c := 6) (fun x hx => by obtain ⟨u, _, rfl⟩ := List.mem_map.1 hx; rfl) (by simp [List.getD, hi])
  exact this
theorem O.storeAggAt {C : Cx} {e : Env} {w : World} {K : Value → World → Prop} {d : Option Tmp} {ty : TypeId} {pos : String} {aft : Array Edge} {g : Option (Nat × Bool)} {x y : Operand} {t : TypeId} {b j n : Nat} {cs vs : List Value} {tb : TypeId} (hs : ∀ w, (sizeOf t).run C.P w = .ok n w) (hn : vs.length = n) (hx : ev e x = some (.pointer (some ((⟨b, 0, none⟩ : Addr).add j)))) (hy : ev e y = some (.agg vs.toArray)) (hb : Blk w b cs tb)
    (hfit : j + n ≤ cs.length) (h1 : ∀ u ∈ vs, u.oneCell' = true) (h : ∀ w', Upd b w w' → Blk w' b (cs.take j ++ vs ++ cs.drop (j + n)) tb → K undef w') : O C e ⟨d, .store t x y, ty, pos, aft, g⟩ w K :=
  O.storeAgg (off := 0 + j) hs hn (by rw [hx, add_at]) hy hb (by omega) h1 (by rw [Nat.zero_add]; exact h)
theorem ucells_put : ∀ (us : List UnV) (k : Nat) (u' : UnV), k < us.length → (ucells us).take (k * 6) ++ u'.cells ++ (ucells us).drop (k * 6 + 6) = ucells (us.set k u')
  | [], k, _, h => by simp at h
  | u :: r, 0, u', _ => by
    rw [Nat.zero_mul, List.take_zero, List.nil_append, Nat.zero_add, List.set_cons_zero, ucells_cons, ucells_cons, List.drop_append_of_le_length (by rw [u.cells_len]; omega), List.drop_eq_nil_of_le (by rw [u.cells_len]; omega), List.nil_append]
  | u :: r, k + 1, u', h => by
    have ih := ucells_put r k u' (by simpa using h)
    rw [List.set_cons_succ, ucells_cons, ucells_cons, ← ih, show (k + 1) * 6 = u.cells.length + k * 6 by rw [u.cells_len]; omega, List.take_length_add_append, show u.cells.length + k * 6 + 6 = u.cells.length + (k * 6 + 6) by omega, List.drop_length_add_append]
    simp only [List.append_assoc]
theorem put_take {cur : List Value} {us : List UnV} {k cap : Nat} {u' : UnV} (hcl : cur.length = cap * 6) (hn : us.length ≤ cap) (ht : cur.take (us.length * 6) = ucells us) (hk : k < us.length) :
    (cur.take (k * 6) ++ u'.cells ++ cur.drop (k * 6 + 6)).take ((us.set k u').length * 6) = ucells (us.set k u') ∧ (cur.take (k * 6) ++ u'.cells ++ cur.drop (k * 6 + 6)).length = cap * 6 := by
  have e : cur = ucells us ++ cur.drop (us.length * 6) := by rw [← ht, List.take_append_drop]
  have hll := ucells_len us
  have h1 : cur.take (k * 6) = (ucells us).take (k * 6) := by rw [← ht, List.take_take, Nat.min_eq_left (by omega)]
  have h2 : cur.drop (k * 6 + 6) = (ucells us).drop (k * 6 + 6) ++ cur.drop (us.length * 6) := by
    conv => lhs; rw [e]
    rw [List.drop_append_of_le_length (by omega)]
  constructor
  · rw [h1, h2, ← List.append_assoc, ucells_put us k u' hk]
    have := ucells_len (us.set k u')
    rw [← this, List.take_left]
  · simp only [List.length_append, List.length_take, List.length_drop, u'.cells_len]; omega
theorem lsOf_perm {us vs : List UnV} (h : us.Perm vs) : (lsOf us).Perm (lsOf vs) := h.flatMap_right _
theorem swap_perm {us : List UnV} {i j : Nat} (hi : i < us.length) (hj : j < us.length) : ((us.set i (us.getD j u0)).set j (us.getD i u0)).Perm us := by
  rw [getD_get hi, getD_get hj]; exact List.set_set_perm hi hj
end Go.Proofs.YtpgnaffcbbghgaaDoor
set_option linter.unusedVariables false
set_option linter.unusedSimpArgs false
set_option maxRecDepth 20000
namespace Go.Proofs.YtpgnaffcbbghgaaDoor
open Go Go.E
attribute [local irreducible] Go.E.T Go.E.L Go.E.O Go.E.Ob

attribute [local irreducible] Go.E.ObX Go.E.ObK
theorem Of_calls (lo : Nat) (W A To N : Int) (nm : Str) (r : RoV) (w : World) (hr : r.ok lo w) (hW : Low8 W) (hA : Low8 A) (hT : Low8 To) (hnm : nm.length ≤ 9223372036854775807) :
    Calls Tryd.prog 35 #[.agg (bcells W A To N nm).toArray, r.val] w (Ret fun v w' => Ext w w' ∧ ∃ r', v = RoV.val r' ∧ r'.ok w.heap.size w' ∧ r'.us.length ≤ 67) := by
  refine T.enter (vs := [.agg (bcells W A To N nm).toArray, r.val]) Tryd.func35 rfl Tryd.ntmps35 rfl ?_
  refine T.seq (T.region (L.op rfl rfl (O.box rfl (fun b2 w2 hb2 hz2 he2 hB2 => ?_))))
  refine L.op rfl rfl (O.box rfl (fun b3 w3 hb3 hz3 he3 hB3 => ?_))
  refine L.op rfl rfl (O.alloc Tryd.zeroValue32 (fun b4 w4 hb4 hz4 he4 hB4 => ?_))
  unfold Low8 at hW hA hT
  have he04 := (he2.trans he3).trans he4
  have hN4 : Blk w4 b2 (bcells W A To N nm) 47 := (Blk.ext (cs := bcells W A To N nm) hB2 he3).ext he4
  have hC4 : Blk w4 b3 r.cells 32 := Blk.ext (cs := r.cells) hB3 he4
  have hR4 : Blk w4 b4 zroll 32 := hB4
  have hb2 := hN4.lt
  have hb3 := hC4.lt
  have hb4 := hR4.lt
  refine L.nil (T.seq (T.region (L.op rfl rfl (O.loadAgg Tryd.isAgg32 Tryd.sizeOf32 rfl rfl hC4.row (L.op rfl rfl (O.call (xs := [.tmp 10]) Tryd.call47 rfl rfl (copied_calls lo r w4 (hr.ext he04)) (fun v5 w5 hq => ?_)))))))
  obtain ⟨he5, cv, us, rfl, hS5, hl5⟩ := hq
  have hC5 : Blk w5 b3 [.int .i64 r.G, .int .i64 r.P, .int .i64 r.L, r.uv] 32 := hC4.ext he5
  have hcv1 : cv.oneCell' = true := Sl.one (Sl.of_owns hS5.row)
  refine L.op rfl rfl (O.storeAgg Tryd.sizeOf32 rfl rfl rfl hC5 (Nat.le_refl _) (by intro u hu; simp [RoV.cells] at hu; rcases hu with (rfl|rfl|rfl|rfl); rfl; rfl; rfl; exact hcv1) (fun w6 hu6 hB6 => ?_))
  have hC6 : Blk w6 b3 [.int .i64 r.G, .int .i64 r.P, .int .i64 r.L, cv] 32 := hB6
  replace hu6 : Upd b3 w5 w6 := hu6
  have he06 : Ext w w6 := (he04.trans he5).upd hu6 (.inr (by omega))
  have hS6 : Sk w4.heap.size 15 w6 cv us := ⟨owns_upd hS5.row hu6 hb3, hS5.ls.loc (r := .slice (some ⟨b3, 0, none⟩) 0 0) (Loc.of_upd hu6 rfl) (fun q hq b hb e => by have e' : b3 = b := Option.some.inj e; have := ((hS5.ls.all q hq).lt hb).1; omega), hS5.nm⟩
  have hR6 : Blk w6 b4 zroll 32 := (hR4.ext he5).upd hu6 (by omega)
  have hN6 : Blk w6 b2 (bcells W A To N nm) 47 := (hN4.ext he5).upd hu6 (by omega)
  have hz04 := he04.size
  have hz5 := he5.size
  have hz6 := hu6.size
  have hl66 : us.length ≤ 66 := by rw [hl5]; exact Nat.min_le_right _ _
  refine L.nil (T.seq (T.region (L.op rfl rfl (O.fieldAddr Tryd.runUnderlying32 rfl Tryd.sizeOf30 rfl (L.op rfl rfl (O.load Tryd.isAgg30 rfl (hC6.cell rfl) (L.op rfl rfl (O.len Tryd.runUnderlying30 rfl (Sl.val (Sl.of_owns hS6.row)) (L.op rfl rfl (O.assign rfl (L.nil (T.seq (T.seq (T.region (L.op rfl rfl (O.move rfl (L.op rfl rfl (O.eql_s rfl rfl (fun h0 => ?_) (fun h0 => ?_)))))))))))))))))))
  · refine L.nil (T.cond_true rfl (T.seq (T.region (L.op rfl rfl (O.loadAgg Tryd.isAgg32 Tryd.sizeOf32 rfl rfl hC6.row (L.op rfl rfl (O.storeAgg Tryd.sizeOf32 rfl rfl rfl hR6 (Nat.le_refl _) (by intro u hu; simp at hu; rcases hu with (rfl|rfl|rfl|rfl); rfl; rfl; rfl; exact hcv1) (fun w7 hu7 hB7 => ?_))))))))
    have hR7 : Blk w7 b4 [.int .i64 r.G, .int .i64 r.P, .int .i64 r.L, cv] 32 := hB7
    replace hu7 : Upd b4 w6 w7 := hu7
    have hS7 : Sk w4.heap.size 15 w7 cv us := ⟨owns_upd hS6.row hu7 hb4, hS6.ls.loc (r := .slice (some ⟨b4, 0, none⟩) 0 0) (Loc.of_upd hu7 rfl) (fun q hq b hb e => by have e' : b4 = b := Option.some.inj e; have := ((hS6.ls.all q hq).lt hb).1; omega), hS6.nm⟩
    obtain ⟨us', k1, _, k3⟩ := hS7.units
    refine L.nil (T.retA Tryd.results35 Tryd.isAgg32 Tryd.sizeOf32 rfl rfl hR7.row ⟨he06.upd hu7 (.inr (by omega)), ⟨r.G, r.P, r.L, cv, us'⟩, rfl, Units.mono k3 hz04, by show us'.length ≤ 67; omega⟩)
  · refine L.nil (?_)
    have hpos : 0 < us.length := by omega
    obtain ⟨b, cap, cur, rfl, hb, hB, hnc, hcm, hcl, hct⟩ := hS6.blk (by intro h; rw [h] at hpos; simp at hpos)
    obtain ⟨k, hk⟩ : ∃ k : Nat, A % (us.length : Int) = k := ⟨(A % (us.length : Int)).toNat, by have := Int.emod_nonneg A (show (us.length : Int) ≠ 0 by omega); omega⟩
    have hk2 : k < us.length := by have := Int.emod_lt_of_pos A (show (0 : Int) < us.length by omega); omega
    refine T.cond_false rfl (T.skip (T.seq (?_)))
    refine T.anyE mixed 13 [3, 2, 5] rfl [.is _, .is _, .is _, .is _, .is _, .is _, .is (.int .i64 (k : Nat)), .is _, .is _, .is _, .is _, .such (IntBox w6.heap.size 0), .is _] [[], [0], [], [2], [3], [], [4, 5], [1, 6], [], [8], [9], [], [7]] [[], [0], [], [2], [2, 3], [], [2, 3, 4, 5], [0, 1, 2, 3, 4, 5, 6], [], [8], [8, 9], [], [0, 1, 2, 3, 4, 5, 6, 7, 11], [0, 1, 2, 3, 4, 5, 6, 7, 8, 9, 10, 11, 12]] (by kernel_rfl) (by kernel_rfl) rfl (by kernel_rfl) ⟨IntBox.st, trivial⟩ ⟨fun wx hx => Ob.op rfl (O.fieldAddr Tryd.runUnderlying32 rfl Tryd.sizeOf30 rfl ⟨Keep.refl _ _, rfl⟩),
        fun wx hx => Ob.op rfl (O.load Tryd.isAgg30 rfl ((hC6.ext hx).cell rfl) ⟨Keep.refl _ _, rfl⟩),
        fun wx hx => Ob.op rfl (O.fieldAddr Tryd.runUnderlying47 rfl Tryd.sizeOf5 rfl ⟨Keep.refl _ _, rfl⟩),
        fun wx hx => Ob.op rfl (O.load Tryd.isAgg5 rfl ((hN6.ext hx).cell rfl) ⟨Keep.refl _ _, rfl⟩),
        fun wx hx => Ob.op rfl (O.conv_to rfl (fun w => ⟨_, Tryd.runUnderlying5 w⟩) Tryd.runUnderlying3 (IntWalk.i64_in _ ⟨by omega, by omega⟩) ⟨Keep.refl _ _, rfl⟩),
        fun wx hx => Ob.op rfl (O.move rfl ⟨Keep.refl _ _, rfl⟩),
        fun wx hx => Ob.op rfl (O.rem rfl rfl (by omega) (by omega) ⟨Keep.refl _ _, by rw [hk]; rfl⟩),
        fun wx hx => Ob.op rfl (O.indexAddr Tryd.runUnderlying30 Tryd.sizeOf42 rfl rfl (Sl.of_owns hS6.row) (by omega) (by omega) ⟨Keep.refl _ _, rfl⟩),
        fun wx hx => Ob.op rfl (O.fieldAddr Tryd.runUnderlying47 rfl Tryd.sizeOf5 rfl ⟨Keep.refl _ _, rfl⟩),
        fun wx hx => Ob.op rfl (O.load Tryd.isAgg5 rfl ((hN6.ext hx).cell rfl) ⟨Keep.refl _ _, rfl⟩),
        fun wx hx => Ob.op rfl (O.conv_to rfl (fun w => ⟨_, Tryd.runUnderlying5 w⟩) Tryd.runUnderlying3 (IntWalk.i64_in _ ⟨by omega, by omega⟩) ⟨Keep.refl _ _, rfl⟩),
        fun wx hx => Ob.op rfl (O.alloc Tryd.zeroValue3 (fun b wy hb hz he hB => ⟨he, b, rfl, by have := hx.size; omega, hB⟩)),
        fun wx hx => Ob.op rfl (O.assign rfl ⟨Keep.refl _ _, rfl⟩),
        trivial⟩ (fun w7 he7 v7 hv7 => ?_)
    obtain ⟨b7, rfl, hb7, hB7⟩ := hv7
    refine L.op rfl rfl (O.store1 Tryd.sizeOf3 rfl rfl rfl hB7 (by simp [Value.cells]) (fun w8 hu8 hB8 => ?_))
    replace hu8 : Upd b7 w7 w8 := hu8
    have hz7 := he7.size
    have hz8 := hu8.size
    have hbl := hB.lt
    have hl8 : Loc (.slice (some ⟨b7, 0, none⟩) 0 0) w7 w8 := Loc.of_upd hu8 rfl
    have hS8 : OfS w4.heap.size b b3 b4 b7 cap cur To r.G r.P r.L us w w8 := ⟨(he06.trans he7).upd hu8 (.inr (by omega)), hz04, hb3, hb4, by omega, by omega, hb, (hC6.ext he7).upd hu8 (by omega), (hR6.ext he7).upd hu8 (by omega), hB8, (hB.ext he7).upd hu8 (by omega), ⟨owns_loc (hS6.ext he7).row hl8 (fun b' h1 h2 => by have e1 : b = b' := Option.some.inj h1; have e2 : b7 = b' := Option.some.inj h2; omega), (hS6.ext he7).ls.loc hl8 (fun q hq b' h1 h2 => by have e2 : b7 = b' := Option.some.inj h2; have := ((hS6.ls.all q hq).lt h1).2; omega), hS6.nm⟩, hnc, hcm, hcl, hct, hl66⟩
    have hN8 : Blk w8 b2 (bcells W A To N nm) 47 := (hN6.ext he7).upd hu8 (by omega)
    refine L.nil (T.seq (T.region (L.op rfl rfl (O.makeFunc (fi := []) (ca := [.tmp 2, .tmp 7]) rfl rfl (L.op rfl rfl (O.assign rfl (L.nil (T.seq (T.seq (T.region (L.op rfl rfl (O.fieldAddr Tryd.runUnderlying47 rfl Tryd.sizeOf5 rfl (L.op rfl rfl (O.load Tryd.isAgg5 rfl (hN8.cell rfl) (L.op rfl rfl (O.rem rfl rfl (by omega) (by omega) (L.nil (?_))))))))))))))))))
    refine T.join (σ := Unit) (fun _ => [(3, .pointer (some ⟨b3, 0, none⟩)), (4, .pointer (some ⟨b4, 0, none⟩))]) (fun _ w' => OfI w4.heap.size b3 b4 w w') ?_ ?_
    · refine T.block (T.seq (T.region (L.op rfl rfl (O.eql_s rfl rfl (fun c0 => ?_) (fun c0 => ?_)))))
      · refine L.op rfl rfl (O.assign rfl (L.nil (T.cond_true rfl (T.region (L.op rfl rfl (O.move rfl (L.op rfl rfl (O.fieldAddr Tryd.runUnderlying47 rfl Tryd.sizeOf9 rfl (L.op rfl rfl (O.load Tryd.isAgg9 rfl (hN8.cell rfl) (L.op rfl rfl (O.fieldAddr Tryd.runUnderlying47 rfl Tryd.sizeOf9 rfl (L.op rfl rfl (O.load Tryd.isAgg9 rfl (hN8.cell rfl) (?_)))))))))))))))
        have hm14 := Nat.min_le_left nm.length 14
        refine L.op rfl rfl (O.len_str Tryd.runUnderlying9 rfl (L.op rfl rfl (O.minN (k := 14) rfl rfl (L.op rfl rfl (O.slice_str_h Tryd.runUnderlying9 rfl rfl (by omega) (by rw [Int.toNat_natCast]; omega) (L.op rfl rfl (O.nilCheck rfl (L.op rfl rfl (O.fieldAddr Tryd.runUnderlying42 rfl Tryd.sizeOf9 rfl (L.op rfl rfl (O.store1_at2 Tryd.sizeOf9 rfl rfl rfl hS8.c (hS8.fit hk2 (by decide)) (fun w9 hu9 hB9 => ?_))))))))))))
        refine L.nil (T.blk (T.meet (()) ⟨rfl, rfl, trivial⟩ (hS8.cell hu9 (cellB (j := 0) hB9) hk2 (by decide) (u' := { us.getD k u0 with nm := _ }) rfl rfl (by show (List.take _ nm).length ≤ _; rw [List.length_take]; omega))))
      · refine L.op rfl rfl (O.assign rfl (L.nil (T.cond_false rfl (T.seq (T.region (L.op rfl rfl (O.eql_s rfl rfl (fun c1 => ?_) (fun c1 => ?_))))))))
        · obtain ⟨k2, hk3⟩ : ∃ k2 : Nat, To % (us.length : Int) = k2 := ⟨(To % (us.length : Int)).toNat, by have := Int.emod_nonneg To (show (us.length : Int) ≠ 0 by omega); omega⟩
          have hk4 : k2 < us.length := by have := Int.emod_lt_of_pos To (show (0 : Int) < us.length by omega); omega
          refine L.op rfl rfl (O.assign rfl (L.nil (T.cond_true rfl (?_))))
          refine T.anyE mixed 9 [6, 3, 7, 5] rfl [.is _, .is _, .is _, .is _, .is _, .is (.int .i64 (k2 : Nat)), .is _, .is _, .is _] [[], [], [1], [], [], [3, 4], [2, 5], [6], [7]] [[], [], [1], [], [], [3, 4], [1, 2, 3, 4, 5], [1, 2, 3, 4, 5, 6], [1, 2, 3, 4, 5, 6, 7], [0, 1, 2, 3, 4, 5, 6, 7, 8], [0, 1, 2, 3, 4, 5, 6, 7, 8, 9], [0, 1, 2, 3, 4, 5, 6, 7, 8, 9, 10]] (by kernel_rfl) (by kernel_rfl) rfl (by kernel_rfl) trivial ⟨fun wx hx => Ob.op rfl (O.move rfl ⟨Keep.refl _ _, rfl⟩),
              fun wx hx => Ob.op rfl (O.fieldAddr Tryd.runUnderlying32 rfl Tryd.sizeOf30 rfl ⟨Keep.refl _ _, rfl⟩),
              fun wx hx => Ob.op rfl (O.load Tryd.isAgg30 rfl ((hS8.c3.ext hx).cell rfl) ⟨Keep.refl _ _, rfl⟩),
              fun wx hx => Ob.op rfl (O.load Tryd.isAgg3 rfl ((hS8.c7.ext hx).cell rfl) ⟨Keep.refl _ _, rfl⟩),
              fun wx hx => Ob.op rfl (O.move rfl ⟨Keep.refl _ _, rfl⟩),
              fun wx hx => Ob.op rfl (O.rem rfl rfl (by omega) (by omega) ⟨Keep.refl _ _, by rw [hk3]; rfl⟩),
              fun wx hx => Ob.op rfl (O.indexAddr Tryd.runUnderlying30 Tryd.sizeOf42 rfl rfl (Sl.of_owns hS8.sk.row) (by omega) (by omega) ⟨Keep.refl _ _, rfl⟩),
              fun wx hx => Ob.op rfl (O.fieldAddr Tryd.runUnderlying42 rfl Tryd.sizeOf9 rfl ⟨Keep.refl _ _, rfl⟩),
              fun wx hx => Ob.op rfl (O.load Tryd.isAgg9 rfl (hS8.at (j := 0) (hS8.c.ext hx) hk4 rfl) ⟨Keep.refl _ _, rfl⟩),
              trivial⟩ (fun w9 he9 => ?_)
          have hS9 := hS8.keep he9
          refine L.op rfl rfl (O.nilCheck rfl (L.op rfl rfl (O.fieldAddr Tryd.runUnderlying42 rfl Tryd.sizeOf9 rfl (L.op rfl rfl (O.store1_at2 Tryd.sizeOf9 rfl rfl rfl hS9.c (hS9.fit hk2 (by decide)) (fun w10 hu10 hB10 => ?_))))))
          refine L.nil (T.blk (T.meet (()) ⟨rfl, rfl, trivial⟩ (hS9.cell hu10 (cellB (j := 0) hB10) hk2 (by decide) (u' := { us.getD k u0 with nm := _ }) rfl rfl (hS9.nm hk4))))
        · refine L.op rfl rfl (O.assign rfl (L.nil (T.cond_false rfl (T.seq (T.region (L.op rfl rfl (O.eql_s rfl rfl (fun c2 => ?_) (fun c2 => ?_))))))))
          · refine L.op rfl rfl (O.assign rfl (L.nil (T.cond_true rfl (T.region (L.op rfl rfl (O.move rfl (L.op rfl rfl (O.fieldAddr Tryd.runUnderlying47 rfl Tryd.sizeOf3 rfl (L.op rfl rfl (O.load Tryd.isAgg3 rfl (hN8.cell rfl) (L.op rfl rfl (O.nilCheck rfl (L.op rfl rfl (O.fieldAddr Tryd.runUnderlying42 rfl Tryd.sizeOf3 rfl (L.op rfl rfl (O.store1_at2 Tryd.sizeOf3 rfl rfl rfl hS8.c (hS8.fit hk2 (by decide)) (fun w9 hu9 hB9 => ?_)))))))))))))))))
            refine L.nil (T.blk (T.meet (()) ⟨rfl, rfl, trivial⟩ (hS8.cell hu9 (cellB (j := 1) hB9) hk2 (by decide) (u' := { us.getD k u0 with pp := N }) rfl rfl (hS8.nm hk2))))
          · refine L.op rfl rfl (O.assign rfl (L.nil (T.cond_false rfl (T.seq (T.region (L.op rfl rfl (O.eql_s rfl rfl (fun c3 => ?_) (fun c3 => ?_))))))))
            · refine L.op rfl rfl (O.assign rfl (L.nil (T.cond_true rfl (T.region (L.op rfl rfl (O.move rfl (L.op rfl rfl (O.move rfl (L.op rfl rfl (O.nilCheck rfl (L.op rfl rfl (O.fieldAddr Tryd.runUnderlying42 rfl Tryd.sizeOf37 rfl (L.op rfl rfl (O.load Tryd.isAgg37 rfl (hS8.at hS8.c hk2 rfl) (L.op rfl rfl (O.call (xs := [.tmp 71]) Tryd.call48 rfl rfl (set_calls w4.heap.size 15 b2 b7 W A To N nm (us.getD k u0).gv w8 (hS8.mem hk2 _ (by simp [UnV.ls])) hN8 hS8.c7 hT.1) (fun v9 w9 hq => ?_)))))))))))))))))
              obtain ⟨rfl, hl9, hO9⟩ := hq
              refine L.nil (T.blk (T.meet (()) ⟨rfl, rfl, trivial⟩ (hS8.list hl9 (split_g us hk2) (hO9.mono (Nat.le_refl _) (by decide)))))
            · refine L.op rfl rfl (O.assign rfl (L.nil (T.cond_false rfl (T.seq (T.region (L.op rfl rfl (O.eql_s rfl rfl (fun c4 => ?_) (fun c4 => ?_))))))))
              · refine L.op rfl rfl (O.assign rfl (L.nil (T.cond_true rfl (T.region (L.op rfl rfl (O.move rfl (L.op rfl rfl (O.move rfl (L.op rfl rfl (O.nilCheck rfl (L.op rfl rfl (O.fieldAddr Tryd.runUnderlying42 rfl Tryd.sizeOf37 rfl (L.op rfl rfl (O.load Tryd.isAgg37 rfl (hS8.at hS8.c hk2 rfl) (L.op rfl rfl (O.call (xs := [.tmp 79]) Tryd.call48 rfl rfl (set_calls w4.heap.size 15 b2 b7 W A To N nm (us.getD k u0).vv w8 (hS8.mem hk2 _ (by simp [UnV.ls])) hN8 hS8.c7 hT.1) (fun v9 w9 hq => ?_)))))))))))))))))
                obtain ⟨rfl, hl9, hO9⟩ := hq
                refine L.nil (T.blk (T.meet (()) ⟨rfl, rfl, trivial⟩ (hS8.list hl9 (split_v us hk2) (hO9.mono (Nat.le_refl _) (by decide)))))
              · refine L.op rfl rfl (O.assign rfl (L.nil (T.cond_false rfl (T.seq (T.region (L.op rfl rfl (O.eql_s rfl rfl (fun c5 => ?_) (fun c5 => ?_))))))))
                · refine L.op rfl rfl (O.assign rfl (L.nil (T.cond_true rfl (T.region (L.op rfl rfl (O.move rfl (L.op rfl rfl (O.move rfl (L.op rfl rfl (O.nilCheck rfl (L.op rfl rfl (O.fieldAddr Tryd.runUnderlying42 rfl Tryd.sizeOf37 rfl (L.op rfl rfl (O.load Tryd.isAgg37 rfl (hS8.at hS8.c hk2 rfl) (L.op rfl rfl (O.call (xs := [.tmp 87]) Tryd.call48 rfl rfl (set_calls w4.heap.size 15 b2 b7 W A To N nm (us.getD k u0).pv w8 (hS8.mem hk2 _ (by simp [UnV.ls])) hN8 hS8.c7 hT.1) (fun v9 w9 hq => ?_)))))))))))))))))
                  obtain ⟨rfl, hl9, hO9⟩ := hq
                  refine L.nil (T.blk (T.meet (()) ⟨rfl, rfl, trivial⟩ (hS8.list hl9 (split_p us hk2) (hO9.mono (Nat.le_refl _) (by decide)))))
                · refine L.op rfl rfl (O.assign rfl (L.nil (T.cond_false rfl (T.seq (T.region (L.op rfl rfl (O.eql_s rfl rfl (fun c6 => ?_) (fun c6 => ?_))))))))
                  · refine L.op rfl rfl (O.assign rfl (L.nil (T.cond_true rfl (T.region (L.op rfl rfl (O.move rfl (L.op rfl rfl (O.move rfl (L.op rfl rfl (O.nilCheck rfl (L.op rfl rfl (O.fieldAddr Tryd.runUnderlying42 rfl Tryd.sizeOf4 rfl (L.op rfl rfl (O.load Tryd.isAgg4 rfl (hS8.at hS8.c hk2 rfl) (L.op rfl rfl (O.not rfl (L.op rfl rfl (O.nilCheck rfl (L.op rfl rfl (O.fieldAddr Tryd.runUnderlying42 rfl Tryd.sizeOf4 rfl (L.op rfl rfl (O.store1_at2 Tryd.sizeOf4 rfl rfl rfl hS8.c (hS8.fit hk2 (by decide)) (fun w9 hu9 hB9 => ?_)))))))))))))))))))))))
                    refine L.nil (T.blk (T.meet (()) ⟨rfl, rfl, trivial⟩ (hS8.cell hu9 (cellB (j := 5) hB9) hk2 (by decide) (u' := { us.getD k u0 with wt := !(us.getD k u0).wt }) rfl rfl (hS8.nm hk2))))
                  · refine L.op rfl rfl (O.assign rfl (L.nil (T.cond_false rfl (T.seq (T.region (L.op rfl rfl (O.eql_s rfl rfl (fun c7 => ?_) (fun c7 => ?_))))))))
                    · refine L.op rfl rfl (O.assign rfl (L.nil (T.cond_true rfl (T.region (L.op rfl rfl (O.fieldAddr Tryd.runUnderlying47 rfl Tryd.sizeOf3 rfl (L.op rfl rfl (O.load Tryd.isAgg3 rfl (hN8.cell rfl) (L.op rfl rfl (O.fieldAddr Tryd.runUnderlying32 rfl Tryd.sizeOf3 rfl (L.op rfl rfl (O.store1 Tryd.sizeOf3 rfl rfl rfl hS8.c3 (by simp [Value.cells]) (fun w9 hu9 hB9 => ?_)))))))))))))
                      refine L.nil (T.blk (T.meet (()) ⟨rfl, rfl, trivial⟩ (hS8.roll hu9 hB9)))
                    · refine L.op rfl rfl (O.assign rfl (L.nil (T.cond_false rfl (T.seq (T.region (L.op rfl rfl (O.eql_s rfl rfl (fun c8 => ?_) (fun c8 => ?_))))))))
                      · refine L.op rfl rfl (O.assign rfl (L.nil (T.cond_true rfl (T.region (L.op rfl rfl (O.fieldAddr Tryd.runUnderlying47 rfl Tryd.sizeOf3 rfl (L.op rfl rfl (O.load Tryd.isAgg3 rfl (hN8.cell rfl) (L.op rfl rfl (O.fieldAddr Tryd.runUnderlying32 rfl Tryd.sizeOf3 rfl (L.op rfl rfl (O.store1 Tryd.sizeOf3 rfl rfl rfl hS8.c3 (by simp [Value.cells]) (fun w9 hu9 hB9 => ?_)))))))))))))
                        refine L.nil (T.blk (T.meet (()) ⟨rfl, rfl, trivial⟩ (hS8.roll hu9 hB9)))
                      · refine L.op rfl rfl (O.assign rfl (L.nil (T.cond_false rfl (T.seq (T.region (L.op rfl rfl (O.eql_s rfl rfl (fun c9 => ?_) (fun c9 => ?_))))))))
                        · refine L.op rfl rfl (O.assign rfl (L.nil (T.cond_true rfl (T.region (L.op rfl rfl (O.fieldAddr Tryd.runUnderlying47 rfl Tryd.sizeOf3 rfl (L.op rfl rfl (O.load Tryd.isAgg3 rfl (hN8.cell rfl) (L.op rfl rfl (O.fieldAddr Tryd.runUnderlying32 rfl Tryd.sizeOf3 rfl (L.op rfl rfl (O.store1 Tryd.sizeOf3 rfl rfl rfl hS8.c3 (by simp [Value.cells]) (fun w9 hu9 hB9 => ?_)))))))))))))
                          refine L.nil (T.blk (T.meet (()) ⟨rfl, rfl, trivial⟩ (hS8.roll hu9 hB9)))
                        · refine L.op rfl rfl (O.assign rfl (L.nil (T.cond_false rfl (T.seq (T.region (L.op rfl rfl (O.eql_s rfl rfl (fun c10 => ?_) (fun c10 => ?_))))))))
                          · refine L.op rfl rfl (O.assign rfl (L.nil (T.cond_true rfl (T.region (L.op rfl rfl (O.move rfl (L.op rfl rfl (O.move rfl (L.op rfl rfl (O.nilCheck rfl (L.op rfl rfl (O.fieldAddr Tryd.runUnderlying42 rfl Tryd.sizeOf37 rfl (L.op rfl rfl (O.load Tryd.isAgg37 rfl (hS8.at hS8.c hk2 rfl) (L.op rfl rfl (O.buildSlice (el := 3) (parts := [(0, .const (.int .i64 0))]) (vs := [(0, _)]) (cs := [.int .i64 0]) rfl (fun w => by kernel_rfl) (fun b9 w9 hb9 hz9 he9 hB9 => ?_)))))))))))))))))
                            have hS9 := hS8.keep he9
                            have hz9 := he9.size
                            have hq9 := hS9.mem hk2 (us.getD k u0).gv (by simp [UnV.ls])
                            obtain ⟨xs, hx1, hx2⟩ := hq9
                            refine L.op rfl rfl (O.appendF (size := 1) (bytes := 8) Tryd.runUnderlying37 Tryd.infoOf3 rfl rfl rfl rfl (by decide) rfl rfl hx2 rfl hB9.row (by intro c hc; simp at hc; simp [hc, Value.oneCell']) (by omega) (by simp only [maxLen]; omega) (by omega) (fun v10 w10 hO10 hG10 hF10 => ?_))
                            have hc10 := (Loc.of_grown hG10).blk hS9.c (OwnX.ne_unit ⟨xs, hx1, hx2⟩ hS9.c)
                            refine L.op rfl rfl (O.nilCheck rfl (L.op rfl rfl (O.fieldAddr Tryd.runUnderlying42 rfl Tryd.sizeOf37 rfl (L.op rfl rfl (O.store1_at2 Tryd.sizeOf37 (Sl.one (Sl.of_owns hO10)) rfl rfl hc10 (hS9.fit hk2 (by decide)) (fun w11 hu11 hB11 => ?_))))))
                            refine L.nil (T.blk (T.meet (()) ⟨rfl, rfl, trivial⟩ (hS9.swap (u' := { us.getD k u0 with gv := v10 }) (Loc.of_grown hG10) (split_g us hk2) (by rw [lsOf_set hk2]; rfl) ⟨xs ++ [0], by simp; omega, by simpa [OwnL] using hO10⟩ hF10 hu11 (cellB (j := 2) hB11) hk2 (by decide) rfl (hS9.nm hk2))))
                          · refine L.op rfl rfl (O.assign rfl (L.nil (T.cond_false rfl (T.seq (T.region (L.op rfl rfl (O.eql_s rfl rfl (fun c11 => ?_) (fun c11 => ?_))))))))
                            · refine L.op rfl rfl (O.assign rfl (L.nil (T.cond_true rfl (T.region (L.op rfl rfl (O.move rfl (L.op rfl rfl (O.move rfl (L.op rfl rfl (O.nilCheck rfl (L.op rfl rfl (O.fieldAddr Tryd.runUnderlying42 rfl Tryd.sizeOf37 rfl (L.op rfl rfl (O.load Tryd.isAgg37 rfl (hS8.at hS8.c hk2 rfl) (?_)))))))))))))))
                              have hq8 := hS8.mem hk2 (us.getD k u0).vv (by simp [UnV.ls])
                              obtain ⟨xs, hI8⟩ := hq8.ints
                              refine L.op rfl rfl (O.cutH (m := 0) Tryd.runUnderlying37 Tryd.sizeOf3 rfl rfl hI8 (Nat.zero_le _) (?_))
                              have hq0 : OwnX w4.heap.size 16 (cutH (us.getD k u0).vv 0) w8 := (OwnX.cut hq8 (fun _ _ => Nat.zero_le _) (.inl rfl)).mono (Nat.le_refl _) (by decide)
                              refine L.op rfl rfl (O.nilCheck rfl (L.op rfl rfl (O.fieldAddr Tryd.runUnderlying42 rfl Tryd.sizeOf37 rfl (L.op rfl rfl (O.store1_at2 Tryd.sizeOf37 (OwnX.one hq0) rfl rfl hS8.c (hS8.fit hk2 (by decide)) (fun w9 hu9 hB9 => ?_))))))
                              refine L.nil (T.blk (T.meet (()) ⟨rfl, rfl, trivial⟩ (hS8.swap (u' := { us.getD k u0 with vv := cutH (us.getD k u0).vv 0 }) (Loc.of_ext (Keep.refl _ _)) (split_v us hk2) (by rw [lsOf_set hk2]; simp [UnV.ls]) hq0 (fun b hb => .inl (by rw [own_cutH] at hb; exact hb)) hu9 (cellB (j := 3) hB9) hk2 (by decide) rfl (hS8.nm hk2))))
                            · refine L.op rfl rfl (O.assign rfl (L.nil (T.cond_false rfl (T.seq (T.region (L.op rfl rfl (O.eql_s rfl rfl (fun c12 => ?_) (fun c12 => ?_))))))))
                              · obtain ⟨us3, hl3, hm3, hU3⟩ := hS8.sk.units
                                obtain ⟨k2, hk3⟩ : ∃ k2 : Nat, To % (us.length : Int) = k2 := ⟨(To % (us.length : Int)).toNat, by have := Int.emod_nonneg To (show (us.length : Int) ≠ 0 by omega); omega⟩
                                have hk4 : k2 < us.length := by have := Int.emod_lt_of_pos To (show (0 : Int) < us.length by omega); omega
                                refine L.op rfl rfl (O.assign rfl (L.nil (T.cond_true rfl (T.seq (?_)))))
                                refine T.anyE mixed 11 [3, 7, 5] rfl [.is _, .is _, .is _, .such (CpV w8.heap.size us.length), .such (CpU w8.heap.size us.length), .is _, .is _, .is (.int .i64 (k2 : Nat)), .such (CpP w8.heap.size), .such (CpX w8.heap.size), .such (CpL w8.heap.size)] [[], [0], [], [2], [3], [], [], [5, 6], [4, 7], [8], [9]] [[], [0], [], [2], [2, 3], [], [], [5, 6], [2, 3, 4, 5, 6, 7], [2, 3, 4, 5, 6, 7, 8], [2, 3, 4, 5, 6, 7, 8, 9], [0, 1, 2, 3, 4, 5, 6, 7, 8, 9, 10], [0, 1, 2, 3, 4, 5, 6, 7, 8, 9, 10, 11], [0, 1, 2, 3, 4, 5, 6, 7, 8, 9, 10, 11, 12]] (by kernel_rfl) (by kernel_rfl) rfl (by kernel_rfl) ⟨CpV.st, CpU.st, CpP.st, CpX.st, CpL.st, trivial⟩ ⟨fun wx hx => Ob.op rfl (O.fieldAddr Tryd.runUnderlying32 rfl Tryd.sizeOf30 rfl ⟨Keep.refl _ _, rfl⟩),
                                    fun wx hx => Ob.op rfl (O.load Tryd.isAgg30 rfl ((hS8.c3.ext hx).cell rfl) ⟨Keep.refl _ _, rfl⟩),
                                    fun wx hx => Ob.op rfl (O.loadAgg Tryd.isAgg32 Tryd.sizeOf32 rfl rfl ((hS8.c3.ext hx).row) ⟨Keep.refl _ _, rfl⟩),
                                    fun wx hx => Ob.op rfl (O.call (xs := [.tmp 139]) Tryd.call47 rfl rfl (copied_calls w4.heap.size ⟨r.G, r.P, r.L, .slice (some ⟨b, 0, none⟩) us.length cap, us3⟩ wx (Units.ext hU3 hx)) (fun v wy h => (by obtain ⟨hA1, cv2, us2, rfl, hA2, hA3⟩ := h; exact ⟨hA1, ⟨_, rfl, hA2.mono hx.size (Nat.le_refl _), by rw [hA3]; show min us3.length 66 = _; omega⟩⟩))),
                                    fun wx hx v140 hv140 => by { obtain ⟨r2, rfl, hS2, hl2⟩ := hv140; exact Ob.op rfl (O.field Tryd.runUnderlying32 rfl Tryd.isAgg30 rfl rfl ⟨Keep.refl _ _, ⟨r2.us, hS2, hl2⟩⟩) },
                                    fun wx hx => Ob.op rfl (O.load Tryd.isAgg3 rfl ((hS8.c7.ext hx).cell rfl) ⟨Keep.refl _ _, rfl⟩),
                                    fun wx hx => Ob.op rfl (O.move rfl ⟨Keep.refl _ _, rfl⟩),
                                    fun wx hx => Ob.op rfl (O.rem rfl rfl (by omega) (by omega) ⟨Keep.refl _ _, by rw [hk3]; rfl⟩),
                                    fun wx hx v141 hv141 => by { obtain ⟨us2, hS2, hl2⟩ := hv141; exact Ob.op rfl (O.indexAddr Tryd.runUnderlying30 Tryd.sizeOf42 rfl rfl (Sl.of_owns hS2.row) (by omega) (by omega) ⟨Keep.refl _ _, ⟨_, us2.getD k2 u0, rfl, (sk_elem hS2 (by omega)).1, (sk_elem hS2 (by omega)).2⟩⟩) },
                                    fun wx hx v145 hv145 => by { obtain ⟨ad, u, rfl, hRow, hOne⟩ := hv145; exact Ob.op rfl (O.loadAgg Tryd.isAgg42 Tryd.sizeOf42 rfl rfl hRow ⟨Keep.refl _ _, ⟨u, rfl, hOne⟩⟩) },
                                    fun wx hx v146 hv146 => by { obtain ⟨u, rfl, hOne⟩ := hv146; exact Ob.op rfl (O.buildSlice (el := 42) (parts := [(0, .tmp 146)]) (vs := [(0, _)]) (cs := u.cells) rfl (fun w => by kernel_rfl) (fun b77 w77 hb77 hz77 he77 hB77 => ⟨he77, ⟨b77, u, rfl, hB77, hOne.1.ext he77, hOne.2⟩⟩)) },
                                    trivial⟩ (fun w9 he9 v140 hv140 v141 hv141 v145 hv145 v146 hv146 v147 hv147 => ?_)
                                obtain ⟨bL, u, rfl, hBL, hOne⟩ := hv147
                                have hS9 := hS8.keep he9
                                have hz9 := he9.size
                                refine L.op rfl rfl (O.append (size := 6) (bytes := 104) Tryd.runUnderlying30 Tryd.infoOf42 rfl rfl rfl rfl (by decide) rfl rfl hS9.sk.row (Sl.of_blk (lo := 0) (n := 1) (sz := 6) hBL rfl (Nat.le_refl _) (by decide) (Nat.zero_le _)) (CpOne.one hOne) (by omega) (by simp only [maxLen]; omega) (by omega) (fun v10 w10 hO10 hG10 => ?_))
                                have hS10 : Sk w4.heap.size 15 w10 v10 (us ++ [u]) := hS9.sk.snoc (m := w8.heap.size) (hOne.1.mono (by omega) (Nat.le_refl _)) hOne.2 (fun q hq b hb => ((hS8.sk.ls.all q hq).lt hb).2) (fun q hq b hb => ((hOne.1.all q hq).lt hb).1) hO10 hG10
                                have hC10 := hS9.c3.grown hG10 (fun j hj => by have e1 : b = j := Option.some.inj hj; omega)
                                have hR10 := hS9.c4.grown hG10 (fun j hj => by have e1 : b = j := Option.some.inj hj; omega)
                                have hE10 : Ext w w10 := Keep.grown hS9.ext hG10 (fun j hj => by have e1 : b = j := Option.some.inj hj; omega)
                                have hv10 : v10.oneCell' = true := Sl.one (Sl.of_owns hO10)
                                refine L.op rfl rfl (O.fieldAddr Tryd.runUnderlying32 rfl Tryd.sizeOf30 rfl (L.op rfl rfl (O.store1 Tryd.sizeOf30 hv10 rfl rfl hC10 (by simp [Value.cells]) (fun w11 hu11 hB11 => ?_))))
                                have hC11 : Blk w11 b3 [.int .i64 r.G, .int .i64 r.P, .int .i64 r.L, v10] 32 := hB11
                                replace hu11 : Upd b3 w10 w11 := hu11
                                have hS11 : Sk w4.heap.size 15 w11 v10 (us ++ [u]) := ⟨owns_upd hS10.row hu11 hb3, hS10.ls.loc (r := .slice (some ⟨b3, 0, none⟩) 0 0) (Loc.of_upd hu11 rfl) (fun q hq b hb e => by have e' : b3 = b := Option.some.inj e; have := ((hS10.ls.all q hq).lt hb).1; omega), hS10.nm⟩
                                obtain ⟨b', cap', cur', hv', hb', hB', hn', hm', hc', ht'⟩ := hS11.blk (by simp)
                                subst hv'
                                have hlen' : (us ++ [u]).length = us.length + 1 := by simp
                                refine L.nil (T.region (L.op rfl rfl (O.fieldAddr Tryd.runUnderlying32 rfl Tryd.sizeOf30 rfl (L.op rfl rfl (O.load Tryd.isAgg30 rfl (hC11.cell rfl) (L.op rfl rfl (O.move rfl (L.op rfl rfl (O.indexAddr Tryd.runUnderlying30 Tryd.sizeOf42 rfl rfl (Sl.of_owns hS11.row) (by omega) (by omega) (L.op rfl rfl (O.fieldAddr Tryd.runUnderlying42 rfl Tryd.sizeOf9 rfl (L.op rfl rfl (O.store1_at2 Tryd.sizeOf9 rfl rfl rfl hB' (by show 0 + ((us.length : Int).toNat * 6 + 0) < cur'.length; omega) (fun w12 hu12 hB12 => ?_))))))))))))))
                                refine L.nil (T.blk (T.meet (()) ⟨rfl, rfl, trivial⟩ (Sk.ofI ((hE10.upd hu11 (.inr (by omega))).upd hu12 (.inr (by omega))) ((hR10.upd hu11 (by omega)).upd hu12 (by show b4 ≠ b'; omega)) (hC11.upd hu12 (by show b3 ≠ b'; omega)) ((hS11.setC hb' hB' hn' hm' hc' ht' hu12 (cellB (j := 0) hB12) (k := us.length) (by omega) (by decide) (u' := { (us ++ [u]).getD us.length u0 with nm := [110, 101, 119] }) rfl rfl (by show ([110, 101, 119] : Str).length ≤ _; decide)).mono (Nat.le_refl _) (by decide)) (by rw [List.length_set]; omega))))
                              · refine L.op rfl rfl (O.assign rfl (L.nil (T.cond_false rfl (T.seq (T.region (L.op rfl rfl (O.eql_s rfl rfl (fun c13 => ?_) (fun c13 => ?_))))))))
                                · refine L.op rfl rfl (O.assign rfl (L.nil (T.cond_true rfl (?_))))
                                  refine T.anyE mixed 13 [3, 2, 5] rfl [.is _, .is _, .is _, .is _, .is _, .is _, .is (.int .i64 (k : Nat)), .is _, .is _, .is _, .is _, .is (.int .i64 (k : Nat)), .is _] [[], [0], [], [2], [3], [], [4, 5], [], [7], [8], [], [9, 10], [11]] [[], [0], [], [2], [2, 3], [], [2, 3, 4, 5], [], [7], [7, 8], [], [7, 8, 9, 10], [7, 8, 9, 10, 11], [0, 1, 2, 3, 4, 5, 6, 7, 8, 9, 10, 11, 12], [0, 1, 2, 3, 4, 5, 6, 7, 8, 9, 10, 11, 12, 13], [0, 1, 2, 3, 4, 5, 6, 7, 8, 9, 10, 11, 12, 13, 14]] (by kernel_rfl) (by kernel_rfl) rfl (by kernel_rfl) trivial ⟨fun wx hx => Ob.op rfl (O.fieldAddr Tryd.runUnderlying32 rfl Tryd.sizeOf30 rfl ⟨Keep.refl _ _, rfl⟩),
                                      fun wx hx => Ob.op rfl (O.load Tryd.isAgg30 rfl ((hS8.c3.ext hx).cell rfl) ⟨Keep.refl _ _, rfl⟩),
                                      fun wx hx => Ob.op rfl (O.fieldAddr Tryd.runUnderlying47 rfl Tryd.sizeOf5 rfl ⟨Keep.refl _ _, rfl⟩),
                                      fun wx hx => Ob.op rfl (O.load Tryd.isAgg5 rfl ((hN8.ext hx).cell rfl) ⟨Keep.refl _ _, rfl⟩),
                                      fun wx hx => Ob.op rfl (O.conv_to rfl (fun w => ⟨_, Tryd.runUnderlying5 w⟩) Tryd.runUnderlying3 (IntWalk.i64_in _ ⟨by omega, by omega⟩) ⟨Keep.refl _ _, rfl⟩),
                                      fun wx hx => Ob.op rfl (O.move rfl ⟨Keep.refl _ _, rfl⟩),
                                      fun wx hx => Ob.op rfl (O.rem rfl rfl (by omega) (by omega) ⟨Keep.refl _ _, by rw [hk]; rfl⟩),
                                      fun wx hx => Ob.op rfl (O.fieldAddr Tryd.runUnderlying47 rfl Tryd.sizeOf5 rfl ⟨Keep.refl _ _, rfl⟩),
                                      fun wx hx => Ob.op rfl (O.load Tryd.isAgg5 rfl ((hN8.ext hx).cell rfl) ⟨Keep.refl _ _, rfl⟩),
                                      fun wx hx => Ob.op rfl (O.conv_to rfl (fun w => ⟨_, Tryd.runUnderlying5 w⟩) Tryd.runUnderlying3 (IntWalk.i64_in _ ⟨by omega, by omega⟩) ⟨Keep.refl _ _, rfl⟩),
                                      fun wx hx => Ob.op rfl (O.move rfl ⟨Keep.refl _ _, rfl⟩),
                                      fun wx hx => Ob.op rfl (O.rem rfl rfl (by omega) (by omega) ⟨Keep.refl _ _, by rw [hk]; rfl⟩),
                                      fun wx hx => Ob.op rfl (O.add64 rfl rfl (by omega) ⟨Keep.refl _ _, rfl⟩),
                                      trivial⟩ (fun w9 he9 => ?_)
                                  have hS9 := hS8.keep he9
                                  refine L.op rfl rfl (O.call (xs := [.tmp 158, .tmp 163, .tmp 169]) Tryd.call49 rfl rfl (deleteU_calls w4.heap.size 15 k _ us w9 hS9.sk hk2 (by omega)) (fun v10 w10 hq => ?_))
                                  obtain ⟨hl10, hS10, hob10⟩ := hq
                                  have hv10 : v10.oneCell' = true := Sl.one (Sl.of_owns hS10.row)
                                  have hne : ∀ x, x < w4.heap.size → (Value.slice (some ⟨b, 0, none⟩) us.length cap).ownBlock ≠ some x := fun x hx e => by have e' : b = x := Option.some.inj e; omega
                                  have hC10 := hl10.blk hS9.c3 (hne _ hb3)
                                  have hR10 := hl10.blk hS9.c4 (hne _ hb4)
                                  have hE10 : Ext w w10 := hl10.keep hS9.ext (fun x e => by have e' : b = x := Option.some.inj e; omega)
                                  refine L.op rfl rfl (O.fieldAddr Tryd.runUnderlying32 rfl Tryd.sizeOf30 rfl (L.op rfl rfl (O.store1 Tryd.sizeOf30 hv10 rfl rfl hC10 (by simp [Value.cells]) (fun w11 hu11 hB11 => ?_))))
                                  replace hu11 : Upd b3 w10 w11 := hu11
                                  have hS11 : Sk w4.heap.size 15 w11 v10 (us.take k ++ us.drop (k + 1)) := ⟨owns_upd hS10.row hu11 hb3, hS10.ls.loc (r := .slice (some ⟨b3, 0, none⟩) 0 0) (Loc.of_upd hu11 rfl) (fun q hq b hb e => by have e' : b3 = b := Option.some.inj e; have := ((hS10.ls.all q hq).lt hb).1; omega), hS10.nm⟩
                                  refine L.nil (T.blk (T.meet (()) ⟨rfl, rfl, trivial⟩ (Sk.ofI (hE10.upd hu11 (.inr (by omega))) (hR10.upd hu11 (by omega)) hB11 (hS11.mono (Nat.le_refl _) (by decide)) (by rw [List.length_append, List.length_take, List.length_drop]; omega))))
                                · refine L.op rfl rfl (O.assign rfl (L.nil (T.cond_false rfl (T.seq (T.region (L.op rfl rfl (O.eql_s rfl rfl (fun c14 => ?_) (fun c14 => ?_))))))))
                                  · obtain ⟨m, hm⟩ : ∃ m : Nat, us.length = m + 1 := ⟨us.length - 1, by omega⟩
                                    have hcs1 := put_take (u' := us.getD m u0) hcl hnc hct (k := 0) hpos
                                    obtain ⟨cs1, hcs⟩ : ∃ cs1, cs1 = cur.take (0 * 6) ++ (us.getD m u0).cells ++ cur.drop (0 * 6 + 6) := ⟨_, rfl⟩
                                    rw [← hcs] at hcs1
                                    have hl1 : cs1.length = cur.length := by rw [hcs1.2, hcl]
                                    have hx0 : ∀ i, i < us.length → ∀ c ∈ (us.getD i u0).cells, c.oneCell' = true := fun i hi => hS8.sk.one _ (by rw [getD_get hi]; exact List.getElem_mem hi)
                                    have hb38 : b3 ≠ b := by omega
                                    refine L.op rfl rfl (O.assign rfl (L.nil (T.cond_true rfl (?_))))
                                    refine T.anyF mixed 18 1 [3, 5] rfl [.is _, .is _, .is _, .is _, .is _, .is _, .is _, .is _, .is _, .is (.int .i64 (m : Nat)), .is _, .such (SwP b w8 (us.getD m u0).val), .is _, .is _, .is _, .such (SwP b w8 (us.getD 0 u0).val), .is _, .is undef] [[], [0], [], [2], [], [4], [], [6], [], [8], [7, 9], [10], [], [12], [13], [14], [1], [16, 11, 15]] [none, none, none, none, none, none, none, none, none, none, none, none, none, none, none, none, none, some 0] [[], [0], [], [2], [], [4], [], [6], [], [8], [6, 7, 8, 9], [6, 7, 8, 9, 10], [], [12], [12, 13], [12, 13, 14], [0, 1, 6, 7, 8, 9, 10, 11, 12, 13, 14, 15], [0, 1, 6, 7, 8, 9, 10, 11, 12, 13, 14, 15, 16], [0, 1, 2, 3, 4, 5, 6, 7, 8, 9, 10, 11, 12, 13, 14, 15, 16, 17], [0, 1, 2, 3, 4, 5, 6, 7, 8, 9, 10, 11, 12, 13, 14, 15, 16, 17, 18]] [] [(17, 15, 189)] (fun _ _ u _ _ => u = (us.getD 0 u0).val) (SwI b cs1 w8) (fun W W' => W'.heap[b]? = w8.heap[b]? → W.heap[b]? = w8.heap[b]?) (fun i f v w hi hf hh => by simp at hi) (fun i j vi vj W W' hr h => h) (by kernel_rfl) (by kernel_rfl) (by kernel_rfl) (by kernel_rfl) rfl ⟨fun v w w' hr h e => h (hr e), fun v w w' hr h e => h (hr e), trivial⟩ (Keep.drew _ _) ⟨fun c wx hx => ObX.op rfl (O.fieldAddr Tryd.runUnderlying32 rfl Tryd.sizeOf30 rfl ⟨⟨(fun h => h), hx⟩, rfl, trivial, trivial⟩),
                                        fun c wx hx => ObX.op rfl (O.load Tryd.isAgg30 rfl ((hx.blk hb38 hS8.c3).cell rfl) ⟨⟨(fun h => h), hx⟩, rfl, trivial, trivial⟩),
                                        fun c wx hx => ObX.op rfl (O.fieldAddr Tryd.runUnderlying32 rfl Tryd.sizeOf30 rfl ⟨⟨(fun h => h), hx⟩, rfl, trivial, trivial⟩),
                                        fun c wx hx => ObX.op rfl (O.load Tryd.isAgg30 rfl ((hx.blk hb38 hS8.c3).cell rfl) ⟨⟨(fun h => h), hx⟩, rfl, trivial, trivial⟩),
                                        fun c wx hx => ObX.op rfl (O.move rfl ⟨⟨(fun h => h), hx⟩, rfl, trivial, trivial⟩),
                                        fun c wx hx => ObX.op rfl (O.sub64 rfl rfl (by omega) ⟨⟨(fun h => h), hx⟩, rfl, trivial, trivial⟩),
                                        fun c wx hx => ObX.op rfl (O.fieldAddr Tryd.runUnderlying32 rfl Tryd.sizeOf30 rfl ⟨⟨(fun h => h), hx⟩, rfl, trivial, trivial⟩),
                                        fun c wx hx => ObX.op rfl (O.load Tryd.isAgg30 rfl ((hx.blk hb38 hS8.c3).cell rfl) ⟨⟨(fun h => h), hx⟩, rfl, trivial, trivial⟩),
                                        fun c wx hx => ObX.op rfl (O.move rfl ⟨⟨(fun h => h), hx⟩, rfl, trivial, trivial⟩),
                                        fun c wx hx => ObX.op rfl (O.sub64 rfl rfl (by omega) (and3 ⟨⟨fun h => h, hx⟩, by show Value.int .i64 ((us.length : Int) - 1) = .int .i64 (m : Int); rw [show (us.length : Int) - 1 = m by omega]⟩ ⟨trivial, trivial⟩)),
                                        fun c wx hx => ObX.op rfl (O.indexAddr Tryd.runUnderlying30 Tryd.sizeOf42 rfl rfl (Sl.of_owns hS8.sk.row) (by omega) (by omega) ⟨⟨(fun h => h), hx⟩, rfl, trivial, trivial⟩),
                                        fun c wx hx => by { obtain ⟨cs, hcsr, hcsl, hcsi⟩ := hx.unit hS8.c hl1 hcl hnc hct (show m < us.length by omega); exact ObX.op rfl (O.loadAgg Tryd.isAgg42 Tryd.sizeOf42 hcsl rfl hcsr (and3 ⟨⟨fun h => h, hx⟩, fun h => by rw [hcsi h]; rfl⟩ ⟨trivial, trivial⟩)) },
                                        fun c wx hx => ObX.op rfl (O.fieldAddr Tryd.runUnderlying32 rfl Tryd.sizeOf30 rfl ⟨⟨(fun h => h), hx⟩, rfl, trivial, trivial⟩),
                                        fun c wx hx => ObX.op rfl (O.load Tryd.isAgg30 rfl ((hx.blk hb38 hS8.c3).cell rfl) ⟨⟨(fun h => h), hx⟩, rfl, trivial, trivial⟩),
                                        fun c wx hx => ObX.op rfl (O.indexAddr Tryd.runUnderlying30 Tryd.sizeOf42 rfl rfl (Sl.of_owns hS8.sk.row) (by decide) (by omega) ⟨⟨(fun h => h), hx⟩, rfl, trivial, trivial⟩),
                                        fun c wx hx => by { obtain ⟨cs, hcsr, hcsl, hcsi⟩ := hx.unit hS8.c hl1 hcl hnc hct (i := 0) hpos; exact ObX.op rfl (O.loadAgg Tryd.isAgg42 Tryd.sizeOf42 hcsl rfl hcsr (and3 ⟨⟨fun h => h, hx⟩, fun h => by rw [hcsi h]; rfl⟩ ⟨trivial, trivial⟩)) },
                                        fun c wx hx => ObX.op rfl (O.indexAddr Tryd.runUnderlying30 Tryd.sizeOf42 rfl rfl (Sl.of_owns hS8.sk.row) (by decide) (by omega) ⟨⟨(fun h => h), hx⟩, rfl, trivial, trivial⟩),
                                        fun wx hx v185 hv185 v189 hv189 => by { obtain rfl := hv185 (hx.block b (Nat.zero_le _) hS8.c.lt); obtain h189 := hv189 (hx.block b (Nat.zero_le _) hS8.c.lt); exact ObX.op rfl (O.storeAggAt Tryd.sizeOf42 rfl rfl rfl (hS8.c.ext hx) (by rw [hcl]; show 0 * 6 + 6 ≤ cap * 6; omega) (hx0 m (by omega)) (fun w10 hu10 hB10 => and3 ⟨⟨fun _ => hx.block b (Nat.zero_le _) hS8.c.lt, ⟨_, hx, _, hu10, by rw [hcs]; exact hB10, Keep.refl _ _⟩⟩, rfl⟩ ⟨trivial, fun u hu => by { cases hu; exact h189 }⟩)) },
                                        trivial⟩ (fun w9 hI9 v185 hv185 v189 hv189 hp9 => ?_)
                                    obtain ⟨_, _, _, hlk⟩ := hp9 15 17 _ _ _ _ (by decide) (by decide) rfl rfl rfl rfl
                                    obtain rfl := hlk rfl
                                    obtain ⟨W1, hE1, W2, hU2, hB2', hE2⟩ := hI9
                                    have hcs2 := put_take (u' := us.getD 0 u0) (us := us.set 0 (us.getD m u0)) (k := m) hcs1.2 (by rw [List.length_set]; exact hnc) hcs1.1 (by rw [List.length_set]; omega)
                                    refine L.op rfl rfl (O.indexAddr Tryd.runUnderlying30 Tryd.sizeOf42 rfl rfl (Sl.of_owns hS8.sk.row) (by omega) (by omega) (L.op rfl rfl (O.storeAggAt Tryd.sizeOf42 rfl rfl rfl (hB2'.ext hE2) (by rw [hcs1.2]; omega) (hx0 0 hpos) (fun w11 hu11 hB11 => ?_))))
                                    obtain ⟨us', hus'⟩ : ∃ us', us' = (us.set 0 (us.getD m u0)).set m (us.getD 0 u0) := ⟨_, rfl⟩
                                    have hpm : us'.Perm us := by rw [hus']; exact swap_perm hpos (by omega)
                                    have hl' : us'.length = us.length := hpm.length_eq
                                    rw [← hus', hl'] at hcs2
                                    have hloc : Loc (.slice (some ⟨b, 0, none⟩) 0 0) w8 w11 := (((Loc.of_ext hE1).trans (Loc.of_upd hU2 rfl)).trans (Loc.of_ext hE2)).trans (Loc.of_upd hu11 rfl)
                                    have hB11' : Blk w11 b (cs1.take (m * 6) ++ (us.getD 0 u0).cells ++ cs1.drop (m * 6 + 6)) 42 := by
                                      have e : (((us.length : Int) - 1).toNat * 6) = m * 6 := by omega
                                      have h11 := hB11
                                      simp only [e] at h11
                                      exact h11
                                    have hrow := row_of (us := us') (cap := cap) hb hB11' (by omega) hcm hcs2.2 (by rw [hl']; exact hcs2.1)
                                    rw [hl'] at hrow
                                    refine L.nil (T.blk (T.meet (()) ⟨rfl, rfl, trivial⟩ (Sk.ofI (hloc.keep hS8.ext (fun x e => by have e' : b = x := Option.some.inj e; omega)) (hloc.blk hS8.c4 (fun e => by have e' : b = b4 := Option.some.inj e; omega)) (hloc.blk hS8.c3 (fun e => by have e' : b = b3 := Option.some.inj e; omega)) ⟨by rw [hl']; exact hrow, ((hS8.sk.ls.perm (lsOf_perm hpm.symm)).loc hloc (fun q hq b' hb' e => (hS8.sk.ls.all q ((lsOf_perm hpm).mem_iff.1 hq)).ne_unit hS8.c (hb'.trans (e.symm.trans rfl)))).mono (Nat.le_refl _) (by decide), fun u hu => hS8.sk.nm u (hpm.mem_iff.1 hu)⟩ (by omega))))
                                  · refine L.op rfl rfl (O.assign rfl (L.nil (T.cond_false rfl (T.seq (T.region (L.op rfl rfl (O.eql_s rfl rfl (fun c15 => ?_) (fun c15 => ?_))))))))
                                    · refine L.op rfl rfl (O.assign rfl (L.nil (T.cond_true rfl (T.block (?_)))))
                                      refine T.loop (σ := Value × List UnV) (fun s => [(3, .pointer (some ⟨b3, 0, none⟩)), (4, .pointer (some ⟨b4, 0, none⟩)), (7, .pointer (some ⟨b7, 0, none⟩))]) (fun s w' => Ext w w' ∧ Blk w' b4 zroll 32 ∧ Blk w' b7 [.int .i64 To] 3 ∧ Blk w' b3 [.int .i64 r.G, .int .i64 r.P, .int .i64 r.L, s.1] 32 ∧ Sk w4.heap.size 15 w' s.1 s.2 ∧ 0 < s.2.length ∧ s.2.length ≤ 66 ∧ w8.heap.size ≤ w'.heap.size) (fun s => 66 - s.2.length) ((.slice (some ⟨b, 0, none⟩) us.length cap, us)) ⟨rfl, rfl, rfl, trivial⟩ ⟨hS8.ext, hS8.c4, hS8.c7, hS8.c3, hS8.sk, hpos, hl66, Nat.le_refl _⟩ ?_
                                      rintro ⟨v9, us9⟩ w9 ⟨he9, hR9, hT9, hC9, hS9, hp9, hl9, hz9⟩
                                      simp only at hC9 hS9 hp9 hl9
                                      refine T.seq (T.seq (T.region (L.op rfl rfl (O.fieldAddr Tryd.runUnderlying32 rfl Tryd.sizeOf30 rfl (L.op rfl rfl (O.load Tryd.isAgg30 rfl (hC9.cell rfl) (L.op rfl rfl (O.len Tryd.runUnderlying30 rfl (Sl.val (Sl.of_owns hS9.row)) (L.op rfl rfl (O.load Tryd.isAgg3 rfl (hT9.cell rfl) (L.op rfl rfl (O.rem rfl rfl (by omega) (by omega) (L.op rfl rfl (O.add64 rfl rfl (by omega) (L.op rfl rfl (O.lss_s rfl rfl (fun hlt => ?_) (fun hlt => ?_)))))))))))))))))
                                      · refine L.nil (?_)
                                        have hlt' : us9.length < 66 := by omega
                                        obtain ⟨us3, hl3, hm3, hU3⟩ := hS9.units
                                        refine T.cond_true rfl (T.skip (T.block (T.seq (T.region (L.op rfl rfl (O.loadAgg Tryd.isAgg32 Tryd.sizeOf32 rfl rfl hC9.row (L.op rfl rfl (O.call (xs := [.tmp 201]) Tryd.call47 rfl rfl (copied_calls w4.heap.size ⟨r.G, r.P, r.L, v9, us3⟩ w9 hU3) (fun v10 w10 hq => ?_)))))))))
                                        obtain ⟨he10, cv2, us2, rfl, hS2, hl2⟩ := hq
                                        have hl2' : 0 < us2.length := by rw [hl2]; show 0 < min us3.length 66; omega
                                        obtain ⟨u, hu⟩ : ∃ u, u = us2.getD 0 u0 := ⟨_, rfl⟩
                                        have hel := sk_elem (k := 0) hS2 hl2'
                                        rw [← hu] at hel
                                        have hOne : CpOne w9.heap.size u w10 := hel.2
                                        refine L.op rfl rfl (O.field Tryd.runUnderlying32 rfl Tryd.isAgg30 rfl rfl (L.op rfl rfl (O.indexAddr Tryd.runUnderlying30 Tryd.sizeOf42 rfl rfl (Sl.of_owns hS2.row) (by decide) (by omega) (L.op rfl rfl (O.loadAgg Tryd.isAgg42 Tryd.sizeOf42 rfl rfl hel.1 (L.op rfl rfl (O.alloc Tryd.zeroValue42 (fun b11 w11 hb11 hz11 he11 hB11 => ?_))))))))
                                        refine L.op rfl rfl (O.storeAgg Tryd.sizeOf42 rfl rfl rfl hB11 (Nat.le_refl _) (CpOne.one hOne) (fun w12 hu12 hB12 => ?_))
                                        replace hu12 : Upd b11 w11 w12 := hu12
                                        have hB12' : Blk w12 b11 [str u.nm, .int .i64 u.pp, u.gv, u.vv, u.pv, .bool u.wt] 42 := hB12
                                        have hz10 := he10.size
                                        have he1012 : Ext w10 w12 := he11.upd hu12 (.inr (by omega))
                                        have he912 : Ext w9 w12 := he10.trans he1012
                                        have hS12 := hS9.ext he912
                                        have hdig := dig2_ints (n := us9.length) (by omega)
                                        refine L.nil (T.seq (T.region (L.op rfl rfl (O.fieldAddr Tryd.runUnderlying32 rfl Tryd.sizeOf30 rfl (L.op rfl rfl (O.load Tryd.isAgg30 rfl ((hC9.ext he912).cell rfl) (L.op rfl rfl (O.len Tryd.runUnderlying30 rfl (Sl.val (Sl.of_owns hS12.row)) (L.op rfl rfl (O.quo64 rfl rfl (by omega) (L.op rfl rfl (O.conv_to rfl (fun w => ⟨_, Tryd.runUnderlying3 w⟩) Tryd.runUnderlying5 (IntWalk.u8_in _ ⟨by omega, by omega⟩) (L.op rfl rfl (O.add8 rfl rfl (by omega) (L.op rfl rfl (O.fieldAddr Tryd.runUnderlying32 rfl Tryd.sizeOf30 rfl (L.op rfl rfl (O.load Tryd.isAgg30 rfl ((hC9.ext he912).cell rfl) (L.op rfl rfl (O.len Tryd.runUnderlying30 rfl (Sl.val (Sl.of_owns hS12.row)) (L.op rfl rfl (O.rem rfl rfl (by omega) (by omega) (L.op rfl rfl (O.conv_to rfl (fun w => ⟨_, Tryd.runUnderlying3 w⟩) Tryd.runUnderlying5 (IntWalk.u8_in _ ⟨by omega, by omega⟩) (L.op rfl rfl (O.add8 rfl rfl (by omega) (L.op rfl rfl (O.buildSlice (el := 5) (parts := [(0, .tmp 211), (1, .tmp 217)]) (vs := [(0, _), (1, _)]) (cs := [.int .u8 (48 + (us9.length : Int) / 10), .int .u8 (48 + (us9.length : Int) % 10)]) rfl (fun w => by kernel_rfl) (fun b13 w13 hb13 hz13 he13 hB13 => ?_)))))))))))))))))))))))))))))
                                        refine L.op rfl rfl (O.bytes_str Tryd.runUnderlying22 Tryd.runUnderlying5 Tryd.runUnderlying9 rfl (show Ints .u8 0 w13 (.slice (some ⟨b13, 0, none⟩) 2 2) ((dig2 us9.length).map fun c => (c.toNat : Int)) from by rw [hdig]; exact Ints.of_blk hB13 rfl (by decide) (Nat.zero_le _)) (by simp [dig2]) (L.op rfl rfl (O.add_str rfl rfl (by simp [dig2]) (L.op rfl rfl (O.fieldAddr Tryd.runUnderlying42 rfl Tryd.sizeOf9 rfl (L.op rfl rfl (O.store1 Tryd.sizeOf9 rfl rfl rfl (hB12'.ext he13) (by simp [Value.cells]) (fun w14 hu14 hB14 => ?_))))))))
                                        replace hu14 : Upd b11 w13 w14 := hu14
                                        obtain ⟨u', hu'⟩ : ∃ u' : UnV, u' = { u with nm := [109] ++ dig2 us9.length } := ⟨_, rfl⟩
                                        have hB14' : Blk w14 b11 u'.cells 42 := by rw [hu']; exact hB14
                                        have hls' : u'.ls = u.ls := by rw [hu']; rfl
                                        have hz11 := he11.size
                                        have hz12 := hu12.size
                                        have hz13 := he13.size
                                        have hz14 := hu14.size
                                        have he914 : Ext w9 w14 := (he912.trans he13).upd hu14 (.inr (by omega))
                                        have he1014 : Ext w10 w14 := (he1012.trans he13).upd hu14 (.inr (by omega))
                                        refine L.nil (T.region (L.op rfl rfl (O.loadAgg Tryd.isAgg42 Tryd.sizeOf42 rfl rfl hB14'.row (L.op rfl rfl (O.buildSlice (el := 42) (parts := [(0, .tmp 222)]) (vs := [(0, _)]) (cs := u'.cells) rfl (fun w => by kernel_rfl) (fun b15 w15 hb15 hz15 he15 hB15 => ?_))))))
                                        have he915 := he914.trans he15
                                        have hS15 := hS9.ext he915
                                        have hO15 : w15.ownsRow w9.heap.size 42 6 (.slice (some ⟨b15, 0, none⟩) 1 1) 1 u'.cells := owns_blk (n := 1) hB15 (by have := he914.size; omega) (Nat.le_refl _) (by decide) rfl
                                        refine L.op rfl rfl (O.fieldAddr Tryd.runUnderlying32 rfl Tryd.sizeOf30 rfl (L.op rfl rfl (O.load Tryd.isAgg30 rfl ((hC9.ext he915).cell rfl) (?_))))
                                        have honeS : ∀ c ∈ ucells us9, c.oneCell' = true := fun c hc => by
                                          obtain ⟨l, hl, hc2⟩ := List.mem_flatten.1 hc
                                          obtain ⟨x, hx, rfl⟩ := List.mem_map.1 hl
                                          exact hS9.one x hx c hc2
                                        refine L.op rfl rfl (O.append (size := 6) (bytes := 104) Tryd.runUnderlying30 Tryd.infoOf42 rfl rfl rfl rfl (by decide) rfl rfl hO15 ((Sl.of_owns hS15.row).mono (Nat.zero_le _)) honeS (by omega) (by simp only [maxLen]; omega) (by have := he915.size; omega) (fun v16 w16 hO16 hG16 => ?_))
                                        have hz915 := he915.size
                                        have hz914 := he914.size
                                        have hE16 : Ext w9 w16 := Keep.grown he915 hG16 (fun j hj => by have e1 : b15 = j := Option.some.inj hj; omega)
                                        have hb15 : b15 = w14.heap.size := hb15
                                        have hv16 : v16.oneCell' = true := Sl.one (Sl.of_owns hO16)
                                        have hLu : LS w9.heap.size 15 w16 u'.ls := by
                                          rw [hls']
                                          have h15 := hOne.1.ext (he1014.trans he15)
                                          exact h15.loc (r := .slice (some ⟨b15, 0, none⟩) 1 1) (Loc.of_grown hG16) (fun q hq x hx e => by have e1 : b15 = x := Option.some.inj e; have := ((hOne.1.all q hq).lt hx).2; have := he1014.size; omega)
                                        have hS16 : Sk w4.heap.size 15 w16 v16 (u' :: us9) := by
                                          refine ⟨?_, ?_, fun x hx => ?_⟩
                                          · rw [ucells_cons, List.length_cons, Nat.add_comm]
                                            refine ⟨hO16.1, hO16.2.imp id ?_⟩
                                            rintro ⟨g, c, cu, h1, h2, h3⟩
                                            exact ⟨g, c, cu, h1, by have := he9.size; omega, h3⟩
                                          · rw [show u' :: us9 = [u'] ++ us9 from rfl, lsOf_append, lsOf_one]
                                            exact ((hS9.ext hE16).ls.append (hLu.mono (by omega) (Nat.le_refl _)) (m := w9.heap.size) (fun q hq x hx => ((hS9.ls.all q hq).lt hx).2) (fun q hq x hx => ((hLu.all q hq).lt hx).1)).perm List.perm_append_comm
                                          · rcases List.mem_cons.1 hx with rfl | hx
                                            · rw [hu']; show ([109] ++ dig2 us9.length : Str).length ≤ _; simp [dig2]
                                            · exact hS9.nm x hx
                                        refine L.op rfl rfl (O.fieldAddr Tryd.runUnderlying32 rfl Tryd.sizeOf30 rfl (L.op rfl rfl (O.store1 Tryd.sizeOf30 hv16 rfl rfl (hC9.ext hE16) (by simp [Value.cells]) (fun w17 hu17 hB17 => ?_))))
                                        replace hu17 : Upd b3 w16 w17 := hu17
                                        have hz16 := hE16.size
                                        refine L.nil (T.blk (T.again ((v16, u' :: us9)) (by show 66 - (us9.length + 1) < 66 - us9.length; omega) ⟨rfl, rfl, rfl, trivial⟩ ⟨(he9.trans hE16).upd hu17 (.inr (by omega)), (hR9.ext hE16).upd hu17 (by omega), (hT9.ext hE16).upd hu17 (by omega), hB17, ⟨owns_upd hS16.row hu17 hb3, hS16.ls.loc (r := .slice (some ⟨b3, 0, none⟩) 0 0) (Loc.of_upd hu17 rfl) (fun q hq x hx e => by have e' : b3 = x := Option.some.inj e; have := ((hS16.ls.all q hq).lt hx).1; omega), hS16.nm⟩, by simp, by simp; omega, by have := hu17.size; omega⟩))
                                      · refine L.nil (T.cond_false rfl (T.exit rfl (T.blk (T.meet (()) ⟨rfl, rfl, trivial⟩ (Sk.ofI he9 hR9 hC9 (hS9.mono (Nat.le_refl _) (by decide)) (by omega))))))
                                    · refine L.op rfl rfl (O.assign rfl (L.nil (T.cond_false rfl (T.skip (T.blk (T.meet (()) ⟨rfl, rfl, trivial⟩ ⟨hS8.ext, hS8.c4, r.G, r.P, r.L, _, us, hS8.c3, hS8.sk.mono (Nat.le_refl _) (by decide), by omega⟩))))))
    rintro _ w9 ⟨he9, hR9, G9, P9, L9, uv9, us9, hC9, hS9, hl9⟩
    refine T.seq (T.region (L.op rfl rfl (O.loadAgg Tryd.isAgg32 Tryd.sizeOf32 rfl rfl hC9.row (?_))))
    have hv1 : uv9.oneCell' = true := Sl.one (Sl.of_owns hS9.row)
    refine L.op rfl rfl (O.storeAgg Tryd.sizeOf32 rfl rfl rfl hR9 (Nat.le_refl _) (by intro u hu; simp at hu; rcases hu with (rfl|rfl|rfl|rfl); rfl; rfl; rfl; exact hv1) (fun w10 hu10 hB10 => ?_))
    have hR10 : Blk w10 b4 [.int .i64 G9, .int .i64 P9, .int .i64 L9, uv9] 32 := hB10
    replace hu10 : Upd b4 w9 w10 := hu10
    have hS10 : Sk w4.heap.size 16 w10 uv9 us9 := ⟨owns_upd hS9.row hu10 hb4, hS9.ls.loc (r := .slice (some ⟨b4, 0, none⟩) 0 0) (Loc.of_upd hu10 rfl) (fun q hq b hb e => by have e' : b4 = b := Option.some.inj e; have := ((hS9.ls.all q hq).lt hb).1; omega), hS9.nm⟩
    obtain ⟨us', k1, _, k3⟩ := hS10.units
    refine L.nil (T.retA Tryd.results35 Tryd.isAgg32 Tryd.sizeOf32 rfl rfl hR10.row ⟨he9.upd hu10 (.inr (by omega)), ⟨G9, P9, L9, uv9, us'⟩, rfl, Units.mono k3 hz04, by show us'.length ≤ 67; omega⟩)

end Go.Proofs.YtpgnaffcbbghgaaDoor
