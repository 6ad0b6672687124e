/-
  Walks of the history's functions (1). Conditions: those of each statement.
-/
import Derived.Test.YtmnihgcffdmodaaGreatDoorQb
import Derived.Test.YtmnihgcffdmodaaGreatDoorQc
set_option linter.unusedVariables false
set_option linter.unusedSimpArgs false
set_option maxRecDepth 20000
namespace Go.Proofs.YtmnihgcffdmodaaGreatDoor
open Go Go.E RowKit
attribute [local irreducible] Go.E.T Go.E.L Go.E.O Go.E.Ob

theorem of_shelf {P : Program} {f : FuncId} {args : Array Value} {w : World} {v : Value} (h : Calls P f args w fun e w' => e = .returned v ∧ Below w.heap.size w w') : Calls P f args w (Ret fun v' w' => v' = v ∧ Ext w w') :=
  h.mono (by rintro e w' ⟨rfl, hb⟩; exact ⟨rfl, Ext.of_below hb⟩)
theorem of_same {P : Program} {f : FuncId} {args : Array Value} {w : World} {v : Value} (h : Calls P f args w fun e w' => e = .returned v ∧ w' = w) : Calls P f args w (Ret fun v' w' => v' = v ∧ w' = w) :=
  h.mono (by rintro e w' ⟨rfl, hb⟩; exact ⟨rfl, hb⟩)
theorem drewN_ext (w : World) : ∀ n, Ext w (w.drewN n)
  | 0 => Keep.refl _ _
  | n + 1 => (drewN_ext w n).trans (Keep.drew _ _)
theorem of_drewn {P : Program} {f : FuncId} {args : Array Value} {w : World} {v : Value} (h : Calls P f args w fun e w' => e = .returned v ∧ ∃ n, w' = w.drewN n) : Calls P f args w (Ret fun v' w' => v' = v ∧ Ext w w') :=
  h.mono (by rintro e w' ⟨rfl, n, rfl⟩; exact ⟨rfl, drewN_ext _ _⟩)
theorem grow_ext (w : World) (os : Array Obj) : Ext w (Sort.grow w os) := ⟨rfl, rfl, rfl, by simp [Sort.grow], fun k _ hk => by simp [Sort.grow, Array.getElem?_append_left hk]⟩
theorem of_grow {P : Program} {f : FuncId} {args : Array Value} {w : World} {v : Value} (h : Calls P f args w fun e w' => e = .returned v ∧ ∃ k os, w' = Sort.grow (w.drewN k) os) : Calls P f args w (Ret fun v' w' => v' = v ∧ Ext w w') :=
  h.mono (by rintro e w' ⟨rfl, k, os, rfl⟩; exact ⟨rfl, (drewN_ext _ _).trans (grow_ext _ _)⟩)
theorem Ext.below_trans {w0 w w' : World} (h : Ext w0 w) (k : Below w0.heap.size w w') : Ext w0 w' :=
  ⟨k.os.trans h.os, k.tape.trans h.tape, k.output.trans h.output, Nat.le_trans h.size k.size, fun b h0 hb => (k.block b hb).trans (h.block b h0 hb)⟩
/-- What the library's variables hold. -/
structure LibM (w : World) : Prop where
  pow : Lib.TabIs Tryz.prog w "internal/strconv.uint64pow10" .u64 Lib.pow10Tab
  mx : ∃ m : Int, w.cell? ⟨0, 0, none⟩ = some (.int .i64 m)
  deb : w.cell? ⟨5, 15, none⟩ = some (.int .u8 4)
  es : ∃ t p, w.cell? ⟨2, 0, none⟩ = some (.iface t p)
  er : ∃ t p, w.cell? ⟨3, 0, none⟩ = some (.iface t p)
/-- What a builder has. -/
def Bld (B b : Nat) (s : Str) (w : World) : Prop := Lib.IsBuilder 95 5 B b (Lib.byteCells s) w
theorem Bld.of_at {B b : Nat} {p : Value} {s : Str} {w : World} (hp : p = .pointer none ∨ p = .pointer (some ⟨b, 0, none⟩)) (h : Lib.BuilderAt 95 5 B b p (Lib.byteCells s) w) : Bld B b s w := by
  rcases hp with rfl | rfl
  · exact .inl h
  · exact .inr h
theorem writeS (B b : Nat) (s t : Str) (w : World) (h : Bld B b s w) (hl : s.length + t.length ≤ 140737488355328) (hB : B ≤ w.heap.size) : Calls Tryz.prog 55 #[.pointer (some ⟨b, 0, none⟩), str t] w (Ret fun v w' => v = .tuple #[.int .i64 t.length, .nilIface] ∧ Bld B b (s ++ t) w' ∧ Below B w w') := by
  refine (Any.Builder_WriteString (P := Tryz.prog) (ρ := Tryz.lays156_ren) { Tryz.lays156 with } Tryz.Builder_Extra_156 B b (Lib.byteCells s) ⟨t.toArray⟩ w h ?_ hB).mono ?_
  · rw [Lib.byteCells_length]; exact hl
  · rintro e w' ⟨rfl, h1, h2⟩
    refine ⟨rfl, Bld.of_at (.inr rfl) ?_, h2⟩
    rw [Lib.byteCells_append]; exact h1
theorem lays167 : Go.Proofs.Lays.n167 Tryz.prog { Tryz.lays156_ren with f := fun n => if n = 167 then 148 else Tryz.lays156_ren.f n } := { Tryz.lays156 with t5 := Tryz.underlying5, a5 := Tryz.isAgg5, z5 := Tryz.sizeOf5, v5 := Tryz.zeroValue5, f167 := Tryz.func148.trans (congrArg some (by kernel_rfl)) }
theorem writeB (B b : Nat) (s : Str) (c : UInt8) (w : World) (h : Bld B b s w) (hl : s.length + 1 ≤ 140737488355328) (hB : B ≤ w.heap.size) : Calls Tryz.prog 148 #[.pointer (some ⟨b, 0, none⟩), .int .u8 c.toNat] w (Ret fun v w' => v = .nilIface ∧ Bld B b (s ++ [c]) w' ∧ Below B w w') := by
  refine (Any.Builder_WriteByte (P := Tryz.prog) lays167 { Tryz.Builder_Extra_156 with } B b (Lib.byteCells s) c.toNat w h ?_ hB).mono ?_
  · rw [Lib.byteCells_length]; exact hl
  · rintro e w' ⟨rfl, h1, h2⟩
    refine ⟨rfl, Bld.of_at (.inr rfl) ?_, h2⟩
    rw [Lib.byteCells_append]; exact h1
theorem bldString (B b : Nat) (s : Str) (w : World) (h : Bld B b s w) (hB : B ≤ w.heap.size) : Calls Tryz.prog 57 #[.pointer (some ⟨b, 0, none⟩)] w (Ret fun v w' => v = str s ∧ Below B w w') :=
  (Tryz.Builder_String_any B b s w h hB).mono (by rintro e w' ⟨rfl, hb⟩; exact ⟨rfl, hb⟩)
theorem itoa_calls (n : Int) (w : World) (hL : LibM w) (h0 : -9223372036854775808 ≤ n) (h1 : n ≤ 9223372036854775807) : Calls Tryz.prog 53 #[.int .i64 n] w (Ret fun v w' => v = str (Lib.itoa n) ∧ Ext w w') := of_grow (Tryz.strconv_Itoa n h0 h1 w hL.pow)
theorem repeat_calls (s : Str) (n : Nat) (w : World) (hn : n ≤ 9223372036854775807) (hl : s.length * n ≤ 140737488355328) : Calls Tryz.prog 26 #[str s, .int .i64 n] w (Ret fun v' w' => v' = str (Lib.repeatL s n) ∧ Ext w w') :=
  of_shelf (Tryz.strings_Repeat ⟨s.toArray⟩ n w hn (by simpa [ByteArray.size] using hl))
theorem cut_calls (s t : Str) (w : World) (hL : LibM w) (hs : s.length < 4294967281) : Calls Tryz.prog 59 #[str s, str t] w (Ret fun v w' => v = .tuple #[str (Lib.cut s t).1, str (Lib.cut s t).2.1, .bool (Lib.cut s t).2.2] ∧ Ext w w') := by
  obtain ⟨m, hm⟩ := hL.mx
  exact of_drewn (Tryz.strings_Cut ⟨s.toArray⟩ ⟨t.toArray⟩ m w (by simpa [ByteArray.size] using hs) hm)
theorem LibM.ext {w w' : World} (h : LibM w) (k : Ext w w') : LibM w' := by
  refine ⟨?_, ?_, k.cell (Nat.zero_le _) h.deb, ?_, ?_⟩
  · have := h.pow
    unfold Lib.TabIs World.var? at this ⊢
    revert this
    cases Tryz.prog.globalNamed "internal/strconv.uint64pow10" with
    | none => exact id
    | some g =>
      intro this
      have hlt : g < w.heap.size := by
        rcases Nat.lt_or_ge g w.heap.size with h1 | h1
        · exact h1
        · simp [Array.getElem?_eq_none h1] at this
      simpa [k.block g (Nat.zero_le _) hlt] using this
  · obtain ⟨m, hm⟩ := h.mx; exact ⟨m, k.cell (Nat.zero_le _) hm⟩
  · obtain ⟨t, p, hm⟩ := h.es; exact ⟨t, p, k.cell (Nat.zero_le _) hm⟩
  · obtain ⟨t, p, hm⟩ := h.er; exact ⟨t, p, k.cell (Nat.zero_le _) hm⟩
theorem getD_get {α : Type} {xs : List α} {i : Nat} {d : α} (h : i < xs.length) : xs.getD i d = xs[i] := by simp [List.getD, h]
theorem mem_of_getD {α : Type} {xs : List α} {i : Nat} {d a : α} (h : i < xs.length) (e : xs.getD i d = a) : a ∈ xs := by
  rw [getD_get h] at e; exact e ▸ List.getElem_mem h
theorem all_of_getD {α : Type} {d : α} {s : List α} {p : α → Bool} (h : ∀ j, j < s.length → p (s.getD j d) = true) : s.all p = true := List.all_eq_true.2 fun x hx => by
  obtain ⟨j, hj, rfl⟩ := List.getElem_of_mem hx
  have := h j hj
  rwa [getD_get hj] at this
theorem all_getD {α : Type} {d : α} {s : List α} {p : α → Bool} (h : s.all p = true) {j : Nat} (hj : j < s.length) : p (s.getD j d) = true := by
  rw [getD_get hj]; exact List.all_eq_true.1 h _ (List.getElem_mem hj)
theorem not_all {α : Type} {d : α} {s : List α} {p : α → Bool} {i : Nat} (hi : i < s.length) (h : p (s.getD i d) = false) : s.all p = false := by
  cases hc : s.all p
  · rfl
  · rw [all_getD hc hi] at h; cases h
theorem upto_step {q : Nat → Prop} {i : Nat} (hall : ∀ j, j < i → q j) (h : q i) : ∀ j, j < i + 1 → q j := fun j hj => by
  by_cases hji : j = i
  · subst hji; exact h
  · exact hall j (by omega)
end Go.Proofs.YtmnihgcffdmodaaGreatDoor
set_option linter.unusedVariables false
set_option linter.unusedSimpArgs false
set_option maxRecDepth 20000
namespace Go.Proofs.YtmnihgcffdmodaaGreatDoor
open Go Go.E RowKit
attribute [local irreducible] Go.E.T Go.E.L Go.E.O Go.E.Ob

/-- May stand in a name. -/
def letterI (c : Int) : Bool := decide ((65 ≤ c ∧ c ≤ 90) ∨ (97 ≤ c ∧ c ≤ 122) ∨ (48 ≤ c ∧ c ≤ 57) ∨ c = 45 ∨ c = 95)
/-- May stand in contents and nonces. -/
def plainI (c : Int) : Bool := decide (32 ≤ c ∧ c ≤ 126)
theorem letter_cases (c : Int) : (65 ≤ c ∧ c ≤ 90) ∨ (97 ≤ c ∧ c ≤ 122) ∨ (48 ≤ c ∧ c ≤ 57) ∨ c = 45 ∨ c = 95 ∨ (c < 48 ∧ c ≠ 45) ∨ (57 < c ∧ c < 65) ∨ (90 < c ∧ c < 97 ∧ c ≠ 95) ∨ 122 < c := by omega
theorem letter_yes {c : Int} (h : (65 ≤ c ∧ c ≤ 90) ∨ (97 ≤ c ∧ c ≤ 122) ∨ (48 ≤ c ∧ c ≤ 57) ∨ c = 45 ∨ c = 95) : letterI c = true := decide_eq_true h
theorem letter_no {c : Int} (h : ¬ ((65 ≤ c ∧ c ≤ 90) ∨ (97 ≤ c ∧ c ≤ 122) ∨ (48 ≤ c ∧ c ≤ 57) ∨ c = 45 ∨ c = 95)) : letterI c = false := decide_eq_false h
def allB (q : Int → Bool) (s : Str) : Bool := s.all fun b => q (b.toNat : Int)
def madeB (q : Int → Bool) (lo hi : Int) (s : Str) : Bool := decide (lo ≤ s.length) && (decide ((s.length : Int) ≤ hi) && allB q s)
def nameB (s : Str) : Bool := madeB letterI 1 12 s
theorem decode_small (s : ByteArray) (i : Nat) (h : (s.get! i).toNat < 128) : Utf8.decode s i = ((s.get! i).toNat, 1) := by
  unfold Utf8.decode
  simp [h]
theorem decode_big (s : ByteArray) (i : Nat) (h : ¬ (s.get! i).toNat < 128) : 128 ≤ (Utf8.decode s i).1 := by
  unfold Utf8.decode
  simp only [Nat.add_zero]
  rw [if_neg h]
  split
  · split <;> simp_all [Utf8.runeError]
  · split
    · split <;> simp_all [Utf8.runeError] <;> omega
    · split
      · split <;> simp_all [Utf8.runeError] <;> omega
      · simp [Utf8.runeError]
theorem idx_allB {q : Int → Bool} (hq : ∀ c : Int, 128 ≤ c → q c = false) (s : ByteArray) : ∀ f pos : Nat, s.size ≤ pos + f → (0 ≤ Lib.idxFuncFrom (fun n => !q (n : Int)) true s f pos ↔ ∃ j, pos ≤ j ∧ j < s.size ∧ q ((s.get! j).toNat : Int) = false)
  | 0, pos, hf => by
    simp only [Lib.idxFuncFrom]
    exact ⟨fun h => by omega, fun ⟨j, h1, h2, _⟩ => by omega⟩
  | f + 1, pos, hf => by
    unfold Lib.idxFuncFrom
    by_cases hp : pos < s.size
    · rw [if_pos hp]
      by_cases hs : (s.get! pos).toNat < 128
      · rw [decode_small s pos hs]
        cases hqv : q ((s.get! pos).toNat : Int)
        · simp only [Bool.not_false, if_true]
          exact ⟨fun _ => ⟨pos, Nat.le_refl _, hp, hqv⟩, fun _ => Int.natCast_nonneg _⟩
        · simp only [Bool.not_true, Bool.false_eq_true, if_false]
          rw [idx_allB hq s f (pos + 1) (by omega)]
          constructor
          · rintro ⟨j, h1, h2, h3⟩; exact ⟨j, by omega, h2, h3⟩
          · rintro ⟨j, h1, h2, h3⟩
            by_cases hj : j = pos
            · subst hj; rw [hqv] at h3; cases h3
            · exact ⟨j, by omega, h2, h3⟩
      · have hb := decode_big s pos hs
        rw [hq _ (by omega)]
        simp only [Bool.not_false, if_true]
        exact ⟨fun _ => ⟨pos, Nat.le_refl _, hp, hq _ (by omega)⟩, fun _ => Int.natCast_nonneg _⟩
    · rw [if_neg hp]
      exact ⟨fun h => by omega, fun ⟨j, h1, h2, _⟩ => by omega⟩
theorem get_str (s : Str) {j : Nat} (hj : j < s.length) : (⟨s.toArray⟩ : ByteArray).get! j = s.getD j 0 := by
  simp [ByteArray.get!, List.getD, hj]
theorem contains_allB {q : Int → Bool} (hq : ∀ c : Int, 128 ≤ c → q c = false) (s : Str) : decide (0 ≤ Lib.idxFunc (fun n => !q (n : Int)) true ⟨s.toArray⟩) = !allB q s := by
  have hsz : (⟨s.toArray⟩ : ByteArray).size = s.length := by simp [ByteArray.size]
  have h := idx_allB hq ⟨s.toArray⟩ s.length 0 (by omega)
  rw [Lib.idxFunc, hsz]
  cases hc : allB q s
  · obtain ⟨x, hx, hqx⟩ := List.all_eq_false.1 hc
    obtain ⟨j, hj, rfl⟩ := List.getElem_of_mem hx
    refine decide_eq_true (h.2 ⟨j, Nat.zero_le _, by omega, ?_⟩)
    rw [get_str s hj, getD_get hj]
    simpa using hqx
  · have hn : ¬ 0 ≤ Lib.idxFuncFrom (fun n => !q (n : Int)) true ⟨s.toArray⟩ s.length 0 := by
      rw [h]
      rintro ⟨j, _, h2, h3⟩
      rw [hsz] at h2
      rw [get_str s h2, all_getD (d := 0) hc h2] at h3
      cases h3
    rw [decide_eq_false hn]; rfl
theorem named1_calls (c : Int) (w : World) :
    Calls Tryz.prog 85 #[.int .i32 c] w (Ret fun v w' => v = .bool (letterI c) ∧ w' = w) := by
  refine T.enter (vs := [.int .i32 c]) Tryz.func85 rfl Tryz.ntmps85 rfl ?_
  rcases letter_cases c with h | h | h | h | h | h | h | h | h
  · refine T.seq (T.region (L.op rfl rfl (O.assign rfl (L.nil (T.seq (T.region (L.op rfl rfl (O.move rfl (L.op rfl rfl (O.geq_t rfl rfl (by omega) (L.op rfl rfl (O.move rfl (L.op rfl rfl (O.move rfl (L.op rfl rfl (O.leq_t rfl rfl (by omega) (L.op rfl rfl (O.pick_true rfl rfl (L.op rfl rfl (O.move rfl (L.pass rfl rfl (L.pass rfl rfl (L.pass rfl rfl (L.pass rfl rfl (L.pass rfl rfl (L.pass rfl rfl (L.op rfl rfl (O.pick_true rfl rfl (L.op rfl rfl (O.move rfl (L.pass rfl rfl (L.pass rfl rfl (L.pass rfl rfl (?_))))))))))))))))))))))))))))))))))
    refine L.pass rfl rfl (L.pass rfl rfl (L.pass rfl rfl (L.op rfl rfl (O.pick_true rfl rfl (L.op rfl rfl (O.move rfl (L.pass rfl rfl (L.pass rfl rfl (L.op rfl rfl (O.pick_true rfl rfl (L.op rfl rfl (O.move rfl (L.pass rfl rfl (L.pass rfl rfl (L.op rfl rfl (O.pick_true rfl rfl (L.op rfl rfl (O.assign rfl (L.nil (T.ret1 Tryz.results85 rfl ⟨by rw [letter_yes (by omega)], rfl⟩))))))))))))))))))))
  · refine T.seq (T.region (L.op rfl rfl (O.assign rfl (L.nil (T.seq (T.region (L.op rfl rfl (O.move rfl (L.op rfl rfl (O.geq_t rfl rfl (by omega) (L.op rfl rfl (O.move rfl (L.op rfl rfl (O.move rfl (L.op rfl rfl (O.leq_f rfl rfl (by omega) (L.op rfl rfl (O.pick_true rfl rfl (L.op rfl rfl (O.move rfl (L.op rfl rfl (O.move rfl (L.op rfl rfl (O.geq_t rfl rfl (by omega) (L.op rfl rfl (O.move rfl (L.op rfl rfl (O.move rfl (L.op rfl rfl (O.leq_t rfl rfl (by omega) (L.op rfl rfl (O.pick_true rfl rfl (L.op rfl rfl (O.pick_false rfl rfl (L.op rfl rfl (O.move rfl (L.pass rfl rfl (L.pass rfl rfl (L.pass rfl rfl (?_))))))))))))))))))))))))))))))))))))))))
    refine L.pass rfl rfl (L.pass rfl rfl (L.pass rfl rfl (L.op rfl rfl (O.pick_true rfl rfl (L.op rfl rfl (O.move rfl (L.pass rfl rfl (L.pass rfl rfl (L.op rfl rfl (O.pick_true rfl rfl (L.op rfl rfl (O.move rfl (L.pass rfl rfl (L.pass rfl rfl (L.op rfl rfl (O.pick_true rfl rfl (L.op rfl rfl (O.assign rfl (L.nil (T.ret1 Tryz.results85 rfl ⟨by rw [letter_yes (by omega)], rfl⟩))))))))))))))))))))
  · refine T.seq (T.region (L.op rfl rfl (O.assign rfl (L.nil (T.seq (T.region (L.op rfl rfl (O.move rfl (L.op rfl rfl (O.geq_f rfl rfl (by omega) (L.op rfl rfl (O.move rfl (L.pass rfl rfl (L.pass rfl rfl (L.op rfl rfl (O.pick_false rfl rfl (L.op rfl rfl (O.move rfl (L.op rfl rfl (O.move rfl (L.op rfl rfl (O.geq_f rfl rfl (by omega) (L.op rfl rfl (O.move rfl (L.pass rfl rfl (L.pass rfl rfl (L.op rfl rfl (O.pick_false rfl rfl (L.op rfl rfl (O.pick_false rfl rfl (L.op rfl rfl (O.move rfl (L.op rfl rfl (O.move rfl (L.op rfl rfl (O.geq_t rfl rfl (by omega) (L.op rfl rfl (O.move rfl (?_)))))))))))))))))))))))))))))))))))))))
    refine L.op rfl rfl (O.move rfl (L.op rfl rfl (O.leq_t rfl rfl (by omega) (L.op rfl rfl (O.pick_true rfl rfl (L.op rfl rfl (O.pick_false rfl rfl (L.op rfl rfl (O.move rfl (L.pass rfl rfl (L.pass rfl rfl (L.op rfl rfl (O.pick_true rfl rfl (L.op rfl rfl (O.move rfl (L.pass rfl rfl (L.pass rfl rfl (L.op rfl rfl (O.pick_true rfl rfl (L.op rfl rfl (O.assign rfl (L.nil (T.ret1 Tryz.results85 rfl ⟨by rw [letter_yes (by omega)], rfl⟩)))))))))))))))))))))))
  · refine T.seq (T.region (L.op rfl rfl (O.assign rfl (L.nil (T.seq (T.region (L.op rfl rfl (O.move rfl (L.op rfl rfl (O.geq_f rfl rfl (by omega) (L.op rfl rfl (O.move rfl (L.pass rfl rfl (L.pass rfl rfl (L.op rfl rfl (O.pick_false rfl rfl (L.op rfl rfl (O.move rfl (L.op rfl rfl (O.move rfl (L.op rfl rfl (O.geq_f rfl rfl (by omega) (L.op rfl rfl (O.move rfl (L.pass rfl rfl (L.pass rfl rfl (L.op rfl rfl (O.pick_false rfl rfl (L.op rfl rfl (O.pick_false rfl rfl (L.op rfl rfl (O.move rfl (L.op rfl rfl (O.move rfl (L.op rfl rfl (O.geq_f rfl rfl (by omega) (L.op rfl rfl (O.move rfl (?_)))))))))))))))))))))))))))))))))))))))
    refine L.pass rfl rfl (L.pass rfl rfl (L.op rfl rfl (O.pick_false rfl rfl (L.op rfl rfl (O.pick_false rfl rfl (L.op rfl rfl (O.move rfl (L.op rfl rfl (O.move rfl (L.op rfl rfl (O.eql_t rfl rfl (by omega) (L.op rfl rfl (O.pick_false rfl rfl (L.op rfl rfl (O.move rfl (L.pass rfl rfl (L.pass rfl rfl (L.op rfl rfl (O.pick_true rfl rfl (L.op rfl rfl (O.assign rfl (L.nil (T.ret1 Tryz.results85 rfl ⟨by rw [letter_yes (by omega)], rfl⟩)))))))))))))))))))))))
  · refine T.seq (T.region (L.op rfl rfl (O.assign rfl (L.nil (T.seq (T.region (L.op rfl rfl (O.move rfl (L.op rfl rfl (O.geq_t rfl rfl (by omega) (L.op rfl rfl (O.move rfl (L.op rfl rfl (O.move rfl (L.op rfl rfl (O.leq_f rfl rfl (by omega) (L.op rfl rfl (O.pick_true rfl rfl (L.op rfl rfl (O.move rfl (L.op rfl rfl (O.move rfl (L.op rfl rfl (O.geq_f rfl rfl (by omega) (L.op rfl rfl (O.move rfl (L.pass rfl rfl (L.pass rfl rfl (L.op rfl rfl (O.pick_false rfl rfl (L.op rfl rfl (O.pick_false rfl rfl (L.op rfl rfl (O.move rfl (L.op rfl rfl (O.move rfl (L.op rfl rfl (O.geq_t rfl rfl (by omega) (L.op rfl rfl (O.move rfl (?_)))))))))))))))))))))))))))))))))))))))))
    refine L.op rfl rfl (O.move rfl (L.op rfl rfl (O.leq_f rfl rfl (by omega) (L.op rfl rfl (O.pick_true rfl rfl (L.op rfl rfl (O.pick_false rfl rfl (L.op rfl rfl (O.move rfl (L.op rfl rfl (O.move rfl (L.op rfl rfl (O.eql_f rfl rfl (by omega) (L.op rfl rfl (O.pick_false rfl rfl (L.op rfl rfl (O.move rfl (L.op rfl rfl (O.move rfl (L.op rfl rfl (O.eql_t rfl rfl (by omega) (L.op rfl rfl (O.pick_false rfl rfl (L.op rfl rfl (O.assign rfl (L.nil (T.ret1 Tryz.results85 rfl ⟨by rw [letter_yes (by omega)], rfl⟩)))))))))))))))))))))))))))
  · refine T.seq (T.region (L.op rfl rfl (O.assign rfl (L.nil (T.seq (T.region (L.op rfl rfl (O.move rfl (L.op rfl rfl (O.geq_f rfl rfl (by omega) (L.op rfl rfl (O.move rfl (L.pass rfl rfl (L.pass rfl rfl (L.op rfl rfl (O.pick_false rfl rfl (L.op rfl rfl (O.move rfl (L.op rfl rfl (O.move rfl (L.op rfl rfl (O.geq_f rfl rfl (by omega) (L.op rfl rfl (O.move rfl (L.pass rfl rfl (L.pass rfl rfl (L.op rfl rfl (O.pick_false rfl rfl (L.op rfl rfl (O.pick_false rfl rfl (L.op rfl rfl (O.move rfl (L.op rfl rfl (O.move rfl (L.op rfl rfl (O.geq_f rfl rfl (by omega) (L.op rfl rfl (O.move rfl (?_)))))))))))))))))))))))))))))))))))))))
    refine L.pass rfl rfl (L.pass rfl rfl (L.op rfl rfl (O.pick_false rfl rfl (L.op rfl rfl (O.pick_false rfl rfl (L.op rfl rfl (O.move rfl (L.op rfl rfl (O.move rfl (L.op rfl rfl (O.eql_f rfl rfl (by omega) (L.op rfl rfl (O.pick_false rfl rfl (L.op rfl rfl (O.move rfl (L.op rfl rfl (O.move rfl (L.op rfl rfl (O.eql_f rfl rfl (by omega) (L.op rfl rfl (O.pick_false rfl rfl (L.op rfl rfl (O.assign rfl (L.nil (T.ret1 Tryz.results85 rfl ⟨by rw [letter_no (by omega)], rfl⟩)))))))))))))))))))))))))
  · refine T.seq (T.region (L.op rfl rfl (O.assign rfl (L.nil (T.seq (T.region (L.op rfl rfl (O.move rfl (L.op rfl rfl (O.geq_f rfl rfl (by omega) (L.op rfl rfl (O.move rfl (L.pass rfl rfl (L.pass rfl rfl (L.op rfl rfl (O.pick_false rfl rfl (L.op rfl rfl (O.move rfl (L.op rfl rfl (O.move rfl (L.op rfl rfl (O.geq_f rfl rfl (by omega) (L.op rfl rfl (O.move rfl (L.pass rfl rfl (L.pass rfl rfl (L.op rfl rfl (O.pick_false rfl rfl (L.op rfl rfl (O.pick_false rfl rfl (L.op rfl rfl (O.move rfl (L.op rfl rfl (O.move rfl (L.op rfl rfl (O.geq_t rfl rfl (by omega) (L.op rfl rfl (O.move rfl (?_)))))))))))))))))))))))))))))))))))))))
    refine L.op rfl rfl (O.move rfl (L.op rfl rfl (O.leq_f rfl rfl (by omega) (L.op rfl rfl (O.pick_true rfl rfl (L.op rfl rfl (O.pick_false rfl rfl (L.op rfl rfl (O.move rfl (L.op rfl rfl (O.move rfl (L.op rfl rfl (O.eql_f rfl rfl (by omega) (L.op rfl rfl (O.pick_false rfl rfl (L.op rfl rfl (O.move rfl (L.op rfl rfl (O.move rfl (L.op rfl rfl (O.eql_f rfl rfl (by omega) (L.op rfl rfl (O.pick_false rfl rfl (L.op rfl rfl (O.assign rfl (L.nil (T.ret1 Tryz.results85 rfl ⟨by rw [letter_no (by omega)], rfl⟩)))))))))))))))))))))))))))
  · refine T.seq (T.region (L.op rfl rfl (O.assign rfl (L.nil (T.seq (T.region (L.op rfl rfl (O.move rfl (L.op rfl rfl (O.geq_t rfl rfl (by omega) (L.op rfl rfl (O.move rfl (L.op rfl rfl (O.move rfl (L.op rfl rfl (O.leq_f rfl rfl (by omega) (L.op rfl rfl (O.pick_true rfl rfl (L.op rfl rfl (O.move rfl (L.op rfl rfl (O.move rfl (L.op rfl rfl (O.geq_f rfl rfl (by omega) (L.op rfl rfl (O.move rfl (L.pass rfl rfl (L.pass rfl rfl (L.op rfl rfl (O.pick_false rfl rfl (L.op rfl rfl (O.pick_false rfl rfl (L.op rfl rfl (O.move rfl (L.op rfl rfl (O.move rfl (L.op rfl rfl (O.geq_t rfl rfl (by omega) (L.op rfl rfl (O.move rfl (?_)))))))))))))))))))))))))))))))))))))))))
    refine L.op rfl rfl (O.move rfl (L.op rfl rfl (O.leq_f rfl rfl (by omega) (L.op rfl rfl (O.pick_true rfl rfl (L.op rfl rfl (O.pick_false rfl rfl (L.op rfl rfl (O.move rfl (L.op rfl rfl (O.move rfl (L.op rfl rfl (O.eql_f rfl rfl (by omega) (L.op rfl rfl (O.pick_false rfl rfl (L.op rfl rfl (O.move rfl (L.op rfl rfl (O.move rfl (L.op rfl rfl (O.eql_f rfl rfl (by omega) (L.op rfl rfl (O.pick_false rfl rfl (L.op rfl rfl (O.assign rfl (L.nil (T.ret1 Tryz.results85 rfl ⟨by rw [letter_no (by omega)], rfl⟩)))))))))))))))))))))))))))
  · refine T.seq (T.region (L.op rfl rfl (O.assign rfl (L.nil (T.seq (T.region (L.op rfl rfl (O.move rfl (L.op rfl rfl (O.geq_t rfl rfl (by omega) (L.op rfl rfl (O.move rfl (L.op rfl rfl (O.move rfl (L.op rfl rfl (O.leq_f rfl rfl (by omega) (L.op rfl rfl (O.pick_true rfl rfl (L.op rfl rfl (O.move rfl (L.op rfl rfl (O.move rfl (L.op rfl rfl (O.geq_t rfl rfl (by omega) (L.op rfl rfl (O.move rfl (L.op rfl rfl (O.move rfl (L.op rfl rfl (O.leq_f rfl rfl (by omega) (L.op rfl rfl (O.pick_true rfl rfl (L.op rfl rfl (O.pick_false rfl rfl (L.op rfl rfl (O.move rfl (L.op rfl rfl (O.move rfl (L.op rfl rfl (O.geq_t rfl rfl (by omega) (L.op rfl rfl (O.move rfl (?_)))))))))))))))))))))))))))))))))))))))))))
    refine L.op rfl rfl (O.move rfl (L.op rfl rfl (O.leq_f rfl rfl (by omega) (L.op rfl rfl (O.pick_true rfl rfl (L.op rfl rfl (O.pick_false rfl rfl (L.op rfl rfl (O.move rfl (L.op rfl rfl (O.move rfl (L.op rfl rfl (O.eql_f rfl rfl (by omega) (L.op rfl rfl (O.pick_false rfl rfl (L.op rfl rfl (O.move rfl (L.op rfl rfl (O.move rfl (L.op rfl rfl (O.eql_f rfl rfl (by omega) (L.op rfl rfl (O.pick_false rfl rfl (L.op rfl rfl (O.assign rfl (L.nil (T.ret1 Tryz.results85 rfl ⟨by rw [letter_no (by omega)], rfl⟩)))))))))))))))))))))))))))

theorem plain_calls (c : Int) (w : World) :
    Calls Tryz.prog 86 #[.int .i32 c] w (Ret fun v w' => v = .bool (plainI c) ∧ w' = w) := by
  refine T.enter (vs := [.int .i32 c]) Tryz.func86 rfl Tryz.ntmps86 rfl ?_
  refine T.seq (T.region (L.op rfl rfl (O.assign rfl (L.nil (T.seq (T.region (L.op rfl rfl (O.move rfl (L.op rfl rfl (O.geq_s rfl rfl (fun h1 => ?_) (fun h1 => ?_)))))))))))
  · refine L.op rfl rfl (O.move rfl (L.op rfl rfl (O.move rfl (L.op rfl rfl (O.leq_s rfl rfl (fun h2 => ?_) (fun h2 => ?_))))))
    · refine L.op rfl rfl (O.pick_true rfl rfl (L.op rfl rfl (O.assign rfl (L.nil (T.ret1 Tryz.results86 rfl ⟨by rw [plainI, decide_eq_true ⟨h1, h2⟩], rfl⟩)))))
    · refine L.op rfl rfl (O.pick_true rfl rfl (L.op rfl rfl (O.assign rfl (L.nil (T.ret1 Tryz.results86 rfl ⟨by rw [plainI, decide_eq_false (fun h => h2 h.2)], rfl⟩)))))
  · refine L.op rfl rfl (O.move rfl (L.pass rfl rfl (L.pass rfl rfl (L.op rfl rfl (O.pick_false rfl rfl (L.op rfl rfl (O.assign rfl (L.nil (T.ret1 Tryz.results86 rfl ⟨by rw [plainI, decide_eq_false (fun h => h1 h.1)], rfl⟩)))))))))

end Go.Proofs.YtmnihgcffdmodaaGreatDoor
set_option linter.unusedVariables false
set_option linter.unusedSimpArgs false
set_option maxRecDepth 20000
namespace Go.Proofs.YtmnihgcffdmodaaGreatDoor
open Go Go.E RowKit
attribute [local irreducible] Go.E.T Go.E.L Go.E.O Go.E.Ob

attribute [local irreducible] Go.E.ObX
theorem made1_calls (g : FuncId) (q : Int → Bool) (b : Nat) (t : TypeId) (c : Int) (w : World) (hb : Blk w b [.func (.func g) #[] #[]] t) (hcl : ∀ args w, (callFunc g args).run Tryz.prog w = .ok (.enter g args) w) (hcall : ∀ (c : Int) (W : World), Calls Tryz.prog g (#[] ++ [.int .i32 c].toArray ++ #[]) W (Ret fun v W' => v = .bool (q c) ∧ W' = W)) :
    Calls Tryz.prog 123 #[.int .i32 c, .pointer (some ⟨b, 0, none⟩)] w (Ret fun v w' => v = .bool (!q c) ∧ w' = w) := by
  refine T.enter (vs := [.int .i32 c, .pointer (some ⟨b, 0, none⟩)]) Tryz.func123 rfl Tryz.ntmps123 rfl ?_
  refine T.seq (T.region (L.op rfl rfl (O.assign rfl (L.nil (T.seq (T.region (L.op rfl rfl (O.load Tryz.isAgg125 rfl (hb.cell rfl) (L.op rfl rfl (O.move rfl (L.op rfl rfl (O.call (xs := [.tmp 5]) hcl rfl rfl (hcall c w) (fun v1 w1 hq => ?_)))))))))))))
  obtain ⟨rfl, rfl⟩ := hq
  refine L.op rfl rfl (O.not rfl (L.op rfl rfl (O.assign rfl (L.nil (T.ret1 Tryz.results123 rfl ⟨rfl, rfl⟩)))))

theorem containsF {q : Int → Bool} (hq : ∀ c : Int, 128 ≤ c → q c = false) (g : FuncId) (b : Nat) (t : TypeId) (s : Str) (w : World) (hb : Blk w b [.func (.func g) #[] #[]] t) (hcl : ∀ args w, (callFunc g args).run Tryz.prog w = .ok (.enter g args) w) (hcall : ∀ (c : Int) (W : World), Calls Tryz.prog g (#[] ++ [.int .i32 c].toArray ++ #[]) W (Ret fun v W' => v = .bool (q c) ∧ W' = W)) :
    Calls Tryz.prog 122 #[str s, .func (.func 123) #[] #[.pointer (some ⟨b, 0, none⟩)]] w (Ret fun v w' => v = .bool (!allB q s) ∧ Ext w w') := by
  have h := Tryz.strings_ContainsFunc_grows 123 #[.pointer (some ⟨b, 0, none⟩)] Tryz.call123 (fun n => !q (n : Int)) ⟨s.toArray⟩ w (fun W x hx hB => (made1_calls g q b t (x : Int) W (hb.ext (Ext.of_below hB)) hcl hcall).mono (fun e w' h => by
    cases e with
    | returned v => obtain ⟨rfl, rfl⟩ := h; exact ⟨rfl, Below.refl _ _⟩
    | panicked _ => exact h.elim
    | _ => exact h.elim))
  rw [contains_allB hq] at h
  exact of_shelf h
theorem letter_big : ∀ c : Int, 128 ≤ c → letterI c = false := fun c h => letter_no (by omega)
theorem plain_big : ∀ c : Int, 128 ≤ c → plainI c = false := fun c h => decide_eq_false (by omega)
theorem made_calls (g : FuncId) (q : Int → Bool) (hq : ∀ c : Int, 128 ≤ c → q c = false) (s : Str) (lo hi : Int) (w : World) (hn : s.length ≤ 9223372036854775807) (hcl : ∀ args w, (callFunc g args).run Tryz.prog w = .ok (.enter g args) w) (hcall : ∀ (c : Int) (W : World), Calls Tryz.prog g (#[] ++ [.int .i32 c].toArray ++ #[]) W (Ret fun v W' => v = .bool (q c) ∧ W' = W)) :
    Calls Tryz.prog 84 #[str s, .int .i64 lo, .int .i64 hi, .func (.func g) #[] #[]] w (Ret fun v w' => v = .bool (madeB q lo hi s) ∧ Ext w w') := by
  refine T.enter (vs := [str s, .int .i64 lo, .int .i64 hi, .func (.func g) #[] #[]]) Tryz.func84 rfl Tryz.ntmps84 rfl ?_
  refine T.seq (T.region (L.op rfl rfl (O.box rfl (fun b1 w1 hb1 hz1 he1 hB1 => ?_))))
  refine L.op rfl rfl (O.assign rfl (L.nil (T.seq (T.region (L.op rfl rfl (O.move rfl (L.op rfl rfl (O.len_str Tryz.runUnderlying9 rfl (L.op rfl rfl (O.move rfl (L.op rfl rfl (O.geq_s rfl rfl (fun h1 => ?_) (fun h1 => ?_)))))))))))))
  · refine L.op rfl rfl (O.move rfl (L.op rfl rfl (O.move rfl (L.op rfl rfl (O.len_str Tryz.runUnderlying9 rfl (L.op rfl rfl (O.move rfl (L.op rfl rfl (O.leq_s rfl rfl (fun h2 => ?_) (fun h2 => ?_))))))))))
    · refine L.op rfl rfl (O.pick_true rfl rfl (L.op rfl rfl (O.move rfl (L.op rfl rfl (O.move rfl (L.op rfl rfl (O.makeFunc (fi := []) (ca := [.tmp 7]) rfl rfl (L.op rfl rfl (O.call (xs := [.tmp 20, .tmp 21]) Tryz.call122 rfl rfl (containsF hq g b1 _ s w1 hB1 hcl hcall) (fun v2 w2 hq => ?_))))))))))
      obtain ⟨rfl, he2⟩ := hq
      refine L.op rfl rfl (O.not rfl (L.op rfl rfl (O.pick_true rfl rfl (L.op rfl rfl (O.assign rfl (L.nil (T.ret1 Tryz.results84 rfl ⟨by rw [madeB, decide_eq_true h1, decide_eq_true h2]; simp, he1.trans he2⟩)))))))
    · refine L.op rfl rfl (O.pick_true rfl rfl (L.op rfl rfl (O.move rfl (L.pass rfl rfl (L.pass rfl rfl (L.pass rfl rfl (L.pass rfl rfl (L.op rfl rfl (O.pick_false rfl rfl (L.op rfl rfl (O.assign rfl (L.nil (T.ret1 Tryz.results84 rfl ⟨by rw [madeB, decide_eq_false h2]; simp, he1⟩)))))))))))))
  · refine L.op rfl rfl (O.move rfl (L.pass rfl rfl (L.pass rfl rfl (L.pass rfl rfl (L.pass rfl rfl (L.op rfl rfl (O.pick_false rfl rfl (L.op rfl rfl (O.move rfl (L.pass rfl rfl (L.pass rfl rfl (L.pass rfl rfl (L.pass rfl rfl (L.op rfl rfl (O.pick_false rfl rfl (L.op rfl rfl (O.assign rfl (L.nil (T.ret1 Tryz.results84 rfl ⟨by rw [madeB, decide_eq_false h1]; rfl, he1⟩)))))))))))))))))))

theorem named_calls (s : Str) (w : World) (hn : s.length ≤ 9223372036854775807) :
    Calls Tryz.prog 50 #[str s] w (Ret fun v w' => v = .bool (nameB s) ∧ Ext w w') := by
  refine T.enter (vs := [str s]) Tryz.func50 rfl Tryz.ntmps50 rfl ?_
  refine T.seq (T.region (L.op rfl rfl (O.assign rfl (L.nil (T.seq (T.region (L.op rfl rfl (O.move rfl (L.op rfl rfl (O.call (xs := [.tmp 3, .const (.int .i64 1), .const (.int .i64 12), .func 85]) Tryz.call84 rfl rfl (made_calls 85 letterI letter_big s 1 12 w hn Tryz.call85 (fun c W ↦ named1_calls c W)) (fun v1 w1 hq => ?_)))))))))))
  obtain ⟨rfl, he1⟩ := hq
  refine L.op rfl rfl (O.assign rfl (L.nil (T.ret1 Tryz.results50 rfl ⟨rfl, he1⟩)))

theorem plain_made (s : Str) (lo hi : Int) (w : World) (hn : s.length ≤ 9223372036854775807) : Calls Tryz.prog 84 #[str s, .int .i64 lo, .int .i64 hi, .func (.func 86) #[] #[]] w (Ret fun v w' => v = .bool (madeB plainI lo hi s) ∧ Ext w w') :=
  made_calls 86 plainI plain_big s lo hi w hn Tryz.call86 (fun c W => plain_calls c W)
/-- An entry. -/
structure En where
  k : Int
  who : Str
  item : Str
  sl : Nat
  con : Str
  non : Str
deriving DecidableEq
def e0 : En := ⟨0, [], [], 0, [], []⟩
def En.cells (x : En) : List Value := [.int .i64 x.k, str x.who, str x.item, wordV x.sl, str x.con, str x.non]
def En.val (x : En) : Value := .agg x.cells.toArray
structure En.ok (x : En) : Prop where
  who : x.who.length ≤ 9223372036854775807
  item : x.item.length ≤ 9223372036854775807
  sl : x.sl < 18446744073709551616
  con : x.con.length ≤ 9223372036854775807
  non : x.non.length ≤ 9223372036854775807
/-- An item. -/
structure It where
  nm : Str
  ow : Str
  ver : Int
  sl : Nat
  wd : Bool
  op : Bool
  con : Str
deriving DecidableEq
def i0 : It := ⟨[], [], 0, 0, false, false, []⟩
def It.cells (x : It) : List Value := [str x.nm, str x.ow, .int .i64 x.ver, wordV x.sl, .bool x.wd, .bool x.op, str x.con]
def It.val (x : It) : Value := .agg x.cells.toArray
theorem partS (t : TypeId) (ha : ∀ w, (isAgg t).run Tryz.prog w = .ok false w) (cs : Array Value) (i : Nat) (v : Value) (w : World) (h : cs[i]? = some v) : (part t cs i).run Tryz.prog w = .ok v w := by
  simp [part, ha w, h]
end Go.Proofs.YtmnihgcffdmodaaGreatDoor
set_option linter.unusedVariables false
set_option linter.unusedSimpArgs false
set_option maxRecDepth 20000
namespace Go.Proofs.YtmnihgcffdmodaaGreatDoor
open Go Go.E RowKit
attribute [local irreducible] Go.E.T Go.E.L Go.E.O Go.E.Ob

attribute [local irreducible] Go.E.ObX
theorem eqS (n : Nat) (a b : Str) (w : World) : (Op.equalIn (n + 1) 9 (str a) (str b)).run Tryz.prog w = .ok (decide (a = b)) w := by
  simp only [str, Op.equalIn, Sem.run_bind, Tryz.runUnderlying9 w, Result.andThen_ok, Sem.run_pure]
  rw [← bytes_beq]
theorem eqI (n : Nat) (x y : Int) (w : World) : (Op.equalIn (n + 1) 3 (.int .i64 x) (.int .i64 y)).run Tryz.prog w = .ok (decide (x = y)) w := by
  rw [run_equalIn_int w n 3 _ .i64 x y (by kernel_rfl)]
  by_cases h : x = y <;> simp [h]
theorem eqW (n : Nat) (x y : Nat) (w : World) : (Op.equalIn (n + 1) 25 (wordV x) (wordV y)).run Tryz.prog w = .ok (decide (x = y)) w := by
  unfold wordV
  rw [run_equalIn_int w n 25 _ .u64 x y (by kernel_rfl)]
  by_cases h : x = y <;> simp [h]
  omega
theorem eqEn (a b : En) (w : World) : (Op.equalIn 10000 42 a.val b.val).run Tryz.prog w = .ok (decide (a = b)) w := by
  obtain ⟨a1, a2, a3, a4, a5, a6⟩ := a
  obtain ⟨b1, b2, b3, b4, b5, b6⟩ := b
  unfold En.val
  rw [run_equalIn_struct w 9999 42 _ _ (by kernel_rfl) (by kernel_rfl)]
  rw [show (Tryz.prog.fieldsOf 42).toList = [{ name := "Kind", type := 3, offset := 0, embedded := false, tag := "", pkgPath := "", byteOffset := 0 }, { name := "Who", type := 9, offset := 1, embedded := false, tag := "", pkgPath := "", byteOffset := 8 }, { name := "Item", type := 9, offset := 2, embedded := false, tag := "", pkgPath := "", byteOffset := 24 }, { name := "Seal", type := 25, offset := 3, embedded := false, tag := "", pkgPath := "", byteOffset := 40 }, { name := "Content", type := 9, offset := 4, embedded := false, tag := "", pkgPath := "", byteOffset := 48 }, { name := "Nonce", type := 9, offset := 5, embedded := false, tag := "", pkgPath := "", byteOffset := 64 }] from by kernel_rfl]
  have p0 : ∀ (x : En) (w : World), (part 3 x.cells.toArray 0).run Tryz.prog w = .ok (.int .i64 x.k) w := fun x w => partS _ Tryz.isAgg3 _ _ _ w rfl
  have p1 : ∀ (x : En) (w : World), (part 9 x.cells.toArray 1).run Tryz.prog w = .ok (str x.who) w := fun x w => partS _ Tryz.isAgg9 _ _ _ w rfl
  have p2 : ∀ (x : En) (w : World), (part 9 x.cells.toArray 2).run Tryz.prog w = .ok (str x.item) w := fun x w => partS _ Tryz.isAgg9 _ _ _ w rfl
  have p3 : ∀ (x : En) (w : World), (part 25 x.cells.toArray 3).run Tryz.prog w = .ok (wordV x.sl) w := fun x w => partS _ Tryz.isAgg25 _ _ _ w rfl
  have p4 : ∀ (x : En) (w : World), (part 9 x.cells.toArray 4).run Tryz.prog w = .ok (str x.con) w := fun x w => partS _ Tryz.isAgg9 _ _ _ w rfl
  have p5 : ∀ (x : En) (w : World), (part 9 x.cells.toArray 5).run Tryz.prog w = .ok (str x.non) w := fun x w => partS _ Tryz.isAgg9 _ _ _ w rfl
  have eS := eqS 9998
  have eI := eqI 9998
  have eW := eqW 9998
  simp only [Op.eqFields]
  by_cases h1 : a1 = b1
  · by_cases h2 : a2 = b2
    · by_cases h3 : a3 = b3
      · by_cases h4 : a4 = b4
        · by_cases h5 : a5 = b5
          · by_cases h6 : a6 = b6
            · simp [h1, h2, h3, h4, h5, h6, p0, p1, p2, p3, p4, p5, eS, eI, eW]
            · simp [h1, h2, h3, h4, h5, h6, p0, p1, p2, p3, p4, p5, eS, eI, eW]
          · simp [h1, h2, h3, h4, h5, p0, p1, p2, p3, p4, p5, eS, eI, eW]
        · simp [h1, h2, h3, h4, p0, p1, p2, p3, p4, p5, eS, eI, eW]
      · simp [h1, h2, h3, p0, p1, p2, p3, p4, p5, eS, eI, eW]
    · simp [h1, h2, p0, p1, p2, p3, p4, p5, eS, eI, eW]
  · simp [h1, p0, p1, p2, p3, p4, p5, eS, eI, eW]
theorem eqEn_guard : Tryz.prog.eqGuardType Tryz.prog.depth 42 = false := by kernel_rfl
section
variable {C : Cx} {e : Env} {w : World} {K : Value → World → Prop} {d : Option Tmp} {ty : TypeId} {pos : String} {aft : Array Edge} {g : Option (Nat × Bool)} {x y : Operand}
theorem O.eqlEn {p q : En} (hP : C.P = Tryz.prog) (hx : ev e x = some p.val) (hy : ev e y = some q.val) (h : K (.bool (decide (p = q))) w) : O C e ⟨d, .binOp .eql 42 x y 42, ty, pos, aft, g⟩ w K :=
  O.of_run (by simp) (fun ac hq => by
    rw [hP]
    have h1 := eqEn p q w
    unfold En.val at hx hy h1
    simp only [execOp, hq.eval hx, hq.eval hy, Sem.run_bind, run_eqGuard_agg w _ _ _ _ _ _ eqEn_guard, Result.andThen_ok, run_eql_struct, h1]
    rfl) h
end
end Go.Proofs.YtmnihgcffdmodaaGreatDoor
set_option linter.unusedVariables false
set_option linter.unusedSimpArgs false
set_option maxRecDepth 20000
namespace Go.Proofs.YtmnihgcffdmodaaGreatDoor
open Go Go.E RowKit
attribute [local irreducible] Go.E.T Go.E.L Go.E.O Go.E.Ob

attribute [local irreducible] Go.E.ObX
/-- The fields of an entry are as they must be. -/
def rightE (x : En) : Bool := decide (1 ≤ x.k ∧ x.k ≤ 5) && (nameB x.who && ((if x.k = 4 then decide (x.item = []) else nameB x.item) && ((decide (x.k = 1 ∨ x.k = 2) || decide (x.sl = 0)) && (if x.k = 5 then madeB plainI 0 200 x.con && madeB plainI 1 40 x.non else decide (x.con = []) && decide (x.non = [])))))
def r0E (x : En) : En := ⟨0, [], x.item, x.sl, x.con, x.non⟩
def r1E (x : En) : En := ⟨0, [], if x.k = 4 then x.item else [], x.sl, x.con, x.non⟩
def r2E (x : En) : En := ⟨0, [], if x.k = 4 then x.item else [], if x.k = 1 ∨ x.k = 2 then 0 else x.sl, if x.k = 5 then [] else x.con, if x.k = 5 then [] else x.non⟩
def ok1E (x : En) : Bool := nameB x.who && (decide (x.k = 4) || nameB x.item)
def ok2E (x : En) : Bool := ok1E x && (!decide (x.k = 5) || (madeB plainI 0 200 x.con && madeB plainI 1 40 x.non))
theorem right_eq {x : En} (h : 1 ≤ x.k ∧ x.k ≤ 5) : rightE x = (ok2E x && decide (r2E x = e0)) := by
  obtain ⟨k, a, b, c, d, e⟩ := x
  simp only at h
  rw [Bool.eq_iff_iff]
  simp only [rightE, ok2E, ok1E, r2E, e0, En.mk.injEq, Bool.and_eq_true, Bool.or_eq_true, decide_eq_true_eq, Bool.not_eq_true', decide_eq_false_iff_not]
  by_cases h4 : k = 4
  · subst h4; simp
  · by_cases h5 : k = 5
    · subst h5; simp; grind
    · by_cases h12 : k = 1 ∨ k = 2
      · simp [h4, h5, h12]; grind
      · simp [h4, h5, h12]; grind
theorem right_no {x : En} (h : ¬ (1 ≤ x.k ∧ x.k ≤ 5)) : rightE x = false := by simp [rightE, h]
theorem En.one (x : En) : ∀ u ∈ x.cells, u.oneCell' = true := by
  intro u hu
  simp only [En.cells, List.mem_cons, List.mem_nil_iff, or_false] at hu
  rcases hu with rfl | rfl | rfl | rfl | rfl | rfl <;> rfl
theorem right_calls (x : En) (w : World) (hx : x.ok) :
    Calls Tryz.prog 51 #[x.val] w (Ret fun v w' => v = .bool (rightE x) ∧ Ext w w') := by
  refine T.enter (vs := [x.val]) Tryz.func51 rfl Tryz.ntmps51 rfl ?_
  refine T.seq (T.region (L.op rfl rfl (O.box rfl (fun b1 w1 hb1 hz1 he1 hB1 => ?_))))
  have hE1 : Blk w1 b1 x.cells 42 := hB1
  refine L.op rfl rfl (O.assign rfl (L.nil (T.seq (T.region (L.op rfl rfl (O.loadAgg Tryz.isAgg42 Tryz.sizeOf42 rfl rfl hE1.row (L.op rfl rfl (O.alloc Tryz.zeroValue42 (fun b2 w2 hb2 hz2 he2 hB2 => ?_)))))))))
  have hz : Blk w2 b2 e0.cells 42 := hB2
  refine L.op rfl rfl (O.storeAgg Tryz.sizeOf42 rfl rfl rfl hz (Nat.le_refl _) x.one (fun w3 hu3 hB3 => ?_))
  have hR3 : Blk w3 b2 x.cells 42 := hB3
  have hne : b1 ≠ b2 := by omega
  have hE3 : Blk w3 b1 x.cells 42 := (hE1.ext he2).upd hu3 hne
  have he03 : Ext w w3 := (he1.trans he2).upd hu3 (.inr (by omega))
  refine L.nil (T.seq (T.region (L.op rfl rfl (O.fieldAddr Tryz.runUnderlying42 rfl Tryz.sizeOf3 rfl (L.op rfl rfl (O.store1 Tryz.sizeOf3 rfl rfl rfl hR3 (by simp [En.cells]) (fun w4 hu4 hB4 => ?_)))))))
  have hu4 : Upd b2 _ _ := hu4
  refine L.op rfl rfl (O.fieldAddr Tryz.runUnderlying42 rfl Tryz.sizeOf9 rfl (L.op rfl rfl (O.store1 Tryz.sizeOf9 rfl rfl rfl hB4 (by simp [En.cells]) (fun w5 hu5 hB5 => ?_))))
  have hu5 : Upd b2 _ _ := hu5
  have hR5 : Blk w5 b2 (r0E x).cells 42 := hB5
  have hE5 : Blk w5 b1 x.cells 42 := (hE3.upd hu4 hne).upd hu5 hne
  have he05 : Ext w w5 := (he03.upd hu4 (.inr (by omega))).upd hu5 (.inr (by omega))
  refine L.nil (T.seq (?_))
  refine T.join (σ := Unit) (fun _ => [(1, .pointer (some ⟨b1, 0, none⟩)), (3, .pointer (some ⟨b2, 0, none⟩))]) (fun _ w' => Ext w w' ∧ Blk w' b1 x.cells 42 ∧ Blk w' b2 (r1E x).cells 42) ?_ ?_
  · refine T.seq (T.region (L.op rfl rfl (O.fieldAddr Tryz.runUnderlying42 rfl Tryz.sizeOf3 rfl (L.op rfl rfl (O.load Tryz.isAgg3 rfl (hE5.cell rfl) (L.op rfl rfl (O.neq_s rfl rfl (fun hk => ?_) (fun hk => ?_))))))))
    · refine L.nil (T.cond_true rfl (T.region (L.op rfl rfl (O.fieldAddr Tryz.runUnderlying42 rfl Tryz.sizeOf9 rfl (L.op rfl rfl (O.store1 Tryz.sizeOf9 rfl rfl rfl hR5 (by simp [En.cells]) (fun w6 hu6 hB6 => ?_)))))))
      have hu6 : Upd b2 _ _ := hu6
      refine L.nil (T.meet (()) ⟨rfl, rfl, trivial⟩ ⟨he05.upd hu6 (.inr (by omega)), hE5.upd hu6 hne, by rw [r1E, if_neg hk]; exact hB6⟩)
    · refine L.nil (T.cond_false rfl (T.skip (T.meet (()) ⟨rfl, rfl, trivial⟩ ⟨he05, hE5, by rw [r1E, if_pos (by omega)]; exact hR5⟩)))
  rintro _ w6 ⟨he6, hE6, hR6⟩
  refine T.seq (?_)
  refine T.join (σ := Unit) (fun _ => [(1, .pointer (some ⟨b1, 0, none⟩)), (3, .pointer (some ⟨b2, 0, none⟩)), (4, .bool (ok1E x))]) (fun _ w' => Ext w6 w') ?_ ?_
  · rcases hw : nameB x.who with _ | _
    · refine T.region (L.op rfl rfl (O.fieldAddr Tryz.runUnderlying42 rfl Tryz.sizeOf9 rfl (L.op rfl rfl (O.load Tryz.isAgg9 rfl (hE6.cell rfl) (L.op rfl rfl (O.call (xs := [.tmp 13]) Tryz.call50 rfl rfl (named_calls x.who w6 hx.who) (fun v8 w8 hq => ?_)))))))
      obtain ⟨hv8, he8⟩ := hq
      rw [hw] at hv8
      subst hv8
      refine L.op rfl rfl (O.move rfl (L.pass rfl rfl (L.pass rfl rfl (L.pass rfl rfl (L.pass rfl rfl (L.pass rfl rfl (L.pass rfl rfl (L.pass rfl rfl (L.pass rfl rfl (L.op rfl rfl (O.pick_false rfl rfl (L.op rfl rfl (O.assign rfl (L.nil (T.meet (()) ⟨rfl, rfl, ?_, trivial⟩ he8)))))))))))))))
      · rw [ok1E, hw]; rfl
    · refine T.region (L.op rfl rfl (O.fieldAddr Tryz.runUnderlying42 rfl Tryz.sizeOf9 rfl (L.op rfl rfl (O.load Tryz.isAgg9 rfl (hE6.cell rfl) (L.op rfl rfl (O.call (xs := [.tmp 13]) Tryz.call50 rfl rfl (named_calls x.who w6 hx.who) (fun v8 w8 hq => ?_)))))))
      obtain ⟨hv8, he8⟩ := hq
      rw [hw] at hv8
      subst hv8
      refine L.op rfl rfl (O.move rfl (L.op rfl rfl (O.fieldAddr Tryz.runUnderlying42 rfl Tryz.sizeOf3 rfl (L.op rfl rfl (O.load Tryz.isAgg3 rfl ((hE6.ext he8).cell rfl) (L.op rfl rfl (O.eql_s rfl rfl (fun hk => ?_) (fun hk => ?_))))))))
      · refine L.op rfl rfl (O.move rfl (L.pass rfl rfl (L.pass rfl rfl (L.pass rfl rfl (L.op rfl rfl (O.pick_true rfl rfl (L.op rfl rfl (O.pick_true rfl rfl (L.op rfl rfl (O.assign rfl (L.nil (T.meet (()) ⟨rfl, rfl, ?_, trivial⟩ he8))))))))))))
        · rw [ok1E, hw, decide_eq_true hk]; rfl
      · refine L.op rfl rfl (O.move rfl (L.op rfl rfl (O.fieldAddr Tryz.runUnderlying42 rfl Tryz.sizeOf9 rfl (L.op rfl rfl (O.load Tryz.isAgg9 rfl ((hE6.ext he8).cell rfl) (L.op rfl rfl (O.call (xs := [.tmp 21]) Tryz.call50 rfl rfl (named_calls x.item w8 hx.item) (fun v9 w9 hq => ?_))))))))
        obtain ⟨rfl, he9⟩ := hq
        refine L.op rfl rfl (O.pick_false rfl rfl (L.op rfl rfl (O.pick_true rfl rfl (L.op rfl rfl (O.assign rfl (L.nil (T.meet (()) ⟨rfl, rfl, ?_, trivial⟩ (he8.trans he9))))))))
        · rw [show ok1E x = nameB x.item from by rw [ok1E, hw, decide_eq_false hk]; simp]; rfl
  rintro _ w7 he7
  have hE7 := hE6.ext he7
  have hR7 := hR6.ext he7
  have he07 := he6.trans he7
  refine T.seq (T.seq (T.region (L.op rfl rfl (O.fieldAddr Tryz.runUnderlying42 rfl Tryz.sizeOf3 rfl (L.op rfl rfl (O.load Tryz.isAgg3 rfl (hE7.cell rfl) (L.nil (?_))))))))
  refine T.join (σ := Unit) (fun _ => [(3, .pointer (some ⟨b2, 0, none⟩)), (4, .bool (ok2E x))]) (fun _ w' => Ext w w' ∧ Blk w' b2 (r2E x).cells 42 ∧ 1 ≤ x.k ∧ x.k ≤ 5) ?_ ?_
  · refine T.block (T.seq (T.seq (T.region (L.op rfl rfl (O.eql_s rfl rfl (fun h1 => ?_) (fun h1 => ?_))))))
    · refine L.op rfl rfl (O.assign rfl (L.nil (T.cond_true rfl (T.skip (T.cond_true rfl (T.region (L.op rfl rfl (O.fieldAddr Tryz.runUnderlying42 rfl Tryz.sizeOf25 rfl (L.op rfl rfl (O.store1 Tryz.sizeOf25 rfl rfl rfl hR7 (by simp [En.cells]) (fun w9 hu9 hB9 => ?_)))))))))))
      have hu9 : Upd b2 _ _ := hu9
      refine L.nil (T.blk (T.meet (()) ⟨rfl, ?_, trivial⟩ ⟨he07.upd hu9 (.inr (by omega)), by rw [r2E, if_pos (Or.inl h1), if_neg (by omega : ¬ x.k = 5), if_neg (by omega : ¬ x.k = 5)]; exact hB9, by omega, by omega⟩))
      · rw [show ok2E x = ok1E x from by rw [ok2E, decide_eq_false (by omega : ¬ x.k = 5)]; simp]; rfl
    · refine L.op rfl rfl (O.assign rfl (L.nil (T.cond_false rfl (T.region (L.op rfl rfl (O.eql_s rfl rfl (fun h2 => ?_) (fun h2 => ?_)))))))
      · refine L.op rfl rfl (O.assign rfl (L.nil (T.cond_true rfl (T.region (L.op rfl rfl (O.fieldAddr Tryz.runUnderlying42 rfl Tryz.sizeOf25 rfl (L.op rfl rfl (O.store1 Tryz.sizeOf25 rfl rfl rfl hR7 (by simp [En.cells]) (fun w9 hu9 hB9 => ?_)))))))))
        have hu9 : Upd b2 _ _ := hu9
        refine L.nil (T.blk (T.meet (()) ⟨rfl, ?_, trivial⟩ ⟨he07.upd hu9 (.inr (by omega)), by rw [r2E, if_pos (Or.inr h2), if_neg (by omega : ¬ x.k = 5), if_neg (by omega : ¬ x.k = 5)]; exact hB9, by omega, by omega⟩))
        · rw [show ok2E x = ok1E x from by rw [ok2E, decide_eq_false (by omega : ¬ x.k = 5)]; simp]; rfl
      · have hr : ¬ (x.k = 1 ∨ x.k = 2) := by omega
        refine L.op rfl rfl (O.assign rfl (L.nil (T.cond_false rfl (T.seq (T.region (L.op rfl rfl (O.eql_s rfl rfl (fun h5 => ?_) (fun h5 => ?_))))))))
        · refine L.op rfl rfl (O.assign rfl (L.nil (T.cond_true rfl (T.seq (T.region (L.op rfl rfl (O.fieldAddr Tryz.runUnderlying42 rfl Tryz.sizeOf9 rfl (L.op rfl rfl (O.store1 Tryz.sizeOf9 rfl rfl rfl hR7 (by simp [En.cells]) (fun w9 hu9 hB9 => ?_))))))))))
          have hu9 : Upd b2 _ _ := hu9
          refine L.op rfl rfl (O.fieldAddr Tryz.runUnderlying42 rfl Tryz.sizeOf9 rfl (L.op rfl rfl (O.store1 Tryz.sizeOf9 rfl rfl rfl hB9 (by simp [En.cells]) (fun w10 hu10 hB10 => ?_))))
          have hu10 : Upd b2 _ _ := hu10
          have hE10 : Blk w10 b1 x.cells 42 := (hE7.upd hu9 hne).upd hu10 hne
          have he10 : Ext w w10 := (he07.upd hu9 (.inr (by omega))).upd hu10 (.inr (by omega))
          have hR10 : Blk w10 b2 (r2E x).cells 42 := by rw [r2E, if_neg hr, if_pos h5, if_pos h5]; exact hB10
          rcases ho : ok1E x with _ | _
          · refine L.nil (T.region (L.op rfl rfl (O.move rfl (L.op rfl rfl (O.move rfl (L.pass rfl rfl (L.pass rfl rfl (L.pass rfl rfl (L.op rfl rfl (O.pick_false rfl rfl (L.op rfl rfl (O.move rfl (L.pass rfl rfl (L.pass rfl rfl (L.pass rfl rfl (L.op rfl rfl (O.pick_false rfl rfl (L.op rfl rfl (O.assign rfl (L.nil (T.blk (T.meet (()) ⟨rfl, ?_, trivial⟩ ⟨he10, hR10, by omega, by omega⟩))))))))))))))))))))))
            · rw [ok2E, ho]; rfl
          · refine L.nil (?_)
            rcases hc : madeB plainI 0 200 x.con with _ | _
            · refine T.region (L.op rfl rfl (O.move rfl (L.op rfl rfl (O.move rfl (L.op rfl rfl (O.fieldAddr Tryz.runUnderlying42 rfl Tryz.sizeOf9 rfl (L.op rfl rfl (O.load Tryz.isAgg9 rfl (hE10.cell rfl) (L.op rfl rfl (O.call (xs := [.tmp 38, .const (.int .i64 0), .const (.int .i64 200), .func 86]) Tryz.call84 rfl rfl (plain_made x.con 0 200 w10 hx.con) (fun v11 w11 hq => ?_)))))))))))
              obtain ⟨hv11, he11⟩ := hq
              rw [hc] at hv11
              subst hv11
              refine L.op rfl rfl (O.pick_true rfl rfl (L.op rfl rfl (O.move rfl (L.pass rfl rfl (L.pass rfl rfl (L.pass rfl rfl (L.op rfl rfl (O.pick_false rfl rfl (L.op rfl rfl (O.assign rfl (L.nil (T.blk (T.meet (()) ⟨rfl, ?_, trivial⟩ ⟨he10.trans he11, hR10.ext he11, by omega, by omega⟩)))))))))))))
              · rw [ok2E, ho, decide_eq_true h5, hc]; rfl
            · refine T.region (L.op rfl rfl (O.move rfl (L.op rfl rfl (O.move rfl (L.op rfl rfl (O.fieldAddr Tryz.runUnderlying42 rfl Tryz.sizeOf9 rfl (L.op rfl rfl (O.load Tryz.isAgg9 rfl (hE10.cell rfl) (L.op rfl rfl (O.call (xs := [.tmp 38, .const (.int .i64 0), .const (.int .i64 200), .func 86]) Tryz.call84 rfl rfl (plain_made x.con 0 200 w10 hx.con) (fun v11 w11 hq => ?_)))))))))))
              obtain ⟨hv11, he11⟩ := hq
              rw [hc] at hv11
              subst hv11
              refine L.op rfl rfl (O.pick_true rfl rfl (L.op rfl rfl (O.move rfl (L.op rfl rfl (O.fieldAddr Tryz.runUnderlying42 rfl Tryz.sizeOf9 rfl (L.op rfl rfl (O.load Tryz.isAgg9 rfl ((hE10.ext he11).cell rfl) (L.op rfl rfl (O.call (xs := [.tmp 43, .const (.int .i64 1), .const (.int .i64 40), .func 86]) Tryz.call84 rfl rfl (plain_made x.non 1 40 w11 hx.non) (fun v12 w12 hq => ?_))))))))))
              obtain ⟨rfl, he12⟩ := hq
              refine L.op rfl rfl (O.pick_true rfl rfl (L.op rfl rfl (O.assign rfl (L.nil (T.blk (T.meet (()) ⟨rfl, ?_, trivial⟩ ⟨(he10.trans he11).trans he12, (hR10.ext he11).ext he12, by omega, by omega⟩))))))
              · rw [show ok2E x = madeB plainI 1 40 x.non from by rw [ok2E, ho, decide_eq_true h5, hc]; simp]; rfl
        · have hR8' : r1E x = r2E x := by rw [r1E, r2E, if_neg hr, if_neg h5, if_neg h5]
          refine L.op rfl rfl (O.assign rfl (L.nil (T.cond_false rfl (T.seq (T.seq (T.region (L.op rfl rfl (O.eql_s rfl rfl (fun h3 => ?_) (fun h3 => ?_)))))))))
          · refine L.op rfl rfl (O.assign rfl (L.nil (T.cond_true rfl (T.skip (T.cond_true rfl (T.skip (T.blk (T.meet (()) ⟨rfl, ?_, trivial⟩ ⟨he07, hR8' ▸ hR7, by omega, by omega⟩))))))))
            · rw [show ok2E x = ok1E x from by rw [ok2E, decide_eq_false h5]; simp]; rfl
          · refine L.op rfl rfl (O.assign rfl (L.nil (T.cond_false rfl (T.region (L.op rfl rfl (O.eql_s rfl rfl (fun h4 => ?_) (fun h4 => ?_)))))))
            · refine L.op rfl rfl (O.assign rfl (L.nil (T.cond_true rfl (T.skip (T.blk (T.meet (()) ⟨rfl, ?_, trivial⟩ ⟨he07, hR8' ▸ hR7, by omega, by omega⟩))))))
              · rw [show ok2E x = ok1E x from by rw [ok2E, decide_eq_false h5]; simp]; rfl
            · refine L.op rfl rfl (O.assign rfl (L.nil (T.cond_false rfl (T.seq (T.region (L.op rfl rfl (O.assign rfl (L.nil (T.ret1 Tryz.results51 rfl ⟨by rw [right_no (by omega)], he07⟩)))))))))
  rintro _ w8 ⟨he8, hR8, hk1, hk5⟩
  rcases ho : ok2E x with _ | _
  · refine T.seq (T.region (L.op rfl rfl (O.move rfl (L.op rfl rfl (O.move rfl (L.pass rfl rfl (L.pass rfl rfl (L.pass rfl rfl (L.op rfl rfl (O.pick_false rfl rfl (L.op rfl rfl (O.assign rfl (L.nil (T.ret1 Tryz.results51 rfl ⟨by rw [right_eq ⟨hk1, hk5⟩, ho]; rfl, he8⟩))))))))))))))
  · refine T.seq (T.region (L.op rfl rfl (O.move rfl (L.op rfl rfl (O.move rfl (L.op rfl rfl (O.loadAgg Tryz.isAgg42 Tryz.sizeOf42 rfl rfl hR8.row (L.op rfl rfl (O.build (v := e0.val) (parts := []) (vs := []) rfl (fun w => by kernel_rfl) (L.op rfl rfl (O.eqlEn (p := r2E x) (q := e0) rfl rfl rfl (L.op rfl rfl (O.pick_true rfl rfl (L.op rfl rfl (O.assign rfl (L.nil (T.ret1 Tryz.results51 rfl ⟨by rw [right_eq ⟨hk1, hk5⟩, ho]; simp, he8⟩)))))))))))))))))

end Go.Proofs.YtmnihgcffdmodaaGreatDoor
set_option linter.unusedVariables false
set_option linter.unusedSimpArgs false
set_option maxRecDepth 20000
namespace Go.Proofs.YtmnihgcffdmodaaGreatDoor
open Go Go.E RowKit
attribute [local irreducible] Go.E.T Go.E.L Go.E.O Go.E.Ob

attribute [local irreducible] Go.E.ObX
section flat
variable {α : Type} {f : α → List Value} {sz : Nat}
theorem fl_len (hf : ∀ x, (f x).length = sz) : ∀ xs : List α, (xs.map f).flatten.length = xs.length * sz
  | [] => by simp
  | x :: r => by
    have := fl_len hf r
    simp only [List.map_cons, List.flatten_cons, List.length_append, List.length_cons] at this ⊢
    rw [this, hf]; rw [Nat.add_mul]; omega
theorem fl_append (xs ys : List α) : ((xs ++ ys).map f).flatten = (xs.map f).flatten ++ (ys.map f).flatten := by simp
theorem fl_one (x : α) : ([x].map f).flatten = f x := by simp
theorem fl_take (hf : ∀ x, (f x).length = sz) : ∀ (xs : List α) (n : Nat), (xs.map f).flatten.take (n * sz) = ((xs.take n).map f).flatten
  | [], n => by simp
  | x :: r, 0 => by simp
  | x :: r, n + 1 => by
    have := fl_take hf r n
    simp only [List.map_cons, List.flatten_cons, List.take_succ_cons] at this ⊢
    rw [show (n + 1) * sz = (f x).length + n * sz by rw [hf, Nat.add_mul]; omega, List.take_length_add_append, this]
theorem fl_drop (hf : ∀ x, (f x).length = sz) : ∀ (xs : List α) (n : Nat), (xs.map f).flatten.drop (n * sz) = ((xs.drop n).map f).flatten
  | [], n => by simp
  | x :: r, 0 => by simp
  | x :: r, n + 1 => by
    have := fl_drop hf r n
    simp only [List.map_cons, List.flatten_cons, List.drop_succ_cons] at this ⊢
    rw [show (n + 1) * sz = (f x).length + n * sz by rw [hf, Nat.add_mul]; omega, List.drop_length_add_append, this]
theorem fl_one_cell (h1 : ∀ x, ∀ u ∈ f x, u.oneCell' = true) (xs : List α) : ∀ c ∈ (xs.map f).flatten, c.oneCell' = true := fun c hc => by
  obtain ⟨l, hl, hc2⟩ := List.mem_flatten.1 hc
  obtain ⟨x, _, rfl⟩ := List.mem_map.1 hl
  exact h1 x c hc2
end flat
def Ens (lo : Nat) (w : World) (v : Value) (xs : List En) : Prop := Sl lo w v xs.length 6 (xs.map En.cells).flatten
def Its (lo : Nat) (w : World) (v : Value) (xs : List It) : Prop := Sl lo w v xs.length 7 (xs.map It.cells).flatten
theorem En.len (x : En) : x.cells.length = 6 := rfl
theorem It.len (x : It) : x.cells.length = 7 := rfl
theorem It.one (x : It) : ∀ u ∈ x.cells, u.oneCell' = true := by
  intro u hu
  simp only [It.cells, List.mem_cons, List.mem_nil_iff, or_false] at hu
  rcases hu with rfl | rfl | rfl | rfl | rfl | rfl | rfl <;> rfl
theorem Ens.row {lo : Nat} {w : World} {v : Value} {xs : List En} (h : Ens lo w v xs) {i : Nat} (hi : i < xs.length) : Row w ((sAddr v).add ((i : Int).toNat * 6)) (xs.getD i e0).cells := by
  rw [Int.toNat_natCast]
  refine Sl.elem h (fun c hc => ?_) (i := i) ?_ (by omega)
  · obtain ⟨u, _, rfl⟩ := List.mem_map.1 hc; rfl
  · simp [List.getD, hi]
theorem Its.row {lo : Nat} {w : World} {v : Value} {xs : List It} (h : Its lo w v xs) {i : Nat} (hi : i < xs.length) : Row w ((sAddr v).add ((i : Int).toNat * 7)) (xs.getD i i0).cells := by
  rw [Int.toNat_natCast]
  refine Sl.elem h (fun c hc => ?_) (i := i) ?_ (by omega)
  · obtain ⟨u, _, rfl⟩ := List.mem_map.1 hc; rfl
  · simp [List.getD, hi]
theorem Ens.ext {lo : Nat} {w w' : World} {v : Value} {xs : List En} (h : Ens lo w v xs) (k : Ext w w') : Ens lo w' v xs := Sl.ext h k
theorem Its.ext {lo : Nat} {w w' : World} {v : Value} {xs : List It} (h : Its lo w v xs) (k : Ext w w') : Its lo w' v xs := Sl.ext h k
/-- What Check answers. -/
def checkE (h : List En) : Int := if 60 < h.length then 3 else if h.all rightE then 0 else 430
end Go.Proofs.YtmnihgcffdmodaaGreatDoor
set_option linter.unusedVariables false
set_option linter.unusedSimpArgs false
set_option maxRecDepth 20000
namespace Go.Proofs.YtmnihgcffdmodaaGreatDoor
open Go Go.E RowKit
attribute [local irreducible] Go.E.T Go.E.L Go.E.O Go.E.Ob

attribute [local irreducible] Go.E.ObX
def AllOk (xs : List En) : Prop := ∀ x ∈ xs, x.ok
theorem AllOk.at {xs : List En} (h : AllOk xs) {i : Nat} (hi : i < xs.length) : (xs.getD i e0).ok := h _ (by rw [getD_get hi]; exact List.getElem_mem hi)
theorem all_right {xs : List En} (h : ∀ j, j < xs.length → rightE (xs.getD j e0) = true) : xs.all rightE = true := all_of_getD h
theorem checkE_yes {xs : List En} (h : ¬ 60 < xs.length) (h1 : xs.all rightE = true) : checkE xs = 0 := by rw [checkE, if_neg h, if_pos h1]
theorem checkE_no {xs : List En} (h : ¬ 60 < xs.length) (h1 : xs.all rightE = false) : checkE xs = 430 := by rw [checkE, if_neg h, h1]; rfl
theorem checkE_long {xs : List En} (h : 60 < xs.length) : checkE xs = 3 := if_pos h
theorem check1_calls (x : En) (w : World) (hx : x.ok) :
    Calls Tryz.prog 70 #[x.val] w (Ret fun v w' => v = .bool (!rightE x) ∧ Ext w w') := by
  refine T.enter (vs := [x.val]) Tryz.func70 rfl Tryz.ntmps70 rfl ?_
  refine T.seq (T.region (L.op rfl rfl (O.box rfl (fun b1 w1 hb1 hz1 he1 hB1 => ?_))))
  have hE1 : Blk w1 b1 x.cells 42 := hB1
  refine L.op rfl rfl (O.assign rfl (L.nil (T.seq (T.region (L.op rfl rfl (O.loadAgg Tryz.isAgg42 Tryz.sizeOf42 rfl rfl hE1.row (L.op rfl rfl (O.call (xs := [.tmp 3]) Tryz.call51 rfl rfl (right_calls x w1 hx) (fun v2 w2 hq => ?_)))))))))
  obtain ⟨rfl, he2⟩ := hq
  refine L.op rfl rfl (O.not rfl (L.op rfl rfl (O.assign rfl (L.nil (T.ret1 Tryz.results70 rfl ⟨rfl, he1.trans he2⟩)))))

theorem indexFE_calls (lo : Nat) (p : Value) (xs : List En) (w : World) (hp : Ens lo w p xs) (hx : AllOk xs) :
    Calls Tryz.prog 117 #[p, .func (.func 70) #[] #[]] w (Ret fun v w' => ∃ r : Int, v = .int .i64 r ∧ (0 ≤ r ↔ xs.all rightE = false) ∧ Ext w w') := by
  have hle := Sl.le hp
  refine T.enter (vs := [p, .func (.func 70) #[] #[]]) Tryz.func117 rfl Tryz.ntmps117 rfl ?_
  refine T.seq (T.region (L.op rfl rfl (O.assign rfl (L.nil (T.seq (T.seq (T.region (L.op rfl rfl (O.move rfl (L.op rfl rfl (O.len Tryz.runUnderlying27 rfl (Sl.val hp) (L.op rfl rfl (O.move rfl (L.nil (T.block (?_))))))))))))))))
  refine T.loop (σ := Nat) (fun i => [(0, p), (1, .func (.func 70) #[] #[]), (7, .int .i64 xs.length), (8, .int .i64 i)]) (fun i w' => i ≤ xs.length ∧ Ext w w' ∧ ∀ j, j < i → rightE (xs.getD j e0) = true) (fun i => xs.length - i) (0) ⟨rfl, rfl, rfl, rfl, trivial⟩ ⟨Nat.zero_le _, Keep.refl _ _, fun j hj => absurd hj (Nat.not_lt_zero _)⟩ ?_
  rintro i w1 ⟨hi, he1, hall⟩
  refine T.seq (T.region (L.op rfl rfl (O.lss_s rfl rfl (fun hlt => ?_) (fun hlt => ?_))))
  · refine L.nil (?_)
    have hlt' : i < xs.length := by omega
    have hp1 := hp.ext he1
    rcases hr : rightE (xs.getD i e0) with _ | _
    · refine T.seq (T.cond_true rfl (T.skip (T.seq (T.block (T.seq (T.region (L.op rfl rfl (O.move rfl (L.op rfl rfl (O.assign rfl (L.nil (T.seq (T.region (L.op rfl rfl (O.move rfl (L.op rfl rfl (O.move rfl (L.op rfl rfl (O.move rfl (L.op rfl rfl (O.indexAddr Tryz.runUnderlying27 Tryz.sizeOf42 rfl rfl hp1 (by omega) (by omega) (L.op rfl rfl (O.loadAgg Tryz.isAgg42 Tryz.sizeOf42 rfl rfl (hp1.row hlt') (L.op rfl rfl (O.call (xs := [.tmp 15]) Tryz.call70 rfl rfl (check1_calls (xs.getD i e0) w1 (hx.at hlt')) (fun v2 w2 hq => ?_))))))))))))))))))))))))))
      obtain ⟨hv2, he2⟩ := hq
      rw [hr] at hv2
      subst hv2
      refine L.nil (T.cond_true rfl (T.seq (T.region (L.op rfl rfl (O.move rfl (L.op rfl rfl (O.assign rfl (L.nil (T.ret1 Tryz.results117 rfl ⟨_, rfl, ⟨fun _ => not_all hlt' hr, fun _ => by omega⟩, he1.trans he2⟩)))))))))
    · refine T.seq (T.cond_true rfl (T.skip (T.seq (T.block (T.seq (T.region (L.op rfl rfl (O.move rfl (L.op rfl rfl (O.assign rfl (L.nil (T.seq (T.region (L.op rfl rfl (O.move rfl (L.op rfl rfl (O.move rfl (L.op rfl rfl (O.move rfl (L.op rfl rfl (O.indexAddr Tryz.runUnderlying27 Tryz.sizeOf42 rfl rfl hp1 (by omega) (by omega) (L.op rfl rfl (O.loadAgg Tryz.isAgg42 Tryz.sizeOf42 rfl rfl (hp1.row hlt') (L.op rfl rfl (O.call (xs := [.tmp 15]) Tryz.call70 rfl rfl (check1_calls (xs.getD i e0) w1 (hx.at hlt')) (fun v2 w2 hq => ?_))))))))))))))))))))))))))
      obtain ⟨hv2, he2⟩ := hq
      rw [hr] at hv2
      subst hv2
      refine L.nil (T.cond_false rfl (T.skip (T.blk (T.region (L.op rfl rfl (O.add64 rfl rfl (by omega) (L.op rfl rfl (O.move rfl (L.nil (T.again (i + 1) (by omega) ⟨rfl, rfl, rfl, rfl, trivial⟩ ⟨hlt', he1.trans he2, upto_step hall hr⟩))))))))))
  · refine L.nil (T.seq (T.cond_false rfl (T.exit rfl (T.seq (T.region (L.op rfl rfl (O.assign rfl (L.nil (T.ret1 Tryz.results117 rfl ⟨_, rfl, ⟨fun h => absurd h (by decide), fun h => by rw [all_right fun j hj => hall j (by omega)] at h; cases h⟩, he1⟩)))))))))

theorem containsFE_calls (lo : Nat) (p : Value) (xs : List En) (w : World) (hp : Ens lo w p xs) (hx : AllOk xs) :
    Calls Tryz.prog 69 #[p, .func (.func 70) #[] #[]] w (Ret fun v w' => v = .bool (!xs.all rightE) ∧ Ext w w') := by
  refine T.enter (vs := [p, .func (.func 70) #[] #[]]) Tryz.func69 rfl Tryz.ntmps69 rfl ?_
  refine T.seq (T.region (L.op rfl rfl (O.assign rfl (L.nil (T.seq (T.region (L.op rfl rfl (O.move rfl (L.op rfl rfl (O.move rfl (L.op rfl rfl (O.call (xs := [.tmp 5, .tmp 6]) Tryz.call117 rfl rfl (indexFE_calls lo p xs w hp hx) (fun v1 w1 hq => ?_)))))))))))))
  obtain ⟨r, rfl, hr, he1⟩ := hq
  refine L.op rfl rfl (O.geq_s rfl rfl (fun h0 => ?_) (fun h0 => ?_))
  · refine L.op rfl rfl (O.assign rfl (L.nil (T.ret1 Tryz.results69 rfl ⟨by rw [hr.1 h0]; rfl, he1⟩)))
  · refine L.op rfl rfl (O.assign rfl (L.nil (T.ret1 Tryz.results69 rfl ⟨by rw [show xs.all rightE = true from by cases h : xs.all rightE; exact absurd (hr.2 h) h0; rfl]; rfl, he1⟩)))

theorem check_calls (lo : Nat) (p : Value) (xs : List En) (w : World) (hp : Ens lo w p xs) (hx : AllOk xs) :
    Calls Tryz.prog 28 #[p] w (Ret fun v w' => v = .int .i64 (checkE xs) ∧ Ext w w') := by
  have hle := Sl.le hp
  refine T.enter (vs := [p]) Tryz.func28 rfl Tryz.ntmps28 rfl ?_
  refine T.seq (T.region (L.op rfl rfl (O.assign rfl (L.nil (T.seq (T.seq (T.region (L.op rfl rfl (O.move rfl (L.op rfl rfl (O.len Tryz.runUnderlying27 rfl (Sl.val hp) (L.op rfl rfl (O.gtr_s rfl rfl (fun hl => ?_) (fun hl => ?_))))))))))))))
  · refine L.nil (T.cond_true rfl (T.seq (T.region (L.op rfl rfl (O.assign rfl (L.nil (T.ret1 Tryz.results28 rfl ⟨by rw [checkE_long (by omega)], Keep.refl _ _⟩)))))))
  · refine L.nil (?_)
    rcases hr : xs.all rightE with _ | _
    · refine T.cond_false rfl (T.skip (T.seq (T.seq (T.region (L.op rfl rfl (O.move rfl (L.op rfl rfl (O.call (xs := [.tmp 6, .func 70]) Tryz.call69 rfl rfl (containsFE_calls lo p xs w hp hx) (fun v1 w1 hq => ?_)))))))))
      obtain ⟨hv1, he1⟩ := hq
      rw [hr] at hv1
      subst hv1
      refine L.nil (T.cond_true rfl (T.seq (T.region (L.op rfl rfl (O.assign rfl (L.nil (T.ret1 Tryz.results28 rfl ⟨by rw [checkE_no (by omega) hr], he1⟩)))))))
    · refine T.cond_false rfl (T.skip (T.seq (T.seq (T.region (L.op rfl rfl (O.move rfl (L.op rfl rfl (O.call (xs := [.tmp 6, .func 70]) Tryz.call69 rfl rfl (containsFE_calls lo p xs w hp hx) (fun v1 w1 hq => ?_)))))))))
      obtain ⟨hv1, he1⟩ := hq
      rw [hr] at hv1
      subst hv1
      refine L.nil (T.cond_false rfl (T.skip (T.seq (T.region (L.op rfl rfl (O.assign rfl (L.nil (T.ret1 Tryz.results28 rfl ⟨by rw [checkE_yes (by omega) hr], he1⟩))))))))

end Go.Proofs.YtmnihgcffdmodaaGreatDoor
set_option linter.unusedVariables false
set_option linter.unusedSimpArgs false
set_option maxRecDepth 20000
namespace Go.Proofs.YtmnihgcffdmodaaGreatDoor
open Go Go.E RowKit
attribute [local irreducible] Go.E.T Go.E.L Go.E.O Go.E.Ob

attribute [local irreducible] Go.E.ObX
/-- A state. -/
structure St where
  its : List It
  cl : Bool
  by' : Str
deriving DecidableEq
def s0 : St := ⟨[], false, []⟩
def stCells (v : Value) (s : St) : List Value := [v, .bool s.cl, str s.by']
def stVal (v : Value) (s : St) : Value := .agg (stCells v s).toArray
section
variable {C : Cx} {e : Env} {w : World} {K : Value → World → Prop} {d : Option Tmp} {ty : TypeId} {pos : String} {aft : Array Edge} {g : Option (Nat × Bool)} {x y : Operand}
end
end Go.Proofs.YtmnihgcffdmodaaGreatDoor
set_option linter.unusedVariables false
set_option linter.unusedSimpArgs false
set_option maxRecDepth 20000
namespace Go.Proofs.YtmnihgcffdmodaaGreatDoor
open Go Go.E RowKit
attribute [local irreducible] Go.E.T Go.E.L Go.E.O Go.E.Ob

attribute [local irreducible] Go.E.ObX
def fnvStep (d : Nat) (c : UInt8) : Nat := (d ^^^ c.toNat) * 1099511628211 % 18446744073709551616
theorem fnvStep_eq (d : Nat) (c : UInt8) : fnvStep d c = (d ^^^ c.toNat) * 1099511628211 % 18446744073709551616 := rfl
def fnv (d : Nat) (s : Str) : Nat := s.foldl fnvStep d
def fnv0 : Nat := 14695981039346656037
theorem fnv0_lt : fnv0 < 18446744073709551616 := by decide
theorem fnv_lt : ∀ (s : Str) (d : Nat), d < 18446744073709551616 → fnv d s < 18446744073709551616
  | [], d, h => h
  | c :: s, d, h => by
    rw [fnv, List.foldl_cons]
    exact fnv_lt s (fnvStep d c) (by rw [fnvStep_eq]; exact Nat.mod_lt _ (by omega))
theorem fnv_append (d : Nat) (a b : Str) : fnv d (a ++ b) = fnv (fnv d a) b := List.foldl_append
theorem take_snoc {α : Type} {s : List α} {i : Nat} {d : α} (h : i < s.length) : s.take (i + 1) = s.take i ++ [s.getD i d] := by
  rw [getD_get h, List.take_succ_eq_append_getElem h]
theorem foldl_snoc {α β : Type} (f : β → α → β) (d : β) (l : List α) (c : α) : (l ++ [c]).foldl f d = f (l.foldl f d) c := by simp
theorem fnv_snoc {d : Nat} {s : Str} {i : Nat} (h : i < s.length) : fnv d (s.take (i + 1)) = fnvStep (fnv d (s.take i)) (s.getD i 0) := by
  rw [take_snoc (d := 0) h]
  exact foldl_snoc _ _ _ _
theorem p64 : 2 ^ 64 = 18446744073709551616 := by decide
theorem xor_lt64 {a : Nat} (c : UInt8) (h : a < 18446744073709551616) : a ^^^ c.toNat < 18446744073709551616 := by
  have h2 : c.toNat < 18446744073709551616 := Nat.lt_of_lt_of_le (UInt8.toNat_lt c) (by decide)
  rw [← p64] at h h2 ⊢
  exact Nat.xor_lt_two_pow h h2
/-- The seal of a content and a nonce. -/
def sealN (con non : Str) : Nat := fnv fnv0 (Lib.decDigits con.length ++ [58] ++ con ++ non)
def sealParts (con non : Str) : List Str := [Lib.itoa con.length, [58], con, non]
theorem seal_parts (con non : Str) : fnv fnv0 (sealParts con non).flatten = sealN con non := by
  simp [sealParts, sealN, Lib.itoa, show ¬ ((con.length : Int) < 0) from by omega]
theorem sealN_lt (con non : Str) : sealN con non < 18446744073709551616 := fnv_lt _ _ fnv0_lt
theorem fnv_take_end (d : Nat) (s : Str) {j : Nat} (h : ¬ j < s.length) : fnv d (s.take j) = fnv d s := by rw [List.take_of_length_le (by omega)]
theorem fnv_part {d : Nat} {ps : List Str} {i : Nat} (h : i < ps.length) : fnv d ((ps.take (i + 1)).flatten) = fnv (fnv d (ps.take i).flatten) (ps.getD i []) := by
  rw [take_snoc (d := []) h, List.flatten_append, fnv_append]; simp
theorem fnv_zero (ps : List Str) : fnv fnv0 ((ps.take 0).flatten) = 14695981039346656037 := rfl
theorem fnv_take0 (d : Nat) (s : Str) : fnv d (s.take 0) = d := rfl
attribute [irreducible] fnvStep fnv fnv0
theorem digits_le : ∀ n : Nat, n ≤ 9223372036854775807 → (Lib.decDigits n).length ≤ n / 2 + 1 := fun n => by
  induction n using Nat.strongRecOn with
  | _ n ih =>
    intro h
    unfold Lib.decDigits
    split
    · simp
    · have := ih (n / 10) (by omega) (by omega)
      rw [List.length_append, List.length_singleton]; omega
def Strs (lo : Nat) (w : World) (v : Value) (xs : List Str) : Prop := Sl lo w v xs.length 1 (xs.map str)
theorem Strs.at {lo : Nat} {w : World} {v : Value} {xs : List Str} (h : Strs lo w v xs) {i : Nat} (h1 : i < xs.length) : w.cell? ((sAddr v).add ((i : Int).toNat * 1)) = some (str (xs.getD i [])) := Sl.at1 h (by simp [List.getD, h1])
theorem Strs.ext {lo : Nat} {w w' : World} {v : Value} {xs : List Str} (h : Strs lo w v xs) (k : Ext w w') : Strs lo w' v xs := Sl.ext h k
theorem Strs.of_blk {w : World} {b lo : Nat} {xs : List Str} {t : TypeId} {n : Nat} (h : Blk w b (xs.map str) t) (hn : xs.length = n) (hm : n ≤ maxLen) (hlo : lo ≤ b) : Strs lo w (.slice (some ⟨b, 0, none⟩) n n) xs := by
  subst hn; exact Sl.of_blk h (by simp) (Nat.le_refl _) hm hlo
theorem seal_calls (con non : Str) (w : World) (hL : LibM w) (hc : con.length ≤ 9223372036854775807) (hn : non.length ≤ 9223372036854775807) :
    Calls Tryz.prog 18 #[str con, str non] w (Ret fun v w' => v = wordV (sealN con non) ∧ Ext w w') := by
  refine T.enter (vs := [str con, str non]) Tryz.func18 rfl Tryz.ntmps18 rfl ?_
  refine T.seq (T.region (L.op rfl rfl (O.assign rfl (L.nil (T.seq (T.region (L.op rfl rfl (O.assign rfl (L.nil (T.seq (T.seq (T.region (L.op rfl rfl (O.move rfl (L.op rfl rfl (O.len_str Tryz.runUnderlying9 rfl (L.op rfl rfl (O.call (xs := [.tmp 10]) Tryz.call53 rfl rfl (itoa_calls con.length w hL (by omega) (by omega)) (fun v1 w1 hq => ?_)))))))))))))))))))
  obtain ⟨rfl, he1⟩ := hq
  have hi8 : Lib.itoa (con.length : Int) = Lib.decDigits con.length := by rw [Lib.itoa, if_neg (by omega)]; rfl
  refine L.op rfl rfl (O.move rfl (L.op rfl rfl (O.move rfl (L.op rfl rfl (O.buildSlice (el := 9) (parts := [(0, .tmp 11), (1, _), (2, .tmp 12), (3, .tmp 13)]) (vs := [(0, _), (1, _), (2, _), (3, _)]) (cs := ((sealParts con non).map str)) rfl (fun w => by kernel_rfl) (fun b2 w2 hb2 hz2 he2 hB2 => ?_))))))
  have hS2 : Strs 0 w2 (.slice (some ⟨b2, 0, none⟩) 4 4) (sealParts con non) := Strs.of_blk hB2 rfl (by decide) (Nat.zero_le _)
  refine L.op rfl rfl (O.len Tryz.runUnderlying77 rfl (Sl.val hS2) (L.op rfl rfl (O.move rfl (L.nil (T.block (?_))))))
  refine T.loop (σ := Nat) (fun i => [(5, wordV (fnv fnv0 ((sealParts con non).take i).flatten)), (14, .slice (some ⟨b2, 0, none⟩) 4 4), (15, .int .i64 4), (16, .int .i64 i)]) (fun i w' => i ≤ 4 ∧ w' = w2) (fun i => 4 - i) (0) ⟨?_, rfl, rfl, rfl, trivial⟩ ⟨Nat.zero_le _, rfl⟩ ?_
  · rw [fnv_zero]; rfl
  rintro i w3 ⟨hi, rfl⟩
  refine T.seq (T.region (L.op rfl rfl (O.lss_s rfl rfl (fun hlt => ?_) (fun hlt => ?_))))
  · refine L.nil (?_)
    have hlt' : i < (sealParts con non).length := by show i < 4; omega
    have hD : fnv fnv0 ((sealParts con non).take i).flatten < 18446744073709551616 := fnv_lt _ _ fnv0_lt
    have hlen : ((sealParts con non).getD i []).length ≤ 9223372036854775807 := by
      have h4 := digits_le con.length hc
      match i, hlt with
      | 0, _ => show (Lib.itoa (con.length : Int)).length ≤ _; rw [hi8]; omega
      | 1, _ => show 1 ≤ _; omega
      | 2, _ => exact hc
      | 3, _ => exact hn
      | n + 4, h => omega
    refine T.seq (T.cond_true rfl (T.skip (T.seq (T.block (T.seq (T.region (L.op rfl rfl (O.indexAddr Tryz.runUnderlying77 Tryz.sizeOf9 rfl rfl hS2 (by omega) (by omega) (L.op rfl rfl (O.load Tryz.isAgg9 rfl (hS2.at hlt') (L.op rfl rfl (O.assign rfl (L.nil (T.seq (T.region (L.op rfl rfl (O.move rfl (L.op rfl rfl (O.len_str Tryz.runUnderlying9 rfl (L.op rfl rfl (O.move rfl (L.nil (T.block (?_))))))))))))))))))))))))
    refine T.loop (σ := Nat) (fun j => [(5, wordV (fnv (fnv fnv0 ((sealParts con non).take i).flatten) (((sealParts con non).getD i []).take j))), (7, str ((sealParts con non).getD i [])), (14, .slice (some ⟨b2, 0, none⟩) 4 4), (15, .int .i64 4), (16, .int .i64 i), (21, .int .i64 ((sealParts con non).getD i []).length), (22, .int .i64 j)]) (fun j w' => j ≤ ((sealParts con non).getD i []).length ∧ w' = w3) (fun j => ((sealParts con non).getD i []).length - j) (0) ⟨?_, rfl, rfl, rfl, rfl, rfl, rfl, trivial⟩ ⟨Nat.zero_le _, rfl⟩ ?_
    · rw [fnv_take0]; rfl
    rintro j w4 ⟨hj, rfl⟩
    refine T.seq (T.region (L.op rfl rfl (O.lss_s rfl rfl (fun hjt => ?_) (fun hjt => ?_))))
    · refine L.nil (?_)
      have hjt' : j < ((sealParts con non).getD i []).length := by omega
      have hd := fnv_lt (((sealParts con non).getD i []).take j) _ hD
      have hxd := xor_lt64 (((sealParts con non).getD i []).getD j 0) hd
      have hc8 := UInt8.toNat_lt (((sealParts con non).getD i []).getD j 0)
      refine T.seq (T.cond_true rfl (T.skip (T.seq (T.block (T.seq (T.region (L.op rfl rfl (O.move rfl (L.op rfl rfl (O.assign rfl (L.nil (T.region (L.op rfl rfl (O.move rfl (L.op rfl rfl (O.move rfl (L.op rfl rfl (O.move rfl (L.op rfl rfl (O.index_nat Tryz.runUnderlying9 rfl rfl (by omega) (L.op rfl rfl (O.conv_to rfl (fun w => ⟨_, Tryz.runUnderlying5 w⟩) Tryz.runUnderlying25 (IntWalk.u64_in _ ⟨by omega, by omega⟩) (L.op rfl rfl (O.xor_u64 rfl rfl hd (by omega) rfl rfl (L.op rfl rfl (O.mul_u64 rfl rfl hxd (by decide) rfl rfl (L.op rfl rfl (O.assign rfl (L.nil (T.blk (T.region (L.op rfl rfl (O.add64 rfl rfl (by omega) (L.op rfl rfl (O.move rfl (?_))))))))))))))))))))))))))))))))))))
      refine L.nil (T.again (j + 1) (by omega) ⟨?_, rfl, rfl, rfl, rfl, rfl, rfl, trivial⟩ ⟨hjt', rfl⟩)
      · rw [fnv_snoc hjt', fnvStep_eq]; rfl
    · refine L.nil (T.seq (T.cond_false rfl (T.exit rfl (T.blk (T.region (L.op rfl rfl (O.add64 rfl rfl (by omega) (L.op rfl rfl (O.move rfl (L.nil (T.again (i + 1) (by omega) ⟨?_, rfl, rfl, rfl, trivial⟩ ⟨by omega, rfl⟩)))))))))))
      · rw [fnv_part hlt', fnv_take_end _ _ (by omega)]; rfl
  · refine L.nil (T.seq (T.cond_false rfl (T.exit rfl (T.seq (T.region (L.op rfl rfl (O.move rfl (L.op rfl rfl (O.assign rfl (L.nil (T.ret1 Tryz.results18 rfl ⟨by rw [show i = 4 from by omega, ← seal_parts]; rfl, he1.trans he2⟩)))))))))))

end Go.Proofs.YtmnihgcffdmodaaGreatDoor
set_option linter.unusedVariables false
set_option linter.unusedSimpArgs false
set_option maxRecDepth 20000
namespace Go.Proofs.YtmnihgcffdmodaaGreatDoor
open Go Go.E RowKit
attribute [local irreducible] Go.E.T Go.E.L Go.E.O Go.E.Ob

attribute [local irreducible] Go.E.ObX
theorem dec_small {n : Nat} (h : n < 10) : Lib.decDigits n = [UInt8.ofNat (48 + n)] := by rw [Lib.decDigits, dif_pos h]
theorem dec_big {n : Nat} (h : ¬ n < 10) : Lib.decDigits n = Lib.decDigits (n / 10) ++ Lib.decDigits (n % 10) := by
  rw [Lib.decDigits, dif_neg h, dec_small (show n % 10 < 10 by omega)]
theorem dig_val {n : Nat} (h : n < 10) : ((UInt8.ofNat (48 + n)).toNat : Int) = 48 + (n : Int) := by
  rw [UInt8.toNat_ofNat']; omega
theorem fnv_start (s : Str) : fnv fnv0 (s.take 0) = 14695981039346656037 := by rw [fnv_take0]; unfold fnv0; rfl
theorem digitsR (n : Nat) (w : World) (hn : n ≤ 9223372036854775807) (hrec : ∀ (m : Nat) (W : World), m < n → Calls Tryz.prog 29 (#[] ++ [.int .i64 m].toArray ++ #[]) W (Ret fun v W' => v = str (Lib.decDigits m) ∧ Ext W W')) :
    Calls Tryz.prog 29 #[.int .i64 n] w (Ret fun v w' => v = str (Lib.decDigits n) ∧ Ext w w') := by
  refine T.enter (vs := [.int .i64 n]) Tryz.func29 rfl Tryz.ntmps29 rfl ?_
  refine T.seq (T.region (L.op rfl rfl (O.assign rfl (L.nil (T.seq (T.seq (T.region (L.op rfl rfl (O.move rfl (L.op rfl rfl (O.lss_s rfl rfl (fun h => ?_) (fun h => ?_))))))))))))
  · refine L.nil (?_)
    have h' : n < 10 := by omega
    refine T.cond_true rfl (T.seq (T.region (L.op rfl rfl (O.move rfl (L.op rfl rfl (O.add64 rfl rfl (by omega) (L.op rfl rfl (O.conv_to rfl (fun w => ⟨_, Tryz.runUnderlying3 w⟩) Tryz.runUnderlying5 (IntWalk.u8_in _ ⟨by omega, by omega⟩) (L.op rfl rfl (O.buildSlice (el := 5) (parts := [(0, .tmp 7)]) (vs := [(0, _)]) (cs := [.int .u8 (48 + (n : Int))]) rfl (fun w => by kernel_rfl) (fun b1 w1 hb1 hz1 he1 hB1 => ?_)))))))))))
    refine L.op rfl rfl (O.bytes_str Tryz.runUnderlying93 Tryz.runUnderlying5 Tryz.runUnderlying9 rfl (show Ints .u8 0 w1 (.slice (some ⟨b1, 0, none⟩) 1 1) ((Lib.decDigits n).map fun c => (c.toNat : Int)) from by rw [dec_small h', List.map_singleton, dig_val h']; exact Ints.of_blk hB1 rfl (by decide) (Nat.zero_le _)) (by rw [dec_small h']; simp) (L.op rfl rfl (O.assign rfl (L.nil (T.ret1 Tryz.results29 rfl ⟨rfl, he1⟩)))))
  · refine L.nil (?_)
    have h' : ¬ n < 10 := by omega
    refine T.cond_false rfl (T.skip (T.seq (T.region (L.op rfl rfl (O.move rfl (L.op rfl rfl (O.quo64 rfl rfl (by omega) (L.op rfl rfl (O.call (xs := [.tmp 11]) Tryz.call29 rfl rfl (hrec (n / 10) w (by omega)) (fun v1 w1 hq => ?_))))))))))
    obtain ⟨rfl, he1⟩ := hq
    refine L.op rfl rfl (O.move rfl (L.op rfl rfl (O.rem rfl rfl (by omega) (by omega) (L.op rfl rfl (O.call (xs := [.tmp 14]) Tryz.call29 rfl rfl (hrec (n % 10) w1 (by omega)) (fun v2 w2 hq => ?_))))))
    obtain ⟨rfl, he2⟩ := hq
    refine L.op rfl rfl (O.add_str rfl rfl (by have h1 := digits_le (n / 10) (by omega); have h2 := digits_le (n % 10) (by omega); omega) (L.op rfl rfl (O.assign rfl (L.nil (T.ret1 Tryz.results29 rfl ⟨by rw [dec_big h'], he1.trans he2⟩)))))

theorem digits_calls (n : Nat) (w : World) (hn : n ≤ 9223372036854775807) : Calls Tryz.prog 29 #[.int .i64 n] w (Ret fun v w' => v = str (Lib.decDigits n) ∧ Ext w w') := by
  induction n using Nat.strongRecOn generalizing w with
  | _ n ih => exact digitsR n w hn (fun m W hm => ih m hm W (by omega))
theorem digest_calls (s : Str) (w : World) (hn : s.length ≤ 9223372036854775807) :
    Calls Tryz.prog 71 #[str s] w (Ret fun v w' => v = wordV (fnv fnv0 s) ∧ w' = w) := by
  refine T.enter (vs := [str s]) Tryz.func71 rfl Tryz.ntmps71 rfl ?_
  refine T.seq (T.region (L.op rfl rfl (O.assign rfl (L.nil (T.seq (T.region (L.op rfl rfl (O.assign rfl (L.nil (T.seq (T.seq (T.region (L.op rfl rfl (O.assign rfl (L.nil (T.block (?_)))))))))))))))))
  refine T.loop (σ := Nat) (fun i => [(0, str s), (3, wordV (fnv fnv0 (s.take i))), (4, .int .i64 i)]) (fun i w' => i ≤ s.length ∧ w' = w) (fun i => s.length - i) (0) ⟨rfl, ?_, rfl, trivial⟩ ⟨Nat.zero_le _, rfl⟩ ?_
  · rw [fnv_start]; rfl
  rintro i w3 ⟨hi, rfl⟩
  refine T.seq (T.seq (T.region (L.op rfl rfl (O.move rfl (L.op rfl rfl (O.move rfl (L.op rfl rfl (O.len_str Tryz.runUnderlying9 rfl (L.op rfl rfl (O.lss_s rfl rfl (fun hlt => ?_) (fun hlt => ?_)))))))))))
  · refine L.nil (?_)
    have hlt' : i < s.length := by omega
    have hd := fnv_lt (s.take i) _ fnv0_lt
    have hxd := xor_lt64 (s.getD i 0) hd
    have hc8 := UInt8.toNat_lt (s.getD i 0)
    refine T.cond_true rfl (T.skip (T.seq (T.block (T.region (L.op rfl rfl (O.move rfl (L.op rfl rfl (O.move rfl (L.op rfl rfl (O.move rfl (L.op rfl rfl (O.index_nat Tryz.runUnderlying9 rfl rfl (by omega) (L.op rfl rfl (O.conv_to rfl (fun w => ⟨_, Tryz.runUnderlying5 w⟩) Tryz.runUnderlying25 (IntWalk.u64_in _ ⟨by omega, by omega⟩) (L.op rfl rfl (O.xor_u64 rfl rfl hd (by omega) rfl rfl (L.op rfl rfl (O.mul_u64 rfl rfl hxd (by decide) rfl rfl (L.op rfl rfl (O.assign rfl (L.nil (T.blk (T.region (L.op rfl rfl (O.move rfl (L.op rfl rfl (O.add64 rfl rfl (by omega) (L.op rfl rfl (O.assign rfl (L.nil (T.again (i + 1) (by omega) ⟨rfl, ?_, rfl, trivial⟩ ⟨hlt', rfl⟩)))))))))))))))))))))))))))))))
    · rw [fnv_snoc hlt', fnvStep_eq]; rfl
  · refine L.nil (T.cond_false rfl (T.exit rfl (T.seq (T.region (L.op rfl rfl (O.move rfl (L.op rfl rfl (O.assign rfl (L.nil (T.ret1 Tryz.results71 rfl ⟨by rw [fnv_take_end _ _ (by omega)], rfl⟩))))))))))

theorem Seal_calls (con non : Str) (w : World) (hc : con.length + non.length ≤ 4611686018427387904) :
    Calls Tryz.prog 32 #[str con, str non] w (Ret fun v w' => v = wordV (sealN con non) ∧ Ext w w') := by
  have h1 := digits_le con.length (by omega)
  refine T.enter (vs := [str con, str non]) Tryz.func32 rfl Tryz.ntmps32 rfl ?_
  refine T.seq (T.region (L.op rfl rfl (O.assign rfl (L.nil (T.seq (T.region (L.op rfl rfl (O.move rfl (L.op rfl rfl (O.len_str Tryz.runUnderlying9 rfl (L.op rfl rfl (O.call (xs := [.tmp 6]) Tryz.call29 rfl rfl (digits_calls con.length w (by omega)) (fun v1 w1 hq => ?_)))))))))))))
  obtain ⟨rfl, he1⟩ := hq
  refine L.op rfl rfl (O.add_str rfl rfl (by simp only [List.length_append, List.length_cons, List.length_nil]; omega) (L.op rfl rfl (O.move rfl (L.op rfl rfl (O.add_str rfl rfl (by simp only [List.length_append, List.length_cons, List.length_nil]; omega) (L.op rfl rfl (O.move rfl (L.op rfl rfl (O.add_str rfl rfl (by simp only [List.length_append, List.length_cons, List.length_nil]; omega) (L.op rfl rfl (O.call (xs := [.tmp 12]) Tryz.call71 rfl rfl (digest_calls (Lib.decDigits con.length ++ [58] ++ con ++ non) w1 (by simp only [List.length_append, List.length_cons, List.length_nil]; omega)) (fun v2 w2 hq => ?_))))))))))))
  obtain ⟨rfl, rfl⟩ := hq
  refine L.op rfl rfl (O.assign rfl (L.nil (T.ret1 Tryz.results32 rfl ⟨rfl, he1⟩)))

end Go.Proofs.YtmnihgcffdmodaaGreatDoor
set_option linter.unusedVariables false
set_option linter.unusedSimpArgs false
set_option maxRecDepth 20000
namespace Go.Proofs.YtmnihgcffdmodaaGreatDoor
open Go Go.E RowKit
attribute [local irreducible] Go.E.T Go.E.L Go.E.O Go.E.Ob

attribute [local irreducible] Go.E.ObX
/-- The place of an item; the list's length if there is none. -/
def findK (its : List It) (nm : Str) : Nat := its.findIdx fun x => decide (x.nm = nm)
theorem findK_eq {its : List It} {nm : Str} {i : Nat} (hi : i < its.length) (h : (its.getD i i0).nm = nm) (hall : ∀ j, j < i → ¬ (its.getD j i0).nm = nm) : findK its nm = i := by
  rw [findK, List.findIdx_eq hi]
  refine ⟨by rw [← getD_get (d := i0) hi]; exact decide_eq_true h, fun j hj => ?_⟩
  rw [← getD_get (d := i0) (by omega)]
  exact decide_eq_false (hall j hj)
theorem findK_none {its : List It} {nm : Str} (hall : ∀ j, j < its.length → ¬ (its.getD j i0).nm = nm) : findK its nm = its.length := by
  rw [findK, List.findIdx_eq_length]
  intro x hx
  obtain ⟨j, hj, rfl⟩ := List.getElem_of_mem hx
  have := hall j hj
  rw [getD_get hj] at this
  exact decide_eq_false this
def wrap64 (n : Int) : Int := IntKind.i64.wrap n
def itNew (x : En) : It := ⟨x.item, x.who, 1, x.sl, false, false, []⟩
/-- What an entry does; none if it is not allowed. -/
def stepE (s : St) (x : En) : Option St :=
  if x.k = 4 then (if s.cl = true then none else some { s with cl := true, by' := x.who })
  else if x.k = 1 then (if s.cl = true ∨ findK s.its x.item < s.its.length then none else some { s with its := s.its ++ [itNew x] })
  else if ¬ findK s.its x.item < s.its.length then none
  else
    let i := findK s.its x.item
    let r := s.its.getD i i0
    if ¬ r.ow = x.who ∨ r.wd = true then none
    else if x.k = 2 then (if s.cl = true then none else some { s with its := s.its.set i { r with ver := wrap64 (r.ver + 1), sl := x.sl } })
    else if x.k = 3 then (if r.op = true then none else some { s with its := s.its.set i { r with wd := true } })
    else if ¬ s.cl = true ∨ r.op = true ∨ ¬ r.sl = sealN x.con x.non then none
    else some { s with its := s.its.set i { r with op := true, con := x.con } }
theorem fl_set {α : Type} {f : α → List Value} {sz : Nat} (hf : ∀ x, (f x).length = sz) : ∀ (xs : List α) (i j : Nat) (y d : α) (v : Value), i < xs.length → j < sz → f y = (f (xs.getD i d)).set j v → (xs.map f).flatten.set (i * sz + j) v = ((xs.set i y).map f).flatten
  | [], i, j, y, d, v, hi, hj, h => by simp at hi
  | x :: r, 0, j, y, d, v, hi, hj, h => by
    simp only [List.getD_cons_zero] at h
    simp only [List.map_cons, List.flatten_cons, List.set_cons_zero, Nat.zero_mul, Nat.zero_add]
    rw [List.set_append_left _ _ (by rw [hf]; exact hj), h]
  | x :: r, i + 1, j, y, d, v, hi, hj, h => by
    simp only [List.getD_cons_succ] at h
    simp only [List.map_cons, List.flatten_cons, List.set_cons_succ]
    rw [List.set_append_right _ _ (by rw [hf, Nat.add_mul]; omega), hf, show (i + 1) * sz + j - sz = i * sz + j by rw [Nat.add_mul]; omega]
    rw [fl_set hf r i j y d v (by simpa using hi) hj h]
/-- A struct that lies in cells, and two slots. -/
theorem T.retATT {k : List E.It} {e : Env} {w : World} {P : Program} {fn : Func} {n m : Nat} {R : Value → World → Prop} {s s2 s3 : Tmp} {t : TypeId} {ad : Addr} {cs : List Value} {v2 v3 : Value} (hres : fn.results = #[.cell s t, .tmp s2, .tmp s3]) (hg : ∀ w, (isAgg t).run P w = .ok true w) (hs : ∀ w, (sizeOf t).run P w = .ok m w) (hn : cs.length = m)
    (hv : E.look e s = some (.pointer (some ad))) (h2 : E.look e s2 = some v2) (h3 : E.look e s3 = some v3) (hr : Row w ad cs) (h : R (.tuple #[.agg cs.toArray, v2, v3]) w) : T (fnCx P fn n R) (.code .ret :: k) e w :=
  T.ret fun a ha => bodyPost_ret (v := .tuple #[.agg cs.toArray, v2, v3]) (by
    subst hn
    have h1 := ha.sat.get s _ hv
    have e2 := ha.sat.get s2 _ h2
    have e3 := ha.sat.get s3 _ h3
    simp [results, hres, Array.getD_eq_getD_getElem?, h1, e2, e3, loadVar, asAddr, hg, hs, run_loadCells_list w ad cs hr]) ha.defers h
theorem Its.cell {lo : Nat} {w : World} {v : Value} {xs : List It} (h : Its lo w v xs) {i j : Nat} {u : Value} (hi : i < xs.length) (hj : j < 7) (hu : (xs.getD i i0).cells[j]? = some u) : w.cell? (((sAddr v).add ((i : Int).toNat * 7)).add j) = some u := by
  rw [Int.toNat_natCast]
  refine Sl.at h ?_
  have hx := fl_take It.len xs i
  have hlen := fl_len It.len xs
  have : (xs.map It.cells).flatten.drop (i * 7) = (xs.getD i i0).cells ++ ((xs.drop (i + 1)).map It.cells).flatten := by
    rw [fl_drop It.len, List.drop_eq_getElem_cons hi, List.map_cons, List.flatten_cons, getD_get hi]
  have h2 : ((xs.map It.cells).flatten.drop (i * 7))[j]? = some u := by
    rw [this, List.getElem?_append_left (by rw [It.len]; exact hj)]; exact hu
  rwa [List.getElem?_drop] at h2
theorem Rfind_calls (lo : Nat) (pv : Value) (s : St) (nm : Str) (w : World) (hp : Its lo w pv s.its) :
    Calls Tryz.prog 82 #[stVal pv s, str nm] w (Ret fun v w' => v = .int .i64 (if findK s.its nm < s.its.length then (findK s.its nm : Int) else -1) ∧ Ext w w') := by
  refine T.enter (vs := [stVal pv s, str nm]) Tryz.func82 rfl Tryz.ntmps82 rfl ?_
  refine T.seq (T.region (L.op rfl rfl (O.box rfl (fun b1 w1 hb1 hz1 he1 hB1 => ?_))))
  have hS1 : Blk w1 b1 (stCells pv s) _ := hB1
  have hp1 := hp.ext he1
  have hle := Sl.le hp1
  refine L.op rfl rfl (O.assign rfl (L.nil (T.seq (T.seq (T.region (L.op rfl rfl (O.assign rfl (L.nil (T.block (?_))))))))))
  refine T.loop (σ := Nat) (fun i => [(1, str nm), (2, .pointer (some ⟨b1, 0, none⟩)), (5, .int .i64 i)]) (fun i w' => i ≤ s.its.length ∧ w' = w1 ∧ ∀ j, j < i → ¬ (s.its.getD j i0).nm = nm) (fun i => s.its.length - i) (0) ⟨rfl, rfl, rfl, trivial⟩ ⟨Nat.zero_le _, rfl, fun j hj => absurd hj (Nat.not_lt_zero _)⟩ ?_
  rintro i w3 ⟨hi, rfl, hall⟩
  refine T.seq (T.seq (T.region (L.op rfl rfl (O.move rfl (L.op rfl rfl (O.fieldAddr Tryz.runUnderlying32 rfl Tryz.sizeOf30 rfl (L.op rfl rfl (O.load Tryz.isAgg30 rfl (hS1.cell rfl) (L.op rfl rfl (O.len Tryz.runUnderlying30 rfl (Sl.val hp1) (L.op rfl rfl (O.lss_s rfl rfl (fun hlt => ?_) (fun hlt => ?_)))))))))))))
  · refine L.nil (?_)
    have hlt' : i < s.its.length := by omega
    refine T.cond_true rfl (T.skip (T.seq (T.block (T.seq (T.region (L.op rfl rfl (O.fieldAddr Tryz.runUnderlying32 rfl Tryz.sizeOf30 rfl (L.op rfl rfl (O.load Tryz.isAgg30 rfl (hS1.cell rfl) (L.op rfl rfl (O.move rfl (L.op rfl rfl (O.indexAddr Tryz.runUnderlying30 Tryz.sizeOf39 rfl rfl hp1 (by omega) (by omega) (L.op rfl rfl (O.fieldAddr Tryz.runUnderlying39 rfl Tryz.sizeOf9 rfl (L.op rfl rfl (O.load Tryz.isAgg9 rfl (hp1.cell (j := 0) hlt' (by decide) rfl) (L.op rfl rfl (O.move rfl (L.op rfl rfl (O.eql_str_s Tryz.runUnderlying9 rfl rfl (fun hq => ?_) (fun hq => ?_))))))))))))))))))))))
    · refine L.nil (T.cond_true rfl (T.seq (T.region (L.op rfl rfl (O.move rfl (L.op rfl rfl (O.assign rfl (L.nil (T.ret1 Tryz.results82 rfl ⟨by rw [findK_eq hlt' hq hall, if_pos hlt'], he1⟩)))))))))
    · refine L.nil (T.cond_false rfl (T.skip (T.blk (T.region (L.op rfl rfl (O.move rfl (L.op rfl rfl (O.add64 rfl rfl (by omega) (L.op rfl rfl (O.assign rfl (L.nil (T.again (i + 1) (by omega) ⟨rfl, rfl, rfl, trivial⟩ ⟨hlt', rfl, upto_step (q := fun j => ¬ (s.its.getD j i0).nm = nm) hall hq⟩))))))))))))
  · refine L.nil (T.cond_false rfl (T.exit rfl (T.seq (T.region (L.op rfl rfl (O.assign rfl (L.nil (T.ret1 Tryz.results82 rfl ⟨by rw [findK_none fun j hj => hall j (by omega), if_neg (by omega)], he1⟩))))))))

end Go.Proofs.YtmnihgcffdmodaaGreatDoor
