/-
  UnitsKnown returns true for every input, and each argument reads behind the call as it read before. Conditions: the listed variables read as the program's text lays them (tied by the card).
-/
import Derived.Shelf.Strings.Repeat
import Derived.Test.YtpgnaffcbbghgaaGreatDoorProg
import Derived.Test.YtpgnaffcbbghgaaGreatDoorMe
import Derived.Test.YtpgnaffcbbghgaaGreatDoorMh
import Derived.Test.YtpgnaffcbbghgaaGreatDoorMb
import Derived.Test.YtpgnaffcbbghgaaGreatDoorMc
import Derived.Test.YtpgnaffcbbghgaaGreatDoorRows
import Derived.Test.YtpgnaffcbbghgaaGreatDoorTie
import Derived.Test.YtpgnaffcbbghgaaGreatDoorCards
namespace Go.Proofs
open Go.Shelf
def Tryz.lays105_ren : Go.Shelf.Ren := ⟨fun | 105 => 33 | 212 => 71 | 99 => 72 | 165 => 73 | 166 => 74 | 170 => 75 | 169 => 76 | 263 => 91 | 264 => 92 | 206 => 93 | 240 => 94 | 241 => 95 | 276 => 129 | 277 => 130 | n => n, fun | 9 => 9 | 3 => 3 | 4 => 4 | 20 => 20 | 0 => 0 | 46 => 92 | 109 => 93 | 5 => 5 | 72 => 98 | 76 => 102 | 51 => 127 | 146 => 128 | 53 => 64 | 148 => 130 | 70 => 96 | 37 => 22 | 75 => 101 | 127 => 132 | 164 => 160 | 80 => 105 | n => n, fun | n => n⟩
theorem Tryz.lays105 : Go.Proofs.Lays.n105 Tryz.prog Tryz.lays105_ren := {
  mixed := by kernel_rfl
  f99 := Tryz.func72.trans (congrArg some (by kernel_rfl))
  f105 := Tryz.func33.trans (congrArg some (by kernel_rfl))
  f165 := Tryz.func73.trans (congrArg some (by kernel_rfl))
  f166 := Tryz.func74.trans (congrArg some (by kernel_rfl))
  f169 := Tryz.func76.trans (congrArg some (by kernel_rfl))
  f170 := Tryz.func75.trans (congrArg some (by kernel_rfl))
  f206 := Tryz.func93.trans (congrArg some (by kernel_rfl))
  f212 := Tryz.func71.trans (congrArg some (by kernel_rfl))
  f240 := Tryz.func94.trans (congrArg some (by kernel_rfl))
  f241 := Tryz.func95.trans (congrArg some (by kernel_rfl))
  f263 := Tryz.func91.trans (congrArg some (by kernel_rfl))
  f264 := Tryz.func92.trans (congrArg some (by kernel_rfl))
  f276 := Tryz.func129.trans (congrArg some (by kernel_rfl))
  f277 := Tryz.func130.trans (congrArg some (by kernel_rfl))
  t0 := Tryz.underlying0
  a0 := Tryz.isAgg0
  z0 := Tryz.sizeOf0
  v0 := Tryz.zeroValue0
  t3 := Tryz.underlying3
  a3 := Tryz.isAgg3
  z3 := Tryz.sizeOf3
  v3 := Tryz.zeroValue3
  t4 := Tryz.underlying4
  a4 := Tryz.isAgg4
  z4 := Tryz.sizeOf4
  v4 := Tryz.zeroValue4
  t5 := Tryz.underlying5
  a5 := Tryz.isAgg5
  z5 := Tryz.sizeOf5
  v5 := Tryz.zeroValue5
  t9 := Tryz.underlying9
  a9 := Tryz.isAgg9
  z9 := Tryz.sizeOf9
  v9 := Tryz.zeroValue9
  t20 := Tryz.underlying20
  a20 := Tryz.isAgg20
  z20 := Tryz.sizeOf20
  v20 := Tryz.zeroValue20
  t37 := Tryz.underlying22
  a37 := Tryz.isAgg22
  z37 := Tryz.sizeOf22
  v37 := Tryz.zeroValue22
  t46 := Tryz.underlying92
  a46 := Tryz.isAgg92
  z46 := Tryz.sizeOf92
  v46 := Tryz.zeroValue92
  t51 := Tryz.underlying127
  a51 := Tryz.isAgg127
  z51 := Tryz.sizeOf127
  v51 := Tryz.zeroValue127
  t53 := Tryz.underlying64
  a53 := Tryz.isAgg64
  z53 := Tryz.sizeOf64
  v53 := Tryz.zeroValue64
  t70 := Tryz.underlying96
  a70 := Tryz.isAgg96
  z70 := Tryz.sizeOf96
  v70 := Tryz.zeroValue96
  t72 := Tryz.underlying98
  a72 := Tryz.isAgg98
  z72 := Tryz.sizeOf98
  v72 := Tryz.zeroValue98
  t75 := Tryz.underlying101
  a75 := Tryz.isAgg101
  z75 := Tryz.sizeOf101
  v75 := Tryz.zeroValue101
  t76 := Tryz.underlying102
  a76 := Tryz.isAgg102
  z76 := Tryz.sizeOf102
  v76 := Tryz.zeroValue102
  t109 := Tryz.underlying93
  a109 := Tryz.isAgg93
  z109 := Tryz.sizeOf93
  v109 := Tryz.zeroValue93
  t127 := Tryz.underlying132
  a127 := Tryz.isAgg132
  z127 := Tryz.sizeOf132
  v127 := Tryz.zeroValue132
  t146 := Tryz.underlying128
  a146 := Tryz.isAgg128
  z146 := Tryz.sizeOf128
  v146 := Tryz.zeroValue128
  t148 := Tryz.underlying130
  a148 := Tryz.isAgg130
  z148 := Tryz.sizeOf130
  v148 := Tryz.zeroValue130
  t164 := Tryz.underlying160
  a164 := Tryz.isAgg160
  z164 := Tryz.sizeOf160
  v164 := Tryz.zeroValue160 }
theorem Tryz.Builder_Extra_105 : Builder.Extra Tryz.prog Tryz.lays105_ren := {
  sizeBuilder := by kernel_rfl
  liesBuilder := by kernel_rfl
  t5 := Tryz.underlying5
  a5 := Tryz.isAgg5
  z5 := Tryz.sizeOf5
  v5 := Tryz.zeroValue5
  infoByte := by kernel_rfl
  cellsByte := by kernel_rfl
  sizeByte := by kernel_rfl
  neB5 := by decide }
open Go.RowKit Go.Lib in
/-- **strings.Repeat: count ≥ 0, the result within one allocation: count copies of s.** (LAID: no walk: one application.) -/
theorem Tryz.strings_Repeat (s : ByteArray) (c : Nat) (w : World) (hc : c ≤ 9223372036854775807) (hlen : s.size * c ≤ 140737488355328) :
    Calls Tryz.prog 33 #[.string s, .int .i64 c] w fun e w' => e = .returned (.string ⟨(Lib.repeatL s.data.toList c).toArray⟩) ∧ Below w.heap.size w w' := Any.strings_Repeat Tryz.lays105 Tryz.Builder_Extra_105 s c w hc hlen
end Go.Proofs
set_option linter.unusedVariables false
set_option linter.unusedSimpArgs false
set_option maxRecDepth 20000
namespace Go.Proofs.YtpgnaffcbbghgaaGreatDoor
open Go Go.E RowKit
attribute [local irreducible] Go.E.T Go.E.L Go.E.O Go.E.Ob

theorem of_shelf {P : Program} {f : FuncId} {args : Array Value} {w : World} {v : Value} (h : Calls P f args w fun e w' => e = .returned v ∧ Below w.heap.size w w') : Calls P f args w (Ret fun v' w' => v' = v ∧ Ext w w') :=
  h.mono (by rintro e w' ⟨rfl, hb⟩; exact ⟨rfl, Ext.of_below hb⟩)
theorem repeat_calls (s : Str) (n : Nat) (w : World) (hn : n ≤ 9223372036854775807) (hl : s.length * n ≤ 140737488355328) : Calls Tryz.prog 33 #[str s, .int .i64 n] w (Ret fun v' w' => v' = str (Lib.repeatL s n) ∧ Ext w w') :=
  of_shelf (Tryz.strings_Repeat ⟨s.toArray⟩ n w hn (by simpa [ByteArray.size] using hl))
end Go.Proofs.YtpgnaffcbbghgaaGreatDoor
set_option linter.unusedVariables false
set_option linter.unusedSimpArgs false
set_option maxRecDepth 20000
namespace Go.Proofs.YtpgnaffcbbghgaaGreatDoor
open Go Go.E
attribute [local irreducible] Go.E.T Go.E.L Go.E.O Go.E.Ob

attribute [local irreducible] Go.E.ObX
/-- Whether a roll is valid, worked out. -/
def rollB (r : RoV) : Bool := (bndBs r).all id && (List.range r.us.length).all fun j => rightOk r (r.us.getD j u0) && ((List.range j).all fun k => !decide ((r.us.getD k u0).nm = (r.us.getD j u0).nm) && (!(r.us.getD k u0).wt || (r.us.getD j u0).wt)) && (!decide (j = 0) || !(r.us.getD j u0).wt)
theorem rollB_iff (r : RoV) : rollB r = true ↔ RollOk r := by
  unfold rollB
  rw [Bool.and_eq_true]
  constructor
  · rintro ⟨h1, h2⟩
    refine ⟨h1, fun j hj => ?_⟩
    have := List.all_eq_true.1 h2 j (List.mem_range.2 hj)
    simp only [Bool.and_eq_true, List.all_eq_true, List.mem_range, Bool.or_eq_true, Bool.not_eq_true', decide_eq_false_iff_not] at this
    obtain ⟨⟨a, b⟩, c⟩ := this
    exact ⟨a, fun k hk => (b k hk).1, fun k hk hw => (b k hk).2.resolve_left (by rw [hw]; decide), fun h0 => c.resolve_left (fun h => h h0)⟩
  · rintro ⟨h1, h2⟩
    refine ⟨h1, List.all_eq_true.2 fun j hj => ?_⟩
    obtain ⟨a, b, c, d⟩ := h2 j (List.mem_range.1 hj)
    simp only [Bool.and_eq_true, List.all_eq_true, List.mem_range, Bool.or_eq_true, Bool.not_eq_true', decide_eq_false_iff_not]
    refine ⟨⟨a, fun k hk => ⟨b k hk, ?_⟩⟩, ?_⟩
    · cases hw : (r.us.getD k u0).wt
      · exact .inl rfl
      · exact .inr (c k hk hw)
    · by_cases h0 : j = 0
      · exact .inr (d h0)
      · exact .inl h0
theorem rollErr_eq (r : RoV) : rollErr r = if rollB r then 0 else 161 := by
  cases h : rollB r
  · exact rollErr_no (fun hk => by rw [(rollB_iff r).2 hk] at h; cases h)
  · exact rollErr_ok ((rollB_iff r).1 h)
theorem O.slice_lo {C : Cx} {e : Env} {w : World} {K : Value → World → Prop} {d : Option Tmp} {ty : TypeId} {pos : String} {aft : Array Edge} {g : Option (Nat × Bool)} {x y : Operand} {t : TypeId} {b n cap sz l : Nat} {el : TypeId} (hu : ∀ w, (underlying t).run C.P w = .ok (.slice el) w) (hs : ∀ w, (sizeOf el).run C.P w = .ok sz w) (hx : ev e x = some (.slice (some ⟨b, 0, none⟩) n cap)) (hy : ev e y = some (.int .i64 l)) (h1 : l ≤ n) (h2 : l < cap) (hk : K (.slice (some ⟨b, l * sz, none⟩) (n - l) (cap - l)) w) :
    O C e ⟨d, .slice t x (some y) none none, ty, pos, aft, g⟩ w K :=
  O.of_run (v := .slice (some ⟨b, l * sz, none⟩) (n - l) (cap - l)) (by simp) (fun a ha => by
    have hne : ¬ cap = l := by omega
    have e1 : ((⟨b, 0, none⟩ : Addr).add (l * sz)) = ⟨b, l * sz, none⟩ := by rw [add_at]; simp
    simp [execOp, Instr.sliceAt, Instr.slice, Instr.sliceBounds, Instr.sliceBound, asIntOf, ha.eval hx, ha.eval hy, hu w, hs w, h1, hne, e1]) hk
/-- A unit by the numbers of its lists. -/
structure UD where
  nm : Str
  pp : Int
  wt : Bool
  g : Option Nat
  v : Option Nat
  p : Option Nat
def d0 : UD := ⟨[], 0, false, none, none, none⟩
def D0 : List UD := [⟨[97], 10, false, some 0, some 1, some 2⟩, ⟨[98], 20, false, some 3, some 4, some 5⟩, ⟨[99], 5, false, some 6, some 7, some 8⟩, ⟨[119], 0, true, some 9, some 10, some 11⟩]
def xs0 : List (List Int) := [[4], [3, 5], [7], [0], [9, 1], [2], [5], [0, 0], [7], [0], [0, 0], [0]]
def lvD (c0 : Nat) (xss : List (List Int)) : Option Nat → Value
  | some i => .slice (some ⟨c0 + i, 0, none⟩) (xss.getD i []).length (xss.getD i []).length
  | none => .slice none 0 0
def lxD (xss : List (List Int)) : Option Nat → List Int
  | some i => xss.getD i []
  | none => []
def uD (c0 : Nat) (xss : List (List Int)) (d : UD) : UnV := ⟨d.nm, d.pp, lvD c0 xss d.g, lxD xss d.g, lvD c0 xss d.v, lxD xss d.v, lvD c0 xss d.p, lxD xss d.p, d.wt⟩
def usD (c0 : Nat) (xss : List (List Int)) (ds : List UD) : List UnV := ds.map (uD c0 xss)
def okI (xss : List (List Int)) : Option Nat → Bool
  | some i => decide (i < 12) && decide ((xss.getD i []).length ≤ 1000)
  | none => true
def okD (xss : List (List Int)) (ds : List UD) : Bool := ds.all fun d => okI xss d.g && (okI xss d.v && (okI xss d.p && decide (d.nm.length ≤ 1000)))
/-- The roll of the examples in memory, with changes. -/
structure FU (base c0 : Nat) (xss : List (List Int)) (ds : List UD) (W : World) : Prop where
  hb : base ≤ c0
  cb : Blk W (c0 + 12) (ucells (usD c0 xss ds)) 58
  ls : ∀ i, i < 12 → Blk W (c0 + i) ((xss.getD i []).map (Value.int .i64)) 3
section
variable {base c0 b b3 : Nat} {xss : List (List Int)} {ds ds' : List UD} {W W' : World}
theorem FU.ext (h : FU base c0 xss ds W) (k : Ext W W') : FU base c0 xss ds W' := ⟨h.hb, h.cb.ext k, fun i hi => (h.ls i hi).ext k⟩
theorem FU.upd (h : FU base c0 xss ds W) (hu : Upd b W W') (hne : b < c0 ∨ c0 + 12 < b) : FU base c0 xss ds W' := ⟨h.hb, Blk.upd h.cb hu (by omega), fun i hi => Blk.upd (h.ls i hi) hu (by omega)⟩
theorem FU.unit {j : Nat} {v : Value} (h : FU base c0 xss ds W) (hu : Upd (c0 + 12) W W') (hB : Blk W' (c0 + 12) ((ucells (usD c0 xss ds)).set j v) 58) (hs : (ucells (usD c0 xss ds)).set j v = ucells (usD c0 xss ds')) : FU base c0 xss ds' W' :=
  ⟨h.hb, by rw [← hs]; exact hB, fun i hi => Blk.upd (h.ls i hi) hu (by omega)⟩
theorem set_len {i m k : Nat} {x : Int} : ((xss.set i ((xss.getD i []).set m x)).getD k []).length = (xss.getD k []).length := by
  by_cases e : k = i
  · subst e
    by_cases hl : k < xss.length
    · simp [List.getD, hl]
    · rw [List.set_eq_of_length_le (by omega)]
  · rw [show (xss.set i ((xss.getD i []).set m x)).getD k [] = xss.getD k [] by simp only [List.getD]; rw [List.getElem?_set_ne (fun h => e h.symm)]]
theorem lv_len {xss' : List (List Int)} (h : ∀ k, (xss'.getD k []).length = (xss.getD k []).length) (o : Option Nat) : lvD c0 xss' o = lvD c0 xss o := by
  cases o with
  | none => rfl
  | some i => simp only [lvD, h]
theorem cells_len {xss' : List (List Int)} (h : ∀ k, (xss'.getD k []).length = (xss.getD k []).length) (ds : List UD) : ucells (usD c0 xss' ds) = ucells (usD c0 xss ds) := by
  unfold ucells usD
  rw [List.map_map, List.map_map]
  congr 1
  refine List.map_congr_left fun d _ => ?_
  simp only [Function.comp, uD, UnV.cells, lv_len h]
theorem FU.list {i m : Nat} {x : Int} (hi : i < 12) (h : FU base c0 xss ds W) (hu : Upd (c0 + i) W W') (hB : Blk W' (c0 + i) (((xss.getD i []).map (Value.int .i64)).set m (.int .i64 x)) 3) : FU base c0 (xss.set i ((xss.getD i []).set m x)) ds W' := by
  refine ⟨h.hb, by rw [cells_len (fun k => set_len)]; exact Blk.upd h.cb hu (by omega), fun k hk => ?_⟩
  by_cases e : k = i
  · subst e
    by_cases hl : k < xss.length
    · rw [show (xss.set k ((xss.getD k []).set m x)).getD k [] = (xss.getD k []).set m x by simp [List.getD, hl], List.map_set]; exact hB
    · have h0 : xss.getD k [] = [] := by simp [List.getD, hl]
      rw [h0] at hB ⊢
      rw [List.set_eq_of_length_le (by omega), h0]
      exact hB
  · rw [show (xss.set i ((xss.getD i []).set m x)).getD k [] = xss.getD k [] by simp only [List.getD]; rw [List.getElem?_set_ne (fun h => e h.symm)]]
    exact Blk.upd (h.ls k hk) hu (by omega)
theorem lvD_ok {o : Option Nat} (hb : base ≤ c0) (ls : ∀ i, i < 12 → Blk W (c0 + i) ((xss.getD i []).map (Value.int .i64)) 3) (ho : okI xss o = true) : Ints .i64 base W (lvD c0 xss o) (lxD xss o) := by
  cases o with
  | none => exact Sl.nil _ _ _
  | some i =>
    simp only [okI, Bool.and_eq_true, decide_eq_true_eq] at ho
    exact Ints.of_blk (lo := base) (ls i ho.1) rfl (by have := ho.2; simp only [maxLen]; omega) (by omega)
theorem ls_oks (hb : base ≤ c0) (ls : ∀ i, i < 12 → Blk W (c0 + i) ((xss.getD i []).map (Value.int .i64)) 3) (hd : okD xss ds = true) : ∀ u ∈ usD c0 xss ds, u.ok base W := fun u hu => by
  obtain ⟨d, hm, rfl⟩ := List.mem_map.1 hu
  have := List.all_eq_true.1 hd d hm
  simp only [Bool.and_eq_true, decide_eq_true_eq] at this
  exact ⟨lvD_ok hb ls this.1, lvD_ok hb ls this.2.1, lvD_ok hb ls this.2.2.1, by show d.nm.length ≤ _; omega⟩
theorem FU.oks (h : FU base c0 xss ds W) (hd : okD xss ds = true) : ∀ u ∈ usD c0 xss ds, u.ok base W := ls_oks h.hb h.ls hd
theorem own_ne {w : World} {base n sz b j : Nat} {el t : TypeId} {v : Value} {xs cs : List Value} (h : w.ownsRow base el sz v n xs) (hj : v.ownBlock = some j) (hB : Blk w b cs t) (hne : el ≠ t) : j ≠ b := fun e => by
  subst e
  rcases h.2 with ⟨rfl, _⟩ | ⟨g, cap, cur, rfl, _, hg, _⟩
  · cases hj
  · cases hj
    have h2 : w.heap[g]? = _ := hB
    rw [hg] at h2
    simp at h2
    exact hne h2.2
theorem FU.units (h : FU base c0 xss ds W) (hd : okD xss ds = true) (hl : ds.length = 4) : Units base W (.slice (some ⟨c0 + 12, 0, none⟩) 4 4) (usD c0 xss ds) := by
  refine ⟨?_, h.oks hd⟩
  have hl' : (usD c0 xss ds).length = 4 := by rw [usD, List.length_map, hl]
  rw [hl']
  exact Sl.of_blk h.cb (by rw [ucells_len, hl']) (Nat.le_refl _) (by decide) (by have := h.hb; omega)
/-- Only blocks from 'base' on have turned. -/
structure Out (base : Nat) (W W' : World) : Prop where
  os : W'.os = W.os
  tape : W'.tape = W.tape
  output : W'.output = W.output
  size : W.heap.size ≤ W'.heap.size
  block : ∀ k, k < base → k < W.heap.size → W'.heap[k]? = W.heap[k]?
theorem Out.of (h : Upd b W W') (hb : base ≤ b) : Out base W W' := ⟨h.os, h.tape, h.output, Nat.le_of_eq h.size.symm, fun k hk _ => h.block k (by omega)⟩
theorem Out.of_ext (h : Ext W W') : Out base W W' := ⟨h.os, h.tape, h.output, h.size, fun k _ hk => h.block k (Nat.zero_le _) hk⟩
theorem Out.trans {A B C : World} (h : Out base A B) (k : Out base B C) : Out base A C := ⟨k.os.trans h.os, k.tape.trans h.tape, k.output.trans h.output, Nat.le_trans h.size k.size, fun i hi hl => (k.block i hi (Nat.lt_of_lt_of_le hl h.size)).trans (h.block i hi hl)⟩
theorem Out.ext {w : World} (h : Out w.heap.size W W') (k : Ext w W) : Ext w W' := ⟨h.os.trans k.os, h.tape.trans k.tape, h.output.trans k.output, Nat.le_trans k.size h.size, fun i _ hi => (h.block i hi (Nat.lt_of_lt_of_le hi k.size)).trans (k.block i (Nat.zero_le _) hi)⟩
def Chg (base b3 : Nat) (kd : Int) (W W' : World) : Prop := Out base W W' ∧ ∃ r' : RoV, Blk W' b3 r'.cells 33 ∧ r'.ok base W' ∧ rollErr r' = kd
theorem FU.head {m : Nat} (h : FU base c0 xss ds W) (hd : okD xss ds = true) (hl : ds.length = 4) (hm : m ≤ 4) : Units base W (.slice (some ⟨c0 + 12, 0, none⟩) m 4) ((usD c0 xss ds).take m) :=
  (h.units hd hl).cutH (m := m) (by rw [usD, List.length_map, hl]; exact hm)
theorem FU.tail {m : Nat} (h : FU base c0 xss ds W) (hd : okD xss ds = true) (hl : ds.length = 4) (hm : m ≤ 4) : Units base W (.slice (some ⟨c0 + 12, m * 6, none⟩) (4 - m) (4 - m)) ((usD c0 xss ds).drop m) := by
  have hl4 : (usD c0 xss ds).length = 4 := by rw [usD, List.length_map, hl]
  refine ⟨?_, fun u hu => h.oks hd u (List.mem_of_mem_drop hu)⟩
  have hld : ((usD c0 xss ds).drop m).length = 4 - m := by rw [List.length_drop, hl4]
  rw [hld, ← ucells_drop]
  refine ⟨by rw [ucells_drop, ucells_len, hld], some ⟨c0 + 12, m * 6, none⟩, 4 - m, rfl, Nat.le_refl _, by simp only [maxLen]; omega, .inr ⟨⟨c0 + 12, m * 6, none⟩, rfl, by have := h.hb; show base ≤ c0 + 12; omega, ?_⟩⟩
  have hr := (Row.of_blk h.cb).drop (m * 6)
  rw [add_at, Nat.zero_add] at hr
  exact hr
end
/-- What 'four' gives. -/
def Post4 (w : World) (v : Value) (w' : World) : Prop := Ext w w' ∧ ∃ c0, v = (⟨1, 2, 1, .slice (some ⟨c0 + 12, 0, none⟩) 4 4, usD c0 xs0 D0⟩ : RoV).val ∧ FU w.heap.size c0 xs0 D0 w'
theorem kn2_calls (base c0 b3 : Nat) (w : World) (hF : FU base c0 xs0 D0 w) (h3 : Blk w b3 ((⟨1, 2, 1, (.slice (some ⟨c0 + 12, 0, none⟩) 4 4), usD c0 xs0 D0⟩ : RoV)).cells 33) (hb3 : c0 + 12 < b3) :
    Calls Tryz.prog 17 #[.pointer (some ⟨b3, 0, none⟩)] w (Ret fun _ w' => Chg base b3 0 w w') := by
  have hb := hF.hb
  have hU := hF.units rfl rfl
  refine T.enter (vs := [.pointer (some ⟨b3, 0, none⟩)]) Tryz.func17 rfl Tryz.ntmps17 rfl ?_
  refine T.region (L.op rfl rfl (O.move rfl (L.op rfl rfl (O.nilCheck rfl (L.op rfl rfl (O.fieldAddr Tryz.runUnderlying33 rfl Tryz.sizeOf31 rfl (L.op rfl rfl (O.load Tryz.isAgg31 rfl (Blk.cell h3 rfl) (L.op rfl rfl (O.indexAddr Tryz.runUnderlying31 Tryz.sizeOf58 rfl rfl hU.sl (by decide) (by show (0 : Int) < ((4 : Nat) : Int); decide) (L.op rfl rfl (O.fieldAddr Tryz.runUnderlying58 rfl Tryz.sizeOf9 rfl (L.op rfl rfl (O.store1_at2 Tryz.sizeOf9 rfl rfl rfl hF.cb (by rw [ucells_len]; show 0 + (0 * 6 + 0) < 4 * 6; decide) (fun w1 hu1 hB1 => ?_)))))))))))))))
  have hF1 : FU base c0 xs0 (D0.set 0 { D0.getD 0 d0 with nm := [65, 122, 48, 57, 45, 95, 65, 122, 48, 57, 45, 95] }) w1 := hF.unit hu1 hB1 rfl
  have h31 : Blk w1 b3 [.int .i64 1, .int .i64 2, .int .i64 1, .slice (some ⟨c0 + 12, 0, none⟩) 4 4] 33 := Blk.upd (cs := ((⟨1, 2, 1, (.slice (some ⟨c0 + 12, 0, none⟩) 4 4), usD c0 xs0 D0⟩ : RoV)).cells) h3 hu1 (by omega)
  refine L.nil (T.end0 Tryz.results17 ⟨Out.of hu1 (by omega), (⟨1, 2, 1, (.slice (some ⟨c0 + 12, 0, none⟩) 4 4), usD c0 xs0 (D0.set 0 { D0.getD 0 d0 with nm := [65, 122, 48, 57, 45, 95, 65, 122, 48, 57, 45, 95] })⟩ : RoV), h31, hF1.units rfl rfl, by rw [rollErr_eq]; kernel_rfl⟩)

theorem kn3_calls (base c0 b3 : Nat) (w : World) (hF : FU base c0 xs0 D0 w) (h3 : Blk w b3 ((⟨1, 2, 1, (.slice (some ⟨c0 + 12, 0, none⟩) 4 4), usD c0 xs0 D0⟩ : RoV)).cells 33) (hb3 : c0 + 12 < b3) :
    Calls Tryz.prog 18 #[.pointer (some ⟨b3, 0, none⟩)] w (Ret fun _ w' => Chg base b3 0 w w') := by
  have hb := hF.hb
  have hU := hF.units rfl rfl
  refine T.enter (vs := [.pointer (some ⟨b3, 0, none⟩)]) Tryz.func18 rfl Tryz.ntmps18 rfl ?_
  refine T.region (L.op rfl rfl (O.move rfl (L.op rfl rfl (O.nilCheck rfl (L.op rfl rfl (O.fieldAddr Tryz.runUnderlying33 rfl Tryz.sizeOf31 rfl (L.op rfl rfl (O.load Tryz.isAgg31 rfl (Blk.cell h3 rfl) (L.op rfl rfl (O.indexAddr Tryz.runUnderlying31 Tryz.sizeOf58 rfl rfl hU.sl (by decide) (by show (0 : Int) < ((4 : Nat) : Int); decide) (L.op rfl rfl (O.fieldAddr Tryz.runUnderlying58 rfl Tryz.sizeOf3 rfl (L.op rfl rfl (O.store1_at2 Tryz.sizeOf3 rfl rfl rfl hF.cb (by rw [ucells_len]; show 0 + (0 * 6 + 1) < 4 * 6; decide) (fun w1 hu1 hB1 => ?_)))))))))))))))
  have hF1 : FU base c0 xs0 (D0.set 0 { D0.getD 0 d0 with pp := 1000000000 }) w1 := hF.unit hu1 hB1 rfl
  have h31 : Blk w1 b3 [.int .i64 1, .int .i64 2, .int .i64 1, .slice (some ⟨c0 + 12, 0, none⟩) 4 4] 33 := Blk.upd (cs := ((⟨1, 2, 1, (.slice (some ⟨c0 + 12, 0, none⟩) 4 4), usD c0 xs0 D0⟩ : RoV)).cells) h3 hu1 (by omega)
  refine L.nil (T.end0 Tryz.results18 ⟨Out.of hu1 (by omega), (⟨1, 2, 1, (.slice (some ⟨c0 + 12, 0, none⟩) 4 4), usD c0 xs0 (D0.set 0 { D0.getD 0 d0 with pp := 1000000000 })⟩ : RoV), h31, hF1.units rfl rfl, by rw [rollErr_eq]; kernel_rfl⟩)

theorem kn4_calls (base c0 b3 : Nat) (w : World) (hF : FU base c0 xs0 D0 w) (h3 : Blk w b3 ((⟨1, 2, 1, (.slice (some ⟨c0 + 12, 0, none⟩) 4 4), usD c0 xs0 D0⟩ : RoV)).cells 33) (hb3 : c0 + 12 < b3) :
    Calls Tryz.prog 19 #[.pointer (some ⟨b3, 0, none⟩)] w (Ret fun _ w' => Chg base b3 0 w w') := by
  have hb := hF.hb
  have hU := hF.units rfl rfl
  refine T.enter (vs := [.pointer (some ⟨b3, 0, none⟩)]) Tryz.func19 rfl Tryz.ntmps19 rfl ?_
  refine T.region (L.op rfl rfl (O.move rfl (L.op rfl rfl (O.nilCheck rfl (L.op rfl rfl (O.fieldAddr Tryz.runUnderlying33 rfl Tryz.sizeOf31 rfl (L.op rfl rfl (O.load Tryz.isAgg31 rfl (Blk.cell h3 rfl) (L.op rfl rfl (O.indexAddr Tryz.runUnderlying31 Tryz.sizeOf58 rfl rfl hU.sl (by decide) (by show (0 : Int) < ((4 : Nat) : Int); decide) (L.op rfl rfl (O.fieldAddr Tryz.runUnderlying58 rfl Tryz.sizeOf56 rfl (L.op rfl rfl (O.load Tryz.isAgg56 rfl (Blk.at2 (b := c0 + 12) hF.cb (show (ucells (usD c0 xs0 D0))[0 + (0 * 6 + 2)]? = some (.slice (some ⟨c0 + 0, 0, none⟩) 1 1) from rfl)) (?_)))))))))))))))
  have hL : Blk w (c0 + 0) [.int .i64 4] 3 := hF.ls 0 (by decide)
  refine L.op rfl rfl (O.indexAddr Tryz.runUnderlying56 Tryz.sizeOf3 rfl rfl (Ints.of_blk (n := 1) (xs := [4]) hL rfl (by decide) (Nat.zero_le (c0 + 0))) (by decide) (by decide) (L.op rfl rfl (O.store1_at Tryz.sizeOf3 rfl rfl rfl hL (by decide) (fun w1 hu1 hB1 => ?_))))
  have hB1' : Blk w1 (c0 + 0) (((xs0.getD 0 []).map (Value.int .i64)).set 0 (.int .i64 (10))) 3 := hB1
  have hF1 : FU base c0 (xs0.set 0 ((xs0.getD 0 []).set 0 (10))) D0 w1 := hF.list (i := 0) (m := 0) (by decide) hu1 hB1'
  have h31 : Blk w1 b3 [.int .i64 1, .int .i64 2, .int .i64 1, .slice (some ⟨c0 + 12, 0, none⟩) 4 4] 33 := Blk.upd (cs := ((⟨1, 2, 1, (.slice (some ⟨c0 + 12, 0, none⟩) 4 4), usD c0 xs0 D0⟩ : RoV)).cells) h3 hu1 (by omega)
  refine L.nil (T.end0 Tryz.results19 ⟨Out.of hu1 (by omega), (⟨1, 2, 1, (.slice (some ⟨c0 + 12, 0, none⟩) 4 4), usD c0 (xs0.set 0 ((xs0.getD 0 []).set 0 (10))) D0⟩ : RoV), h31, hF1.units rfl rfl, by rw [rollErr_eq]; kernel_rfl⟩)

theorem kn5_calls (base c0 b3 : Nat) (w : World) (hF : FU base c0 xs0 D0 w) (h3 : Blk w b3 ((⟨1, 2, 1, (.slice (some ⟨c0 + 12, 0, none⟩) 4 4), usD c0 xs0 D0⟩ : RoV)).cells 33) (hb3 : c0 + 12 < b3) :
    Calls Tryz.prog 20 #[.pointer (some ⟨b3, 0, none⟩)] w (Ret fun _ w' => Chg base b3 0 w w') := by
  have hb := hF.hb
  have hU := hF.units rfl rfl
  refine T.enter (vs := [.pointer (some ⟨b3, 0, none⟩)]) Tryz.func20 rfl Tryz.ntmps20 rfl ?_
  refine T.region (L.op rfl rfl (O.move rfl (L.op rfl rfl (O.nilCheck rfl (L.op rfl rfl (O.fieldAddr Tryz.runUnderlying33 rfl Tryz.sizeOf31 rfl (L.op rfl rfl (O.load Tryz.isAgg31 rfl (Blk.cell h3 rfl) (L.op rfl rfl (O.indexAddr Tryz.runUnderlying31 Tryz.sizeOf58 rfl rfl hU.sl (by decide) (by show (0 : Int) < ((4 : Nat) : Int); decide) (L.op rfl rfl (O.fieldAddr Tryz.runUnderlying58 rfl Tryz.sizeOf56 rfl (L.op rfl rfl (O.load Tryz.isAgg56 rfl (Blk.at2 (b := c0 + 12) hF.cb (show (ucells (usD c0 xs0 D0))[0 + (0 * 6 + 3)]? = some (.slice (some ⟨c0 + 1, 0, none⟩) 2 2) from rfl)) (?_)))))))))))))))
  have hL : Blk w (c0 + 1) [.int .i64 3, .int .i64 5] 3 := hF.ls 1 (by decide)
  refine L.op rfl rfl (O.indexAddr Tryz.runUnderlying56 Tryz.sizeOf3 rfl rfl (Ints.of_blk (n := 2) (xs := [3, 5]) hL rfl (by decide) (Nat.zero_le (c0 + 1))) (by decide) (by decide) (L.op rfl rfl (O.store1_at Tryz.sizeOf3 rfl rfl rfl hL (by decide) (fun w1 hu1 hB1 => ?_))))
  have hB1' : Blk w1 (c0 + 1) (((xs0.getD 1 []).map (Value.int .i64)).set 1 (.int .i64 (1000000000))) 3 := hB1
  have hF1 : FU base c0 (xs0.set 1 ((xs0.getD 1 []).set 1 (1000000000))) D0 w1 := hF.list (i := 1) (m := 1) (by decide) hu1 hB1'
  have h31 : Blk w1 b3 [.int .i64 1, .int .i64 2, .int .i64 1, .slice (some ⟨c0 + 12, 0, none⟩) 4 4] 33 := Blk.upd (cs := ((⟨1, 2, 1, (.slice (some ⟨c0 + 12, 0, none⟩) 4 4), usD c0 xs0 D0⟩ : RoV)).cells) h3 hu1 (by omega)
  refine L.nil (T.end0 Tryz.results20 ⟨Out.of hu1 (by omega), (⟨1, 2, 1, (.slice (some ⟨c0 + 12, 0, none⟩) 4 4), usD c0 (xs0.set 1 ((xs0.getD 1 []).set 1 (1000000000))) D0⟩ : RoV), h31, hF1.units rfl rfl, by rw [rollErr_eq]; kernel_rfl⟩)

theorem kn6_calls (base c0 b3 : Nat) (w : World) (hF : FU base c0 xs0 D0 w) (h3 : Blk w b3 ((⟨1, 2, 1, (.slice (some ⟨c0 + 12, 0, none⟩) 4 4), usD c0 xs0 D0⟩ : RoV)).cells 33) (hb3 : c0 + 12 < b3) :
    Calls Tryz.prog 21 #[.pointer (some ⟨b3, 0, none⟩)] w (Ret fun _ w' => Chg base b3 0 w w') := by
  have hb := hF.hb
  have hU := hF.units rfl rfl
  refine T.enter (vs := [.pointer (some ⟨b3, 0, none⟩)]) Tryz.func21 rfl Tryz.ntmps21 rfl ?_
  refine T.region (L.op rfl rfl (O.move rfl (L.op rfl rfl (O.nilCheck rfl (L.op rfl rfl (O.fieldAddr Tryz.runUnderlying33 rfl Tryz.sizeOf31 rfl (L.op rfl rfl (O.load Tryz.isAgg31 rfl (Blk.cell h3 rfl) (L.op rfl rfl (O.indexAddr Tryz.runUnderlying31 Tryz.sizeOf58 rfl rfl hU.sl (by decide) (by show (0 : Int) < ((4 : Nat) : Int); decide) (L.op rfl rfl (O.fieldAddr Tryz.runUnderlying58 rfl Tryz.sizeOf56 rfl (L.op rfl rfl (O.load Tryz.isAgg56 rfl (Blk.at2 (b := c0 + 12) hF.cb (show (ucells (usD c0 xs0 D0))[0 + (0 * 6 + 4)]? = some (.slice (some ⟨c0 + 2, 0, none⟩) 1 1) from rfl)) (?_)))))))))))))))
  have hL : Blk w (c0 + 2) [.int .i64 7] 3 := hF.ls 2 (by decide)
  refine L.op rfl rfl (O.indexAddr Tryz.runUnderlying56 Tryz.sizeOf3 rfl rfl (Ints.of_blk (n := 1) (xs := [7]) hL rfl (by decide) (Nat.zero_le (c0 + 2))) (by decide) (by decide) (L.op rfl rfl (O.store1_at Tryz.sizeOf3 rfl rfl rfl hL (by decide) (fun w1 hu1 hB1 => ?_))))
  have hB1' : Blk w1 (c0 + 2) (((xs0.getD 2 []).map (Value.int .i64)).set 0 (.int .i64 (63))) 3 := hB1
  have hF1 : FU base c0 (xs0.set 2 ((xs0.getD 2 []).set 0 (63))) D0 w1 := hF.list (i := 2) (m := 0) (by decide) hu1 hB1'
  have h31 : Blk w1 b3 [.int .i64 1, .int .i64 2, .int .i64 1, .slice (some ⟨c0 + 12, 0, none⟩) 4 4] 33 := Blk.upd (cs := ((⟨1, 2, 1, (.slice (some ⟨c0 + 12, 0, none⟩) 4 4), usD c0 xs0 D0⟩ : RoV)).cells) h3 hu1 (by omega)
  refine L.nil (T.end0 Tryz.results21 ⟨Out.of hu1 (by omega), (⟨1, 2, 1, (.slice (some ⟨c0 + 12, 0, none⟩) 4 4), usD c0 (xs0.set 2 ((xs0.getD 2 []).set 0 (63))) D0⟩ : RoV), h31, hF1.units rfl rfl, by rw [rollErr_eq]; kernel_rfl⟩)

theorem kn7_calls (base c0 b3 : Nat) (w : World) (hF : FU base c0 xs0 D0 w) (h3 : Blk w b3 ((⟨1, 2, 1, (.slice (some ⟨c0 + 12, 0, none⟩) 4 4), usD c0 xs0 D0⟩ : RoV)).cells 33) (hb3 : c0 + 12 < b3) :
    Calls Tryz.prog 22 #[.pointer (some ⟨b3, 0, none⟩)] w (Ret fun _ w' => Chg base b3 0 w w') := by
  have hb := hF.hb
  have hU := hF.units rfl rfl
  refine T.enter (vs := [.pointer (some ⟨b3, 0, none⟩)]) Tryz.func22 rfl Tryz.ntmps22 rfl ?_
  refine T.region (L.op rfl rfl (O.move rfl (L.op rfl rfl (O.move rfl (L.op rfl rfl (O.nilCheck rfl (L.op rfl rfl (O.fieldAddr Tryz.runUnderlying33 rfl Tryz.sizeOf31 rfl (L.op rfl rfl (O.load Tryz.isAgg31 rfl (Blk.cell h3 rfl) (L.op rfl rfl (O.slice_to (m := 1) Tryz.runUnderlying31 Tryz.sizeOf58 rfl rfl (by decide) (by decide) (L.op rfl rfl (O.nilCheck rfl (L.op rfl rfl (O.fieldAddr Tryz.runUnderlying33 rfl Tryz.sizeOf31 rfl (L.op rfl rfl (O.store1_at Tryz.sizeOf31 rfl rfl rfl h3 (by show 0 + 3 < 4; decide) (fun w2 hu2 hB2 => ?_)))))))))))))))))))
  have hF1 := hF.upd hu2 (.inr hb3)
  refine L.nil (T.end0 Tryz.results22 ⟨Out.of hu2 (by omega), (⟨1, 2, 1, .slice (some ⟨c0 + 12, 0, none⟩) 1 4, (usD c0 xs0 D0).take 1⟩ : RoV), hB2, hF1.head rfl rfl (by decide), by rw [rollErr_eq]; kernel_rfl⟩)

theorem kn8_calls (base c0 b3 : Nat) (w : World) (hF : FU base c0 xs0 D0 w) (h3 : Blk w b3 ((⟨1, 2, 1, (.slice (some ⟨c0 + 12, 0, none⟩) 4 4), usD c0 xs0 D0⟩ : RoV)).cells 33) (hb3 : c0 + 12 < b3) :
    Calls Tryz.prog 23 #[.pointer (some ⟨b3, 0, none⟩)] w (Ret fun _ w' => Chg base b3 0 w w') := by
  have hb := hF.hb
  have hU := hF.units rfl rfl
  refine T.enter (vs := [.pointer (some ⟨b3, 0, none⟩)]) Tryz.func23 rfl Tryz.ntmps23 rfl ?_
  refine T.region (L.op rfl rfl (O.move rfl (L.op rfl rfl (O.move rfl (L.op rfl rfl (O.nilCheck rfl (L.op rfl rfl (O.fieldAddr Tryz.runUnderlying33 rfl Tryz.sizeOf31 rfl (L.op rfl rfl (O.load Tryz.isAgg31 rfl (Blk.cell h3 rfl) (L.op rfl rfl (O.slice_lo (l := 2) Tryz.runUnderlying31 Tryz.sizeOf58 rfl rfl (by decide) (by decide) (L.op rfl rfl (O.nilCheck rfl (L.op rfl rfl (O.fieldAddr Tryz.runUnderlying33 rfl Tryz.sizeOf31 rfl (L.op rfl rfl (O.store1_at Tryz.sizeOf31 rfl rfl rfl h3 (by show 0 + 3 < 4; decide) (fun w2 hu2 hB2 => ?_)))))))))))))))))))
  have hF1 := hF.upd hu2 (.inr hb3)
  refine L.nil (T.end0 Tryz.results23 ⟨Out.of hu2 (by omega), (⟨1, 2, 1, .slice (some ⟨c0 + 12, 2 * 6, none⟩) (4 - 2) (4 - 2), (usD c0 xs0 D0).drop 2⟩ : RoV), hB2, hF1.tail rfl rfl (by decide), by rw [rollErr_eq]; kernel_rfl⟩)

theorem kn9_calls (base c0 b3 : Nat) (w : World) (hF : FU base c0 xs0 D0 w) (h3 : Blk w b3 ((⟨1, 2, 1, (.slice (some ⟨c0 + 12, 0, none⟩) 4 4), usD c0 xs0 D0⟩ : RoV)).cells 33) (hb3 : c0 + 12 < b3) :
    Calls Tryz.prog 24 #[.pointer (some ⟨b3, 0, none⟩)] w (Ret fun _ w' => Chg base b3 161 w w') := by
  have hb := hF.hb
  have hU := hF.units rfl rfl
  refine T.enter (vs := [.pointer (some ⟨b3, 0, none⟩)]) Tryz.func24 rfl Tryz.ntmps24 rfl ?_
  refine T.region (L.op rfl rfl (O.move rfl (L.op rfl rfl (O.nilCheck rfl (L.op rfl rfl (O.fieldAddr Tryz.runUnderlying33 rfl Tryz.sizeOf31 rfl (L.op rfl rfl (O.store1_at Tryz.sizeOf31 rfl rfl rfl h3 (by show 0 + 3 < 4; decide) (fun w1 hu1 hB1 => ?_)))))))))
  have hF1 := hF.upd hu1 (.inr hb3)
  refine L.nil (T.end0 Tryz.results24 ⟨Out.of hu1 (by omega), (⟨1, 2, 1, .slice none 0 0, []⟩ : RoV), hB1, Units.nil _ _, by rw [rollErr_eq]; kernel_rfl⟩)

theorem kn10_calls (base c0 b3 : Nat) (w : World) (hF : FU base c0 xs0 D0 w) (h3 : Blk w b3 ((⟨1, 2, 1, (.slice (some ⟨c0 + 12, 0, none⟩) 4 4), usD c0 xs0 D0⟩ : RoV)).cells 33) (hb3 : c0 + 12 < b3) :
    Calls Tryz.prog 25 #[.pointer (some ⟨b3, 0, none⟩)] w (Ret fun _ w' => Chg base b3 161 w w') := by
  have hb := hF.hb
  have hU := hF.units rfl rfl
  refine T.enter (vs := [.pointer (some ⟨b3, 0, none⟩)]) Tryz.func25 rfl Tryz.ntmps25 rfl ?_
  refine T.region (L.op rfl rfl (O.move rfl (L.op rfl rfl (O.move rfl (L.op rfl rfl (O.nilCheck rfl (L.op rfl rfl (O.fieldAddr Tryz.runUnderlying33 rfl Tryz.sizeOf31 rfl (L.op rfl rfl (O.load Tryz.isAgg31 rfl (Blk.cell h3 rfl) (L.op rfl rfl (O.slice_lo (l := 3) Tryz.runUnderlying31 Tryz.sizeOf58 rfl rfl (by decide) (by decide) (L.op rfl rfl (O.nilCheck rfl (L.op rfl rfl (O.fieldAddr Tryz.runUnderlying33 rfl Tryz.sizeOf31 rfl (L.op rfl rfl (O.store1_at Tryz.sizeOf31 rfl rfl rfl h3 (by show 0 + 3 < 4; decide) (fun w2 hu2 hB2 => ?_)))))))))))))))))))
  have hF1 := hF.upd hu2 (.inr hb3)
  refine L.nil (T.end0 Tryz.results25 ⟨Out.of hu2 (by omega), (⟨1, 2, 1, .slice (some ⟨c0 + 12, 3 * 6, none⟩) (4 - 3) (4 - 3), (usD c0 xs0 D0).drop 3⟩ : RoV), hB2, hF1.tail rfl rfl (by decide), by rw [rollErr_eq]; kernel_rfl⟩)

theorem kn11_calls (base c0 b3 : Nat) (w : World) (hF : FU base c0 xs0 D0 w) (h3 : Blk w b3 ((⟨1, 2, 1, (.slice (some ⟨c0 + 12, 0, none⟩) 4 4), usD c0 xs0 D0⟩ : RoV)).cells 33) (hb3 : c0 + 12 < b3) :
    Calls Tryz.prog 26 #[.pointer (some ⟨b3, 0, none⟩)] w (Ret fun _ w' => Chg base b3 161 w w') := by
  have hb := hF.hb
  have hU := hF.units rfl rfl
  refine T.enter (vs := [.pointer (some ⟨b3, 0, none⟩)]) Tryz.func26 rfl Tryz.ntmps26 rfl ?_
  refine T.region (L.op rfl rfl (O.move rfl (L.op rfl rfl (O.nilCheck rfl (L.op rfl rfl (O.fieldAddr Tryz.runUnderlying33 rfl Tryz.sizeOf3 rfl (L.op rfl rfl (O.store1_at Tryz.sizeOf3 rfl rfl rfl h3 (by show 0 + 0 < 4; decide) (fun w1 hu1 hB1 => ?_)))))))))
  have hF1 := hF.upd hu1 (.inr hb3)
  refine L.nil (T.end0 Tryz.results26 ⟨Out.of hu1 (by omega), (⟨7, 2, 1, (.slice (some ⟨c0 + 12, 0, none⟩) 4 4), usD c0 xs0 D0⟩ : RoV), hB1, hF1.units rfl rfl, by rw [rollErr_eq]; kernel_rfl⟩)

theorem kn12_calls (base c0 b3 : Nat) (w : World) (hF : FU base c0 xs0 D0 w) (h3 : Blk w b3 ((⟨1, 2, 1, (.slice (some ⟨c0 + 12, 0, none⟩) 4 4), usD c0 xs0 D0⟩ : RoV)).cells 33) (hb3 : c0 + 12 < b3) :
    Calls Tryz.prog 27 #[.pointer (some ⟨b3, 0, none⟩)] w (Ret fun _ w' => Chg base b3 161 w w') := by
  have hb := hF.hb
  have hU := hF.units rfl rfl
  refine T.enter (vs := [.pointer (some ⟨b3, 0, none⟩)]) Tryz.func27 rfl Tryz.ntmps27 rfl ?_
  refine T.region (L.op rfl rfl (O.move rfl (L.op rfl rfl (O.nilCheck rfl (L.op rfl rfl (O.fieldAddr Tryz.runUnderlying33 rfl Tryz.sizeOf3 rfl (L.op rfl rfl (O.store1_at Tryz.sizeOf3 rfl rfl rfl h3 (by show 0 + 0 < 4; decide) (fun w1 hu1 hB1 => ?_)))))))))
  have hF1 := hF.upd hu1 (.inr hb3)
  refine L.nil (T.end0 Tryz.results27 ⟨Out.of hu1 (by omega), (⟨-1, 2, 1, (.slice (some ⟨c0 + 12, 0, none⟩) 4 4), usD c0 xs0 D0⟩ : RoV), hB1, hF1.units rfl rfl, by rw [rollErr_eq]; kernel_rfl⟩)

theorem kn13_calls (base c0 b3 : Nat) (w : World) (hF : FU base c0 xs0 D0 w) (h3 : Blk w b3 ((⟨1, 2, 1, (.slice (some ⟨c0 + 12, 0, none⟩) 4 4), usD c0 xs0 D0⟩ : RoV)).cells 33) (hb3 : c0 + 12 < b3) :
    Calls Tryz.prog 28 #[.pointer (some ⟨b3, 0, none⟩)] w (Ret fun _ w' => Chg base b3 161 w w') := by
  have hb := hF.hb
  have hU := hF.units rfl rfl
  refine T.enter (vs := [.pointer (some ⟨b3, 0, none⟩)]) Tryz.func28 rfl Tryz.ntmps28 rfl ?_
  refine T.region (L.op rfl rfl (O.move rfl (L.op rfl rfl (O.nilCheck rfl (L.op rfl rfl (O.fieldAddr Tryz.runUnderlying33 rfl Tryz.sizeOf3 rfl (L.op rfl rfl (O.store1_at Tryz.sizeOf3 rfl rfl rfl h3 (by show 0 + 1 < 4; decide) (fun w1 hu1 hB1 => ?_)))))))))
  have hF1 := hF.upd hu1 (.inr hb3)
  refine L.nil (T.end0 Tryz.results28 ⟨Out.of hu1 (by omega), (⟨1, 13, 1, (.slice (some ⟨c0 + 12, 0, none⟩) 4 4), usD c0 xs0 D0⟩ : RoV), hB1, hF1.units rfl rfl, by rw [rollErr_eq]; kernel_rfl⟩)

theorem kn14_calls (base c0 b3 : Nat) (w : World) (hF : FU base c0 xs0 D0 w) (h3 : Blk w b3 ((⟨1, 2, 1, (.slice (some ⟨c0 + 12, 0, none⟩) 4 4), usD c0 xs0 D0⟩ : RoV)).cells 33) (hb3 : c0 + 12 < b3) :
    Calls Tryz.prog 29 #[.pointer (some ⟨b3, 0, none⟩)] w (Ret fun _ w' => Chg base b3 161 w w') := by
  have hb := hF.hb
  have hU := hF.units rfl rfl
  refine T.enter (vs := [.pointer (some ⟨b3, 0, none⟩)]) Tryz.func29 rfl Tryz.ntmps29 rfl ?_
  refine T.region (L.op rfl rfl (O.move rfl (L.op rfl rfl (O.nilCheck rfl (L.op rfl rfl (O.fieldAddr Tryz.runUnderlying33 rfl Tryz.sizeOf3 rfl (L.op rfl rfl (O.store1_at Tryz.sizeOf3 rfl rfl rfl h3 (by show 0 + 2 < 4; decide) (fun w1 hu1 hB1 => ?_)))))))))
  have hF1 := hF.upd hu1 (.inr hb3)
  refine L.nil (T.end0 Tryz.results29 ⟨Out.of hu1 (by omega), (⟨1, 2, 4, (.slice (some ⟨c0 + 12, 0, none⟩) 4 4), usD c0 xs0 D0⟩ : RoV), hB1, hF1.units rfl rfl, by rw [rollErr_eq]; kernel_rfl⟩)

theorem kn15_calls (base c0 b3 : Nat) (w : World) (hF : FU base c0 xs0 D0 w) (h3 : Blk w b3 ((⟨1, 2, 1, (.slice (some ⟨c0 + 12, 0, none⟩) 4 4), usD c0 xs0 D0⟩ : RoV)).cells 33) (hb3 : c0 + 12 < b3) :
    Calls Tryz.prog 30 #[.pointer (some ⟨b3, 0, none⟩)] w (Ret fun _ w' => Chg base b3 161 w w') := by
  have hb := hF.hb
  have hU := hF.units rfl rfl
  refine T.enter (vs := [.pointer (some ⟨b3, 0, none⟩)]) Tryz.func30 rfl Tryz.ntmps30 rfl ?_
  refine T.region (L.op rfl rfl (O.move rfl (L.op rfl rfl (O.nilCheck rfl (L.op rfl rfl (O.fieldAddr Tryz.runUnderlying33 rfl Tryz.sizeOf3 rfl (L.op rfl rfl (O.store1_at Tryz.sizeOf3 rfl rfl rfl h3 (by show 0 + 2 < 4; decide) (fun w1 hu1 hB1 => ?_)))))))))
  have hF1 := hF.upd hu1 (.inr hb3)
  refine L.nil (T.end0 Tryz.results30 ⟨Out.of hu1 (by omega), (⟨1, 2, 0, (.slice (some ⟨c0 + 12, 0, none⟩) 4 4), usD c0 xs0 D0⟩ : RoV), hB1, hF1.units rfl rfl, by rw [rollErr_eq]; kernel_rfl⟩)

theorem kn16_calls (base c0 b3 : Nat) (w : World) (hF : FU base c0 xs0 D0 w) (h3 : Blk w b3 ((⟨1, 2, 1, (.slice (some ⟨c0 + 12, 0, none⟩) 4 4), usD c0 xs0 D0⟩ : RoV)).cells 33) (hb3 : c0 + 12 < b3) :
    Calls Tryz.prog 31 #[.pointer (some ⟨b3, 0, none⟩)] w (Ret fun _ w' => Chg base b3 161 w w') := by
  have hb := hF.hb
  have hU := hF.units rfl rfl
  refine T.enter (vs := [.pointer (some ⟨b3, 0, none⟩)]) Tryz.func31 rfl Tryz.ntmps31 rfl ?_
  refine T.region (L.op rfl rfl (O.move rfl (L.op rfl rfl (O.nilCheck rfl (L.op rfl rfl (O.fieldAddr Tryz.runUnderlying33 rfl Tryz.sizeOf31 rfl (L.op rfl rfl (O.load Tryz.isAgg31 rfl (Blk.cell h3 rfl) (L.op rfl rfl (O.indexAddr Tryz.runUnderlying31 Tryz.sizeOf58 rfl rfl hU.sl (by decide) (by show (0 : Int) < ((4 : Nat) : Int); decide) (L.op rfl rfl (O.fieldAddr Tryz.runUnderlying58 rfl Tryz.sizeOf9 rfl (L.op rfl rfl (O.store1_at2 Tryz.sizeOf9 rfl rfl rfl hF.cb (by rw [ucells_len]; show 0 + (0 * 6 + 0) < 4 * 6; decide) (fun w1 hu1 hB1 => ?_)))))))))))))))
  have hF1 : FU base c0 xs0 (D0.set 0 { D0.getD 0 d0 with nm := [] }) w1 := hF.unit hu1 hB1 rfl
  have h31 : Blk w1 b3 [.int .i64 1, .int .i64 2, .int .i64 1, .slice (some ⟨c0 + 12, 0, none⟩) 4 4] 33 := Blk.upd (cs := ((⟨1, 2, 1, (.slice (some ⟨c0 + 12, 0, none⟩) 4 4), usD c0 xs0 D0⟩ : RoV)).cells) h3 hu1 (by omega)
  refine L.nil (T.end0 Tryz.results31 ⟨Out.of hu1 (by omega), (⟨1, 2, 1, (.slice (some ⟨c0 + 12, 0, none⟩) 4 4), usD c0 xs0 (D0.set 0 { D0.getD 0 d0 with nm := [] })⟩ : RoV), h31, hF1.units rfl rfl, by rw [rollErr_eq]; kernel_rfl⟩)

theorem kn17_calls (base c0 b3 : Nat) (w : World) (hF : FU base c0 xs0 D0 w) (h3 : Blk w b3 ((⟨1, 2, 1, (.slice (some ⟨c0 + 12, 0, none⟩) 4 4), usD c0 xs0 D0⟩ : RoV)).cells 33) (hb3 : c0 + 12 < b3) :
    Calls Tryz.prog 32 #[.pointer (some ⟨b3, 0, none⟩)] w (Ret fun _ w' => Chg base b3 161 w w') := by
  have hb := hF.hb
  have hU := hF.units rfl rfl
  refine T.enter (vs := [.pointer (some ⟨b3, 0, none⟩)]) Tryz.func32 rfl Tryz.ntmps32 rfl ?_
  refine T.anyE mixed 5 [0] rfl [.is _, .is _, .is _, .is _, .is (str (Lib.repeatL [97] 13))] [[], [0], [1], [2], []] [[], [0], [0, 1], [0, 1, 2], [], [0, 1, 2, 3, 4], [0, 1, 2, 3, 4, 5], [0, 1, 2, 3, 4, 5, 6]] (by kernel_rfl) (by kernel_rfl) rfl (by kernel_rfl) trivial ⟨fun wx hx => Ob.op rfl (O.move rfl ⟨Keep.refl _ _, rfl⟩),
      fun wx hx => Ob.op rfl (O.nilCheck rfl ⟨Keep.refl _ _, rfl⟩),
      fun wx hx => Ob.op rfl (O.fieldAddr Tryz.runUnderlying33 rfl Tryz.sizeOf31 rfl ⟨Keep.refl _ _, rfl⟩),
      fun wx hx => Ob.op rfl (O.load Tryz.isAgg31 rfl (Blk.cell (Blk.ext (cs := ((⟨1, 2, 1, (.slice (some ⟨c0 + 12, 0, none⟩) 4 4), usD c0 xs0 D0⟩ : RoV)).cells) h3 hx) rfl) ⟨Keep.refl _ _, rfl⟩),
      fun wx hx => Ob.op rfl (O.call (xs := [_, .const (.int .i64 13)]) Tryz.call33 rfl rfl (repeat_calls [97] 13 wx (by decide) (by decide)) (fun v wy h => ⟨h.2, h.1⟩)),
      trivial⟩ (fun w5 he5 => ?_)
  have hF5 := hF.ext he5
  have h35 := Blk.ext (cs := ((⟨1, 2, 1, (.slice (some ⟨c0 + 12, 0, none⟩) 4 4), usD c0 xs0 D0⟩ : RoV)).cells) h3 he5
  refine L.op rfl rfl (O.indexAddr Tryz.runUnderlying31 Tryz.sizeOf58 rfl rfl hU.sl (by decide) (by show (0 : Int) < ((4 : Nat) : Int); decide) (L.op rfl rfl (O.fieldAddr Tryz.runUnderlying58 rfl Tryz.sizeOf9 rfl (L.op rfl rfl (O.store1_at2 Tryz.sizeOf9 rfl rfl rfl hF5.cb (by rw [ucells_len]; show 0 + (0 * 6 + 0) < 4 * 6; decide) (fun w1 hu1 hB1 => ?_))))))
  have hF1 : FU base c0 xs0 (D0.set 0 { D0.getD 0 d0 with nm := Lib.repeatL [97] 13 }) w1 := hF5.unit hu1 hB1 rfl
  have h31 : Blk w1 b3 [.int .i64 1, .int .i64 2, .int .i64 1, .slice (some ⟨c0 + 12, 0, none⟩) 4 4] 33 := Blk.upd (cs := ((⟨1, 2, 1, (.slice (some ⟨c0 + 12, 0, none⟩) 4 4), usD c0 xs0 D0⟩ : RoV)).cells) h35 hu1 (by omega)
  refine L.nil (T.end0 Tryz.results32 ⟨(Out.of_ext he5).trans (Out.of hu1 (by omega)), (⟨1, 2, 1, (.slice (some ⟨c0 + 12, 0, none⟩) 4 4), usD c0 xs0 (D0.set 0 { D0.getD 0 d0 with nm := Lib.repeatL [97] 13 })⟩ : RoV), h31, hF1.units rfl rfl, by rw [rollErr_eq]; kernel_rfl⟩)

theorem kn18_calls (base c0 b3 : Nat) (w : World) (hF : FU base c0 xs0 D0 w) (h3 : Blk w b3 ((⟨1, 2, 1, (.slice (some ⟨c0 + 12, 0, none⟩) 4 4), usD c0 xs0 D0⟩ : RoV)).cells 33) (hb3 : c0 + 12 < b3) :
    Calls Tryz.prog 34 #[.pointer (some ⟨b3, 0, none⟩)] w (Ret fun _ w' => Chg base b3 161 w w') := by
  have hb := hF.hb
  have hU := hF.units rfl rfl
  refine T.enter (vs := [.pointer (some ⟨b3, 0, none⟩)]) Tryz.func34 rfl Tryz.ntmps34 rfl ?_
  refine T.region (L.op rfl rfl (O.move rfl (L.op rfl rfl (O.nilCheck rfl (L.op rfl rfl (O.fieldAddr Tryz.runUnderlying33 rfl Tryz.sizeOf31 rfl (L.op rfl rfl (O.load Tryz.isAgg31 rfl (Blk.cell h3 rfl) (L.op rfl rfl (O.indexAddr Tryz.runUnderlying31 Tryz.sizeOf58 rfl rfl hU.sl (by decide) (by show (0 : Int) < ((4 : Nat) : Int); decide) (L.op rfl rfl (O.fieldAddr Tryz.runUnderlying58 rfl Tryz.sizeOf9 rfl (L.op rfl rfl (O.store1_at2 Tryz.sizeOf9 rfl rfl rfl hF.cb (by rw [ucells_len]; show 0 + (0 * 6 + 0) < 4 * 6; decide) (fun w1 hu1 hB1 => ?_)))))))))))))))
  have hF1 : FU base c0 xs0 (D0.set 0 { D0.getD 0 d0 with nm := [97, 32, 98] }) w1 := hF.unit hu1 hB1 rfl
  have h31 : Blk w1 b3 [.int .i64 1, .int .i64 2, .int .i64 1, .slice (some ⟨c0 + 12, 0, none⟩) 4 4] 33 := Blk.upd (cs := ((⟨1, 2, 1, (.slice (some ⟨c0 + 12, 0, none⟩) 4 4), usD c0 xs0 D0⟩ : RoV)).cells) h3 hu1 (by omega)
  refine L.nil (T.end0 Tryz.results34 ⟨Out.of hu1 (by omega), (⟨1, 2, 1, (.slice (some ⟨c0 + 12, 0, none⟩) 4 4), usD c0 xs0 (D0.set 0 { D0.getD 0 d0 with nm := [97, 32, 98] })⟩ : RoV), h31, hF1.units rfl rfl, by rw [rollErr_eq]; kernel_rfl⟩)

theorem kn19_calls (base c0 b3 : Nat) (w : World) (hF : FU base c0 xs0 D0 w) (h3 : Blk w b3 ((⟨1, 2, 1, (.slice (some ⟨c0 + 12, 0, none⟩) 4 4), usD c0 xs0 D0⟩ : RoV)).cells 33) (hb3 : c0 + 12 < b3) :
    Calls Tryz.prog 35 #[.pointer (some ⟨b3, 0, none⟩)] w (Ret fun _ w' => Chg base b3 161 w w') := by
  have hb := hF.hb
  have hU := hF.units rfl rfl
  refine T.enter (vs := [.pointer (some ⟨b3, 0, none⟩)]) Tryz.func35 rfl Tryz.ntmps35 rfl ?_
  refine T.region (L.op rfl rfl (O.move rfl (L.op rfl rfl (O.nilCheck rfl (L.op rfl rfl (O.fieldAddr Tryz.runUnderlying33 rfl Tryz.sizeOf31 rfl (L.op rfl rfl (O.load Tryz.isAgg31 rfl (Blk.cell h3 rfl) (L.op rfl rfl (O.indexAddr Tryz.runUnderlying31 Tryz.sizeOf58 rfl rfl hU.sl (by decide) (by show (0 : Int) < ((4 : Nat) : Int); decide) (L.op rfl rfl (O.fieldAddr Tryz.runUnderlying58 rfl Tryz.sizeOf9 rfl (L.op rfl rfl (O.store1_at2 Tryz.sizeOf9 rfl rfl rfl hF.cb (by rw [ucells_len]; show 0 + (0 * 6 + 0) < 4 * 6; decide) (fun w1 hu1 hB1 => ?_)))))))))))))))
  have hF1 : FU base c0 xs0 (D0.set 0 { D0.getD 0 d0 with nm := [195, 164] }) w1 := hF.unit hu1 hB1 rfl
  have h31 : Blk w1 b3 [.int .i64 1, .int .i64 2, .int .i64 1, .slice (some ⟨c0 + 12, 0, none⟩) 4 4] 33 := Blk.upd (cs := ((⟨1, 2, 1, (.slice (some ⟨c0 + 12, 0, none⟩) 4 4), usD c0 xs0 D0⟩ : RoV)).cells) h3 hu1 (by omega)
  refine L.nil (T.end0 Tryz.results35 ⟨Out.of hu1 (by omega), (⟨1, 2, 1, (.slice (some ⟨c0 + 12, 0, none⟩) 4 4), usD c0 xs0 (D0.set 0 { D0.getD 0 d0 with nm := [195, 164] })⟩ : RoV), h31, hF1.units rfl rfl, by rw [rollErr_eq]; kernel_rfl⟩)

theorem kn20_calls (base c0 b3 : Nat) (w : World) (hF : FU base c0 xs0 D0 w) (h3 : Blk w b3 ((⟨1, 2, 1, (.slice (some ⟨c0 + 12, 0, none⟩) 4 4), usD c0 xs0 D0⟩ : RoV)).cells 33) (hb3 : c0 + 12 < b3) :
    Calls Tryz.prog 36 #[.pointer (some ⟨b3, 0, none⟩)] w (Ret fun _ w' => Chg base b3 161 w w') := by
  have hb := hF.hb
  have hU := hF.units rfl rfl
  refine T.enter (vs := [.pointer (some ⟨b3, 0, none⟩)]) Tryz.func36 rfl Tryz.ntmps36 rfl ?_
  refine T.region (L.op rfl rfl (O.move rfl (L.op rfl rfl (O.nilCheck rfl (L.op rfl rfl (O.fieldAddr Tryz.runUnderlying33 rfl Tryz.sizeOf31 rfl (L.op rfl rfl (O.load Tryz.isAgg31 rfl (Blk.cell h3 rfl) (L.op rfl rfl (O.indexAddr Tryz.runUnderlying31 Tryz.sizeOf58 rfl rfl hU.sl (by decide) (by show (0 : Int) < ((4 : Nat) : Int); decide) (L.op rfl rfl (O.fieldAddr Tryz.runUnderlying58 rfl Tryz.sizeOf9 rfl (L.op rfl rfl (O.store1_at2 Tryz.sizeOf9 rfl rfl rfl hF.cb (by rw [ucells_len]; show 0 + (0 * 6 + 0) < 4 * 6; decide) (fun w1 hu1 hB1 => ?_)))))))))))))))
  have hF1 : FU base c0 xs0 (D0.set 0 { D0.getD 0 d0 with nm := [119] }) w1 := hF.unit hu1 hB1 rfl
  have h31 : Blk w1 b3 [.int .i64 1, .int .i64 2, .int .i64 1, .slice (some ⟨c0 + 12, 0, none⟩) 4 4] 33 := Blk.upd (cs := ((⟨1, 2, 1, (.slice (some ⟨c0 + 12, 0, none⟩) 4 4), usD c0 xs0 D0⟩ : RoV)).cells) h3 hu1 (by omega)
  refine L.nil (T.end0 Tryz.results36 ⟨Out.of hu1 (by omega), (⟨1, 2, 1, (.slice (some ⟨c0 + 12, 0, none⟩) 4 4), usD c0 xs0 (D0.set 0 { D0.getD 0 d0 with nm := [119] })⟩ : RoV), h31, hF1.units rfl rfl, by rw [rollErr_eq]; kernel_rfl⟩)

theorem kn21_calls (base c0 b3 : Nat) (w : World) (hF : FU base c0 xs0 D0 w) (h3 : Blk w b3 ((⟨1, 2, 1, (.slice (some ⟨c0 + 12, 0, none⟩) 4 4), usD c0 xs0 D0⟩ : RoV)).cells 33) (hb3 : c0 + 12 < b3) :
    Calls Tryz.prog 37 #[.pointer (some ⟨b3, 0, none⟩)] w (Ret fun _ w' => Chg base b3 161 w w') := by
  have hb := hF.hb
  have hU := hF.units rfl rfl
  refine T.enter (vs := [.pointer (some ⟨b3, 0, none⟩)]) Tryz.func37 rfl Tryz.ntmps37 rfl ?_
  refine T.region (L.op rfl rfl (O.move rfl (L.op rfl rfl (O.nilCheck rfl (L.op rfl rfl (O.fieldAddr Tryz.runUnderlying33 rfl Tryz.sizeOf31 rfl (L.op rfl rfl (O.load Tryz.isAgg31 rfl (Blk.cell h3 rfl) (L.op rfl rfl (O.indexAddr Tryz.runUnderlying31 Tryz.sizeOf58 rfl rfl hU.sl (by decide) (by show (0 : Int) < ((4 : Nat) : Int); decide) (L.op rfl rfl (O.fieldAddr Tryz.runUnderlying58 rfl Tryz.sizeOf3 rfl (L.op rfl rfl (O.store1_at2 Tryz.sizeOf3 rfl rfl rfl hF.cb (by rw [ucells_len]; show 0 + (0 * 6 + 1) < 4 * 6; decide) (fun w1 hu1 hB1 => ?_)))))))))))))))
  have hF1 : FU base c0 xs0 (D0.set 0 { D0.getD 0 d0 with pp := -1 }) w1 := hF.unit hu1 hB1 rfl
  have h31 : Blk w1 b3 [.int .i64 1, .int .i64 2, .int .i64 1, .slice (some ⟨c0 + 12, 0, none⟩) 4 4] 33 := Blk.upd (cs := ((⟨1, 2, 1, (.slice (some ⟨c0 + 12, 0, none⟩) 4 4), usD c0 xs0 D0⟩ : RoV)).cells) h3 hu1 (by omega)
  refine L.nil (T.end0 Tryz.results37 ⟨Out.of hu1 (by omega), (⟨1, 2, 1, (.slice (some ⟨c0 + 12, 0, none⟩) 4 4), usD c0 xs0 (D0.set 0 { D0.getD 0 d0 with pp := -1 })⟩ : RoV), h31, hF1.units rfl rfl, by rw [rollErr_eq]; kernel_rfl⟩)

theorem kn22_calls (base c0 b3 : Nat) (w : World) (hF : FU base c0 xs0 D0 w) (h3 : Blk w b3 ((⟨1, 2, 1, (.slice (some ⟨c0 + 12, 0, none⟩) 4 4), usD c0 xs0 D0⟩ : RoV)).cells 33) (hb3 : c0 + 12 < b3) :
    Calls Tryz.prog 38 #[.pointer (some ⟨b3, 0, none⟩)] w (Ret fun _ w' => Chg base b3 161 w w') := by
  have hb := hF.hb
  have hU := hF.units rfl rfl
  refine T.enter (vs := [.pointer (some ⟨b3, 0, none⟩)]) Tryz.func38 rfl Tryz.ntmps38 rfl ?_
  refine T.region (L.op rfl rfl (O.move rfl (L.op rfl rfl (O.nilCheck rfl (L.op rfl rfl (O.fieldAddr Tryz.runUnderlying33 rfl Tryz.sizeOf31 rfl (L.op rfl rfl (O.load Tryz.isAgg31 rfl (Blk.cell h3 rfl) (L.op rfl rfl (O.indexAddr Tryz.runUnderlying31 Tryz.sizeOf58 rfl rfl hU.sl (by decide) (by show (0 : Int) < ((4 : Nat) : Int); decide) (L.op rfl rfl (O.fieldAddr Tryz.runUnderlying58 rfl Tryz.sizeOf3 rfl (L.op rfl rfl (O.store1_at2 Tryz.sizeOf3 rfl rfl rfl hF.cb (by rw [ucells_len]; show 0 + (0 * 6 + 1) < 4 * 6; decide) (fun w1 hu1 hB1 => ?_)))))))))))))))
  have hF1 : FU base c0 xs0 (D0.set 0 { D0.getD 0 d0 with pp := 1000000001 }) w1 := hF.unit hu1 hB1 rfl
  have h31 : Blk w1 b3 [.int .i64 1, .int .i64 2, .int .i64 1, .slice (some ⟨c0 + 12, 0, none⟩) 4 4] 33 := Blk.upd (cs := ((⟨1, 2, 1, (.slice (some ⟨c0 + 12, 0, none⟩) 4 4), usD c0 xs0 D0⟩ : RoV)).cells) h3 hu1 (by omega)
  refine L.nil (T.end0 Tryz.results38 ⟨Out.of hu1 (by omega), (⟨1, 2, 1, (.slice (some ⟨c0 + 12, 0, none⟩) 4 4), usD c0 xs0 (D0.set 0 { D0.getD 0 d0 with pp := 1000000001 })⟩ : RoV), h31, hF1.units rfl rfl, by rw [rollErr_eq]; kernel_rfl⟩)

theorem kn23_calls (base c0 b3 : Nat) (w : World) (hF : FU base c0 xs0 D0 w) (h3 : Blk w b3 ((⟨1, 2, 1, (.slice (some ⟨c0 + 12, 0, none⟩) 4 4), usD c0 xs0 D0⟩ : RoV)).cells 33) (hb3 : c0 + 12 < b3) :
    Calls Tryz.prog 39 #[.pointer (some ⟨b3, 0, none⟩)] w (Ret fun _ w' => Chg base b3 161 w w') := by
  have hb := hF.hb
  have hU := hF.units rfl rfl
  refine T.enter (vs := [.pointer (some ⟨b3, 0, none⟩)]) Tryz.func39 rfl Tryz.ntmps39 rfl ?_
  refine T.region (L.op rfl rfl (O.move rfl (L.op rfl rfl (O.nilCheck rfl (L.op rfl rfl (O.fieldAddr Tryz.runUnderlying33 rfl Tryz.sizeOf31 rfl (L.op rfl rfl (O.load Tryz.isAgg31 rfl (Blk.cell h3 rfl) (L.op rfl rfl (O.indexAddr Tryz.runUnderlying31 Tryz.sizeOf58 rfl rfl hU.sl (by decide) (by show (0 : Int) < ((4 : Nat) : Int); decide) (L.op rfl rfl (O.fieldAddr Tryz.runUnderlying58 rfl Tryz.sizeOf56 rfl (L.op rfl rfl (O.load Tryz.isAgg56 rfl (Blk.at2 (b := c0 + 12) hF.cb (show (ucells (usD c0 xs0 D0))[0 + (0 * 6 + 2)]? = some (.slice (some ⟨c0 + 0, 0, none⟩) 1 1) from rfl)) (?_)))))))))))))))
  have hL : Blk w (c0 + 0) [.int .i64 4] 3 := hF.ls 0 (by decide)
  refine L.op rfl rfl (O.indexAddr Tryz.runUnderlying56 Tryz.sizeOf3 rfl rfl (Ints.of_blk (n := 1) (xs := [4]) hL rfl (by decide) (Nat.zero_le (c0 + 0))) (by decide) (by decide) (L.op rfl rfl (O.store1_at Tryz.sizeOf3 rfl rfl rfl hL (by decide) (fun w1 hu1 hB1 => ?_))))
  have hB1' : Blk w1 (c0 + 0) (((xs0.getD 0 []).map (Value.int .i64)).set 0 (.int .i64 (11))) 3 := hB1
  have hF1 : FU base c0 (xs0.set 0 ((xs0.getD 0 []).set 0 (11))) D0 w1 := hF.list (i := 0) (m := 0) (by decide) hu1 hB1'
  have h31 : Blk w1 b3 [.int .i64 1, .int .i64 2, .int .i64 1, .slice (some ⟨c0 + 12, 0, none⟩) 4 4] 33 := Blk.upd (cs := ((⟨1, 2, 1, (.slice (some ⟨c0 + 12, 0, none⟩) 4 4), usD c0 xs0 D0⟩ : RoV)).cells) h3 hu1 (by omega)
  refine L.nil (T.end0 Tryz.results39 ⟨Out.of hu1 (by omega), (⟨1, 2, 1, (.slice (some ⟨c0 + 12, 0, none⟩) 4 4), usD c0 (xs0.set 0 ((xs0.getD 0 []).set 0 (11))) D0⟩ : RoV), h31, hF1.units rfl rfl, by rw [rollErr_eq]; kernel_rfl⟩)

theorem kn24_calls (base c0 b3 : Nat) (w : World) (hF : FU base c0 xs0 D0 w) (h3 : Blk w b3 ((⟨1, 2, 1, (.slice (some ⟨c0 + 12, 0, none⟩) 4 4), usD c0 xs0 D0⟩ : RoV)).cells 33) (hb3 : c0 + 12 < b3) :
    Calls Tryz.prog 40 #[.pointer (some ⟨b3, 0, none⟩)] w (Ret fun _ w' => Chg base b3 161 w w') := by
  have hb := hF.hb
  have hU := hF.units rfl rfl
  refine T.enter (vs := [.pointer (some ⟨b3, 0, none⟩)]) Tryz.func40 rfl Tryz.ntmps40 rfl ?_
  refine T.region (L.op rfl rfl (O.move rfl (L.op rfl rfl (O.nilCheck rfl (L.op rfl rfl (O.fieldAddr Tryz.runUnderlying33 rfl Tryz.sizeOf31 rfl (L.op rfl rfl (O.load Tryz.isAgg31 rfl (Blk.cell h3 rfl) (L.op rfl rfl (O.indexAddr Tryz.runUnderlying31 Tryz.sizeOf58 rfl rfl hU.sl (by decide) (by show (0 : Int) < ((4 : Nat) : Int); decide) (L.op rfl rfl (O.fieldAddr Tryz.runUnderlying58 rfl Tryz.sizeOf56 rfl (L.op rfl rfl (O.store1_at2 Tryz.sizeOf56 rfl rfl rfl hF.cb (by rw [ucells_len]; show 0 + (0 * 6 + 2) < 4 * 6; decide) (fun w1 hu1 hB1 => ?_)))))))))))))))
  have hF1 : FU base c0 xs0 (D0.set 0 { D0.getD 0 d0 with g := none }) w1 := hF.unit hu1 hB1 rfl
  have h31 : Blk w1 b3 [.int .i64 1, .int .i64 2, .int .i64 1, .slice (some ⟨c0 + 12, 0, none⟩) 4 4] 33 := Blk.upd (cs := ((⟨1, 2, 1, (.slice (some ⟨c0 + 12, 0, none⟩) 4 4), usD c0 xs0 D0⟩ : RoV)).cells) h3 hu1 (by omega)
  refine L.nil (T.end0 Tryz.results40 ⟨Out.of hu1 (by omega), (⟨1, 2, 1, (.slice (some ⟨c0 + 12, 0, none⟩) 4 4), usD c0 xs0 (D0.set 0 { D0.getD 0 d0 with g := none })⟩ : RoV), h31, hF1.units rfl rfl, by rw [rollErr_eq]; kernel_rfl⟩)

theorem kn25_calls (base c0 b3 : Nat) (w : World) (hF : FU base c0 xs0 D0 w) (h3 : Blk w b3 ((⟨1, 2, 1, (.slice (some ⟨c0 + 12, 0, none⟩) 4 4), usD c0 xs0 D0⟩ : RoV)).cells 33) (hb3 : c0 + 12 < b3) :
    Calls Tryz.prog 41 #[.pointer (some ⟨b3, 0, none⟩)] w (Ret fun _ w' => Chg base b3 161 w w') := by
  have hb := hF.hb
  have hU := hF.units rfl rfl
  refine T.enter (vs := [.pointer (some ⟨b3, 0, none⟩)]) Tryz.func41 rfl Tryz.ntmps41 rfl ?_
  refine T.region (L.op rfl rfl (O.move rfl (L.op rfl rfl (O.nilCheck rfl (L.op rfl rfl (O.fieldAddr Tryz.runUnderlying33 rfl Tryz.sizeOf31 rfl (L.op rfl rfl (O.load Tryz.isAgg31 rfl (Blk.cell h3 rfl) (L.op rfl rfl (O.indexAddr Tryz.runUnderlying31 Tryz.sizeOf58 rfl rfl hU.sl (by decide) (by show (0 : Int) < ((4 : Nat) : Int); decide) (L.op rfl rfl (O.fieldAddr Tryz.runUnderlying58 rfl Tryz.sizeOf56 rfl (L.op rfl rfl (O.load Tryz.isAgg56 rfl (Blk.at2 (b := c0 + 12) hF.cb (show (ucells (usD c0 xs0 D0))[0 + (0 * 6 + 3)]? = some (.slice (some ⟨c0 + 1, 0, none⟩) 2 2) from rfl)) (?_)))))))))))))))
  have hL : Blk w (c0 + 1) [.int .i64 3, .int .i64 5] 3 := hF.ls 1 (by decide)
  refine L.op rfl rfl (O.indexAddr Tryz.runUnderlying56 Tryz.sizeOf3 rfl rfl (Ints.of_blk (n := 2) (xs := [3, 5]) hL rfl (by decide) (Nat.zero_le (c0 + 1))) (by decide) (by decide) (L.op rfl rfl (O.store1_at Tryz.sizeOf3 rfl rfl rfl hL (by decide) (fun w1 hu1 hB1 => ?_))))
  have hB1' : Blk w1 (c0 + 1) (((xs0.getD 1 []).map (Value.int .i64)).set 0 (.int .i64 (-1))) 3 := hB1
  have hF1 : FU base c0 (xs0.set 1 ((xs0.getD 1 []).set 0 (-1))) D0 w1 := hF.list (i := 1) (m := 0) (by decide) hu1 hB1'
  have h31 : Blk w1 b3 [.int .i64 1, .int .i64 2, .int .i64 1, .slice (some ⟨c0 + 12, 0, none⟩) 4 4] 33 := Blk.upd (cs := ((⟨1, 2, 1, (.slice (some ⟨c0 + 12, 0, none⟩) 4 4), usD c0 xs0 D0⟩ : RoV)).cells) h3 hu1 (by omega)
  refine L.nil (T.end0 Tryz.results41 ⟨Out.of hu1 (by omega), (⟨1, 2, 1, (.slice (some ⟨c0 + 12, 0, none⟩) 4 4), usD c0 (xs0.set 1 ((xs0.getD 1 []).set 0 (-1))) D0⟩ : RoV), h31, hF1.units rfl rfl, by rw [rollErr_eq]; kernel_rfl⟩)

theorem kn26_calls (base c0 b3 : Nat) (w : World) (hF : FU base c0 xs0 D0 w) (h3 : Blk w b3 ((⟨1, 2, 1, (.slice (some ⟨c0 + 12, 0, none⟩) 4 4), usD c0 xs0 D0⟩ : RoV)).cells 33) (hb3 : c0 + 12 < b3) :
    Calls Tryz.prog 42 #[.pointer (some ⟨b3, 0, none⟩)] w (Ret fun _ w' => Chg base b3 161 w w') := by
  have hb := hF.hb
  have hU := hF.units rfl rfl
  refine T.enter (vs := [.pointer (some ⟨b3, 0, none⟩)]) Tryz.func42 rfl Tryz.ntmps42 rfl ?_
  refine T.region (L.op rfl rfl (O.move rfl (L.op rfl rfl (O.nilCheck rfl (L.op rfl rfl (O.fieldAddr Tryz.runUnderlying33 rfl Tryz.sizeOf31 rfl (L.op rfl rfl (O.load Tryz.isAgg31 rfl (Blk.cell h3 rfl) (L.op rfl rfl (O.indexAddr Tryz.runUnderlying31 Tryz.sizeOf58 rfl rfl hU.sl (by decide) (by show (0 : Int) < ((4 : Nat) : Int); decide) (L.op rfl rfl (O.fieldAddr Tryz.runUnderlying58 rfl Tryz.sizeOf56 rfl (L.op rfl rfl (O.load Tryz.isAgg56 rfl (Blk.at2 (b := c0 + 12) hF.cb (show (ucells (usD c0 xs0 D0))[0 + (0 * 6 + 3)]? = some (.slice (some ⟨c0 + 1, 0, none⟩) 2 2) from rfl)) (?_)))))))))))))))
  have hL : Blk w (c0 + 1) [.int .i64 3, .int .i64 5] 3 := hF.ls 1 (by decide)
  refine L.op rfl rfl (O.indexAddr Tryz.runUnderlying56 Tryz.sizeOf3 rfl rfl (Ints.of_blk (n := 2) (xs := [3, 5]) hL rfl (by decide) (Nat.zero_le (c0 + 1))) (by decide) (by decide) (L.op rfl rfl (O.store1_at Tryz.sizeOf3 rfl rfl rfl hL (by decide) (fun w1 hu1 hB1 => ?_))))
  have hB1' : Blk w1 (c0 + 1) (((xs0.getD 1 []).map (Value.int .i64)).set 0 (.int .i64 (1000000001))) 3 := hB1
  have hF1 : FU base c0 (xs0.set 1 ((xs0.getD 1 []).set 0 (1000000001))) D0 w1 := hF.list (i := 1) (m := 0) (by decide) hu1 hB1'
  have h31 : Blk w1 b3 [.int .i64 1, .int .i64 2, .int .i64 1, .slice (some ⟨c0 + 12, 0, none⟩) 4 4] 33 := Blk.upd (cs := ((⟨1, 2, 1, (.slice (some ⟨c0 + 12, 0, none⟩) 4 4), usD c0 xs0 D0⟩ : RoV)).cells) h3 hu1 (by omega)
  refine L.nil (T.end0 Tryz.results42 ⟨Out.of hu1 (by omega), (⟨1, 2, 1, (.slice (some ⟨c0 + 12, 0, none⟩) 4 4), usD c0 (xs0.set 1 ((xs0.getD 1 []).set 0 (1000000001))) D0⟩ : RoV), h31, hF1.units rfl rfl, by rw [rollErr_eq]; kernel_rfl⟩)

theorem kn27_calls (base c0 b3 : Nat) (w : World) (hF : FU base c0 xs0 D0 w) (h3 : Blk w b3 ((⟨1, 2, 1, (.slice (some ⟨c0 + 12, 0, none⟩) 4 4), usD c0 xs0 D0⟩ : RoV)).cells 33) (hb3 : c0 + 12 < b3) :
    Calls Tryz.prog 43 #[.pointer (some ⟨b3, 0, none⟩)] w (Ret fun _ w' => Chg base b3 161 w w') := by
  have hb := hF.hb
  have hU := hF.units rfl rfl
  refine T.enter (vs := [.pointer (some ⟨b3, 0, none⟩)]) Tryz.func43 rfl Tryz.ntmps43 rfl ?_
  refine T.region (L.op rfl rfl (O.move rfl (L.op rfl rfl (O.nilCheck rfl (L.op rfl rfl (O.fieldAddr Tryz.runUnderlying33 rfl Tryz.sizeOf31 rfl (L.op rfl rfl (O.load Tryz.isAgg31 rfl (Blk.cell h3 rfl) (L.op rfl rfl (O.indexAddr Tryz.runUnderlying31 Tryz.sizeOf58 rfl rfl hU.sl (by decide) (by show (0 : Int) < ((4 : Nat) : Int); decide) (L.op rfl rfl (O.fieldAddr Tryz.runUnderlying58 rfl Tryz.sizeOf56 rfl (L.op rfl rfl (O.load Tryz.isAgg56 rfl (Blk.at2 (b := c0 + 12) hF.cb (show (ucells (usD c0 xs0 D0))[0 + (0 * 6 + 4)]? = some (.slice (some ⟨c0 + 2, 0, none⟩) 1 1) from rfl)) (?_)))))))))))))))
  have hL : Blk w (c0 + 2) [.int .i64 7] 3 := hF.ls 2 (by decide)
  refine L.op rfl rfl (O.indexAddr Tryz.runUnderlying56 Tryz.sizeOf3 rfl rfl (Ints.of_blk (n := 1) (xs := [7]) hL rfl (by decide) (Nat.zero_le (c0 + 2))) (by decide) (by decide) (L.op rfl rfl (O.store1_at Tryz.sizeOf3 rfl rfl rfl hL (by decide) (fun w1 hu1 hB1 => ?_))))
  have hB1' : Blk w1 (c0 + 2) (((xs0.getD 2 []).map (Value.int .i64)).set 0 (.int .i64 (64))) 3 := hB1
  have hF1 : FU base c0 (xs0.set 2 ((xs0.getD 2 []).set 0 (64))) D0 w1 := hF.list (i := 2) (m := 0) (by decide) hu1 hB1'
  have h31 : Blk w1 b3 [.int .i64 1, .int .i64 2, .int .i64 1, .slice (some ⟨c0 + 12, 0, none⟩) 4 4] 33 := Blk.upd (cs := ((⟨1, 2, 1, (.slice (some ⟨c0 + 12, 0, none⟩) 4 4), usD c0 xs0 D0⟩ : RoV)).cells) h3 hu1 (by omega)
  refine L.nil (T.end0 Tryz.results43 ⟨Out.of hu1 (by omega), (⟨1, 2, 1, (.slice (some ⟨c0 + 12, 0, none⟩) 4 4), usD c0 (xs0.set 2 ((xs0.getD 2 []).set 0 (64))) D0⟩ : RoV), h31, hF1.units rfl rfl, by rw [rollErr_eq]; kernel_rfl⟩)

theorem kn28_calls (base c0 b3 : Nat) (w : World) (hF : FU base c0 xs0 D0 w) (h3 : Blk w b3 ((⟨1, 2, 1, (.slice (some ⟨c0 + 12, 0, none⟩) 4 4), usD c0 xs0 D0⟩ : RoV)).cells 33) (hb3 : c0 + 12 < b3) :
    Calls Tryz.prog 44 #[.pointer (some ⟨b3, 0, none⟩)] w (Ret fun _ w' => Chg base b3 161 w w') := by
  have hb := hF.hb
  have hU := hF.units rfl rfl
  refine T.enter (vs := [.pointer (some ⟨b3, 0, none⟩)]) Tryz.func44 rfl Tryz.ntmps44 rfl ?_
  refine T.region (L.op rfl rfl (O.move rfl (L.op rfl rfl (O.nilCheck rfl (L.op rfl rfl (O.fieldAddr Tryz.runUnderlying33 rfl Tryz.sizeOf31 rfl (L.op rfl rfl (O.load Tryz.isAgg31 rfl (Blk.cell h3 rfl) (L.op rfl rfl (O.indexAddr Tryz.runUnderlying31 Tryz.sizeOf58 rfl rfl hU.sl (by decide) (by show (3 : Int) < ((4 : Nat) : Int); decide) (L.op rfl rfl (O.fieldAddr Tryz.runUnderlying58 rfl Tryz.sizeOf3 rfl (L.op rfl rfl (O.store1_at2 Tryz.sizeOf3 rfl rfl rfl hF.cb (by rw [ucells_len]; show 0 + (3 * 6 + 1) < 4 * 6; decide) (fun w1 hu1 hB1 => ?_)))))))))))))))
  have hF1 : FU base c0 xs0 (D0.set 3 { D0.getD 3 d0 with pp := 1 }) w1 := hF.unit hu1 hB1 rfl
  have h31 : Blk w1 b3 [.int .i64 1, .int .i64 2, .int .i64 1, .slice (some ⟨c0 + 12, 0, none⟩) 4 4] 33 := Blk.upd (cs := ((⟨1, 2, 1, (.slice (some ⟨c0 + 12, 0, none⟩) 4 4), usD c0 xs0 D0⟩ : RoV)).cells) h3 hu1 (by omega)
  refine L.nil (T.end0 Tryz.results44 ⟨Out.of hu1 (by omega), (⟨1, 2, 1, (.slice (some ⟨c0 + 12, 0, none⟩) 4 4), usD c0 xs0 (D0.set 3 { D0.getD 3 d0 with pp := 1 })⟩ : RoV), h31, hF1.units rfl rfl, by rw [rollErr_eq]; kernel_rfl⟩)

theorem kn29_calls (base c0 b3 : Nat) (w : World) (hF : FU base c0 xs0 D0 w) (h3 : Blk w b3 ((⟨1, 2, 1, (.slice (some ⟨c0 + 12, 0, none⟩) 4 4), usD c0 xs0 D0⟩ : RoV)).cells 33) (hb3 : c0 + 12 < b3) :
    Calls Tryz.prog 45 #[.pointer (some ⟨b3, 0, none⟩)] w (Ret fun _ w' => Chg base b3 161 w w') := by
  have hb := hF.hb
  have hU := hF.units rfl rfl
  refine T.enter (vs := [.pointer (some ⟨b3, 0, none⟩)]) Tryz.func45 rfl Tryz.ntmps45 rfl ?_
  refine T.region (L.op rfl rfl (O.move rfl (L.op rfl rfl (O.nilCheck rfl (L.op rfl rfl (O.fieldAddr Tryz.runUnderlying33 rfl Tryz.sizeOf31 rfl (L.op rfl rfl (O.load Tryz.isAgg31 rfl (Blk.cell h3 rfl) (L.op rfl rfl (O.indexAddr Tryz.runUnderlying31 Tryz.sizeOf58 rfl rfl hU.sl (by decide) (by show (3 : Int) < ((4 : Nat) : Int); decide) (L.op rfl rfl (O.fieldAddr Tryz.runUnderlying58 rfl Tryz.sizeOf56 rfl (L.op rfl rfl (O.load Tryz.isAgg56 rfl (Blk.at2 (b := c0 + 12) hF.cb (show (ucells (usD c0 xs0 D0))[0 + (3 * 6 + 3)]? = some (.slice (some ⟨c0 + 10, 0, none⟩) 2 2) from rfl)) (?_)))))))))))))))
  have hL : Blk w (c0 + 10) [.int .i64 0, .int .i64 0] 3 := hF.ls 10 (by decide)
  refine L.op rfl rfl (O.indexAddr Tryz.runUnderlying56 Tryz.sizeOf3 rfl rfl (Ints.of_blk (n := 2) (xs := [0, 0]) hL rfl (by decide) (Nat.zero_le (c0 + 10))) (by decide) (by decide) (L.op rfl rfl (O.store1_at Tryz.sizeOf3 rfl rfl rfl hL (by decide) (fun w1 hu1 hB1 => ?_))))
  have hB1' : Blk w1 (c0 + 10) (((xs0.getD 10 []).map (Value.int .i64)).set 0 (.int .i64 (1))) 3 := hB1
  have hF1 : FU base c0 (xs0.set 10 ((xs0.getD 10 []).set 0 (1))) D0 w1 := hF.list (i := 10) (m := 0) (by decide) hu1 hB1'
  have h31 : Blk w1 b3 [.int .i64 1, .int .i64 2, .int .i64 1, .slice (some ⟨c0 + 12, 0, none⟩) 4 4] 33 := Blk.upd (cs := ((⟨1, 2, 1, (.slice (some ⟨c0 + 12, 0, none⟩) 4 4), usD c0 xs0 D0⟩ : RoV)).cells) h3 hu1 (by omega)
  refine L.nil (T.end0 Tryz.results45 ⟨Out.of hu1 (by omega), (⟨1, 2, 1, (.slice (some ⟨c0 + 12, 0, none⟩) 4 4), usD c0 (xs0.set 10 ((xs0.getD 10 []).set 0 (1))) D0⟩ : RoV), h31, hF1.units rfl rfl, by rw [rollErr_eq]; kernel_rfl⟩)

theorem kn31_calls (base c0 b3 : Nat) (w : World) (hF : FU base c0 xs0 D0 w) (h3 : Blk w b3 ((⟨1, 2, 1, (.slice (some ⟨c0 + 12, 0, none⟩) 4 4), usD c0 xs0 D0⟩ : RoV)).cells 33) (hb3 : c0 + 12 < b3) :
    Calls Tryz.prog 47 #[.pointer (some ⟨b3, 0, none⟩)] w (Ret fun _ w' => Chg base b3 161 w w') := by
  have hb := hF.hb
  have hU := hF.units rfl rfl
  refine T.enter (vs := [.pointer (some ⟨b3, 0, none⟩)]) Tryz.func47 rfl Tryz.ntmps47 rfl ?_
  refine T.region (L.op rfl rfl (O.move rfl (L.op rfl rfl (O.nilCheck rfl (L.op rfl rfl (O.fieldAddr Tryz.runUnderlying33 rfl Tryz.sizeOf31 rfl (L.op rfl rfl (O.load Tryz.isAgg31 rfl (Blk.cell h3 rfl) (L.op rfl rfl (O.indexAddr Tryz.runUnderlying31 Tryz.sizeOf58 rfl rfl hU.sl (by decide) (by show (2 : Int) < ((4 : Nat) : Int); decide) (L.op rfl rfl (O.fieldAddr Tryz.runUnderlying58 rfl Tryz.sizeOf4 rfl (L.op rfl rfl (O.store1_at2 Tryz.sizeOf4 rfl rfl rfl hF.cb (by rw [ucells_len]; show 0 + (2 * 6 + 5) < 4 * 6; decide) (fun w1 hu1 hB1 => ?_)))))))))))))))
  have hF1 : FU base c0 xs0 (D0.set 2 { D0.getD 2 d0 with wt := true }) w1 := hF.unit hu1 hB1 rfl
  have h31 : Blk w1 b3 [.int .i64 1, .int .i64 2, .int .i64 1, .slice (some ⟨c0 + 12, 0, none⟩) 4 4] 33 := Blk.upd (cs := ((⟨1, 2, 1, (.slice (some ⟨c0 + 12, 0, none⟩) 4 4), usD c0 xs0 D0⟩ : RoV)).cells) h3 hu1 (by omega)
  refine L.nil (T.end0 Tryz.results47 ⟨Out.of hu1 (by omega), (⟨1, 2, 1, (.slice (some ⟨c0 + 12, 0, none⟩) 4 4), usD c0 xs0 (D0.set 2 { D0.getD 2 d0 with wt := true })⟩ : RoV), h31, hF1.units rfl rfl, by rw [rollErr_eq]; kernel_rfl⟩)

end Go.Proofs.YtpgnaffcbbghgaaGreatDoor
set_option linter.unusedVariables false
set_option linter.unusedSimpArgs false
set_option maxRecDepth 20000
namespace Go.Proofs.YtpgnaffcbbghgaaGreatDoor
open Go Go.E
attribute [local irreducible] Go.E.T Go.E.L Go.E.O Go.E.Ob

attribute [local irreducible] Go.E.ObX
theorem kn30_calls (base c0 b3 : Nat) (w : World) (hF : FU base c0 xs0 D0 w) (h3 : Blk w b3 ((⟨1, 2, 1, (.slice (some ⟨c0 + 12, 0, none⟩) 4 4), usD c0 xs0 D0⟩ : RoV)).cells 33) (hb3 : c0 + 12 < b3) :
    Calls Tryz.prog 46 #[.pointer (some ⟨b3, 0, none⟩)] w (Ret fun _ w' => Chg base b3 161 w w') := by
  have hb := hF.hb
  have hU := hF.units rfl rfl
  refine T.enter (vs := [.pointer (some ⟨b3, 0, none⟩)]) Tryz.func46 rfl Tryz.ntmps46 rfl ?_
  refine T.region (L.op rfl rfl (O.move rfl (L.op rfl rfl (O.nilCheck rfl (L.op rfl rfl (O.fieldAddr Tryz.runUnderlying33 rfl Tryz.sizeOf31 rfl (L.op rfl rfl (O.load Tryz.isAgg31 rfl (Blk.cell h3 rfl) (L.op rfl rfl (O.indexAddr Tryz.runUnderlying31 Tryz.sizeOf58 rfl rfl hU.sl (by decide) (by show (3 : Int) < ((4 : Nat) : Int); decide) (L.op rfl rfl (O.fieldAddr Tryz.runUnderlying58 rfl Tryz.sizeOf56 rfl (L.op rfl rfl (O.load Tryz.isAgg56 rfl (Blk.at2 (b := c0 + 12) hF.cb (show (ucells (usD c0 xs0 D0))[0 + (3 * 6 + 4)]? = some (.slice (some ⟨c0 + 11, 0, none⟩) 1 1) from rfl)) (?_)))))))))))))))
  have hL : Blk w (c0 + 11) [.int .i64 0] 3 := hF.ls 11 (by decide)
  refine L.op rfl rfl (O.indexAddr Tryz.runUnderlying56 Tryz.sizeOf3 rfl rfl (Ints.of_blk (n := 1) (xs := [0]) hL rfl (by decide) (Nat.zero_le (c0 + 11))) (by decide) (by decide) (L.op rfl rfl (O.store1_at Tryz.sizeOf3 rfl rfl rfl hL (by decide) (fun w1 hu1 hB1 => ?_))))
  have hB1' : Blk w1 (c0 + 11) (((xs0.getD 11 []).map (Value.int .i64)).set 0 (.int .i64 (1))) 3 := hB1
  have hF1 : FU base c0 (xs0.set 11 ((xs0.getD 11 []).set 0 (1))) D0 w1 := hF.list (i := 11) (m := 0) (by decide) hu1 hB1'
  have h31 : Blk w1 b3 [.int .i64 1, .int .i64 2, .int .i64 1, .slice (some ⟨c0 + 12, 0, none⟩) 4 4] 33 := Blk.upd (cs := ((⟨1, 2, 1, (.slice (some ⟨c0 + 12, 0, none⟩) 4 4), usD c0 xs0 D0⟩ : RoV)).cells) h3 hu1 (by omega)
  refine L.nil (T.end0 Tryz.results46 ⟨Out.of hu1 (by omega), (⟨1, 2, 1, (.slice (some ⟨c0 + 12, 0, none⟩) 4 4), usD c0 (xs0.set 11 ((xs0.getD 11 []).set 0 (1))) D0⟩ : RoV), h31, hF1.units rfl rfl, by rw [rollErr_eq]; kernel_rfl⟩)

theorem kn32_calls (base c0 b3 : Nat) (w : World) (hF : FU base c0 xs0 D0 w) (h3 : Blk w b3 ((⟨1, 2, 1, (.slice (some ⟨c0 + 12, 0, none⟩) 4 4), usD c0 xs0 D0⟩ : RoV)).cells 33) (hb3 : c0 + 12 < b3) :
    Calls Tryz.prog 48 #[.pointer (some ⟨b3, 0, none⟩)] w (Ret fun _ w' => Chg base b3 161 w w') := by
  have hb := hF.hb
  have hU := hF.units rfl rfl
  refine T.enter (vs := [.pointer (some ⟨b3, 0, none⟩)]) Tryz.func48 rfl Tryz.ntmps48 rfl ?_
  refine T.region (L.op rfl rfl (O.move rfl (L.op rfl rfl (O.move rfl (L.op rfl rfl (O.nilCheck rfl (L.op rfl rfl (O.fieldAddr Tryz.runUnderlying33 rfl Tryz.sizeOf31 rfl (L.op rfl rfl (O.load Tryz.isAgg31 rfl (Blk.cell h3 rfl) (L.op rfl rfl (O.buildSlice (el := 3) (parts := [(0, .const (.int .i64 0))]) (vs := [(0, _)]) (cs := [.int .i64 0]) rfl (fun w => by kernel_rfl) (fun b6 w6 hb6 hz6 he6 hB6 => ?_)))))))))))))
  refine L.op rfl rfl (O.buildSlice (el := 3) (parts := [(0, .const (.int .i64 0)), (1, .const (.int .i64 0))]) (vs := [(0, _), (1, _)]) (cs := [.int .i64 0, .int .i64 0]) rfl (fun w => by kernel_rfl) (fun b7 w7 hb7 hz7 he7 hB7 => ?_))
  refine L.op rfl rfl (O.buildSlice (el := 3) (parts := [(0, .const (.int .i64 0))]) (vs := [(0, _)]) (cs := [.int .i64 0]) rfl (fun w => by kernel_rfl) (fun b8 w8 hb8 hz8 he8 hB8 => ?_))
  refine L.op rfl rfl (O.build (v := .agg #[str [122], .int .i64 0, .slice (some ⟨b6, 0, none⟩) 1 1, .slice (some ⟨b7, 0, none⟩) 2 2, .slice (some ⟨b8, 0, none⟩) 1 1, .bool false]) (parts := [(0, _), (2, .tmp 7), (3, .tmp 8), (4, .tmp 9)]) (vs := [(0, _), (2, _), (3, _), (4, _)]) rfl (fun w => by kernel_rfl) (?_))
  obtain ⟨z, hz⟩ : ∃ z : UnV, z = ⟨[122], 0, .slice (some ⟨b6, 0, none⟩) 1 1, [0], .slice (some ⟨b7, 0, none⟩) 2 2, [0, 0], .slice (some ⟨b8, 0, none⟩) 1 1, [0], false⟩ := ⟨_, rfl⟩
  refine L.op rfl rfl (O.buildSlice (el := 58) (parts := [(0, .tmp 10)]) (vs := [(0, _)]) (cs := [str [122], .int .i64 0, .slice (some ⟨b6, 0, none⟩) 1 1, .slice (some ⟨b7, 0, none⟩) 2 2, .slice (some ⟨b8, 0, none⟩) 1 1, .bool false]) rfl (fun w => by kernel_rfl) (fun b9 w9 hb9 hz9 he9 hB9 => ?_))
  have hB9z : Blk w9 b9 z.cells 58 := by rw [hz]; exact hB9
  have he09 : Ext w w9 := ((he6.trans he7).trans he8).trans he9
  have hF9 := hF.ext he09
  have h39 := Blk.ext (cs := ((⟨1, 2, 1, (.slice (some ⟨c0 + 12, 0, none⟩) 4 4), usD c0 xs0 D0⟩ : RoV)).cells) h3 he09
  have hO9 : w9.ownsRow base 58 6 (.slice (some ⟨c0 + 12, 0, none⟩) 4 4) 4 (ucells (usD c0 xs0 D0)) := by
    have := owns_blk (n := 4) (cap := 4) (sz := 6) hF9.cb (show base ≤ c0 + 12 by omega) (Nat.le_refl _) (by decide) rfl
    rwa [List.take_of_length_le (show (ucells (usD c0 xs0 D0)).length ≤ 4 * 6 from Nat.le_of_eq (ucells_len _))] at this
  have hzok : z.ok base w9 := by
    subst hz
    exact ⟨Ints.of_blk (xs := [0]) (n := 1) (Blk.ext hB6 ((he7.trans he8).trans he9)) rfl (by decide) (by have := hF.cb.lt; omega), Ints.of_blk (xs := [0, 0]) (n := 2) (Blk.ext hB7 (he8.trans he9)) rfl (by decide) (by have := hF.cb.lt; omega), Ints.of_blk (xs := [0]) (n := 1) (Blk.ext hB8 he9) rfl (by decide) (by have := hF.cb.lt; omega), by show 1 ≤ 9223372036854775807; decide⟩
  refine L.op rfl rfl (O.append (size := 6) (bytes := 104) Tryz.runUnderlying31 Tryz.infoOf58 rfl rfl rfl rfl (by decide) rfl rfl hO9 (Sl.of_blk (lo := 0) (n := 1) (sz := 6) hB9z rfl (Nat.le_refl _) (by decide) (Nat.zero_le _)) hzok.one (by omega) (by simp only [maxLen]; omega) (by have := hF9.cb.lt; omega) (fun v10 w10 hO10 hG10 => ?_))
  have hnl : ∀ b, b ≠ c0 + 12 → b < w9.heap.size → w10.heap[b]? = w9.heap[b]? := fun b hb hl => hG10.block b hl (fun e => hb (Option.some.inj (show some b = some (c0 + 12) from e)))
  have h310 : Blk w10 b3 ((⟨1, 2, 1, (.slice (some ⟨c0 + 12, 0, none⟩) 4 4), usD c0 xs0 D0⟩ : RoV)).cells 33 := (hnl b3 (by omega) h39.lt).trans h39
  have hone : v10.oneCell' = true := Sl.one (Sl.of_owns hO10)
  refine L.op rfl rfl (O.nilCheck rfl (L.op rfl rfl (O.fieldAddr Tryz.runUnderlying33 rfl Tryz.sizeOf31 rfl (L.op rfl rfl (O.store1_at Tryz.sizeOf31 hone rfl rfl h310 (by show 0 + 3 < 4; decide) (fun w11 hu11 hB11 => ?_))))))
  have hO11 := owns_loc (q := .slice (some ⟨b3, 0, none⟩) 0 0) hO10 (Loc.of_upd hu11 rfl) (fun j hj e => own_ne hO10 hj h310 (by decide) (Option.some.inj e).symm)
  have hout : Out base w w11 := (Out.of_ext he09).trans ((⟨hG10.os, hG10.tape, hG10.output, hG10.size, fun k hk hl => hnl k (by omega) hl⟩ : Out base w9 w10).trans (Out.of hu11 (by omega)))
  have hmv : ∀ {b : Nat} {cs : List Value} {t : TypeId}, Blk w9 b cs t → b ≠ c0 + 12 → b ≠ b3 → Blk w11 b cs t := fun h h1 h2 => Blk.upd ((hnl _ h1 h.lt).trans h) hu11 h2
  have hls : ∀ i, i < 12 → Blk w11 (c0 + i) ((xs0.getD i []).map (Value.int .i64)) 3 := fun i hi => hmv (hF9.ls i hi) (by omega) (by omega)
  have hzok11 : z.ok base w11 := by
    subst hz
    exact ⟨Ints.of_blk (xs := [0]) (n := 1) (hmv (Blk.ext hB6 ((he7.trans he8).trans he9)) (by have := hF.cb.lt; omega) (by have := h3.lt; omega)) rfl (by decide) (by have := hF.cb.lt; omega), Ints.of_blk (xs := [0, 0]) (n := 2) (hmv (Blk.ext hB7 (he8.trans he9)) (by have := hF.cb.lt; omega) (by have := h3.lt; omega)) rfl (by decide) (by have := hF.cb.lt; omega), Ints.of_blk (xs := [0]) (n := 1) (hmv (Blk.ext hB8 he9) (by have := hF.cb.lt; omega) (by have := h3.lt; omega)) rfl (by decide) (by have := hF.cb.lt; omega), by show 1 ≤ 9223372036854775807; decide⟩
  refine L.nil (T.end0 Tryz.results48 ⟨hout, (⟨1, 2, 1, v10, usD c0 xs0 D0 ++ [z]⟩ : RoV), hB11, ⟨?_, fun u hu => ?_⟩, ?_⟩)
  · have := Sl.of_owns hO11
    rw [ucells_append, ucells_one]
    exact this
  · rcases List.mem_append.1 hu with h | h
    · exact ls_oks hF.hb hls rfl u h
    · rw [List.mem_singleton.1 h]; exact hzok11
  · subst hz; rw [rollErr_eq]; kernel_rfl

end Go.Proofs.YtpgnaffcbbghgaaGreatDoor
set_option linter.unusedVariables false
set_option linter.unusedSimpArgs false
set_option maxRecDepth 20000
namespace Go.Proofs.YtpgnaffcbbghgaaGreatDoor
open Go Go.E
attribute [local irreducible] Go.E.T Go.E.L Go.E.O Go.E.Ob

attribute [local irreducible] Go.E.ObX
def landB (c : CxV) (r : RoV) : Int := if cxBad c then 150 else if rollB r then (if r.us.length = c.fs.length then 0 else 160) else 161
theorem ucheck_calls (lo lo2 : Nat) (c : CxV) (r : RoV) (w : World) (hc : c.ok lo w) (hr : r.ok lo2 w) :
    Calls Tryz.prog 10 #[.agg #[c.pv, c.fv, .int .i64 r.G, .int .i64 r.P, .int .i64 r.L, r.uv]] w (Ret fun v w' => v = .int .i64 (landB c r) ∧ Ext w w') := by
  have hle1 := Sl.le hr.sl
  have hle2 := Sl.le hc.sl
  refine T.enter (vs := [.agg #[c.pv, c.fv, .int .i64 r.G, .int .i64 r.P, .int .i64 r.L, r.uv]]) Tryz.func10 rfl Tryz.ntmps10 rfl ?_
  refine T.seq (T.region (L.op rfl rfl (O.box rfl (fun b1 w1 hb1 hz1 he1 hB1 => ?_))))
  have hB : Blk w1 b1 [c.pv, c.fv, .int .i64 r.G, .int .i64 r.P, .int .i64 r.L, r.uv] 43 := hB1
  refine L.op rfl rfl (O.assign rfl (L.nil (T.seq (T.seq (T.region (L.op rfl rfl (O.fieldAddr Tryz.runUnderlying43 rfl Tryz.sizeOf41 rfl (L.op rfl rfl (O.loadAgg Tryz.isAgg41 Tryz.sizeOf41 rfl rfl (show Row w1 _ c.cells from (Row.of_blk hB).part 0 2) (L.op rfl rfl (O.call (xs := [.tmp 6]) Tryz.call64 rfl rfl (check_calls lo c w1 (hc.ext he1)) (fun v2 w2 hq => ?_))))))))))))
  obtain ⟨hv2, he2⟩ := hq
  have he02 := he1.trans he2
  have hB2 := Blk.ext (cs := [c.pv, c.fv, .int .i64 r.G, .int .i64 r.P, .int .i64 r.L, r.uv]) hB he2
  rcases hcb : cxBad c with _ | _
  · rw [hcb] at hv2
    subst hv2
    refine L.op rfl rfl (O.assign rfl (L.nil (T.seq (T.region (L.op rfl rfl (O.move rfl (L.op rfl rfl (O.neq_f rfl rfl (by decide) (L.nil (T.cond_false rfl (T.skip (T.seq (T.seq (T.region (L.op rfl rfl (O.fieldAddr Tryz.runUnderlying43 rfl Tryz.sizeOf33 rfl (L.op rfl rfl (O.loadAgg Tryz.isAgg33 Tryz.sizeOf33 rfl rfl (show Row w2 _ r.cells from (Row.of_blk hB2).part 2 4) (L.op rfl rfl (O.call (xs := [.tmp 12]) Tryz.call8 rfl rfl (CheckRoll_calls lo2 r w2 (hr.ext he02)) (fun v3 w3 hq => ?_)))))))))))))))))))))
    obtain ⟨hv3, he3⟩ := hq
    have hB3 := Blk.ext (cs := [c.pv, c.fv, .int .i64 r.G, .int .i64 r.P, .int .i64 r.L, r.uv]) hB2 he3
    rw [rollErr_eq] at hv3
    rcases hrb : rollB r with _ | _
    · rw [hrb] at hv3
      subst hv3
      refine L.op rfl rfl (O.assign rfl (L.nil (T.seq (T.region (L.op rfl rfl (O.move rfl (L.op rfl rfl (O.neq_t rfl rfl (by decide) (L.nil (T.cond_true rfl (T.seq (T.region (L.op rfl rfl (O.move rfl (L.op rfl rfl (O.assign rfl (L.nil (T.ret1 Tryz.results10 rfl ⟨by rw [landB, hcb, hrb]; rfl, he02.trans he3⟩))))))))))))))))))
    · rw [hrb] at hv3
      subst hv3
      refine L.op rfl rfl (O.assign rfl (L.nil (T.seq (T.region (L.op rfl rfl (O.move rfl (L.op rfl rfl (O.neq_f rfl rfl (by decide) (L.nil (T.cond_false rfl (T.skip (T.seq (T.seq (T.region (L.op rfl rfl (O.fieldAddr Tryz.runUnderlying43 rfl Tryz.sizeOf33 rfl (L.op rfl rfl (O.fieldAddr Tryz.runUnderlying33 rfl Tryz.sizeOf31 rfl (L.op rfl rfl (O.load Tryz.isAgg31 rfl (Blk.at2 (o := 0) hB3 rfl) (L.op rfl rfl (O.len Tryz.runUnderlying31 rfl (Sl.val ((hr.ext (he02.trans he3)).sl)) (L.op rfl rfl (O.fieldAddr Tryz.runUnderlying43 rfl Tryz.sizeOf41 rfl (L.op rfl rfl (O.fieldAddr Tryz.runUnderlying41 rfl Tryz.sizeOf39 rfl (L.op rfl rfl (O.load Tryz.isAgg39 rfl (Blk.at2 (o := 0) hB3 rfl) (L.op rfl rfl (O.len Tryz.runUnderlying39 rfl (Sl.val ((hc.ext (he02.trans he3)).sl)) (L.op rfl rfl (O.neq_s rfl rfl (fun hne => ?_) (fun hne => ?_)))))))))))))))))))))))))))))))))
      · refine L.nil (T.cond_true rfl (T.seq (T.region (L.op rfl rfl (O.assign rfl (L.nil (T.ret1 Tryz.results10 rfl ⟨by rw [landB, hcb, hrb, if_neg (show ¬ r.us.length = c.fs.length by omega)]; rfl, he02.trans he3⟩)))))))
      · refine L.nil (T.cond_false rfl (T.skip (T.seq (T.region (L.op rfl rfl (O.assign rfl (L.nil (T.ret1 Tryz.results10 rfl ⟨by rw [landB, hcb, hrb, if_pos (show r.us.length = c.fs.length by omega)]; rfl, he02.trans he3⟩))))))))
  · rw [hcb] at hv2
    subst hv2
    refine L.op rfl rfl (O.assign rfl (L.nil (T.seq (T.region (L.op rfl rfl (O.move rfl (L.op rfl rfl (O.neq_t rfl rfl (by decide) (L.nil (T.cond_true rfl (T.seq (T.region (L.op rfl rfl (O.move rfl (L.op rfl rfl (O.assign rfl (L.nil (T.ret1 Tryz.results10 rfl ⟨by rw [landB, hcb]; rfl, he02⟩))))))))))))))))))

theorem cloneU_calls (lo : Nat) (p : Value) (us : List UnV) (w : World) (hp : Units lo w p us) (hlen : us.length ≤ 1000) :
    Calls Tryz.prog 51 #[p] w (Ret fun v w' => Ext w w' ∧ w'.ownsRow w.heap.size 58 6 v us.length (ucells us)) := by
  refine T.enter (vs := [p]) Tryz.func51 rfl Tryz.ntmps51 rfl ?_
  refine T.seq (T.region (L.op rfl rfl (O.assign rfl (L.nil (T.seq (T.seq (T.region (L.op rfl rfl (O.move rfl (L.op rfl rfl (O.eql_nil_s Tryz.runUnderlying31 rfl rfl hp.sl (fun hn => ?_) (fun hn => ?_))))))))))))
  · refine L.nil (T.cond_true rfl (T.seq (T.region (L.op rfl rfl (O.assign rfl (L.nil (T.ret1 Tryz.results51 rfl ⟨Keep.refl _ _, ?_⟩)))))))
    have : us = [] := List.length_eq_zero_iff.1 hn
    subst this
    exact owns_nil _ _ _ _
  · refine L.nil (T.cond_false rfl (T.skip (T.seq (T.region (L.op rfl rfl (O.buildSlice (el := 58) (parts := []) (vs := []) (cs := []) rfl (fun w => by kernel_rfl) (fun b5 w5 hb5 hz5 he5 hB5 => ?_)))))))
    have hO5 : w5.ownsRow w.heap.size 58 6 (.slice (some ⟨b5, 0, none⟩) 0 0) 0 [] := owns_blk (n := 0) hB5 (by omega) (Nat.le_refl _) (by decide) rfl
    refine L.op rfl rfl (O.move rfl (L.op rfl rfl (O.append (size := 6) (bytes := 104) Tryz.runUnderlying31 Tryz.infoOf58 rfl rfl rfl rfl (by decide) rfl rfl hO5 ((hp.ext he5).sl) (ucells_oneCell hp.ok) (by omega) (by simp only [maxLen]; omega) (by omega) (fun v7 w7 hO7 hG7 => ?_))))
    refine L.op rfl rfl (O.assign rfl (L.nil (T.ret1 Tryz.results51 rfl ⟨he5.grown0 hO5 hG7 (by omega), by simpa using hO7⟩)))

set_option maxHeartbeats 1000000 in
theorem four4_calls (w : World) :
    Calls Tryz.prog 16 #[] w (Ret fun v w' => Post4 w v w') := by
  refine T.enter (vs := []) Tryz.func16 rfl Tryz.ntmps16 rfl ?_
  refine T.seq (T.region (L.op rfl rfl (O.alloc Tryz.zeroValue33 (fun b1 w1 hb1 hz1 he1 hB1 => ?_))))
  have hR1 : Blk w1 b1 zroll 33 := hB1
  refine L.nil (T.seq (T.region (L.op rfl rfl (O.buildSlice (el := 3) (parts := [(0, .const (.int .i64 4))]) (vs := [(0, _)]) (cs := [.int .i64 4]) rfl (fun w => by kernel_rfl) (fun b11 w11 hb11 hz11 he11 hB11 => ?_)))))
  refine L.op rfl rfl (O.buildSlice (el := 3) (parts := [(0, .const (.int .i64 3)), (1, .const (.int .i64 5))]) (vs := [(0, _), (1, _)]) (cs := [.int .i64 3, .int .i64 5]) rfl (fun w => by kernel_rfl) (fun b12 w12 hb12 hz12 he12 hB12 => ?_))
  have e12 : b12 = b11 + 1 := by omega
  subst e12
  refine L.op rfl rfl (O.buildSlice (el := 3) (parts := [(0, .const (.int .i64 7))]) (vs := [(0, _)]) (cs := [.int .i64 7]) rfl (fun w => by kernel_rfl) (fun b13 w13 hb13 hz13 he13 hB13 => ?_))
  have e13 : b13 = b11 + 2 := by omega
  subst e13
  refine L.op rfl rfl (O.build (v := .agg #[str [97], .int .i64 10, .slice (some ⟨b11, 0, none⟩) 1 1, .slice (some ⟨b11 + 1, 0, none⟩) 2 2, .slice (some ⟨b11 + 2, 0, none⟩) 1 1, .bool false]) (parts := [(0, _), (1, .const (.int .i64 10)), (2, .tmp 1), (3, .tmp 2), (4, .tmp 3)]) (vs := [(0, _), (1, _), (2, _), (3, _), (4, _)]) rfl (fun w => by kernel_rfl) (L.op rfl rfl (O.buildSlice (el := 3) (parts := [(0, .const (.int .i64 0))]) (vs := [(0, _)]) (cs := [.int .i64 0]) rfl (fun w => by kernel_rfl) (fun b14 w14 hb14 hz14 he14 hB14 => ?_))))
  have e14 : b14 = b11 + 3 := by omega
  subst e14
  refine L.op rfl rfl (O.buildSlice (el := 3) (parts := [(0, .const (.int .i64 9)), (1, .const (.int .i64 1))]) (vs := [(0, _), (1, _)]) (cs := [.int .i64 9, .int .i64 1]) rfl (fun w => by kernel_rfl) (fun b15 w15 hb15 hz15 he15 hB15 => ?_))
  have e15 : b15 = b11 + 4 := by omega
  subst e15
  refine L.op rfl rfl (O.buildSlice (el := 3) (parts := [(0, .const (.int .i64 2))]) (vs := [(0, _)]) (cs := [.int .i64 2]) rfl (fun w => by kernel_rfl) (fun b16 w16 hb16 hz16 he16 hB16 => ?_))
  have e16 : b16 = b11 + 5 := by omega
  subst e16
  refine L.op rfl rfl (O.build (v := .agg #[str [98], .int .i64 20, .slice (some ⟨b11 + 3, 0, none⟩) 1 1, .slice (some ⟨b11 + 4, 0, none⟩) 2 2, .slice (some ⟨b11 + 5, 0, none⟩) 1 1, .bool false]) (parts := [(0, _), (1, .const (.int .i64 20)), (2, .tmp 5), (3, .tmp 6), (4, .tmp 7)]) (vs := [(0, _), (1, _), (2, _), (3, _), (4, _)]) rfl (fun w => by kernel_rfl) (L.op rfl rfl (O.buildSlice (el := 3) (parts := [(0, .const (.int .i64 5))]) (vs := [(0, _)]) (cs := [.int .i64 5]) rfl (fun w => by kernel_rfl) (fun b17 w17 hb17 hz17 he17 hB17 => ?_))))
  have e17 : b17 = b11 + 6 := by omega
  subst e17
  refine L.op rfl rfl (O.buildSlice (el := 3) (parts := [(0, .const (.int .i64 0)), (1, .const (.int .i64 0))]) (vs := [(0, _), (1, _)]) (cs := [.int .i64 0, .int .i64 0]) rfl (fun w => by kernel_rfl) (fun b18 w18 hb18 hz18 he18 hB18 => ?_))
  have e18 : b18 = b11 + 7 := by omega
  subst e18
  refine L.op rfl rfl (O.buildSlice (el := 3) (parts := [(0, .const (.int .i64 7))]) (vs := [(0, _)]) (cs := [.int .i64 7]) rfl (fun w => by kernel_rfl) (fun b19 w19 hb19 hz19 he19 hB19 => ?_))
  have e19 : b19 = b11 + 8 := by omega
  subst e19
  refine L.op rfl rfl (O.build (v := .agg #[str [99], .int .i64 5, .slice (some ⟨b11 + 6, 0, none⟩) 1 1, .slice (some ⟨b11 + 7, 0, none⟩) 2 2, .slice (some ⟨b11 + 8, 0, none⟩) 1 1, .bool false]) (parts := [(0, _), (1, .const (.int .i64 5)), (2, .tmp 9), (3, .tmp 10), (4, .tmp 11)]) (vs := [(0, _), (1, _), (2, _), (3, _), (4, _)]) rfl (fun w => by kernel_rfl) (L.op rfl rfl (O.buildSlice (el := 3) (parts := [(0, .const (.int .i64 0))]) (vs := [(0, _)]) (cs := [.int .i64 0]) rfl (fun w => by kernel_rfl) (fun b20 w20 hb20 hz20 he20 hB20 => ?_))))
  have e20 : b20 = b11 + 9 := by omega
  subst e20
  refine L.op rfl rfl (O.buildSlice (el := 3) (parts := [(0, .const (.int .i64 0)), (1, .const (.int .i64 0))]) (vs := [(0, _), (1, _)]) (cs := [.int .i64 0, .int .i64 0]) rfl (fun w => by kernel_rfl) (fun b21 w21 hb21 hz21 he21 hB21 => ?_))
  have e21 : b21 = b11 + 10 := by omega
  subst e21
  refine L.op rfl rfl (O.buildSlice (el := 3) (parts := [(0, .const (.int .i64 0))]) (vs := [(0, _)]) (cs := [.int .i64 0]) rfl (fun w => by kernel_rfl) (fun b22 w22 hb22 hz22 he22 hB22 => ?_))
  have e22 : b22 = b11 + 11 := by omega
  subst e22
  refine L.op rfl rfl (O.build (v := .agg #[str [119], .int .i64 0, .slice (some ⟨b11 + 9, 0, none⟩) 1 1, .slice (some ⟨b11 + 10, 0, none⟩) 2 2, .slice (some ⟨b11 + 11, 0, none⟩) 1 1, .bool true]) (parts := [(0, _), (2, .tmp 13), (3, .tmp 14), (4, .tmp 15), (5, .const (.bool true))]) (vs := [(0, _), (2, _), (3, _), (4, _), (5, _)]) rfl (fun w => by kernel_rfl) (L.op rfl rfl (O.buildSlice (el := 58) (parts := [(0, .tmp 4), (1, .tmp 8), (2, .tmp 12), (3, .tmp 16)]) (vs := [(0, _), (1, _), (2, _), (3, _)]) (cs := (ucells (usD b11 xs0 D0))) rfl (fun w => by kernel_rfl) (fun b23 w23 hb23 hz23 he23 hB23 => ?_))))
  have e23 : b23 = b11 + 12 := by omega
  subst e23
  refine L.op rfl rfl (O.build (v := .agg #[.int .i64 1, .int .i64 2, .int .i64 1, .slice (some ⟨b11 + 12, 0, none⟩) 4 4]) (parts := [(0, .const (.int .i64 1)), (1, .const (.int .i64 2)), (2, .const (.int .i64 1)), (3, .tmp 17)]) (vs := [(0, _), (1, _), (2, _), (3, _)]) rfl (fun w => by kernel_rfl) (?_))
  have k22 : Ext w22 w23 := he23
  have k21 : Ext w21 w23 := he22.trans k22
  have k20 : Ext w20 w23 := he21.trans k21
  have k19 : Ext w19 w23 := he20.trans k20
  have k18 : Ext w18 w23 := he19.trans k19
  have k17 : Ext w17 w23 := he18.trans k18
  have k16 : Ext w16 w23 := he17.trans k17
  have k15 : Ext w15 w23 := he16.trans k16
  have k14 : Ext w14 w23 := he15.trans k15
  have k13 : Ext w13 w23 := he14.trans k14
  have k12 : Ext w12 w23 := he13.trans k13
  have k11 : Ext w11 w23 := he12.trans k12
  have k1 : Ext w1 w23 := he11.trans k11
  have z1 := he1.size
  refine L.op rfl rfl (O.storeAgg Tryz.sizeOf33 rfl rfl rfl (hR1.ext k1) (Nat.le_refl _) (by intro u hu; simp at hu; rcases hu with (rfl|rfl|rfl|rfl) <;> rfl) (fun w24 hu24 hB24 => ?_))
  replace hu24 : Upd b1 w23 w24 := hu24
  have hR24 : Blk w24 b1 [.int .i64 1, .int .i64 2, .int .i64 1, .slice (some ⟨b11 + 12, 0, none⟩) 4 4] 33 := hB24
  refine L.nil (T.retA Tryz.results16 Tryz.isAgg33 Tryz.sizeOf33 rfl rfl hR24.row ⟨(he1.trans k1).upd hu24 (.inr (by omega)), b11, rfl, ⟨by omega, Blk.upd hB23 hu24 (by omega), fun i hi => ?_⟩⟩)
  have key : ∀ {b : Nat} {xs : List Int} {W : World}, Blk W b (xs.map (Value.int .i64)) 3 → Ext W w23 → b ≠ b1 → Blk w24 b (xs.map (Value.int .i64)) 3 := fun h k hne => Blk.upd (Blk.ext h k) hu24 hne
  match i, hi with
  | 0, _ => exact key (xs := [4]) hB11 k11 (by omega)
  | 1, _ => exact key (xs := [3, 5]) hB12 k12 (by omega)
  | 2, _ => exact key (xs := [7]) hB13 k13 (by omega)
  | 3, _ => exact key (xs := [0]) hB14 k14 (by omega)
  | 4, _ => exact key (xs := [9, 1]) hB15 k15 (by omega)
  | 5, _ => exact key (xs := [2]) hB16 k16 (by omega)
  | 6, _ => exact key (xs := [5]) hB17 k17 (by omega)
  | 7, _ => exact key (xs := [0, 0]) hB18 k18 (by omega)
  | 8, _ => exact key (xs := [7]) hB19 k19 (by omega)
  | 9, _ => exact key (xs := [0]) hB20 k20 (by omega)
  | 10, _ => exact key (xs := [0, 0]) hB21 k21 (by omega)
  | 11, _ => exact key (xs := [0]) hB22 k22 (by omega)
  | n + 12, h => exact absurd h (by omega)

theorem with_calls (gf : FuncId) (kd : Int) (w : World) (hcl : ∀ args w, (callFunc gf args).run Tryz.prog w = .ok (.enter gf args) w) (hcall : ∀ (base c0 b3 : Nat) (W : World), FU base c0 xs0 D0 W → Blk W b3 (⟨1, 2, 1, .slice (some ⟨c0 + 12, 0, none⟩) 4 4, usD c0 xs0 D0⟩ : RoV).cells 33 → c0 + 12 < b3 → Calls Tryz.prog gf (#[] ++ [.pointer (some ⟨b3, 0, none⟩)].toArray ++ #[]) W (Ret fun _ W' => Chg base b3 kd W W')) :
    Calls Tryz.prog 15 #[.func (.func gf) #[] #[]] w (Ret fun v w' => v = .int .i64 kd ∧ Ext w w') := by
  refine T.enter (vs := [.func (.func gf) #[] #[]]) Tryz.func15 rfl Tryz.ntmps15 rfl ?_
  refine T.seq (T.region (L.op rfl rfl (O.assign rfl (L.nil (T.seq (T.region (L.op rfl rfl (O.call (xs := []) Tryz.call16 rfl rfl (four4_calls w) (fun v1 w1 hq => ?_)))))))))
  obtain ⟨he1, c0, rfl, hF1⟩ := hq
  refine L.op rfl rfl (O.alloc Tryz.zeroValue33 (fun b2 w2 hb2 hz2 he2 hB2 => ?_))
  refine L.op rfl rfl (O.storeAgg Tryz.sizeOf33 rfl rfl rfl hB2 (Nat.le_refl _) (by intro u hu; simp [RoV.cells] at hu; rcases hu with (rfl|rfl|rfl|rfl) <;> rfl) (fun w3 hu3 hB3 => ?_))
  replace hu3 : Upd b2 w2 w3 := hu3
  have hlt := hF1.cb.lt
  have he13 : Ext w1 w3 := he2.upd hu3 (.inr (by omega))
  have hF3 := hF1.ext he13
  have hC3 : Blk w3 b2 (⟨1, 2, 1, .slice (some ⟨c0 + 12, 0, none⟩) 4 4, usD c0 xs0 D0⟩ : RoV).cells 33 := hB3
  refine L.nil (T.seq (T.region (L.op rfl rfl (O.move rfl (L.op rfl rfl (O.call (xs := [.tmp 3]) hcl rfl rfl (hcall w.heap.size c0 b2 w3 hF3 hC3 (by omega)) (fun v4 w4 hq => ?_)))))))
  obtain ⟨hO4, r', hB4, hr4, hk⟩ := hq
  refine L.nil (T.seq (T.region (L.op rfl rfl (O.loadAgg Tryz.isAgg33 Tryz.sizeOf33 rfl rfl hB4.row (L.op rfl rfl (O.call (xs := [.tmp 7]) Tryz.call8 rfl rfl (CheckRoll_calls w.heap.size r' w4 hr4) (fun v5 w5 hq => ?_)))))))
  obtain ⟨rfl, he5⟩ := hq
  refine L.op rfl rfl (O.assign rfl (L.nil (T.ret1 Tryz.results15 rfl ⟨by rw [hk], (hO4.ext (he1.trans he13)).trans he5⟩)))

def gsK : List Nat := [24, 25, 26, 27, 28, 29, 30, 31, 32, 34, 35, 36, 37, 38, 39, 40, 41, 42, 43, 44, 45, 46, 47, 48]
theorem all24 (i : Nat) (hi : i < 24) (W : World) :
    Calls Tryz.prog 15 #[.func (.func (gsK.getD i 0)) #[] #[]] W (Ret fun v W' => v = .int .i64 161 ∧ Ext W W') := by
  match i, hi with
  | 0, _ => exact with_calls _ 161 W Tryz.call24 kn9_calls
  | 1, _ => exact with_calls _ 161 W Tryz.call25 kn10_calls
  | 2, _ => exact with_calls _ 161 W Tryz.call26 kn11_calls
  | 3, _ => exact with_calls _ 161 W Tryz.call27 kn12_calls
  | 4, _ => exact with_calls _ 161 W Tryz.call28 kn13_calls
  | 5, _ => exact with_calls _ 161 W Tryz.call29 kn14_calls
  | 6, _ => exact with_calls _ 161 W Tryz.call30 kn15_calls
  | 7, _ => exact with_calls _ 161 W Tryz.call31 kn16_calls
  | 8, _ => exact with_calls _ 161 W Tryz.call32 kn17_calls
  | 9, _ => exact with_calls _ 161 W Tryz.call34 kn18_calls
  | 10, _ => exact with_calls _ 161 W Tryz.call35 kn19_calls
  | 11, _ => exact with_calls _ 161 W Tryz.call36 kn20_calls
  | 12, _ => exact with_calls _ 161 W Tryz.call37 kn21_calls
  | 13, _ => exact with_calls _ 161 W Tryz.call38 kn22_calls
  | 14, _ => exact with_calls _ 161 W Tryz.call39 kn23_calls
  | 15, _ => exact with_calls _ 161 W Tryz.call40 kn24_calls
  | 16, _ => exact with_calls _ 161 W Tryz.call41 kn25_calls
  | 17, _ => exact with_calls _ 161 W Tryz.call42 kn26_calls
  | 18, _ => exact with_calls _ 161 W Tryz.call43 kn27_calls
  | 19, _ => exact with_calls _ 161 W Tryz.call44 kn28_calls
  | 20, _ => exact with_calls _ 161 W Tryz.call45 kn29_calls
  | 21, _ => exact with_calls _ 161 W Tryz.call46 kn30_calls
  | 22, _ => exact with_calls _ 161 W Tryz.call47 kn31_calls
  | 23, _ => exact with_calls _ 161 W Tryz.call48 kn32_calls
  | n + 24, h => exact absurd h (by omega)
end Go.Proofs.YtpgnaffcbbghgaaGreatDoor
set_option linter.unusedVariables false
set_option linter.unusedSimpArgs false
set_option maxRecDepth 20000
namespace Go.Proofs.YtpgnaffcbbghgaaGreatDoor
open Go Go.E
attribute [local irreducible] Go.E.T Go.E.L Go.E.O Go.E.Ob

attribute [local irreducible] Go.E.ObX
def mu (k : Nat) : UnV := ⟨[117] ++ dig2 k, 1, .slice none 0 0, [], .slice none 0 0, [], .slice none 0 0, [], false⟩
def manyU (n : Nat) : List UnV := (List.range n).map mu
theorem manyU_len (n : Nat) : (manyU n).length = n := by simp [manyU]
theorem manyU_succ (n : Nat) : manyU (n + 1) = manyU n ++ [mu n] := by simp [manyU, List.range_succ]
theorem mu_ok (lo : Nat) (w : World) (k : Nat) : (mu k).ok lo w := ⟨Sl.nil _ _ _, Sl.nil _ _ _, Sl.nil _ _ _, by simp [mu, dig2]⟩
theorem manyU_ok (lo : Nat) (w : World) (n : Nat) : ∀ u ∈ manyU n, u.ok lo w := fun u hu => by
  obtain ⟨k, _, rfl⟩ := List.mem_map.1 hu; exact mu_ok _ _ _
theorem own_units {base n : Nat} {w : World} {v : Value} {us : List UnV} (h : w.ownsRow base 58 6 v n (ucells us)) (hn : us.length = n) (hok : ∀ u ∈ us, u.ok base w) : Units base w v us := ⟨by rw [hn]; exact Sl.of_owns h, hok⟩
def manyR (v : Value) : RoV := ⟨0, 0, 0, v, manyU 64⟩
theorem many_err (v : Value) : rollErr (manyR v) = 0 := by rw [rollErr_eq]; kernel_rfl
theorem many_land (v : Value) : landRes (manyR v) = 64 := by rw [landRes_ok (many_err v)]; kernel_rfl
theorem many_all (v : Value) : totP (manyR v) 18446744073709551615 = 64 ∧ totErr (manyR v) 18446744073709551615 = 0 ∧ totG (manyR v) 18446744073709551615 = [] ∧ totV (manyR v) 18446744073709551615 = [] := by
  have h : totErr (manyR v) 18446744073709551615 = 0 := totErr_ok (many_err v) (by show 18446744073709551615 < 2 ^ landsN (manyU 64); rw [show landsN (manyU 64) = 64 by kernel_rfl]; decide)
  refine ⟨?_, h, ?_, ?_⟩
  · rw [totP, if_pos h]; kernel_rfl
  · rw [totG, if_pos h]; kernel_rfl
  · rw [totV, if_pos h]; kernel_rfl
theorem many_last (v : Value) : totP (manyR v) 9223372036854775808 = 1 ∧ totErr (manyR v) 9223372036854775808 = 0 ∧ totG (manyR v) 9223372036854775808 = [] ∧ totV (manyR v) 9223372036854775808 = [] := by
  have h : totErr (manyR v) 9223372036854775808 = 0 := totErr_ok (many_err v) (by show 9223372036854775808 < 2 ^ landsN (manyU 64); rw [show landsN (manyU 64) = 64 by kernel_rfl]; decide)
  refine ⟨?_, h, ?_, ?_⟩
  · rw [totP, if_pos h]; kernel_rfl
  · rw [totG, if_pos h]; kernel_rfl
  · rw [totV, if_pos h]; kernel_rfl
def vU : UnV := ⟨[118], 0, .slice none 0 0, [], .slice none 0 0, [], .slice none 0 0, [], false⟩
theorem vU_ok (lo : Nat) (w : World) : vU.ok lo w := ⟨Sl.nil _ _ _, Sl.nil _ _ _, Sl.nil _ _ _, by decide⟩
def moreR (v : Value) : RoV := ⟨0, 0, 0, v, manyU 64 ++ [vU]⟩
theorem more_err (v : Value) : rollErr (moreR v) = 161 := by rw [rollErr_eq]; kernel_rfl
def tU : UnV := ⟨[116], 0, .slice none 0 0, [], .slice none 0 0, [], .slice none 0 0, [], false⟩
theorem tU_ok (lo : Nat) (w : World) : tU.ok lo w := ⟨Sl.nil _ _ _, Sl.nil _ _ _, Sl.nil _ _ _, by decide⟩
def oneR (b : Nat) : RoV := ⟨0, 0, 0, .slice (some ⟨b, 0, none⟩) 1 1, [tU]⟩
def triC (b1 b2 b3 : Nat) : CxV := ⟨.slice (some ⟨b1, 0, none⟩) 3 3, [(0, 0), (1, 0), (0, 1)], .slice (some ⟨b3, 0, none⟩) 1 1, [⟨⟨.slice (some ⟨b2, 0, none⟩) 3 3, [0, 1, 2]⟩, .slice none 0 0, []⟩]⟩
def noC : CxV := ⟨.slice none 0 0, [], .slice none 0 0, []⟩
def noR : RoV := ⟨0, 0, 0, .slice none 0 0, []⟩
theorem noC_ok (w : World) : noC.ok 0 w := ⟨Sl.nil _ _ _, Sl.nil _ _ _, fun f hf => by cases hf⟩
theorem noR_ok (w : World) : noR.ok 0 w := Units.nil _ _
theorem triC_ok {b1 b2 b3 : Nat} {w : World} (h1 : Blk w b1 (pcs [(0, 0), (1, 0), (0, 1)]) 67) (h2 : Blk w b2 [.int .i64 0, .int .i64 1, .int .i64 2] 3) (h3 : Blk w b3 [.slice (some ⟨b2, 0, none⟩) 3 3, .slice none 0 0] 70) : (triC b1 b2 b3).ok 0 w := by
  refine ⟨Sl.of_blk h1 rfl (Nat.le_refl _) (by decide) (Nat.zero_le _), Sl.of_blk h3 rfl (Nat.le_refl _) (by decide) (Nat.zero_le _), fun f hf => ?_⟩
  rw [show (triC b1 b2 b3).fs = [⟨⟨.slice (some ⟨b2, 0, none⟩) 3 3, [0, 1, 2]⟩, .slice none 0 0, []⟩] from rfl, List.mem_singleton] at hf
  subst hf
  exact ⟨Ints.of_blk (xs := [0, 1, 2]) (n := 3) h2 rfl (by decide) (Nat.zero_le _), Sl.nil _ _ _, fun h hh => by cases hh⟩
theorem lands1 (b1 b2 b3 b : Nat) : landB (triC b1 b2 b3) (oneR b) = 0 := by kernel_rfl
theorem lands2 (b : Nat) : landB noC (oneR b) = 150 := by kernel_rfl
theorem lands3 (b1 b2 b3 : Nat) : landB (triC b1 b2 b3) noR = 161 := by kernel_rfl
theorem lands4 (b1 b2 b3 c0 : Nat) : landB (triC b1 b2 b3) ⟨1, 2, 1, .slice (some ⟨c0 + 12, 0, none⟩) 4 4, usD c0 xs0 D0⟩ = 160 := by kernel_rfl
theorem lands5 : landB noC noR = 150 := by kernel_rfl
def mixA (b : Nat) : UnV := ⟨[97], 0, .slice none 0 0, [], .slice none 0 0, [], .slice (some ⟨b, 0, none⟩) 2 2, [1, 1], false⟩
def mixB (b : Nat) : UnV := ⟨[98], 0, .slice none 0 0, [], .slice none 0 0, [], .slice (some ⟨b, 0, none⟩) 2 2, [1, 2], false⟩
def mixR (a b c : Nat) : RoV := ⟨0, 0, 2, .slice (some ⟨c, 0, none⟩) 2 2, [mixA a, mixB b]⟩
theorem mix_err (a b c : Nat) : rollErr (mixR a b c) = 0 := by rw [rollErr_eq]; kernel_rfl
theorem mix_nest (a b c : Nat) : nestB (mixR a b c) = false := nestB_no (q := 0) (i := 0) (k := 1) (show 0 + 1 < 2 by decide) (show 0 < 2 by decide) (show 1 < 2 by decide) (fun h => absurd (show (1 : Int) = 2 from h rfl) (by decide))
theorem roll_one {lo : Nat} {w : World} {r : RoV} (h : r.ok lo w) : ∀ u ∈ r.cells, u.oneCell' = true := fun u hu => by
  simp only [RoV.cells, List.mem_cons, List.mem_nil_iff, or_false] at hu
  rcases hu with rfl | rfl | rfl | rfl
  · rfl
  · rfl
  · rfl
  · exact Sl.one h.sl
theorem noR_err : rollErr noR = 161 := by rw [rollErr_eq]; kernel_rfl
theorem four4_err (c0 : Nat) : rollErr ⟨1, 2, 1, .slice (some ⟨c0 + 12, 0, none⟩) 4 4, usD c0 xs0 D0⟩ = 0 := by rw [rollErr_eq]; kernel_rfl
theorem FU.rok {base c0 : Nat} {W : World} (h : FU base c0 xs0 D0 W) : (⟨1, 2, 1, .slice (some ⟨c0 + 12, 0, none⟩) 4 4, usD c0 xs0 D0⟩ : RoV).ok base W := h.units rfl rfl
def PF4 (base : Nat) (v : Value) (w : World) : Prop := ∃ c0, v = (⟨1, 2, 1, .slice (some ⟨c0 + 12, 0, none⟩) 4 4, usD c0 xs0 D0⟩ : RoV).val ∧ FU base c0 xs0 D0 w
theorem PF4.st {base : Nat} : ∀ v w w', Ext w w' → PF4 base v w → PF4 base v w' := fun _ _ _ h ⟨c0, h1, h2⟩ => ⟨c0, h1, h2.ext h⟩
theorem FU.mono {base base' c0 : Nat} {xss : List (List Int)} {ds : List UD} {W : World} (h : FU base c0 xss ds W) (hb : base' ≤ base) : FU base' c0 xss ds W := ⟨by have := h.hb; omega, h.cb, h.ls⟩
def knownGood : List Nat := [2, 3, 4, 5, 6, 7, 8]
set_option maxHeartbeats 4000000 in
theorem known_calls (w : World) :
    Calls Tryz.prog 4 #[] w (Ret fun v w' => v = .bool true ∧ Ext w w') := by
  refine T.enter (vs := []) Tryz.func4 rfl Tryz.ntmps4 rfl ?_
  refine T.seq (T.region (L.op rfl rfl (O.assign rfl (L.nil (T.seq (T.seq (T.region (L.op rfl rfl (O.call (xs := []) Tryz.call14 rfl rfl (works_calls w) (fun v1 w1 hq => ?_))))))))))
  obtain ⟨rfl, he1⟩ := hq
  refine L.op rfl rfl (O.not rfl (L.op rfl rfl (O.move rfl (L.op rfl rfl (O.pick_false rfl rfl (L.nil (T.cond_false rfl (T.skip (T.seq (T.region (L.op rfl rfl (O.assign rfl (L.nil (T.seq (T.region (L.op rfl rfl (O.move rfl (L.op rfl rfl (O.call (xs := [.func 17]) Tryz.call15 rfl rfl (with_calls 17 0 w1 Tryz.call17 kn2_calls) (fun v2 w2 hq => ?_))))))))))))))))))))
  obtain ⟨rfl, he2⟩ := hq
  refine L.op rfl rfl (O.eql_t rfl rfl rfl (L.op rfl rfl (O.move rfl (L.op rfl rfl (O.move rfl (L.op rfl rfl (O.call (xs := [.func 18]) Tryz.call15 rfl rfl (with_calls 18 0 w2 Tryz.call18 kn3_calls) (fun v3 w3 hq => ?_))))))))
  obtain ⟨rfl, he3⟩ := hq
  refine L.op rfl rfl (O.eql_t rfl rfl rfl (L.op rfl rfl (O.pick_true rfl rfl (L.op rfl rfl (O.move rfl (L.op rfl rfl (O.move rfl (L.op rfl rfl (O.call (xs := [.func 19]) Tryz.call15 rfl rfl (with_calls 19 0 w3 Tryz.call19 kn4_calls) (fun v4 w4 hq => ?_))))))))))
  obtain ⟨rfl, he4⟩ := hq
  refine L.op rfl rfl (O.eql_t rfl rfl rfl (L.op rfl rfl (O.pick_true rfl rfl (L.op rfl rfl (O.move rfl (L.op rfl rfl (O.move rfl (L.op rfl rfl (O.call (xs := [.func 20]) Tryz.call15 rfl rfl (with_calls 20 0 w4 Tryz.call20 kn5_calls) (fun v5 w5 hq => ?_))))))))))
  obtain ⟨rfl, he5⟩ := hq
  refine L.op rfl rfl (O.eql_t rfl rfl rfl (L.op rfl rfl (O.pick_true rfl rfl (L.op rfl rfl (O.move rfl (L.op rfl rfl (O.move rfl (L.op rfl rfl (O.call (xs := [.func 21]) Tryz.call15 rfl rfl (with_calls 21 0 w5 Tryz.call21 kn6_calls) (fun v6 w6 hq => ?_))))))))))
  obtain ⟨rfl, he6⟩ := hq
  refine L.op rfl rfl (O.eql_t rfl rfl rfl (L.op rfl rfl (O.pick_true rfl rfl (L.op rfl rfl (O.move rfl (L.op rfl rfl (O.move rfl (L.op rfl rfl (O.call (xs := [.func 22]) Tryz.call15 rfl rfl (with_calls 22 0 w6 Tryz.call22 kn7_calls) (fun v7 w7 hq => ?_))))))))))
  obtain ⟨rfl, he7⟩ := hq
  refine L.op rfl rfl (O.eql_t rfl rfl rfl (L.op rfl rfl (O.pick_true rfl rfl (L.op rfl rfl (O.move rfl (L.op rfl rfl (O.move rfl (L.op rfl rfl (O.call (xs := [.func 23]) Tryz.call15 rfl rfl (with_calls 23 0 w7 Tryz.call23 kn8_calls) (fun v8 w8 hq => ?_))))))))))
  obtain ⟨rfl, he8⟩ := hq
  refine L.op rfl rfl (O.eql_t rfl rfl rfl (?_))
  have hA8 : Ext w w8 := he1.trans (he2.trans (he3.trans (he4.trans (he5.trans (he6.trans (he7.trans he8))))))
  refine L.op rfl rfl (O.pick_true rfl rfl (L.op rfl rfl (O.assign rfl (L.nil (T.seq (T.seq (T.region (L.op rfl rfl (O.buildSlice (el := 52) (parts := [(0, .func 24), (1, .func 25), (2, .func 26), (3, .func 27), (4, .func 28), (5, .func 29), (6, .func 30), (7, .func 31), (8, .func 32), (9, .func 34), (10, .func 35), (11, .func 36), (12, .func 37), (13, .func 38), (14, .func 39), (15, .func 40), (16, .func 41), (17, .func 42), (18, .func 43), (19, .func 44), (20, .func 45), (21, .func 46), (22, .func 47), (23, .func 48)]) (vs := [(0, _), (1, _), (2, _), (3, _), (4, _), (5, _), (6, _), (7, _), (8, _), (9, _), (10, _), (11, _), (12, _), (13, _), (14, _), (15, _), (16, _), (17, _), (18, _), (19, _), (20, _), (21, _), (22, _), (23, _)]) (cs := (gsK.map fun g ↦ .func (.func g) #[] #[])) rfl (fun w => by kernel_rfl) (fun b9 w9 hb9 hz9 he9 hB9 => ?_))))))))))
  have hS9 : Sl 0 w9 (.slice (some ⟨b9, 0, none⟩) 24 24) 24 1 (gsK.map fun g => .func (.func g) #[] #[]) := Sl.of_blk hB9 rfl (Nat.le_refl _) (by decide) (Nat.zero_le _)
  refine L.op rfl rfl (O.len Tryz.runUnderlying60 rfl (Sl.val hS9) (L.op rfl rfl (O.move rfl (L.nil (T.block (?_))))))
  refine T.loop (σ := Nat) (fun i => [(1, .func (.func 15) #[] #[]), (2, .bool true), (68, .slice (some ⟨b9, 0, none⟩) 24 24), (69, .int .i64 24), (70, .int .i64 i)]) (fun i w' => i ≤ 24 ∧ Ext w9 w') (fun i => 24 - i) (0) ⟨rfl, rfl, rfl, rfl, rfl, trivial⟩ ⟨Nat.zero_le _, Keep.refl _ _⟩ ?_
  rintro i w10 ⟨hi, he10⟩
  refine T.seq (T.region (L.op rfl rfl (O.lss_s rfl rfl (fun hlt => ?_) (fun hlt => ?_))))
  · refine L.nil (?_)
    have hlt' : i < 24 := by omega
    have hS10 : Sl 0 w10 (.slice (some ⟨b9, 0, none⟩) 24 24) 24 1 (gsK.map fun g => .func (.func g) #[] #[]) := Sl.ext hS9 he10
    have hgi : (gsK.map fun g => Value.func (.func g) #[] #[])[i]? = some (.func (.func (gsK.getD i 0)) #[] #[]) := by
      have hl : i < gsK.length := hlt'
      rw [List.getElem?_map, List.getElem?_eq_getElem hl, getD_get hl]; rfl
    refine T.seq (T.cond_true rfl (T.skip (T.seq (T.block (T.seq (T.region (L.op rfl rfl (O.indexAddr Tryz.runUnderlying60 Tryz.sizeOf52 rfl rfl hS10 (by omega) (by omega) (L.op rfl rfl (O.load Tryz.isAgg52 rfl (by rw [Int.toNat_natCast, Nat.mul_one]; exact Sl.cell hS10 hgi) (L.op rfl rfl (O.assign rfl (L.nil (T.seq (T.region (L.op rfl rfl (O.move rfl (L.op rfl rfl (O.move rfl (L.op rfl rfl (O.call (xs := [.tmp 75]) Tryz.call15 rfl rfl (all24 i hlt' w10) (fun v11 w11 hq => ?_))))))))))))))))))))))
    obtain ⟨rfl, he11⟩ := hq
    refine L.op rfl rfl (O.neq_f rfl rfl (by decide) (L.nil (T.cond_false rfl (T.skip (T.blk (T.region (L.op rfl rfl (O.add64 rfl rfl (by omega) (L.op rfl rfl (O.move rfl (L.nil (T.again (i + 1) (by omega) ⟨rfl, rfl, rfl, rfl, rfl, trivial⟩ ⟨hlt', he10.trans he11⟩))))))))))))
  · refine L.nil (?_)
    have hA10 : Ext w w10 := hA8.trans (he9.trans he10)
    refine T.seq (T.cond_false rfl (T.exit rfl (T.seq (T.region (L.op rfl rfl (O.build (v := .agg #[.int .i64 0, .int .i64 0, .int .i64 0, .slice none 0 0]) (parts := []) (vs := []) rfl (fun w => by kernel_rfl) (L.op rfl rfl (O.alloc Tryz.zeroValue33 (fun b12 w12 hb12 hz12 he12 hB12 => ?_)))))))))
    refine L.op rfl rfl (O.storeAgg Tryz.sizeOf33 rfl rfl rfl hB12 (Nat.le_refl _) (by intro u hu; simp at hu; rcases hu with (rfl|rfl|rfl|rfl) <;> rfl) (fun w13 hu13 hB13 => ?_))
    replace hu13 : Upd b12 w12 w13 := hu13
    have hC13 : Blk w13 b12 [.int .i64 0, .int .i64 0, .int .i64 0, .slice none 0 0] 33 := hB13
    have hz13 := hu13.size
    have hE13 : Ext w10 w13 := he12.upd hu13 (.inr (by omega))
    refine L.nil (T.seq (T.seq (T.region (L.op rfl rfl (O.move rfl (L.nil (T.block (?_))))))))
    refine T.loop (σ := Nat × Value) (fun s => [(2, .bool true), (5, .pointer (some ⟨b12, 0, none⟩)), (80, .int .i64 s.1)]) (fun s w' => s.1 ≤ 64 ∧ Ext w10 w' ∧ Blk w' b12 [.int .i64 0, .int .i64 0, .int .i64 0, s.2] 33 ∧ w'.ownsRow w13.heap.size 58 6 s.2 s.1 (ucells (manyU s.1)) ∧ w13.heap.size ≤ w'.heap.size) (fun s => 64 - s.1) ((0, .slice none 0 0)) ⟨rfl, rfl, rfl, trivial⟩ ⟨Nat.zero_le _, hE13, hC13, owns_nil _ _ _ _, Nat.le_refl _⟩ ?_
    rintro ⟨i2, q⟩ w14 ⟨hi2, he14, hC14, hO14, hz14⟩
    simp only at hi2 hC14 hO14
    refine T.seq (T.region (L.op rfl rfl (O.lss_s rfl rfl (fun hlt2 => ?_) (fun hlt2 => ?_))))
    · refine L.nil (?_)
      have hlt2' : i2 < 64 := by simp only at hlt2; omega
      have hdig := dig2_ints (n := i2) (by omega)
      refine T.seq (T.cond_true rfl (T.skip (T.seq (T.block (T.seq (T.region (L.op rfl rfl (O.move rfl (L.op rfl rfl (O.assign rfl (L.nil (T.region (L.op rfl rfl (O.fieldAddr Tryz.runUnderlying33 rfl Tryz.sizeOf31 rfl (L.op rfl rfl (O.load Tryz.isAgg31 rfl (Blk.cell hC14 rfl) (L.op rfl rfl (O.move rfl (L.op rfl rfl (O.quo64 rfl rfl (by (try dsimp only); omega) (L.op rfl rfl (O.conv_to rfl (fun w => ⟨_, Tryz.runUnderlying3 w⟩) Tryz.runUnderlying5 (IntWalk.u8_in _ ⟨by omega, by omega⟩) (L.op rfl rfl (O.add8 rfl rfl (by (try dsimp only); omega) (L.op rfl rfl (O.move rfl (L.op rfl rfl (O.rem rfl rfl (by omega) (by omega) (L.op rfl rfl (O.conv_to rfl (fun w => ⟨_, Tryz.runUnderlying3 w⟩) Tryz.runUnderlying5 (IntWalk.u8_in _ ⟨by omega, by omega⟩) (L.op rfl rfl (O.add8 rfl rfl (by (try dsimp only); omega) (L.op rfl rfl (O.buildSlice (el := 5) (parts := [(0, .tmp 88), (1, .tmp 92)]) (vs := [(0, _), (1, _)]) (cs := [.int .u8 (48 + (i2 : Int) / 10), .int .u8 (48 + (i2 : Int) % 10)]) rfl (fun w => by kernel_rfl) (fun b15 w15 hb15 hz15 he15 hB15 => ?_)))))))))))))))))))))))))))))))))))
      refine L.op rfl rfl (O.bytes_str Tryz.runUnderlying22 Tryz.runUnderlying5 Tryz.runUnderlying9 rfl (show Ints .u8 0 w15 (.slice (some ⟨b15, 0, none⟩) 2 2) ((dig2 i2).map fun c => (c.toNat : Int)) from by rw [hdig]; exact Ints.of_blk hB15 rfl (by decide) (Nat.zero_le _)) (by simp [dig2]) (L.op rfl rfl (O.add_str rfl rfl (by simp [dig2]) (L.op rfl rfl (O.build (v := (mu i2).val) (parts := [(0, .tmp 95), (1, .const (.int .i64 1))]) (vs := [(0, _), (1, _)]) rfl (fun w => by kernel_rfl) (L.op rfl rfl (O.buildSlice (el := 58) (parts := [(0, .tmp 96)]) (vs := [(0, _)]) (cs := (mu i2).cells) rfl (fun w => by kernel_rfl) (fun b16 w16 hb16 hz16 he16 hB16 => ?_))))))))
      have he1416 := he15.trans he16
      have hO16 := owns_keep hO14 he1416 (Nat.zero_le _)
      have hz1416 := he1416.size
      refine L.op rfl rfl (O.append (size := 6) (bytes := 104) Tryz.runUnderlying31 Tryz.infoOf58 rfl rfl rfl rfl (by decide) rfl rfl hO16 (Sl.of_blk (lo := 0) (n := 1) (sz := 6) hB16 rfl (Nat.le_refl _) (by decide) (Nat.zero_le _)) ((mu_ok 0 w16 i2).one) (by omega) (by simp only [maxLen]; omega) (by omega) (fun v17 w17 hO17 hG17 => ?_))
      have hC17 : Blk w17 b12 [.int .i64 0, .int .i64 0, .int .i64 0, q] 33 := Blk.grownN (Blk.ext (cs := [.int .i64 0, .int .i64 0, .int .i64 0, q]) hC14 he1416) hG17 (fun j hj => by have := (own_at hO16 hj).1; omega)
      have hone : v17.oneCell' = true := Sl.one (Sl.of_owns hO17)
      refine L.op rfl rfl (O.fieldAddr Tryz.runUnderlying33 rfl Tryz.sizeOf31 rfl (L.op rfl rfl (O.store1_at Tryz.sizeOf31 hone rfl rfl hC17 (by show 0 + 3 < 4; decide) (fun w18 hu18 hB18 => ?_))))
      have hz17 := hG17.size
      have hz18 := hu18.size
      have hE18 : Ext w10 w18 := (Keep.grown (he14.trans he1416) hG17 (fun j hj => .inr (by have := (own_at hO16 hj).1; have := hE13.size; omega))).upd hu18 (.inr (by omega))
      refine L.nil (T.blk (T.region (L.op rfl rfl (O.add64 rfl rfl (by (try dsimp only); omega) (L.op rfl rfl (O.move rfl (L.nil (T.again ((i2 + 1, v17)) (by omega) ⟨rfl, rfl, rfl, trivial⟩ ⟨by simp only; omega, hE18, hB18, ?_, by omega⟩))))))))
      · rw [manyU_succ, ucells_append, ucells_one]
        exact owns_upd hO17 hu18 (by omega)
    · refine L.nil (?_)
      obtain rfl : i2 = 64 := by simp only at hlt2; omega
      have hRm : (manyR q).ok w13.heap.size w14 := own_units hO14 (manyU_len 64) (manyU_ok _ _ _)
      have hM14 : Blk w14 b12 (manyR q).cells 33 := hC14
      refine T.seq (T.cond_false rfl (T.exit rfl (T.seq (T.region (L.op rfl rfl (O.loadAgg Tryz.isAgg33 Tryz.sizeOf33 rfl rfl hM14.row (L.op rfl rfl (O.call (xs := [.tmp 102]) Tryz.call49 rfl rfl (Land_calls w13.heap.size (manyR q) w14 hRm) (fun v19 w19 hq => ?_)))))))))
      obtain ⟨hv19, he19⟩ := hq
      rw [many_land, many_err] at hv19
      subst hv19
      refine L.op rfl rfl (O.move rfl (L.op rfl rfl (O.extract rfl rfl (L.op rfl rfl (O.extract rfl rfl (L.op rfl rfl (O.assign rfl (L.op rfl rfl (O.assign rfl (L.nil (T.seq (T.region (L.op rfl rfl (O.loadAgg Tryz.isAgg33 Tryz.sizeOf33 rfl rfl ((hM14.ext he19).row) (L.op rfl rfl (O.call (xs := [.tmp 106, .const (.int .u64 18446744073709551615), .const (.int .i64 64), .const (.slice none 0 0), .const (.slice none 0 0)]) Tryz.call50 rfl rfl (totals_calls w13.heap.size 0 0 (manyR q) 18446744073709551615 64 (.slice none 0 0) (.slice none 0 0) [] [] w19 (hRm.ext he19) (by decide) (Sl.nil _ _ _) (Sl.nil _ _ _)) (fun v20 w20 hq => ?_)))))))))))))))))
      obtain ⟨hv20, he20⟩ := hq
      rw [decide_eq_true (many_all _)] at hv20
      subst hv20
      have he1420 := he19.trans he20
      refine L.op rfl rfl (O.move rfl (L.op rfl rfl (O.loadAgg Tryz.isAgg33 Tryz.sizeOf33 rfl rfl ((hM14.ext he1420).row) (L.op rfl rfl (O.call (xs := [.tmp 109, .const (.int .u64 9223372036854775808), .const (.int .i64 1), .const (.slice none 0 0), .const (.slice none 0 0)]) Tryz.call50 rfl rfl (totals_calls w13.heap.size 0 0 (manyR q) 9223372036854775808 1 (.slice none 0 0) (.slice none 0 0) [] [] w20 (hRm.ext he1420) (by decide) (Sl.nil _ _ _) (Sl.nil _ _ _)) (fun v21 w21 hq => ?_))))))
      obtain ⟨hv21, he21⟩ := hq
      rw [decide_eq_true (many_last _)] at hv21
      subst hv21
      have he1421 := he1420.trans he21
      refine L.op rfl rfl (O.pick_true rfl rfl (L.op rfl rfl (O.assign rfl (L.nil (T.seq (T.region (L.op rfl rfl (O.loadAgg Tryz.isAgg33 Tryz.sizeOf33 rfl rfl ((hM14.ext he1421).row) (L.op rfl rfl (O.alloc Tryz.zeroValue33 (fun b22 w22 hb22 hz22 he22 hB22 => ?_)))))))))))
      refine L.op rfl rfl (O.storeAgg Tryz.sizeOf33 rfl rfl rfl hB22 (Nat.le_refl _) (roll_one hRm) (fun w23 hu23 hB23 => ?_))
      replace hu23 : Upd b22 w22 w23 := hu23
      have hz23 := hu23.size
      have he1423 : Ext w14 w23 := (he1421.trans he22).upd hu23 (.inr (by have := he1421.size; omega))
      have hX23 : Blk w23 b22 (manyR q).cells 33 := hB23
      refine L.nil (T.seq (T.region (L.op rfl rfl (O.fieldAddr Tryz.runUnderlying33 rfl Tryz.sizeOf31 rfl (L.op rfl rfl (O.load Tryz.isAgg31 rfl (Blk.cell (hM14.ext he1423) rfl) (L.op rfl rfl (O.call (xs := [.tmp 114]) Tryz.call51 rfl rfl (cloneU_calls w13.heap.size q (manyU 64) w23 (hRm.ext he1423) (by rw [manyU_len]; decide)) (fun v24 w24 hq => ?_)))))))))
      obtain ⟨he24, hO24⟩ := hq
      rw [manyU_len] at hO24
      refine L.op rfl rfl (O.build (v := vU.val) (parts := [(0, _)]) (vs := [(0, _)]) rfl (fun w => by kernel_rfl) (L.op rfl rfl (O.buildSlice (el := 58) (parts := [(0, .tmp 116)]) (vs := [(0, _)]) (cs := vU.cells) rfl (fun w => by kernel_rfl) (fun b25 w25 hb25 hz25 he25 hB25 => ?_))))
      have hO25 := owns_keep hO24 he25 (Nat.zero_le _)
      have he2325 := he24.trans he25
      refine L.op rfl rfl (O.append (size := 6) (bytes := 104) Tryz.runUnderlying31 Tryz.infoOf58 rfl rfl rfl rfl (by decide) rfl rfl hO25 (Sl.of_blk (lo := 0) (n := 1) (sz := 6) hB25 rfl (Nat.le_refl _) (by decide) (Nat.zero_le _)) ((vU_ok 0 w25).one) (by omega) (by simp only [maxLen]; omega) (by have := he2325.size; omega) (fun v26 w26 hO26 hG26 => ?_))
      have hX26 : Blk w26 b22 (manyR q).cells 33 := Blk.grownN (Blk.ext (cs := (manyR q).cells) hX23 he2325) hG26 (fun j hj => by have := (own_at hO25 hj).1; have := hX23.lt; omega)
      have hone26 : v26.oneCell' = true := Sl.one (Sl.of_owns hO26)
      refine L.op rfl rfl (O.fieldAddr Tryz.runUnderlying33 rfl Tryz.sizeOf31 rfl (L.op rfl rfl (O.store1_at Tryz.sizeOf31 hone26 rfl rfl hX26 (by show 0 + 3 < 4; decide) (fun w27 hu27 hB27 => ?_))))
      have hx22 := hX23.lt
      have hE27 : Ext w23 w26 := Keep.grown he2325 hG26 (fun j hj => .inr (own_at hO25 hj).1)
      have he1427 : Ext w14 w27 := (he1423.trans hE27).upd hu27 (.inr (by have := he1421.size; omega))
      have hz27 := he1427.size
      have hMo : (moreR v26).ok w23.heap.size w27 := by
        refine own_units (owns_upd hO26 hu27 (by omega)) (by show (manyU 64 ++ [vU]).length = 64 + 1; rw [List.length_append, manyU_len]; rfl) ?_
        intro u hu
        rcases List.mem_append.1 hu with h | h
        · exact manyU_ok _ _ _ u h
        · rw [List.mem_singleton.1 h]; exact vU_ok _ _
      have hX27 : Blk w27 b22 (moreR v26).cells 33 := hB27
      refine L.nil (T.seq (T.region (L.op rfl rfl (O.build (v := pV (0, 0)) (parts := []) (vs := []) rfl (fun w => by kernel_rfl) (L.op rfl rfl (O.build (v := pV (1, 0)) (parts := [(0, .const (.int .i64 1))]) (vs := [(0, _)]) rfl (fun w => by kernel_rfl) (L.op rfl rfl (O.build (v := pV (0, 1)) (parts := [(1, .const (.int .i64 1))]) (vs := [(1, _)]) rfl (fun w => by kernel_rfl) (L.op rfl rfl (O.buildSlice (el := 67) (parts := [(0, .tmp 120), (1, .tmp 121), (2, .tmp 122)]) (vs := [(0, _), (1, _), (2, _)]) (cs := (pcs [(0, 0), (1, 0), (0, 1)])) rfl (fun w => by kernel_rfl) (fun b31 w31 hb31 hz31 he31 hB31 => ?_)))))))))))
      refine L.op rfl rfl (O.buildSlice (el := 3) (parts := [(0, .const (.int .i64 0)), (1, .const (.int .i64 1)), (2, .const (.int .i64 2))]) (vs := [(0, _), (1, _), (2, _)]) (cs := [.int .i64 0, .int .i64 1, .int .i64 2]) rfl (fun w => by kernel_rfl) (fun b32 w32 hb32 hz32 he32 hB32 => ?_))
      refine L.op rfl rfl (O.build (v := .agg #[.slice (some ⟨b32, 0, none⟩) 3 3, .slice none 0 0]) (parts := [(0, .tmp 124)]) (vs := [(0, _)]) rfl (fun w => by kernel_rfl) (L.op rfl rfl (O.buildSlice (el := 70) (parts := [(0, .tmp 125)]) (vs := [(0, _)]) (cs := [.slice (some ⟨b32, 0, none⟩) 3 3, .slice none 0 0]) rfl (fun w => by kernel_rfl) (fun b33 w33 hb33 hz33 he33 hB33 => ?_))))
      refine L.op rfl rfl (O.build (v := .agg #[.slice (some ⟨b31, 0, none⟩) 3 3, .slice (some ⟨b33, 0, none⟩) 1 1]) (parts := [(0, .tmp 123), (1, .tmp 126)]) (vs := [(0, _), (1, _)]) rfl (fun w => by kernel_rfl) (L.op rfl rfl (O.alloc Tryz.zeroValue41 (fun b34 w34 hb34 hz34 he34 hB34 => ?_))))
      refine L.op rfl rfl (O.storeAgg Tryz.sizeOf41 rfl rfl rfl hB34 (Nat.le_refl _) (by intro u hu; simp at hu; rcases hu with (rfl|rfl) <;> rfl) (fun w35 hu35 hB35 => ?_))
      replace hu35 : Upd b34 w34 w35 := hu35
      have hz35 := hu35.size
      have hT35 : Blk w35 b34 (triC b31 b32 b33).cells 41 := hB35
      have hTok : (triC b31 b32 b33).ok 0 w35 := triC_ok (Blk.upd (cs := pcs [(0, 0), (1, 0), (0, 1)]) (Blk.ext hB31 ((he32.trans he33).trans he34)) hu35 (by omega)) (Blk.upd (cs := [.int .i64 0, .int .i64 1, .int .i64 2]) (Blk.ext hB32 (he33.trans he34)) hu35 (by omega)) (Blk.upd (cs := [.slice (some ⟨b32, 0, none⟩) 3 3, .slice none 0 0]) (Blk.ext hB33 he34) hu35 (by omega))
      refine L.nil (T.seq (T.region (L.op rfl rfl (O.build (v := tU.val) (parts := [(0, _)]) (vs := [(0, _)]) rfl (fun w => by kernel_rfl) (L.op rfl rfl (O.buildSlice (el := 58) (parts := [(0, .tmp 128)]) (vs := [(0, _)]) (cs := tU.cells) rfl (fun w => by kernel_rfl) (fun b36 w36 hb36 hz36 he36 hB36 => ?_)))))))
      refine L.op rfl rfl (O.build (v := .agg #[.int .i64 0, .int .i64 0, .int .i64 0, .slice (some ⟨b36, 0, none⟩) 1 1]) (parts := [(3, .tmp 129)]) (vs := [(3, _)]) rfl (fun w => by kernel_rfl) (L.op rfl rfl (O.alloc Tryz.zeroValue33 (fun b37 w37 hb37 hz37 he37 hB37 => ?_))))
      refine L.op rfl rfl (O.storeAgg Tryz.sizeOf33 rfl rfl rfl hB37 (Nat.le_refl _) (by intro u hu; simp at hu; rcases hu with (rfl|rfl|rfl|rfl) <;> rfl) (fun w38 hu38 hB38 => ?_))
      replace hu38 : Upd b37 w37 w38 := hu38
      have hz38 := hu38.size
      have hR38 : Blk w38 b37 (oneR b36).cells 33 := hB38
      have he3538 : Ext w35 w38 := (he36.trans he37).upd hu38 (.inr (by have := he36.size; omega))
      have hRok : (oneR b36).ok 0 w38 := ⟨Sl.of_blk (Blk.upd (cs := tU.cells) (Blk.ext hB36 he37) hu38 (by omega)) rfl (Nat.le_refl _) (by decide) (Nat.zero_le _), fun u hu => by rw [List.mem_singleton.1 hu]; exact tU_ok _ _⟩
      have hT38 := Blk.ext (cs := (triC b31 b32 b33).cells) hT35 he3538
      have hTok38 := hTok.ext he3538
      have he2738 : Ext w27 w38 := (((he31.trans (he32.trans (he33.trans he34))).upd hu35 (.inr (by have := he31.size; have := he32.size; have := he33.size; omega))).trans he3538)
      refine L.nil (T.seq (?_))
      refine T.anyE mixed 20 [11, 12] rfl [.is _, .is _, .is _, .is (.int .i64 0), .is _, .is _, .is _, .is _, .is (.int .i64 150), .is _, .is _, .is _, .is _, .is _, .is (.int .i64 161), .is _, .is _, .is _, .is _, .such (PF4 0)] [[], [], [0, 1], [2], [3], [4], [5], [6, 5], [7, 5], [8, 5], [5, 9], [10], [11], [12, 11], [13, 11], [14, 11], [11, 15], [16], [17], [17]] [[], [], [0, 1], [0, 1, 2], [0, 1, 2, 3], [0, 1, 2, 3, 4], [0, 1, 2, 3, 4, 5], [0, 1, 2, 3, 4, 5, 6], [0, 1, 2, 3, 4, 5, 6, 7], [0, 1, 2, 3, 4, 5, 6, 7, 8], [0, 1, 2, 3, 4, 5, 6, 7, 8, 9], [0, 1, 2, 3, 4, 5, 6, 7, 8, 9, 10], [0, 1, 2, 3, 4, 5, 6, 7, 8, 9, 10, 11], [0, 1, 2, 3, 4, 5, 6, 7, 8, 9, 10, 11, 12], [0, 1, 2, 3, 4, 5, 6, 7, 8, 9, 10, 11, 12, 13], [0, 1, 2, 3, 4, 5, 6, 7, 8, 9, 10, 11, 12, 13, 14], [0, 1, 2, 3, 4, 5, 6, 7, 8, 9, 10, 11, 12, 13, 14, 15], [0, 1, 2, 3, 4, 5, 6, 7, 8, 9, 10, 11, 12, 13, 14, 15, 16], [0, 1, 2, 3, 4, 5, 6, 7, 8, 9, 10, 11, 12, 13, 14, 15, 16, 17], [0, 1, 2, 3, 4, 5, 6, 7, 8, 9, 10, 11, 12, 13, 14, 15, 16, 17], [0, 1, 2, 3, 4, 5, 6, 7, 8, 9, 10, 11, 12, 13, 14, 15, 16, 17, 18, 19], [0, 1, 2, 3, 4, 5, 6, 7, 8, 9, 10, 11, 12, 13, 14, 15, 16, 17, 18, 19, 20], [0, 1, 2, 3, 4, 5, 6, 7, 8, 9, 10, 11, 12, 13, 14, 15, 16, 17, 18, 19, 20, 21], [0, 1, 2, 3, 4, 5, 6, 7, 8, 9, 10, 11, 12, 13, 14, 15, 16, 17, 18, 19, 20, 21, 22], [0, 1, 2, 3, 4, 5, 6, 7, 8, 9, 10, 11, 12, 13, 14, 15, 16, 17, 18, 19, 20, 21, 22, 23], [0, 1, 2, 3, 4, 5, 6, 7, 8, 9, 10, 11, 12, 13, 14, 15, 16, 17, 18, 19, 20, 21, 22, 23, 24], [0, 1, 2, 3, 4, 5, 6, 7, 8, 9, 10, 11, 12, 13, 14, 15, 16, 17, 18, 19, 20, 21, 22, 23, 24, 25], [0, 1, 2, 3, 4, 5, 6, 7, 8, 9, 10, 11, 12, 13, 14, 15, 16, 17, 18, 19, 20, 21, 22, 23, 24, 25, 26], [0, 1, 2, 3, 4, 5, 6, 7, 8, 9, 10, 11, 12, 13, 14, 15, 16, 17, 18, 19, 20, 21, 22, 23, 24, 25, 26, 27], [0, 1, 2, 3, 4, 5, 6, 7, 8, 9, 10, 11, 12, 13, 14, 15, 16, 17, 18, 19, 20, 21, 22, 23, 24, 25, 26, 27, 28]] (by kernel_rfl) (by kernel_rfl) rfl (by kernel_rfl) ⟨PF4.st, trivial⟩ ⟨fun wx hx => Ob.op rfl (O.loadAgg Tryz.isAgg41 Tryz.sizeOf41 rfl rfl ((Blk.ext (cs := (triC b31 b32 b33).cells) hT38 hx).row) ⟨Keep.refl _ _, rfl⟩),
          fun wx hx => Ob.op rfl (O.loadAgg Tryz.isAgg33 Tryz.sizeOf33 rfl rfl ((Blk.ext (cs := (oneR b36).cells) hR38 hx).row) ⟨Keep.refl _ _, rfl⟩),
          fun wx hx => Ob.op rfl (O.build (v := .agg #[(triC b31 b32 b33).pv, (triC b31 b32 b33).fv, .int .i64 (oneR b36).G, .int .i64 (oneR b36).P, .int .i64 (oneR b36).L, (oneR b36).uv]) (parts := [(0, .tmp 131), (1, .tmp 132)]) (vs := [(0, _), (1, _)]) rfl (fun w => by kernel_rfl) ⟨Keep.refl _ _, rfl⟩),
          fun wx hx => Ob.op rfl (O.call (xs := [.tmp 133]) Tryz.call10 rfl rfl (ucheck_calls 0 0 (triC b31 b32 b33) (oneR b36) wx (hTok38.ext hx) (RoV.ok.ext hRok hx)) (fun v wy h => ⟨h.2, by rw [h.1, lands1]; rfl⟩)),
          fun wx hx => Ob.op rfl (O.eql_t rfl rfl rfl ⟨Keep.refl _ _, rfl⟩),
          fun wx hx => Ob.op rfl (O.move rfl ⟨Keep.refl _ _, rfl⟩),
          fun wx hx => Ob.op rfl (O.loadAgg Tryz.isAgg33 Tryz.sizeOf33 rfl rfl ((Blk.ext (cs := (oneR b36).cells) hR38 hx).row) ⟨Keep.refl _ _, rfl⟩),
          fun wx hx => Ob.op rfl (O.build (v := .agg #[noC.pv, noC.fv, .int .i64 (oneR b36).G, .int .i64 (oneR b36).P, .int .i64 (oneR b36).L, (oneR b36).uv]) (parts := [(1, .tmp 137)]) (vs := [(1, _)]) rfl (fun w => by kernel_rfl) ⟨Keep.refl _ _, rfl⟩),
          fun wx hx => Ob.op rfl (O.call (xs := [.tmp 138]) Tryz.call10 rfl rfl (ucheck_calls 0 0 noC (oneR b36) wx (noC_ok _) (RoV.ok.ext hRok hx)) (fun v wy h => ⟨h.2, by rw [h.1, lands2]; rfl⟩)),
          fun wx hx => Ob.op rfl (O.eql_t rfl rfl rfl ⟨Keep.refl _ _, rfl⟩),
          fun wx hx => Ob.op rfl (O.pick_true rfl rfl ⟨Keep.refl _ _, rfl⟩),
          fun wx hx => Ob.op rfl (O.move rfl ⟨Keep.refl _ _, rfl⟩),
          fun wx hx => Ob.op rfl (O.loadAgg Tryz.isAgg41 Tryz.sizeOf41 rfl rfl ((Blk.ext (cs := (triC b31 b32 b33).cells) hT38 hx).row) ⟨Keep.refl _ _, rfl⟩),
          fun wx hx => Ob.op rfl (O.build (v := .agg #[(triC b31 b32 b33).pv, (triC b31 b32 b33).fv, .int .i64 noR.G, .int .i64 noR.P, .int .i64 noR.L, noR.uv]) (parts := [(0, .tmp 143)]) (vs := [(0, _)]) rfl (fun w => by kernel_rfl) ⟨Keep.refl _ _, rfl⟩),
          fun wx hx => Ob.op rfl (O.call (xs := [.tmp 144]) Tryz.call10 rfl rfl (ucheck_calls 0 0 (triC b31 b32 b33) noR wx (hTok38.ext hx) (noR_ok _)) (fun v wy h => ⟨h.2, by rw [h.1, lands3]; rfl⟩)),
          fun wx hx => Ob.op rfl (O.eql_t rfl rfl rfl ⟨Keep.refl _ _, rfl⟩),
          fun wx hx => Ob.op rfl (O.pick_true rfl rfl ⟨Keep.refl _ _, rfl⟩),
          fun wx hx => Ob.op rfl (O.move rfl ⟨Keep.refl _ _, rfl⟩),
          fun wx hx => Ob.op rfl (O.loadAgg Tryz.isAgg41 Tryz.sizeOf41 rfl rfl ((Blk.ext (cs := (triC b31 b32 b33).cells) hT38 hx).row) ⟨Keep.refl _ _, rfl⟩),
          fun wx hx => Ob.op rfl (O.call (xs := []) Tryz.call16 rfl rfl (four4_calls wx) (fun v wy h => ⟨h.1, h.2.elim fun c h => ⟨c, h.1, h.2.mono (Nat.zero_le _)⟩⟩)),
          trivial⟩ (fun w39 he39 v150 hv150 => ?_)
      obtain ⟨c0, rfl, hF39⟩ := hv150
      refine L.op rfl rfl (O.build (v := .agg #[(triC b31 b32 b33).pv, (triC b31 b32 b33).fv, .int .i64 1, .int .i64 2, .int .i64 1, .slice (some ⟨c0 + 12, 0, none⟩) 4 4]) (parts := [(0, .tmp 149), (1, .tmp 150)]) (vs := [(0, _), (1, _)]) rfl (fun w => by kernel_rfl) (L.op rfl rfl (O.call (xs := [.tmp 151]) Tryz.call10 rfl rfl (ucheck_calls 0 0 (triC b31 b32 b33) ⟨1, 2, 1, .slice (some ⟨c0 + 12, 0, none⟩) 4 4, usD c0 xs0 D0⟩ w39 (hTok38.ext he39) hF39.rok) (fun v40 w40 hq => ?_))))
      obtain ⟨hv40, he40⟩ := hq
      rw [lands4] at hv40
      subst hv40
      refine L.op rfl rfl (O.eql_t rfl rfl rfl (L.op rfl rfl (O.pick_true rfl rfl (L.op rfl rfl (O.move rfl (L.op rfl rfl (O.build (v := .agg #[noC.pv, noC.fv, .int .i64 noR.G, .int .i64 noR.P, .int .i64 noR.L, noR.uv]) (parts := []) (vs := []) rfl (fun w => by kernel_rfl) (L.op rfl rfl (O.call (xs := [.tmp 156]) Tryz.call10 rfl rfl (ucheck_calls 0 0 noC noR w40 (noC_ok _) (noR_ok _)) (fun v41 w41 hq => ?_))))))))))
      obtain ⟨hv41, he41⟩ := hq
      rw [lands5] at hv41
      subst hv41
      refine L.op rfl rfl (O.eql_t rfl rfl rfl (?_))
      have he2741 : Ext w27 w41 := he2738.trans (he39.trans (he40.trans he41))
      refine L.op rfl rfl (O.pick_true rfl rfl (L.op rfl rfl (O.assign rfl (L.nil (T.seq (T.region (L.op rfl rfl (O.call (xs := []) Tryz.call16 rfl rfl (four4_calls w41) (fun v42 w42 hq => ?_)))))))))
      obtain ⟨he42, c2, rfl, hF42⟩ := hq
      refine L.op rfl rfl (O.call (xs := [.tmp 161, .const (.int .i64 1)]) Tryz.call52 rfl rfl (Parents_calls w41.heap.size ⟨1, 2, 1, .slice (some ⟨c2 + 12, 0, none⟩) 4 4, usD c2 xs0 D0⟩ 1 w42 hF42.rok) (fun v43 w43 hq => ?_))
      obtain ⟨he43, l43, hv43, hl43⟩ := hq
      rw [parErr_arg (four4_err c2) (by show ¬ ((0 : Int) ≤ 1 ∧ (1 : Int) < 1); decide)] at hv43
      subst hv43
      refine L.op rfl rfl (O.move rfl (L.op rfl rfl (O.extract rfl rfl (L.op rfl rfl (O.extract rfl rfl (L.op rfl rfl (O.assign rfl (L.op rfl rfl (O.assign rfl (L.nil (T.seq (T.region (L.op rfl rfl (O.call (xs := []) Tryz.call16 rfl rfl (four4_calls w43) (fun v44 w44 hq => ?_)))))))))))))))
      obtain ⟨he44, c3, rfl, hF44⟩ := hq
      refine L.op rfl rfl (O.call (xs := [.tmp 166, .const (.int .i64 (-1))]) Tryz.call52 rfl rfl (Parents_calls w43.heap.size ⟨1, 2, 1, .slice (some ⟨c3 + 12, 0, none⟩) 4 4, usD c3 xs0 D0⟩ (-1) w44 hF44.rok) (fun v45 w45 hq => ?_))
      obtain ⟨he45, l45, hv45, hl45⟩ := hq
      rw [parErr_arg (four4_err c3) (by show ¬ ((0 : Int) ≤ -1 ∧ (-1 : Int) < 1); decide)] at hv45
      subst hv45
      have hne : rollErr noR ≠ 0 := by rw [noR_err]; decide
      refine L.op rfl rfl (O.move rfl (L.op rfl rfl (O.extract rfl rfl (L.op rfl rfl (O.extract rfl rfl (L.op rfl rfl (O.assign rfl (L.op rfl rfl (O.assign rfl (L.nil (T.seq (T.region (L.op rfl rfl (O.build (v := noR.val) (parts := []) (vs := []) rfl (fun w => by kernel_rfl) (L.op rfl rfl (O.call (xs := [.tmp 171, .const (.int .i64 (-1))]) Tryz.call52 rfl rfl (Parents_calls 0 noR (-1) w45 (noR_ok _)) (fun v46 w46 hq => ?_)))))))))))))))))
      obtain ⟨he46, l46, hv46, hl46⟩ := hq
      rw [parErr_roll hne, noR_err] at hv46
      subst hv46
      refine L.op rfl rfl (O.move rfl (L.op rfl rfl (O.extract rfl rfl (L.op rfl rfl (O.extract rfl rfl (L.op rfl rfl (O.assign rfl (L.op rfl rfl (O.assign rfl (L.nil (T.seq (T.region (L.op rfl rfl (O.build (v := noR.val) (parts := []) (vs := []) rfl (fun w => by kernel_rfl) (L.op rfl rfl (O.call (xs := [.tmp 176, _]) Tryz.call53 rfl rfl (Find_calls 0 noR [97] w46 (noR_ok _)) (fun v47 w47 hq => ?_)))))))))))))))))
      obtain ⟨hv47, he47⟩ := hq
      rw [findRes_no hne, noR_err] at hv47
      subst hv47
      refine L.op rfl rfl (O.move rfl (L.op rfl rfl (O.extract rfl rfl (L.op rfl rfl (O.extract rfl rfl (L.op rfl rfl (O.assign rfl (L.op rfl rfl (O.assign rfl (L.nil (T.seq (T.region (L.op rfl rfl (O.build (v := noR.val) (parts := []) (vs := []) rfl (fun w => by kernel_rfl) (L.op rfl rfl (O.call (xs := [.tmp 181, .const (.int .u64 1)]) Tryz.call54 rfl rfl (Total_calls 0 noR 1 w47 (noR_ok _) (by decide)) (fun v48 w48 hq => ?_)))))))))))))))))
      obtain ⟨he48, g48, x48, hv48, _, _⟩ := hq
      rw [totErr_roll hne, noR_err] at hv48
      subst hv48
      refine L.op rfl rfl (O.move rfl (L.op rfl rfl (O.extract rfl rfl (L.op rfl rfl (O.extract rfl rfl (L.op rfl rfl (O.extract rfl rfl (L.op rfl rfl (O.extract rfl rfl (L.op rfl rfl (O.assign rfl (L.op rfl rfl (O.assign rfl (L.op rfl rfl (O.assign rfl (L.op rfl rfl (O.assign rfl (L.nil (T.seq (T.region (L.op rfl rfl (O.build (v := noR.val) (parts := []) (vs := []) rfl (fun w => by kernel_rfl) (L.op rfl rfl (O.call (xs := [.tmp 188]) Tryz.call55 rfl rfl (Nested_calls 0 noR w48 (noR_ok _)) (fun v49 w49 hq => ?_)))))))))))))))))))))))))
      obtain ⟨hv49, he49⟩ := hq
      rw [noR_err] at hv49
      subst hv49
      refine L.op rfl rfl (O.move rfl (L.op rfl rfl (O.extract rfl rfl (L.op rfl rfl (O.extract rfl rfl (L.op rfl rfl (O.assign rfl (L.op rfl rfl (O.assign rfl (L.nil (T.seq (T.region (L.op rfl rfl (O.buildSlice (el := 3) (parts := [(0, .const (.int .i64 1)), (1, .const (.int .i64 1))]) (vs := [(0, _), (1, _)]) (cs := [.int .i64 1, .int .i64 1]) rfl (fun w => by kernel_rfl) (fun b50 w50 hb50 hz50 he50 hB50 => ?_)))))))))))))))
      refine L.op rfl rfl (O.build (v := (mixA b50).val) (parts := [(0, _), (4, .tmp 192)]) (vs := [(0, _), (4, _)]) rfl (fun w => by kernel_rfl) (L.op rfl rfl (O.buildSlice (el := 3) (parts := [(0, .const (.int .i64 1)), (1, .const (.int .i64 2))]) (vs := [(0, _), (1, _)]) (cs := [.int .i64 1, .int .i64 2]) rfl (fun w => by kernel_rfl) (fun b51 w51 hb51 hz51 he51 hB51 => ?_))))
      refine L.op rfl rfl (O.build (v := (mixB b51).val) (parts := [(0, _), (4, .tmp 194)]) (vs := [(0, _), (4, _)]) rfl (fun w => by kernel_rfl) (L.op rfl rfl (O.buildSlice (el := 58) (parts := [(0, .tmp 193), (1, .tmp 195)]) (vs := [(0, _), (1, _)]) (cs := (ucells [mixA b50, mixB b51])) rfl (fun w => by kernel_rfl) (fun b52 w52 hb52 hz52 he52 hB52 => ?_))))
      refine L.op rfl rfl (O.build (v := (mixR b50 b51 b52).val) (parts := [(2, .const (.int .i64 2)), (3, .tmp 196)]) (vs := [(2, _), (3, _)]) rfl (fun w => by kernel_rfl) (L.op rfl rfl (O.alloc Tryz.zeroValue33 (fun b53 w53 hb53 hz53 he53 hB53 => ?_))))
      refine L.op rfl rfl (O.storeAgg Tryz.sizeOf33 rfl rfl rfl hB53 (Nat.le_refl _) (by intro u hu; simp [mixR, RoV.cells] at hu; rcases hu with (rfl|rfl|rfl|rfl) <;> rfl) (fun w54 hu54 hB54 => ?_))
      replace hu54 : Upd b53 w53 w54 := hu54
      have hY54 : Blk w54 b53 (mixR b50 b51 b52).cells 33 := hB54
      have hmok : (mixR b50 b51 b52).ok 0 w54 := by
        refine ⟨Sl.of_blk (Blk.upd (cs := ucells [mixA b50, mixB b51]) (Blk.ext hB52 he53) hu54 (by omega)) rfl (Nat.le_refl _) (by decide) (Nat.zero_le _), fun u hu => ?_⟩
        rw [show (mixR b50 b51 b52).us = [mixA b50, mixB b51] from rfl, List.mem_cons, List.mem_singleton] at hu
        rcases hu with rfl | rfl
        · exact ⟨Sl.nil _ _ _, Sl.nil _ _ _, Ints.of_blk (xs := [1, 1]) (n := 2) (Blk.upd (cs := ([1, 1] : List Int).map (Value.int .i64)) (Blk.ext hB50 ((he51.trans he52).trans he53)) hu54 (by omega)) rfl (by decide) (Nat.zero_le _), by show 1 ≤ 9223372036854775807; decide⟩
        · exact ⟨Sl.nil _ _ _, Sl.nil _ _ _, Ints.of_blk (xs := [1, 2]) (n := 2) (Blk.upd (cs := ([1, 2] : List Int).map (Value.int .i64)) (Blk.ext hB51 (he52.trans he53)) hu54 (by omega)) rfl (by decide) (Nat.zero_le _), by show 1 ≤ 9223372036854775807; decide⟩
      have he4954 : Ext w49 w54 := (he50.trans (he51.trans (he52.trans he53))).upd hu54 (.inr (by have := he50.size; have := he51.size; have := he52.size; omega))
      refine L.nil (T.seq (T.region (L.op rfl rfl (O.loadAgg Tryz.isAgg33 Tryz.sizeOf33 rfl rfl hY54.row (L.op rfl rfl (O.call (xs := [.tmp 199]) Tryz.call55 rfl rfl (Nested_calls 0 (mixR b50 b51 b52) w54 hmok) (fun v55 w55 hq => ?_)))))))
      obtain ⟨hv55, he55⟩ := hq
      rw [mix_nest, mix_err] at hv55
      subst hv55
      have he2755 : Ext w27 w55 := he2741.trans (he42.trans (he43.trans (he44.trans (he45.trans (he46.trans (he47.trans (he48.trans (he49.trans (he4954.trans he55)))))))))
      refine L.op rfl rfl (O.move rfl (L.op rfl rfl (O.extract rfl rfl (L.op rfl rfl (O.extract rfl rfl (L.op rfl rfl (O.assign rfl (L.op rfl rfl (O.assign rfl (L.nil (T.seq (T.region (L.op rfl rfl (O.move rfl (L.op rfl rfl (O.move rfl (L.op rfl rfl (O.move rfl (L.op rfl rfl (O.eql_t rfl rfl rfl (L.op rfl rfl (O.pick_true rfl rfl (L.op rfl rfl (O.move rfl (L.op rfl rfl (O.move rfl (L.op rfl rfl (O.eql_t rfl rfl rfl (L.op rfl rfl (O.pick_true rfl rfl (L.op rfl rfl (O.move rfl (L.op rfl rfl (O.move rfl (L.op rfl rfl (O.pick_true rfl rfl (L.op rfl rfl (O.move rfl (L.op rfl rfl (O.loadAgg Tryz.isAgg33 Tryz.sizeOf33 rfl rfl ((Blk.ext (cs := (moreR v26).cells) hX27 he2755).row) (L.op rfl rfl (O.call (xs := [.tmp 216]) Tryz.call8 rfl rfl (CheckRoll_calls w23.heap.size (moreR v26) w55 (RoV.ok.ext hMo he2755)) (fun v56 w56 hq => ?_)))))))))))))))))))))))))))))))))))))))))))
      obtain ⟨hv56, he56⟩ := hq
      rw [more_err] at hv56
      subst hv56
      refine L.op rfl rfl (O.eql_t rfl rfl rfl (L.op rfl rfl (O.pick_true rfl rfl (L.op rfl rfl (O.move rfl (L.op rfl rfl (O.move rfl (L.op rfl rfl (O.pick_true rfl rfl (L.op rfl rfl (O.move rfl (L.op rfl rfl (O.move rfl (L.op rfl rfl (O.eql_t rfl rfl rfl (L.op rfl rfl (O.pick_true rfl rfl (L.op rfl rfl (O.move rfl (L.op rfl rfl (O.move rfl (L.op rfl rfl (O.eql_t rfl rfl rfl (L.op rfl rfl (O.pick_true rfl rfl (L.op rfl rfl (O.move rfl (L.op rfl rfl (O.move rfl (L.op rfl rfl (O.eql_t rfl rfl rfl (L.op rfl rfl (O.pick_true rfl rfl (L.op rfl rfl (O.move rfl (L.op rfl rfl (O.move rfl (L.op rfl rfl (O.eql_t rfl rfl rfl (L.op rfl rfl (O.pick_true rfl rfl (L.op rfl rfl (O.move rfl (L.op rfl rfl (O.move rfl (L.op rfl rfl (O.eql_t rfl rfl rfl (?_))))))))))))))))))))))))))))))))))))))))))))))))
      refine L.op rfl rfl (O.pick_true rfl rfl (L.op rfl rfl (O.move rfl (L.op rfl rfl (O.move rfl (L.op rfl rfl (O.eql_t rfl rfl rfl (L.op rfl rfl (O.pick_true rfl rfl (L.op rfl rfl (O.move rfl (L.op rfl rfl (O.move rfl (L.op rfl rfl (O.not rfl (L.op rfl rfl (O.pick_true rfl rfl (L.op rfl rfl (O.move rfl (L.op rfl rfl (O.move rfl (L.op rfl rfl (O.eql_t rfl rfl rfl (L.op rfl rfl (O.pick_true rfl rfl (L.op rfl rfl (O.assign rfl (L.nil (T.ret1 Tryz.results4 rfl ⟨rfl, hA10.trans (he14.trans (he1427.trans (he2755.trans he56)))⟩)))))))))))))))))))))))))))))

end Go.Proofs.YtpgnaffcbbghgaaGreatDoor
set_option linter.unusedVariables false
set_option linter.unusedSimpArgs false
set_option maxRecDepth 20000
namespace Go.Proofs.YtpgnaffcbbghgaaGreatDoor
open Go Go.E RowKit ChangeShapes WideShapes
attribute [local irreducible] Go.E.T Go.E.L Go.E.O Go.E.Ob

abbrev laidL : List (String × DataW Unit) := Rows.unitsKnownRow.laid
theorem own : ownKnob Tryz.prog.godebug = none := by kernel_rfl
theorem laidOut : laidOutB Tryz.prog = true := by kernel_rfl
def flatD : Nat → DataW Unit → List Value
  | 0, _ => []
  | _, .lit (.int k n) => [.int k n]
  | n + 1, .agg ds => ds.flatMap (flatD n)
  | _, _ => []
noncomputable def layOne (p : String × DataW Unit) (h : Array Obj) : Array Obj := match Tryz.prog.globalNamed p.1 with
  | some g => h.modify g fun
      | .cells _ t frozen => .cells (flatD 4 p.2).toArray t frozen
      | o => o
  | none => h
noncomputable def laidWorld (os : Os) : World :=
  { World.holding Tryz.prog os ⟨#[], #[], []⟩ with heap := laidL.foldr layOne (World.holding Tryz.prog os ⟨#[], #[], []⟩).heap }
theorem laidWorld_met (os : Os) (args : Array Value) : laidMet Tryz.prog laidL ((laidWorld os).forCall (fun _ _ => 0) ⟨#[], args, []⟩).memory :=
  laidMet_of_run' 8 (by kernel_rfl) (by kernel_rfl)
theorem nil_of {α : Type} {l : List α} (h : l.length = 0) : l = [] := List.eq_nil_of_length_eq_zero h
theorem one_of {α : Type} {l : List α} (h : l.length = 1) : ∃ a, l = [a] := by
  match l, h with
  | [a], _ => exact ⟨a, rfl⟩
theorem two_of {α : Type} {l : List α} (h : l.length = 2) : ∃ a b, l = [a, b] := by
  match l, h with
  | [a, b], _ => exact ⟨a, b, rfl⟩
theorem three {α : Type} {l : List α} (h : l.length = 3) : ∃ a b c, l = [a, b, c] := by
  match l, h with
  | [a, b, c], _ => exact ⟨a, b, c, rfl⟩
theorem four_of {α : Type} {l : List α} (h : l.length = 4) : ∃ a b c d, l = [a, b, c, d] := by
  match l, h with
  | [a, b, c, d], _ => exact ⟨a, b, c, d, rfl⟩
theorem five {α : Type} {l : List α} (h : l.length = 5) : ∃ a b c d e, l = [a, b, c, d, e] := by
  match l, h with
  | [a, b, c, d, e], _ => exact ⟨a, b, c, d, e, rfl⟩
theorem ten_of {α : Type} {l : List α} (h : l.length = 10) : ∃ a b c d e f g i j k, l = [a, b, c, d, e, f, g, i, j, k] := by
  match l, h with
  | [a, b, c, d, e, f, g, i, j, k], _ => exact ⟨a, b, c, d, e, f, g, i, j, k, rfl⟩
end Go.Proofs.YtpgnaffcbbghgaaGreatDoor
set_option linter.unusedVariables false
set_option linter.unusedSimpArgs false
set_option maxRecDepth 20000
namespace Go.Proofs.YtpgnaffcbbghgaaGreatDoor
open Go Go.E RowKit ChangeShapes WideShapes
attribute [local irreducible] Go.E.T Go.E.L Go.E.O Go.E.Ob

set_option maxRecDepth 100000 in
theorem unitsKnown_lifted (os : Os) (started : os.Started) (H : Type) (enc : TypeId × Value → H) :
    ReturnsInHanded {} Tryz.checked os 4 .any (fun w args => (Rows.unitsKnownSpec.pre enc Tryz.prog Tryz.f4 [] false w args ∧ laidMetH Tryz.prog laidL w) ∧ sizedMet enc Tryz.prog Tryz.f4 (OpenSpec.ofChange Rows.unitsKnownSpec) false w args)
      (Rows.unitsKnownSpec.post enc Tryz.prog Tryz.f4 false true false false) := by
  refine law_lifted (C := Tryz.checked) (X := fun w _ => laidMetH Tryz.prog laidL w) (tb := 4) (ts := []) (fun _ _ _ hh h => h.of_heap hh) own started (by kernel_rfl) Tryz.func4
    rfl Tryz.params4 (fun ds h => ?_) (by kernel_rfl) Tryz.underlying4 laidOut (by kernel_rfl)
    (ChangeSpec.witness_at (enc := enc) (C := Tryz.checked) (os := os) (X := fun w _ => laidMetH Tryz.prog laidL w) false (laidWorld os) #[] 8 rfl (by kernel_rfl) (by kernel_rfl) (by kernel_rfl) (by kernel_rfl) (by kernel_rfl) (laidWorld_met os _)) ?_
  · obtain rfl := nil_of h
    rfl
  · intro W vs hl ha hL
    obtain rfl := nil_of hl
    exact known_calls W
theorem unitsKnown_over : Rows.UnitsKnownSaid :=
  OpenClaim.holds_of_wide 4 Tryz.f4 rfl rfl rfl rfl rfl rfl rfl ⟨rfl, rfl, rfl, rfl, rfl⟩ rfl rfl rfl rfl rfl (by kernel_rfl) Tryz.func4 (by kernel_rfl)
    (of_decide_eq_true (by kernel_rfl)) (by unfold Func.isWrapper; first | (rw [if_pos (by decide +kernel)]; kernel_rfl) | (rw [if_neg (by decide +kernel)]; exact ⟨rfl, rfl⟩))
    (fun os started H enc _ => unitsKnown_lifted os started H enc)
theorem unitsKnown_holds : Rows.UnitsKnownCardSaid :=
  Claim7.holds_tied_plain_at .later [] [.data, .pinned] true (true, "d24157ced15e911f7f95976a75820fb1a8dc0705e0edbb560c92aaf4b40199a0") false
    unitsKnown_over (fun _ h => by cases h) (by kernel_rfl) (fun _ h => by cases h) unitsKnown_row_tie rfl ⟨rfl, rfl⟩ (by kernel_rfl) rfl
    (fun f fn hf hfn => by
      obtain rfl : f = 4 := Option.some.inj ((show Tryz.prog.funcNamed Rows.unitsKnownRow.func = some 4 by kernel_rfl).symm.trans hf) |>.symm
      obtain rfl : fn = Tryz.f4 := (Option.some.inj (Tryz.func4.symm.trans hfn)).symm
      exact ⟨by kernel_rfl, fun j t ht => by
        rw [Tryz.params4] at ht
        simp at ht⟩)
    (by kernel_rfl)
#print axioms unitsKnown_holds
end Go.Proofs.YtpgnaffcbbghgaaGreatDoor
