/-
  What the listed variables give, and what comes in. Conditions: none (general lemmas).
-/
import Derived.Test.YtpgnaffcbbghgaaDoorMg
import Derived.Test.YtpgnaffcbbghgaaDoorMb
import Derived.Test.YtpgnaffcbbghgaaDoorRows
import Derived.Test.YtpgnaffcbbghgaaDoorTie
set_option linter.unusedVariables false
set_option linter.unusedSimpArgs false
set_option maxRecDepth 20000
namespace Go.Proofs.YtpgnaffcbbghgaaDoor
open Go Go.E RowKit ChangeShapes WideShapes
attribute [local irreducible] Go.E.T Go.E.L Go.E.O Go.E.Ob

abbrev laidL : List (String × DataW Unit) := Rows.unitsTotalsRow.laid
theorem own : ownKnob Tryd.prog.godebug = none := by kernel_rfl
theorem laidOut : laidOutB Tryd.prog = true := by kernel_rfl
def flatD : Nat → DataW Unit → List Value
  | 0, _ => []
  | _, .lit (.int k n) => [.int k n]
  | n + 1, .agg ds => ds.flatMap (flatD n)
  | _, _ => []
noncomputable def layOne (p : String × DataW Unit) (h : Array Obj) : Array Obj := match Tryd.prog.globalNamed p.1 with
  | some g => h.modify g fun
      | .cells _ t frozen => .cells (flatD 4 p.2).toArray t frozen
      | o => o
  | none => h
noncomputable def laidWorld (os : Os) : World :=
  { World.holding Tryd.prog os ⟨#[], #[], []⟩ with heap := laidL.foldr layOne (World.holding Tryd.prog os ⟨#[], #[], []⟩).heap }
theorem laidWorld_met (os : Os) (args : Array Value) : laidMet Tryd.prog laidL ((laidWorld os).forCall (fun _ _ => 0) ⟨#[], args, []⟩).memory :=
  laidMet_of_run' 8 (by kernel_rfl) (by kernel_rfl)
theorem nil_of {α : Type} {l : List α} (h : l.length = 0) : l = [] := List.eq_nil_of_length_eq_zero h
theorem one_of {α : Type} {l : List α} (h : l.length = 1) : ∃ a, l = [a] := by
  match l, h with
  | [a], _ => exact ⟨a, rfl⟩
theorem two_of {α : Type} {l : List α} (h : l.length = 2) : ∃ a b, l = [a, b] := by
  match l, h with
  | [a, b], _ => exact ⟨a, b, rfl⟩
theorem three {α : Type} {l : List α} (h : l.length = 3) : ∃ a b c, l = [a, b, c] := by
  match l, h with
  | [a, b, c], _ => exact ⟨a, b, c, rfl⟩
theorem four_of {α : Type} {l : List α} (h : l.length = 4) : ∃ a b c d, l = [a, b, c, d] := by
  match l, h with
  | [a, b, c, d], _ => exact ⟨a, b, c, d, rfl⟩
theorem five {α : Type} {l : List α} (h : l.length = 5) : ∃ a b c d e, l = [a, b, c, d, e] := by
  match l, h with
  | [a, b, c, d, e], _ => exact ⟨a, b, c, d, e, rfl⟩
theorem ten_of {α : Type} {l : List α} (h : l.length = 10) : ∃ a b c d e f g i j k, l = [a, b, c, d, e, f, g, i, j, k] := by
  match l, h with
  | [a, b, c, d, e, f, g, i, j, k], _ => exact ⟨a, b, c, d, e, f, g, i, j, k, rfl⟩
theorem wf_u8 {n : Int} (h : (Lit.int .u8 n).wf = true) : 0 ≤ n ∧ n ≤ 255 := by
  simp [Lit.wf, IntKind.min, IntKind.max, IntKind.signed, IntKind.bits] at h; omega
theorem wf_u16 {n : Int} (h : (Lit.int .u16 n).wf = true) : 0 ≤ n ∧ n ≤ 65535 := by
  simp [Lit.wf, IntKind.min, IntKind.max, IntKind.signed, IntKind.bits] at h; omega
theorem wf_u64 {n : Int} (h : (Lit.int .u64 n).wf = true) : ∃ m : Nat, n = m ∧ m < 18446744073709551616 := by
  simp [Lit.wf, IntKind.min, IntKind.max, IntKind.signed, IntKind.bits] at h
  exact ⟨n.toNat, by omega, by omega⟩
theorem k8 : Tryd.prog.cellsOf 5 = 1 := by kernel_rfl
theorem k16 : Tryd.prog.cellsOf 125 = 1 := by kernel_rfl
theorem ki : Tryd.prog.cellsOf 3 = 1 := by kernel_rfl
theorem kb : Tryd.prog.cellsOf 4 = 1 := by kernel_rfl
theorem ks : Tryd.prog.cellsOf 9 = 1 := by kernel_rfl
theorem ku8 : Tryd.prog.cellsOf 22 = 1 := by kernel_rfl
theorem ku16 : Tryd.prog.cellsOf 25 = 1 := by kernel_rfl
theorem kD : Tryd.prog.cellsOf 27 = 10 := by kernel_rfl
theorem kS : Tryd.prog.cellsOf 24 = 5 := by kernel_rfl
theorem kB : Tryd.prog.cellsOf 47 = 5 := by kernel_rfl
theorem k2B : Tryd.prog.cellsOf 48 = 10 := by kernel_rfl
theorem rok_u8s {W : World} {c : Value} (h : Rok Tryd.prog W 22 [c]) : ∃ xs, Ints .u8 0 W c xs ∧ ∀ j, j < xs.length → Low8 (xs.getD j 0) := by
  obtain ⟨v, css, h1, h2, h3⟩ := h.slice Tryd.underlying22
  cases h1
  obtain ⟨xs, h4, h5⟩ := sl_ints Tryd.underlying5 k8 h2 h3
  exact ⟨xs, h4, fun j hj => by rw [getD_get hj]; exact wf_u8 (h5 _ (List.getElem_mem hj))⟩
theorem rok_u16s {W : World} {c : Value} (h : Rok Tryd.prog W 25 [c]) : ∃ xs, Ints .u16 0 W c xs ∧ ∀ j, j < xs.length → 0 ≤ xs.getD j 0 ∧ xs.getD j 0 ≤ 65535 := by
  obtain ⟨v, css, h1, h2, h3⟩ := h.slice Tryd.underlying25
  cases h1
  obtain ⟨xs, h4, h5⟩ := sl_ints Tryd.underlying125 k16 h2 h3
  exact ⟨xs, h4, fun j hj => by rw [getD_get hj]; exact wf_u16 (h5 _ (List.getElem_mem hj))⟩
theorem draft_of {W : World} {v : Value} (h : Arg Tryd.prog W 27 v) : ∃ d : Dr, v = d.val ∧ d.ok 0 W := by
  obtain ⟨cs, rfl, hl, hr⟩ := h.struct Tryd.underlying27
  rw [kD] at hl
  obtain ⟨a, b, c, d, e, f, g, i, j, k, rfl⟩ := ten_of hl
  have F := fun q ft off n hf hc => hr.fld Tryd.underlying27 q ft off n hf hc
  have s0 := F 0 24 0 5 rfl kS
  have F2 := fun q ft off n hf hc => s0.fld Tryd.underlying24 q ft off n hf hc
  obtain ⟨x0, e0, w0⟩ := Rok.int (F2 0 5 0 1 rfl k8) Tryd.underlying5
  obtain ⟨x1, e1, w1⟩ := Rok.int (F2 1 5 1 1 rfl k8) Tryd.underlying5
  obtain ⟨cs, c1, c2⟩ := rok_u8s (F2 2 22 2 1 rfl ku8)
  obtain ⟨ss, s1, s2⟩ := rok_u8s (F2 3 22 3 1 rfl ku8)
  obtain ⟨bo, e4⟩ := Rok.bool (F2 4 4 4 1 rfl kb) Tryd.underlying4
  obtain ⟨x5, e5, w5⟩ := Rok.int (F 1 5 5 1 rfl k8) Tryd.underlying5
  obtain ⟨x6, e6, w6⟩ := Rok.int (F 2 5 6 1 rfl k8) Tryd.underlying5
  obtain ⟨x7, e7, w7⟩ := Rok.int (F 3 5 7 1 rfl k8) Tryd.underlying5
  obtain ⟨ns, n1, n2⟩ := rok_u16s (F 4 25 8 1 rfl ku16)
  obtain ⟨x9, e9, w9⟩ := Rok.int (F 5 5 9 1 rfl k8) Tryd.underlying5
  simp at e0 e1 e4 e5 e6 e7 e9
  subst e0 e1 e4 e5 e6 e7 e9
  exact ⟨⟨x0, x1, c, cs, d, ss, bo, x5, x6, x7, j, ns, x9⟩, rfl, ⟨c1, s1, n1, c2, s2, n2, wf_u8 w0, wf_u8 w1, wf_u8 w5, wf_u8 w6, wf_u8 w7, wf_u8 w9⟩⟩
theorem str_of_val (s : ByteArray) (h : s.size ≤ maxLen) : ∃ t : Str, Value.string s = str t ∧ t.length ≤ 9223372036854775807 := ⟨s.data.toList, rfl, by unfold maxLen at h; simp only [Array.length_toList]; exact h⟩
theorem bend_rok {W : World} {a b c d e : Value} (h : Rok Tryd.prog W 47 [a, b, c, d, e]) : ∃ x : Bd, [a, b, c, d, e] = x.cells ∧ x.ok := by
  have F := fun q ft off n hf hc => h.fld Tryd.underlying47 q ft off n hf hc
  obtain ⟨x0, e0, w0⟩ := Rok.int (F 0 5 0 1 rfl k8) Tryd.underlying5
  obtain ⟨x1, e1, w1⟩ := Rok.int (F 1 5 1 1 rfl k8) Tryd.underlying5
  obtain ⟨x2, e2, w2⟩ := Rok.int (F 2 5 2 1 rfl k8) Tryd.underlying5
  obtain ⟨x3, e3, _⟩ := Rok.int (F 3 3 3 1 rfl ki) Tryd.underlying3
  obtain ⟨s, e4, hs⟩ := Rok.string (F 4 9 4 1 rfl ks) Tryd.underlying9
  simp at e0 e1 e2 e3 e4
  subst e0 e1 e2 e3 e4
  obtain ⟨t, ht, hl⟩ := str_of_val s hs
  exact ⟨⟨x0, x1, x2, x3, t⟩, by rw [ht]; rfl, ⟨wf_u8 w0, wf_u8 w1, wf_u8 w2, hl⟩⟩
theorem bends_of {W : World} {v : Value} (h : Arg Tryd.prog W 48 v) : ∃ b c : Bd, v = bends b c ∧ b.ok ∧ c.ok := by
  obtain ⟨cs, rfl, hl, hr⟩ := h.array Tryd.underlying48
  rw [k2B] at hl
  obtain ⟨a, b, c, d, e, f, g, i, j, k, rfl⟩ := ten_of hl
  obtain ⟨_, ha⟩ := hr.array Tryd.underlying48
  have h0 := ha 0 (by decide)
  have h1 := ha 1 (by decide)
  rw [kB] at h0 h1
  obtain ⟨x, e1, o1⟩ := bend_rok h0
  obtain ⟨y, e2, o2⟩ := bend_rok h1
  exact ⟨x, y, by rw [bends, ← e1, ← e2]; rfl, o1, o2⟩
end Go.Proofs.YtpgnaffcbbghgaaDoor
