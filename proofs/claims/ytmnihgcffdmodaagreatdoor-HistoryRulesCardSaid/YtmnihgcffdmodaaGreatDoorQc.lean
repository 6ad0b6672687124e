/-
  An engine for walks (3): texts, maps in general, more regions, panics; contracts of the library. Conditions: none (general lemmas).
-/
import Derived.Test.YtmnihgcffdmodaaGreatDoorQb
import Derived.Laws.IdiomStrings
import Derived.Laws.StructEq
import Derived.Laws.Slices
import Derived.RecoverIn
import Derived.Scope
import Derived.Shelf.Vars
import Derived.Shelf.Strings.Builder1
import Derived.Shelf.Strconv.ParseUintEmpty
import Derived.Shelf.Strconv.Lower
import Derived.Shelf.Slices.Turned
import Derived.Shelf.Strconv.Itoa3
import Derived.Shelf.Strconv.ToErrorRange
import Derived.Shelf.Strconv.ToError
import Derived.Shelf.Strings.FuncGrows
import Derived.Shelf.Strings.Count
import Derived.Shelf.Strings.Cut
import Derived.Shelf.Strings.Prefix
import Derived.Shelf.Strings.OnBuilder
import Derived.Shelf.Strings.LastIndexAll
import Derived.Shelf.Strings.Repeat
import Derived.Shelf.Strings.Split
import Derived.Test.YtmnihgcffdmodaaGreatDoorProg
set_option linter.unusedVariables false
set_option linter.unusedSimpArgs false
set_option linter.unusedSectionVars false
namespace Go.E
open Go.RowKit

abbrev Str := List UInt8
def str (s : Str) : Value := .string ⟨s.toArray⟩
theorem bytes_beq (a b : Str) : ((⟨a.toArray⟩ : ByteArray) == ⟨b.toArray⟩) = decide (a = b) := by
  show ((⟨a⟩ : Array UInt8) == ⟨b⟩) = _
  by_cases h : a = b
  · subst h; simp
  · rw [decide_eq_false h, beq_eq_false_iff_ne]
    intro e; exact h (by simpa using e)
theorem list_beq (a b : Str) : (a == b) = decide (a = b) := by by_cases h : a = b <;> simp [h]
section ops
variable {C : Cx} {e : Env} {w : World} {K : Value → World → Prop} {d : Option Tmp} {ty : TypeId} {pos : String} {aft : Array Edge} {g : Option (Nat × Bool)}
variable {x y z : Operand} {t tx ty' : TypeId} {a b : Str}
theorem O.eql_str (hu : ∀ w, (underlying tx).run C.P w = .ok .string w) (hx : ev e x = some (str a)) (hy : ev e y = some (str b)) (h : K (.bool (decide (a = b))) w) : O C e ⟨d, .binOp .eql tx x y ty', ty, pos, aft, g⟩ w K :=
  O.of_run (by simp) (fun ac ha => by
    simp only [execOp, ha.eval hx, ha.eval hy, eqGuard, binOp, str]
    simp only [Op.stringOp, ByteArray.toList_eq, Sem.run_bind, Sem.run_pure, Result.andThen_ok]
    simp [list_beq]) h
theorem O.neq_str (hu : ∀ w, (underlying tx).run C.P w = .ok .string w) (hx : ev e x = some (str a)) (hy : ev e y = some (str b)) (h : K (.bool (!decide (a = b))) w) : O C e ⟨d, .binOp .neq tx x y ty', ty, pos, aft, g⟩ w K :=
  O.of_run (by simp) (fun ac ha => by
    simp only [execOp, ha.eval hx, ha.eval hy, eqGuard, binOp, str]
    simp only [Op.stringOp, ByteArray.toList_eq, Sem.run_bind, Sem.run_pure, Result.andThen_ok]
    simp [list_beq]) h
theorem O.eql_str_t (hu : ∀ w, (underlying tx).run C.P w = .ok .string w) (hx : ev e x = some (str a)) (hy : ev e y = some (str b)) (hp : a = b) (h : K (.bool true) w) : O C e ⟨d, .binOp .eql tx x y ty', ty, pos, aft, g⟩ w K := O.eql_str hu hx hy (by rw [decide_eq_true hp]; exact h)
theorem O.eql_str_f (hu : ∀ w, (underlying tx).run C.P w = .ok .string w) (hx : ev e x = some (str a)) (hy : ev e y = some (str b)) (hp : ¬ a = b) (h : K (.bool false) w) : O C e ⟨d, .binOp .eql tx x y ty', ty, pos, aft, g⟩ w K := O.eql_str hu hx hy (by rw [decide_eq_false hp]; exact h)
theorem O.eql_str_s (hu : ∀ w, (underlying tx).run C.P w = .ok .string w) (hx : ev e x = some (str a)) (hy : ev e y = some (str b)) (ht : a = b → K (.bool true) w) (hf : ¬ a = b → K (.bool false) w) : O C e ⟨d, .binOp .eql tx x y ty', ty, pos, aft, g⟩ w K := O.eql_str hu hx hy (by
  by_cases hp : a = b
  · rw [decide_eq_true hp]; exact ht hp
  · rw [decide_eq_false hp]; exact hf hp)
theorem O.neq_str_t (hu : ∀ w, (underlying tx).run C.P w = .ok .string w) (hx : ev e x = some (str a)) (hy : ev e y = some (str b)) (hp : ¬ a = b) (h : K (.bool true) w) : O C e ⟨d, .binOp .neq tx x y ty', ty, pos, aft, g⟩ w K := O.neq_str hu hx hy (by rw [decide_eq_false hp]; exact h)
theorem O.neq_str_f (hu : ∀ w, (underlying tx).run C.P w = .ok .string w) (hx : ev e x = some (str a)) (hy : ev e y = some (str b)) (hp : a = b) (h : K (.bool false) w) : O C e ⟨d, .binOp .neq tx x y ty', ty, pos, aft, g⟩ w K := O.neq_str hu hx hy (by rw [decide_eq_true hp]; exact h)
theorem O.neq_str_s (hu : ∀ w, (underlying tx).run C.P w = .ok .string w) (hx : ev e x = some (str a)) (hy : ev e y = some (str b)) (ht : ¬ a = b → K (.bool true) w) (hf : a = b → K (.bool false) w) : O C e ⟨d, .binOp .neq tx x y ty', ty, pos, aft, g⟩ w K := O.neq_str hu hx hy (by
  by_cases hp : a = b
  · rw [decide_eq_true hp]; exact hf hp
  · rw [decide_eq_false hp]; exact ht hp)
theorem O.len_str (hu : ∀ w, (underlying t).run C.P w = .ok .string w) (hx : ev e x = some (str a)) (h : K (.int .i64 a.length) w) :
    O C e ⟨d, .call { callee := .builtin .len, args := #[x], argTypes := #[t] }, ty, pos, aft, g⟩ w K :=
  O.len_string hu hx (by simpa [ByteArray.size] using h)
theorem O.index_at {kd : IntKind} {m : Int} (hu : ∀ w, (underlying t).run C.P w = .ok .string w) (hx : ev e x = some (str a)) (hy : ev e y = some (.int kd m)) (h0 : 0 ≤ m) (h1 : m.toNat < a.length) (h : K (.int .u8 ((a.getD m.toNat 0).toNat : Int)) w) :
    O C e ⟨d, .index t x y, ty, pos, aft, g⟩ w K :=
  O.index_str (b := a.getD m.toNat 0) hu hx hy h0 (by
    have : (⟨a.toArray⟩ : ByteArray)[m.toNat]? = a[m.toNat]? := by
      rw [List.getElem?_eq_getElem h1]
      exact getElem?_pos (⟨a.toArray⟩ : ByteArray) m.toNat (by simpa [ByteArray.size] using h1)
    rw [this]; simp [List.getD, h1]) h
theorem O.index_nat {kd : IntKind} {i : Nat} (hu : ∀ w, (underlying t).run C.P w = .ok .string w) (hx : ev e x = some (str a)) (hy : ev e y = some (.int kd i)) (h1 : i < a.length) (h : K (.int .u8 ((a.getD i 0).toNat : Int)) w) :
    O C e ⟨d, .index t x y, ty, pos, aft, g⟩ w K := O.index_at hu hx hy (Int.natCast_nonneg _) (by simpa using h1) (by simpa using h)
theorem bytes_extract (a : Str) (l h : Nat) : (⟨a.toArray⟩ : ByteArray).extract l h = ⟨((a.drop l).take (h - l)).toArray⟩ := by
  apply ByteArray.ext
  simp [ByteArray.data_extract, List.extract_toArray, List.extract]
theorem O.add_str (hx : ev e x = some (str a)) (hy : ev e y = some (str b)) (hn : a.length + b.length ≤ 9223372036854775807) (h : K (str (a ++ b)) w) : O C e ⟨d, .binOp .add tx x y ty', ty, pos, aft, g⟩ w K :=
  O.of_run (by simp) (fun ac ha => by
    have hle : ¬ (((⟨a.toArray⟩ : ByteArray).size + (⟨b.toArray⟩ : ByteArray).size : Nat) : Int) > IntKind.i64.max := by
      have : IntKind.i64.max = 9223372036854775807 := rfl
      simp only [ByteArray.size, List.size_toArray, this]; omega
    have he : ((⟨a.toArray⟩ : ByteArray) ++ ⟨b.toArray⟩) = ⟨(a ++ b).toArray⟩ := by apply ByteArray.ext; simp [ByteArray.data_append]
    simp only [execOp, ha.eval hx, ha.eval hy, eqGuard, binOp, str, Op.stringOp, he]
    rw [if_neg hle]; simp) h
theorem O.bytes_str {lo : Nat} {v : Value} {s : Str} {src dst el : TypeId} (hs : ∀ w, (underlying src).run C.P w = .ok (.slice el) w) (he : ∀ w, (underlying el).run C.P w = .ok (.int .u8) w) (hd : ∀ w, (underlying dst).run C.P w = .ok .string w)
    (hx : ev e x = some v) (hv : Ints .u8 lo w v (s.map fun c => (c.toNat : Int))) (hn : 0 < s.length) (h : K (str s) w) : O C e ⟨d, .convert src dst x, ty, pos, aft, g⟩ w K :=
  O.of_run (by simp) (fun ac ha => by
    obtain ⟨cap, e1, _, _, hr⟩ := Sl.there hv (by simpa using hn)
    have := run_convert_bytes_back w src dst el (sAddr v) cap s (underlying_of hs) (underlying_of he) (underlying_of hd) (fun j hj => hr j _ (by simp [hj]))
    simp only [execOp, ha.eval hx, str]
    rw [e1]; simp only [List.length_map]
    rw [Sem.run_bind, this]; simp) h
/-! ### Parts of slices -/
end ops
end Go.E
set_option linter.unusedVariables false
set_option linter.unusedSimpArgs false
set_option linter.unusedSectionVars false
namespace Go.E
open Go.RowKit

/-- Keys of a type that are compared at once. -/
structure Key {α : Type} [DecidableEq α] (kf : α → Value) (kd : TypeDesc) : Prop where
  same : ∀ a b, Instr.sameNow kd (kf a) (kf b) = some (decide (a = b))
  check : ∀ (P : Program) (kt : TypeId) (b : Bool) (a : α) (w : World), P.underlying kt = some kd → (Instr.checkKey b 10000 kt (kf a)).run P w = .ok () w
  stays : ∀ (P : Program) (a : α) (w : World), (Instr.keyThatStays (kf a) (kf a)).run P w = .ok (kf a) w
theorem key_int (q : IntKind) : Key (Value.int .i64) (.int q) :=
  ⟨fun a b => by simp only [Instr.sameNow, if_true]; by_cases h : a = b <;> simp [h], fun P kt b a w h => run_checkKey_int h b a w, fun P a w => by simp [Instr.keyThatStays, Instr.sameBits]⟩
section maps
variable {α β : Type} [DecidableEq α] {kf : α → Value} {vf : β → Value} {kd : TypeDesc}
def gE (kf : α → Value) (vf : β → Value) (p : α × β) (i : Nat) : MapEntry := { key := kf p.1, val := vf p.2, born := i }
def gEs (kf : α → Value) (vf : β → Value) (n : Nat) : List (α × β) → List MapEntry
  | [] => []
  | p :: r => gE kf vf p n :: gEs kf vf (n + 1) r
theorem gEs_get : ∀ (kvs : List (α × β)) (n i : Nat), (gEs kf vf n kvs)[i]? = (kvs[i]?).map (fun p => gE kf vf p (n + i))
  | [], _, _ => by simp [gEs]
  | p :: r, n, 0 => by simp [gEs]
  | p :: r, n, i + 1 => by
    simp only [gEs, List.getElem?_cons_succ, gEs_get r (n + 1) i]
    rw [show n + 1 + i = n + (i + 1) by omega]
theorem gEs_snoc : ∀ (kvs : List (α × β)) (n : Nat) (p : α × β), gEs kf vf n (kvs ++ [p]) = gEs kf vf n kvs ++ [gE kf vf p (n + kvs.length)]
  | [], n, p => by simp [gEs]
  | q :: r, n, p => by
    simp only [List.cons_append, gEs, gEs_snoc r (n + 1) p, List.length_cons]
    rw [show n + 1 + r.length = n + (r.length + 1) by omega]
/-- The map's block, whole. -/
def MapG (kf : α → Value) (vf : β → Value) (w : World) (b : Nat) (kvs : List (α × β)) : Prop := w.heap[b]? = some (.map (gEs kf vf 0 kvs).toArray kvs.length)
theorem MapG.lt {w : World} {b : Nat} {kvs : List (α × β)} (h : MapG kf vf w b kvs) : b < w.heap.size := (Array.getElem?_eq_some_iff.1 h).1
/-- Where a key stands, and its value. -/
def findG : List (α × β) → α → Nat → Option (Nat × β)
  | [], _, _ => none
  | p :: r, k, i => if k = p.1 then some (i, p.2) else findG r k (i + 1)
def getG (kvs : List (α × β)) (k : α) : Option β := (findG kvs k 0).map (·.2)
def putG (kvs : List (α × β)) (k : α) (v : β) : List (α × β) := match findG kvs k 0 with
  | some (i, _) => kvs.set i (k, v)
  | none => kvs ++ [(k, v)]
theorem findNow_g (hK : Key kf kd) (k : α) : ∀ (kvs : List (α × β)) (n i : Nat), Instr.findNow kd (kf k) (gEs kf vf n kvs) i = some ((findG kvs k i).map (fun p => (p.1, vf p.2)))
  | [], _, _ => rfl
  | p :: r, n, i => by
    simp only [gEs, Instr.findNow, gE, hK.same, findG]
    by_cases h : k = p.1
    · simp [h]
    · simp only [decide_eq_false h, if_neg h]
      exact findNow_g hK k r (n + 1) (i + 1)
theorem findG_get : ∀ (kvs : List (α × β)) (k : α) (n : Nat) {i : Nat} {v : β}, findG kvs k n = some (i, v) → n ≤ i ∧ kvs[i - n]? = some (k, v)
  | [], _, _, _, _, h => by cases h
  | p :: r, k, n, i, v, h => by
    simp only [findG] at h
    split at h
    · rename_i hk; cases h; subst hk; simp
    · obtain ⟨h1, h2⟩ := findG_get r k (n + 1) h
      refine ⟨by omega, ?_⟩
      rw [show i - n = (i - (n + 1)) + 1 by omega]; simpa using h2
section ops
variable {C : Cx} {e : Env} {w : World} {K : Value → World → Prop} {d : Option Tmp} {ty : TypeId} {pos : String} {aft : Array Edge} {g : Option (Nat × Bool)}
variable {x y z : Operand} {t kt vt : TypeId}
theorem run_findKey_g {P : Program} (hK : Key kf kd) (hk : P.underlying kt = some kd) (k : α) (kvs : List (α × β)) (w : World) :
    (Instr.findKey kt (kf k) (gEs kf vf 0 kvs)).run P w = .ok ((findG kvs k 0).map (fun p => (p.1, vf p.2))) w := by
  simp [Instr.findKey, run_underlying hk, findNow_g hK]
theorem O.makeMapG (h : ∀ b w', b = w.heap.size → w'.heap.size = b + 1 → Ext w w' → MapG kf vf w' b [] → K (.map (some b)) w') : O C e ⟨d, .makeMap t none, ty, pos, aft, g⟩ w K :=
  O.of_run (w' := w.alloc (.map #[] 0)) (v := .map (some w.heap.size)) (by simp) (fun a ha => by simp [execOp, Instr.makeMap])
    (h _ _ rfl (by simp) (Keep.alloc _ _ _) (heap_alloc_new w _))
theorem O.lookupG {b : Nat} {k : α} {z0 : β} {kvs : List (α × β)} (hK : Key kf kd) (hu : ∀ w, (underlying t).run C.P w = .ok (.map kt vt) w) (hk : ∀ w, (underlying kt).run C.P w = .ok kd w) (hz : ∀ w, (zeroValue vt).run C.P w = .ok (vf z0) w)
    (hx : ev e x = some (.map (some b))) (hy : ev e y = some (kf k)) (hm : MapG kf vf w b kvs) (h : K (vf ((getG kvs k).getD z0)) w) : O C e ⟨d, .lookup t x y false, ty, pos, aft, g⟩ w K :=
  O.of_run (by simp) (fun a ha => by
    have hf := run_findKey_g (vf := vf) hK (underlying_of hk) k kvs w
    cases hc : findG kvs k 0 with
    | none => rw [hc] at hf; simp [execOp, Instr.lookup, ha.eval hx, ha.eval hy, hu w, MapKept.run_getObj_map hm, hK.check _ _ _ _ _ (underlying_of hk), hf, hz w, getG, hc]
    | some p => rw [hc] at hf; simp [execOp, Instr.lookup, ha.eval hx, ha.eval hy, hu w, MapKept.run_getObj_map hm, hK.check _ _ _ _ _ (underlying_of hk), hf, getG, hc]) h
theorem gEs_modify (kvs : List (α × β)) (i : Nat) (p : α × β) (f : MapEntry → MapEntry) (hf : ∀ q, kvs[i]? = some q → f (gE kf vf q i) = gE kf vf p i) : (gEs kf vf 0 kvs).toArray.modify i f = (gEs kf vf 0 (kvs.set i p)).toArray := by
  apply Array.ext_getElem?
  intro j
  rw [Array.getElem?_modify]
  simp only [List.getElem?_toArray, gEs_get, Nat.zero_add]
  by_cases hij : i = j
  · subst hij
    simp only [if_true, List.getElem?_set_self']
    cases hk : kvs[i]? with
    | none => simp
    | some q => simp [hf q hk]
  · rw [if_neg hij, List.getElem?_set_ne hij]
end ops
end maps
end Go.E
set_option linter.unusedVariables false
set_option linter.unusedSimpArgs false
set_option linter.unusedSectionVars false
namespace Go.E
open Go.RowKit
theorem Sl.ext {lo n sz : Nat} {w w' : World} {v : Value} {cs : List Value} (h : Sl lo w v n sz cs) (k : Ext w w') : Sl lo w' v n sz cs := h.keep (k.mono (Nat.zero_le _))
theorem Blk.ext {w w' : World} {b : Nat} {cs : List Value} {t : TypeId} (h : Blk w b cs t) (k : Ext w w') : Blk w' b cs t := h.keep k (Nat.zero_le _)
section bools
variable {C : Cx} {e : Env} {w : World} {K : Value → World → Prop} {d : Option Tmp} {ty : TypeId} {pos : String} {aft : Array Edge} {g : Option (Nat × Bool)}
variable {x y : Operand} {tx ty' : TypeId} {p q : Bool}
/-- A slice beside nil. -/
theorem O.eql_nil {oa : Option Addr} {n cap : Nat} {el : TypeId} (hu : ∀ w, (underlying tx).run C.P w = .ok (.slice el) w) (hx : ev e x = some (.slice oa n cap)) (hy : ev e y = some (.slice none 0 0)) (h : K (.bool oa.isNone) w) : O C e ⟨d, .binOp .eql tx x y ty', ty, pos, aft, g⟩ w K :=
  O.of_run (by simp) (fun a ha => by
    have key : ∀ dd, (Op.equalIn (dd + 1) tx (.slice oa n cap) (.slice none 0 0)).run C.P w = .ok oa.isNone w := fun dd => by cases oa <;> simp [Op.equalIn, hu w]
    have k2 : (Op.equal tx (.slice oa n cap) (.slice none 0 0)).run C.P w = .ok oa.isNone w := key 9999
    simp only [execOp, ha.eval hx, ha.eval hy, eqGuard, binOp]; simp [k2]) h
theorem O.eql_nil_s {v : Value} {n sz lo : Nat} {cs : List Value} {el : TypeId} (hu : ∀ w, (underlying tx).run C.P w = .ok (.slice el) w) (hx : ev e x = some v) (hy : ev e y = some (.slice none 0 0)) (hv : Sl lo w v n sz cs) (ht : n = 0 → K (.bool true) w) (hf : True → K (.bool false) w) :
    O C e ⟨d, .binOp .eql tx x y ty', ty, pos, aft, g⟩ w K := by
  obtain ⟨hl, oa, cap, rfl, hc, hm, hr⟩ := hv
  refine O.eql_nil hu hx hy ?_
  cases oa with
  | none => exact ht (by rcases hr with hr | ⟨a, h, _⟩; exact hr; cases h)
  | some a => exact hf trivial
end bools
/-- A struct or an array that lies in cells, and a slot. -/
theorem T.retAT {k : List It} {e : Env} {w : World} {P : Program} {fn : Func} {n m : Nat} {R : Value → World → Prop} {s s2 : Tmp} {t : TypeId} {ad : Addr} {cs : List Value} {v2 : Value} (hres : fn.results = #[.cell s t, .tmp s2]) (hg : ∀ w, (isAgg t).run P w = .ok true w) (hs : ∀ w, (sizeOf t).run P w = .ok m w) (hn : cs.length = m)
    (hv : look e s = some (.pointer (some ad))) (h2 : look e s2 = some v2) (hr : Row w ad cs) (h : R (.tuple #[.agg cs.toArray, v2]) w) : T (fnCx P fn n R) (.code .ret :: k) e w :=
  T.ret fun a ha => bodyPost_ret (v := .tuple #[.agg cs.toArray, v2]) (by
    subst hn
    have h1 := ha.sat.get s _ hv
    have e2 := ha.sat.get s2 _ h2
    simp [results, hres, Array.getD_eq_getD_getElem?, h1, e2, loadVar, asAddr, hg, hs, run_loadCells_list w ad cs hr]) ha.defers h
end Go.E
set_option linter.unusedVariables false
set_option linter.unusedSimpArgs false
set_option linter.unusedSectionVars false
set_option linter.unnecessarySimpa false
namespace Go.E
open Go.RowKit

/-- As 'ObK', with what is asked of the value beside the world ahead. -/
def ObX (C : Cx) (ops : Array Oper) (e : Env) (o : Oper) (f : Fact) (w : World) (X : Value → World → World → Prop) (J : World → Prop) : Prop :=
  (wantE ops e o = some true ∧ O C e o w (fun v w' => J w' ∧ f.holds v w' ∧ X v w w')) ∨ (wantE ops e o = some false ∧ f.holds undef w ∧ J w ∧ X undef w w)
/-- One goal an operation: of the chain, or not; 'X i' is what is asked of its value beside the world ahead of it. -/
def ObsX (C : Cx) (l : List Oper) (fs : List Fact) (e : Env) (Inv : Nat → World → Prop) (Rel : World → World → Prop) (X : Nat → Value → World → Prop) (Y : Nat → Env → Value → World → Prop) : Nat → List Oper → List Fact → List (List Nat) → List (Option Nat) → Prop
  | i, o :: os, f :: fr, ds :: dr, none :: ch => (∀ c w1, Inv c w1 → Bind w1 (depFacts l fs ds) (fun en => ObX C l.toArray (en ++ e) o f w1 (fun v w w' => X i v w ∧ Y i en v w') (fun w' => Rel w1 w' ∧ Inv c w'))) ∧ ObsX C l fs e Inv Rel X Y (i + 1) os fr dr ch
  | i, o :: os, f :: fr, ds :: dr, some p :: ch => (∀ w1, Inv p w1 → Bind w1 (depFacts l fs ds) (fun en => ObX C l.toArray (en ++ e) o f w1 (fun v w w' => X i v w ∧ Y i en v w') (fun w' => Rel w1 w' ∧ Inv (p + 1) w'))) ∧ ObsX C l fs e Inv Rel X Y (i + 1) os fr dr ch
  | _, _, _, _, _ => True
theorem obsX_at {C : Cx} {l : List Oper} {fs : List Fact} {e : Env} {Inv : Nat → World → Prop} {Rel : World → World → Prop} {X : Nat → Value → World → Prop} {Y : Nat → Env → Value → World → Prop} : ∀ {os : List Oper} {fr : List Fact} {dr : List (List Nat)} {ch : List (Option Nat)} {i0 : Nat}, ObsX C l fs e Inv Rel X Y i0 os fr dr ch → ∀ (i : Nat) (o : Oper) (f : Fact) (ds : List Nat) (q : Option Nat), os[i]? = some o → fr[i]? = some f → dr[i]? = some ds → ch[i]? = some q →
    ∀ c w1, Inv c w1 → (∀ p, q = some p → p = c) → Bind w1 (depFacts l fs ds) (fun en => ObX C l.toArray (en ++ e) o f w1 (fun v w w' => X (i0 + i) v w ∧ Y (i0 + i) en v w') (fun w' => Rel w1 w' ∧ Inv (match q with | some _ => c + 1 | none => c) w'))
  | o :: os, f :: fr, ds :: dr, none :: ch, i0, h, 0, o', f', ds', q, ho, hf, hd, hq => by
    simp at ho hf hd hq; subst ho hf hd hq; exact fun c w1 hI _ => h.1 c w1 hI
  | o :: os, f :: fr, ds :: dr, some p :: ch, i0, h, 0, o', f', ds', q, ho, hf, hd, hq => by
    simp at ho hf hd hq; subst ho hf hd hq
    intro c w1 hI hp
    obtain rfl := hp p rfl
    exact h.1 w1 hI
  | o :: os, f :: fr, ds :: dr, none :: ch, i0, h, i + 1, o', f', ds', q, ho, hf, hd, hq => by
    rw [show i0 + (i + 1) = i0 + 1 + i by omega]
    exact obsX_at h.2 i o' f' ds' q (by simpa using ho) (by simpa using hf) (by simpa using hd) (by simpa using hq)
  | o :: os, f :: fr, ds :: dr, some p :: ch, i0, h, i + 1, o', f', ds', q, ho, hf, hd, hq => by
    rw [show i0 + (i + 1) = i0 + 1 + i by omega]
    exact obsX_at h.2 i o' f' ds' q (by simpa using ho) (by simpa using hf) (by simpa using hd) (by simpa using hq)
  | [], _, _, _, _, _, i, _, _, _, _, ho, _, _, _ => by simp at ho
  | _ :: _, [], _, _, _, _, i, _, _, _, _, _, hf, _, _ => by simp at hf
  | _ :: _, _ :: _, [], _, _, _, i, _, _, _, _, _, _, hd, _ => by simp at hd
  | _ :: _, _ :: _, _ :: _, [], _, _, i, _, _, _, _, _, _, _, hq => by simp at hq

def Pairs (l : List Oper) (m : Nat) (P : Nat → Nat → Value → Value → World → Prop) (en : Env) (w : World) : Prop := ∀ (i j : Nat) (oi oj : Oper) (di : Tmp) (vi : Value), i < j → j < m → l[i]? = some oi → l[j]? = some oj → oi.dst = some di → look en di = some vi → ∃ vj, (∀ dj u, oj.dst = some dj → look en dj = some u → u = vj) ∧ P i j vi vj w
theorem look_left {en e : Env} {d : Nat} {v : Value} (h : look en d = some v) : look (en ++ e) d = some v := by
  induction en with
  | nil => cases h
  | cons p r ih =>
    obtain ⟨s, u⟩ := p
    simp only [List.cons_append, look] at h ⊢
    cases hq : s.beq d
    · rw [hq] at h; exact ih h
    · rw [hq] at h; exact h
theorem bind_of2 {w : World} {a : Act} {e : Env} : ∀ (fs : List (Option Tmp × Fact)) (K : Env → Prop), Bind w fs K → (∀ p ∈ fs, ∃ v, (∀ d, p.1 = some d → a.tmps[d]? = some v) ∧ p.2.holds v w) →
    ∃ en, K en ∧ (∀ i v, look (en ++ e) i = some v → a.tmps[i]? = some v ∨ (look e i = some v ∧ ∀ p ∈ fs, p.1 ≠ some i)) ∧ ∀ p ∈ fs, ∀ d, p.1 = some d → ∃ v, look en d = some v
  | [], K, h, _ => ⟨[], h, fun i v hi => .inr ⟨hi, fun p hp => by cases hp⟩, fun p hp => by cases hp⟩
  | (d, f) :: r, K, h, hp => by
    obtain ⟨v, hv, hh⟩ := hp _ (List.mem_cons_self ..)
    have hput : ∀ en : Env, (∀ i v, look (en ++ e) i = some v → a.tmps[i]? = some v ∨ (look e i = some v ∧ ∀ p ∈ r, p.1 ≠ some i)) →
        ∀ i u, look (putE d v en ++ e) i = some u → a.tmps[i]? = some u ∨ (look e i = some u ∧ ∀ p ∈ (d, f) :: r, p.1 ≠ some i) := fun en hen i u hi => by
      cases d with
      | none =>
        rcases hen i u hi with h1 | ⟨h1, h2⟩
        · exact .inl h1
        · refine .inr ⟨h1, fun p hp => ?_⟩
          rcases List.mem_cons.1 hp with rfl | hp
          · simp
          · exact h2 p hp
      | some d =>
        simp only [putE, List.cons_append, look] at hi
        by_cases hdi : d = i
        · subst hdi; simp at hi; subst hi; exact .inl (hv d rfl)
        · rw [nbeq_ne hdi] at hi
          rcases hen i u hi with h1 | ⟨h1, h2⟩
          · exact .inl h1
          · refine .inr ⟨h1, fun p hp => ?_⟩
            rcases List.mem_cons.1 hp with rfl | hp
            · simpa using hdi
            · exact h2 p hp
    have hsee : ∀ en : Env, (∀ p ∈ r, ∀ d, p.1 = some d → ∃ v, look en d = some v) → ∀ p ∈ (d, f) :: r, ∀ d', p.1 = some d' → ∃ u, look (putE d v en) d' = some u := fun en hen p hpp d' hd' => by
      cases d with
      | none =>
        rcases List.mem_cons.1 hpp with rfl | hpp
        · cases hd'
        · exact hen p hpp d' hd'
      | some d =>
        simp only [putE, look]
        by_cases hdd : d = d'
        · subst hdd; exact ⟨v, by simp⟩
        · rw [nbeq_ne hdd]
          rcases List.mem_cons.1 hpp with rfl | hpp
          · exact absurd (Option.some.inj hd') hdd
          · exact hen p hpp d' hd'
    cases f with
    | is u =>
      obtain rfl : v = u := hh
      obtain ⟨en, h1, h2, h3⟩ := bind_of2 r _ h (fun p hpr => hp p (List.mem_cons_of_mem _ hpr))
      exact ⟨_, h1, hput en h2, hsee en h3⟩
    | such φ =>
      obtain ⟨en, h1, h2, h3⟩ := bind_of2 r _ (h v hh) (fun p hpr => hp p (List.mem_cons_of_mem _ hpr))
      exact ⟨_, h1, hput en h2, hsee en h3⟩


section
variable {C : Cx} {k : List It} {l : List Oper} {m : Nat} {fs : List Fact} {e : Env} {w : World} {S : List Nat} {e' : Env} {Inv : Nat → World → Prop} {ch : List (Option Nat)}
structure UnderX (C : Cx) (l : List Oper) (m : Nat) (fs : List Fact) (e : Env) (Inv : Nat → World → Prop) (ch : List (Option Nat)) (len : Nat) (P : Nat → Nat → Value → Value → World → Prop) (listed : Array Bool) (a : Act) (w1 : World) : Prop where
  size : listed.size = l.length
  closed : ∀ (i : Nat) (o : Oper), l[i]? = some o → listed[i]? = some true → ∀ x ∈ o.after, Region.binds .any x = true → listed.getD x.on false = true
  inv : ∃ c : Nat, c ≤ len ∧ Inv c w1 ∧ ∀ j p : Nat, ch[j]? = some (some p) → (listed[j]? = some true ↔ p < c)
  defers : a.defers = C.D
  tsize : a.tmps.size = C.n
  base : ∀ (i : Nat) (v : Value), look e i = some v → (∀ (j : Nat) (o : Oper), j < m → l[j]? = some o → o.dst ≠ some i) → a.tmps[i]? = some v
  tail : ∀ j, m ≤ j → j < l.length → listed[j]? = some false
  done : ∀ (j : Nat) (o : Oper) (f : Fact), j < m → l[j]? = some o → fs[j]? = some f → listed[j]? = some true → ∃ v, (∀ d, o.dst = some d → a.tmps[d]? = some v) ∧ f.holds v w1
  pair : ∀ (i j : Nat) (oi oj : Oper), i < m → j < m → l[i]? = some oi → l[j]? = some oj → listed[i]? = some true → listed[j]? = some true → i < j → ∃ vi vj, (∀ d, oi.dst = some d → a.tmps[d]? = some vi) ∧ (∀ d, oj.dst = some d → a.tmps[d]? = some vj) ∧ P i j vi vj w1

theorem finX_of {P : Nat → Nat → Value → Value → World → Prop} {len : Nat} {listed : Array Bool} {a : Act} {w1 : World} (hlen : fs.length = m) (hml : m ≤ l.length) (hfin : ∀ w1, Inv len w1 → Bind w1 (depFacts l fs (List.range m)) (fun en => Pairs l m P en w1 → L C k l.toArray (l.drop m) (en ++ e) w1))
    (hch3 : ∀ q : Nat, q < len → ∃ j : Nat, j < m ∧ ch[j]? = some (some q))
    (hU : UnderX C l m fs e Inv ch len P listed a w1) (hall : ∀ j, j < m → listed[j]? = some true) : ∃ en, Fits C (en ++ e) a ∧ L C k l.toArray (l.drop m) (en ++ e) w1 := by
  obtain ⟨c, hcl2, hI, hcc⟩ := hU.inv
  have hclen : c = len := by
    rcases Nat.lt_or_ge c len with h | h
    · obtain ⟨j, hjm, hj⟩ := hch3 c h
      have := (hcc j c hj).1 (hall j hjm)
      omega
    · omega
  subst hclen
  obtain ⟨en, h1, h2⟩ := bind_of (a := a) (e := e) _ _ (hfin w1 hI) (fun p hp => by
    obtain ⟨j, o, hj, ho, hd, hf⟩ := mem_depFacts hp
    have hjm : j < m := by simpa using hj
    obtain ⟨v, hv1, hv2⟩ := hU.done j o p.2 hjm ho hf (hall j hjm)
    exact ⟨v, fun d hdd => hv1 d (by rw [hd]; exact hdd), hv2⟩)
  have hpairs : Pairs l m P en w1 := by
    intro i j oi oj di vi hij hj ho1 ho2 hd1 hv1
    have hlk : ∀ (q : Nat) (oq : Oper) (d : Tmp) (v : Value), q < m → l[q]? = some oq → oq.dst = some d → look en d = some v → a.tmps[d]? = some v := fun q oq d v hq hoq hdq hv => by
      rcases h2 d v (look_left hv) with h | ⟨_, h4⟩
      · exact h
      · have hf : fs[q]? = some (fs[q]'(by omega)) := List.getElem?_eq_getElem (by omega)
        exact absurd hdq (h4 _ (depFacts_mem hoq hf (by simpa using hq)))
    obtain ⟨ui, uj, h5, h6, h7⟩ := hU.pair i j oi oj (by omega) hj ho1 ho2 (hall i (by omega)) (hall j hj) hij
    have e1 := hlk i oi di vi (by omega) ho1 hd1 hv1
    rw [h5 di hd1] at e1; cases e1
    refine ⟨uj, fun dj u hd hu => ?_, h7⟩
    have e2 := hlk j oj dj u hj ho2 hd hu
    rw [h6 dj hd] at e2; cases e2; rfl
  refine ⟨en, ⟨⟨hU.tsize, fun i v hi => ?_⟩, hU.defers⟩, h1 hpairs⟩
  rcases h2 i v hi with h | ⟨h3, h4⟩
  · exact h
  · refine hU.base i v h3 (fun j o hj ho hd => ?_)
    have hf : fs[j]? = some (fs[j]'(by omega)) := List.getElem?_eq_getElem (by omega)
    exact h4 _ (depFacts_mem ho hf (by simpa using hj)) hd

theorem T.anyX {id : Nat} (hmix : C.P.follows .mixedOrders = true) (m len : Nat) (S : List Nat) (he : pickE e S = some e') (fs : List Fact) (ds : List (List Nat)) (ch : List (Option Nat)) (A : List (List Nat)) (Inv : Nat → World → Prop) (Rel : World → World → Prop) (X : Nat → Value → World → Prop) (Y : Nat → Env → Value → World → Prop) (P : Nat → Nat → Value → Value → World → Prop)
    (hPs : ∀ i j vi vj w w', Rel w w' → P i j vi vj w → P i j vi vj w')
    (hP1 : ∀ i j f vi vj w1 w2 en dd oi, i < j → fs[i]? = some f → f.holds vi w1 → X j vj w1 → Y j en vj w2 → ds[j]? = some dd → l[i]? = some oi → (i ∈ dd → ∀ di, oi.dst = some di → look en di = some vi) → P i j vi vj w2)
    (hP2 : ∀ i j f vi vj w1 w2, i < j → fs[j]? = some f → f.holds vj w1 → X i vi w1 → (∀ dd, ds[j]? = some dd → i ∉ dd) → P i j vi vj w2) (hA : ancOk l A = true) (hok : anyOk C.n l m ds S A = true) (hch : chainOkR A m ch len = true) (hlen : fs.length = m)
    (hst : StabR Rel fs) (h0 : Inv 0 w.drew) (hob : ObsX C l fs e' Inv Rel X Y 0 (l.take m) fs ds ch)
    (hfin : ∀ w1, Inv len w1 → Bind w1 (depFacts l fs (List.range m)) (fun en => Pairs l m P en w1 → L C k l.toArray (l.drop m) (en ++ e) w1)) :
    T C (.code (.region id l.toArray true) :: k) e w := by
  simp only [anyOk, Bool.and_eq_true, decide_eq_true_eq] at hok
  obtain ⟨⟨⟨⟨⟨⟨⟨hto, hml⟩, hdl⟩, hdst⟩, hdis⟩, hdep⟩, hS⟩, htl⟩ := hok
  simp only [chainOkR, Bool.and_eq_true, decide_eq_true_eq] at hch
  obtain ⟨⟨⟨hcl, hc1⟩, hc2⟩, hc3⟩ := hch
  have hto' : ∀ i o, l[i]? = some o → ∀ x ∈ o.after, Region.binds .any x = true → x.on < i := by
    intro i o ho x hx hb
    have h1 := List.all_eq_true.1 hto (o, i) (by rw [List.mem_zipIdx_iff_getElem?]; exact ho)
    have h2 := List.all_eq_true.1 h1 x (Array.mem_toList_iff.2 hx)
    simpa [hb] using h2
  have htl' : ∀ i, m ≤ i → i < l.length → ∀ j, j < i → wt A i j = true := by
    intro i hi hil j hj
    have h1 := List.all_eq_true.1 htl (l[i], i) (by rw [List.mem_zipIdx_iff_getElem?]; exact List.getElem?_eq_getElem hil)
    have h3 : ¬ i < m := by omega
    simp only [h3, decide_false, Bool.false_or] at h1
    exact List.all_eq_true.1 h1 j (by simpa using hj)
  have hdst' : ∀ (i : Nat) (o : Oper), l[i]? = some o → dstOk C.n o.dst = true := fun i o ho => List.all_eq_true.1 hdst o (List.mem_of_getElem? ho)
  have hdis' : ∀ (i j : Nat) (oi oj : Oper), i < m → j < m → i ≠ j → l[i]? = some oi → l[j]? = some oj → ∀ d, oi.dst = some d → oj.dst ≠ some d := by
    intro i j oi oj hi hj hne ho1 ho2 d hd1 hd2
    have h1 := List.all_eq_true.1 hdis j (by simpa using hj)
    have h2 := List.all_eq_true.1 h1 i (by simpa using hi)
    have hb : (i == j) = false := by simpa using hne
    simp [hb, ho1, ho2, hd1, hd2] at h2
  have hdep' : ∀ (i : Nat) (dd : List Nat), ds[i]? = some dd → ∀ j ∈ dd, j < m ∧ wt A i j = true := by
    intro i dd hd j hj
    have h1 := List.all_eq_true.1 hdep (dd, i) (by rw [List.mem_zipIdx_iff_getElem?]; exact hd)
    have h2 := List.all_eq_true.1 h1 j hj
    simpa using h2
  have hS' : ∀ s ∈ S, ∀ (j : Nat) (o : Oper), j < m → l[j]? = some o → o.dst ≠ some s := by
    intro s hs j o hj ho hd
    have h1 := List.all_eq_true.1 hS s hs
    simp only [Bool.not_eq_true', List.contains_eq_mem, decide_eq_false_iff_not] at h1
    exact h1 (List.mem_filterMap.2 ⟨j, by simpa using hj, by simp [ho, hd]⟩)
  have hchw : ∀ (i p : Nat) (o : Oper), ch[i]? = some (some p) → l[i]? = some o → p < len ∧ ∀ q, q < p → ∃ j, ch[j]? = some (some q) ∧ wt A i j = true := by
    intro i p o hp ho
    have hi : i < ch.length := (List.getElem?_eq_some_iff.1 hp).1
    have h1 := List.all_eq_true.1 hc1 i (by simpa using hi)
    simp only [hp, Bool.and_eq_true, decide_eq_true_eq] at h1
    refine ⟨h1.1, fun q hq => ?_⟩
    have h2 := List.all_eq_true.1 h1.2 q (by simp; omega)
    simp only [hq, decide_true, Bool.not_true, Bool.false_or] at h2
    obtain ⟨j, hj, h3⟩ := List.any_eq_true.1 h2
    simp only [Bool.and_eq_true, beq_iff_eq] at h3
    exact ⟨j, h3.1, h3.2⟩
  have hch1 : ∀ (i j p : Nat), ch[i]? = some (some p) → ch[j]? = some (some p) → i = j := by
    intro i j p hi hj
    have hil : i < ch.length := (List.getElem?_eq_some_iff.1 hi).1
    have hjl : j < ch.length := (List.getElem?_eq_some_iff.1 hj).1
    have h1 := List.all_eq_true.1 (List.all_eq_true.1 hc2 i (by simpa using hil)) j (by simpa using hjl)
    simp only [hi, hj, beq_self_eq_true, Bool.not_true, Bool.false_or, beq_iff_eq] at h1
    exact h1
  have hch3 : ∀ q : Nat, q < len → ∃ j : Nat, j < m ∧ ch[j]? = some (some q) := by
    intro q hq
    have h1 := List.all_eq_true.1 hc3 q (by simpa using hq)
    obtain ⟨j, hj1, hj⟩ := List.any_eq_true.1 h1
    exact ⟨j, by simpa [hcl] using hj1, by simpa using hj⟩
  intro a0 ha0
  show (Code.region id l.toArray true).wpIn _ _ _ _ _ _
  refine wpIn_region_any hmix ?_
  have hsz : l.toArray.size = l.length := by simp
  rw [hsz]
  have main : ∀ (fuel : Nat) (listed : Array Bool) (a : Act) (w1 : World), UnderX C l m fs e Inv ch len P listed a w1 → (∀ j, j < l.length → listed[j]? = some true ∨ listed[j]? = some false) → (listed.toList.filter (! ·)).length ≤ fuel →
      wpAnyIn (FW C.r) 0 C.P .any l.toArray (run C k) fuel listed a w1 := by
    intro fuel
    induction fuel with
    | zero =>
      intro listed a w1 hU htf hcnt
      have hall : ∀ j, j < l.length → listed[j]? = some true := by
        intro j hj
        rcases htf j hj with h | h
        · exact h
        · have hm : false ∈ listed.toList := List.mem_of_getElem? (i := j) (by simpa using h)
          have : false ∈ listed.toList.filter (! ·) := List.mem_filter.2 ⟨hm, rfl⟩
          rw [List.eq_nil_of_length_eq_zero (Nat.le_zero.1 hcnt)] at this
          cases this
      have hm : m = l.length := by
        rcases Nat.lt_or_ge m l.length with h | h
        · have h1 := hU.tail m (Nat.le_refl _) h
          rw [hall m h] at h1; cases h1
        · omega
      obtain ⟨en, hfit, hL⟩ := finX_of hlen hml hfin hch3 hU (fun j hj => hall j (by omega))
      exact tail_runsA hA htl' hto' 0 l.length listed a w1 (by omega) (by omega) (by rw [hU.size]) hall (fun j h1 h2 => by omega) (by rw [hm] at hL; exact hL a hfit) 0 (Nat.le_refl _)
    | succ fuel ih =>
      intro listed a w1 hU htf hcnt
      by_cases hall : ∀ j, j < m → listed[j]? = some true
      · obtain ⟨en, hfit, hL⟩ := finX_of hlen hml hfin hch3 hU hall
        have hcnt' : l.length - m ≤ fuel + 1 := by
          have := count_tailL listed.toList m (fun j h1 h2 => by have := hU.tail j h1 (by have := hU.size; simpa [this] using h2); simpa using this)
          have hsz' := hU.size
          simp at this
          omega
        exact tail_runsA hA htl' hto' (l.length - m) m listed a w1 (by omega) (Nat.le_refl _) (by rw [hU.size]) hall hU.tail (hL a hfit) (fuel + 1) hcnt'
      · refine ⟨fun h0 => ?_, fun i hi => ?_⟩
        · exfalso
          obtain ⟨j, hj1, hj2, hj3⟩ := least_open hall
          have hjl : j < l.length := by omega
          have hmem : j ∈ Region.ready .any l.toArray listed := by
            have hfalse : listed[j]? = some false := by (rcases htf j hjl with h | h; exact absurd h hj2; exact h)
            refine mem_ready.2 ⟨by rw [Array.getD_eq_getD_getElem?, hfalse]; rfl, l[j], by simp [hjl], ?_⟩
            intro x hx hb
            have := hto' j _ (List.getElem?_eq_getElem hjl) x hx hb
            rw [Array.getD_eq_getD_getElem?, hj3 _ this]; rfl
          rw [h0] at hmem; cases hmem
        · obtain ⟨h1, o, ho, hallx⟩ := mem_ready.1 hi
          have ho' : l[i]? = some o := by simpa using ho
          have hil : i < l.length := (List.getElem?_eq_some_iff.1 ho').1
          have him : i < m := by
            rcases Nat.lt_or_ge i m with h | h
            · exact h
            · exfalso
              obtain ⟨j, hj1, hj2, _⟩ := least_open hall
              exact hj2 (wt_listed hA hto' hU.size hU.closed i i o (Nat.le_refl _) ho' hallx j (htl' i h hil j (by omega)))
          obtain ⟨f, hfi⟩ : ∃ f, fs[i]? = some f := ⟨fs[i]'(by omega), List.getElem?_eq_getElem (by omega)⟩
          obtain ⟨dd, hdi⟩ : ∃ dd, ds[i]? = some dd := ⟨ds[i]'(by omega), List.getElem?_eq_getElem (by omega)⟩
          obtain ⟨q, hqi⟩ : ∃ q, ch[i]? = some q := ⟨ch[i]'(by omega), List.getElem?_eq_getElem (by omega)⟩
          obtain ⟨c, hcl2, hI, hcc⟩ := hU.inv
          have hli : ¬ listed[i]? = some true := fun h => by rw [Array.getD_eq_getD_getElem?, h] at h1; simp at h1
          have hpc : ∀ p, q = some p → p = c := by
            rintro p rfl
            have hge : ¬ p < c := fun h => hli ((hcc i p hqi).2 h)
            have hle : p ≤ c := Classical.byContradiction fun hn => by
              obtain ⟨j, hj, hw⟩ := (hchw i p o hqi ho').2 c (by omega)
              have := (hcc j c hj).1 (wt_listed hA hto' hU.size hU.closed i i o (Nat.le_refl _) ho' hallx j hw)
              omega
            omega
          have hB := obsX_at hob i o f dd q (by rw [List.getElem?_take, if_pos him]; exact ho') hfi hdi hqi c w1 hI hpc
          have hbase : Fits C e' a := ⟨⟨hU.tsize, fun s v hs => by
            obtain ⟨hs1, hs2⟩ := pickE_look he s v hs
            exact hU.base s v hs2 (fun j oj hj hoj => hS' s hs1 j oj hj hoj)⟩, hU.defers⟩
          obtain ⟨en, hOb, hlk, hsee⟩ := bind_of2 (a := a) (e := e') _ _ hB (fun p hp => by
            obtain ⟨j, oj, hj1, hj2, hj3, hj4⟩ := mem_depFacts hp
            obtain ⟨hjm, hjw⟩ := hdep' i dd hdi j hj1
            obtain ⟨v, hv1, hv2⟩ := hU.done j oj p.2 hjm hj2 hj4 (wt_listed hA hto' hU.size hU.closed i i o (Nat.le_refl _) ho' hallx j hjw)
            exact ⟨v, fun d hd => hv1 d (by rw [hj3]; exact hd), hv2⟩)
          have hfit : Fits C (en ++ e') a := ⟨⟨hU.tsize, fun s v hs => by
            rcases hlk s v hs with h | ⟨h, _⟩
            · exact h
            · exact hbase.sat.get s v h⟩, hU.defers⟩
          have hcnt' : ((listed.setIfInBounds i true).toList.filter (! ·)).length ≤ fuel := by
            have := count_set (listed := listed) (i := i) (by rcases htf i hil with h | h; exact absurd h hli; exact h)
            omega
          have htf' : ∀ j, j < l.length → (listed.setIfInBounds i true)[j]? = some true ∨ (listed.setIfInBounds i true)[j]? = some false := by
            intro j hj
            by_cases hji : i = j
            · subst hji; left; rw [Array.getElem?_setIfInBounds_self]; simp [hU.size, hil]
            · rw [Array.getElem?_setIfInBounds_ne hji]; exact htf j hj
          have hnext : ∀ v w2, Rel w1 w2 → Inv (match q with | some _ => c + 1 | none => c) w2 → f.holds v w2 → X (0 + i) v w1 ∧ Y (0 + i) en v w2 → UnderX C l m fs e Inv ch len P (listed.setIfInBounds i true) (a.put o.dst v) w2 := by
            intro v w2 hrel hx hh hX
            rw [Nat.zero_add] at hX
            refine ⟨by simpa using hU.size, ?_, ?_, ?_, ?_, ?_, ?_, ?_, ?_⟩
            · intro i2 o2 ho2 hl2 x hx2 hb2
              have hgx : listed.getD x.on false = true := by
                by_cases hii : i = i2
                · subst hii; rw [ho'] at ho2; cases ho2; exact hallx x hx2 hb2
                · rw [Array.getElem?_setIfInBounds_ne hii] at hl2; exact hU.closed i2 o2 ho2 hl2 x hx2 hb2
              have hgx' := getD_true hgx
              rw [Array.getD_eq_getD_getElem?]
              by_cases hxi : i = x.on
              · rw [← hxi, Array.getElem?_setIfInBounds_self]; simp [hU.size, hil]
              · rw [Array.getElem?_setIfInBounds_ne hxi, hgx']; rfl
            · refine ⟨_, ?_, hx, fun j p hj => ?_⟩
              · cases q with
                | none => exact hcl2
                | some p => have := hpc p rfl; have := (hchw i p o hqi ho').1; show c + 1 ≤ len; omega
              · by_cases hji : i = j
                · subst hji
                  rw [hqi] at hj; cases hj
                  have := hpc p rfl
                  rw [Array.getElem?_setIfInBounds_self]
                  simp only [hU.size, hil, if_true, true_iff]
                  omega
                · rw [Array.getElem?_setIfInBounds_ne hji, hcc j p hj]
                  cases q with
                  | none => exact Iff.rfl
                  | some p2 =>
                    have h3 := hpc p2 rfl
                    have hne : p ≠ p2 := fun e => hji (hch1 i j p2 hqi (e ▸ hj))
                    show p < c ↔ p < c + 1
                    omega
            · cases o.dst <;> exact hU.defers
            · cases o.dst <;> simp [Act.put, hU.tsize]
            · intro s u hs hno
              have h0 := hU.base s u hs hno
              cases hd : o.dst with
              | none => exact h0
              | some d =>
                have hne : d ≠ s := fun e => hno i o him ho' (by rw [hd, e])
                simp only [Act.put]
                rw [Array.getElem?_setIfInBounds_ne hne]; exact h0
            · intro j hj hjl
              rw [Array.getElem?_setIfInBounds_ne (by omega)]; exact hU.tail j hj hjl
            · intro j oj fj hj hoj hfj hlj
              by_cases hji : i = j
              · subst hji
                rw [ho'] at hoj; cases hoj
                rw [hfi] at hfj; cases hfj
                refine ⟨v, fun d hd => ?_, hh⟩
                have hlt := hdst' i o ho'
                rw [hd] at hlt
                have hlt' : d < C.n := by simpa [dstOk, Nat.blt_eq] using hlt
                rw [hd]
                simp only [Act.put]
                rw [Array.getElem?_setIfInBounds_self]; simp [hU.tsize, hlt']
              · rw [Array.getElem?_setIfInBounds_ne hji] at hlj
                obtain ⟨u, hu1, hu2⟩ := hU.done j oj fj hj hoj hfj hlj
                refine ⟨u, fun d hd => ?_, stabR_at hst j fj hfj _ _ _ hrel hu2⟩
                have := hu1 d hd
                cases hod : o.dst with
                | none => exact this
                | some d' =>
                  have hne : d' ≠ d := fun e => hdis' i j o oj him hj hji ho' hoj d' hod (by rw [hd, e])
                  simp only [Act.put]
                  rw [Array.getElem?_setIfInBounds_ne hne]; exact this
            · intro i2 j2 oi oj hi2 hj2 ho1 ho2 hl1 hl2 hij
              have hltd : ∀ d, o.dst = some d → d < C.n := fun d hd => by
                have hlt := hdst' i o ho'
                rw [hd] at hlt
                simpa [dstOk, Nat.blt_eq] using hlt
              have hnew : ∀ d, o.dst = some d → (a.put o.dst v).tmps[d]? = some v := fun d hd => by
                rw [hd]; simp only [Act.put]
                rw [Array.getElem?_setIfInBounds_self]; simp [hU.tsize, hltd d hd]
              have hold : ∀ (q : Nat) (oq : Oper) (d : Tmp), q < m → i ≠ q → l[q]? = some oq → oq.dst = some d → (a.put o.dst v).tmps[d]? = a.tmps[d]? := fun q oq d hq hne hoq hdq => by
                cases hod : o.dst with
                | none => rfl
                | some d' =>
                  have hne2 : d' ≠ d := fun e => hdis' i q o oq him hq hne ho' hoq d' hod (by rw [hdq, e])
                  simp only [Act.put]
                  rw [Array.getElem?_setIfInBounds_ne hne2]
              by_cases h1 : i = i2
              · subst h1
                rw [ho'] at ho1; cases ho1
                have hne : i ≠ j2 := by omega
                rw [Array.getElem?_setIfInBounds_ne hne] at hl2
                have hfj : fs[j2]? = some (fs[j2]'(by omega)) := List.getElem?_eq_getElem (by omega)
                obtain ⟨u, hu1, hu2⟩ := hU.done j2 oj _ hj2 ho2 hfj hl2
                refine ⟨v, u, hnew, fun d hd => by rw [hold j2 oj d hj2 hne ho2 hd]; exact hu1 d hd, hP2 i j2 _ v u w1 w2 hij hfj hu2 hX.1 fun dd' hdd' hmem => ?_⟩
                exact hli (wt_listed hA hto' hU.size hU.closed j2 j2 oj (Nat.le_refl _) ho2 (hU.closed j2 oj ho2 hl2) i (hdep' j2 dd' hdd' i hmem).2)
              · by_cases h2 : i = j2
                · subst h2
                  rw [ho'] at ho2; cases ho2
                  rw [Array.getElem?_setIfInBounds_ne h1] at hl1
                  have hfj : fs[i2]? = some (fs[i2]'(by omega)) := List.getElem?_eq_getElem (by omega)
                  obtain ⟨u, hu1, hu2⟩ := hU.done i2 oi _ hi2 ho1 hfj hl1
                  refine ⟨u, v, fun d hd => by rw [hold i2 oi d hi2 h1 ho1 hd]; exact hu1 d hd, hnew, hP1 i2 i _ u v w1 w2 en dd oi hij hfj hu2 hX.1 hX.2 hdi ho1 fun hmem di hdi2 => ?_⟩
                  have hpm := depFacts_mem ho1 hfj hmem
                  obtain ⟨u', hu'⟩ := hsee _ hpm di hdi2
                  rcases hlk di u' (look_left hu') with h5 | ⟨_, h5⟩
                  · rw [hu1 di hdi2] at h5; cases h5; exact hu'
                  · exact absurd hdi2 (h5 _ hpm)
                · rw [Array.getElem?_setIfInBounds_ne h1] at hl1
                  rw [Array.getElem?_setIfInBounds_ne h2] at hl2
                  obtain ⟨vi, vj, e1, e2, e3⟩ := hU.pair i2 j2 oi oj hi2 hj2 ho1 ho2 hl1 hl2 hij
                  exact ⟨vi, vj, fun d hd => by rw [hold i2 oi d hi2 h1 ho1 hd]; exact e1 d hd, fun d hd => by rw [hold j2 oj d hj2 h2 ho2 hd]; exact e2 d hd, hPs _ _ _ _ _ _ hrel e3⟩
          unfold wpOpIn
          simp only [ho]
          rcases hOb with ⟨hw, hO⟩ | ⟨hw, hu, hJ, hXu⟩
          · rw [if_pos (wanted_of hfit hw)]
            exact hO a hfit _ _ (fun v w2 ⟨hx, hh, hX⟩ => ih _ _ _ (hnext v w2 hx.1 hx.2 hh hX) htf' hcnt')
          · rw [if_neg (by rw [wanted_of hfit hw]; simp)]
            exact ⟨fun _ _ => trivial, ih _ _ _ (hnext undef w1 hJ.1 hJ.2 hu hXu) htf' hcnt'⟩
  refine main l.length (Array.replicate l.length false) a0 _ ⟨by simp, fun i o ho hl => ?_, ⟨0, Nat.zero_le _, h0, fun j p hj => ?_⟩, ha0.defers, ha0.sat.size, fun i v hi _ => ha0.sat.get i v hi, fun j _ hj => by simp [hj], fun j o f _ hj _ hl => ?_, fun i j oi oj _ _ ho1 _ hl1 _ _ => ?_⟩ (fun j hj => by right; simp [hj]) ?_
  · have hil := (List.getElem?_eq_some_iff.1 ho).1
    simp [hil] at hl
  · have hjl : j < l.length := by have := (List.getElem?_eq_some_iff.1 hj).1; omega
    simp [hjl]
  · have hjl := (List.getElem?_eq_some_iff.1 hj).1
    simp [hjl] at hl
  · have hjl := (List.getElem?_eq_some_iff.1 ho1).1
    simp [hjl] at hl1
  · simp

/-- What is asked of values that hold new blocks, and what is known of each two of them. -/
def FreshX (M : List Nat) (i : Nat) (v : Value) (w : World) : Prop := match M.contains i with
  | true => ∀ b, v.ownBlock = some b → w.heap.size ≤ b
  | false => True
def FreshP (M : List Nat) (i j : Nat) (vi vj : Value) : Prop := match M.contains i && M.contains j with
  | true => ∀ b, vi.ownBlock = some b → vj.ownBlock = some b → False
  | false => True
/-- What an operation says of the value of another one that it leans on: 'LT' lists (operation, the other one, its slot). -/
def LinkY (LT : List (Nat × Nat × Nat)) (Lk : Nat → Nat → Value → Value → World → Prop) (j : Nat) (en : Env) (v : Value) (w : World) : Prop := match LT.find? (fun t => t.1 == j) with
  | some (_, i, d) => ∀ u, look en d = some u → Lk i j u v w
  | none => True
def LinkP (LT : List (Nat × Nat × Nat)) (Lk : Nat → Nat → Value → Value → World → Prop) (i j : Nat) (vi vj : Value) (w : World) : Prop := match LT.find? (fun t => t.1 == j) with
  | some (_, i', _) => i = i' → Lk i j vi vj w
  | none => True
def linkOk (l : List Oper) (ds : List (List Nat)) (LT : List (Nat × Nat × Nat)) : Bool := LT.all fun t => (match ds[t.1]? with | some dd => dd.contains t.2.1 | none => false) && ((l[t.2.1]?).bind (·.dst) == some t.2.2)
theorem and3 {P Q R : Prop} (h : P ∧ Q) (r : R) : P ∧ Q ∧ R := ⟨h.1, h.2, r⟩
theorem ObX.op {C : Cx} {ops : Array Oper} {e : Env} {o : Oper} {f : Fact} {w : World} {X : Value → World → World → Prop} {J : World → Prop} (hw : wantE ops e o = some true) (h : O C e o w (fun v w' => J w' ∧ f.holds v w' ∧ X v w w')) : ObX C ops e o f w X J := .inl ⟨hw, h⟩
end
end Go.E
set_option linter.unusedVariables false
set_option linter.unusedSimpArgs false
set_option linter.unusedSectionVars false
set_option linter.unnecessarySimpa false
namespace Go.E
open Go.RowKit
/-- The block of a pointer. -/
def ptrBlk : Value → Option Nat
  | .pointer (some a) => some a.block
  | _ => none
section
variable {C : Cx} {k : List It} {l : List Oper} {m : Nat} {fs : List Fact} {e : Env} {w : World} {S : List Nat} {e' : Env} {Inv : Nat → World → Prop} {ch : List (Option Nat)}
/-- What is asked of values that hold new blocks, and what is known of each two of them. -/
def FreshX2 (M : List Nat) (i : Nat) (v : Value) (w : World) : Prop := match M.contains i with
  | true => ∀ b, (ptrBlk v) = some b → w.heap.size ≤ b
  | false => True
def FreshP2 (M : List Nat) (i j : Nat) (vi vj : Value) : Prop := match M.contains i && M.contains j with
  | true => ∀ b, (ptrBlk vi) = some b → (ptrBlk vj) = some b → False
  | false => True
/-- The values of 'M' hold different new blocks; what operations say of others ('LT'). -/
theorem T.anyF2 {id : Nat} (hmix : C.P.follows .mixedOrders = true) (m len : Nat) (S : List Nat) (he : pickE e S = some e') (fs : List Fact) (ds : List (List Nat)) (ch : List (Option Nat)) (A : List (List Nat)) (M : List Nat) (LT : List (Nat × Nat × Nat)) (Lk : Nat → Nat → Value → Value → World → Prop) (Inv : Nat → World → Prop) (Rel : World → World → Prop)
    (hM : ∀ i f v w, M.contains i = true → fs[i]? = some f → f.holds v w → ∀ b, (ptrBlk v) = some b → b < w.heap.size) (hLs : ∀ i j vi vj w w', Rel w w' → Lk i j vi vj w → Lk i j vi vj w')
    (hA : ancOk l A = true) (hok : anyOk C.n l m ds S A = true) (hch : chainOkR A m ch len = true) (hlk : linkOk l ds LT = true) (hlen : fs.length = m)
    (hst : StabR Rel fs) (h0 : Inv 0 w.drew) (hob : ObsX C l fs e' Inv Rel (FreshX2 M) (LinkY LT Lk) 0 (l.take m) fs ds ch)
    (hfin : ∀ w1, Inv len w1 → Bind w1 (depFacts l fs (List.range m)) (fun en => Pairs l m (fun i j vi vj w => FreshP2 M i j vi vj ∧ LinkP LT Lk i j vi vj w) en w1 → L C k l.toArray (l.drop m) (en ++ e) w1)) :
    T C (.code (.region id l.toArray true) :: k) e w := by
  have hlt : ∀ t ∈ LT, (∃ dd, ds[t.1]? = some dd ∧ t.2.1 ∈ dd) ∧ ∃ o, l[t.2.1]? = some o ∧ o.dst = some t.2.2 := fun t ht => by
    have h1 := List.all_eq_true.1 hlk t ht
    simp only [Bool.and_eq_true, beq_iff_eq] at h1
    obtain ⟨h2, h3⟩ := h1
    refine ⟨?_, ?_⟩
    · cases hq : ds[t.1]? with
      | none => simp [hq] at h2
      | some dd => simp only [hq] at h2; exact ⟨dd, rfl, by simpa using h2⟩
    · cases hq : l[t.2.1]? with
      | none => simp [hq] at h3
      | some o => simp only [hq, Option.bind_some] at h3; exact ⟨o, rfl, h3⟩
  refine T.anyX hmix m len S he fs ds ch A Inv Rel (FreshX2 M) (LinkY LT Lk) (fun i j vi vj w => FreshP2 M i j vi vj ∧ LinkP LT Lk i j vi vj w) ?_ ?_ ?_ hA hok hch hlen hst h0 hob hfin
  · rintro i j vi vj w w' hr ⟨h1, h2⟩
    refine ⟨h1, ?_⟩
    unfold LinkP at h2 ⊢
    split
    · rename_i hq; rw [hq] at h2; exact fun e => hLs _ _ _ _ _ _ hr (h2 e)
    · trivial
  · intro i j f vi vj w1 w2 en dd oi hij hf hh hX hY hdd hoi hin
    refine ⟨?_, ?_⟩
    · unfold FreshP2
      cases hc : (M.contains i && M.contains j)
      · trivial
      · intro b h1 h2
        simp only [Bool.and_eq_true] at hc
        unfold FreshX2 at hX
        rw [hc.2] at hX
        have h3 := hM i f vi w1 hc.1 hf hh b h1
        have h4 : w1.heap.size ≤ b := hX b h2
        omega
    · unfold LinkP
      unfold LinkY at hY
      split
      · rename_i t i' d hq
        rw [hq] at hY
        rintro rfl
        have hm := List.mem_of_find?_eq_some hq
        have hj : t = j := by have := List.find?_some hq; simpa using this
        subst hj
        obtain ⟨⟨dd', hd1, hd2⟩, o, ho1, ho2⟩ := hlt _ hm
        simp only at hd1 hd2 ho1 ho2
        rw [hdd] at hd1; cases hd1
        rw [hoi] at ho1; cases ho1
        exact hY vi (hin hd2 d ho2)
      · trivial
  · intro i j f vi vj w1 w2 hij hf hh hX hno
    refine ⟨?_, ?_⟩
    · unfold FreshP2
      cases hc : (M.contains i && M.contains j)
      · trivial
      · intro b h1 h2
        simp only [Bool.and_eq_true] at hc
        unfold FreshX2 at hX
        rw [hc.1] at hX
        have h3 := hM j f vj w1 hc.2 hf hh b h2
        have h4 : w1.heap.size ≤ b := hX b h1
        omega
    · unfold LinkP
      split
      · rename_i t i' d hq
        rintro rfl
        have hm := List.mem_of_find?_eq_some hq
        have hj : t = j := by have := List.find?_some hq; simpa using this
        subst hj
        obtain ⟨⟨dd', hd1, hd2⟩, _⟩ := hlt _ hm
        exact absurd hd2 (hno dd' hd1)
      · trivial
end
end Go.E
set_option linter.unusedVariables false
set_option linter.unusedSimpArgs false
set_option linter.unusedSectionVars false
namespace Go.E
open Go.RowKit
/-- A call that surely panics, with this value. -/
def Pan (v : Value) (R : World → Prop) : Ending → World → Prop
  | .panicked ch, w => ch = [{ v := v, recovered := false }] ∧ R w
  | _, _ => False
abbrev fnCxP (P : Program) (fn : Func) (n : Nat) (v : Value) (R : World → Prop) : Cx := { P := P, r := none, n := n, D := [], Q := bodyPost P fn (Pan v R) }
section
variable {C : Cx} {k : List It} {e : Env} {w : World} {d : Option Tmp} {ty : TypeId} {pos : String} {aft : Array Edge} {g : Option (Nat × Bool)} {ops : Array Oper} {rest : List Oper}
theorem run_panic : ∀ {k : List It} ch a w, C.Q (.panic ch) a w → run C k (.panic ch) a w
  | [], _, _, _, h => h
  | .blk _ :: k, ch, a, w, h => run_panic (k := k) ch a w h
  | .code _ :: k, ch, a, w, h => run_panic (k := k) ch a w h
  | .hook _ :: k, ch, a, w, h => run_panic (k := k) ch a w h
theorem T.enterP {P : Program} {f : FuncId} {fn : Func} {c : Code} {vs : List Value} {w : World} {v : Value} {R : World → Prop} {n : Nat} (hf : P.funcs[f]? = some fn) (hb : fn.body = some c) (hn : fn.ntmps = n) (hle : Nat.ble vs.length n = true)
    (h : T (fnCxP P fn n v R) [.code c] (argEnv 0 vs) w) : Calls P f vs.toArray w (Pan v R) := by
  refine (callsIn_wide (n := 0)).1 (callsIn_of_wp hf hb trivial ?_ rfl)
  have hle' : vs.length ≤ n := by simpa [Nat.ble_eq] using hle
  refine h _ ⟨⟨by simp [hn]; omega, fun i v hi => ?_⟩, rfl⟩
  obtain ⟨_, h2⟩ := look_argEnv vs 0 i v hi
  have hlt : i < vs.length := by
    rcases Nat.lt_or_ge i vs.length with h' | h'
    · exact h'
    · rw [Nat.sub_zero, List.getElem?_eq_none h'] at h2; cases h2
  rw [Array.getElem?_append_left (by simpa using hlt)]
  simpa using h2
/-- The operation 'panic'. -/
theorem L.panic {x : Operand} {t : TypeId} {u : Value} (hw : wantE ops e ⟨d, .panic x, ty, pos, aft, g⟩ = some true) (hx : ev e x = some (.iface t u)) (h : ∀ a, Fits C e a → C.Q (.panic [{ v := .iface t u, recovered := false }]) a w) :
    L C k ops (⟨d, .panic x, ty, pos, aft, g⟩ :: rest) e w := fun a ha => by
  unfold wpListIn
  rw [wanted_of ha hw, if_pos rfl]
  refine ⟨fun _ _ => trivial, ?_⟩
  rw [Oper.semAt_eq _ _ _ (by simp)]
  have hr : (execOp a.eval ⟨d, .panic x, ty, pos, aft, g⟩).run C.P w = .halt (.panic (.iface t u)) w := by
    simp [execOp, Instr.panic, ha.eval hx, goPanic]
  rw [hr]
  exact run_panic _ a w (h a ha)
theorem L.panicP {P : Program} {fn : Func} {n : Nat} {R : World → Prop} {x : Operand} {t : TypeId} {u : Value} (hw : wantE ops e ⟨d, .panic x, ty, pos, aft, g⟩ = some true) (hx : ev e x = some (.iface t u)) (h : R w) : L (fnCxP P fn n (.iface t u) R) k ops (⟨d, .panic x, ty, pos, aft, g⟩ :: rest) e w :=
  L.panic hw hx fun a ha => ⟨ha.defers, rfl, h⟩
/-- A call that surely panics. -/
theorem L.callPan {f : FuncId} {fi ca : Array Value} {xs : List Operand} {vs : List Value} {tys : Array TypeId} {fo : Operand} {v : Value} {R : World → Prop} (hw : wantE ops e ⟨d, .call { callee := .value fo, args := xs.toArray, argTypes := tys }, ty, pos, aft, g⟩ = some true)
    (hcl : ∀ args w, (callFunc f args).run C.P w = .ok (.enter f args) w) (hf : ev e fo = some (.func (.func f) fi ca)) (hx : evs e xs = some vs) (hc : Calls C.P f (fi ++ vs.toArray ++ ca) w (Pan v R)) (h : ∀ w' a, R w' → Fits C e a → C.Q (.panic [{ v := v, recovered := false }]) a w') :
    L C k ops (⟨d, .call { callee := .value fo, args := xs.toArray, argTypes := tys }, ty, pos, aft, g⟩ :: rest) e w := fun a ha => by
  unfold wpListIn
  rw [wanted_of ha hw, if_pos rfl]
  refine ⟨fun _ _ => trivial, ?_⟩
  rw [Oper.semAt_eq _ _ _ (by simp)]
  have hrun : (execOp a.eval ⟨d, .call { callee := .value fo, args := xs.toArray, argTypes := tys }, ty, pos, aft, g⟩).run C.P w = .ok (.enter f (fi ++ vs.toArray ++ ca)) w := by
    simp [execOp, resolve, Deferred.ofValue, invoke, ha.eval hf, ha.sat.evals hx, hcl]
  rw [hrun]
  refine ⟨by simp, CallsIn.of_calls ?_⟩
  refine hc.mono ?_
  intro en w' hr
  cases en with
  | returned v => exact hr.elim
  | panicked c => obtain ⟨rfl, hR⟩ := hr; exact run_panic _ a w' (h w' a hR ha)
  | outgrown => exact hr.elim
/-! ### Deferred calls -/
/-- A frame that may hold deferred calls. -/
abbrev fnCxD (P : Program) (fn : Func) (n : Nat) (D : List Deferred) (R : Value → World → Prop) : Cx := { P := P, r := none, n := n, D := D, Q := bodyPostDIn (FW none) 0 P fn (Ret R) }
theorem T.enterD {P : Program} {f : FuncId} {fn : Func} {c : Code} {vs : List Value} {w : World} {R : Value → World → Prop} {n : Nat} (hf : P.funcs[f]? = some fn) (hb : fn.body = some c) (hn : fn.ntmps = n) (hle : Nat.ble vs.length n = true)
    (h : T (fnCxD P fn n [] R) [.code c] (argEnv 0 vs) w) : Calls P f vs.toArray w (Ret R) := by
  refine (callsIn_wide (n := 0)).1 (callsIn_of_wp_defers hf hb trivial ?_ rfl)
  have hle' : vs.length ≤ n := by simpa [Nat.ble_eq] using hle
  refine h _ ⟨⟨by simp [hn]; omega, fun i v hi => ?_⟩, rfl⟩
  obtain ⟨_, h2⟩ := look_argEnv vs 0 i v hi
  have hlt : i < vs.length := by
    rcases Nat.lt_or_ge i vs.length with h' | h'
    · exact h'
    · rw [Nat.sub_zero, List.getElem?_eq_none h'] at h2; cases h2
  rw [Array.getElem?_append_left (by simpa using hlt)]
  simpa using h2
theorem L.defer {P : Program} {fn : Func} {n : Nat} {D : List Deferred} {R : Value → World → Prop} {f : FuncId} {ca : Array Value} {tys : Array TypeId} {fo : Operand} (hw : wantE ops e ⟨none, .defer { callee := .value fo, args := #[], argTypes := tys }, ty, pos, aft, g⟩ = some true)
    (hf : ev e fo = some (.func (.func f) #[] ca)) (h : L (fnCxD P fn n ({ target := .fn (.func f) ca, args := #[] } :: D) R) k ops rest e w) :
    L (fnCxD P fn n D R) k ops (⟨none, .defer { callee := .value fo, args := #[], argTypes := tys }, ty, pos, aft, g⟩ :: rest) e w := fun a ha => by
  unfold wpListIn
  rw [wanted_of ha hw, if_pos rfl]
  refine ⟨fun _ _ => trivial, ?_⟩
  rw [show (FW (fnCxD P fn n D R).r).round = none from rfl, Oper.semAt_none]
  have hrun : (execOp a.eval ⟨none, .defer { callee := .value fo, args := #[], argTypes := tys }, ty, pos, aft, g⟩).run P w = .ok (.defer { target := .fn (.func f) ca, args := #[] }) w := by
    simp [execOp, resolve, Deferred.ofValue, ha.eval hf]
  rw [hrun]
  have h2 := h { a with defers := { target := .fn (.func f) ca, args := #[] } :: a.defers } ⟨⟨ha.sat.size, ha.sat.get⟩, by rw [ha.defers]⟩
  rw [show run (fnCxD P fn n ({ target := .fn (.func f) ca, args := #[] } :: D) R) k = run (fnCxD P fn n D R) k from run_withD (fnCxD P fn n D R) _ k] at h2
  exact h2
/-- Left with one deferred call, which comes back: the frame was returning, or panicking and was recovered. -/
theorem leaves_one {P : Program} {fn : Func} {tmps : Array Value} {R : Value → World → Prop} {f : FuncId} {ca : Array Value} {u u' : FrameMode} {R' : World → Prop} {v : Value} {w : World} (hu : u ≠ .run) (hcl : ∀ args w, (callFunc f args).run P w = .ok (.enter f args) w)
    (hc : CallsDIn (FW none) 0 P f ca u w fun e m w' => (∃ x, e = .returned x) ∧ m = u' ∧ R' w') (hs : settle u' = .returning) (h : ∀ w', R' w' → (results fn tmps).run P w' = .ok v w' ∧ R v w') :
    LeavesIn (FW none) 0 P fn tmps (Ret R) [{ target := .fn (.func f) ca, args := #[] }] u w := by
  refine leavesIn_cons hu (by simp) (f := f) (args := ca) (by simp [invoke, hcl]) (fun _ _ => trivial) ?_
  refine hc.mono ?_
  rintro en m w' ⟨⟨x, rfl⟩, rfl, hR⟩
  show LeavesIn (FW none) 0 P fn tmps (Ret R) [] (settle m) w'
  rw [hs]
  obtain ⟨h1, h2⟩ := h w' hR
  exact ⟨v, h1, h2⟩
end
end Go.E
set_option linter.unusedVariables false
set_option linter.unusedSimpArgs false
set_option linter.unusedSectionVars false
namespace Go.E
open Go.RowKit
section
variable {C : Cx} {k : List It} {e : Env} {w : World} {K : Value → World → Prop} {d : Option Tmp} {ty : TypeId} {pos : String} {aft : Array Edge} {g : Option (Nat × Bool)}
/-- AN ITERATOR'S CONTRACT: its steps ('Next': from a state, by a value, to a state), from 's0' to 'sE'; what it leans on in every world ('Inv'); the blocks that a round must keep from the start ('S0'). -/
def SeqCB (P : Program) (gf : FuncId) (fi lb : Array Value) {σ : Type} (Next : σ → Value → σ → Prop) (s0 sE : σ) (Inv : World → Prop) (S0 : Nat → Prop) (Pre : World → Prop) : Prop :=
  ∀ (l : Nat) (J : σ → (Nat → Prop) → World → Prop) (X : World → Prop) (W : World), Stab J → (∀ i S W, J i S W → Inv W) →
    (∀ i v j S W, Next i v j → J i S W → Yld P l #[v] W fun u W' => (u = .bool true ∧ J j S W' ∧ ∀ k, S k → W'.heap[k]? = W.heap[k]?) ∨ (u = .bool false ∧ X W')) →
    J s0 S0 W → Pre W → Calls P gf (fi ++ #[.func (.yield l) #[] #[]] ++ lb) W (Ret fun _ W' => (∃ S, (∀ k, S0 k → S k) ∧ J sE S W') ∨ X W')

theorem T.rangeFuncB {σ : Type} (I : σ → (Nat → Prop) → World → Prop) (X : Code → (Nat → Prop) → World → Prop) {g : Operand} {p : Tmp} {assign body : Code} {gf : FuncId} {fi lb : Array Value} {Next : σ → Value → σ → Prop} {s0 sE : σ}
    {Inv : World → Prop} {S0 : Nat → Prop} {Pre : World → Prop} {e1 : Value → Nat → Env} (A : Value → Nat → World → Prop) (hr : C.r = none) (hg : ev e g = some (.func (.func gf) fi lb)) (hcl : ∀ args w, (callFunc gf args).run C.P w = .ok (.enter gf args) w) (hp : dstOk C.n (some p) = true)
    (hseq : SeqCB C.P gf fi lb Next s0 sE Inv S0 Pre) (hI : Stab I) (hX : ∀ c S W W' b, X c S W → S b → Upd b W W' → X c S W') (hInv : ∀ i S W, I i S W → Inv W) (h0 : I s0 S0 w) (hS0 : ∀ k, S0 k → k < w.heap.size) (hPre : ∀ W, Ext w W → Pre W)
    (hA : ∀ v x W W' b, A v x W → b ≠ x → Upd b W W' → A v x W')
    (hassign : ∀ (l : Nat) (Q : Exit → Act → World → Prop) (i j : σ) (v : Value) (k : List It) (W : World), Next i v j → (∀ x W', W.heap.size ≤ x → Ext W W' → A v x W' → T (rCx C l Q) k (e1 v x) W') → T (rCx C l Q) (.code assign :: k) ((p, v) :: e) W)
    (hbody : ∀ (l : Nat) (i : σ) (v : Value) (x : Nat) (j : σ) (S : Nat → Prop) (W : World), Next i v j → I i S W → A v x W → (¬ S x ∧ w.heap.size ≤ x ∧ ∃ (W0 W1 : World) (r : Nat), I i S W0 ∧ W0.heap.size ≤ x ∧ Ext W0 W1 ∧ Upd r W1 W ∧ S r) → T (rCx C l (RQ I X j S W)) [.code body] (e1 v x) W)
    (hdone : ∀ (S : Nat → Prop) (D : Nat) (W : World), D = w.heap.size → (∀ k, S0 k → S k) → S D → I sE S W → W.heap[D]? = some (.deferred (some [])) → T { C with D := { target := .collected D, args := #[] } :: C.D } k e W)
    (hstop : ∀ (c : Code) (S : Nat → Prop) (D : Nat) (W : World), D = w.heap.size → S D → X c S W → W.heap[D]? = some (.deferred (some [])) → T { C with D := { target := .collected D, args := #[] } :: C.D } (.code c :: k) e W) :
    T C (.code (.rangeFunc g #[p] assign body) :: k) e w := fun a ha => by
  have hrunD : ∀ (D : List Deferred) (k : List It), run { C with D := D } k = run C k := by
    intro D k
    induction k with
    | nil => rfl
    | cons it k ih => cases it <;> simp only [run, ih]
  show (Code.rangeFunc g #[p] assign body).wpIn _ _ _ _ _ _
  refine wpIn_rangeFunc ?_
  intro fn hfn
  rw [show (FW C.r).round = none from hr]
  obtain ⟨rec, hrec⟩ : ∃ rec : LoopState → Option Code → Loop, rec = fun st pe => { state := st, pending := pe, fn, tmps := a.tmps, params := #[p], assign, body, defers := w.heap.size } := ⟨_, rfl⟩
  obtain ⟨W1, hW1⟩ : ∃ W1, (w.alloc (.deferred (some []))).alloc (.loop (rec .ready none)) = W1 := ⟨_, rfl⟩
  have hL1 : W1.heap[w.heap.size + 1]? = some (.loop (rec .ready none)) := by
    rw [← hW1]; have := World.alloc_heap_new (w.alloc (.deferred (some []))) (.loop (rec .ready none)); rwa [World.size_alloc] at this
  have hK1 : W1.heap[w.heap.size]? = some (.deferred (some [])) := by
    rw [← hW1]; exact (Below.heap_alloc _ _ _ (by simp)).trans (World.alloc_heap_new w _)
  have he1 : Ext w W1 := by rw [← hW1]; exact (Keep.alloc 0 w _).trans (Keep.alloc 0 _ _)
  have hz1 : W1.heap.size = w.heap.size + 2 := by rw [← hW1]; simp
  let Up (S : Nat → Prop) : Nat → Prop := fun k => S k ∨ k = w.heap.size ∨ k = w.heap.size + 1
  refine ⟨w.heap.size + 1, [{ target := .collected w.heap.size, args := #[] }], W1, { target := .fn (.func gf) lb, args := fi ++ #[.func (.yield (w.heap.size + 1)) #[] #[]] }, W1, gf,
    fi ++ #[.func (.yield (w.heap.size + 1)) #[] #[]] ++ lb, W1, ?_, ?_, fun _ _ => trivial, ?_, by simp, CallsIn.of_calls ?_⟩
  · rw [← hW1, hrec]; exact run_enterLoop_outer _ _ _ _ _
  · simp only [resolve, ha.eval hg]
    simp [go_sem]
  · simp [invoke, go_sem, hcl]
  · let J : σ → (Nat → Prop) → World → Prop := fun i S W => I i (Up S) W ∧ (¬ S w.heap.size ∧ ¬ S (w.heap.size + 1)) ∧ (∀ k, S k → k < W.heap.size) ∧ W.heap[w.heap.size + 1]? = some (.loop (rec .ready none)) ∧ W.heap[w.heap.size]? = some (.deferred (some []))
    let X' : World → Prop := fun W => ∃ c S, X c (Up S) W ∧ W.heap[w.heap.size + 1]? = some (.loop (rec .done (some c))) ∧ W.heap[w.heap.size]? = some (.deferred (some []))
    have hJ : Stab J := by
      refine ⟨?_, ?_⟩
      · rintro i S S' W W' ⟨h1, ⟨hn1, hn2⟩, hSb, hl, hk⟩ he hS
        have hlt := (Array.getElem?_eq_some_iff.1 hl).1
        refine ⟨hI.1 i _ _ W W' h1 he ?_, ⟨?_, ?_⟩, fun k hk => (hS k hk).elim (fun h => Nat.lt_of_lt_of_le (hSb k h) he.size) (fun h => h.2), (he.block _ (Nat.zero_le _) hlt).trans hl, (he.block _ (Nat.zero_le _) (by omega)).trans hk⟩
        · rintro k (h | h)
          · exact (hS k h).imp .inl id
          · exact .inl (.inr h)
        · intro h; rcases hS _ h with h | h
          · exact hn1 h
          · omega
        · intro h; rcases hS _ h with h | h
          · exact hn2 h
          · omega
      · rintro i S W W' b ⟨h1, ⟨hn1, hn2⟩, hSb, hl, hk⟩ hb hu
        refine ⟨hI.2 i _ W W' b h1 (.inl hb) hu, ⟨hn1, hn2⟩, fun k hk => by rw [hu.size]; exact hSb k hk, (hu.block _ ?_).trans hl, (hu.block _ ?_).trans hk⟩
        · rintro rfl; exact hn2 hb
        · rintro rfl; exact hn1 hb
    refine (hseq (w.heap.size + 1) J X' W1 hJ (fun i S W h => hInv i _ W h.1) ?_ ⟨hI.1 _ _ _ w W1 h0 he1 ?_, ⟨fun h => by have := hS0 _ h; omega, fun h => by have := hS0 _ h; omega⟩, fun k hk => by have := hS0 k hk; omega, hL1, hK1⟩ (hPre _ he1)).mono ?_
    · rintro i v j S W hn ⟨hi, hnS, hSb, hl, hk⟩
      have hlt : w.heap.size + 1 < W.heap.size := (Array.getElem?_eq_some_iff.1 hl).1
      have hy := run_yield (P := C.P) (args := #[v]) hl (by rw [hrec]; rfl)
      have hy2 : (Instr.yield (w.heap.size + 1) #[v]).run C.P W = .ok (.round (w.heap.size + 1) fn (a.tmps.setIfInBounds p v) assign body) W := by
        rw [hy, hrec]; simp
      refine ⟨fn, _, assign, body, hy2, ?_⟩
      have hsat : Sat C.n ((p, v) :: e) { tmps := a.tmps.setIfInBounds p v, defers := [] } := Sat.round (D := a.defers) ha.sat hp
      have hrun := hassign (w.heap.size + 1) (fun _ _ _ => False) i j v [.hook (fun a' W' => ∃ x, W.heap.size ≤ x ∧ Ext W W' ∧ A v x W' ∧ Sat C.n (e1 v x) a' ∧ a'.defers = [])] W hn (fun x W' hx he hA a' ha' => ⟨x, hx, he, hA, ha'.sat, ha'.defers⟩) _ ⟨hsat, rfl⟩
      refine roundIn_of_wpIn trivial ?_
      refine wpIn_mono hrun ?_
      rintro ex a' W' hx
      cases ex with
      | normal =>
        obtain ⟨x, hxs, heW, hAx, hs', hd'⟩ := hx
        have hi' := hI.1 i _ (Up S) _ _ hi heW (fun k hk => .inl hk)
        have hl' := (heW.block _ (Nat.zero_le _) hlt).trans hl
        have hk' := (heW.block _ (Nat.zero_le _) (by omega : w.heap.size < W.heap.size)).trans hk
        have hlt' : w.heap.size + 1 < W'.heap.size := (Array.getElem?_eq_some_iff.1 hl').1
        refine ⟨_, run_beginRound hl' (by rw [hrec]), ?_⟩
        have hl2 : (W'.putObj (w.heap.size + 1) (.loop { rec .ready none with state := .busy })).heap[w.heap.size + 1]? = some (.loop { rec .ready none with state := .busy }) := World.putObj_heap_same hlt'
        have hk2 : (W'.putObj (w.heap.size + 1) (.loop { rec .ready none with state := .busy })).heap[w.heap.size]? = some (.deferred (some [])) := (World.putObj_heap_other (by omega)).trans hk'
        have hu2 := upd_putObj W' (w.heap.size + 1) (.loop { rec .ready none with state := .busy })
        have hi2 := hI.2 i _ _ _ _ hi' (.inr (.inr rfl)) hu2
        have hb := hbody (w.heap.size + 1) i v x j (Up S) _ hn hi2 (hA _ _ _ _ _ hAx (by omega) hu2) ⟨fun h => by rcases h with h | h | h; (have := hSb x h; omega); omega; omega, by omega, W, W', _, hi, hxs, heW, hu2, .inr (.inr rfl)⟩
        refine wpIn_mono (hb a' ⟨hs', hd'⟩) ?_
        have fin : ∀ (jump : Option Code) (W3 : World), (∀ k, Up S k → W3.heap[k]? = (W'.putObj (w.heap.size + 1) (.loop { rec .ready none with state := .busy })).heap[k]?) →
            (Instr.endRound (w.heap.size + 1) jump).run C.P W3 = .ok (.bool jump.isNone) (W3.putObj (w.heap.size + 1) (.loop (rec (if jump.isNone then .ready else .done) jump))) ∧
            (W3.putObj (w.heap.size + 1) (.loop (rec (if jump.isNone then .ready else .done) jump))).heap[w.heap.size + 1]? = some (.loop (rec (if jump.isNone then .ready else .done) jump)) ∧
            (W3.putObj (w.heap.size + 1) (.loop (rec (if jump.isNone then .ready else .done) jump))).heap[w.heap.size]? = some (.deferred (some [])) ∧
            (∀ k, S k → (W3.putObj (w.heap.size + 1) (.loop (rec (if jump.isNone then .ready else .done) jump))).heap[k]? = W'.heap[k]?) := fun jump W3 hk3 => by
          have hl3 := (hk3 _ (.inr (.inr rfl))).trans hl2
          have := run_endRound (P := C.P) jump hl3
          have hk4 := (hk3 _ (.inr (.inl rfl))).trans hk2
          refine ⟨by rw [hrec] at this ⊢; exact this, World.putObj_heap_same (Array.getElem?_eq_some_iff.1 hl3).1, (World.putObj_heap_other (by omega)).trans hk4, fun k hk => ?_⟩
          have hne : k ≠ w.heap.size + 1 := by rintro rfl; exact hnS.2 hk
          rw [World.putObj_heap_other hne, hk3 k (.inl hk), World.putObj_heap_other hne]
        rintro ex a3 W3 hp3
        cases ex with
        | normal =>
          obtain ⟨hi3, hk3⟩ := hp3
          obtain ⟨hr3, hl4, hk4, hS4⟩ := fin none W3 hk3
          refine ⟨_, _, hr3, .inl ⟨rfl, ⟨hI.2 _ _ _ _ _ hi3 (.inr (.inr rfl)) (upd_putObj _ _ _), hnS, fun k hk => ?_, hl4, hk4⟩, fun k hk => ?_⟩⟩
          · have hlt3 := Nat.lt_of_lt_of_le (hSb k hk) heW.size
            have h := hS4 k hk
            rw [Array.getElem?_eq_getElem hlt3] at h
            exact (Array.getElem?_eq_some_iff.1 h).1
          rw [hS4 k hk]
          exact heW.block k (Nat.zero_le _) (hSb k hk)
        | ret =>
          obtain ⟨hi3, hk3⟩ := hp3
          obtain ⟨hr3, hl4, hk4, _⟩ := fin (some .ret) W3 hk3
          exact ⟨_, _, hr3, .inr ⟨rfl, .ret, S, hX _ _ _ _ _ hi3 (.inr (.inr rfl)) (upd_putObj _ _ _), hl4, hk4⟩⟩
        | exit id =>
          obtain ⟨hi3, hk3⟩ := hp3
          obtain ⟨hr3, hl4, hk4, _⟩ := fin (some (.exit id)) W3 hk3
          exact ⟨_, _, hr3, .inr ⟨rfl, .exit id, S, hX _ _ _ _ _ hi3 (.inr (.inr rfl)) (upd_putObj _ _ _), hl4, hk4⟩⟩
        | goto t => exact hp3.elim
        | panic ch => exact hp3.elim
        | outgrown => exact hp3.elim
      | ret => exact hx.elim
      | exit id => exact hx.elim
      | goto t => exact hx.elim
      | panic ch => exact hx.elim
      | outgrown => exact hx.elim
    · rintro k (h | h)
      · exact .inl h
      · exact .inr (by omega)
    · rintro en W2 hq
      cases en with
      | panicked c => exact hq.elim
      | outgrown => exact hq.elim
      | returned v =>
        have hfits : ∀ D, D = w.heap.size → Fits { C with D := { target := .collected D, args := #[] } :: C.D } e { a with defers := [{ target := .collected w.heap.size, args := #[] }] ++ a.defers } := by
          rintro D rfl
          exact ⟨⟨ha.sat.size, ha.sat.get⟩, by show _ ++ a.defers = _; rw [ha.defers]; rfl⟩
        rcases hq with ⟨S, hS, hi, hnS, _, hl, hk⟩ | ⟨c, S, hi, hl, hk⟩
        · refine ⟨none, _, by have := run_endLoop (P := C.P) hl (by rw [hrec]; simp); rw [hrec] at this; exact this, ?_⟩
          have := hdone (Up S) _ _ rfl (fun k h => .inl (hS k h)) (.inr (.inl rfl)) (hI.2 _ _ _ _ _ hi (.inr (.inr rfl)) (upd_putObj _ (w.heap.size + 1) (.loop { rec .ready none with state := .exhausted }))) ((World.putObj_heap_other (by omega)).trans hk) _ (hfits _ rfl)
          rw [hrunD] at this
          rw [hrec] at this
          exact this
        · refine ⟨some c, _, by have := run_endLoop (P := C.P) hl (by rw [hrec]; simp); rw [hrec] at this; exact this, ?_⟩
          have := hstop c (Up S) _ _ rfl (.inr (.inl rfl)) (hX _ _ _ _ _ hi (.inr (.inr rfl)) (upd_putObj _ (w.heap.size + 1) (.loop { rec .done (some c) with state := .exhausted }))) ((World.putObj_heap_other (by omega)).trans hk) _ (hfits _ rfl)
          have h2 : run { C with D := { target := .collected w.heap.size, args := #[] } :: C.D } (.code c :: k) = run C (.code c :: k) := hrunD _ _
          rw [h2] at this
          rw [hrec] at this
          exact this
theorem T.rangeFuncMB {P : Program} {fn : Func} {n : Nat} {R : Value → World → Prop} {ds : List Nat} {σ : Type} (I : σ → (Nat → Prop) → World → Prop) (X : Code → (Nat → Prop) → World → Prop) {g : Operand} {p : Tmp} {assign body : Code} {gf : FuncId} {fi lb : Array Value} {Next : σ → Value → σ → Prop} {s0 sE : σ}
    {Inv : World → Prop} {S0 : Nat → Prop} {Pre : World → Prop} {e1 : Value → Nat → Env} (A : Value → Nat → World → Prop) (hg : ev e g = some (.func (.func gf) fi lb)) (hcl : ∀ args w, (callFunc gf args).run P w = .ok (.enter gf args) w) (hp : dstOk n (some p) = true)
    (hseq : SeqCB P gf fi lb Next s0 sE Inv S0 Pre) (hI : Stab I) (hX : ∀ c S W W' b, X c S W → S b → Upd b W W' → X c S W') (hInv : ∀ i S W, I i S W → Inv W) (h0 : I s0 S0 w) (hS0 : ∀ k, S0 k → k < w.heap.size) (hPre : ∀ W, Ext w W → Pre W)
    (hA : ∀ v x W W' b, A v x W → b ≠ x → Upd b W W' → A v x W')
    (hassign : ∀ (l : Nat) (Q : Exit → Act → World → Prop) (i j : σ) (v : Value) (k : List It) (W : World), Next i v j → (∀ x W', W.heap.size ≤ x → Ext W W' → A v x W' → T (rCx (fnCxM P fn n (coll ds) R) l Q) k (e1 v x) W') → T (rCx (fnCxM P fn n (coll ds) R) l Q) (.code assign :: k) ((p, v) :: e) W)
    (hbody : ∀ (l : Nat) (i : σ) (v : Value) (x : Nat) (j : σ) (S : Nat → Prop) (W : World), Next i v j → I i S W → A v x W → (¬ S x ∧ w.heap.size ≤ x ∧ ∃ (W0 W1 : World) (r : Nat), I i S W0 ∧ W0.heap.size ≤ x ∧ Ext W0 W1 ∧ Upd r W1 W ∧ S r) → T (rCx (fnCxM P fn n (coll ds) R) l (RQ I X j S W)) [.code body] (e1 v x) W)
    (hdone : ∀ (S : Nat → Prop) (D : Nat) (W : World), D = w.heap.size → (∀ k, S0 k → S k) → S D → I sE S W → W.heap[D]? = some (.deferred (some [])) → T (fnCxM P fn n (coll (D :: ds)) R) k e W)
    (hstop : ∀ (c : Code) (S : Nat → Prop) (D : Nat) (W : World), D = w.heap.size → S D → X c S W → W.heap[D]? = some (.deferred (some [])) → T (fnCxM P fn n (coll (D :: ds)) R) (.code c :: k) e W) :
    T (fnCxM P fn n (coll ds) R) (.code (.rangeFunc g #[p] assign body) :: k) e w :=
  T.rangeFuncB (C := fnCxM P fn n (coll ds) R) I X A rfl hg hcl hp hseq hI hX hInv h0 hS0 hPre hA hassign hbody hdone hstop

end
end Go.E
set_option linter.unusedVariables false
set_option linter.unusedSimpArgs false
set_option linter.unusedSectionVars false
namespace Go.E
open Go.RowKit
section
variable {P : Program} {b : Frame} {a : Act} {k : List Item} {cs : List Frame} {w : World}
theorem stepR_scope {c : Code} : step P (lone (b.atR a (.code (.scope c) :: k)) cs w) = .next (lone (b.atR a (.code c :: .inScope c :: k)) cs w) :=
  step_lone_go (by simp [stepG, stepG.exec, Frame.atR])
theorem stepR_inScope {c : Code} : step P (lone (b.atR a (.inScope c :: k)) cs w) = .next (lone (b.atR a k) cs w) :=
  step_lone_go (by simp [stepG, stepG.exec, Frame.atR])
end
theorem wpIn_scope {F : Fence} {n : Nat} {P : Program} {Q : Exit → Act → World → Prop} {a : Act} {w : World} {c : Code} (h : c.wpIn F n P (Exit.noGoto Q) a w) : (Code.scope c).wpIn F n P Q a w := by
  intro b k cs hro hb hr
  have h0 : (lone (b.atR a (.code (.scope c) :: k)) cs w).fenced P F := fenced_calm hb hr rfl
  obtain ⟨e, a₁, w₁, hq, harr⟩ := h b (.inScope c :: k) cs hro hb hr
  cases e with
  | normal => exact ⟨.normal, a₁, w₁, hq, .head h0 stepR_scope (StepsIn.trans harr (.one (fenced_calm hb hr rfl) stepR_inScope))⟩
  | exit id =>
    have hx : exitTo id (.inScope c :: k) = exitTo id k := by simp [exitTo]
    exact ⟨.exit id, a₁, w₁, hq, fun k' hk => .head h0 stepR_scope (harr.1 k' (by rw [hx]; exact hk)),
      fun hr' hk => let ⟨k₁, h1, h2⟩ := harr.2 hr' (by rw [hx]; exact hk); ⟨k₁, h1, .head h0 stepR_scope h2⟩⟩
  | goto l => exact hq.elim
  | ret => exact ⟨_, a₁, w₁, hq, .of_steps (.one h0 stepR_scope) harr⟩
  | panic ch => exact ⟨_, a₁, w₁, hq, .of_steps (.one h0 stepR_scope) harr⟩
  | outgrown => exact ⟨_, a₁, w₁, hq, .of_steps (.one h0 stepR_scope) harr⟩
theorem run_goto {C : Cx} {l : Nat} : ∀ {k : List It} a w, run C k (.goto l) a w → C.Q (.goto l) a w
  | [], _, _, h => h
  | .blk _ :: k, a, w, h => run_goto (k := k) a w h
  | .code _ :: k, a, w, h => run_goto (k := k) a w h
  | .hook _ :: k, a, w, h => run_goto (k := k) a w h
theorem T.scope {C : Cx} {k : List It} {e : Env} {w : World} {c : Code} (hQ : ∀ l a w, ¬ C.Q (.goto l) a w) (h : T C (.code c :: k) e w) : T C (.code (.scope c) :: k) e w := fun a ha => by
  show (Code.scope c).wpIn _ _ _ _ _ _
  refine wpIn_scope (wpIn_mono (h a ha) ?_)
  intro ex a w hx
  cases ex with
  | goto l => exact hQ l a w (run_goto (k := k) a w hx)
  | normal => exact hx
  | exit id => exact hx
  | ret => exact hx
  | panic ch => exact hx
  | outgrown => exact hx
end Go.E
set_option linter.unusedVariables false
set_option linter.unusedSimpArgs false
set_option linter.unusedSectionVars false
set_option linter.unnecessarySimpa false
namespace Go.E
open Go.RowKit
/-- An operation that surely panics. -/
def PanO (C : Cx) (k : List It) (e : Env) (o : Oper) (w : World) : Prop := ∀ a, Fits C e a → ∀ next, o.wpIn (FW C.r) 0 C.P a w next (run C k)
def ObKP (C : Cx) (k : List It) (ops : Array Oper) (e : Env) (o : Oper) (f : Fact) (w : World) (J : World → Prop) : Prop := ObK C ops e o f w J ∨ (wantE ops e o = some true ∧ PanO C k e o w)
section
variable {C : Cx} {k : List It} {ops : Array Oper} {e : Env} {o : Oper} {f : Fact} {w : World} {J : World → Prop} {d : Option Tmp} {ty : TypeId} {pos : String} {aft : Array Edge} {g : Option (Nat × Bool)}
theorem ObKP.op (hw : wantE ops e o = some true) (h : O C e o w (fun v w' => J w' ∧ f.holds v w')) : ObKP C k ops e o f w J := .inl (ObK.op hw h)
theorem ObKP.pan (hw : wantE ops e o = some true) (h : PanO C k e o w) : ObKP C k ops e o f w J := .inr ⟨hw, h⟩
theorem PanO.call {f : FuncId} {fi ca : Array Value} {xs : List Operand} {vs : List Value} {tys : Array TypeId} {fo : Operand} {v : Value} {R : World → Prop}
    (hcl : ∀ args w, (callFunc f args).run C.P w = .ok (.enter f args) w) (hf : ev e fo = some (.func (.func f) fi ca)) (hx : evs e xs = some vs) (hc : Calls C.P f (fi ++ vs.toArray ++ ca) w (Pan v R)) (h : ∀ w' a, R w' → Fits C e a → C.Q (.panic [{ v := v, recovered := false }]) a w') :
    PanO C k e ⟨d, .call { callee := .value fo, args := xs.toArray, argTypes := tys }, ty, pos, aft, g⟩ w := fun a ha next => by
  refine ⟨fun _ _ => trivial, ?_⟩
  rw [Oper.semAt_eq _ _ _ (by simp)]
  have hrun : (execOp a.eval ⟨d, .call { callee := .value fo, args := xs.toArray, argTypes := tys }, ty, pos, aft, g⟩).run C.P w = .ok (.enter f (fi ++ vs.toArray ++ ca)) w := by
    simp [execOp, resolve, Deferred.ofValue, invoke, ha.eval hf, ha.sat.evals hx, hcl]
  rw [hrun]
  refine ⟨by simp, CallsIn.of_calls ?_⟩
  refine hc.mono ?_
  intro en w' hr
  cases en with
  | returned v => exact hr.elim
  | panicked c => obtain ⟨rfl, hR⟩ := hr; exact run_panic _ a w' (h w' a hR ha)
  | outgrown => exact hr.elim
theorem T.end_any {e : Env} {w : World} (h : ∀ a, Fits C e a → C.Q .normal a w) : T C [] e w := h
end
/-- One goal an operation: of the chain, or not. -/
def ObsP (C : Cx) (k : List It) (l : List Oper) (fs : List Fact) (e : Env) (Inv : Nat → World → Prop) (Rel : World → World → Prop) : List Oper → List Fact → List (List Nat) → List (Option Nat) → Prop
  | o :: os, f :: fr, ds :: dr, none :: ch => (∀ c w1, Inv c w1 → Bind w1 (depFacts l fs ds) (fun en => ObKP C k l.toArray (en ++ e) o f w1 (fun w' => Rel w1 w' ∧ Inv c w'))) ∧ ObsP C k l fs e Inv Rel os fr dr ch
  | o :: os, f :: fr, ds :: dr, some p :: ch => (∀ w1, Inv p w1 → Bind w1 (depFacts l fs ds) (fun en => ObKP C k l.toArray (en ++ e) o f w1 (fun w' => Rel w1 w' ∧ Inv (p + 1) w'))) ∧ ObsP C k l fs e Inv Rel os fr dr ch
  | _, _, _, _ => True
theorem obsP_at {C : Cx} {k : List It} {l : List Oper} {fs : List Fact} {e : Env} {Inv : Nat → World → Prop} {Rel : World → World → Prop} : ∀ {os : List Oper} {fr : List Fact} {dr : List (List Nat)} {ch : List (Option Nat)}, ObsP C k l fs e Inv Rel os fr dr ch → ∀ (i : Nat) (o : Oper) (f : Fact) (ds : List Nat) (q : Option Nat), os[i]? = some o → fr[i]? = some f → dr[i]? = some ds → ch[i]? = some q →
    ∀ c w1, Inv c w1 → (∀ p, q = some p → p = c) → Bind w1 (depFacts l fs ds) (fun en => ObKP C k l.toArray (en ++ e) o f w1 (fun w' => Rel w1 w' ∧ Inv (match q with | some _ => c + 1 | none => c) w'))
  | o :: os, f :: fr, ds :: dr, none :: ch, h, 0, o', f', ds', q, ho, hf, hd, hq => by
    simp at ho hf hd hq; subst ho hf hd hq; exact fun c w1 hI _ => h.1 c w1 hI
  | o :: os, f :: fr, ds :: dr, some p :: ch, h, 0, o', f', ds', q, ho, hf, hd, hq => by
    simp at ho hf hd hq; subst ho hf hd hq
    intro c w1 hI hp
    obtain rfl := hp p rfl
    exact h.1 w1 hI
  | o :: os, f :: fr, ds :: dr, none :: ch, h, i + 1, o', f', ds', q, ho, hf, hd, hq => obsP_at h.2 i o' f' ds' q (by simpa using ho) (by simpa using hf) (by simpa using hd) (by simpa using hq)
  | o :: os, f :: fr, ds :: dr, some p :: ch, h, i + 1, o', f', ds', q, ho, hf, hd, hq => obsP_at h.2 i o' f' ds' q (by simpa using ho) (by simpa using hf) (by simpa using hd) (by simpa using hq)
  | [], _, _, _, _, i, _, _, _, _, ho, _, _, _ => by simp at ho
  | _ :: _, [], _, _, _, i, _, _, _, _, _, hf, _, _ => by simp at hf
  | _ :: _, _ :: _, [], _, _, i, _, _, _, _, _, _, hd, _ => by simp at hd
  | _ :: _, _ :: _, _ :: _, [], _, i, _, _, _, _, _, _, _, hq => by simp at hq

section
variable {C : Cx} {k : List It} {l : List Oper} {m : Nat} {fs : List Fact} {e : Env} {w : World} {S : List Nat} {e' : Env} {Inv : Nat → World → Prop} {ch : List (Option Nat)}
theorem T.anyP {id : Nat} (hmix : C.P.follows .mixedOrders = true) (m len : Nat) (S : List Nat) (he : pickE e S = some e') (fs : List Fact) (ds : List (List Nat)) (ch : List (Option Nat)) (A : List (List Nat)) (Inv : Nat → World → Prop) (Rel : World → World → Prop) (hA : ancOk l A = true) (hok : anyOk C.n l m ds S A = true) (hch : chainOkR A m ch len = true) (hlen : fs.length = m)
    (hst : StabR Rel fs) (h0 : Inv 0 w.drew) (hob : ObsP C k l fs e' Inv Rel (l.take m) fs ds ch)
    (hfin : ∀ w1, Inv len w1 → Bind w1 (depFacts l fs (List.range m)) (fun en => L C k l.toArray (l.drop m) (en ++ e) w1)) :
    T C (.code (.region id l.toArray true) :: k) e w := by
  simp only [anyOk, Bool.and_eq_true, decide_eq_true_eq] at hok
  obtain ⟨⟨⟨⟨⟨⟨⟨hto, hml⟩, hdl⟩, hdst⟩, hdis⟩, hdep⟩, hS⟩, htl⟩ := hok
  simp only [chainOkR, Bool.and_eq_true, decide_eq_true_eq] at hch
  obtain ⟨⟨⟨hcl, hc1⟩, hc2⟩, hc3⟩ := hch
  have hto' : ∀ i o, l[i]? = some o → ∀ x ∈ o.after, Region.binds .any x = true → x.on < i := by
    intro i o ho x hx hb
    have h1 := List.all_eq_true.1 hto (o, i) (by rw [List.mem_zipIdx_iff_getElem?]; exact ho)
    have h2 := List.all_eq_true.1 h1 x (Array.mem_toList_iff.2 hx)
    simpa [hb] using h2
  have htl' : ∀ i, m ≤ i → i < l.length → ∀ j, j < i → wt A i j = true := by
    intro i hi hil j hj
    have h1 := List.all_eq_true.1 htl (l[i], i) (by rw [List.mem_zipIdx_iff_getElem?]; exact List.getElem?_eq_getElem hil)
    have h3 : ¬ i < m := by omega
    simp only [h3, decide_false, Bool.false_or] at h1
    exact List.all_eq_true.1 h1 j (by simpa using hj)
  have hdst' : ∀ (i : Nat) (o : Oper), l[i]? = some o → dstOk C.n o.dst = true := fun i o ho => List.all_eq_true.1 hdst o (List.mem_of_getElem? ho)
  have hdis' : ∀ (i j : Nat) (oi oj : Oper), i < m → j < m → i ≠ j → l[i]? = some oi → l[j]? = some oj → ∀ d, oi.dst = some d → oj.dst ≠ some d := by
    intro i j oi oj hi hj hne ho1 ho2 d hd1 hd2
    have h1 := List.all_eq_true.1 hdis j (by simpa using hj)
    have h2 := List.all_eq_true.1 h1 i (by simpa using hi)
    have hb : (i == j) = false := by simpa using hne
    simp [hb, ho1, ho2, hd1, hd2] at h2
  have hdep' : ∀ (i : Nat) (dd : List Nat), ds[i]? = some dd → ∀ j ∈ dd, j < m ∧ wt A i j = true := by
    intro i dd hd j hj
    have h1 := List.all_eq_true.1 hdep (dd, i) (by rw [List.mem_zipIdx_iff_getElem?]; exact hd)
    have h2 := List.all_eq_true.1 h1 j hj
    simpa using h2
  have hS' : ∀ s ∈ S, ∀ (j : Nat) (o : Oper), j < m → l[j]? = some o → o.dst ≠ some s := by
    intro s hs j o hj ho hd
    have h1 := List.all_eq_true.1 hS s hs
    simp only [Bool.not_eq_true', List.contains_eq_mem, decide_eq_false_iff_not] at h1
    exact h1 (List.mem_filterMap.2 ⟨j, by simpa using hj, by simp [ho, hd]⟩)
  have hchw : ∀ (i p : Nat) (o : Oper), ch[i]? = some (some p) → l[i]? = some o → p < len ∧ ∀ q, q < p → ∃ j, ch[j]? = some (some q) ∧ wt A i j = true := by
    intro i p o hp ho
    have hi : i < ch.length := (List.getElem?_eq_some_iff.1 hp).1
    have h1 := List.all_eq_true.1 hc1 i (by simpa using hi)
    simp only [hp, Bool.and_eq_true, decide_eq_true_eq] at h1
    refine ⟨h1.1, fun q hq => ?_⟩
    have h2 := List.all_eq_true.1 h1.2 q (by simp; omega)
    simp only [hq, decide_true, Bool.not_true, Bool.false_or] at h2
    obtain ⟨j, hj, h3⟩ := List.any_eq_true.1 h2
    simp only [Bool.and_eq_true, beq_iff_eq] at h3
    exact ⟨j, h3.1, h3.2⟩
  have hch1 : ∀ (i j p : Nat), ch[i]? = some (some p) → ch[j]? = some (some p) → i = j := by
    intro i j p hi hj
    have hil : i < ch.length := (List.getElem?_eq_some_iff.1 hi).1
    have hjl : j < ch.length := (List.getElem?_eq_some_iff.1 hj).1
    have h1 := List.all_eq_true.1 (List.all_eq_true.1 hc2 i (by simpa using hil)) j (by simpa using hjl)
    simp only [hi, hj, beq_self_eq_true, Bool.not_true, Bool.false_or, beq_iff_eq] at h1
    exact h1
  have hch3 : ∀ q : Nat, q < len → ∃ j : Nat, j < m ∧ ch[j]? = some (some q) := by
    intro q hq
    have h1 := List.all_eq_true.1 hc3 q (by simpa using hq)
    obtain ⟨j, hj1, hj⟩ := List.any_eq_true.1 h1
    exact ⟨j, by simpa [hcl] using hj1, by simpa using hj⟩
  intro a0 ha0
  show (Code.region id l.toArray true).wpIn _ _ _ _ _ _
  refine wpIn_region_any hmix ?_
  have hsz : l.toArray.size = l.length := by simp
  rw [hsz]
  have main : ∀ (fuel : Nat) (listed : Array Bool) (a : Act) (w1 : World), UnderR C l m fs e Inv ch len listed a w1 → (∀ j, j < l.length → listed[j]? = some true ∨ listed[j]? = some false) → (listed.toList.filter (! ·)).length ≤ fuel →
      wpAnyIn (FW C.r) 0 C.P .any l.toArray (run C k) fuel listed a w1 := by
    intro fuel
    induction fuel with
    | zero =>
      intro listed a w1 hU htf hcnt
      have hall : ∀ j, j < l.length → listed[j]? = some true := by
        intro j hj
        rcases htf j hj with h | h
        · exact h
        · have hm : false ∈ listed.toList := List.mem_of_getElem? (i := j) (by simpa using h)
          have : false ∈ listed.toList.filter (! ·) := List.mem_filter.2 ⟨hm, rfl⟩
          rw [List.eq_nil_of_length_eq_zero (Nat.le_zero.1 hcnt)] at this
          cases this
      have hm : m = l.length := by
        rcases Nat.lt_or_ge m l.length with h | h
        · have h1 := hU.tail m (Nat.le_refl _) h
          rw [hall m h] at h1; cases h1
        · omega
      obtain ⟨en, hfit, hL⟩ := finR_of hlen hml hfin hch3 hU (fun j hj => hall j (by omega))
      exact tail_runsA hA htl' hto' 0 l.length listed a w1 (by omega) (by omega) (by rw [hU.size]) hall (fun j h1 h2 => by omega) (by rw [hm] at hL; exact hL a hfit) 0 (Nat.le_refl _)
    | succ fuel ih =>
      intro listed a w1 hU htf hcnt
      by_cases hall : ∀ j, j < m → listed[j]? = some true
      · obtain ⟨en, hfit, hL⟩ := finR_of hlen hml hfin hch3 hU hall
        have hcnt' : l.length - m ≤ fuel + 1 := by
          have := count_tailL listed.toList m (fun j h1 h2 => by have := hU.tail j h1 (by have := hU.size; simpa [this] using h2); simpa using this)
          have hsz' := hU.size
          simp at this
          omega
        exact tail_runsA hA htl' hto' (l.length - m) m listed a w1 (by omega) (Nat.le_refl _) (by rw [hU.size]) hall hU.tail (hL a hfit) (fuel + 1) hcnt'
      · refine ⟨fun h0 => ?_, fun i hi => ?_⟩
        · exfalso
          obtain ⟨j, hj1, hj2, hj3⟩ := least_open hall
          have hjl : j < l.length := by omega
          have hmem : j ∈ Region.ready .any l.toArray listed := by
            have hfalse : listed[j]? = some false := by (rcases htf j hjl with h | h; exact absurd h hj2; exact h)
            refine mem_ready.2 ⟨by rw [Array.getD_eq_getD_getElem?, hfalse]; rfl, l[j], by simp [hjl], ?_⟩
            intro x hx hb
            have := hto' j _ (List.getElem?_eq_getElem hjl) x hx hb
            rw [Array.getD_eq_getD_getElem?, hj3 _ this]; rfl
          rw [h0] at hmem; cases hmem
        · obtain ⟨h1, o, ho, hallx⟩ := mem_ready.1 hi
          have ho' : l[i]? = some o := by simpa using ho
          have hil : i < l.length := (List.getElem?_eq_some_iff.1 ho').1
          have him : i < m := by
            rcases Nat.lt_or_ge i m with h | h
            · exact h
            · exfalso
              obtain ⟨j, hj1, hj2, _⟩ := least_open hall
              exact hj2 (wt_listed hA hto' hU.size hU.closed i i o (Nat.le_refl _) ho' hallx j (htl' i h hil j (by omega)))
          obtain ⟨f, hfi⟩ : ∃ f, fs[i]? = some f := ⟨fs[i]'(by omega), List.getElem?_eq_getElem (by omega)⟩
          obtain ⟨dd, hdi⟩ : ∃ dd, ds[i]? = some dd := ⟨ds[i]'(by omega), List.getElem?_eq_getElem (by omega)⟩
          obtain ⟨q, hqi⟩ : ∃ q, ch[i]? = some q := ⟨ch[i]'(by omega), List.getElem?_eq_getElem (by omega)⟩
          obtain ⟨c, hcl2, hI, hcc⟩ := hU.inv
          have hli : ¬ listed[i]? = some true := fun h => by rw [Array.getD_eq_getD_getElem?, h] at h1; simp at h1
          have hpc : ∀ p, q = some p → p = c := by
            rintro p rfl
            have hge : ¬ p < c := fun h => hli ((hcc i p hqi).2 h)
            have hle : p ≤ c := Classical.byContradiction fun hn => by
              obtain ⟨j, hj, hw⟩ := (hchw i p o hqi ho').2 c (by omega)
              have := (hcc j c hj).1 (wt_listed hA hto' hU.size hU.closed i i o (Nat.le_refl _) ho' hallx j hw)
              omega
            omega
          have hB := obsP_at hob i o f dd q (by rw [List.getElem?_take, if_pos him]; exact ho') hfi hdi hqi c w1 hI hpc
          have hbase : Fits C e' a := ⟨⟨hU.tsize, fun s v hs => by
            obtain ⟨hs1, hs2⟩ := pickE_look he s v hs
            exact hU.base s v hs2 (fun j oj hj hoj => hS' s hs1 j oj hj hoj)⟩, hU.defers⟩
          obtain ⟨en, hOb, hlk⟩ := bind_of (a := a) (e := e') _ _ hB (fun p hp => by
            obtain ⟨j, oj, hj1, hj2, hj3, hj4⟩ := mem_depFacts hp
            obtain ⟨hjm, hjw⟩ := hdep' i dd hdi j hj1
            obtain ⟨v, hv1, hv2⟩ := hU.done j oj p.2 hjm hj2 hj4 (wt_listed hA hto' hU.size hU.closed i i o (Nat.le_refl _) ho' hallx j hjw)
            exact ⟨v, fun d hd => hv1 d (by rw [hj3]; exact hd), hv2⟩)
          have hfit : Fits C (en ++ e') a := ⟨⟨hU.tsize, fun s v hs => by
            rcases hlk s v hs with h | ⟨h, _⟩
            · exact h
            · exact hbase.sat.get s v h⟩, hU.defers⟩
          have hcnt' : ((listed.setIfInBounds i true).toList.filter (! ·)).length ≤ fuel := by
            have := count_set (listed := listed) (i := i) (by rcases htf i hil with h | h; exact absurd h hli; exact h)
            omega
          have htf' : ∀ j, j < l.length → (listed.setIfInBounds i true)[j]? = some true ∨ (listed.setIfInBounds i true)[j]? = some false := by
            intro j hj
            by_cases hji : i = j
            · subst hji; left; rw [Array.getElem?_setIfInBounds_self]; simp [hU.size, hil]
            · rw [Array.getElem?_setIfInBounds_ne hji]; exact htf j hj
          have hnext : ∀ v w2, Rel w1 w2 → Inv (match q with | some _ => c + 1 | none => c) w2 → f.holds v w2 → UnderR C l m fs e Inv ch len (listed.setIfInBounds i true) (a.put o.dst v) w2 := by
            intro v w2 hrel hx hh
            refine ⟨by simpa using hU.size, ?_, ?_, ?_, ?_, ?_, ?_, ?_⟩
            · intro i2 o2 ho2 hl2 x hx2 hb2
              have hgx : listed.getD x.on false = true := by
                by_cases hii : i = i2
                · subst hii; rw [ho'] at ho2; cases ho2; exact hallx x hx2 hb2
                · rw [Array.getElem?_setIfInBounds_ne hii] at hl2; exact hU.closed i2 o2 ho2 hl2 x hx2 hb2
              have hgx' := getD_true hgx
              rw [Array.getD_eq_getD_getElem?]
              by_cases hxi : i = x.on
              · rw [← hxi, Array.getElem?_setIfInBounds_self]; simp [hU.size, hil]
              · rw [Array.getElem?_setIfInBounds_ne hxi, hgx']; rfl
            · refine ⟨_, ?_, hx, fun j p hj => ?_⟩
              · cases q with
                | none => exact hcl2
                | some p => have := hpc p rfl; have := (hchw i p o hqi ho').1; show c + 1 ≤ len; omega
              · by_cases hji : i = j
                · subst hji
                  rw [hqi] at hj; cases hj
                  have := hpc p rfl
                  rw [Array.getElem?_setIfInBounds_self]
                  simp only [hU.size, hil, if_true, true_iff]
                  omega
                · rw [Array.getElem?_setIfInBounds_ne hji, hcc j p hj]
                  cases q with
                  | none => exact Iff.rfl
                  | some p2 =>
                    have h3 := hpc p2 rfl
                    have hne : p ≠ p2 := fun e => hji (hch1 i j p2 hqi (e ▸ hj))
                    show p < c ↔ p < c + 1
                    omega
            · cases o.dst <;> exact hU.defers
            · cases o.dst <;> simp [Act.put, hU.tsize]
            · intro s u hs hno
              have h0 := hU.base s u hs hno
              cases hd : o.dst with
              | none => exact h0
              | some d =>
                have hne : d ≠ s := fun e => hno i o him ho' (by rw [hd, e])
                simp only [Act.put]
                rw [Array.getElem?_setIfInBounds_ne hne]; exact h0
            · intro j hj hjl
              rw [Array.getElem?_setIfInBounds_ne (by omega)]; exact hU.tail j hj hjl
            · intro j oj fj hj hoj hfj hlj
              by_cases hji : i = j
              · subst hji
                rw [ho'] at hoj; cases hoj
                rw [hfi] at hfj; cases hfj
                refine ⟨v, fun d hd => ?_, hh⟩
                have hlt := hdst' i o ho'
                rw [hd] at hlt
                have hlt' : d < C.n := by simpa [dstOk, Nat.blt_eq] using hlt
                rw [hd]
                simp only [Act.put]
                rw [Array.getElem?_setIfInBounds_self]; simp [hU.tsize, hlt']
              · rw [Array.getElem?_setIfInBounds_ne hji] at hlj
                obtain ⟨u, hu1, hu2⟩ := hU.done j oj fj hj hoj hfj hlj
                refine ⟨u, fun d hd => ?_, stabR_at hst j fj hfj _ _ _ hrel hu2⟩
                have := hu1 d hd
                cases hod : o.dst with
                | none => exact this
                | some d' =>
                  have hne : d' ≠ d := fun e => hdis' i j o oj him hj hji ho' hoj d' hod (by rw [hd, e])
                  simp only [Act.put]
                  rw [Array.getElem?_setIfInBounds_ne hne]; exact this
          unfold wpOpIn
          simp only [ho]
          rcases hOb with (⟨hw, hO⟩ | ⟨hw, hu, hJ⟩) | ⟨hw, hP⟩
          · rw [if_pos (wanted_of hfit hw)]
            exact hO a hfit _ _ (fun v w2 ⟨hx, hh⟩ => ih _ _ _ (hnext v w2 hx.1 hx.2 hh) htf' hcnt')
          · rw [if_neg (by rw [wanted_of hfit hw]; simp)]
            exact ⟨fun _ _ => trivial, ih _ _ _ (hnext undef w1 hJ.1 hJ.2 hu) htf' hcnt'⟩
          · rw [if_pos (wanted_of hfit hw)]
            exact hP a hfit _
  refine main l.length (Array.replicate l.length false) a0 _ ⟨by simp, fun i o ho hl => ?_, ⟨0, Nat.zero_le _, h0, fun j p hj => ?_⟩, ha0.defers, ha0.sat.size, fun i v hi _ => ha0.sat.get i v hi, fun j _ hj => by simp [hj], fun j o f _ hj _ hl => ?_⟩ (fun j hj => by right; simp [hj]) ?_
  · have hil := (List.getElem?_eq_some_iff.1 ho).1
    simp [hil] at hl
  · have hjl : j < l.length := by have := (List.getElem?_eq_some_iff.1 hj).1; omega
    simp [hjl]
  · have hjl := (List.getElem?_eq_some_iff.1 hj).1
    simp [hjl] at hl
  · simp

end
theorem wpOps_one {P : Program} {ops : Array Oper} {Q : Exit → Act → List Frame → World → Prop} {i : Nat} {rest : List Nat} {A : Act} {cs : List Frame} {w : World} {o : Oper} {v : Value} (ho : ops[i]? = some o) (hg : o.guard = none) (hr : (execOp A.eval o).run P w = .ok (.value v) w)
    (h : wpOpsSIn (FW none) 0 P ops Q rest (A.put o.dst v) cs w) : wpOpsSIn (FW none) 0 P ops Q (i :: rest) A cs w := by
  unfold wpOpsSIn
  rw [ho]
  refine ⟨fun _ _ => trivial, ?_⟩
  have hw : Region.wanted o (yielded ops A.tmps) = true := by unfold Region.wanted; rw [hg]
  rw [if_pos hw, hr]
  exact h
theorem wpOps_rec {P : Program} {ops : Array Oper} {Q : Exit → Act → List Frame → World → Prop} {i : Nat} {rest : List Nat} {A : Act} {cs cs' : List Frame} {w : World} {o : Oper} {v : Value} (ho : ops[i]? = some o) (hg : o.guard = none) (hr : (execOp A.eval o).run P w = .ok .recover w)
    (hc : recoverD cs = some (v, cs') ∨ (recoverD cs = none ∧ v = .nilIface ∧ cs' = cs))
    (h : wpOpsSIn (FW none) 0 P ops Q rest (A.put o.dst v) cs' w) : wpOpsSIn (FW none) 0 P ops Q (i :: rest) A cs w := by
  unfold wpOpsSIn
  rw [ho]
  refine ⟨fun _ _ => trivial, ?_⟩
  have hw : Region.wanted o (yielded ops A.tmps) = true := by unfold Region.wanted; rw [hg]
  rw [if_pos hw, hr]
  rcases hc with hc | ⟨hc, rfl, rfl⟩
  · simp only [hc]; exact h
  · simp only [hc]; exact h
/-- A function that begins with 'r := recover()', entered as a deferred call. -/
theorem T.enterRec {P : Program} {f : FuncId} {fn : Func} {id : Nat} {rest : Code} {vs : List Value} {w : World} {n : Nat} {t5 t2 : Tmp} {ty5 ty2 : TypeId} {p5 p2 : String} {a5 a2 : Array Edge} {tys : Array TypeId} {r : Value} {u u' : FrameMode} {R : World → Prop}
    (hf : P.funcs[f]? = some fn) (hb : fn.body = some (.seq (.region id #[⟨some t5, .call { callee := .builtin .recover, args := #[], argTypes := tys }, ty5, p5, a5, none⟩, ⟨some t2, .assign (.tmp t5), ty2, p2, a2, none⟩] false) rest)) (hn : fn.ntmps = n) (hle : Nat.ble vs.length n = true) (hres : fn.results = #[])
    (h5 : dstOk n (some t5) = true) (h2 : dstOk n (some t2) = true)
    (hrec : ∀ (c0 : Frame) cs, c0.mode = u → recoverD (c0 :: cs) = some (r, { c0 with mode := u' } :: cs) ∨ (recoverD (c0 :: cs) = none ∧ r = .nilIface ∧ u' = u))
    (h : ∀ Q' : Exit → Act → World → Prop, (∀ a w', a.defers = [] → R w' → Q' .normal a w') → T { P := P, r := none, n := n, D := [], Q := Q' } [.code rest] ((t2, r) :: (t5, r) :: argEnv 0 vs) w) :
    CallsDIn (FW none) 0 P f vs.toArray u w fun e m w' => (∃ x, e = .returned x) ∧ m = u' ∧ R w' := by
  have hle' : vs.length ≤ n := by simpa [Nat.ble_eq] using hle
  refine callsDIn_of_wpSIn hf hb trivial fun c₀ cs hu => wpSIn_seq (wpSIn_region ?_)
  have hsat : Sat n (argEnv 0 vs) { tmps := vs.toArray ++ Array.replicate (fn.ntmps - vs.toArray.size) undef, defers := [] } := by
    refine ⟨by simp [hn]; omega, fun i v hi => ?_⟩
    obtain ⟨_, h2⟩ := look_argEnv vs 0 i v hi
    have hlt : i < vs.length := by
      rcases Nat.lt_or_ge i vs.length with h' | h'
      · exact h'
      · rw [Nat.sub_zero, List.getElem?_eq_none h'] at h2; cases h2
    rw [Array.getElem?_append_left (by simpa using hlt)]
    simpa using h2
  have hfin : ∀ cs', cs' = { c₀ with mode := u' } :: cs → rest.wpSIn (FW none) 0 P (bodyPostS P fn c₀ cs (fun e m w' => (∃ x, e = .returned x) ∧ m = u' ∧ R w')) ((({ tmps := vs.toArray ++ Array.replicate (fn.ntmps - vs.toArray.size) undef, defers := [] } : Act).put (some t5) r).put (some t2) r) cs' w := by
    rintro cs' rfl
    refine wpSIn_of_wpIn rfl ?_
    have hT := h (fun e a w' => bodyPostS P fn c₀ cs (fun e m w' => (∃ x, e = .returned x) ∧ m = u' ∧ R w') e a ({ c₀ with mode := u' } :: cs) w') (fun a w' hd hR => ⟨hd, u', rfl, _, results_none hres _ _ _, ⟨_, rfl⟩, rfl, hR⟩)
    exact hT _ ⟨(hsat.put (d := some t5) (v := r) h5).put (d := some t2) (v := r) h2, rfl⟩
  have hev : ((({ tmps := vs.toArray ++ Array.replicate (fn.ntmps - vs.toArray.size) undef, defers := [] } : Act).put (some t5) r).eval (.tmp t5)) = r := by
    have := (hsat.put (d := some t5) (v := r) h5).get t5 r (by simp [putE, look])
    show Array.getD _ t5 undef = r
    rw [Array.getD_eq_getD_getElem?, this]; rfl
  have hrun : ∀ a : Act, (execOp a.eval ⟨some t5, .call { callee := .builtin .recover, args := #[], argTypes := tys }, ty5, p5, a5, none⟩).run P w = .ok .recover w := fun a => by
    simp [execOp, resolve, invoke, builtin]
  have hrun2 : ∀ a : Act, (execOp a.eval ⟨some t2, .assign (.tmp t5), ty2, p2, a2, none⟩).run P w = .ok (.value (a.eval (.tmp t5))) w := fun a => by
    simp [execOp]
  show wpOpsSIn _ _ _ _ _ [0, 1] _ _ _
  rcases hrec c₀ cs hu with hr | ⟨hr, rfl, rfl⟩
  · exact wpOps_rec rfl rfl (hrun _) (.inl hr) (wpOps_one (v := r) rfl rfl (by have h2 := hrun2 (({ tmps := vs.toArray ++ Array.replicate (fn.ntmps - vs.toArray.size) undef, defers := [] } : Act).put (some t5) r); rw [hev] at h2; exact h2) (hfin _ rfl))
  · exact wpOps_rec rfl rfl (hrun _) (.inr ⟨hr, rfl, rfl⟩) (wpOps_one (v := .nilIface) rfl rfl (by have h2 := hrun2 (({ tmps := vs.toArray ++ Array.replicate (fn.ntmps - vs.toArray.size) undef, defers := [] } : Act).put (some t5) .nilIface); rw [hev] at h2; exact h2) (hfin _ (by subst hu; rfl)))
end Go.E
set_option linter.unusedVariables false
set_option linter.unusedSimpArgs false
set_option linter.unusedSectionVars false
namespace Go.E
open Go.RowKit Go.ChangeShapes Go.WideShapes

theorem trod_string {H : Type} {enc : TypeId × Value → H} {P : Program} {w : World} {n : Nat} {t : TypeId} {s : ByteArray} {y : DataW H × List MemPlace} (ht : P.underlying t = some .string) (h : DataW.trod enc P w 0 (fun _ => true) true n t [.string s] = some y) : y.1 = .lit (.string s.data.toList) := by
  cases n with
  | zero => simp [DataW.trod] at h
  | succ n =>
    simp only [DataW.trod, ht] at h
    split at h
    · cases h; rfl
    · cases h
theorem sizes_of {H : Type} {enc : TypeId × Value → H} {P : Program} {W : World} : ∀ {ts : List TypeId} {vs : List Value} {ds : List (DataW H)} {ps : List MemPlace}, DataW.TrodAll enc P W 0 (fun _ => true) true ts vs ds ps →
    (DataW.weightsEach P ts ds).all (· ≤ reachBytes) = true → ∀ (j : Nat) t s, ts[j]? = some t → vs[j]? = some (.string s) → P.underlying t = some .string → s.size ≤ 140737488355328
  | [], vs, ds, ps, h, _ => fun j t s hj => by simp at hj
  | t :: ts, vs, ds, ps, h, hw => by
    obtain ⟨v, vs', d, ds', p, q, rfl, rfl, rfl, h1, h2⟩ := trodAll_cons h
    rw [DataW.weightsEach, List.all_append, Bool.and_eq_true] at hw
    intro j t' s hj hv ht
    cases j with
    | zero =>
      simp at hj hv
      subst hj hv
      obtain ⟨m, hm⟩ := h1
      have hd := trod_string ht (by simpa [Value.cells] using hm)
      simp only at hd
      subst hd
      have h5 := List.all_eq_true.1 hw.1 s.data.toList.length (by rw [DataW.weights]; exact List.mem_singleton.2 rfl)
      have h6 : s.data.toList.length ≤ reachBytes := of_decide_eq_true h5
      have e : s.data.toList.length = s.size := by rw [Array.length_toList]; rfl
      rw [e] at h6
      exact Nat.le_trans h6 (by unfold reachBytes; decide)
    | succ j => exact sizes_of h2 hw.2 j t' s (by simpa using hj) (by simpa using hv) ht
theorem change_and_shaped {H : Type} {enc : TypeId × Value → H} {a : Assume} {C : Checked} {os : Os} {f : FuncId} {fn : Func} {s : ChangeSpec} {conds : List PathCond} {apart fresh handsOn again : Bool} {X : World → Array Value → Prop}
    (hX : ∀ (w w' : World) (args : Array Value), w.heap = w'.heap → X w args → X w' args)
    (own : ownKnob C.prog.godebug = none) (started : os.Started) (noInit : C.prog.inits.idxOf? f = none) (hfn : C.prog.funcs[f]? = some fn)
    (witness : ∃ (w : World) (tape : Tape) (i : Input), w.os = os ∧ (w.forCall tape i).Shaped C.prog ∧ i.vars = [] ∧ Input.okWide C.prog (w.forCall tape i) .any w.heap.size f i ∧
      ((s.pre enc C.prog fn conds apart (w.forCall tape i).memory i.args ∧ X (w.forCall tape i).memory i.args) ∧ sizedMet enc C.prog fn (OpenSpec.ofChange s) apart (w.forCall tape i).memory i.args) ∧ a.holds C.prog (lone (Frame.enter C.prog f i.args .normal) [] (w.forCall tape i)))
    (contract : ∀ (W : World) (base : Nat) (args : Array Value) (ds gs : List (DataW H)) (before : List MemPlace),
      (∀ (j : Nat) t v, fn.params[j]? = some t → args[j]? = some v → Value.okWide C.prog W .any base t v) →
      DataW.Whole enc C.prog fn.params.toList s.vars apart W args.toList ds gs before →
      conds.all (PathCond.test C.prog ⟨fn.params.toList, ds, s.plain.varTypes C.prog, gs⟩) = true →
      (DataW.weightsEach C.prog (fn.params.toList ++ s.plain.varTypes C.prog) (ds ++ gs)).all (· ≤ reachBytes) = true → X W args → W.ShapedOpen C.prog →
      a.holds C.prog (lone (Frame.enter C.prog f args .normal) [] W) →
      Calls C.prog f args W fun e W' => ∃ v, e = .returned v ∧ s.post enc C.prog fn apart fresh handsOn again W args v W') :
    ReturnsInHanded a C os f .any (fun w args => (s.pre enc C.prog fn conds apart w args ∧ X w args) ∧ sizedMet enc C.prog fn (OpenSpec.ofChange s) apart w args) (s.post enc C.prog fn apart fresh handsOn again) := by
  refine returnsInHanded_of_calls own started noInit witness ?_
  intro w tape i _ hsh _ hok hpre hholds
  obtain ⟨_, _, _, fn', hfn', _, _, _, _, hval⟩ := hok
  have e : fn' = fn := Option.some.inj (hfn'.symm.trans hfn)
  subst e
  obtain ⟨⟨⟨ds, gs, before, hw, hc⟩, hx⟩, hz⟩ := hpre
  have hw' := DataW.Whole.of_heap (w' := w.forCall tape i) (by rfl) hw
  refine (contract (w.forCall tape i) w.heap.size i.args ds gs before hval hw' hc (hz.weights hw) (hX _ _ _ (by rfl) hx) hsh hholds).mono fun e W' ⟨v, he, hp⟩ => ?_
  subst he
  exact ChangeSpec.post_blind hp
/-- THE ROW's STEP, out of the walk, with the shape of the world and the sizes of texts. -/
theorem law_liftedS {C : Checked} {os : Os} {f : FuncId} {fn : Func} {s : ChangeSpec} {X : World → Array Value → Prop} {H : Type} {enc : TypeId × Value → H} {tb : TypeId} {ts : List TypeId}
    (hX : ∀ (w w' : World) (args : Array Value), w.heap = w'.heap → X w args → X w' args)
    (own : ownKnob C.prog.godebug = none) (started : os.Started) (noInit : C.prog.inits.idxOf? f = none) (hfn : C.prog.funcs[f]? = some fn)
    (hvars : s.vars = []) (hts : fn.params = ts.toArray) (hspec : ∀ ds : List (DataW H), ds.length = ts.length → s.fn H ds = { results := [.lit (.bool true)], args := ds })
    (hres : fn.resultTypes = #[tb]) (hb : C.prog.underlying tb = some .bool) (hl : laidOutB C.prog = true) (hread : (ts.all fun t => C.prog.readableRec t && decide (t < C.prog.types.size)) = true)
    (witness : ∃ (w : World) (tape : Tape) (i : Input), w.os = os ∧ (w.forCall tape i).Shaped C.prog ∧ i.vars = [] ∧ Input.okWide C.prog (w.forCall tape i) .any w.heap.size f i ∧
      ((s.pre enc C.prog fn [] false (w.forCall tape i).memory i.args ∧ X (w.forCall tape i).memory i.args) ∧ sizedMet enc C.prog fn (OpenSpec.ofChange s) false (w.forCall tape i).memory i.args) ∧ ({} : Assume).holds C.prog (lone (Frame.enter C.prog f i.args .normal) [] (w.forCall tape i)))
    (walk : ∀ (W : World) (vs : List Value), vs.length = ts.length → (∀ (j : Nat) t v, ts[j]? = some t → vs[j]? = some v → Arg C.prog W t v) → (∀ (j : Nat) t s, ts[j]? = some t → vs[j]? = some (.string s) → C.prog.underlying t = some .string → s.size ≤ 140737488355328) → X W vs.toArray → W.ShapedOpen C.prog → Calls C.prog f vs.toArray W (Ret fun v W' => v = .bool true ∧ Ext W W')) :
    ReturnsInHanded {} C os f .any (fun w args => (s.pre enc C.prog fn [] false w args ∧ X w args) ∧ sizedMet enc C.prog fn (OpenSpec.ofChange s) false w args) (s.post enc C.prog fn false true false false) := by
  refine change_and_shaped (C := C) hX own started noInit hfn witness ?_
  intro W base args ds gs before hval0 hW _ hwt hL hsh _
  have hval : ∀ (j : Nat) t v, fn.params[j]? = some t → args[j]? = some v → Value.okWide C.prog W .any base t v := hval0
  have hW' := hW
  obtain ⟨p, q, hA0, hV0, rfl, hfz, hnd⟩ := hW
  have hA : DataW.TrodAll enc C.prog W 0 (fun _ => true) true fn.params.toList args.toList ds p := hA0
  have hV : DataW.TrodVars enc C.prog W (fun _ => true) s.vars gs q := hV0
  rw [hts] at hA hval
  rw [hvars] at hV
  obtain ⟨rfl, rfl⟩ := trodVars_none hV
  have hA' : DataW.TrodAll enc C.prog W 0 (fun _ => true) true ts args.toList ds p := hA
  obtain ⟨hlen, harg⟩ := args_of hA' (fun j t v hj hv => Value.okWide_any_base (hval j t v (by simpa using hj) (by simpa using hv)))
  have hds : ds.length = ts.length := by
    have : ∀ {ts : List TypeId} {vs : List Value} {ds : List (DataW H)} {ps : List MemPlace}, DataW.TrodAll enc C.prog W 0 (fun _ => true) true ts vs ds ps → ds.length = ts.length := by
      intro ts
      induction ts with
      | nil => intro vs ds ps h; obtain ⟨rfl, rfl, rfl⟩ := trodAll_nil h; rfl
      | cons t ts ih =>
        intro vs ds ps h
        obtain ⟨v, vs', d, ds', p, q, rfl, rfl, rfl, h1, h2⟩ := trodAll_cons h
        simp [ih h2]
    exact this hA'
  have hvt : s.plain.varTypes C.prog = [] := by simp [DataSpec.varTypes, ChangeSpec.plain, hvars]
  have hwt' : (DataW.weightsEach C.prog ts ds).all (· ≤ reachBytes) = true := by
    rw [hts, hvt] at hwt
    simpa using hwt
  have hsp := hspec ds hds
  refine (walk W args.toList hlen harg (sizes_of hA' hwt') (by simpa using hL) hsh).mono fun e W' hR => ?_
  cases e with
  | panicked c => exact hR.elim
  | outgrown => exact hR.elim
  | returned v =>
    obtain ⟨rfl, hE⟩ := hR
    have bel := Ext.below hE
    refine ⟨_, rfl, ds, [], p ++ [], [], p, [], hW', ?_, ?_, ?_, bel.frame _, fun h => by cases h⟩
    · rw [hres, List.append_nil, hsp]; exact trodAll_mk1 (shut_bool hb true)
    · rw [hts, List.append_nil, hsp]; exact trodAll_below hl bel hread hA'
    · rw [hvars, List.append_nil, hsp]; rfl
end Go.E
namespace Go.Proofs
open Go.Shelf
def Tryz.lays169_ren : Go.Shelf.Ren := ⟨fun | 169 => 57 | n => n, fun | 70 => 92 | 9 => 9 | 0 => 0 | 72 => 95 | 37 => 93 | 127 => 131 | 3 => 3 | 5 => 5 | n => n, fun | n => n⟩
theorem Tryz.lays169 : Go.Proofs.Lays.n169 Tryz.prog Tryz.lays169_ren := {
  mixed := by kernel_rfl
  f169 := Tryz.func57.trans (congrArg some (by kernel_rfl))
  t0 := Tryz.underlying0
  a0 := Tryz.isAgg0
  z0 := Tryz.sizeOf0
  v0 := Tryz.zeroValue0
  t3 := Tryz.underlying3
  a3 := Tryz.isAgg3
  z3 := Tryz.sizeOf3
  v3 := Tryz.zeroValue3
  t9 := Tryz.underlying9
  a9 := Tryz.isAgg9
  z9 := Tryz.sizeOf9
  v9 := Tryz.zeroValue9
  t37 := Tryz.underlying93
  a37 := Tryz.isAgg93
  z37 := Tryz.sizeOf93
  v37 := Tryz.zeroValue93
  t70 := Tryz.underlying92
  a70 := Tryz.isAgg92
  z70 := Tryz.sizeOf92
  v70 := Tryz.zeroValue92
  t72 := Tryz.underlying95
  a72 := Tryz.isAgg95
  z72 := Tryz.sizeOf95
  v72 := Tryz.zeroValue95
  t127 := Tryz.underlying131
  a127 := Tryz.isAgg131
  z127 := Tryz.sizeOf131
  v127 := Tryz.zeroValue131 }
theorem Tryz.Builder_Extra_169 : Builder.Extra Tryz.prog Tryz.lays169_ren := {
  sizeBuilder := by kernel_rfl
  liesBuilder := by kernel_rfl
  t5 := Tryz.underlying5
  a5 := Tryz.isAgg5
  z5 := Tryz.sizeOf5
  v5 := Tryz.zeroValue5
  infoByte := by kernel_rfl
  cellsByte := by kernel_rfl
  sizeByte := by kernel_rfl
  neB5 := by decide }
open Go.RowKit in
/-- (*strings.Builder).String: "String returns the accumulated string.": WHATEVER THE BUILDER HOLDS. (LAID: no walk: one application.) -/
theorem Tryz.Builder_String_any (B b : Nat) (l : List UInt8) (w : World) (h : Lib.IsBuilder 95 5 B b (Lib.byteCells l) w) (hBw : B ≤ w.heap.size) :
    Calls Tryz.prog 57 #[.pointer (some ⟨b, 0, none⟩)] w fun e w' => e = .returned (.string ⟨l.toArray⟩) ∧ Below B w w' := Any.Builder_String_any Tryz.lays169 Tryz.Builder_Extra_169 B b l w h hBw
def Tryz.lays156_ren : Go.Shelf.Ren := ⟨fun | 156 => 96 | 165 => 66 | 166 => 55 | 169 => 57 | 240 => 93 | 241 => 115 | 276 => 127 | 277 => 137 | n => n, fun | 31 => 77 | 9 => 9 | 3 => 3 | 4 => 4 | 0 => 0 | 20 => 20 | 72 => 95 | 76 => 98 | 70 => 92 | 37 => 93 | 75 => 97 | 127 => 131 | 164 => 157 | 5 => 5 | 80 => 101 | n => n, fun | n => n⟩
theorem Tryz.lays156 : Go.Proofs.Lays.n156 Tryz.prog Tryz.lays156_ren := {
  mixed := by kernel_rfl
  f156 := Tryz.func96.trans (congrArg some (by kernel_rfl))
  f165 := Tryz.func66.trans (congrArg some (by kernel_rfl))
  f166 := Tryz.func55.trans (congrArg some (by kernel_rfl))
  f169 := Tryz.func57.trans (congrArg some (by kernel_rfl))
  f240 := Tryz.func93.trans (congrArg some (by kernel_rfl))
  f241 := Tryz.func115.trans (congrArg some (by kernel_rfl))
  f276 := Tryz.func127.trans (congrArg some (by kernel_rfl))
  f277 := Tryz.func137.trans (congrArg some (by kernel_rfl))
  t0 := Tryz.underlying0
  a0 := Tryz.isAgg0
  z0 := Tryz.sizeOf0
  v0 := Tryz.zeroValue0
  t3 := Tryz.underlying3
  a3 := Tryz.isAgg3
  z3 := Tryz.sizeOf3
  v3 := Tryz.zeroValue3
  t4 := Tryz.underlying4
  a4 := Tryz.isAgg4
  z4 := Tryz.sizeOf4
  v4 := Tryz.zeroValue4
  t9 := Tryz.underlying9
  a9 := Tryz.isAgg9
  z9 := Tryz.sizeOf9
  v9 := Tryz.zeroValue9
  t20 := Tryz.underlying20
  a20 := Tryz.isAgg20
  z20 := Tryz.sizeOf20
  v20 := Tryz.zeroValue20
  t31 := Tryz.underlying77
  a31 := Tryz.isAgg77
  z31 := Tryz.sizeOf77
  v31 := Tryz.zeroValue77
  t37 := Tryz.underlying93
  a37 := Tryz.isAgg93
  z37 := Tryz.sizeOf93
  v37 := Tryz.zeroValue93
  t70 := Tryz.underlying92
  a70 := Tryz.isAgg92
  z70 := Tryz.sizeOf92
  v70 := Tryz.zeroValue92
  t72 := Tryz.underlying95
  a72 := Tryz.isAgg95
  z72 := Tryz.sizeOf95
  v72 := Tryz.zeroValue95
  t75 := Tryz.underlying97
  a75 := Tryz.isAgg97
  z75 := Tryz.sizeOf97
  v75 := Tryz.zeroValue97
  t76 := Tryz.underlying98
  a76 := Tryz.isAgg98
  z76 := Tryz.sizeOf98
  v76 := Tryz.zeroValue98
  t127 := Tryz.underlying131
  a127 := Tryz.isAgg131
  z127 := Tryz.sizeOf131
  v127 := Tryz.zeroValue131
  t164 := Tryz.underlying157
  a164 := Tryz.isAgg157
  z164 := Tryz.sizeOf157
  v164 := Tryz.zeroValue157 }
theorem Tryz.Builder_Extra_156 : Builder.Extra Tryz.prog Tryz.lays156_ren := {
  sizeBuilder := by kernel_rfl
  liesBuilder := by kernel_rfl
  t5 := Tryz.underlying5
  a5 := Tryz.isAgg5
  z5 := Tryz.sizeOf5
  v5 := Tryz.zeroValue5
  infoByte := by kernel_rfl
  cellsByte := by kernel_rfl
  sizeByte := by kernel_rfl
  neB5 := by decide }
open Go.RowKit in
/-- strings.Join: "Join concatenates the elements of its first argument to create a single string. The separator string sep is placed between elements in the resulting string.": HOWEVER MANY ELEMENTS. Below the heap's end the world is as it was. (LAID: no walk: one application.) -/
theorem Tryz.strings_Join (bk o c : Nat) (xs : List ByteArray) (sep : ByteArray) (w : World) (hcells : ∀ (j : Nat) x, xs[j]? = some x → w.cell? ⟨bk, o + j, none⟩ = some (.string x)) (hbk : bk < w.heap.size) (hN : xs.length ≤ 140737488355328) (hcap : xs.length ≤ c) (hlen : (Lib.join (xs.map (·.data.toList)) sep.data.toList).length ≤ 140737488355328) :
    Calls Tryz.prog 96 #[.slice (some ⟨bk, o, none⟩) xs.length c, .string sep] w fun e w' => e = .returned (.string ⟨(Lib.join (xs.map (·.data.toList)) sep.data.toList).toArray⟩) ∧ Below w.heap.size w w' := Any.strings_Join Tryz.lays156 Tryz.Builder_Extra_156 bk o c xs sep w hcells hbk hN hcap hlen
def Tryz.laysM171_ren : Go.Shelf.Ren := ⟨fun | 171 => 53 | 243 => 92 | 246 => 126 | 283 => 144 | 284 => 145 | 285 => 146 | 286 => 147 | 129 => 156 | 317 => 155 | 318 => 157 | 319 => 158 | 320 => 159 | 337 => 167 | 338 => 168 | n => n, fun | 3 => 3 | 9 => 9 | 2 => 2 | 4 => 4 | 171 => 170 | 0 => 0 | 53 => 25 | 37 => 93 | 5 => 5 | 173 => 173 | 212 => 180 | 51 => 143 | 20 => 20 | 213 => 181 | 46 => 108 | 232 => 194 | 233 => 195 | n => n, fun | 17 => 1 | 18 => 4 | 19 => 5 | n => n⟩
theorem Tryz.laysM171 : Go.Proofs.LaysM.n171 Tryz.prog Tryz.laysM171_ren := {
  mixed := by kernel_rfl
  f129 := Tryz.func156.trans (congrArg some (by kernel_rfl))
  f171 := Tryz.func53.trans (congrArg some (by kernel_rfl))
  f243 := Tryz.func92.trans (congrArg some (by kernel_rfl))
  f246 := Tryz.func126.trans (congrArg some (by kernel_rfl))
  f283 := Tryz.func144.trans (congrArg some (by kernel_rfl))
  f284 := Tryz.func145.trans (congrArg some (by kernel_rfl))
  f285 := Tryz.func146.trans (congrArg some (by kernel_rfl))
  f286 := Tryz.func147.trans (congrArg some (by kernel_rfl))
  f317 := Tryz.func155.trans (congrArg some (by kernel_rfl))
  f318 := Tryz.func157.trans (congrArg some (by kernel_rfl))
  f319 := Tryz.func158.trans (congrArg some (by kernel_rfl))
  f320 := Tryz.func159.trans (congrArg some (by kernel_rfl))
  f337 := Tryz.func167.trans (congrArg some (by kernel_rfl))
  f338 := Tryz.func168.trans (congrArg some (by kernel_rfl))
  t0 := Tryz.underlying0
  a0 := Tryz.isAgg0
  z0 := Tryz.sizeOf0
  v0 := Tryz.zeroValue0
  t2 := Tryz.underlying2
  a2 := Tryz.isAgg2
  z2 := Tryz.sizeOf2
  v2 := Tryz.zeroValue2
  t3 := Tryz.underlying3
  a3 := Tryz.isAgg3
  z3 := Tryz.sizeOf3
  v3 := Tryz.zeroValue3
  t4 := Tryz.underlying4
  a4 := Tryz.isAgg4
  z4 := Tryz.sizeOf4
  v4 := Tryz.zeroValue4
  t5 := Tryz.underlying5
  a5 := Tryz.isAgg5
  z5 := Tryz.sizeOf5
  v5 := Tryz.zeroValue5
  t9 := Tryz.underlying9
  a9 := Tryz.isAgg9
  z9 := Tryz.sizeOf9
  v9 := Tryz.zeroValue9
  t20 := Tryz.underlying20
  a20 := Tryz.isAgg20
  z20 := Tryz.sizeOf20
  v20 := Tryz.zeroValue20
  t37 := Tryz.underlying93
  a37 := Tryz.isAgg93
  z37 := Tryz.sizeOf93
  v37 := Tryz.zeroValue93
  t46 := Tryz.underlying108
  a46 := Tryz.isAgg108
  z46 := Tryz.sizeOf108
  v46 := Tryz.zeroValue108
  t51 := Tryz.underlying143
  a51 := Tryz.isAgg143
  z51 := Tryz.sizeOf143
  v51 := Tryz.zeroValue143
  t53 := Tryz.underlying25
  a53 := Tryz.isAgg25
  z53 := Tryz.sizeOf25
  v53 := Tryz.zeroValue25
  t171 := Tryz.underlying170
  a171 := Tryz.isAgg170
  z171 := Tryz.sizeOf170
  v171 := Tryz.zeroValue170
  t173 := Tryz.underlying173
  a173 := Tryz.isAgg173
  z173 := Tryz.sizeOf173
  v173 := Tryz.zeroValue173
  t212 := Tryz.underlying180
  a212 := Tryz.isAgg180
  z212 := Tryz.sizeOf180
  v212 := Tryz.zeroValue180
  t213 := Tryz.underlying181
  a213 := Tryz.isAgg181
  z213 := Tryz.sizeOf181
  t232 := Tryz.underlying194
  a232 := Tryz.isAgg194
  z232 := Tryz.sizeOf194
  v232 := Tryz.zeroValue194
  t233 := Tryz.underlying195
  a233 := Tryz.isAgg195
  z233 := Tryz.sizeOf195
  v233 := Tryz.zeroValue195
  g17 := by kernel_rfl
  g18 := by kernel_rfl
  g19 := by kernel_rfl
  i0 := by kernel_rfl
  i2 := by kernel_rfl
  i3 := by kernel_rfl
  i4 := by kernel_rfl
  i5 := by kernel_rfl
  i9 := by kernel_rfl
  i20 := by kernel_rfl
  i37 := by kernel_rfl
  i46 := by kernel_rfl
  i51 := by kernel_rfl
  i53 := by kernel_rfl
  i171 := by kernel_rfl
  i173 := by kernel_rfl
  i212 := by kernel_rfl
  i232 := by kernel_rfl
  i233 := by kernel_rfl
  m17 := by kernel_rfl
  m18 := by kernel_rfl
  m19 := by kernel_rfl }
open Go.RowKit Go.Sort Go.Lib in
/-- strconv.Itoa: "Itoa is equivalent to FormatInt(int64(i), 10).": i's DECIMAL NUMERAL ('Lib.itoa': a '-' where i is negative, then the digits), FOR EVERY int. The world behind the call: the world before it, new blocks behind the heap (the library's 'var a [24]byte'), draws. (LAID: no walk: one application.) -/
theorem Tryz.strconv_Itoa (n : Int) (h0 : -9223372036854775808 ≤ n) (h1 : n ≤ 9223372036854775807) (w : World) (htab : Lib.TabIs Tryz.prog w "internal/strconv.uint64pow10" .u64 Lib.pow10Tab) :
    Calls Tryz.prog 53 #[.int .i64 n] w fun e w' => e = .returned (.string ⟨(Lib.itoa n).toArray⟩) ∧ ∃ k os, w' = grow (w.drewN k) os := Any.strconv_Itoa Tryz.laysM171 n h0 h1 w htab
def Tryz.laysC245_ren : Go.Shelf.Ren := ⟨fun | 245 => 151 | 279 => 163 | 280 => 164 | 281 => 165 | 282 => 166 | 316 => 170 | 171 => 53 | 205 => 171 | 243 => 92 | 246 => 126 | 283 => 144 | 284 => 145 | 285 => 146 | 286 => 147 | 129 => 156 | 317 => 155 | 318 => 157 | 319 => 158 | 320 => 159 | 337 => 167 | 338 => 168 | n => n, fun | 9 => 9 | 3 => 3 | 75 => 97 | 167 => 185 | 4 => 4 | 168 => 187 | 210 => 192 | 37 => 93 | 0 => 0 | 127 => 131 | 145 => 202 | 143 => 200 | 2 => 2 | 171 => 170 | 53 => 25 | 5 => 5 | 173 => 173 | 212 => 180 | 51 => 143 | 20 => 20 | 213 => 181 | 46 => 108 | 232 => 194 | 233 => 195 | 80 => 101 | n => n, fun | 15 => 2 | 16 => 3 | 17 => 1 | 18 => 4 | 19 => 5 | n => n⟩
theorem Tryz.laysC245 : Go.Proofs.LaysC.n245 Tryz.prog Tryz.laysC245_ren := {
  mixed := by kernel_rfl
  f129 := Tryz.func156.trans (congrArg some (by kernel_rfl))
  f171 := Tryz.func53.trans (congrArg some (by kernel_rfl))
  f205 := Tryz.func171.trans (congrArg some (by kernel_rfl))
  f243 := Tryz.func92.trans (congrArg some (by kernel_rfl))
  f245 := Tryz.func151.trans (congrArg some (by kernel_rfl))
  f246 := Tryz.func126.trans (congrArg some (by kernel_rfl))
  f279 := Tryz.func163.trans (congrArg some (by kernel_rfl))
  f280 := Tryz.func164.trans (congrArg some (by kernel_rfl))
  f281 := Tryz.func165.trans (congrArg some (by kernel_rfl))
  f282 := Tryz.func166.trans (congrArg some (by kernel_rfl))
  f283 := Tryz.func144.trans (congrArg some (by kernel_rfl))
  f284 := Tryz.func145.trans (congrArg some (by kernel_rfl))
  f285 := Tryz.func146.trans (congrArg some (by kernel_rfl))
  f286 := Tryz.func147.trans (congrArg some (by kernel_rfl))
  f316 := Tryz.func170.trans (congrArg some (by kernel_rfl))
  f317 := Tryz.func155.trans (congrArg some (by kernel_rfl))
  f318 := Tryz.func157.trans (congrArg some (by kernel_rfl))
  f319 := Tryz.func158.trans (congrArg some (by kernel_rfl))
  f320 := Tryz.func159.trans (congrArg some (by kernel_rfl))
  f337 := Tryz.func167.trans (congrArg some (by kernel_rfl))
  f338 := Tryz.func168.trans (congrArg some (by kernel_rfl))
  t0 := Tryz.underlying0
  a0 := Tryz.isAgg0
  z0 := Tryz.sizeOf0
  v0 := Tryz.zeroValue0
  t2 := Tryz.underlying2
  a2 := Tryz.isAgg2
  z2 := Tryz.sizeOf2
  v2 := Tryz.zeroValue2
  t3 := Tryz.underlying3
  a3 := Tryz.isAgg3
  z3 := Tryz.sizeOf3
  v3 := Tryz.zeroValue3
  t4 := Tryz.underlying4
  a4 := Tryz.isAgg4
  z4 := Tryz.sizeOf4
  v4 := Tryz.zeroValue4
  t5 := Tryz.underlying5
  a5 := Tryz.isAgg5
  z5 := Tryz.sizeOf5
  v5 := Tryz.zeroValue5
  t9 := Tryz.underlying9
  a9 := Tryz.isAgg9
  z9 := Tryz.sizeOf9
  v9 := Tryz.zeroValue9
  t20 := Tryz.underlying20
  a20 := Tryz.isAgg20
  z20 := Tryz.sizeOf20
  v20 := Tryz.zeroValue20
  t37 := Tryz.underlying93
  a37 := Tryz.isAgg93
  z37 := Tryz.sizeOf93
  v37 := Tryz.zeroValue93
  t46 := Tryz.underlying108
  a46 := Tryz.isAgg108
  z46 := Tryz.sizeOf108
  v46 := Tryz.zeroValue108
  t51 := Tryz.underlying143
  a51 := Tryz.isAgg143
  z51 := Tryz.sizeOf143
  v51 := Tryz.zeroValue143
  t53 := Tryz.underlying25
  a53 := Tryz.isAgg25
  z53 := Tryz.sizeOf25
  v53 := Tryz.zeroValue25
  t75 := Tryz.underlying97
  a75 := Tryz.isAgg97
  z75 := Tryz.sizeOf97
  v75 := Tryz.zeroValue97
  t127 := Tryz.underlying131
  a127 := Tryz.isAgg131
  z127 := Tryz.sizeOf131
  v127 := Tryz.zeroValue131
  t143 := Tryz.underlying200
  a143 := Tryz.isAgg200
  z143 := Tryz.sizeOf200
  v143 := Tryz.zeroValue200
  t145 := Tryz.underlying202
  a145 := Tryz.isAgg202
  z145 := Tryz.sizeOf202
  v145 := Tryz.zeroValue202
  t167 := Tryz.underlying185
  a167 := Tryz.isAgg185
  z167 := Tryz.sizeOf185
  v167 := Tryz.zeroValue185
  t168 := Tryz.underlying187
  a168 := Tryz.isAgg187
  z168 := Tryz.sizeOf187
  v168 := Tryz.zeroValue187
  t171 := Tryz.underlying170
  a171 := Tryz.isAgg170
  z171 := Tryz.sizeOf170
  v171 := Tryz.zeroValue170
  t173 := Tryz.underlying173
  a173 := Tryz.isAgg173
  z173 := Tryz.sizeOf173
  v173 := Tryz.zeroValue173
  t210 := Tryz.underlying192
  a210 := Tryz.isAgg192
  z210 := Tryz.sizeOf192
  v210 := Tryz.zeroValue192
  t212 := Tryz.underlying180
  a212 := Tryz.isAgg180
  z212 := Tryz.sizeOf180
  v212 := Tryz.zeroValue180
  t213 := Tryz.underlying181
  a213 := Tryz.isAgg181
  z213 := Tryz.sizeOf181
  t232 := Tryz.underlying194
  a232 := Tryz.isAgg194
  z232 := Tryz.sizeOf194
  v232 := Tryz.zeroValue194
  t233 := Tryz.underlying195
  a233 := Tryz.isAgg195
  z233 := Tryz.sizeOf195
  v233 := Tryz.zeroValue195
  g15 := by kernel_rfl
  g16 := by kernel_rfl
  g17 := by kernel_rfl
  g18 := by kernel_rfl
  g19 := by kernel_rfl
  t80 := Tryz.underlying101
  a80 := Tryz.isAgg101
  z80 := Tryz.sizeOf101
  v80 := Tryz.zeroValue101
  i0 := by kernel_rfl
  i2 := by kernel_rfl
  i3 := by kernel_rfl
  i4 := by kernel_rfl
  i5 := by kernel_rfl
  i9 := by kernel_rfl
  i20 := by kernel_rfl
  i37 := by kernel_rfl
  i46 := by kernel_rfl
  i51 := by kernel_rfl
  i53 := by kernel_rfl
  i75 := by kernel_rfl
  i80 := by kernel_rfl
  i127 := by kernel_rfl
  i143 := by kernel_rfl
  i145 := by kernel_rfl
  i167 := by kernel_rfl
  i168 := by kernel_rfl
  i171 := by kernel_rfl
  i173 := by kernel_rfl
  i210 := by kernel_rfl
  i212 := by kernel_rfl
  i232 := by kernel_rfl
  i233 := by kernel_rfl
  m15 := by kernel_rfl
  m16 := by kernel_rfl
  m17 := by kernel_rfl
  m18 := by kernel_rfl
  m19 := by kernel_rfl
  c0 := by kernel_rfl
  c2 := by kernel_rfl
  c3 := by kernel_rfl
  c4 := by kernel_rfl
  c5 := by kernel_rfl
  c9 := by kernel_rfl
  c20 := by kernel_rfl
  c37 := by kernel_rfl
  c46 := by kernel_rfl
  c51 := by kernel_rfl
  c53 := by kernel_rfl
  c75 := by kernel_rfl
  c80 := by kernel_rfl
  c127 := by kernel_rfl
  c143 := by kernel_rfl
  c145 := by kernel_rfl
  c167 := by kernel_rfl
  c168 := by kernel_rfl
  c171 := by kernel_rfl
  c173 := by kernel_rfl
  c210 := by kernel_rfl
  c212 := by kernel_rfl
  c213 := by kernel_rfl
  c232 := by kernel_rfl
  c233 := by kernel_rfl }
open Go.RowKit in
/-- strconv.toError, at the inner package's ErrSyntax: 'syntaxError(fn, s)' as an error: A *NumError IN A NEW BLOCK. (LAID: no walk: one application.) -/
theorem Tryz.strconv_toError_syntax (fn s : ByteArray) (base bits : Int) (ev : Value) (w : World) (hlim : s.size ≤ 281474976710656) (hv : w.cell? ⟨2, 0, none⟩ = some ev) (hev : ev = .nilIface ∨ ∃ te pe, ev = .iface te pe) :
    Calls Tryz.prog 151 #[.string fn, .string s, .int .i64 base, .int .i64 bits, .iface 185 (.int .i64 2)] w fun e w' => ∃ N, e = .returned (.iface 187 (.pointer (some ⟨N, 0, none⟩))) ∧ w.heap.size ≤ N ∧ w'.heap[N]? = some (.cells #[.string fn, .string s, ev] 192 (0, 0)) ∧ Below w.heap.size w w' := Any.strconv_toError_syntax Tryz.laysC245 fn s base bits ev w hlim hv hev
def Tryz.lays321_ren : Go.Shelf.Ren := ⟨fun | 321 => 161 | n => n, fun | 5 => 5 | n => n, fun | n => n⟩
theorem Tryz.lays321 : Go.Proofs.Lays.n321 Tryz.prog Tryz.lays321_ren := {
  mixed := by kernel_rfl
  f321 := Tryz.func161.trans (congrArg some (by kernel_rfl))
  t5 := Tryz.underlying5
  a5 := Tryz.isAgg5
  z5 := Tryz.sizeOf5
  v5 := Tryz.zeroValue5 }
open Go.RowKit in
/-- internal/strconv.lower: 'c | ('x' - 'X')': the bit 32 set. The world is as it was. (LAID: no walk: one application.) -/
theorem Tryz.internal_strconv_lower (c : Int) (w : World) :
    Calls Tryz.prog 161 #[.int .u8 c] w fun e w' => e = .returned (.int .u8 (bits .or .u8 c 32)) ∧ w' = w := Any.internal_strconv_lower Tryz.lays321 c w
open Go.RowKit in
/-- strconv.toError, at the inner package's ErrRange: 'rangeError(fn, s)' as an error: A *NumError IN A NEW BLOCK. (LAID: no walk: one application.) -/
theorem Tryz.strconv_toError_range (fn s : ByteArray) (base bits : Int) (ev : Value) (w : World) (hlim : s.size ≤ 281474976710656) (hv : w.cell? ⟨3, 0, none⟩ = some ev) (hev : ev = .nilIface ∨ ∃ te pe, ev = .iface te pe) :
    Calls Tryz.prog 151 #[.string fn, .string s, .int .i64 base, .int .i64 bits, .iface 185 (.int .i64 1)] w fun e w' => ∃ N, e = .returned (.iface 187 (.pointer (some ⟨N, 0, none⟩))) ∧ w.heap.size ≤ N ∧ w'.heap[N]? = some (.cells #[.string fn, .string s, ev] 192 (0, 0)) ∧ Below w.heap.size w w' := Any.strconv_toError_range Tryz.laysC245 fn s base bits ev w hlim hv hev
def Tryz.lays287_ren : Go.Shelf.Ren := ⟨fun | 287 => 150 | 321 => 161 | 322 => 162 | n => n, fun | 9 => 9 | 3 => 3 | 53 => 25 | 75 => 97 | 4 => 4 | 167 => 185 | 5 => 5 | 46 => 108 | 37 => 93 | 0 => 0 | 21 => 21 | 80 => 101 | n => n, fun | n => n⟩
theorem Tryz.lays287 : Go.Proofs.Lays.n287 Tryz.prog Tryz.lays287_ren := {
  mixed := by kernel_rfl
  f287 := Tryz.func150.trans (congrArg some (by kernel_rfl))
  f321 := Tryz.func161.trans (congrArg some (by kernel_rfl))
  f322 := Tryz.func162.trans (congrArg some (by kernel_rfl))
  t0 := Tryz.underlying0
  a0 := Tryz.isAgg0
  z0 := Tryz.sizeOf0
  v0 := Tryz.zeroValue0
  t3 := Tryz.underlying3
  a3 := Tryz.isAgg3
  z3 := Tryz.sizeOf3
  v3 := Tryz.zeroValue3
  t4 := Tryz.underlying4
  a4 := Tryz.isAgg4
  z4 := Tryz.sizeOf4
  v4 := Tryz.zeroValue4
  t5 := Tryz.underlying5
  a5 := Tryz.isAgg5
  z5 := Tryz.sizeOf5
  v5 := Tryz.zeroValue5
  t9 := Tryz.underlying9
  a9 := Tryz.isAgg9
  z9 := Tryz.sizeOf9
  v9 := Tryz.zeroValue9
  t21 := Tryz.underlying21
  a21 := Tryz.isAgg21
  z21 := Tryz.sizeOf21
  v21 := Tryz.zeroValue21
  t37 := Tryz.underlying93
  a37 := Tryz.isAgg93
  z37 := Tryz.sizeOf93
  v37 := Tryz.zeroValue93
  t46 := Tryz.underlying108
  a46 := Tryz.isAgg108
  z46 := Tryz.sizeOf108
  v46 := Tryz.zeroValue108
  t53 := Tryz.underlying25
  a53 := Tryz.isAgg25
  z53 := Tryz.sizeOf25
  v53 := Tryz.zeroValue25
  t75 := Tryz.underlying97
  a75 := Tryz.isAgg97
  z75 := Tryz.sizeOf97
  v75 := Tryz.zeroValue97
  t167 := Tryz.underlying185
  a167 := Tryz.isAgg185
  z167 := Tryz.sizeOf185
  v167 := Tryz.zeroValue185 }
open Go.RowKit in
/-- internal/strconv.ParseUint("", base, bitSize): (0, ErrSyntax): the first test of the text. The world is as it was. (LAID: no walk: one application.) -/
theorem Tryz.internal_strconv_ParseUint_empty (base bits : Int) (w : World) :
    Calls Tryz.prog 150 #[.string ⟨#[]⟩, .int .i64 base, .int .i64 bits] w fun e w' => e = .returned (.tuple #[.int .u64 0, .iface 185 (.int .i64 2)]) ∧ w' = w := Any.internal_strconv_ParseUint_empty Tryz.lays287 base bits w
def Tryz.lays145_ren : Go.Shelf.Ren := ⟨fun | 145 => 59 | 220 => 98 | 219 => 120 | 217 => 139 | 225 => 140 | 224 => 141 | 267 => 142 | 266 => 152 | 314 => 153 | n => n, fun | 9 => 9 | 4 => 4 | 59 => 102 | 3 => 3 | 5 => 5 | 46 => 108 | 146 => 144 | 51 => 143 | n => n, fun | 1 => 0 | n => n⟩
theorem Tryz.lays145 : Go.Proofs.Lays.n145 Tryz.prog Tryz.lays145_ren := {
  mixed := by kernel_rfl
  f145 := Tryz.func59.trans (congrArg some (by kernel_rfl))
  f217 := Tryz.func139.trans (congrArg some (by kernel_rfl))
  f219 := Tryz.func120.trans (congrArg some (by kernel_rfl))
  f220 := Tryz.func98.trans (congrArg some (by kernel_rfl))
  f224 := Tryz.func141.trans (congrArg some (by kernel_rfl))
  f225 := Tryz.func140.trans (congrArg some (by kernel_rfl))
  f266 := Tryz.func152.trans (congrArg some (by kernel_rfl))
  f267 := Tryz.func142.trans (congrArg some (by kernel_rfl))
  f314 := Tryz.func153.trans (congrArg some (by kernel_rfl))
  t3 := Tryz.underlying3
  a3 := Tryz.isAgg3
  z3 := Tryz.sizeOf3
  v3 := Tryz.zeroValue3
  t4 := Tryz.underlying4
  a4 := Tryz.isAgg4
  z4 := Tryz.sizeOf4
  v4 := Tryz.zeroValue4
  t5 := Tryz.underlying5
  a5 := Tryz.isAgg5
  z5 := Tryz.sizeOf5
  v5 := Tryz.zeroValue5
  t9 := Tryz.underlying9
  a9 := Tryz.isAgg9
  z9 := Tryz.sizeOf9
  v9 := Tryz.zeroValue9
  t46 := Tryz.underlying108
  a46 := Tryz.isAgg108
  z46 := Tryz.sizeOf108
  v46 := Tryz.zeroValue108
  t51 := Tryz.underlying143
  a51 := Tryz.isAgg143
  z51 := Tryz.sizeOf143
  v51 := Tryz.zeroValue143
  t59 := Tryz.underlying102
  a59 := Tryz.isAgg102
  z59 := Tryz.sizeOf102
  v59 := Tryz.zeroValue102
  t146 := Tryz.underlying144
  a146 := Tryz.isAgg144
  z146 := Tryz.sizeOf144
  v146 := Tryz.zeroValue144
  g1 := by kernel_rfl }
open Go.RowKit Go.Lib in
/-- strings.Cut: "Cut slices s around the first instance of sep, returning the text before and after sep. The found result reports whether sep appears in s. If sep does not appear in s, cut returns s, "", false.": IT RETURNS 'Lib.cut s sep'; the world is as it was but for the count of draws. (LAID: no walk: one application.) -/
theorem Tryz.strings_Cut (s sep : ByteArray) (m : Int) (w : World) (hs : s.size < 4294967281) (hm : w.cell? ⟨0, 0, none⟩ = some (.int .i64 m)) :
    Calls Tryz.prog 59 #[.string s, .string sep] w fun e w' => e = .returned (.tuple #[.string ⟨(Lib.cut s.data.toList sep.data.toList).1.toArray⟩, .string ⟨(Lib.cut s.data.toList sep.data.toList).2.1.toArray⟩, .bool (Lib.cut s.data.toList sep.data.toList).2.2]) ∧ ∃ n, w' = w.drewN n := Any.strings_Cut Tryz.lays145 s sep m w hs hm
def Tryz.lays138_ren : Go.Shelf.Ren := ⟨fun | 138 => 42 | 195 => 77 | 218 => 78 | 143 => 79 | 219 => 120 | 217 => 139 | 225 => 140 | 224 => 141 | 267 => 142 | 266 => 152 | 314 => 153 | n => n, fun | 9 => 9 | 3 => 3 | 4 => 4 | 5 => 5 | 0 => 0 | 46 => 108 | 146 => 144 | 51 => 143 | n => n, fun | 1 => 0 | n => n⟩
def Tryz.lays148_ren : Go.Shelf.Ren := ⟨fun | 148 => 43 | 222 => 80 | 223 => 81 | 269 => 121 | n => n, fun | 9 => 9 | 3 => 3 | 4 => 4 | 5 => 5 | 146 => 144 | 51 => 143 | 46 => 108 | n => n, fun | n => n⟩
def Tryz.laysGw17_ren : Go.Shelf.Ren := ⟨fun | 17 => 122 | 15 => 143 | 20 => 154 | n => n, fun | 9 => 9 | 23 => 125 | 4 => 4 | 3 => 3 | 0 => 0 | 21 => 21 | n => n, fun | n => n⟩
theorem Tryz.laysGw17 : Go.Proofs.LaysGw.n17 Tryz.prog Tryz.laysGw17_ren := {
  mixed := by kernel_rfl
  f15 := Tryz.func143.trans (congrArg some (by kernel_rfl))
  f17 := Tryz.func122.trans (congrArg some (by kernel_rfl))
  f20 := Tryz.func154.trans (congrArg some (by kernel_rfl))
  t0 := Tryz.underlying0
  a0 := Tryz.isAgg0
  z0 := Tryz.sizeOf0
  v0 := Tryz.zeroValue0
  i0 := by kernel_rfl
  t3 := Tryz.underlying3
  a3 := Tryz.isAgg3
  z3 := Tryz.sizeOf3
  v3 := Tryz.zeroValue3
  i3 := by kernel_rfl
  t4 := Tryz.underlying4
  a4 := Tryz.isAgg4
  z4 := Tryz.sizeOf4
  v4 := Tryz.zeroValue4
  i4 := by kernel_rfl
  t9 := Tryz.underlying9
  a9 := Tryz.isAgg9
  z9 := Tryz.sizeOf9
  v9 := Tryz.zeroValue9
  i9 := by kernel_rfl
  t21 := Tryz.underlying21
  a21 := Tryz.isAgg21
  z21 := Tryz.sizeOf21
  v21 := Tryz.zeroValue21
  i21 := by kernel_rfl
  t23 := Tryz.underlying125
  a23 := Tryz.isAgg125
  z23 := Tryz.sizeOf125
  v23 := Tryz.zeroValue125
  i23 := by kernel_rfl }
def Tryz.lays100_ren : Go.Shelf.Ren := ⟨fun | 100 => 39 | 207 => 75 | n => n, fun | 9 => 9 | 4 => 4 | 3 => 3 | n => n, fun | n => n⟩
def Tryz.lays102_ren : Go.Shelf.Ren := ⟨fun | 102 => 40 | 209 => 76 | 207 => 75 | n => n, fun | 9 => 9 | 4 => 4 | 3 => 3 | n => n, fun | n => n⟩
def Tryz.lays146_ren : Go.Shelf.Ren := ⟨fun | 146 => 100 | 221 => 129 | 268 => 149 | 138 => 42 | 143 => 79 | 195 => 77 | 197 => 160 | 218 => 78 | 219 => 120 | 260 => 169 | 217 => 139 | 225 => 140 | 224 => 141 | 267 => 142 | 266 => 152 | 314 => 153 | n => n, fun | 9 => 9 | 31 => 77 | 3 => 3 | 4 => 4 | 0 => 0 | 105 => 183 | 21 => 21 | 5 => 5 | 46 => 108 | 119 => 196 | 139 => 199 | 138 => 198 | 146 => 144 | 51 => 143 | n => n, fun | 1 => 0 | 3 => 6 | 4 => 7 | n => n⟩
theorem Tryz.lays146 : Go.Proofs.Lays.n146 Tryz.prog Tryz.lays146_ren := {
  mixed := by kernel_rfl
  f138 := Tryz.func42.trans (congrArg some (by kernel_rfl))
  f143 := Tryz.func79.trans (congrArg some (by kernel_rfl))
  f146 := Tryz.func100.trans (congrArg some (by kernel_rfl))
  f195 := Tryz.func77.trans (congrArg some (by kernel_rfl))
  f197 := Tryz.func160.trans (congrArg some (by kernel_rfl))
  f217 := Tryz.func139.trans (congrArg some (by kernel_rfl))
  f218 := Tryz.func78.trans (congrArg some (by kernel_rfl))
  f219 := Tryz.func120.trans (congrArg some (by kernel_rfl))
  f221 := Tryz.func129.trans (congrArg some (by kernel_rfl))
  f224 := Tryz.func141.trans (congrArg some (by kernel_rfl))
  f225 := Tryz.func140.trans (congrArg some (by kernel_rfl))
  f260 := Tryz.func169.trans (congrArg some (by kernel_rfl))
  f266 := Tryz.func152.trans (congrArg some (by kernel_rfl))
  f267 := Tryz.func142.trans (congrArg some (by kernel_rfl))
  f268 := Tryz.func149.trans (congrArg some (by kernel_rfl))
  f314 := Tryz.func153.trans (congrArg some (by kernel_rfl))
  t0 := Tryz.underlying0
  a0 := Tryz.isAgg0
  z0 := Tryz.sizeOf0
  v0 := Tryz.zeroValue0
  t3 := Tryz.underlying3
  a3 := Tryz.isAgg3
  z3 := Tryz.sizeOf3
  v3 := Tryz.zeroValue3
  t4 := Tryz.underlying4
  a4 := Tryz.isAgg4
  z4 := Tryz.sizeOf4
  v4 := Tryz.zeroValue4
  t5 := Tryz.underlying5
  a5 := Tryz.isAgg5
  z5 := Tryz.sizeOf5
  v5 := Tryz.zeroValue5
  t9 := Tryz.underlying9
  a9 := Tryz.isAgg9
  z9 := Tryz.sizeOf9
  v9 := Tryz.zeroValue9
  t21 := Tryz.underlying21
  a21 := Tryz.isAgg21
  z21 := Tryz.sizeOf21
  v21 := Tryz.zeroValue21
  t31 := Tryz.underlying77
  a31 := Tryz.isAgg77
  z31 := Tryz.sizeOf77
  v31 := Tryz.zeroValue77
  t46 := Tryz.underlying108
  a46 := Tryz.isAgg108
  z46 := Tryz.sizeOf108
  v46 := Tryz.zeroValue108
  t51 := Tryz.underlying143
  a51 := Tryz.isAgg143
  z51 := Tryz.sizeOf143
  v51 := Tryz.zeroValue143
  t105 := Tryz.underlying183
  a105 := Tryz.isAgg183
  z105 := Tryz.sizeOf183
  v105 := Tryz.zeroValue183
  t119 := Tryz.underlying196
  a119 := Tryz.isAgg196
  z119 := Tryz.sizeOf196
  t138 := Tryz.underlying198
  a138 := Tryz.isAgg198
  z138 := Tryz.sizeOf198
  v138 := Tryz.zeroValue198
  t139 := Tryz.underlying199
  a139 := Tryz.isAgg199
  z139 := Tryz.sizeOf199
  v139 := Tryz.zeroValue199
  t146 := Tryz.underlying144
  a146 := Tryz.isAgg144
  z146 := Tryz.sizeOf144
  v146 := Tryz.zeroValue144
  g1 := by kernel_rfl
  g3 := by kernel_rfl
  g4 := by kernel_rfl }
open Go.RowKit Go.Lib in
/-- strings.Split. (LAID: no walk: one application.) -/
theorem Tryz.strings_Split (s sep : ByteArray) (m : Int) (w : World) (hs : s.size < 4294967281) (hm : w.cell? ⟨0, 0, none⟩ = some (.int .i64 m)) (h1 : 1 ≤ sep.size) :
    Calls Tryz.prog 100 #[.string s, .string sep] w fun e w' =>
      e = .returned (.slice (some ⟨w.heap.size, 0, none⟩) (Lib.countB s sep + 1) (Lib.countB s sep + 1)) ∧ w' = w.alloc (.cells ((Lib.splitB sep 0 (Lib.countB s sep) s).map Value.string).toArray 9) := Any.strings_Split Tryz.lays146 (by kernel_rfl) s sep m w hs hm h1
def Tryz.lays105_ren : Go.Shelf.Ren := ⟨fun | 105 => 26 | 212 => 64 | 99 => 65 | 165 => 66 | 166 => 55 | 170 => 67 | 169 => 57 | 263 => 112 | 264 => 113 | 206 => 114 | 240 => 93 | 241 => 115 | 276 => 127 | 277 => 137 | n => n, fun | 9 => 9 | 3 => 3 | 4 => 4 | 20 => 20 | 0 => 0 | 46 => 108 | 109 => 109 | 5 => 5 | 72 => 95 | 76 => 98 | 51 => 143 | 146 => 144 | 53 => 25 | 148 => 146 | 70 => 92 | 37 => 93 | 75 => 97 | 127 => 131 | 164 => 157 | 80 => 101 | n => n, fun | n => n⟩
theorem Tryz.lays105 : Go.Proofs.Lays.n105 Tryz.prog Tryz.lays105_ren := {
  mixed := by kernel_rfl
  f99 := Tryz.func65.trans (congrArg some (by kernel_rfl))
  f105 := Tryz.func26.trans (congrArg some (by kernel_rfl))
  f165 := Tryz.func66.trans (congrArg some (by kernel_rfl))
  f166 := Tryz.func55.trans (congrArg some (by kernel_rfl))
  f169 := Tryz.func57.trans (congrArg some (by kernel_rfl))
  f170 := Tryz.func67.trans (congrArg some (by kernel_rfl))
  f206 := Tryz.func114.trans (congrArg some (by kernel_rfl))
  f212 := Tryz.func64.trans (congrArg some (by kernel_rfl))
  f240 := Tryz.func93.trans (congrArg some (by kernel_rfl))
  f241 := Tryz.func115.trans (congrArg some (by kernel_rfl))
  f263 := Tryz.func112.trans (congrArg some (by kernel_rfl))
  f264 := Tryz.func113.trans (congrArg some (by kernel_rfl))
  f276 := Tryz.func127.trans (congrArg some (by kernel_rfl))
  f277 := Tryz.func137.trans (congrArg some (by kernel_rfl))
  t0 := Tryz.underlying0
  a0 := Tryz.isAgg0
  z0 := Tryz.sizeOf0
  v0 := Tryz.zeroValue0
  t3 := Tryz.underlying3
  a3 := Tryz.isAgg3
  z3 := Tryz.sizeOf3
  v3 := Tryz.zeroValue3
  t4 := Tryz.underlying4
  a4 := Tryz.isAgg4
  z4 := Tryz.sizeOf4
  v4 := Tryz.zeroValue4
  t5 := Tryz.underlying5
  a5 := Tryz.isAgg5
  z5 := Tryz.sizeOf5
  v5 := Tryz.zeroValue5
  t9 := Tryz.underlying9
  a9 := Tryz.isAgg9
  z9 := Tryz.sizeOf9
  v9 := Tryz.zeroValue9
  t20 := Tryz.underlying20
  a20 := Tryz.isAgg20
  z20 := Tryz.sizeOf20
  v20 := Tryz.zeroValue20
  t37 := Tryz.underlying93
  a37 := Tryz.isAgg93
  z37 := Tryz.sizeOf93
  v37 := Tryz.zeroValue93
  t46 := Tryz.underlying108
  a46 := Tryz.isAgg108
  z46 := Tryz.sizeOf108
  v46 := Tryz.zeroValue108
  t51 := Tryz.underlying143
  a51 := Tryz.isAgg143
  z51 := Tryz.sizeOf143
  v51 := Tryz.zeroValue143
  t53 := Tryz.underlying25
  a53 := Tryz.isAgg25
  z53 := Tryz.sizeOf25
  v53 := Tryz.zeroValue25
  t70 := Tryz.underlying92
  a70 := Tryz.isAgg92
  z70 := Tryz.sizeOf92
  v70 := Tryz.zeroValue92
  t72 := Tryz.underlying95
  a72 := Tryz.isAgg95
  z72 := Tryz.sizeOf95
  v72 := Tryz.zeroValue95
  t75 := Tryz.underlying97
  a75 := Tryz.isAgg97
  z75 := Tryz.sizeOf97
  v75 := Tryz.zeroValue97
  t76 := Tryz.underlying98
  a76 := Tryz.isAgg98
  z76 := Tryz.sizeOf98
  v76 := Tryz.zeroValue98
  t109 := Tryz.underlying109
  a109 := Tryz.isAgg109
  z109 := Tryz.sizeOf109
  v109 := Tryz.zeroValue109
  t127 := Tryz.underlying131
  a127 := Tryz.isAgg131
  z127 := Tryz.sizeOf131
  v127 := Tryz.zeroValue131
  t146 := Tryz.underlying144
  a146 := Tryz.isAgg144
  z146 := Tryz.sizeOf144
  v146 := Tryz.zeroValue144
  t148 := Tryz.underlying146
  a148 := Tryz.isAgg146
  z148 := Tryz.sizeOf146
  v148 := Tryz.zeroValue146
  t164 := Tryz.underlying157
  a164 := Tryz.isAgg157
  z164 := Tryz.sizeOf157
  v164 := Tryz.zeroValue157 }
theorem Tryz.Builder_Extra_105 : Builder.Extra Tryz.prog Tryz.lays105_ren := {
  sizeBuilder := by kernel_rfl
  liesBuilder := by kernel_rfl
  t5 := Tryz.underlying5
  a5 := Tryz.isAgg5
  z5 := Tryz.sizeOf5
  v5 := Tryz.zeroValue5
  infoByte := by kernel_rfl
  cellsByte := by kernel_rfl
  sizeByte := by kernel_rfl
  neB5 := by decide }
open Go.RowKit Go.Lib in
/-- **strings.Repeat: count ≥ 0, the result within one allocation: count copies of s.** (LAID: no walk: one application.) -/
theorem Tryz.strings_Repeat (s : ByteArray) (c : Nat) (w : World) (hc : c ≤ 9223372036854775807) (hlen : s.size * c ≤ 140737488355328) :
    Calls Tryz.prog 26 #[.string s, .int .i64 c] w fun e w' => e = .returned (.string ⟨(Lib.repeatL s.data.toList c).toArray⟩) ∧ Below w.heap.size w w' := Any.strings_Repeat Tryz.lays105 Tryz.Builder_Extra_105 s c w hc hlen
open Go.RowKit Go.Lib in
theorem Tryz.strings_ContainsFunc_grows (g : Nat) (lb : Array Value) (eg : ∀ args w, (callFunc g args).run Tryz.prog w = .ok (.enter g args) w) (p : Nat → Bool) (s : ByteArray) (w : World) (hp : PredGrows Tryz.prog g lb p w) :
    Calls Tryz.prog 122 #[.string s, .func (.func g) #[] lb] w fun e w' => e = .returned (.bool (decide (0 ≤ Lib.idxFunc p true s))) ∧ Below w.heap.size w w' := Any.strings_ContainsFunc_grows Tryz.laysGw17 g lb eg p s w hp
def Tryz.lays109_ren : Go.Shelf.Ren := ⟨fun | 109 => 102 | n => n, fun | 31 => 77 | 9 => 9 | 3 => 3 | 0 => 0 | 4 => 4 | n => n, fun | n => n⟩
theorem Tryz.lays109 : Go.Proofs.Lays.n109 Tryz.prog Tryz.lays109_ren := {
  mixed := by kernel_rfl
  f109 := Tryz.func102.trans (congrArg some (by kernel_rfl))
  t0 := Tryz.underlying0
  a0 := Tryz.isAgg0
  z0 := Tryz.sizeOf0
  v0 := Tryz.zeroValue0
  t3 := Tryz.underlying3
  a3 := Tryz.isAgg3
  z3 := Tryz.sizeOf3
  v3 := Tryz.zeroValue3
  t4 := Tryz.underlying4
  a4 := Tryz.isAgg4
  z4 := Tryz.sizeOf4
  v4 := Tryz.zeroValue4
  t9 := Tryz.underlying9
  a9 := Tryz.isAgg9
  z9 := Tryz.sizeOf9
  v9 := Tryz.zeroValue9
  t31 := Tryz.underlying77
  a31 := Tryz.isAgg77
  z31 := Tryz.sizeOf77
  v31 := Tryz.zeroValue77 }
open Go.Lib in
/-- slices.Index at []string: "Index returns the index of the first occurrence of v in s, or -1 if not present.": IT RETURNS 'Lib.idxOfS (the elements) v'; the world is as it was. 'zs': what the cells behind the slice's address hold (its spare capacity too, if you have it); 'zs.take n': its elements. (LAID: no walk: one application.) -/
theorem Tryz.slices_Index_string (b off n c : Nat) (zs : List ByteArray) (x : ByteArray) (w : World) (hz : n ≤ zs.length) (hbig : n ≤ 9223372036854775807) (hc : ∀ j, j < zs.length → w.cell? ⟨b, off + j, none⟩ = some (.string (zs.getD j ByteArray.empty))) :
    Calls Tryz.prog 102 #[.slice (some ⟨b, off, none⟩) n c, .string x] w fun e w' => e = .returned (.int .i64 (Lib.idxOfS (zs.take n) x)) ∧ w' = w := Any.slices_Index_string Tryz.lays109 b off n c zs x w hz hbig hc
end Go.Proofs
