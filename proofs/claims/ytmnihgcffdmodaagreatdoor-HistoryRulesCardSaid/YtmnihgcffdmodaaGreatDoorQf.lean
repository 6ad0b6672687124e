/-
  Walks of the history's functions (3). Conditions: those of each statement.
-/
import Derived.Test.YtmnihgcffdmodaaGreatDoorQe
set_option linter.unusedVariables false
set_option linter.unusedSimpArgs false
set_option maxRecDepth 20000
namespace Go.Proofs.YtmnihgcffdmodaaGreatDoor
open Go Go.E RowKit
attribute [local irreducible] Go.E.T Go.E.L Go.E.O Go.E.Ob

attribute [local irreducible] Go.E.ObX Go.E.ObK
/-- What somebody sees of an item. -/
def viewIt (who : Str) (x : It) : It := ⟨x.nm, if x.op = true ∨ x.ow = who then x.ow else [], x.ver, 0, false, x.op, x.con⟩
def viewL (who : Str) (its : List It) : List It := (its.filter fun x => !x.wd).map (viewIt who)
theorem viewL_no {who : Str} {its : List It} {i : Nat} (hi : i < its.length) (h : (its.getD i i0).wd = true) : viewL who (its.take (i + 1)) = viewL who (its.take i) := by
  rw [take_snoc (d := i0) hi, viewL, viewL, List.filter_append, List.map_append]
  simp only [List.filter_cons, h, Bool.not_true, Bool.false_eq_true, if_false, List.filter_nil, List.map_nil, List.append_nil]
theorem viewL_yes {who : Str} {its : List It} {i : Nat} (hi : i < its.length) (h : (its.getD i i0).wd = false) : viewL who (its.take (i + 1)) = viewL who (its.take i) ++ [viewIt who (its.getD i i0)] := by
  rw [take_snoc (d := i0) hi, viewL, viewL, List.filter_append, List.map_append]
  simp only [List.filter_cons, h, Bool.not_false, if_true, List.filter_nil, List.map_cons, List.map_nil]
theorem viewL_len (who : Str) (its : List It) : (viewL who its).length ≤ its.length := by
  rw [viewL, List.length_map]; exact List.length_filter_le _ _
def viewR (xs : List En) (who : Str) : List It × Int := if (replayR xs).2.2 = 0 then (if nameB who = true then (viewL who (replayR xs).1.its, 0) else ([], 2)) else ([], (replayR xs).2.2)
theorem replay_len (xs : List En) : (replayR xs).1.its.length ≤ 60 ∧ ((replayR xs).2.2 = 0 → checkE xs = 0) := by
  have key : ∀ (ys : List En) (s : St) (i : Nat), (goE s ys i).1.its.length ≤ s.its.length + ys.length := by
    intro ys
    induction ys with
    | nil => intro s i; simp [goE]
    | cons y r ih =>
      intro s i
      rw [goE]
      cases h : stepE s y with
      | none => simp [s0]
      | some s' =>
        have h1 := stepE_len h
        have h2 := ih s' (i + 1)
        simp only [List.length_cons]; omega
  rw [replayR]
  by_cases h : checkE xs = 0
  · rw [if_pos h]
    have h1 := key xs s0 0
    have h2 := (check_right h).1
    have h0 : s0.its.length = 0 := rfl
    exact ⟨by omega, fun _ => h⟩
  · rw [if_neg h]
    exact ⟨by simp [s0], fun e => e⟩
/-- A history with an entry more. -/
def appR (xs : List En) (x : En) : List En × Int := if (replayR xs).2.2 = 0 then (if xs.length = 60 then ([], 3) else if rightE x = true then (match stepE (replayR xs).1 x with | none => ([], 8) | some _ => (xs ++ [x], 0)) else ([], 430)) else ([], (replayR xs).2.2)
end Go.Proofs.YtmnihgcffdmodaaGreatDoor
set_option linter.unusedVariables false
set_option linter.unusedSimpArgs false
set_option maxRecDepth 20000
namespace Go.Proofs.YtmnihgcffdmodaaGreatDoor
open Go Go.E RowKit
attribute [local irreducible] Go.E.T Go.E.L Go.E.O Go.E.Ob

attribute [local irreducible] Go.E.ObX Go.E.ObK
def OwnE (base n : Nat) (cs : List Value) (v : Value) (w : World) : Prop := w.ownsRow base 42 6 v n cs
theorem OwnE.st {base n : Nat} {cs : List Value} : ∀ v w w', Ext w w' → OwnE base n cs v w → OwnE base n cs v w' := fun _ _ _ he h => owns_keep h he (Nat.zero_le _)
/-- An empty list, in a new block. -/
def NilE (base : Nat) (v : Value) (w : World) : Prop := ∃ b, v = .slice (some ⟨b, 0, none⟩) 0 0 ∧ base ≤ b ∧ Blk w b [] 42
theorem OwnE.mono {base base' n : Nat} {cs : List Value} {v : Value} {w : World} (h : OwnE base n cs v w) (hb : base' ≤ base) : OwnE base' n cs v w :=
  ⟨h.1, h.2.imp id fun ⟨g, cap, cur, e, h1, rest⟩ => ⟨g, cap, cur, e, Nat.le_trans hb h1, rest⟩⟩
def LitE (x : En) (v : Value) (w : World) : Prop := Sl 0 w v 1 6 x.cells
theorem LitE.st {x : En} : ∀ v w w', Ext w w' → LitE x v w → LitE x v w' := fun _ _ _ he h => Sl.ext h he
end Go.Proofs.YtmnihgcffdmodaaGreatDoor
set_option linter.unusedVariables false
set_option linter.unusedSimpArgs false
set_option maxRecDepth 20000
namespace Go.Proofs.YtmnihgcffdmodaaGreatDoor
open Go Go.E RowKit
attribute [local irreducible] Go.E.T Go.E.L Go.E.O Go.E.Ob

attribute [local irreducible] Go.E.ObX Go.E.ObK
section
variable {C : Cx} {e : Env} {w : World} {K : Value → World → Prop} {d : Option Tmp} {ty : TypeId} {pos : String} {aft : Array Edge} {g : Option (Nat × Bool)} {x y : Operand} {tx ty' : TypeId} {m n : Int}
theorem O.add8 (hx : ev e x = some (.int .u8 m)) (hy : ev e y = some (.int .u8 n)) (hb : 0 ≤ m + n ∧ m + n ≤ 255) (h : K (.int .u8 (m + n)) w) : O C e ⟨d, .binOp .add tx x y ty', ty, pos, aft, g⟩ w K :=
  O.add hx hy (by rw [IntWalk.u8_in _ hb]; exact h)
theorem O.sub8 (hx : ev e x = some (.int .u8 m)) (hy : ev e y = some (.int .u8 n)) (hb : 0 ≤ m - n ∧ m - n ≤ 255) (h : K (.int .u8 (m - n)) w) : O C e ⟨d, .binOp .sub tx x y ty', ty, pos, aft, g⟩ w K :=
  O.sub hx hy (by rw [IntWalk.u8_in _ hb]; exact h)
end
/-- A hexadecimal digit. -/
def hexD (n : Nat) : UInt8 := UInt8.ofNat (if n < 10 then 48 + n else 87 + n)
def hexTo (n : Nat) : Nat → Str
  | 0 => []
  | i + 1 => hexD (n / 16 ^ i % 16) :: hexTo n i
/-- The sixteen digits of a number. -/
def hex16 (n : Nat) : Str := hexTo n 16
theorem hexTo_len (n : Nat) : ∀ i, (hexTo n i).length = i
  | 0 => rfl
  | i + 1 => by simp [hexTo, hexTo_len n i]
def octL (s : Str) : Str := s.flatMap fun b => [hexD (b.toNat / 16), hexD (b.toNat % 16)]
def octetsL (s : Str) : Str := if s = [] then [45] else octL s
theorem octL_snoc {s : Str} {i : Nat} (h : i < s.length) : octL (s.take (i + 1)) = octL (s.take i) ++ [hexD ((s.getD i 0).toNat / 16)] ++ [hexD ((s.getD i 0).toNat % 16)] := by
  rw [take_snoc (d := 0) h, octL, octL, List.flatMap_append]; simp
theorem octL_len : ∀ s : Str, (octL s).length = s.length * 2
  | [] => rfl
  | b :: r => by
    have := octL_len r
    simp only [octL, List.flatMap_cons, List.length_append, List.length_cons, List.length_nil] at this ⊢
    omega
theorem octets_len (s : Str) : (octetsL s).length ≤ s.length * 2 + 1 := by
  rw [octetsL]; split
  · simp
  · rw [octL_len]; omega
def kwSubmit : Str := [115, 117, 98, 109, 105, 116]
def kwRevise : Str := [114, 101, 118, 105, 115, 101]
def kwWithdraw : Str := [119, 105, 116, 104, 100, 114, 97, 119]
def kwClose : Str := [99, 108, 111, 115, 101]
def kwOpen : Str := [111, 112, 101, 110]
/-- The line of an entry, without its end. -/
def lineE (x : En) : Str :=
  if x.k = 1 then kwSubmit ++ [32] ++ x.who ++ [32] ++ x.item ++ [32] ++ hex16 x.sl
  else if x.k = 2 then kwRevise ++ [32] ++ x.who ++ [32] ++ x.item ++ [32] ++ hex16 x.sl
  else if x.k = 3 then kwWithdraw ++ [32] ++ x.who ++ [32] ++ x.item
  else if x.k = 4 then kwClose ++ [32] ++ x.who
  else kwOpen ++ [32] ++ x.who ++ [32] ++ x.item ++ [32] ++ octetsL x.non ++ [32] ++ octetsL x.con
end Go.Proofs.YtmnihgcffdmodaaGreatDoor
set_option linter.unusedVariables false
set_option linter.unusedSimpArgs false
set_option maxRecDepth 20000
namespace Go.Proofs.YtmnihgcffdmodaaGreatDoor
open Go Go.E RowKit
attribute [local irreducible] Go.E.T Go.E.L Go.E.O Go.E.Ob

attribute [local irreducible] Go.E.ObX Go.E.ObK
theorem hex16_len (n : Nat) : (hex16 n).length = 16 := hexTo_len n 16
theorem line_len {x : En} (hb : Bounds x) : (lineE x).length ≤ 600 := by
  have h1 := hb.who
  have h2 := hb.item
  have h3 := octets_len x.non
  have h4 := octets_len x.con
  have h5 := hb.con
  have h6 := hb.non
  have h7 := hex16_len x.sl
  unfold lineE
  split
  · simp only [List.length_append, List.length_cons, List.length_nil, kwSubmit, h7]; omega
  · split
    · simp only [List.length_append, List.length_cons, List.length_nil, kwRevise, h7]; omega
    · split
      · simp only [List.length_append, List.length_cons, List.length_nil, kwWithdraw]; omega
      · split
        · simp only [List.length_append, List.length_cons, List.length_nil, kwClose]; omega
        · simp only [List.length_append, List.length_cons, List.length_nil, kwOpen]; omega
/-- The text of entries. -/
def textL (xs : List En) : Str := xs.flatMap fun x => lineE x ++ [10]
theorem textL_snoc {xs : List En} {i : Nat} (h : i < xs.length) : textL (xs.take (i + 1)) = textL (xs.take i) ++ lineE (xs.getD i e0) ++ [10] := by
  rw [take_snoc (d := e0) h, textL, textL, List.flatMap_append]; simp
theorem textL_len : ∀ xs : List En, (∀ x ∈ xs, Bounds x) → (textL xs).length ≤ xs.length * 601
  | [], _ => by simp [textL]
  | x :: r, h => by
    have h1 := line_len (h x (List.mem_cons_self ..))
    have h2 := textL_len r (fun y hy => h y (List.mem_cons_of_mem _ hy))
    simp only [textL, List.flatMap_cons, List.length_append, List.length_cons, List.length_nil] at h2 ⊢
    omega
def textR (xs : List En) : Str × Int := if checkE xs = 0 then (textL xs, 0) else ([], checkE xs)
def chainL (xs : List En) : Nat := xs.foldl (fun c x => sealN (lineE x) (hex16 c)) 0
def chainR (xs : List En) : Nat × Int := if (replayR xs).2.2 = 0 then (chainL xs, 0) else (0, (replayR xs).2.2)
theorem bounds_all {xs : List En} (h : checkE xs = 0) : ∀ x ∈ xs, Bounds x := fun x hx => right_bounds ((check_right h).2 x hx)
end Go.Proofs.YtmnihgcffdmodaaGreatDoor
set_option linter.unusedVariables false
set_option linter.unusedSimpArgs false
set_option maxRecDepth 20000
namespace Go.Proofs.YtmnihgcffdmodaaGreatDoor
open Go Go.E RowKit
attribute [local irreducible] Go.E.T Go.E.L Go.E.O Go.E.Ob

attribute [local irreducible] Go.E.ObX Go.E.ObK
section
variable {C : Cx} {e : Env} {w : World} {K : Value → World → Prop} {d : Option Tmp} {ty : TypeId} {pos : String} {aft : Array Edge} {g : Option (Nat × Bool)} {x y : Operand} {t : TypeId}
/-- 'a[l:]' of an array that is pointed at. -/
theorem O.slice_arr_l {ad : Addr} {n sz l : Nat} {el : TypeId} {kd : IntKind} {m : Int} (hu : ∀ w, (underlying t).run C.P w = .ok (.array n el) w) (hs : ∀ w, (sizeOf el).run C.P w = .ok sz w) (hx : ev e x = some (.pointer (some ad))) (hy : ev e y = some (.int kd m)) (hm : m = l) (h1 : l < n) (h : K (.slice (some (ad.add (l * sz))) (n - l) (n - l)) w) :
    O C e ⟨d, .slice t x (some y) none none, ty, pos, aft, g⟩ w K :=
  O.of_run (by simp) (fun a ha => by
    subst hm
    have h2 : l ≤ n := by omega
    have hne : ¬ n = l := by omega
    simp [execOp, Instr.sliceAt, Instr.sureAddr, Instr.sliceBounds, Instr.sliceBound, asIntOf, ha.eval hx, ha.eval hy, hu w, hs w, h2, hne]) h
end
def digitsS : Str := [48, 49, 50, 51, 52, 53, 54, 55, 56, 57, 97, 98, 99, 100, 101, 102] ++ [103, 104, 105, 106, 107, 108, 109, 110, 111, 112, 113, 114, 115, 116, 117, 118, 119, 120, 121, 122]
theorem digitsS_get : ∀ k : Nat, k < 16 → digitsS.getD k 0 = hexD k := by decide
theorem and15 (q : Nat) : q &&& 15 = q % 16 := Nat.and_two_pow_sub_one_eq_mod q 4
def u8V (c : UInt8) : Value := .int .u8 (c.toNat : Int)
theorem set_drop {cs : List Value} {i : Nat} {v : Value} (h : i < cs.length) : (cs.set i v).drop i = v :: cs.drop (i + 1) := by
  rw [List.drop_eq_getElem_cons (by rw [List.length_set]; exact h), List.getElem_set_self, List.drop_set_of_lt (by omega)]
theorem hexTo_small {n j : Nat} (h : n / 16 ^ j < 16) : hexTo n (j + 1) = hexD (n / 16 ^ j) :: hexTo n j := by rw [hexTo, Nat.mod_eq_of_lt h]
theorem hexTo_zeros {n j : Nat} (h : n / 16 ^ j < 16) : ∀ d, hexTo n (j + 1 + d) = List.replicate d 48 ++ hexTo n (j + 1)
  | 0 => rfl
  | d + 1 => by
    have hz : n / 16 ^ (j + 1 + d) = 0 := by
      rw [show j + 1 + d = j + (d + 1) by omega, Nat.pow_add, ← Nat.div_div_eq_div_mul]
      exact Nat.div_eq_of_lt (Nat.lt_of_lt_of_le h (by rw [Nat.pow_succ]; have : 0 < 16 ^ d := Nat.pow_pos (by decide); omega))
    rw [show j + 1 + (d + 1) = (j + 1 + d) + 1 by omega, hexTo, hz, hexTo_zeros h d]
    rfl
theorem pow2_calls (w : World) :
    Calls Tryz.prog 158 #[.int .i64 16] w (Ret fun v w' => v = .bool true ∧ w' = w) := by
  refine T.enter (vs := [.int .i64 16]) Tryz.func158 rfl Tryz.ntmps158 rfl ?_
  refine T.seq (T.region (L.op rfl rfl (O.assign rfl (L.nil (T.seq (T.region (L.op rfl rfl (O.move rfl (L.op rfl rfl (O.move rfl (L.op rfl rfl (O.sub64 rfl rfl (by omega) (L.op rfl rfl (O.and_i64 rfl rfl (a := 16) (b := 15) rfl rfl (by decide) (by decide) (L.op rfl rfl (O.eql_t rfl rfl (by decide) (L.op rfl rfl (O.assign rfl (L.nil (T.ret1 Tryz.results158 rfl ⟨rfl, rfl⟩))))))))))))))))))))

theorem tz64_calls (w : World) (hL : LibM w) :
    Calls Tryz.prog 168 #[.int .u64 16] w (Ret fun v w' => v = .int .i64 4 ∧ w' = w) := by
  refine T.enter (vs := [.int .u64 16]) Tryz.func168 rfl Tryz.ntmps168 rfl ?_
  refine T.seq (T.region (L.op rfl rfl (O.assign rfl (L.nil (T.seq (T.seq (T.region (L.op rfl rfl (O.move rfl (L.op rfl rfl (O.eql_f rfl rfl (by decide) (L.nil (T.cond_false rfl (T.skip (T.seq (T.region (L.op rfl rfl (O.move rfl (L.op rfl rfl (O.move rfl (L.op rfl rfl (O.neg rfl (L.op rfl rfl (O.and_u64 (a := 16) (b := 18446744073709551600) rfl rfl (by decide) (by decide) rfl rfl (L.op rfl rfl (O.mul_u64 (a := 16) (b := 285870213051353865) rfl rfl (by decide) (by decide) rfl rfl (L.op rfl rfl (O.shr_u64 rfl rfl rfl (by decide) (by omega) (L.op rfl rfl (O.indexAddr_arr Tryz.runUnderlying195 Tryz.sizeOf5 rfl rfl (by decide) (by decide) (L.op rfl rfl (O.load Tryz.isAgg5 rfl hL.deb (L.op rfl rfl (O.conv_to rfl (fun w => ⟨_, Tryz.runUnderlying5 w⟩) Tryz.runUnderlying3 (IntWalk.i64_in _ ⟨by decide, by decide⟩) (L.op rfl rfl (O.assign rfl (?_)))))))))))))))))))))))))))))))))))))
  refine L.nil (T.ret1 Tryz.results168 rfl ⟨rfl, rfl⟩)

theorem tz_calls (w : World) (hL : LibM w) :
    Calls Tryz.prog 159 #[.int .u64 16] w (Ret fun v w' => v = .int .i64 4 ∧ w' = w) := by
  refine T.enter (vs := [.int .u64 16]) Tryz.func159 rfl Tryz.ntmps159 rfl ?_
  refine T.seq (T.region (L.op rfl rfl (O.assign rfl (L.nil (T.seq (T.cond_false rfl (T.skip (T.seq (T.region (L.op rfl rfl (O.move rfl (L.op rfl rfl (O.call (xs := [.tmp 6]) Tryz.call168 rfl rfl (tz64_calls w hL) (fun v1 w1 hq => ?_))))))))))))))
  obtain ⟨rfl, rfl⟩ := hq
  refine L.op rfl rfl (O.assign rfl (L.nil (T.ret1 Tryz.results159 rfl ⟨rfl, rfl⟩)))

set_option maxHeartbeats 1000000 in
theorem formatBits_calls (n : Nat) (w : World) (hL : LibM w) (hn : n < 18446744073709551616) :
    Calls Tryz.prog 147 #[.slice none 0 0, wordV n, .int .i64 16, .bool false, .bool false] w (Ret fun v w' => ∃ j, j ≤ 15 ∧ n / 16 ^ j < 16 ∧ v = .tuple #[.slice none 0 0, str (hexTo n (j + 1))] ∧ Ext w w') := by
  refine T.enter (vs := [.slice none 0 0, wordV n, .int .i64 16, .bool false, .bool false]) Tryz.func147 rfl Tryz.ntmps147 rfl ?_
  refine T.seq (T.region (L.op rfl rfl (O.assign rfl (L.op rfl rfl (O.assign rfl (L.nil (T.seq (T.seq (T.region (L.op rfl rfl (O.move rfl (L.op rfl rfl (O.lss_f rfl rfl (by decide) (L.op rfl rfl (O.move rfl (L.op rfl rfl (O.move rfl (L.op rfl rfl (O.eql_f rfl rfl (by decide) (L.op rfl rfl (O.pick_false rfl rfl (L.op rfl rfl (O.move rfl (L.op rfl rfl (O.move rfl (L.op rfl rfl (O.gtr_f rfl rfl (by decide) (L.op rfl rfl (O.pick_false rfl rfl (L.nil (T.cond_false rfl (T.skip (T.seq (T.region (L.op rfl rfl (O.alloc Tryz.zeroValue181 (fun b12 w12 hb12 hz12 he12 hB12 => ?_)))))))))))))))))))))))))))))))))))))
  obtain ⟨zs, hzl, hZ⟩ : ∃ zs : List Value, zs.length = 65 ∧ Blk w12 b12 zs 181 := ⟨(Value.agg Tryz.zeroCells181).cells.toList, by kernel_rfl, hB12⟩
  have hL12 := hL.ext he12
  refine L.nil (T.seq (T.region (L.op rfl rfl (O.assign rfl (L.nil (T.seq (T.seq (T.region (L.op rfl rfl (O.move rfl (L.nil (T.cond_false rfl (T.skip (T.seq (T.seq (T.region (L.op rfl rfl (O.move rfl (L.op rfl rfl (O.call (xs := [.tmp 33]) Tryz.call158 rfl rfl (pow2_calls w12) (fun v34 w34 hq => ?_)))))))))))))))))))))
  obtain ⟨rfl, rfl⟩ := hq
  refine L.nil (T.cond_true rfl (T.seq (T.region (L.op rfl rfl (O.move rfl (L.op rfl rfl (O.conv_to rfl (fun w => ⟨_, Tryz.runUnderlying3 w⟩) Tryz.runUnderlying108 (IntWalk.u64_in _ ⟨by decide, by decide⟩) (L.op rfl rfl (O.call (xs := [.tmp 36]) Tryz.call159 rfl rfl (tz_calls w34 hL12) (fun v37 w37 hq => ?_))))))))))
  obtain ⟨rfl, rfl⟩ := hq
  refine L.op rfl rfl (O.conv_to rfl (fun w => ⟨_, Tryz.runUnderlying3 w⟩) Tryz.runUnderlying108 (IntWalk.u64_in _ ⟨by decide, by decide⟩) (L.op rfl rfl (O.assign rfl (L.nil (T.seq (T.region (L.op rfl rfl (O.move rfl (L.op rfl rfl (O.conv_to rfl (fun w => ⟨_, Tryz.runUnderlying3 w⟩) Tryz.runUnderlying25 (IntWalk.u64_in _ ⟨by decide, by decide⟩) (L.op rfl rfl (O.assign rfl (L.nil (T.seq (T.region (L.op rfl rfl (O.move rfl (L.op rfl rfl (O.conv_to rfl (fun w => ⟨_, Tryz.runUnderlying3 w⟩) Tryz.runUnderlying108 (IntWalk.u64_in _ ⟨by decide, by decide⟩) (L.op rfl rfl (O.sub_u64 (a := 16) (b := 1) rfl rfl (by decide) (by decide) rfl rfl (by omega) (L.op rfl rfl (O.assign rfl (L.nil (T.seq (T.block (?_)))))))))))))))))))))))))))
  refine T.loop (σ := Nat × Nat × List Value) (fun g => [(1, wordV g.2.1), (3, .bool false), (4, .bool false), (10, .slice none 0 0), (12, .pointer (some ⟨b12, 0, none⟩)), (13, .int .i64 (65 - (g.1 : Int))), (14, .int .u64 4), (15, .int .u64 16), (16, .int .u64 15)]) (fun g w' => g.1 ≤ 15 ∧ g.2.1 = n / 16 ^ g.1 ∧ g.2.1 < 18446744073709551616 ∧ Ext w w' ∧ Blk w' b12 g.2.2 181 ∧ g.2.2.length = 65 ∧ g.2.2.drop (65 - g.1) = (hexTo n g.1).map u8V) (fun g => g.2.1) ((0, n, zs)) ⟨rfl, rfl, rfl, rfl, rfl, rfl, rfl, rfl, rfl, trivial⟩ ⟨Nat.zero_le _, by (try dsimp only); rw [Nat.pow_zero, Nat.div_one], hn, he12, hZ, hzl, by (try dsimp only); rw [List.drop_of_length_le (by omega)]; rfl⟩ ?_
  rintro ⟨j, q, cs⟩ w38 ⟨hj, hq, hq64, he38, hC, hcl, hcd⟩
  simp only at hj hq hq64 hC hcl hcd
  have h15 := and15 q
  have hm := Nat.mod_lt q (by decide : 16 > 0)
  refine T.seq (T.seq (T.region (L.op rfl rfl (O.move rfl (L.op rfl rfl (O.move rfl (L.op rfl rfl (O.geq_s rfl rfl (fun hge => ?_) (fun hge => ?_)))))))))
  · refine L.nil (?_)
    have hge' : 16 ≤ q := by have h := hge; simp only at h; omega
    have hj14 : j < 15 := by
      rcases Nat.lt_or_ge j 15 with h | h
      · exact h
      · have : j = 15 := by omega
        subst this
        have : n / 16 ^ 15 < 16 := Nat.div_lt_of_lt_mul (by omega)
        omega
    refine T.cond_true rfl (T.skip (T.block (T.seq (T.region (L.op rfl rfl (O.move rfl (L.op rfl rfl (O.sub64 rfl rfl (by omega) (L.op rfl rfl (O.assign rfl (L.nil (T.seq (T.region (L.op rfl rfl (O.move rfl (L.op rfl rfl (O.move rfl (L.op rfl rfl (O.move rfl (L.op rfl rfl (O.and_u64 rfl rfl hq64 (by decide) rfl rfl (L.op rfl rfl (O.index_nat Tryz.runUnderlying9 rfl rfl (by rw [h15]; show q % 16 < 36; omega) (L.op rfl rfl (O.indexAddr_arr Tryz.runUnderlying181 Tryz.sizeOf5 rfl rfl (by omega) (by omega) (L.op rfl rfl (O.store1_at Tryz.sizeOf5 rfl rfl rfl hC (by show 0 + (65 - (j : Int) - 1).toNat * 1 < _; omega) (fun w40 hu40 hB40 => ?_))))))))))))))))))))))))))))
    have hu40 : Upd b12 _ _ := hu40
    have hC40 : Blk w40 b12 (cs.set (64 - j) (u8V (hexD (q % 16)))) 181 := by
      have h := hB40
      rw [show 0 + (65 - (j : Int) - 1).toNat * 1 = 64 - j by omega] at h
      rw [← digitsS_get _ hm, ← h15]
      exact h
    refine L.nil (T.region (L.op rfl rfl (O.move rfl (L.op rfl rfl (O.move rfl (L.op rfl rfl (O.shr_u64 rfl rfl rfl hq64 (by omega) (L.op rfl rfl (O.assign rfl (L.nil (T.blk (T.again ((j + 1, q / 16, cs.set (64 - j) (u8V (hexD (q % 16))))) (by (try dsimp only); omega) ⟨rfl, rfl, rfl, rfl, rfl, ?_, rfl, rfl, rfl, trivial⟩ ⟨by (try dsimp only); omega, by (try dsimp only); rw [hq, Nat.pow_succ, ← Nat.div_div_eq_div_mul], by (try dsimp only); omega, he38.upd hu40 (.inr (by omega)), hC40, by (try dsimp only); rw [List.length_set]; exact hcl, by (try dsimp only); rw [show 65 - (j + 1) = 64 - j by omega, set_drop (by omega), show 64 - j + 1 = 65 - j by omega, hcd, hexTo, ← hq]; rfl⟩))))))))))))
    · rw [show (65 : Int) - ((j + 1 : Nat) : Int) = 65 - (j : Int) - 1 by omega]; rfl
  · refine L.nil (?_)
    have hq16 : q < 16 := by have h := hge; simp only at h; omega
    refine T.cond_false rfl (T.exit rfl (T.seq (T.region (L.op rfl rfl (O.move rfl (L.op rfl rfl (O.sub64 rfl rfl (by omega) (L.op rfl rfl (O.assign rfl (L.nil (T.region (L.op rfl rfl (O.move rfl (L.op rfl rfl (O.move rfl (L.op rfl rfl (O.index_nat Tryz.runUnderlying9 rfl rfl (by show q < 36; omega) (L.op rfl rfl (O.indexAddr_arr Tryz.runUnderlying181 Tryz.sizeOf5 rfl rfl (by omega) (by omega) (L.op rfl rfl (O.store1_at Tryz.sizeOf5 rfl rfl rfl hC (by show 0 + (65 - (j : Int) - 1).toNat * 1 < _; omega) (fun w40 hu40 hB40 => ?_))))))))))))))))))))))
    have hu40 : Upd b12 _ _ := hu40
    have hC40 : Blk w40 b12 (cs.set (64 - j) (u8V (hexD q))) 181 := by
      have h := hB40
      rw [show 0 + (65 - (j : Int) - 1).toNat * 1 = 64 - j by omega] at h
      rw [← digitsS_get _ hq16]
      exact h
    have hdr : (cs.set (64 - j) (u8V (hexD q))).drop (64 - j) = (hexTo n (j + 1)).map u8V := by rw [set_drop (by omega), show 64 - j + 1 = 65 - j by omega, hcd, hexTo_small (by rw [← hq]; exact hq16), ← hq]; rfl
    have he40 : Ext w w40 := he38.upd hu40 (.inr (by omega))
    have hsl : Ints .u8 0 w40 (.slice (some ((⟨b12, 0, none⟩ : Addr).add ((64 - j) * 1))) (65 - (64 - j)) (65 - (64 - j))) ((hexTo n (j + 1)).map fun c => (c.toNat : Int)) := by
      have hr := (Row.of_blk hC40).drop (64 - j)
      rw [hdr] at hr
      rw [show 65 - (64 - j) = j + 1 by omega, Nat.mul_one]
      refine ⟨by simp, some _, j + 1, by rw [List.length_map, hexTo_len], by rw [List.length_map, hexTo_len]; exact Nat.le_refl _, by simp only [maxLen]; omega, .inr ⟨_, rfl, Nat.zero_le _, ?_⟩⟩
      rw [List.map_map]; exact hr
    refine L.nil (T.seq (T.seq (T.region (L.op rfl rfl (O.move rfl (L.nil (T.cond_false rfl (T.skip (T.seq (T.seq (T.region (L.op rfl rfl (O.move rfl (L.nil (T.cond_false rfl (T.skip (T.seq (T.region (L.op rfl rfl (O.move rfl (L.op rfl rfl (O.slice_arr_l (l := 64 - j) Tryz.runUnderlying181 Tryz.sizeOf5 rfl rfl (by omega) (by omega) (L.op rfl rfl (O.bytes_str Tryz.runUnderlying93 Tryz.runUnderlying5 Tryz.runUnderlying9 rfl hsl (by rw [hexTo_len]; omega) (L.op rfl rfl (O.assign rfl (L.nil (T.ret2 Tryz.results147 rfl rfl ⟨j, by omega, by rw [← hq]; exact hq16, rfl, he40⟩))))))))))))))))))))))))))))

theorem ifu_calls (n : Nat) (w : World) (hL : LibM w) (hn : n < 18446744073709551616) :
    Calls Tryz.prog 138 #[wordV n, .int .i64 16] w (Ret fun v w' => ∃ j, j ≤ 15 ∧ n / 16 ^ j < 16 ∧ v = str (hexTo n (j + 1)) ∧ Ext w w') := by
  refine T.enter (vs := [wordV n, .int .i64 16]) Tryz.func138 rfl Tryz.ntmps138 rfl ?_
  refine T.seq (T.region (L.op rfl rfl (O.assign rfl (L.nil (T.seq (T.seq (T.region (L.op rfl rfl (O.move rfl (L.op rfl rfl (O.eql_f rfl rfl (by decide) (L.nil (T.cond_false rfl (T.skip (T.seq (T.region (L.op rfl rfl (O.move rfl (L.op rfl rfl (O.move rfl (L.op rfl rfl (O.call (xs := [.const (.slice none 0 0), .tmp 26, .tmp 27, .const (.bool false), .const (.bool false)]) Tryz.call147 rfl rfl (formatBits_calls n w hL hn) (fun v1 w1 hq => ?_)))))))))))))))))))))))
  obtain ⟨j, hj, hq, rfl, he1⟩ := hq
  refine L.op rfl rfl (O.move rfl (L.op rfl rfl (O.extract rfl rfl (L.op rfl rfl (O.extract rfl rfl (L.op rfl rfl (O.assign rfl (L.op rfl rfl (O.assign rfl (L.nil (T.seq (T.region (L.op rfl rfl (O.move rfl (L.op rfl rfl (O.assign rfl (L.nil (T.ret1 Tryz.results138 rfl ⟨j, hj, hq, rfl, he1⟩))))))))))))))))))

theorem fu_calls (n : Nat) (w : World) (hL : LibM w) (hn : n < 18446744073709551616) :
    Calls Tryz.prog 116 #[wordV n, .int .i64 16] w (Ret fun v w' => ∃ j, j ≤ 15 ∧ n / 16 ^ j < 16 ∧ v = str (hexTo n (j + 1)) ∧ Ext w w') := by
  refine T.enter (vs := [wordV n, .int .i64 16]) Tryz.func116 rfl Tryz.ntmps116 rfl ?_
  refine T.seq (T.region (L.op rfl rfl (O.assign rfl (L.nil (T.seq (T.region (L.op rfl rfl (O.move rfl (L.op rfl rfl (O.move rfl (L.op rfl rfl (O.call (xs := [.tmp 5, .tmp 6]) Tryz.call138 rfl rfl (ifu_calls n w hL hn) (fun v1 w1 hq => ?_)))))))))))))
  obtain ⟨j, hj, hq, rfl, he1⟩ := hq
  refine L.op rfl rfl (O.assign rfl (L.nil (T.ret1 Tryz.results116 rfl ⟨j, hj, hq, rfl, he1⟩)))

theorem repeatL_zeros : ∀ d : Nat, Lib.repeatL [48] d = List.replicate d 48
  | 0 => rfl
  | d + 1 => by rw [List.replicate_succ, ← repeatL_zeros d]; rfl
theorem hex16_zeros {n j : Nat} (hj : j ≤ 15) (h : n / 16 ^ j < 16) : hex16 n = Lib.repeatL [48] (15 - j) ++ hexTo n (j + 1) := by
  rw [repeatL_zeros, ← hexTo_zeros h, hex16, show j + 1 + (15 - j) = 16 by omega]
theorem sixteen_calls (n : Nat) (w : World) (hL : LibM w) (hn : n < 18446744073709551616) :
    Calls Tryz.prog 68 #[wordV n] w (Ret fun v w' => v = str (hex16 n) ∧ Ext w w') := by
  refine T.enter (vs := [wordV n]) Tryz.func68 rfl Tryz.ntmps68 rfl ?_
  refine T.seq (T.region (L.op rfl rfl (O.assign rfl (L.nil (T.seq (T.region (L.op rfl rfl (O.move rfl (L.op rfl rfl (O.call (xs := [.tmp 4, .const (.int .i64 16)]) Tryz.call116 rfl rfl (fu_calls n w hL hn) (fun v1 w1 hq => ?_)))))))))))
  obtain ⟨j, hj, hq, rfl, he1⟩ := hq
  have hlj := hexTo_len n (j + 1)
  have hi : (16 : Int) - ((hexTo n (j + 1)).length : Int) = ((15 - j : Nat) : Int) := by rw [hlj]; omega
  refine L.op rfl rfl (O.assign rfl (L.nil (T.seq (T.region (L.op rfl rfl (O.move rfl (L.op rfl rfl (O.len_str Tryz.runUnderlying9 rfl (L.op rfl rfl (O.sub64 rfl rfl (by omega) (?_)))))))))))
  rw [hi]
  refine L.op rfl rfl (O.call (xs := [_, .tmp 8]) Tryz.call26 rfl rfl (repeat_calls [48] (15 - j) w1 (by omega) (by simp only [List.length_cons, List.length_nil]; omega)) (fun v2 w2 hq => ?_))
  obtain ⟨rfl, he2⟩ := hq
  refine L.op rfl rfl (O.move rfl (L.op rfl rfl (O.add_str rfl rfl (by rw [hlj, repeatL_zeros, List.length_replicate]; omega) (L.op rfl rfl (O.assign rfl (L.nil (T.ret1 Tryz.results68 rfl ⟨by rw [hex16_zeros hj hq], he1.trans he2⟩)))))))

end Go.Proofs.YtmnihgcffdmodaaGreatDoor
set_option linter.unusedVariables false
set_option linter.unusedSimpArgs false
set_option maxRecDepth 20000
namespace Go.Proofs.YtmnihgcffdmodaaGreatDoor
open Go Go.E RowKit
attribute [local irreducible] Go.E.T Go.E.L Go.E.O Go.E.Ob

attribute [local irreducible] Go.E.ObX Go.E.ObK
theorem Bld.new {B b : Nat} {w : World} (h : Blk w b [.pointer none, .slice none 0 0] 95) (hb : B ≤ b) : Bld B b [] w :=
  .inl ⟨hb, .slice none 0 0, h, owns_nil _ _ _ _, by simp [Value.ownBlock]⟩
def digits16 : Str := [48, 49, 50, 51, 52, 53, 54, 55, 56, 57, 97, 98, 99, 100, 101, 102]
theorem digits16_get : ∀ k : Nat, k < 16 → digits16.getD k 0 = hexD k := by decide
section
variable {C : Cx} {e : Env} {w : World} {K : Value → World → Prop} {d : Option Tmp} {ty : TypeId} {pos : String} {aft : Array Edge} {g : Option (Nat × Bool)} {x y : Operand} {tx ty' : TypeId}
/-- 'c >> 4' of an octet. -/
theorem O.shr4_u8 {a : Nat} (hx : ev e x = some (.int .u8 (a : Int))) (hy : ev e y = some (.int .u64 4)) (h : K (.int .u8 ((a / 16 : Nat) : Int)) w) : O C e ⟨d, .binOp .shr tx x y ty', ty, pos, aft, g⟩ w K :=
  O.shr hx hy (by decide) (by
    have h2 : (2 : Int) ^ min (Int.toNat 4) IntKind.u8.bits = 16 := by decide
    rw [h2, Int.fdiv_eq_ediv_of_nonneg _ (by decide)]
    exact h)
/-- 'c & 15' of an octet. -/
theorem O.and_u8' {a : Nat} (hx : ev e x = some (.int .u8 (a : Int))) (hy : ev e y = some (.int .u8 15)) (la : a < 256) (h : K (.int .u8 ((a % 16 : Nat) : Int)) w) : O C e ⟨d, .binOp .and tx x y ty', ty, pos, aft, g⟩ w K :=
  O.bin hx hy (by
    have h1 : (Op.intBits .and .u8 (a : Int) ((15 : Nat) : Int)).run C.P w = .ok (.int .u8 ((a % 16 : Nat) : Int)) w := by
      have h8 : (2 : Nat) ^ 8 = 256 := by decide
      have ha' : a % 2 ^ 8 = a := Nat.mod_eq_of_lt (by rw [h8]; exact la)
      have hb' : 15 % 2 ^ 8 = 15 := by decide
      have bits : IntKind.u8.bits = 8 := rfl
      simp only [Op.intBits, bits, BitVec.ofInt_natCast, BitVec.toNat_and, BitVec.toNat_ofNat, ha', hb', Sem.run_pure]
      rw [and15, IntWalk.u8_in _ ⟨by omega, by omega⟩]
    simp only [binOp, ne_eq, not_true_eq_false, ↓reduceIte]
    exact h1) h
end
theorem hexed_calls (s : Str) (w : World) (hn : s.length ≤ 1000000) :
    Calls Tryz.prog 128 #[str s] w (Ret fun v w' => v = str (octL s) ∧ Ext w w') := by
  refine T.enter (vs := [str s]) Tryz.func128 rfl Tryz.ntmps128 rfl ?_
  refine T.seq (T.region (L.op rfl rfl (O.assign rfl (L.nil (T.seq (T.region (L.op rfl rfl (O.alloc Tryz.zeroValue95 (fun b3 w3 hb3 hz3 he3 hB3 => ?_)))))))))
  have hb0 : Bld w.heap.size b3 [] w3 := Bld.new hB3 (by omega)
  refine L.nil (T.seq (T.seq (T.region (L.op rfl rfl (O.move rfl (L.op rfl rfl (O.len_str Tryz.runUnderlying9 rfl (L.op rfl rfl (O.move rfl (L.nil (T.block (?_))))))))))))
  refine T.loop (σ := Nat) (fun i => [(0, str s), (3, .pointer (some ⟨b3, 0, none⟩)), (6, .int .i64 s.length), (7, .int .i64 i)]) (fun i w' => i ≤ s.length ∧ Ext w w' ∧ Bld w.heap.size b3 (octL (s.take i)) w') (fun i => s.length - i) (0) ⟨rfl, rfl, rfl, rfl, trivial⟩ ⟨Nat.zero_le _, he3, hb0⟩ ?_
  rintro i w4 ⟨hi, he4, hb4⟩
  refine T.seq (T.region (L.op rfl rfl (O.lss_s rfl rfl (fun hlt => ?_) (fun hlt => ?_))))
  · refine L.nil (?_)
    have hlt' : i < s.length := by omega
    have hc8 := UInt8.toNat_lt (s.getD i 0)
    have hol := octL_len (s.take i)
    have htl : (s.take i).length ≤ s.length := by rw [List.length_take]; omega
    have hg1 := digits16_get ((s.getD i 0).toNat / 16) (by omega)
    have hg2 := digits16_get ((s.getD i 0).toNat % 16) (by omega)
    refine T.seq (T.cond_true rfl (T.skip (T.seq (T.block (T.seq (T.region (L.op rfl rfl (O.move rfl (L.op rfl rfl (O.assign rfl (L.nil (T.seq (T.region (L.op rfl rfl (O.move rfl (L.op rfl rfl (O.move rfl (L.op rfl rfl (O.index_nat Tryz.runUnderlying9 rfl rfl (by omega) (L.op rfl rfl (O.shr4_u8 (a := (s.getD i 0).toNat) rfl rfl (L.op rfl rfl (O.index_nat Tryz.runUnderlying9 rfl rfl (show (s.getD i 0).toNat / 16 < digits16.length from by show _ < 16; omega) (L.op rfl rfl (O.call (xs := [.tmp 3, .tmp 14]) Tryz.call148 rfl rfl (writeB w.heap.size b3 (octL (s.take i)) (digits16.getD ((s.getD i 0).toNat / 16) 0) w4 hb4 (by omega) he4.size) (fun v5 w5 hq => ?_))))))))))))))))))))))))))
    obtain ⟨rfl, hb5, hl5⟩ := hq
    have he5 := Ext.below_trans he4 hl5
    refine L.nil (T.region (L.op rfl rfl (O.move rfl (L.op rfl rfl (O.move rfl (L.op rfl rfl (O.index_nat Tryz.runUnderlying9 rfl rfl (by omega) (L.op rfl rfl (O.and_u8' (a := (s.getD i 0).toNat) rfl rfl (by omega) (L.op rfl rfl (O.index_nat Tryz.runUnderlying9 rfl rfl (show (s.getD i 0).toNat % 16 < digits16.length from by show _ < 16; omega) (L.op rfl rfl (O.call (xs := [.tmp 3, .tmp 20]) Tryz.call148 rfl rfl (writeB w.heap.size b3 (octL (s.take i) ++ [digits16.getD ((s.getD i 0).toNat / 16) 0]) (digits16.getD ((s.getD i 0).toNat % 16) 0) w5 hb5 (by simp only [List.length_append, List.length_cons, List.length_nil]; omega) he5.size) (fun v6 w6 hq => ?_))))))))))))))
    obtain ⟨rfl, hb6, hl6⟩ := hq
    refine L.nil (T.blk (T.region (L.op rfl rfl (O.add64 rfl rfl (by omega) (L.op rfl rfl (O.move rfl (L.nil (T.again (i + 1) (by omega) ⟨rfl, rfl, rfl, rfl, trivial⟩ ⟨hlt', Ext.below_trans he5 hl6, by rw [octL_snoc hlt', ← hg1, ← hg2]; exact hb6⟩))))))))
  · refine L.nil (T.seq (T.cond_false rfl (T.exit rfl (T.seq (T.region (L.op rfl rfl (O.call (xs := [.tmp 3]) Tryz.call57 rfl rfl (bldString w.heap.size b3 (octL (s.take i)) w4 hb4 he4.size) (fun v5 w5 hq => ?_))))))))
    obtain ⟨rfl, hl5⟩ := hq
    refine L.op rfl rfl (O.assign rfl (L.nil (T.ret1 Tryz.results128 rfl ⟨by rw [List.take_of_length_le (by omega)], Ext.below_trans he4 hl5⟩)))

end Go.Proofs.YtmnihgcffdmodaaGreatDoor
set_option linter.unusedVariables false
set_option linter.unusedSimpArgs false
set_option maxRecDepth 20000
namespace Go.Proofs.YtmnihgcffdmodaaGreatDoor
open Go Go.E RowKit
attribute [local irreducible] Go.E.T Go.E.L Go.E.O Go.E.Ob

attribute [local irreducible] Go.E.ObX Go.E.ObK
def kindsL : List Str := [kwSubmit, kwRevise, kwWithdraw, kwClose, kwOpen]
theorem poctets_calls (s : Str) (w : World) (hn : s.length ≤ 1000000) :
    Calls Tryz.prog 95 #[str s] w (Ret fun v w' => v = str (octetsL s) ∧ Ext w w') := by
  refine T.enter (vs := [str s]) Tryz.func95 rfl Tryz.ntmps95 rfl ?_
  refine T.seq (T.region (L.op rfl rfl (O.assign rfl (L.nil (T.seq (T.seq (T.region (L.op rfl rfl (O.move rfl (L.op rfl rfl (O.eql_str_s Tryz.runUnderlying9 rfl rfl (fun h0 => ?_) (fun h0 => ?_))))))))))))
  · refine L.nil (T.cond_true rfl (T.seq (T.region (L.op rfl rfl (O.assign rfl (L.nil (T.ret1 Tryz.results95 rfl ⟨by rw [octetsL, if_pos h0]; rfl, Keep.refl _ _⟩)))))))
  · refine L.nil (T.cond_false rfl (T.skip (T.seq (T.region (L.op rfl rfl (O.move rfl (L.op rfl rfl (O.call (xs := [.tmp 5]) Tryz.call128 rfl rfl (hexed_calls s w hn) (fun v1 w1 hq => ?_)))))))))
    obtain ⟨rfl, he1⟩ := hq
    refine L.op rfl rfl (O.assign rfl (L.nil (T.ret1 Tryz.results95 rfl ⟨by rw [octetsL, if_neg h0], he1⟩)))

theorem kinds_calls (w : World) :
    Calls Tryz.prog 94 #[] w (Ret fun v w' => Strs 0 w' v kindsL ∧ Ext w w') := by
  refine T.enter (vs := []) Tryz.func94 rfl Tryz.ntmps94 rfl ?_
  refine T.seq (T.region (L.op rfl rfl (O.assign rfl (L.nil (T.seq (T.region (L.op rfl rfl (O.buildSlice (el := 9) (parts := [(0, _), (1, _), (2, _), (3, _), (4, _)]) (vs := [(0, _), (1, _), (2, _), (3, _), (4, _)]) (cs := (kindsL.map str)) rfl (fun w => by kernel_rfl) (fun b1 w1 hb1 hz1 he1 hB1 => ?_)))))))))
  refine L.op rfl rfl (O.assign rfl (L.nil (T.ret1 Tryz.results94 rfl ⟨Strs.of_blk hB1 rfl (by decide) (Nat.zero_le _), he1⟩)))

end Go.Proofs.YtmnihgcffdmodaaGreatDoor
set_option linter.unusedVariables false
set_option linter.unusedSimpArgs false
set_option maxRecDepth 20000
namespace Go.Proofs.YtmnihgcffdmodaaGreatDoor
open Go Go.E RowKit
attribute [local irreducible] Go.E.T Go.E.L Go.E.O Go.E.Ob

attribute [local irreducible] Go.E.ObX Go.E.ObK
def kwE (x : En) : Str := kindsL.getD (x.k - 1).toNat []
def wordsE (x : En) : List Str := [kwE x, x.who] ++ (if x.k = 1 ∨ x.k = 2 then [x.item, hex16 x.sl] else if x.k = 3 then [x.item] else if x.k = 5 then [x.item, octetsL x.non, octetsL x.con] else [])
def OwnS (base : Nat) (xs : List Str) (v : Value) (w : World) : Prop := w.ownsRow base 9 1 v xs.length (xs.map str)
def StrsP (xs : List Str) (v : Value) (w : World) : Prop := Strs 0 w v xs
theorem StrsP.st {xs : List Str} : ∀ v w w', Ext w w' → StrsP xs v w → StrsP xs v w' := fun _ _ _ he h => Strs.ext h he
theorem join_words {x : En} (hk : 1 ≤ x.k ∧ x.k ≤ 5) : Lib.join (wordsE x) [32] = lineE x := by
  obtain ⟨k, who, item, sl, con, non⟩ := x
  simp only at hk
  rcases (show k = 1 ∨ k = 2 ∨ k = 3 ∨ k = 4 ∨ k = 5 by omega) with rfl | rfl | rfl | rfl | rfl <;> simp [wordsE, lineE, kwE, kindsL, Lib.join]
theorem own_strs {base : Nat} {xs ys : List Str} {v : Value} {w : World} (h : w.ownsRow base 9 1 v (xs.length + ys.length) (xs.map str ++ ys.map str)) : OwnS base (xs ++ ys) v w := by
  unfold OwnS; rw [List.length_append, List.map_append]; exact h
theorem strs_one (xs : List Str) : ∀ u ∈ xs.map str, u.oneCell' = true := fun u hu => by
  obtain ⟨s, _, rfl⟩ := List.mem_map.1 hu; rfl
theorem kinds_len : kindsL.length = 5 := rfl
end Go.Proofs.YtmnihgcffdmodaaGreatDoor
set_option linter.unusedVariables false
set_option linter.unusedSimpArgs false
set_option maxRecDepth 20000
namespace Go.Proofs.YtmnihgcffdmodaaGreatDoor
open Go Go.E RowKit
attribute [local irreducible] Go.E.T Go.E.L Go.E.O Go.E.Ob

attribute [local irreducible] Go.E.ObX Go.E.ObK
theorem join_calls {base : Nat} {ws : List Str} {v : Value} {w : World} (h : OwnS base ws v w) (hne : 0 < ws.length) (hn : ws.length ≤ 1000) (hl : (Lib.join ws [32]).length ≤ 1000000) : Calls Tryz.prog 96 #[v, str [32]] w (Ret fun v' w' => v' = str (Lib.join ws [32]) ∧ Ext w w') := by
  rcases h.2 with ⟨_, h0⟩ | ⟨g, cap, cur, rfl, hb, hg, hnc, hm, hsz, htk⟩
  · omega
  · have hmap : (ws.map fun s => (⟨s.toArray⟩ : ByteArray)).map (·.data.toList) = ws := by simp [List.map_map, Function.comp_def]
    have hj := Tryz.strings_Join g 0 cap (ws.map fun s => ⟨s.toArray⟩) ⟨#[32]⟩ w (fun j x hx => by
      have hsl := Sl.of_owns h
      rw [List.getElem?_map] at hx
      cases hq : ws[j]? with
      | none => rw [hq] at hx; cases hx
      | some s =>
        rw [hq] at hx
        cases hx
        have := hsl.cell (j := j) (u := str s) (by rw [List.getElem?_map, hq]; rfl)
        show _ = some (str s)
        simpa [sAddr, add_at] using this) (by simpa using Blk.lt (t := 9) (cs := cur.toList) (by unfold Blk; simpa using hg)) (by simp; omega) (by simpa using hnc) (by rw [hmap]; show (Lib.join ws [32]).length ≤ _; omega)
    rw [hmap, List.length_map] at hj
    exact of_shelf hj
theorem wordsE_len (x : En) : 2 ≤ (wordsE x).length ∧ (wordsE x).length ≤ 5 := by
  unfold wordsE
  split
  · exact ⟨by simp, by simp⟩
  · split
    · exact ⟨by simp, by simp⟩
    · split
      · exact ⟨by simp, by simp⟩
      · exact ⟨by simp, by simp⟩
/-- Where the word of the kind stands. -/
def KwP (x : En) (v : Value) (w : World) : Prop := ∃ a, v = .pointer (some a) ∧ w.cell? a = some (str (kwE x))
theorem KwP.st {x : En} : ∀ v w w', Ext w w' → KwP x v w → KwP x v w' := fun _ _ _ he ⟨a, h1, h2⟩ => ⟨a, h1, he.cell (Nat.zero_le _) h2⟩
set_option maxHeartbeats 1000000 in
theorem line_calls (x : En) (w : World) (hb : Bounds x) (hxo : x.ok) (hL : LibM w) :
    Calls Tryz.prog 56 #[x.val] w (Ret fun v w' => v = str (lineE x) ∧ Ext w w') := by
  refine T.enter (vs := [x.val]) Tryz.func56 rfl Tryz.ntmps56 rfl ?_
  refine T.seq (T.region (L.op rfl rfl (O.box rfl (fun b1 w1 hb1 hz1 he1 hB1 => ?_))))
  have hE1 : Blk w1 b1 x.cells 42 := hB1
  have hk := hb.k
  have hL1 := hL.ext he1
  have hbc := hb.con
  have hbn := hb.non
  refine L.op rfl rfl (O.assign rfl (L.nil (T.seq (?_))))
  refine T.anyE mixed 8 [1] rfl [.such (StrsP kindsL), .is _, .is _, .is _, .such (KwP x), .is _, .is _, .is _] [[], [], [1], [2], [0, 3], [4], [], [6]] [[], [], [1], [1, 2], [0, 1, 2, 3], [0, 1, 2, 3, 4], [], [6], [0, 1, 2, 3, 4, 5, 6, 7], [0, 1, 2, 3, 4, 5, 6, 7, 8]] (by kernel_rfl) (by kernel_rfl) rfl (by kernel_rfl) ⟨StrsP.st, KwP.st, trivial⟩ ⟨fun wx hx => Ob.op rfl (O.call (xs := []) Tryz.call94 rfl rfl (kinds_calls wx) (fun v wy h => ⟨h.2, h.1⟩)),
      fun wx hx => Ob.op rfl (O.fieldAddr Tryz.runUnderlying42 rfl Tryz.sizeOf3 rfl ⟨Keep.refl _ _, rfl⟩),
      fun wx hx => Ob.op rfl (O.load Tryz.isAgg3 rfl ((hE1.ext hx).cell rfl) ⟨Keep.refl _ _, rfl⟩),
      fun wx hx => Ob.op rfl (O.sub64 rfl rfl (by omega) ⟨Keep.refl _ _, rfl⟩),
      fun wx hx v4 hv4 => Ob.op rfl (O.indexAddr Tryz.runUnderlying77 Tryz.sizeOf9 rfl rfl hv4 (by omega) (by rw [kinds_len]; omega) ⟨Keep.refl _ _, _, rfl, (by have h := Strs.at hv4 (i := (x.k - 1).toNat) (by rw [kinds_len]; omega); rw [Int.toNat_natCast] at h; exact h)⟩),
      fun wx hx v8 hv8 => by { obtain ⟨a, rfl, ha⟩ := hv8; exact Ob.op rfl (O.load Tryz.isAgg9 rfl ha ⟨Keep.refl _ _, rfl⟩) },
      fun wx hx => Ob.op rfl (O.fieldAddr Tryz.runUnderlying42 rfl Tryz.sizeOf9 rfl ⟨Keep.refl _ _, rfl⟩),
      fun wx hx => Ob.op rfl (O.load Tryz.isAgg9 rfl ((hE1.ext hx).cell rfl) ⟨Keep.refl _ _, rfl⟩),
      trivial⟩ (fun w2 he2 v4 hv4 v8 hv8 => ?_)
  refine L.op rfl rfl (O.buildSlice (el := 9) (parts := [(0, .tmp 9), (1, .tmp 11)]) (vs := [(0, _), (1, _)]) (cs := ([kwE x, x.who].map str)) rfl (fun w => by kernel_rfl) (fun b3 w3 hb3 hz3 he3 hB3 => ?_))
  have hO3 : OwnS w2.heap.size [kwE x, x.who] (.slice (some ⟨b3, 0, none⟩) 2 2) w3 := owns_blk (n := 2) (cap := 2) (sz := 1) hB3 (by omega) (Nat.le_refl _) (by decide) rfl
  have hE3 := (hE1.ext he2).ext he3
  have he13 := he2.trans he3
  have hL3 := hL1.ext he13
  refine L.op rfl rfl (O.assign rfl (L.nil (T.seq (T.seq (T.region (L.op rfl rfl (O.fieldAddr Tryz.runUnderlying42 rfl Tryz.sizeOf3 rfl (L.op rfl rfl (O.load Tryz.isAgg3 rfl (hE3.cell rfl) (L.nil (?_)))))))))))
  refine T.join (σ := Value) (fun v => [(3, v)]) (fun v w' => Ext w w' ∧ OwnS w2.heap.size (wordsE x) v w') ?_ ?_
  · refine T.block (T.seq (T.seq (T.region (L.op rfl rfl (O.eql_s rfl rfl (fun h1 => ?_) (fun h1 => ?_))))))
    · refine L.op rfl rfl (O.assign rfl (L.nil (T.cond_true rfl (T.skip (T.cond_true rfl (?_))))))
      refine T.anyE mixed 7 [3, 1] rfl [.is _, .is _, .is _, .is _, .is _, .is (str (hex16 x.sl)), .such (StrsP [x.item, hex16 x.sl])] [[], [], [1], [], [3], [4], [2, 5]] [[], [], [1], [], [3], [3, 4], [1, 2, 3, 4, 5], [0, 1, 2, 3, 4, 5, 6], [0, 1, 2, 3, 4, 5, 6, 7]] (by kernel_rfl) (by kernel_rfl) rfl (by kernel_rfl) ⟨StrsP.st, trivial⟩ ⟨fun wx hx => Ob.op rfl (O.move rfl ⟨Keep.refl _ _, rfl⟩),
          fun wx hx => Ob.op rfl (O.fieldAddr Tryz.runUnderlying42 rfl Tryz.sizeOf9 rfl ⟨Keep.refl _ _, rfl⟩),
          fun wx hx => Ob.op rfl (O.load Tryz.isAgg9 rfl ((hE3.ext hx).cell rfl) ⟨Keep.refl _ _, rfl⟩),
          fun wx hx => Ob.op rfl (O.fieldAddr Tryz.runUnderlying42 rfl Tryz.sizeOf25 rfl ⟨Keep.refl _ _, rfl⟩),
          fun wx hx => Ob.op rfl (O.load Tryz.isAgg25 rfl ((hE3.ext hx).cell rfl) ⟨Keep.refl _ _, rfl⟩),
          fun wx hx => Ob.op rfl (O.call (xs := [.tmp 22]) Tryz.call68 rfl rfl (sixteen_calls x.sl wx (hL3.ext hx) hxo.sl) (fun v wy h => ⟨h.2, h.1⟩)),
          fun wx hx => Ob.op rfl (O.buildSlice (el := 9) (parts := [(0, .tmp 20), (1, .tmp 23)]) (vs := [(0, _), (1, _)]) (cs := ([x.item, hex16 x.sl].map str)) rfl (fun w => by kernel_rfl) (fun b24 w24 hb24 hz24 he24 hB24 => ⟨he24, Strs.of_blk hB24 rfl (by decide) (Nat.zero_le _)⟩)),
          trivial⟩ (fun w4 he4 v24 hv24 => ?_)
      refine L.op rfl rfl (O.append (size := 1) (bytes := 16) Tryz.runUnderlying77 Tryz.infoOf9 rfl rfl rfl rfl (by decide) rfl rfl (owns_keep hO3 (he4.mono (Nat.zero_le _)) (Nat.le_refl _)) hv24 (strs_one _) (by simp) (by simp [maxLen]) (by have := he13.size; have := he4.size; omega) (fun v6 w6 hO6 hG6 => ?_))
      refine L.op rfl rfl (O.assign rfl (L.nil (T.blk (T.meet (v6) ⟨rfl, trivial⟩ ⟨(he1.trans he2).trans (Keep.grown0 (he3.trans he4) (owns_keep hO3 (he4.mono (Nat.zero_le _)) (Nat.le_refl _)) hG6 (Nat.le_refl _)), by rw [wordsE, if_pos (by omega)]; exact own_strs (ys := [x.item, hex16 x.sl]) hO6⟩))))
    · refine L.op rfl rfl (O.assign rfl (L.nil (T.cond_false rfl (T.region (L.op rfl rfl (O.eql_s rfl rfl (fun h2 => ?_) (fun h2 => ?_)))))))
      · refine L.op rfl rfl (O.assign rfl (L.nil (T.cond_true rfl (?_))))
        refine T.anyE mixed 7 [3, 1] rfl [.is _, .is _, .is _, .is _, .is _, .is (str (hex16 x.sl)), .such (StrsP [x.item, hex16 x.sl])] [[], [], [1], [], [3], [4], [2, 5]] [[], [], [1], [], [3], [3, 4], [1, 2, 3, 4, 5], [0, 1, 2, 3, 4, 5, 6], [0, 1, 2, 3, 4, 5, 6, 7]] (by kernel_rfl) (by kernel_rfl) rfl (by kernel_rfl) ⟨StrsP.st, trivial⟩ ⟨fun wx hx => Ob.op rfl (O.move rfl ⟨Keep.refl _ _, rfl⟩),
            fun wx hx => Ob.op rfl (O.fieldAddr Tryz.runUnderlying42 rfl Tryz.sizeOf9 rfl ⟨Keep.refl _ _, rfl⟩),
            fun wx hx => Ob.op rfl (O.load Tryz.isAgg9 rfl ((hE3.ext hx).cell rfl) ⟨Keep.refl _ _, rfl⟩),
            fun wx hx => Ob.op rfl (O.fieldAddr Tryz.runUnderlying42 rfl Tryz.sizeOf25 rfl ⟨Keep.refl _ _, rfl⟩),
            fun wx hx => Ob.op rfl (O.load Tryz.isAgg25 rfl ((hE3.ext hx).cell rfl) ⟨Keep.refl _ _, rfl⟩),
            fun wx hx => Ob.op rfl (O.call (xs := [.tmp 22]) Tryz.call68 rfl rfl (sixteen_calls x.sl wx (hL3.ext hx) hxo.sl) (fun v wy h => ⟨h.2, h.1⟩)),
            fun wx hx => Ob.op rfl (O.buildSlice (el := 9) (parts := [(0, .tmp 20), (1, .tmp 23)]) (vs := [(0, _), (1, _)]) (cs := ([x.item, hex16 x.sl].map str)) rfl (fun w => by kernel_rfl) (fun b24 w24 hb24 hz24 he24 hB24 => ⟨he24, Strs.of_blk hB24 rfl (by decide) (Nat.zero_le _)⟩)),
            trivial⟩ (fun w4 he4 v24 hv24 => ?_)
        refine L.op rfl rfl (O.append (size := 1) (bytes := 16) Tryz.runUnderlying77 Tryz.infoOf9 rfl rfl rfl rfl (by decide) rfl rfl (owns_keep hO3 (he4.mono (Nat.zero_le _)) (Nat.le_refl _)) hv24 (strs_one _) (by simp) (by simp [maxLen]) (by have := he13.size; have := he4.size; omega) (fun v6 w6 hO6 hG6 => ?_))
        refine L.op rfl rfl (O.assign rfl (L.nil (T.blk (T.meet (v6) ⟨rfl, trivial⟩ ⟨(he1.trans he2).trans (Keep.grown0 (he3.trans he4) (owns_keep hO3 (he4.mono (Nat.zero_le _)) (Nat.le_refl _)) hG6 (Nat.le_refl _)), by rw [wordsE, if_pos (by omega)]; exact own_strs (ys := [x.item, hex16 x.sl]) hO6⟩))))
      · refine L.op rfl rfl (O.assign rfl (L.nil (T.cond_false rfl (T.seq (T.region (L.op rfl rfl (O.eql_s rfl rfl (fun h3 => ?_) (fun h3 => ?_))))))))
        · refine L.op rfl rfl (O.assign rfl (L.nil (T.cond_true rfl (T.region (L.op rfl rfl (O.move rfl (L.op rfl rfl (O.fieldAddr Tryz.runUnderlying42 rfl Tryz.sizeOf9 rfl (L.op rfl rfl (O.load Tryz.isAgg9 rfl (hE3.cell rfl) (L.op rfl rfl (O.buildSlice (el := 9) (parts := [(0, .tmp 30)]) (vs := [(0, _)]) (cs := ([x.item].map str)) rfl (fun w => by kernel_rfl) (fun b5 w5 hb5 hz5 he5 hB5 => ?_)))))))))))))
          refine L.op rfl rfl (O.append (size := 1) (bytes := 16) Tryz.runUnderlying77 Tryz.infoOf9 rfl rfl rfl rfl (by decide) rfl rfl (owns_keep hO3 (he5.mono (Nat.zero_le _)) (Nat.le_refl _)) (Sl.of_blk (lo := 0) (n := 1) (sz := 1) hB5 rfl (Nat.le_refl _) (by decide) (Nat.zero_le _)) (strs_one _) (by simp) (by simp [maxLen]) (by have := he13.size; have := he5.size; omega) (fun v6 w6 hO6 hG6 => ?_))
          refine L.op rfl rfl (O.assign rfl (L.nil (T.blk (T.meet (v6) ⟨rfl, trivial⟩ ⟨(he1.trans he2).trans (Keep.grown0 (he3.trans he5) (owns_keep hO3 (he5.mono (Nat.zero_le _)) (Nat.le_refl _)) hG6 (Nat.le_refl _)), by rw [wordsE, if_neg (by omega), if_pos h3]; exact own_strs (ys := [x.item]) hO6⟩))))
        · refine L.op rfl rfl (O.assign rfl (L.nil (T.cond_false rfl (T.seq (T.region (L.op rfl rfl (O.eql_s rfl rfl (fun h5 => ?_) (fun h5 => ?_))))))))
          · refine L.op rfl rfl (O.assign rfl (L.nil (T.cond_true rfl (?_))))
            refine T.anyE mixed 10 [3, 1] rfl [.is _, .is _, .is _, .is _, .is _, .is (str (octetsL x.non)), .is _, .is _, .is (str (octetsL x.con)), .such (StrsP [x.item, octetsL x.non, octetsL x.con])] [[], [], [1], [], [3], [4], [], [6], [7], [2, 5, 8]] [[], [], [1], [], [3], [3, 4], [], [6], [3, 4, 5, 6, 7], [1, 2, 3, 4, 5, 6, 7, 8], [0, 1, 2, 3, 4, 5, 6, 7, 8, 9], [0, 1, 2, 3, 4, 5, 6, 7, 8, 9, 10]] (by kernel_rfl) (by kernel_rfl) rfl (by kernel_rfl) ⟨StrsP.st, trivial⟩ ⟨fun wx hx => Ob.op rfl (O.move rfl ⟨Keep.refl _ _, rfl⟩),
                fun wx hx => Ob.op rfl (O.fieldAddr Tryz.runUnderlying42 rfl Tryz.sizeOf9 rfl ⟨Keep.refl _ _, rfl⟩),
                fun wx hx => Ob.op rfl (O.load Tryz.isAgg9 rfl ((hE3.ext hx).cell rfl) ⟨Keep.refl _ _, rfl⟩),
                fun wx hx => Ob.op rfl (O.fieldAddr Tryz.runUnderlying42 rfl Tryz.sizeOf9 rfl ⟨Keep.refl _ _, rfl⟩),
                fun wx hx => Ob.op rfl (O.load Tryz.isAgg9 rfl ((hE3.ext hx).cell rfl) ⟨Keep.refl _ _, rfl⟩),
                fun wx hx => Ob.op rfl (O.call (xs := [.tmp 39]) Tryz.call95 rfl rfl (poctets_calls x.non wx (by omega)) (fun v wy h => ⟨h.2, h.1⟩)),
                fun wx hx => Ob.op rfl (O.fieldAddr Tryz.runUnderlying42 rfl Tryz.sizeOf9 rfl ⟨Keep.refl _ _, rfl⟩),
                fun wx hx => Ob.op rfl (O.load Tryz.isAgg9 rfl ((hE3.ext hx).cell rfl) ⟨Keep.refl _ _, rfl⟩),
                fun wx hx => Ob.op rfl (O.call (xs := [.tmp 42]) Tryz.call95 rfl rfl (poctets_calls x.con wx (by omega)) (fun v wy h => ⟨h.2, h.1⟩)),
                fun wx hx => Ob.op rfl (O.buildSlice (el := 9) (parts := [(0, .tmp 37), (1, .tmp 40), (2, .tmp 43)]) (vs := [(0, _), (1, _), (2, _)]) (cs := ([x.item, octetsL x.non, octetsL x.con].map str)) rfl (fun w => by kernel_rfl) (fun b44 w44 hb44 hz44 he44 hB44 => ⟨he44, Strs.of_blk hB44 rfl (by decide) (Nat.zero_le _)⟩)),
                trivial⟩ (fun w4 he4 v44 hv44 => ?_)
            refine L.op rfl rfl (O.append (size := 1) (bytes := 16) Tryz.runUnderlying77 Tryz.infoOf9 rfl rfl rfl rfl (by decide) rfl rfl (owns_keep hO3 (he4.mono (Nat.zero_le _)) (Nat.le_refl _)) hv44 (strs_one _) (by simp) (by simp [maxLen]) (by have := he13.size; have := he4.size; omega) (fun v6 w6 hO6 hG6 => ?_))
            refine L.op rfl rfl (O.assign rfl (L.nil (T.blk (T.meet (v6) ⟨rfl, trivial⟩ ⟨(he1.trans he2).trans (Keep.grown0 (he3.trans he4) (owns_keep hO3 (he4.mono (Nat.zero_le _)) (Nat.le_refl _)) hG6 (Nat.le_refl _)), by rw [wordsE, if_neg (by omega), if_neg h3, if_pos h5]; exact own_strs (ys := [x.item, octetsL x.non, octetsL x.con]) hO6⟩))))
          · refine L.op rfl rfl (O.assign rfl (L.nil (T.cond_false rfl (T.skip (T.blk (T.meet ((.slice (some ⟨b3, 0, none⟩) 2 2)) ⟨rfl, trivial⟩ ⟨he1.trans he13, by rw [wordsE, if_neg (by omega), if_neg h3, if_neg h5, List.append_nil]; exact hO3⟩))))))
  rintro v w4 ⟨he4, hO4⟩
  have hjl : (Lib.join (wordsE x) [32]).length ≤ 1000000 := by rw [join_words hk]; have := line_len hb; omega
  refine T.seq (T.region (L.op rfl rfl (O.move rfl (L.op rfl rfl (O.call (xs := [.tmp 46, _]) Tryz.call96 rfl rfl (join_calls hO4 (by have := wordsE_len x; omega) (by have := wordsE_len x; omega) hjl) (fun v5 w5 hq => ?_))))))
  obtain ⟨rfl, he5⟩ := hq
  refine L.op rfl rfl (O.assign rfl (L.nil (T.ret1 Tryz.results56 rfl ⟨by rw [join_words hk], he4.trans he5⟩)))

end Go.Proofs.YtmnihgcffdmodaaGreatDoor
set_option linter.unusedVariables false
set_option linter.unusedSimpArgs false
set_option maxRecDepth 20000
namespace Go.Proofs.YtmnihgcffdmodaaGreatDoor
open Go Go.E RowKit
attribute [local irreducible] Go.E.T Go.E.L Go.E.O Go.E.Ob

/-- A text divided at an octet. -/
def wordsL (d : UInt8) : Str → List Str
  | [] => [[]]
  | c :: r => if c = d then [] :: wordsL d r else match wordsL d r with
    | [] => [[c]]
    | w :: ws => (c :: w) :: ws
theorem wordsL_ne (d : UInt8) : ∀ s, wordsL d s ≠ []
  | [] => by simp [wordsL]
  | c :: r => by
    unfold wordsL
    split
    · simp
    · split <;> simp
theorem join_cons2 (d : UInt8) (w v : Str) (vs : List Str) : Lib.join (w :: v :: vs) [d] = w ++ d :: Lib.join (v :: vs) [d] := by
  simp [Lib.join, List.intercalate, List.intersperse]
theorem join_one (d : UInt8) (w : Str) : Lib.join [w] [d] = w := by simp [Lib.join, List.intercalate]
theorem wordsL_join (d : UInt8) : ∀ s, Lib.join (wordsL d s) [d] = s
  | [] => by simp [wordsL, join_one]
  | c :: r => by
    have ih := wordsL_join d r
    unfold wordsL
    split
    · rename_i hc
      subst hc
      cases hw : wordsL c r with
      | nil => exact absurd hw (wordsL_ne c r)
      | cons v vs => rw [join_cons2, ← hw, ih]; rfl
    · split
      · rename_i hw; exact absurd hw (wordsL_ne d r)
      · rename_i v vs hw
        rw [hw] at ih
        cases vs with
        | nil => rw [join_one] at ih ⊢; rw [ih]
        | cons u us => rw [join_cons2] at ih ⊢; rw [← ih]; rfl
theorem wordsL_one {d : UInt8} : ∀ {w : Str}, d ∉ w → wordsL d w = [w]
  | [], _ => rfl
  | c :: r, hw => by
    have hc : ¬ c = d := fun e => hw (by rw [e]; exact List.mem_cons_self ..)
    unfold wordsL
    rw [if_neg hc, wordsL_one (fun h => hw (List.mem_cons_of_mem _ h))]
theorem wordsL_pre {d : UInt8} {t : Str} : ∀ {w : Str}, d ∉ w → wordsL d (w ++ d :: t) = w :: wordsL d t
  | [], _ => by
    show wordsL d (d :: t) = _
    unfold wordsL
    rw [if_pos rfl]
    cases t <;> rfl
  | c :: r, hw => by
    have hc : ¬ c = d := fun e => hw (by rw [e]; exact List.mem_cons_self ..)
    show wordsL d (c :: (r ++ d :: t)) = _
    rw [wordsL, if_neg hc, wordsL_pre (fun h => hw (List.mem_cons_of_mem _ h))]
theorem wordsL_of (d : UInt8) : ∀ ws : List Str, ws ≠ [] → (∀ w ∈ ws, d ∉ w) → wordsL d (Lib.join ws [d]) = ws
  | [], h, _ => absurd rfl h
  | [w], _, hf => by rw [join_one]; exact wordsL_one (hf w (List.mem_cons_self ..))
  | w :: v :: vs, _, hf => by
    rw [join_cons2, wordsL_pre (hf w (List.mem_cons_self ..)), wordsL_of d (v :: vs) (by simp) (fun u hu => hf u (List.mem_cons_of_mem _ hu))]
theorem idx_cons_ne (b c : UInt8) (l : Str) (h : b ≠ c) : Lib.index (b :: l) [c] = if Lib.index l [c] == -1 then -1 else Lib.index l [c] + 1 := by
  have hp : ([c] : List UInt8).isPrefixOf (b :: l) = false := by simp [List.isPrefixOf, Ne.symm h]
  rw [Lib.index, hp]; simp
theorem idx_cons_eq (c : UInt8) (l : Str) : Lib.index (c :: l) [c] = 0 := by rw [Lib.index]; simp [List.isPrefixOf]
theorem split_wordsL (d : UInt8) : ∀ s, Lib.splitK [d] 0 (Lib.count s [d]) s = wordsL d s
  | [] => by rw [Lib.count_miss (by simp [Lib.index])]; rfl
  | c :: r => by
    have ih := split_wordsL d r
    by_cases hc : c = d
    · subst hc
      rw [Lib.count_cons_eq, Nat.add_comm, Lib.splitK, idx_cons_eq, wordsL, if_pos rfl, if_neg (by decide)]
      simp [ih]
    · rw [Lib.count_cons_ne c d r hc, wordsL, if_neg hc]
      by_cases hm : Lib.index r [d] = -1
      · rw [Lib.count_miss hm] at ih ⊢
        rw [← ih]; rfl
      · have hge := Lib.index_ge r [d]
        obtain ⟨j, hj⟩ : ∃ j : Nat, Lib.index r [d] = j := ⟨(Lib.index r [d]).toNat, by omega⟩
        rw [Lib.count_hit (by simp) hj, Nat.add_comm] at ih ⊢
        have hmr : ¬ (Lib.index r [d] == -1) = true := fun e => hm (beq_iff_eq.1 e)
        have e1 : Lib.index (c :: r) [d] = ((j + 1 : Nat) : Int) := by rw [idx_cons_ne c d r hc, if_neg hmr, hj]; omega
        have hmc : ¬ (Lib.index (c :: r) [d] == -1) = true := fun e => by have := beq_iff_eq.1 e; omega
        rw [Lib.splitK, if_neg hmr, hj] at ih
        rw [Lib.splitK, if_neg hmc, e1, ← ih]
        simp
theorem splitB_words (s : Str) (d : UInt8) : (Lib.splitB ⟨#[d]⟩ 0 (Lib.countB ⟨s.toArray⟩ ⟨#[d]⟩) ⟨s.toArray⟩).map (·.data.toList) = wordsL d s := by
  rw [Lib.splitB_data]
  exact split_wordsL d s
/-- Divided at the first place of an octet. -/
theorem cut_no {s : Str} {d : UInt8} (h : d ∉ s) : Lib.cut s [d] = (s, [], false) := by
  have : Lib.index s [d] = -1 := by
    induction s with
    | nil => simp [Lib.index]
    | cons c r ih => rw [idx_cons_ne c d r (fun e => h (by rw [e]; exact List.mem_cons_self ..)), ih (fun hh => h (List.mem_cons_of_mem _ hh))]; rfl
  rw [Lib.cut, if_neg (by omega)]
theorem index_split {a b : Str} {d : UInt8} (h : d ∉ a) : Lib.index (a ++ d :: b) [d] = a.length := by
  induction a with
  | nil => exact idx_cons_eq d b
  | cons c r ih =>
    show Lib.index (c :: (r ++ d :: b)) [d] = _
    rw [idx_cons_ne c d _ (fun e => h (by rw [e]; exact List.mem_cons_self ..)), ih (fun hh => h (List.mem_cons_of_mem _ hh)), if_neg (by simp)]
    simp
theorem cut_yes {a b : Str} {d : UInt8} (h : d ∉ a) : Lib.cut (a ++ d :: b) [d] = (a, b, true) := by
  have hi := index_split (b := b) h
  rw [Lib.cut, if_pos (by omega), hi, Int.toNat_natCast]
  simp
/-! ### Numbers of digits -/
def valN (c : UInt8) : Nat := if 48 ≤ c.toNat ∧ c.toNat ≤ 57 then c.toNat - 48 else (c.toNat + 169) % 256
def unhexN (s : Str) : Nat := s.foldl (fun n c => (n * 16 + valN c) % 18446744073709551616) 0
def unoctR : Str → Str
  | a :: b :: r => UInt8.ofNat ((16 * valN a + valN b) % 256) :: unoctR r
  | _ => []
theorem val_hexD {n : Nat} (h : n < 16) : valN (hexD n) = n := by
  rcases (show n = 0 ∨ n = 1 ∨ n = 2 ∨ n = 3 ∨ n = 4 ∨ n = 5 ∨ n = 6 ∨ n = 7 ∨ n = 8 ∨ n = 9 ∨ n = 10 ∨ n = 11 ∨ n = 12 ∨ n = 13 ∨ n = 14 ∨ n = 15 by omega) with rfl | rfl | rfl | rfl | rfl | rfl | rfl | rfl | rfl | rfl | rfl | rfl | rfl | rfl | rfl | rfl <;> decide
theorem unhex_hexTo (n : Nat) : ∀ (i z : Nat), z * 16 ^ i + n % 16 ^ i < 18446744073709551616 → (hexTo n i).foldl (fun n c => (n * 16 + valN c) % 18446744073709551616) z = z * 16 ^ i + n % 16 ^ i
  | 0, z, h => by simp [hexTo, Nat.mod_one]
  | i + 1, z, h => by
    have e : n % 16 ^ (i + 1) = (n / 16 ^ i) % 16 * 16 ^ i + n % 16 ^ i := by
      rw [Nat.pow_succ, Nat.mod_mul, Nat.mul_comm, Nat.add_comm]
    have hd := Nat.mod_lt (n / 16 ^ i) (by decide : 16 > 0)
    have e2 : z * 16 ^ (i + 1) = z * 16 * 16 ^ i := by rw [Nat.pow_succ, Nat.mul_comm (16 ^ i) 16, Nat.mul_assoc]
    have hb : (z * 16 + (n / 16 ^ i) % 16) * 16 ^ i + n % 16 ^ i < 18446744073709551616 := by rw [Nat.add_mul, Nat.add_assoc, ← e, ← e2]; exact h
    have hp : 0 < 16 ^ i := Nat.pow_pos (by decide)
    have hz : z * 16 + (n / 16 ^ i) % 16 < 18446744073709551616 := by
      have := Nat.le_mul_of_pos_right (z * 16 + (n / 16 ^ i) % 16) hp
      omega
    rw [hexTo, List.foldl_cons, val_hexD hd, Nat.mod_eq_of_lt hz, unhex_hexTo n i _ hb, e, e2, Nat.add_mul]; omega
theorem unhex_hex16 {n : Nat} (h : n < 18446744073709551616) : unhexN (hex16 n) = n := by
  have e : n % 16 ^ 16 = n := Nat.mod_eq_of_lt h
  rw [unhexN, hex16, unhex_hexTo n 16 0 (by rw [e]; omega), e]; omega
theorem unoct_octL : ∀ s : Str, unoctR (octL s) = s
  | [] => rfl
  | b :: r => by
    have hb := UInt8.toNat_lt b
    show unoctR (hexD (b.toNat / 16) :: hexD (b.toNat % 16) :: octL r) = _
    rw [unoctR, unoct_octL r, val_hexD (by omega), val_hexD (Nat.mod_lt _ (by decide))]
    congr 1
    rw [Nat.div_add_mod, Nat.mod_eq_of_lt (by omega)]
    simp
theorem unoct_octets (s : Str) : unoctR (octetsL s) = s := by
  unfold octetsL
  split
  · rename_i h; subst h; rfl
  · exact unoct_octL s
end Go.Proofs.YtmnihgcffdmodaaGreatDoor
set_option linter.unusedVariables false
set_option linter.unusedSimpArgs false
set_option maxRecDepth 20000
namespace Go.Proofs.YtmnihgcffdmodaaGreatDoor
open Go Go.E RowKit
attribute [local irreducible] Go.E.T Go.E.L Go.E.O Go.E.Ob

def kindN (w : Str) : Int := if w = kwSubmit then 1 else if w = kwRevise then 2 else if w = kwWithdraw then 3 else if w = kwClose then 4 else if w = kwOpen then 5 else 0
def entE (ws : List Str) : En := ⟨kindN (ws.getD 0 []), ws.getD 1 [], ws.getD 2 [], if ws.length = 4 then unhexN (ws.getD 3 []) else 0, if ws.length = 5 then unoctR (ws.getD 4 []) else [], if ws.length = 5 then unoctR (ws.getD 3 []) else []⟩
/-- What a line is read as. -/
def readE (s : Str) : Option En := if rightE (entE (wordsL 32 s)) = true ∧ lineE (entE (wordsL 32 s)) = s then some (entE (wordsL 32 s)) else none
theorem unhexN_lt (s : Str) : unhexN s < 18446744073709551616 := by
  unfold unhexN
  have key : ∀ (s : Str) (n : Nat), n < 18446744073709551616 → s.foldl (fun n c => (n * 16 + valN c) % 18446744073709551616) n < 18446744073709551616 := by
    intro s
    induction s with
    | nil => exact fun n h => h
    | cons c r ih => exact fun n _ => ih _ (Nat.mod_lt _ (by decide))
  exact key s 0 (by decide)
theorem name_free {s : Str} (h : nameB s = true) : (32 : UInt8) ∉ s := by
  intro hm
  simp only [nameB, madeB, Bool.and_eq_true] at h
  have := List.all_eq_true.1 h.2.2 _ hm
  exact absurd this (by decide)
theorem hexD_ne {n : Nat} (h : n < 16) : ¬ hexD n = 32 ∧ ¬ hexD n = 10 := by
  rcases (show n = 0 ∨ n = 1 ∨ n = 2 ∨ n = 3 ∨ n = 4 ∨ n = 5 ∨ n = 6 ∨ n = 7 ∨ n = 8 ∨ n = 9 ∨ n = 10 ∨ n = 11 ∨ n = 12 ∨ n = 13 ∨ n = 14 ∨ n = 15 by omega) with rfl | rfl | rfl | rfl | rfl | rfl | rfl | rfl | rfl | rfl | rfl | rfl | rfl | rfl | rfl | rfl <;> decide
theorem hexTo_free (n : Nat) : ∀ i, (32 : UInt8) ∉ hexTo n i ∧ (10 : UInt8) ∉ hexTo n i
  | 0 => by simp [hexTo]
  | i + 1 => by
    have ih := hexTo_free n i
    have hd := hexD_ne (Nat.mod_lt (n / 16 ^ i) (by decide : 16 > 0))
    simp only [hexTo, List.mem_cons, not_or]
    exact ⟨⟨fun e => hd.1 e.symm, ih.1⟩, fun e => hd.2 e.symm, ih.2⟩
theorem octL_free : ∀ s : Str, (32 : UInt8) ∉ octL s ∧ (10 : UInt8) ∉ octL s
  | [] => by simp [octL]
  | b :: r => by
    have ih := octL_free r
    have hb := UInt8.toNat_lt b
    have h1 := hexD_ne (show b.toNat / 16 < 16 by omega)
    have h2 := hexD_ne (Nat.mod_lt b.toNat (by decide : 16 > 0))
    have e : octL (b :: r) = hexD (b.toNat / 16) :: hexD (b.toNat % 16) :: octL r := rfl
    rw [e]
    simp only [List.mem_cons, not_or]
    exact ⟨⟨fun e => h1.1 e.symm, fun e => h2.1 e.symm, ih.1⟩, fun e => h1.2 e.symm, fun e => h2.2 e.symm, ih.2⟩
theorem octets_free (s : Str) : (32 : UInt8) ∉ octetsL s ∧ (10 : UInt8) ∉ octetsL s := by
  unfold octetsL
  split
  · decide
  · exact octL_free s
theorem right_parts {x : En} (h : rightE x = true) : (1 ≤ x.k ∧ x.k ≤ 5) ∧ nameB x.who = true ∧ (if x.k = 4 then x.item = [] else nameB x.item = true) ∧ ((x.k = 1 ∨ x.k = 2) ∨ x.sl = 0) ∧ (if x.k = 5 then True else x.con = [] ∧ x.non = []) := by
  simp only [rightE, Bool.and_eq_true, decide_eq_true_eq, Bool.or_eq_true] at h
  obtain ⟨hk, hw, hi, hs, hc⟩ := h
  refine ⟨hk, hw, ?_, hs, ?_⟩
  · split at hi <;> rename_i h4
    · rw [if_pos h4]; exact of_decide_eq_true hi
    · rw [if_neg h4]; exact hi
  · split at hc <;> rename_i h5
    · rw [if_pos h5]; trivial
    · rw [if_neg h5]; simpa using hc
theorem kw_free {x : En} (hk : 1 ≤ x.k ∧ x.k ≤ 5) : (32 : UInt8) ∉ kwE x ∧ (10 : UInt8) ∉ kwE x := by
  obtain ⟨k, who, item, sl, con, non⟩ := x
  simp only at hk
  rcases (show k = 1 ∨ k = 2 ∨ k = 3 ∨ k = 4 ∨ k = 5 by omega) with rfl | rfl | rfl | rfl | rfl <;> simp [kwE, kindsL, kwSubmit, kwRevise, kwWithdraw, kwClose, kwOpen]
theorem name_free10 {s : Str} (h : nameB s = true) : (10 : UInt8) ∉ s := by
  intro hm
  simp only [nameB, madeB, Bool.and_eq_true] at h
  have := List.all_eq_true.1 h.2.2 _ hm
  exact absurd this (by decide)
theorem wordsE_free {x : En} (h : rightE x = true) : ∀ w ∈ wordsE x, (32 : UInt8) ∉ w ∧ (10 : UInt8) ∉ w := by
  obtain ⟨hk, hw, hi, hs, hc⟩ := right_parts h
  intro w hm
  have hit : ¬ x.k = 4 → ((32 : UInt8) ∉ x.item ∧ (10 : UInt8) ∉ x.item) := fun h4 => by rw [if_neg h4] at hi; exact ⟨name_free hi, name_free10 hi⟩
  rw [wordsE, List.mem_append] at hm
  rcases hm with hm | hm
  · simp only [List.mem_cons, List.mem_nil_iff, or_false] at hm
    rcases hm with rfl | rfl
    · exact kw_free hk
    · exact ⟨name_free hw, name_free10 hw⟩
  · split at hm
    · simp only [List.mem_cons, List.mem_nil_iff, or_false] at hm
      rcases hm with rfl | rfl
      · exact hit (by omega)
      · exact hexTo_free x.sl 16
    · split at hm
      · simp only [List.mem_cons, List.mem_nil_iff, or_false] at hm
        subst hm
        exact hit (by omega)
      · split at hm
        · simp only [List.mem_cons, List.mem_nil_iff, or_false] at hm
          rcases hm with rfl | rfl | rfl
          · exact hit (by omega)
          · exact octets_free _
          · exact octets_free _
        · cases hm
theorem line_words {x : En} (h : rightE x = true) : wordsL 32 (lineE x) = wordsE x := by
  rw [← join_words (right_parts h).1]
  exact wordsL_of 32 _ (by have := (wordsE_len x).1; intro e; rw [e] at this; simp at this) fun w hw => (wordsE_free h w hw).1
theorem ent_words {x : En} (h : rightE x = true) (hs : x.sl < 18446744073709551616) : entE (wordsE x) = x := by
  obtain ⟨hk, hw, hi, hsl, hc⟩ := right_parts h
  obtain ⟨k, who, item, sl, con, non⟩ := x
  simp only at hk hw hi hsl hc hs
  rcases (show k = 1 ∨ k = 2 ∨ k = 3 ∨ k = 4 ∨ k = 5 by omega) with rfl | rfl | rfl | rfl | rfl
  · simp at hc; simp [entE, wordsE, kwE, kindsL, kindN, kwSubmit, kwRevise, kwWithdraw, kwClose, kwOpen, unhex_hex16 hs, hc]
  · simp at hc; simp [entE, wordsE, kwE, kindsL, kindN, kwSubmit, kwRevise, kwWithdraw, kwClose, kwOpen, unhex_hex16 hs, hc]
  · simp at hc hsl; simp [entE, wordsE, kwE, kindsL, kindN, kwSubmit, kwRevise, kwWithdraw, kwClose, kwOpen, hc, hsl]
  · simp at hc hsl hi; simp [entE, wordsE, kwE, kindsL, kindN, kwSubmit, kwRevise, kwWithdraw, kwClose, kwOpen, hc, hsl, hi]
  · simp at hc hsl; simp [entE, wordsE, kwE, kindsL, kindN, kwSubmit, kwRevise, kwWithdraw, kwClose, kwOpen, hsl, unoct_octets]
/-- This is the line of this entry. -/
structure IsLine (s : Str) (x : En) : Prop where
  r : rightE x = true
  l : lineE x = s
  b : x.sl < 18446744073709551616
theorem IsLine.ent {s : Str} {x : En} (h : IsLine s x) : entE (wordsL 32 s) = x := by rw [← h.l, line_words h.r, ent_words h.r h.b]
theorem IsLine.words {s : Str} {x : En} (h : IsLine s x) : wordsL 32 s = wordsE x := by rw [← h.l, line_words h.r]
theorem ent_sl (ws : List Str) : (entE ws).sl < 18446744073709551616 := by
  show (if ws.length = 4 then unhexN (ws.getD 3 []) else 0) < _
  split
  · exact unhexN_lt _
  · decide
theorem read_some {s : Str} {x : En} : readE s = some x ↔ IsLine s x := by
  constructor
  · intro h
    unfold readE at h
    split at h
    · rename_i hh; cases h; exact ⟨hh.1, hh.2, ent_sl _⟩
    · cases h
  · intro h
    have he := h.ent
    rw [readE, he, if_pos ⟨h.r, h.l⟩]
theorem read_none {s : Str} : readE s = none ↔ ∀ x, ¬ IsLine s x := by
  constructor
  · intro h x hx; rw [read_some.2 hx] at h; cases h
  · intro h
    cases hr : readE s with
    | none => rfl
    | some x => exact absurd (read_some.1 hr) (h x)
/-- What a text is read as, behind what has been read of it. -/
def parseN : Nat → List En → Str → List En × Int × Int
  | 0, h, _ => (h, 0, 0)
  | f + 1, h, t => if t = [] then (h, 0, 0) else if h.length = 60 then ([], 61, 3) else if (10 : UInt8) ∈ t then (match readE (t.takeWhile (· != 10)) with
      | some x => parseN f (h ++ [x]) (t.drop ((t.takeWhile (· != 10)).length + 1))
      | none => ([], (h.length : Int) + 1, 5)) else ([], (h.length : Int) + 1, 5)
theorem take_free {a b : Str} {d : UInt8} (h : d ∉ a) : (a ++ d :: b).takeWhile (· != d) = a := by
  rw [List.takeWhile_append_of_pos (fun c hc => by simp; intro e; exact h (e ▸ hc))]
  simp
theorem drop_free {a b : Str} {d : UInt8} : (a ++ d :: b).drop (a.length + 1) = b := by
  rw [List.drop_append]; simp
theorem split_at {d : UInt8} : ∀ {t : Str}, d ∈ t → ∃ a b, t = a ++ d :: b ∧ d ∉ a
  | c :: r, h => by
    by_cases hc : c = d
    · subst hc; exact ⟨[], r, rfl, by simp⟩
    · have hr : d ∈ r := by rcases List.mem_cons.1 h with e | e; exact absurd e.symm hc; exact e
      obtain ⟨a, b, e, hn⟩ := split_at hr
      exact ⟨c :: a, b, by rw [e]; rfl, by simp [hn, Ne.symm hc]⟩
def parseR (h : List En) (t : Str) : List En × Int × Int := parseN (t.length + 1) h t
theorem parseN_fuel : ∀ (f : Nat) (h : List En) (t : Str), t.length < f → ∀ f', t.length < f' → parseN f h t = parseN f' h t
  | 0, _, _, hf, _, _ => by omega
  | f + 1, h, t, hf, 0, hf' => by omega
  | f + 1, h, t, hf, f' + 1, hf' => by
    unfold parseN
    split
    · rfl
    · rename_i hne
      split
      · rfl
      · split
        · split
          · refine parseN_fuel f _ _ ?_ f' ?_
            · have : 0 < t.length := List.length_pos_iff.2 hne
              rw [List.length_drop]; omega
            · have : 0 < t.length := List.length_pos_iff.2 hne
              rw [List.length_drop]; omega
          · rfl
        · rfl
theorem parse_nil (h : List En) : parseR h [] = (h, 0, 0) := rfl
theorem parse_long {h : List En} {t : Str} (ht : t ≠ []) (hl : h.length = 60) : parseR h t = ([], 61, 3) := by
  rw [parseR, parseN, if_neg ht, if_pos hl]
theorem parse_open {h : List En} {t : Str} (ht : t ≠ []) (hl : ¬ h.length = 60) (hn : (10 : UInt8) ∉ t) : parseR h t = ([], (h.length : Int) + 1, 5) := by
  rw [parseR, parseN, if_neg ht, if_neg hl, if_neg hn]
theorem parse_wrong {h : List En} {a b : Str} (hl : ¬ h.length = 60) (hn : (10 : UInt8) ∉ a) (hr : readE a = none) : parseR h (a ++ 10 :: b) = ([], (h.length : Int) + 1, 5) := by
  rw [parseR, parseN, if_neg (by simp), if_neg hl, if_pos (by simp), take_free hn, hr]
theorem parse_next {h : List En} {a b : Str} {x : En} (hl : ¬ h.length = 60) (hn : (10 : UInt8) ∉ a) (hr : readE a = some x) : parseR h (a ++ 10 :: b) = parseR (h ++ [x]) b := by
  rw [parseR, parseN, if_neg (by simp), if_neg hl, if_pos (by simp), take_free hn, hr]
  simp only [drop_free]
  exact parseN_fuel _ _ _ (by simp; omega) _ (by omega)
/-- Texts that are too long are not read. -/
def parseT (t : Str) : List En × Int × Int := if t.length > 40000 then ([], 0, 3) else parseR [] t
end Go.Proofs.YtmnihgcffdmodaaGreatDoor
set_option linter.unusedVariables false
set_option linter.unusedSimpArgs false
set_option maxRecDepth 20000
namespace Go.Proofs.YtmnihgcffdmodaaGreatDoor
open Go Go.E RowKit
attribute [local irreducible] Go.E.T Go.E.L Go.E.O Go.E.Ob

attribute [local irreducible] Go.E.ObX Go.E.ObK
section ops
variable {C : Cx} {e : Env} {w : World} {K : Value → World → Prop} {d : Option Tmp} {ty : TypeId} {pos : String} {aft : Array Edge} {g : Option (Nat × Bool)} {x y z : Operand} {t tx ty' : TypeId}
/-- A part of a text. -/
theorem O.slice_str_lh {s : Str} {l h : Nat} (hu : ∀ w, (underlying t).run C.P w = .ok .string w) (hx : ev e x = some (str s)) (hy : ev e y = some (.int .i64 l)) (hz : ev e z = some (.int .i64 h)) (h0 : l ≤ h) (h1 : h ≤ s.length) (hk : K (str ((s.drop l).take (h - l))) w) :
    O C e ⟨d, .slice t x (some y) (some z) none, ty, pos, aft, g⟩ w K :=
  O.of_run (by simp) (fun ac ha => by
    have := run_slice_string (P := C.P) w t ⟨s.toArray⟩ .i64 .i64 l h (underlying_of hu) (by omega) (by omega) (by simp [ByteArray.size]; omega)
    simp only [Int.toNat_natCast] at this
    rw [bytes_extract] at this
    simp only [execOp, ha.eval hx, ha.eval hy, ha.eval hz, str, Option.map_some, Option.map_none] at this ⊢
    rw [Sem.run_bind, run_sliceAt_string w _ _ _ _ _ (underlying_of hu), this]; simp) hk
theorem O.mul64w {a b : Nat} (hx : ev e x = some (.int .u64 a)) (hy : ev e y = some (.int .u64 b)) (h : K (.int .u64 (((a * b) % 18446744073709551616 : Nat) : Int)) w) : O C e ⟨d, .binOp .mul tx x y ty', ty, pos, aft, g⟩ w K :=
  O.mul hx hy (by rw [IntKind.wrap_u64]; simpa using h)
theorem O.add64w {a b : Nat} (hx : ev e x = some (.int .u64 a)) (hy : ev e y = some (.int .u64 b)) (h : K (.int .u64 (((a + b) % 18446744073709551616 : Nat) : Int)) w) : O C e ⟨d, .binOp .add tx x y ty', ty, pos, aft, g⟩ w K :=
  O.add hx hy (by rw [IntKind.wrap_u64]; rw [show ((a : Int) + b) % 18446744073709551616 = (((a + b) % 18446744073709551616 : Nat) : Int) by omega]; exact h)
end ops
theorem unoct_len (s : Str) : (unoctR s).length ≤ s.length := by
  induction s using unoctR.induct with
  | case1 a b r ih => simp only [unoctR, List.length_cons]; omega
  | case2 s h => unfold unoctR; split; exact absurd rfl (h _ _ _); simp
theorem wordsL_snoc (d c : UInt8) : ∀ t : Str, wordsL d (t ++ [c]) = if c = d then wordsL d t ++ [[]] else (wordsL d t).set ((wordsL d t).length - 1) ((wordsL d t).getD ((wordsL d t).length - 1) [] ++ [c])
  | [] => by
    show wordsL d [c] = _
    by_cases hc : c = d
    · subst hc; simp [wordsL]
    · simp [wordsL, hc]
  | a :: r => by
    have ih := wordsL_snoc d c r
    show wordsL d (a :: (r ++ [c])) = _
    have hne := wordsL_ne d r
    obtain ⟨v, vs, hv⟩ : ∃ v vs, wordsL d r = v :: vs := by
      cases h : wordsL d r with
      | nil => exact absurd h hne
      | cons v vs => exact ⟨v, vs, rfl⟩
    rw [hv] at ih
    by_cases hc : c = d
    · rw [if_pos hc] at ih ⊢
      by_cases ha : a = d
      · simp [wordsL, ha, ih, hv]
      · simp [wordsL, ha, ih, hv]
    · rw [if_neg hc] at ih ⊢
      by_cases ha : a = d
      · simp [wordsL, ha, ih, hv]
      · cases vs with
        | nil => simp [wordsL, ha, ih, hv]
        | cons u us => simp [wordsL, ha, ih, hv]
theorem words_len (d : UInt8) : ∀ s : Str, (wordsL d s).length ≤ s.length + 1
  | [] => by simp [wordsL]
  | c :: r => by
    have ih := words_len d r
    unfold wordsL
    split
    · simp only [List.length_cons]; omega
    · split
      · simp
      · rename_i hv; rw [hv] at ih; simp only [List.length_cons] at ih ⊢; omega
theorem word_len (d : UInt8) : ∀ s : Str, ∀ w ∈ wordsL d s, w.length ≤ s.length
  | [], w, h => by simp [wordsL] at h; subst h; simp
  | c :: r, w, h => by
    have ih := word_len d r
    unfold wordsL at h
    split at h
    · rcases List.mem_cons.1 h with rfl | h
      · simp
      · have := ih w h; simp only [List.length_cons]; omega
    · split at h
      · simp at h; subst h; simp
      · rename_i v vs hv
        rcases List.mem_cons.1 h with rfl | h
        · have := ih v (by rw [hv]; exact List.mem_cons_self ..); simp only [List.length_cons]; omega
        · have := ih w (by rw [hv]; exact List.mem_cons_of_mem _ h); simp only [List.length_cons]; omega
end Go.Proofs.YtmnihgcffdmodaaGreatDoor
