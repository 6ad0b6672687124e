/-
  Walks of the history's functions (4). Conditions: those of each statement.
-/
import Derived.Test.YtmnihgcffdmodaaGreatDoorQf
import Derived.Test.YtmnihgcffdmodaaGreatDoorQc
import Derived.Lib.ConvBytes
import Derived.Stop.IfaceNil
import Derived.Stop.Asserts
import Derived.Lib.BufferRead
set_option linter.unusedVariables false
set_option linter.unusedSimpArgs false
set_option maxRecDepth 20000
namespace Go.Proofs.YtmnihgcffdmodaaGreatDoor
open Go Go.E RowKit
attribute [local irreducible] Go.E.T Go.E.L Go.E.O Go.E.Ob

attribute [local irreducible] Go.E.ObX Go.E.ObK
def kwAll : List Str := [[], kwSubmit, kwRevise, kwWithdraw, kwClose, kwOpen]
def kindTo (w : Str) (k : Nat) : Int := if 1 ≤ kindN w ∧ kindN w < (k : Int) then kindN w else 0
theorem kind_range (w : Str) : 0 ≤ kindN w ∧ kindN w ≤ 5 := by
  unfold kindN
  repeat' split
  all_goals omega
theorem kind_iff (w : Str) {k : Nat} (h1 : 1 ≤ k) (h2 : k < 6) : w = kwAll.getD k [] ↔ kindN w = k := by
  rcases (show k = 1 ∨ k = 2 ∨ k = 3 ∨ k = 4 ∨ k = 5 by omega) with rfl | rfl | rfl | rfl | rfl
  all_goals
    constructor
    · intro h
      rw [h]
      decide
    · intro h
      unfold kindN at h
      repeat' split at h
      all_goals first | assumption | (exfalso; revert h; decide)
def kEn (k : Int) : En := ⟨k, [], [], 0, [], []⟩
theorem ent_ok {ws : List Str} (h : ∀ w ∈ ws, w.length ≤ 1000000) : (entE ws).ok := by
  have g : ∀ i, (ws.getD i []).length ≤ 1000000 := fun i => by
    by_cases hi : i < ws.length
    · rw [getD_get hi]; exact h _ (List.getElem_mem _)
    · simp [List.getD, List.getElem?_eq_none (by omega : ws.length ≤ i)]
  refine ⟨?_, ?_, ent_sl ws, ?_, ?_⟩
  · have := g 1; show (ws.getD 1 []).length ≤ _; omega
  · have := g 2; show (ws.getD 2 []).length ≤ _; omega
  · show (if ws.length = 5 then unoctR (ws.getD 4 []) else []).length ≤ _
    split
    · have := unoct_len (ws.getD 4 []); have := g 4; omega
    · simp
  · show (if ws.length = 5 then unoctR (ws.getD 3 []) else []).length ≤ _
    split
    · have := unoct_len (ws.getD 3 []); have := g 3; omega
    · simp
end Go.Proofs.YtmnihgcffdmodaaGreatDoor
set_option linter.unusedVariables false
set_option linter.unusedSimpArgs false
set_option maxRecDepth 20000
namespace Go.Proofs.YtmnihgcffdmodaaGreatDoor
open Go Go.E RowKit
attribute [local irreducible] Go.E.T Go.E.L Go.E.O Go.E.Ob

attribute [local irreducible] Go.E.ObX Go.E.ObK
end Go.Proofs.YtmnihgcffdmodaaGreatDoor
set_option linter.unusedVariables false
set_option linter.unusedSimpArgs false
set_option maxRecDepth 20000
namespace Go.Proofs.YtmnihgcffdmodaaGreatDoor
open Go Go.E RowKit
attribute [local irreducible] Go.E.T Go.E.L Go.E.O Go.E.Ob

attribute [local irreducible] Go.E.ObX Go.E.ObK
theorem Bld.ext {B b : Nat} {s : Str} {w w' : World} (h : Bld B b s w) (k : Ext w w') : Bld B b s w' := by
  have key : ∀ p, Lib.BuilderAt 95 5 B b p (Lib.byteCells s) w → Lib.BuilderAt 95 5 B b p (Lib.byteCells s) w' := by
    rintro p ⟨hb, v, h1, h2, h3⟩
    exact ⟨hb, v, k.blk (Nat.zero_le _) h1, owns_keep h2 k (Nat.zero_le _), h3⟩
  exact h.imp (key _) (key _)
theorem text_calls (lo : Nat) (p : Value) (xs : List En) (w : World) (hp : Ens lo w p xs) (hxs : AllOk xs) (hL : LibM w) :
    Calls Tryz.prog 20 #[p] w (Ret fun v w' => v = .tuple #[str (textR xs).1, .int .i64 (textR xs).2] ∧ Ext w w') := by
  have hle := Sl.le hp
  refine T.enter (vs := [p]) Tryz.func20 rfl Tryz.ntmps20 rfl ?_
  refine T.seq (T.region (L.op rfl rfl (O.assign rfl (L.op rfl rfl (O.assign rfl (L.nil (T.seq (T.seq (T.region (L.op rfl rfl (O.move rfl (L.op rfl rfl (O.call (xs := [.tmp 8]) Tryz.call28 rfl rfl (check_calls lo p xs w hp hxs) (fun v5 w5 hq => ?_))))))))))))))
  obtain ⟨rfl, he5⟩ := hq
  refine L.op rfl rfl (O.assign rfl (L.nil (T.seq (T.region (L.op rfl rfl (O.move rfl (L.op rfl rfl (O.neq_s rfl rfl (fun hc => ?_) (fun hc => ?_)))))))))
  · refine L.nil (T.cond_true rfl (T.seq (T.region (L.op rfl rfl (O.move rfl (L.op rfl rfl (O.assign rfl (L.op rfl rfl (O.assign rfl (L.nil (T.ret2 Tryz.results20 rfl rfl ⟨by rw [textR, if_neg hc] <;> rfl, he5⟩)))))))))))
  · refine L.nil (?_)
    have hba := bounds_all hc
    have hcr := check_right hc
    refine T.cond_false rfl (T.skip (T.seq (T.region (L.op rfl rfl (O.alloc Tryz.zeroValue95 (fun b6 w6 hb6 hz6 he6 hB6 => ?_))))))
    have hb0 : Bld w.heap.size b6 [] w6 := Bld.new hB6 (by have := he5.size; omega)
    have he06 := he5.trans he6
    refine L.nil (T.seq (T.seq (T.region (L.op rfl rfl (O.move rfl (L.op rfl rfl (O.len Tryz.runUnderlying27 rfl (Sl.val (hp.ext he06)) (L.op rfl rfl (O.move rfl (L.nil (T.block (?_))))))))))))
    refine T.loop (σ := Nat) (fun i => [(5, .pointer (some ⟨b6, 0, none⟩)), (13, p), (14, .int .i64 xs.length), (15, .int .i64 i)]) (fun i w' => i ≤ xs.length ∧ Ext w w' ∧ Bld w.heap.size b6 (textL (xs.take i)) w') (fun i => xs.length - i) (0) ⟨rfl, rfl, rfl, rfl, trivial⟩ ⟨Nat.zero_le _, he06, hb0⟩ ?_
    rintro i w7 ⟨hi, he7, hb7⟩
    have hp7 := hp.ext he7
    refine T.seq (T.region (L.op rfl rfl (O.lss_s rfl rfl (fun hlt => ?_) (fun hlt => ?_))))
    · refine L.nil (?_)
      have hlt' : i < xs.length := by omega
      have hm := mem_of_getD hlt' (d := e0) rfl
      have hll := line_len (hba _ hm)
      have htl := textL_len (xs.take i) (fun x hx => hba x (List.mem_of_mem_take hx))
      have hti : (xs.take i).length ≤ 60 := by rw [List.length_take]; omega
      refine T.seq (T.cond_true rfl (T.skip (T.seq (T.block (T.seq (T.region (L.op rfl rfl (O.indexAddr Tryz.runUnderlying27 Tryz.sizeOf42 rfl rfl hp7 (by omega) (by omega) (L.op rfl rfl (O.loadAgg Tryz.isAgg42 Tryz.sizeOf42 rfl rfl (hp7.row hlt') (L.op rfl rfl (O.alloc Tryz.zeroValue42 (fun b8 w8 hb8 hz8 he8 hB8 => ?_)))))))))))))
      refine L.op rfl rfl (O.storeAgg Tryz.sizeOf42 rfl rfl rfl hB8 (Nat.le_refl _) (En.one _) (fun w9 hu9 hB9 => ?_))
      have hu9 : Upd b8 _ _ := hu9
      have hX9 : Blk w9 b8 (xs.getD i e0).cells 42 := hB9
      have he79 : Ext w7 w9 := he8.upd hu9 (.inr (by omega))
      have he09 := he7.trans he79
      refine L.nil (T.seq (T.region (L.op rfl rfl (O.loadAgg Tryz.isAgg42 Tryz.sizeOf42 rfl rfl hX9.row (L.op rfl rfl (O.call (xs := [.tmp 19]) Tryz.call56 rfl rfl (line_calls (xs.getD i e0) w9 (hba _ hm) (hxs.at hlt') (hL.ext he09)) (fun v10 w10 hq => ?_)))))))
      obtain ⟨rfl, he10⟩ := hq
      have he010 := he09.trans he10
      refine L.op rfl rfl (O.call (xs := [.tmp 5, .tmp 20]) Tryz.call55 rfl rfl (writeS w.heap.size b6 (textL (xs.take i)) (lineE (xs.getD i e0)) w10 (hb7.ext (he79.trans he10)) (by omega) he010.size) (fun v11 w11 hq => ?_))
      obtain ⟨rfl, hb11, hl11⟩ := hq
      have he011 := Ext.below_trans he010 hl11
      refine L.nil (T.region (L.op rfl rfl (O.call (xs := [.tmp 5, _]) Tryz.call55 rfl rfl (writeS w.heap.size b6 (textL (xs.take i) ++ lineE (xs.getD i e0)) [10] w11 hb11 (by simp only [List.length_append, List.length_cons, List.length_nil]; omega) he011.size) (fun v12 w12 hq => ?_))))
      obtain ⟨rfl, hb12, hl12⟩ := hq
      refine L.nil (T.blk (T.region (L.op rfl rfl (O.add64 rfl rfl (by omega) (L.op rfl rfl (O.move rfl (L.nil (T.again (i + 1) (by omega) ⟨rfl, rfl, rfl, rfl, trivial⟩ ⟨hlt', Ext.below_trans he011 hl12, by rw [textL_snoc hlt']; exact hb12⟩))))))))
    · refine L.nil (T.seq (T.cond_false rfl (T.exit rfl (T.seq (T.region (L.op rfl rfl (O.call (xs := [.tmp 5]) Tryz.call57 rfl rfl (bldString w.heap.size b6 (textL (xs.take i)) w7 hb7 he7.size) (fun v8 w8 hq => ?_))))))))
      obtain ⟨rfl, hl8⟩ := hq
      refine L.op rfl rfl (O.assign rfl (L.op rfl rfl (O.assign rfl (L.nil (T.ret2 Tryz.results20 rfl rfl ⟨by rw [textR, if_pos hc, List.take_of_length_le (by omega)] <;> rfl, Ext.below_trans he7 hl8⟩)))))

end Go.Proofs.YtmnihgcffdmodaaGreatDoor
set_option linter.unusedVariables false
set_option linter.unusedSimpArgs false
set_option maxRecDepth 20000
namespace Go.Proofs.YtmnihgcffdmodaaGreatDoor
open Go Go.E RowKit
attribute [local irreducible] Go.E.T Go.E.L Go.E.O Go.E.Ob

attribute [local irreducible] Go.E.ObX Go.E.ObK
/-- What holds between the rounds of a range over a function whose rounds append to a list in the variable b2. -/
structure AI (w : World) (b2 z : Nat) (tv el : TypeId) (sz n : Nat) (cs : List Value) (S : Nat → Prop) (W : World) : Prop where
  xe : Ext w W
  xz : z ≤ W.heap.size
  xs : ∀ k, S k → z ≤ k ∧ k < W.heap.size
  row : ∃ v, Blk W b2 [v] tv ∧ W.ownsRow z el sz v n cs ∧ ∀ k, S k → v.ownBlock ≠ some k
section
variable {w : World} {b2 z : Nat} {tv el : TypeId} {sz n n' : Nat} {cs cs' : List Value} {S S' : Nat → Prop} {W W' W1 W2 W3 : World}
theorem AI.ext (h : AI w b2 z tv el sz n cs S W) (he : Ext W W') (hS : ∀ k, S' k → S k ∨ W.heap.size ≤ k ∧ k < W'.heap.size) : AI w b2 z tv el sz n cs S' W' := by
  obtain ⟨v, h1, h2, h3⟩ := h.row
  have hz := h.xz
  have hz' := he.size
  refine ⟨h.xe.trans he, by omega, fun k hk => ?_, v, h1.ext he, owns_keep h2 he (Nat.zero_le _), fun k hk e => ?_⟩
  · rcases hS k hk with h4 | h4
    · have := h.xs k h4; omega
    · omega
  · rcases hS k hk with h4 | h4
    · exact h3 k h4 e
    · have := own_at h2 e; omega
theorem AI.upd (h : AI w b2 z tv el sz n cs S W) (hb2 : b2 < z) (hw : w.heap.size ≤ z) {b : Nat} (hb : S b) (hu : Upd b W W') : AI w b2 z tv el sz n cs S W' := by
  obtain ⟨v, h1, h2, h3⟩ := h.row
  have hs := h.xs b hb
  refine ⟨h.xe.upd hu (.inr (by omega)), by rw [hu.size]; exact h.xz, fun k hk => by rw [hu.size]; exact h.xs k hk, v, h1.upd hu (by omega), owns_upd' h2 (fun j hj e => h3 b hb (by rw [hj, e])) hu, h3⟩
theorem AI.add2 (h : AI w b2 z tv el sz n cs S W) (hb2 : b2 < z) (hw : w.heap.size ≤ b2) {v v' : Value} (hn : ∀ k, S k → v.ownBlock ≠ some k) (he : Ext w W1) (hsz : W.heap.size ≤ W1.heap.size) (hk1 : ∀ k, S k → W1.heap[k]? = W.heap[k]?) (hO1 : W1.ownsRow z el sz v n cs) (hG : W1.grownBy W2 v.ownBlock) (hO2 : W2.ownsRow z el sz v' n' cs') (hF : ∀ j, v'.ownBlock = some j → v.ownBlock = some j ∨ W1.heap.size ≤ j) (hu : Upd b2 W2 W3) (hB : Blk W3 b2 [v'] tv) :
    AI w b2 z tv el sz n' cs' S W3 ∧ ∀ k, S k → W3.heap[k]? = W.heap[k]? := by
  have hz := h.xz
  have hg2 := hG.size
  refine ⟨⟨(Keep.grown0 he hO1 hG (by omega)).upd hu (.inr hw), by rw [hu.size]; omega, fun k hk => ?_, v', hB, owns_upd' hO2 (fun j hj e => ?_) hu, fun k hk e => ?_⟩, fun k hk => ?_⟩
  · have := h.xs k hk; rw [hu.size]; omega
  · have := own_at hO2 hj; omega
  · rcases hF k e with h4 | h4
    · exact hn k hk h4
    · have := h.xs k hk; omega
  · have hs := h.xs k hk
    rw [hu.block k (by omega), hG.block k (by omega) (fun e => hn k hk e.symm), hk1 k hk]
theorem AI.add (h : AI w b2 z tv el sz n cs S W) (hb2 : b2 < z) (hw : w.heap.size ≤ b2) {v v' : Value} (hBv : Blk W b2 [v] tv) (hO : W.ownsRow z el sz v n cs) (hn : ∀ k, S k → v.ownBlock ≠ some k) (he : Ext W W1) (hO1 : W1.ownsRow z el sz v n cs) (hG : W1.grownBy W2 v.ownBlock) (hO2 : W2.ownsRow z el sz v' n' cs') (hF : ∀ j, v'.ownBlock = some j → v.ownBlock = some j ∨ W1.heap.size ≤ j) (hu : Upd b2 W2 W3) (hB : Blk W3 b2 [v'] tv) :
    AI w b2 z tv el sz n' cs' S W3 ∧ ∀ k, S k → W3.heap[k]? = W.heap[k]? :=
  h.add2 hb2 hw hn (h.xe.trans he) he.size (fun k hk => he.block k (Nat.zero_le _) (h.xs k hk).2) hO1 hG hO2 hF hu hB
end
def NextI (its : List It) (i : Nat) (v : Value) (j : Nat) : Prop := i < its.length ∧ v = (its.getD i i0).val ∧ j = i + 1
theorem items_calls (l base B : Nat) (s : St) (rv : Value) (ps : List Nat) (J : Nat → (Nat → Prop) → World → Prop) (X : World → Prop) (w : World) (hJ : Stab J) (hInv : ∀ i S W, J i S W → Book base B s rv ps W) (hround : ∀ i v j S W, NextI s.its i v j → J i S W → Yld Tryz.prog l #[v] W fun u W' => (u = .bool true ∧ J j S W' ∧ ∀ k, S k → W'.heap[k]? = W.heap[k]?) ∨ (u = .bool false ∧ X W')) (h0 : J 0 (fun _ => False) w) :
    Calls Tryz.prog 49 #[.pointer (some ⟨B, 0, none⟩), .func (.yield l) #[] #[]] w (Ret fun _ w' => (∃ S : Nat → Prop, (∀ k, False → S k) ∧ J s.its.length S w') ∨ X w') := by
  have hI0 := hInv _ _ _ h0
  have hle := Sl.le hI0.sl
  have hlen := hI0.len
  refine T.enter (vs := [.pointer (some ⟨B, 0, none⟩), .func (.yield l) #[] #[]]) Tryz.func49 rfl Tryz.ntmps49 rfl ?_
  refine T.seq (T.region (L.op rfl rfl (O.move rfl (L.op rfl rfl (O.nilCheck rfl (L.op rfl rfl (O.fieldAddr Tryz.runUnderlying88 rfl Tryz.sizeOf86 rfl (L.op rfl rfl (O.load Tryz.isAgg86 rfl (hI0.c.cell rfl) (L.op rfl rfl (O.len Tryz.runUnderlying86 rfl (Sl.val hI0.sl) (L.op rfl rfl (O.move rfl (L.nil (T.block (?_))))))))))))))))
  refine T.loop (σ := Nat) (fun i => [(1, .func (.yield l) #[] #[]), (9, rv), (10, .int .i64 ps.length), (11, .int .i64 i)]) (fun i w' => i ≤ ps.length ∧ ∃ S : Nat → Prop, J i S w') (fun i => ps.length - i) (0) ⟨rfl, rfl, rfl, rfl, trivial⟩ ⟨Nat.zero_le _, fun _ => False, h0⟩ ?_
  rintro i w1 ⟨hi, S, hj⟩
  have hI1 := hInv _ _ _ hj
  refine T.seq (T.region (L.op rfl rfl (O.lss_s rfl rfl (fun hlt => ?_) (fun hlt => ?_))))
  · refine L.nil (?_)
    have hlt' : i < ps.length := by omega
    refine T.seq (T.cond_true rfl (T.skip (T.seq (T.block (T.seq (T.region (L.op rfl rfl (O.indexAddr Tryz.runUnderlying86 Tryz.sizeOf121 rfl rfl hI1.sl (by omega) (by omega) (L.op rfl rfl (O.load Tryz.isAgg121 rfl (hI1.at hlt') (L.op rfl rfl (O.assign rfl (L.nil (T.seq (T.region (L.op rfl rfl (O.move rfl (L.op rfl rfl (O.move rfl (L.op rfl rfl (O.nilCheck rfl (L.op rfl rfl (O.fieldAddr Tryz.runUnderlying123 rfl Tryz.sizeOf39 rfl (L.op rfl rfl (O.loadAgg Tryz.isAgg39 Tryz.sizeOf39 rfl rfl ((hI1.rc i hlt').row) (L.op rfl rfl (O.yield (xs := [.tmp 19]) rfl rfl rfl (hround _ (s.its.getD i i0).val _ S _ ⟨by omega, rfl, rfl⟩ hj) (fun v5 w5 hq => ?_))))))))))))))))))))))))))))
    obtain hq := hq
    rcases hq with ⟨rfl, hj5, hk5⟩ | ⟨rfl, hX⟩
    · refine L.op rfl rfl (O.not rfl (L.nil (T.cond_false rfl (T.skip (T.blk (T.region (L.op rfl rfl (O.add64 rfl rfl (by omega) (L.op rfl rfl (O.move rfl (L.nil (T.again (i + 1) (by omega) ⟨rfl, rfl, rfl, rfl, trivial⟩ ⟨hlt', S, hj5⟩))))))))))))
    · refine L.op rfl rfl (O.not rfl (L.nil (T.cond_true rfl (T.ret0 Tryz.results49 (.inr hX)))))
  · refine L.nil (?_)
    obtain rfl : i = s.its.length := by omega
    refine T.seq (T.cond_false rfl (T.exit rfl (T.end0 Tryz.results49 (.inl ⟨S, fun _ h => h.elim, hj⟩))))

theorem items_seq (base B : Nat) (s : St) (rv : Value) (ps : List Nat) : SeqCB Tryz.prog 49 #[.pointer (some ⟨B, 0, none⟩)] #[] (NextI s.its) 0 s.its.length (fun W => Book base B s rv ps W) (fun _ => False) (fun _ => True) :=
  fun l J X W hJ hInv hround h0 _ => by
    have := items_calls l base B s rv ps J X W hJ hInv hround h0
    simpa using this
theorem appendSeq_calls (base B : Nat) (s : St) (rv : Value) (ps : List Nat) (w : World) (hb : Book base B s rv ps w) (hsm : s.its.length ≤ 100000) :
    Calls Tryz.prog 83 #[.slice none 0 0, .func (.func 49) #[.pointer (some ⟨B, 0, none⟩)] #[]] w (Ret fun v w' => Its 0 w' v s.its ∧ Ext w w') := by
  refine T.enterM (vs := [.slice none 0 0, .func (.func 49) #[.pointer (some ⟨B, 0, none⟩)] #[]]) Tryz.func83 rfl Tryz.ntmps83 rfl ?_
  refine T.seq (T.region (L.op rfl rfl (O.box rfl (fun b2 w2 hb2 hz2 he2 hB2 => ?_))))
  have hB2' : Blk w2 b2 [.slice none 0 0] 30 := hB2
  have hz2' := hz2
  have hst : AI w b2 w2.heap.size 30 39 7 0 ((s.its.take 0).map It.cells).flatten (fun _ => False) w2 := ⟨he2, Nat.le_refl _, fun k hk => hk.elim, _, hB2', owns_nil _ _ _ _, fun k hk => hk.elim⟩
  have hbz : b2 < w2.heap.size := hB2'.lt
  refine L.op rfl rfl (O.assign rfl (L.nil (T.seq (T.seq (T.region (L.op rfl rfl (O.move rfl (L.nil (T.block (?_))))))))))
  refine T.rangeFuncMB (e1 := fun v x => [(2, .pointer (some ⟨b2, 0, none⟩)), (5, .pointer (some ⟨x, 0, none⟩))]) (fun i S W => i ≤ s.its.length ∧ AI w b2 w2.heap.size 30 39 7 i ((s.its.take i).map It.cells).flatten S W) (fun _ _ _ => False) (fun v x w' => ∃ i : Nat, v = (s.its.getD i i0).val ∧ Blk w' x (s.its.getD i i0).cells 39) rfl Tryz.call49 rfl (items_seq base B s rv ps) ?_ ?_ ?_ ?_ ?_ ?_ ?_ ?_ ?_ ?_ ?_
  · exact ⟨fun i S S' W W' h he hS => ⟨h.1, h.2.ext he hS⟩, fun i S W W' b h hb' hu => ⟨h.1, h.2.upd hbz (by omega) hb' hu⟩⟩
  · exact fun _ _ _ _ _ h _ _ => h.elim
  · exact fun i S W h => hb.ext h.2.xe
  · exact ⟨Nat.zero_le _, hst⟩
  · exact fun k hk => hk.elim
  · exact fun W hW => trivial
  · rintro v x W W' b' ⟨i, h1, h2⟩ hne hu
    exact ⟨i, h1, h2.upd hu (Ne.symm hne)⟩
  · intro l Q i j v k W hn hK
    obtain ⟨hi, rfl, _⟩ := hn
    refine T.region (L.op rfl rfl (O.alloc Tryz.zeroValue39 (fun b8 w8 hb8 hz8 he8 hB8 => ?_)))
    refine L.op rfl rfl (O.storeAgg Tryz.sizeOf39 rfl rfl rfl hB8 (Nat.le_refl _) (It.one _) (fun w9 hu9 hB9 => ?_))
    refine L.nil (T.sub ?_ (hK b8 _ (by omega) (he8.upd hu9 (.inr (by omega))) ⟨_, rfl, hB9⟩))
    exact ⟨rfl, rfl, trivial⟩
  · rintro l i v x j S w8 ⟨hi, rfl, rfl⟩ ⟨hile, hA8⟩ ⟨i', hv, hBx⟩ hnx
    have hBx' : Blk w8 x (s.its.getD i i0).cells 39 := by have h : (s.its.getD i i0).cells = (s.its.getD i' i0).cells := by { have := congrArg Value.cells hv; simpa [It.val, Value.cells] using this }; rw [h]; exact hBx
    obtain ⟨q, hq1, hq2, hq3⟩ := hA8.row
    refine T.block (T.region (L.op rfl rfl (O.load Tryz.isAgg30 rfl (hq1.cell rfl) (L.op rfl rfl (O.loadAgg Tryz.isAgg39 Tryz.sizeOf39 rfl rfl hBx'.row (L.op rfl rfl (O.buildSlice (el := 39) (parts := [(0, .tmp 9)]) (vs := [(0, _)]) (cs := (s.its.getD i i0).cells) rfl (fun w => by kernel_rfl) (fun b9 w9 hb9 hz9 he9 hB9 => ?_))))))))
    have hq9 := owns_keep hq2 he9 (Nat.zero_le _)
    refine L.op rfl rfl (O.appendF (size := 7) (bytes := 72) Tryz.runUnderlying30 Tryz.infoOf39 rfl rfl rfl rfl (by decide) rfl rfl hq9 (show (s.its.getD i i0).cells.length = 1 * 7 from rfl) hB9.row (It.one _) (by omega) (by simp only [maxLen]; omega) (by have := hA8.xz; have := he9.size; omega) (fun v10 w10 hO10 hG10 hF10 => ?_))
    have hq10 : Blk w10 b2 [q] 30 := (hq1.ext he9).grown hG10 (fun j hj e => by have := own_at hq2 hj; omega)
    refine L.op rfl rfl (O.store1 Tryz.sizeOf30 (Sl.one (Sl.of_owns hO10)) rfl rfl hq10 (by simp) (fun w11 hu11 hB11 => ?_))
    have hu11 : Upd b2 _ _ := hu11
    have hfin := hA8.add hbz (by omega) hq1 hq2 hq3 he9 hq9 hG10 hO10 hF10 hu11 hB11
    refine L.nil (T.blk (T.roundEnd ⟨⟨hi, by rw [take_snoc (d := i0) hi, fl_append, fl_one]; exact hfin.1⟩, hfin.2⟩))
  · rintro S D w8 hD hS0 hSD ⟨hle, hA8⟩ hD8
    have ho8 : Opn [D] w8 := (Opn.nil _).cons hD8 (by simp)
    obtain ⟨q, hq1, hq2, hq3⟩ := hA8.row
    refine T.blk (T.seq (T.region (L.op rfl rfl (O.load Tryz.isAgg30 rfl (hq1.cell rfl) (L.op rfl rfl (O.assign rfl (L.nil (T.retM1 Tryz.results83 rfl ho8 (fun w' hs => ⟨?_, hA8.xe.shut hs (fun r hr => by simp at hr; subst hr; have := (hA8.xs _ hSD).1; omega)⟩)))))))))
    have h2 := Opn.shut_owns ho8 hq2 hs
    rw [List.take_of_length_le (Nat.le_refl _)] at h2
    exact (Sl.of_owns h2).mono (Nat.zero_le _)
  · exact fun _ _ _ _ _ _ h _ => h.elim

end Go.Proofs.YtmnihgcffdmodaaGreatDoor
set_option linter.unusedVariables false
set_option linter.unusedSimpArgs false
set_option maxRecDepth 20000
namespace Go.Proofs.YtmnihgcffdmodaaGreatDoor
open Go Go.E RowKit
attribute [local irreducible] Go.E.T Go.E.L Go.E.O Go.E.Ob

attribute [local irreducible] Go.E.ObX Go.E.ObK
def ItsP (its : List It) (v : Value) (w : World) : Prop := Its 0 w v its
theorem ItsP.st {its : List It} : ∀ v w w', Ext w w' → ItsP its v w → ItsP its v w' := fun _ _ _ he h => Its.ext h he
theorem goE_at : ∀ (xs : List En) (s : St) (i : Nat), ((goE s xs i).2.2 = 0 → (goE s xs i).2.1 = 0) ∧ (¬ (goE s xs i).2.2 = 0 → (goE s xs i).1 = s0)
  | [], s, i => ⟨fun _ => rfl, fun h => absurd rfl h⟩
  | x :: r, s, i => by
    rw [goE]
    cases h : stepE s x with
    | none => exact ⟨fun h => absurd h (by simp), fun _ => rfl⟩
    | some s' => exact goE_at r s' (i + 1)
theorem replay_at {xs : List En} (h : (replayR xs).2.2 = 0) : (replayR xs).2.1 = 0 := by
  unfold replayR at h ⊢
  split at h <;> rename_i hc
  · rw [if_pos hc]; exact (goE_at xs s0 0).1 h
  · rw [if_neg hc]
theorem replay_none {xs : List En} (h : ¬ (replayR xs).2.2 = 0) : (replayR xs).1 = s0 := by
  unfold replayR at h ⊢
  split at h <;> rename_i hc
  · rw [if_pos hc]; exact (goE_at xs s0 0).2 h
  · rw [if_neg hc]
theorem collect_calls (base B : Nat) (s : St) (rv : Value) (ps : List Nat) (w : World) (hb : Book base B s rv ps w) (hsm : s.its.length ≤ 100000) :
    Calls Tryz.prog 48 #[.func (.func 49) #[.pointer (some ⟨B, 0, none⟩)] #[]] w (Ret fun v w' => Its 0 w' v s.its ∧ Ext w w') := by
  refine T.enter (vs := [.func (.func 49) #[.pointer (some ⟨B, 0, none⟩)] #[]]) Tryz.func48 rfl Tryz.ntmps48 rfl ?_
  refine T.seq (T.region (L.op rfl rfl (O.assign rfl (L.nil (T.seq (T.region (L.op rfl rfl (O.move rfl (L.op rfl rfl (O.call (xs := [.const (.slice none 0 0), .tmp 3]) Tryz.call83 rfl rfl (appendSeq_calls base B s rv ps w hb hsm) (fun v4 w4 hq => ?_)))))))))))
  obtain ⟨hI4, he4⟩ := hq
  refine L.op rfl rfl (O.assign rfl (L.nil (T.ret1 Tryz.results48 rfl ⟨hI4, he4⟩)))

set_option maxHeartbeats 1000000 in
theorem Replay_calls (lo : Nat) (p : Value) (xs : List En) (w : World) (hp : Ens lo w p xs) (hxs : AllOk xs) (hL : LibM w) :
    Calls Tryz.prog 12 #[p] w (Ret fun v w' => ∃ pv, v = .tuple #[stVal pv (replayR xs).1, .int .i64 (replayR xs).2.1, .int .i64 (replayR xs).2.2] ∧ Its 0 w' pv (replayR xs).1.its ∧ Ext w w') := by
  have hle := Sl.le hp
  refine T.enter (vs := [p]) Tryz.func12 rfl Tryz.ntmps12 rfl ?_
  refine T.seq (T.region (L.op rfl rfl (O.alloc Tryz.zeroValue32 (fun b2 w2 hb2 hz2 he2 hB2 => ?_))))
  have hR2 : Blk w2 b2 stZ 32 := hB2
  have hrl := replay_len xs
  rcases Classical.em ((replayR xs).2.2 = 0) with hc | hc
  · refine L.op rfl rfl (O.assign rfl (L.op rfl rfl (O.assign rfl (L.nil (T.seq (T.region (L.op rfl rfl (O.move rfl (L.op rfl rfl (O.call (xs := [.tmp 7]) Tryz.call47 rfl rfl (replay_calls lo p xs w2 (hp.ext he2) hxs (hL.ext he2)) (fun v8 w8 hq => ?_)))))))))))
    obtain ⟨he8, hy8, _⟩ := hq
    obtain ⟨B, rv, ps, rfl, hbk⟩ := hy8 hc
    refine L.op rfl rfl (O.move rfl (L.op rfl rfl (O.extract rfl rfl (L.op rfl rfl (O.extract rfl rfl (L.op rfl rfl (O.extract rfl rfl (L.op rfl rfl (O.assign rfl (L.op rfl rfl (O.assign rfl (L.op rfl rfl (O.assign rfl (L.nil (T.seq (T.seq (T.region (L.op rfl rfl (O.move rfl (L.op rfl rfl (O.neq_f rfl rfl rfl (?_))))))))))))))))))))))
    have hgo : (replayR xs).2.1 = 0 := replay_at hc
    obtain ⟨s, hs⟩ : ∃ s, s = (replayR xs).1 := ⟨_, rfl⟩
    rw [← hs] at hbk hrl
    refine L.nil (T.cond_false rfl (T.skip (T.seq (?_))))
    refine T.anyE mixed 11 [5] rfl [.is _, .is _, .such (ItsP s.its), .is _, .is _, .is _, .is _, .is _, .is _, .is _, .is _] [[], [0], [1], [], [3], [4], [5], [], [7], [8], [9]] [[], [0], [0, 1], [], [3], [3, 4], [3, 4, 5], [], [7], [7, 8], [7, 8, 9], [0, 1, 2, 3, 4, 5, 6, 7, 8, 9, 10], [0, 1, 2, 3, 4, 5, 6, 7, 8, 9, 10, 11], [0, 1, 2, 3, 4, 5, 6, 7, 8, 9, 10, 11, 12], [0, 1, 2, 3, 4, 5, 6, 7, 8, 9, 10, 11, 12, 13]] (by kernel_rfl) (by kernel_rfl) rfl (by kernel_rfl) ⟨ItsP.st, trivial⟩ ⟨fun wx hx => Ob.op rfl (O.move rfl ⟨Keep.refl _ _, rfl⟩),
        fun wx hx => Ob.op rfl (O.makeFunc (fi := [.tmp 17]) (ca := []) rfl rfl ⟨Keep.refl _ _, rfl⟩),
        fun wx hx => Ob.op rfl (O.call (xs := [.tmp 18]) Tryz.call48 rfl rfl (collect_calls w2.heap.size B s rv ps wx (hbk.ext hx) (by omega)) (fun v wy h => ⟨h.2, h.1⟩)),
        fun wx hx => Ob.op rfl (O.move rfl ⟨Keep.refl _ _, rfl⟩),
        fun wx hx => Ob.op rfl (O.nilCheck rfl ⟨Keep.refl _ _, rfl⟩),
        fun wx hx => Ob.op rfl (O.fieldAddr Tryz.runUnderlying88 rfl Tryz.sizeOf4 rfl ⟨Keep.refl _ _, rfl⟩),
        fun wx hx => Ob.op rfl (O.load Tryz.isAgg4 rfl ((hbk.ext hx).c.cell rfl) ⟨Keep.refl _ _, rfl⟩),
        fun wx hx => Ob.op rfl (O.move rfl ⟨Keep.refl _ _, rfl⟩),
        fun wx hx => Ob.op rfl (O.nilCheck rfl ⟨Keep.refl _ _, rfl⟩),
        fun wx hx => Ob.op rfl (O.fieldAddr Tryz.runUnderlying88 rfl Tryz.sizeOf9 rfl ⟨Keep.refl _ _, rfl⟩),
        fun wx hx => Ob.op rfl (O.load Tryz.isAgg9 rfl ((hbk.ext hx).c.cell rfl) ⟨Keep.refl _ _, rfl⟩),
        trivial⟩ (fun w9 he9 v19 hv19 => ?_)
    have hI9 : Its 0 w9 v19 s.its := hv19
    obtain ⟨_, oa, cap, rfl, _⟩ := hv19
    refine L.op rfl rfl (O.build (v := stVal (.slice oa s.its.length cap) s) (parts := [(0, .tmp 19), (1, .tmp 23), (2, .tmp 27)]) (vs := [(0, _), (1, _), (2, _)]) rfl (fun w => by kernel_rfl) (?_))
    have hR9 := (hR2.ext he8).ext he9
    refine L.op rfl rfl (O.storeAgg Tryz.sizeOf32 rfl rfl rfl hR9 (Nat.le_refl _) (stCells_one s (Sl.one hI9)) (fun w10 hu10 hB10 => ?_))
    have hu10 : Upd b2 _ _ := hu10
    have hR10 : Blk w10 b2 (stCells (.slice oa s.its.length cap) s) 32 := hB10
    refine L.op rfl rfl (O.assign rfl (L.op rfl rfl (O.assign rfl (L.nil (T.retATT Tryz.results12 Tryz.isAgg32 Tryz.sizeOf32 rfl rfl rfl rfl hR10.row ⟨.slice oa s.its.length cap, by rw [hgo, hc, ← hs] <;> rfl, by rw [← hs]; exact Its.upd hI9 hR9 (by show 3 < 7; decide) hu10, ((he2.trans he8).trans he9).upd hu10 (.inr (by omega))⟩)))))
  · refine L.op rfl rfl (O.assign rfl (L.op rfl rfl (O.assign rfl (L.nil (T.seq (T.region (L.op rfl rfl (O.move rfl (L.op rfl rfl (O.call (xs := [.tmp 7]) Tryz.call47 rfl rfl (replay_calls lo p xs w2 (hp.ext he2) hxs (hL.ext he2)) (fun v8 w8 hq => ?_)))))))))))
    obtain ⟨he8, _, hn8⟩ := hq
    obtain rfl := hn8 hc
    refine L.op rfl rfl (O.move rfl (L.op rfl rfl (O.extract rfl rfl (L.op rfl rfl (O.extract rfl rfl (L.op rfl rfl (O.extract rfl rfl (L.op rfl rfl (O.assign rfl (L.op rfl rfl (O.assign rfl (L.op rfl rfl (O.assign rfl (L.nil (T.seq (T.seq (T.region (L.op rfl rfl (O.move rfl (L.op rfl rfl (O.neq_t rfl rfl hc (L.nil (T.cond_true rfl (T.seq (T.region (L.op rfl rfl (O.build (v := stVal (.slice none 0 0) s0) (parts := []) (vs := []) rfl (fun w => by kernel_rfl) (L.op rfl rfl (O.move rfl (L.op rfl rfl (O.move rfl (L.op rfl rfl (O.storeAgg Tryz.sizeOf32 rfl rfl rfl (hR2.ext he8) (Nat.le_refl _) (stCells_one s0 rfl) (fun w10 hu10 hB10 => ?_))))))))))))))))))))))))))))))))))
    have hu10 : Upd b2 _ _ := hu10
    have hR10 : Blk w10 b2 stZ 32 := hB10
    refine L.op rfl rfl (O.assign rfl (L.op rfl rfl (O.assign rfl (L.nil (T.retATT Tryz.results12 Tryz.isAgg32 Tryz.sizeOf32 rfl rfl rfl rfl hR10.row ⟨.slice none 0 0, by rw [replay_none hc] <;> rfl, by rw [replay_none hc]; exact Sl.nil _ _ _, (he2.trans he8).upd hu10 (.inr (by omega))⟩)))))

theorem cloneE_calls (lo : Nat) (p : Value) (xs : List En) (w : World) (hp : Ens lo w p xs) (hlen : xs.length ≤ 100000) :
    Calls Tryz.prog 14 #[p] w (Ret fun v w' => Ext w w' ∧ OwnE w.heap.size xs.length (xs.map En.cells).flatten v w') := by
  refine T.enter (vs := [p]) Tryz.func14 rfl Tryz.ntmps14 rfl ?_
  refine T.seq (T.region (L.op rfl rfl (O.assign rfl (L.nil (T.seq (T.seq (T.region (L.op rfl rfl (O.move rfl (L.op rfl rfl (O.eql_nil_s Tryz.runUnderlying27 rfl rfl hp (fun hn => ?_) (fun hn => ?_))))))))))))
  · refine L.nil (T.cond_true rfl (T.seq (T.region (L.op rfl rfl (O.assign rfl (L.nil (T.ret1 Tryz.results14 rfl ⟨Keep.refl _ _, ?_⟩)))))))
    have : xs = [] := List.length_eq_zero_iff.1 hn
    subst this
    exact owns_nil _ _ _ _
  · refine L.nil (T.cond_false rfl (T.skip (T.seq (T.region (L.op rfl rfl (O.buildSlice (el := 42) (parts := []) (vs := []) (cs := []) rfl (fun w => by kernel_rfl) (fun b5 w5 hb5 hz5 he5 hB5 => ?_)))))))
    have hO5 : w5.ownsRow w.heap.size 42 6 (.slice (some ⟨b5, 0, none⟩) 0 0) 0 [] := owns_blk (n := 0) hB5 (by omega) (Nat.le_refl _) (by decide) rfl
    refine L.op rfl rfl (O.move rfl (L.op rfl rfl (O.append (size := 6) (bytes := 80) Tryz.runUnderlying27 Tryz.infoOf42 rfl rfl rfl rfl (by decide) rfl rfl hO5 (hp.ext he5) (fl_one_cell En.one _) (by omega) (by simp only [maxLen]; omega) (by omega) (fun v7 w7 hO7 hG7 => ?_))))
    refine L.op rfl rfl (O.assign rfl (L.nil (T.ret1 Tryz.results14 rfl ⟨he5.grown0 hO5 hG7 (by omega), ?_⟩)))
    have : 0 + xs.length = xs.length := Nat.zero_add _
    rw [this] at hO7
    simpa [OwnE] using hO7

set_option maxHeartbeats 1000000 in
theorem Append_calls (lo : Nat) (p : Value) (xs : List En) (x : En) (w : World) (hp : Ens lo w p xs) (hxs : AllOk xs) (hxo : x.ok) (hL : LibM w) :
    Calls Tryz.prog 17 #[p, x.val] w (Ret fun v w' => ∃ q, v = .tuple #[q, .int .i64 (appR xs x).2] ∧ Ens 0 w' q (appR xs x).1 ∧ Ext w w') := by
  have hle := Sl.le hp
  refine T.enter (vs := [p, x.val]) Tryz.func17 rfl Tryz.ntmps17 rfl ?_
  refine T.seq (T.region (L.op rfl rfl (O.box rfl (fun b3 w3 hb3 hz3 he3 hB3 => ?_))))
  have hE3 : Blk w3 b3 x.cells 42 := hB3
  have hrl := replay_len xs
  rcases Classical.em ((replayR xs).2.2 = 0) with hc | hc
  · refine L.op rfl rfl (O.assign rfl (L.op rfl rfl (O.assign rfl (L.nil (T.seq (T.region (L.op rfl rfl (O.move rfl (L.op rfl rfl (O.call (xs := [.tmp 10]) Tryz.call47 rfl rfl (replay_calls lo p xs w3 (hp.ext he3) hxs (hL.ext he3)) (fun v8 w8 hq => ?_)))))))))))
    obtain ⟨he8, hy8, _⟩ := hq
    obtain ⟨B, rv, ps, rfl, hbk⟩ := hy8 hc
    refine L.op rfl rfl (O.move rfl (L.op rfl rfl (O.extract rfl rfl (L.op rfl rfl (O.extract rfl rfl (L.op rfl rfl (O.extract rfl rfl (L.op rfl rfl (O.assign rfl (L.op rfl rfl (O.assign rfl (L.op rfl rfl (O.assign rfl (L.nil (T.seq (T.block (T.seq (T.region (L.op rfl rfl (O.move rfl (L.op rfl rfl (O.neq_f rfl rfl rfl (?_)))))))))))))))))))))))
    have hcr := check_right (hrl.2 hc)
    have he08 := he3.trans he8
    have hE8 := hE3.ext he8
    refine L.op rfl rfl (O.assign rfl (L.nil (T.cond_false rfl (T.seq (T.region (L.op rfl rfl (O.move rfl (L.op rfl rfl (O.len Tryz.runUnderlying27 rfl (Sl.val (hp.ext he08)) (L.op rfl rfl (O.eql_s rfl rfl (fun h60 => ?_) (fun h60 => ?_))))))))))))
    · have h60' : xs.length = 60 := by omega
      refine L.op rfl rfl (O.assign rfl (L.nil (T.cond_true rfl (T.seq (T.region (L.op rfl rfl (O.assign rfl (L.op rfl rfl (O.assign rfl (L.nil (T.ret2 Tryz.results17 rfl rfl ⟨.slice none 0 0, by rw [appR, if_pos hc, if_pos h60'] <;> rfl, by rw [appR, if_pos hc, if_pos h60']; exact Sl.nil _ _ _, he08⟩)))))))))))
    · have h60' : ¬ xs.length = 60 := by omega
      refine L.op rfl rfl (O.assign rfl (?_))
      rcases hr : rightE x with _ | _
      · refine L.nil (T.cond_false rfl (T.seq (T.region (L.op rfl rfl (O.loadAgg Tryz.isAgg42 Tryz.sizeOf42 rfl rfl hE8.row (L.op rfl rfl (O.call (xs := [.tmp 24]) Tryz.call51 rfl rfl (right_calls x w8 hxo) (fun v9 w9 hq => ?_))))))))
        obtain ⟨hv9, he9⟩ := hq
        rw [hr] at hv9
        subst hv9
        refine L.op rfl rfl (O.not rfl (L.op rfl rfl (O.assign rfl (L.nil (T.cond_true rfl (T.seq (T.region (L.op rfl rfl (O.assign rfl (L.op rfl rfl (O.assign rfl (L.nil (T.ret2 Tryz.results17 rfl rfl ⟨.slice none 0 0, by rw [appR, if_pos hc, if_neg h60', if_neg (by rw [hr]; decide)] <;> rfl, by rw [appR, if_pos hc, if_neg h60', if_neg (by rw [hr]; decide)]; exact Sl.nil _ _ _, he08.trans he9⟩)))))))))))))
      · refine L.nil (T.cond_false rfl (T.seq (T.region (L.op rfl rfl (O.loadAgg Tryz.isAgg42 Tryz.sizeOf42 rfl rfl hE8.row (L.op rfl rfl (O.call (xs := [.tmp 24]) Tryz.call51 rfl rfl (right_calls x w8 hxo) (fun v9 w9 hq => ?_))))))))
        obtain ⟨hv9, he9⟩ := hq
        rw [hr] at hv9
        subst hv9
        have hbd := right_bounds hr
        have hE9 := hE8.ext he9
        have he09 := he08.trans he9
        have hbk9 := hbk.ext he9
        have hps : ps.length ≤ 100000 := by have := hbk9.len; omega
        rcases hs : stepE (replayR xs).1 x with _ | s'
        · refine L.op rfl rfl (O.not rfl (L.op rfl rfl (O.assign rfl (L.nil (T.cond_false rfl (T.seq (T.region (L.op rfl rfl (O.move rfl (L.op rfl rfl (O.loadAgg Tryz.isAgg42 Tryz.sizeOf42 rfl rfl hE9.row (L.op rfl rfl (O.call (xs := [.tmp 28, .tmp 29]) Tryz.call52 rfl rfl (step_calls w3.heap.size B (replayR xs).1 rv ps x w9 hbk9 (he8.trans he9).size hbd.k hps hxo (hL.ext he09)) (fun v10 w10 hq => ?_))))))))))))))
          obtain ⟨hv10, hl10, hy10⟩ := hq
          rw [hs] at hv10
          subst hv10
          refine L.op rfl rfl (O.not rfl (L.op rfl rfl (O.assign rfl (L.nil (T.cond_true rfl (T.seq (T.region (L.op rfl rfl (O.assign rfl (L.op rfl rfl (O.assign rfl (L.nil (T.ret2 Tryz.results17 rfl rfl ⟨.slice none 0 0, by rw [appR, if_pos hc, if_neg h60', if_pos hr, hs] <;> rfl, by rw [appR, if_pos hc, if_neg h60', if_pos hr, hs]; exact Sl.nil _ _ _, he3.trans (Ext.below_trans (he8.trans he9) hl10)⟩)))))))))))))
        · refine L.op rfl rfl (O.not rfl (L.op rfl rfl (O.assign rfl (L.nil (T.cond_false rfl (T.seq (T.region (L.op rfl rfl (O.move rfl (L.op rfl rfl (O.loadAgg Tryz.isAgg42 Tryz.sizeOf42 rfl rfl hE9.row (L.op rfl rfl (O.call (xs := [.tmp 28, .tmp 29]) Tryz.call52 rfl rfl (step_calls w3.heap.size B (replayR xs).1 rv ps x w9 hbk9 (he8.trans he9).size hbd.k hps hxo (hL.ext he09)) (fun v10 w10 hq => ?_))))))))))))))
          obtain ⟨hv10, hl10, hy10⟩ := hq
          rw [hs] at hv10
          subst hv10
          have he310 : Ext w3 w10 := Ext.below_trans (he8.trans he9) hl10
          have he010 := he3.trans he310
          have hp10 := hp.ext he010
          have hE10 : Blk w10 b3 x.cells 42 := hE3.ext he310
          refine L.op rfl rfl (O.not rfl (L.op rfl rfl (O.assign rfl (L.nil (T.cond_false rfl (T.skip (T.blk (T.seq (?_)))))))))
          refine T.anyE mixed 4 [0, 3] rfl [.is _, .such (OwnE w10.heap.size xs.length (xs.map En.cells).flatten), .is _, .such (LitE x)] [[], [0], [], [2]] [[], [0], [], [2], [0, 1, 2, 3], [0, 1, 2, 3, 4], [0, 1, 2, 3, 4, 5]] (by kernel_rfl) (by kernel_rfl) rfl (by kernel_rfl) ⟨OwnE.st, LitE.st, trivial⟩ ⟨fun wx hx => Ob.op rfl (O.move rfl ⟨Keep.refl _ _, rfl⟩),
              fun wx hx => Ob.op rfl (O.call (xs := [.tmp 32]) Tryz.call14 rfl rfl (cloneE_calls lo p xs wx (hp10.ext hx) (by omega)) (fun v wy h => ⟨h.1, OwnE.mono h.2 hx.size⟩)),
              fun wx hx => Ob.op rfl (O.loadAgg Tryz.isAgg42 Tryz.sizeOf42 rfl rfl ((hE10.ext hx).row) ⟨Keep.refl _ _, rfl⟩),
              fun wx hx => Ob.op rfl (O.buildSlice (el := 42) (parts := [(0, .tmp 34)]) (vs := [(0, _)]) (cs := x.cells) rfl (fun w => by kernel_rfl) (fun b35 w35 hb35 hz35 he35 hB35 => ⟨he35, Sl.of_blk (n := 1) (sz := 6) hB35 rfl (Nat.le_refl _) (by decide) (Nat.zero_le _)⟩)),
              trivial⟩ (fun w11 he11 v33 hv33 v35 hv35 => ?_)
          have hO33 : w11.ownsRow w10.heap.size 42 6 v33 xs.length (xs.map En.cells).flatten := hv33
          refine L.op rfl rfl (O.append (size := 6) (bytes := 80) Tryz.runUnderlying27 Tryz.infoOf42 rfl rfl rfl rfl (by decide) rfl rfl hO33 hv35 (En.one _) (by omega) (by simp only [maxLen]; omega) he11.size (fun v12 w12 hO12 hG12 => ?_))
          have hrr : appR xs x = (xs ++ [x], 0) := by rw [appR, if_pos hc, if_neg h60', if_pos hr, hs]
          refine L.op rfl rfl (O.assign rfl (L.op rfl rfl (O.assign rfl (L.nil (T.ret2 Tryz.results17 rfl rfl ⟨v12, by rw [hrr], by rw [hrr]; unfold Ens; rw [List.length_append, fl_append, fl_one]; exact (Sl.of_owns hO12).mono (Nat.zero_le _), he010.trans (he11.grown0 hO33 hG12 (Nat.le_refl _))⟩)))))
  · refine L.op rfl rfl (O.assign rfl (L.op rfl rfl (O.assign rfl (L.nil (T.seq (T.region (L.op rfl rfl (O.move rfl (L.op rfl rfl (O.call (xs := [.tmp 10]) Tryz.call47 rfl rfl (replay_calls lo p xs w3 (hp.ext he3) hxs (hL.ext he3)) (fun v8 w8 hq => ?_)))))))))))
    obtain ⟨he8, _, hn8⟩ := hq
    obtain rfl := hn8 hc
    refine L.op rfl rfl (O.move rfl (L.op rfl rfl (O.extract rfl rfl (L.op rfl rfl (O.extract rfl rfl (L.op rfl rfl (O.extract rfl rfl (L.op rfl rfl (O.assign rfl (L.op rfl rfl (O.assign rfl (L.op rfl rfl (O.assign rfl (L.nil (T.seq (T.block (T.seq (T.region (L.op rfl rfl (O.move rfl (L.op rfl rfl (O.neq_t rfl rfl hc (L.op rfl rfl (O.assign rfl (L.nil (T.cond_true rfl (T.seq (T.region (L.op rfl rfl (O.move rfl (L.op rfl rfl (O.assign rfl (L.op rfl rfl (O.assign rfl (L.nil (T.ret2 Tryz.results17 rfl rfl ⟨.slice none 0 0, by rw [appR, if_neg hc] <;> rfl, by rw [appR, if_neg hc]; exact Sl.nil _ _ _, he3.trans he8⟩))))))))))))))))))))))))))))))))))))

end Go.Proofs.YtmnihgcffdmodaaGreatDoor
set_option linter.unusedVariables false
set_option linter.unusedSimpArgs false
set_option maxRecDepth 20000
namespace Go.Proofs.YtmnihgcffdmodaaGreatDoor
open Go Go.E RowKit
attribute [local irreducible] Go.E.T Go.E.L Go.E.O Go.E.Ob

attribute [local irreducible] Go.E.ObX Go.E.ObK
def vA (x : It) : It := ⟨x.nm, x.ow, x.ver, 0, x.wd, x.op, x.con⟩
def vB (x : It) : It := ⟨x.nm, [], x.ver, 0, x.wd, x.op, x.con⟩
theorem view_a {who : Str} {x : It} (hw : x.wd = false) (h : x.op = true ∨ x.ow = who) : viewIt who x = vA x := by
  rw [viewIt, if_pos h, vA, hw]
theorem view_b {who : Str} {x : It} (hw : x.wd = false) (h1 : x.op = false) (h2 : ¬ x.ow = who) : viewIt who x = vB x := by
  rw [viewIt, if_neg (by rintro (h | h); rw [h1] at h; cases h; exact h2 h), vB, hw]
set_option maxHeartbeats 1000000 in
theorem View_calls (lo : Nat) (p : Value) (xs : List En) (who : Str) (w : World) (hp : Ens lo w p xs) (hxs : AllOk xs) (hwho : who.length ≤ 9223372036854775807) (hL : LibM w) :
    Calls Tryz.prog 13 #[p, str who] w (Ret fun v w' => ∃ q, v = .tuple #[q, .int .i64 (viewR xs who).2] ∧ Its 0 w' q (viewR xs who).1 ∧ Ext w w') := by
  have hle := Sl.le hp
  have hrl := replay_len xs
  refine T.enterM (vs := [p, str who]) Tryz.func13 rfl Tryz.ntmps13 rfl ?_
  refine T.seq (T.region (L.op rfl rfl (O.box rfl (fun b3 w3 hb3 hz3 he3 hB3 => ?_))))
  have hW3 : Blk w3 b3 [str who] 9 := hB3
  rcases Classical.em ((replayR xs).2.2 = 0) with hc | hc
  · refine L.op rfl rfl (O.assign rfl (L.op rfl rfl (O.assign rfl (L.nil (T.scope (fun _ _ _ h => h) (T.seq (T.region (L.op rfl rfl (O.move rfl (L.op rfl rfl (O.call (xs := [.tmp 12]) Tryz.call47 rfl rfl (replay_calls lo p xs w3 (hp.ext he3) hxs (hL.ext he3)) (fun v13 w13 hq => ?_))))))))))))
    obtain ⟨he13, hy13, _⟩ := hq
    obtain ⟨B, rv, ps, rfl, hbk⟩ := hy13 hc
    refine L.op rfl rfl (O.move rfl (L.op rfl rfl (O.extract rfl rfl (L.op rfl rfl (O.extract rfl rfl (L.op rfl rfl (O.extract rfl rfl (L.op rfl rfl (O.assign rfl (L.op rfl rfl (O.assign rfl (L.op rfl rfl (O.assign rfl (L.nil (T.seq (T.seq (T.region (L.op rfl rfl (O.move rfl (L.op rfl rfl (O.neq_f rfl rfl rfl (?_))))))))))))))))))))))
    have he013 := he3.trans he13
    refine L.nil (T.cond_false rfl (T.skip (T.seq (T.seq (T.region (L.op rfl rfl (O.load Tryz.isAgg9 rfl ((hW3.ext he13).cell rfl) (?_))))))))
    rcases hn : nameB who with _ | _
    · refine L.op rfl rfl (O.call (xs := [.tmp 20]) Tryz.call50 rfl rfl (named_calls who w13 hwho) (fun v14 w14 hq => ?_))
      obtain ⟨hv14, he14⟩ := hq
      rw [hn] at hv14
      subst hv14
      refine L.op rfl rfl (O.not rfl (L.nil (T.cond_true rfl (T.seq (T.region (L.op rfl rfl (O.assign rfl (L.op rfl rfl (O.assign rfl (L.nil (T.retM2 Tryz.results13 rfl rfl (Opn.nil _) (fun w' hs => ⟨.slice none 0 0, by rw [viewR, if_pos hc, if_neg (by rw [hn]; decide)] <;> rfl, by rw [viewR, if_pos hc, if_neg (by rw [hn]; decide)]; exact Sl.nil _ _ _, (he013.trans he14).shut hs (fun r hr => by simp at hr)⟩))))))))))))
    · refine L.op rfl rfl (O.call (xs := [.tmp 20]) Tryz.call50 rfl rfl (named_calls who w13 hwho) (fun v14 w14 hq => ?_))
      obtain ⟨hv14, he14⟩ := hq
      rw [hn] at hv14
      subst hv14
      have hvr : viewR xs who = (viewL who (replayR xs).1.its, 0) := by rw [viewR, if_pos hc, if_pos hn]
      obtain ⟨s, hs⟩ : ∃ s, s = (replayR xs).1 := ⟨_, rfl⟩
      rw [← hs] at hbk hrl hvr
      refine L.op rfl rfl (O.not rfl (L.nil (T.cond_false rfl (T.skip (T.seq (T.region (L.op rfl rfl (O.alloc Tryz.zeroValue30 (fun b9 w9 hb9 hz9 he9 hB9 => ?_)))))))))
      have hB9' : Blk w9 b9 [.slice none 0 0] 30 := hB9
      have hW14 := (hW3.ext he13).ext he14
      have hb14 := hbk.ext he14
      have he014 := he013.trans he14
      have hst : AI w14 b9 w9.heap.size 30 39 7 0 ((viewL who (s.its.take 0)).map It.cells).flatten (fun _ => False) w9 := ⟨he9, Nat.le_refl _, fun k hk => hk.elim, _, hB9', owns_nil _ _ _ _, fun k hk => hk.elim⟩
      have hbz : b9 < w9.heap.size := hB9'.lt
      refine L.nil (T.seq (T.label (T.seq (T.seq (T.region (L.op rfl rfl (O.move rfl (L.op rfl rfl (O.makeFunc (fi := [.tmp 23]) (ca := []) rfl rfl (L.nil (T.block (?_))))))))))))
      refine T.rangeFuncMB (e1 := fun v x => [(3, .pointer (some ⟨b3, 0, none⟩)), (9, .pointer (some ⟨b9, 0, none⟩)), (10, .pointer (some ⟨x, 0, none⟩))]) (fun i S W => i ≤ s.its.length ∧ AI w14 b9 w9.heap.size 30 39 7 (viewL who (s.its.take i)).length ((viewL who (s.its.take i)).map It.cells).flatten S W) (fun _ _ _ => False) (fun v x w' => ∃ i : Nat, v = (s.its.getD i i0).val ∧ Blk w' x (s.its.getD i i0).cells 39) rfl Tryz.call49 rfl (items_seq w3.heap.size B s rv ps) ?_ ?_ ?_ ?_ ?_ ?_ ?_ ?_ ?_ ?_ ?_
      · exact ⟨fun i S S' W W' h he hS => ⟨h.1, h.2.ext he hS⟩, fun i S W W' b h hb' hu => ⟨h.1, h.2.upd hbz (by omega) hb' hu⟩⟩
      · exact fun _ _ _ _ _ h _ _ => h.elim
      · exact fun i S W h => hb14.ext h.2.xe
      · exact ⟨Nat.zero_le _, hst⟩
      · exact fun k hk => hk.elim
      · exact fun W hW => trivial
      · rintro v x W W' b' ⟨i, h1, h2⟩ hne hu
        exact ⟨i, h1, h2.upd hu (Ne.symm hne)⟩
      · intro l Q i j v k W hn hK
        obtain ⟨hi, rfl, _⟩ := hn
        refine T.region (L.op rfl rfl (O.alloc Tryz.zeroValue39 (fun b18 w18 hb18 hz18 he18 hB18 => ?_)))
        refine L.op rfl rfl (O.storeAgg Tryz.sizeOf39 rfl rfl rfl hB18 (Nat.le_refl _) (It.one _) (fun w19 hu19 hB19 => ?_))
        refine L.nil (T.sub ?_ (hK b18 _ (by omega) (he18.upd hu19 (.inr (by omega))) ⟨_, rfl, hB19⟩))
        exact ⟨rfl, rfl, rfl, trivial⟩
      · rintro l i v x j S w8 ⟨hi, rfl, rfl⟩ ⟨hile, hA8⟩ ⟨i', hv, hBx⟩ ⟨hnx, hwx, W0, W1, r0, ⟨_, hA0⟩, hx0, he0, hu0, hr0⟩
        have hBx' : Blk w8 x (s.its.getD i i0).cells 39 := by have h : (s.its.getD i i0).cells = (s.its.getD i' i0).cells := by { have := congrArg Value.cells hv; simpa [It.val, Value.cells] using this }; rw [h]; exact hBx
        obtain ⟨y, hy⟩ : ∃ y, y = s.its.getD i i0 := ⟨_, rfl⟩
        rw [← hy] at hBx'
        obtain ⟨q, hq1, hq2, hq3⟩ := hA8.row
        have hbx : b9 ≠ x := by have := he9.size; omega
        obtain ⟨q0, hq01, hq02, _⟩ := hA0.row
        have hq0 : Blk w8 b9 [q0] 30 := (hq01.ext he0).upd hu0 (by have := (hA8.xs _ hr0).1; omega)
        obtain rfl : q = q0 := by have h1 := hq1.cell (i := 0) rfl; rw [hq0.cell (i := 0) rfl] at h1; exact (Option.some.inj h1).symm
        have hqx : q.ownBlock ≠ some x := fun e => by have := (own_at hq02 e).2; omega
        have hW8 : Blk w8 b3 [str who] 9 := hW14.ext hA8.xe
        have hb3x : b3 ≠ x := by have := hW14.lt; have := he9.size; omega
        rcases hwd : y.wd with _ | _
        · refine T.block (T.seq (T.seq (T.region (L.op rfl rfl (O.fieldAddr Tryz.runUnderlying39 rfl Tryz.sizeOf4 rfl (L.op rfl rfl (O.load Tryz.isAgg4 rfl (hBx'.cell (i := 4) (v := .bool false) (by rw [← hwd]; rfl)) (L.nil (T.cond_false rfl (T.skip (T.seq (T.seq (T.region (L.op rfl rfl (O.fieldAddr Tryz.runUnderlying39 rfl Tryz.sizeOf25 rfl (L.op rfl rfl (O.store1 Tryz.sizeOf25 rfl rfl rfl hBx' (by simp [It.cells]) (fun w20 hu20 hB20 => ?_))))))))))))))))))
          have hu20 : Upd x _ _ := hu20
          have hX20 : Blk w20 x (vA y).cells 39 := hB20
          have hW20 : Blk w20 b3 [str who] 9 := hW8.upd hu20 hb3x
          rcases hop : y.op with _ | _
          · refine L.nil (T.seq (T.region (L.op rfl rfl (O.fieldAddr Tryz.runUnderlying39 rfl Tryz.sizeOf4 rfl (L.op rfl rfl (O.load Tryz.isAgg4 rfl (hX20.cell (i := 5) (v := .bool false) (by rw [← hop]; rfl)) (L.op rfl rfl (O.not rfl (L.op rfl rfl (O.move rfl (L.op rfl rfl (O.fieldAddr Tryz.runUnderlying39 rfl Tryz.sizeOf9 rfl (L.op rfl rfl (O.load Tryz.isAgg9 rfl (hX20.cell rfl) (L.op rfl rfl (O.load Tryz.isAgg9 rfl (hW20.cell rfl) (L.op rfl rfl (O.neq_str_s Tryz.runUnderlying9 rfl rfl (fun how => ?_) (fun how => ?_)))))))))))))))))))
            · refine L.op rfl rfl (O.pick_true rfl rfl (L.nil (T.cond_true rfl (T.region (L.op rfl rfl (O.fieldAddr Tryz.runUnderlying39 rfl Tryz.sizeOf9 rfl (L.op rfl rfl (O.store1 Tryz.sizeOf9 rfl rfl rfl hX20 (by simp [It.cells]) (fun w21 hu21 hB21 => ?_)))))))))
              have hu21 : Upd x _ _ := hu21
              have hX21 : Blk w21 x (vB y).cells 39 := hB21
              have hv21 : vB y = viewIt who y := (view_b hwd hop how).symm
              rw [hv21] at hX21
              have he21 : Ext w14 w21 := (hA8.xe.upd hu20 (.inr (by have := he9.size; omega))).upd hu21 (.inr (by have := he9.size; omega))
              have hz21 : w21.heap.size = w8.heap.size := by rw [hu21.size, hu20.size]
              have hk21 : ∀ k, S k → w21.heap[k]? = w8.heap[k]? := fun k hk => by rw [hu21.block k (fun e => hnx (e ▸ hk)), hu20.block k (fun e => hnx (e ▸ hk))]
              have hq21 : Blk w21 b9 [q] 30 := (hq1.upd hu20 hbx).upd hu21 hbx
              have hO21 := owns_upd' (owns_upd' hq2 (fun j hj e => hqx (by rw [hj, e])) hu20) (fun j hj e => hqx (by rw [hj, e])) hu21
              refine L.nil (T.region (L.op rfl rfl (O.load Tryz.isAgg30 rfl (hq21.cell rfl) (L.op rfl rfl (O.loadAgg Tryz.isAgg39 Tryz.sizeOf39 rfl rfl hX21.row (L.op rfl rfl (O.buildSlice (el := 39) (parts := [(0, .tmp 40)]) (vs := [(0, _)]) (cs := (viewIt who y).cells) rfl (fun w => by kernel_rfl) (fun b22 w22 hb22 hz22 he22 hB22 => ?_))))))))
              have hq22 := owns_keep hO21 he22 (Nat.zero_le _)
              have hvl := viewL_len who (s.its.take i)
              have htl : (s.its.take i).length ≤ i := by rw [List.length_take]; omega
              refine L.op rfl rfl (O.appendF (size := 7) (bytes := 72) Tryz.runUnderlying30 Tryz.infoOf39 rfl rfl rfl rfl (by decide) rfl rfl hq22 (show (viewIt who y).cells.length = 1 * 7 from rfl) hB22.row (It.one _) (by omega) (by simp only [maxLen]; omega) (by have := hA8.xz; have := he22.size; omega) (fun v23 w23 hO23 hG23 hF23 => ?_))
              have hq23 : Blk w23 b9 [q] 30 := (hq21.ext he22).grown hG23 (fun j hj e => by have := own_at hq2 hj; omega)
              refine L.op rfl rfl (O.store1 Tryz.sizeOf30 (Sl.one (Sl.of_owns hO23)) rfl rfl hq23 (by simp) (fun w24 hu24 hB24 => ?_))
              have hu24 : Upd b9 _ _ := hu24
              have hfin := hA8.add2 hbz (by omega) hq3 (he21.trans he22) (by have := he22.size; omega) (fun k hk => by rw [he22.block k (Nat.zero_le _) (by have := hA8.xs k hk; omega), hk21 k hk]) hq22 hG23 hO23 hF23 hu24 hB24
              refine L.nil (T.blk (T.roundEnd ⟨⟨hi, by rw [viewL_yes hi (by rw [← hy]; exact hwd), List.length_append, fl_append, fl_one, ← hy]; exact hfin.1⟩, hfin.2⟩))
            · have hv21 : vA y = viewIt who y := (view_a hwd (.inr how)).symm
              rw [hv21] at hX20
              have he20 : Ext w14 w20 := hA8.xe.upd hu20 (.inr (by have := he9.size; omega))
              have hz20 : w20.heap.size = w8.heap.size := hu20.size
              have hk20 : ∀ k, S k → w20.heap[k]? = w8.heap[k]? := fun k hk => hu20.block k (fun e => hnx (e ▸ hk))
              have hq20 : Blk w20 b9 [q] 30 := hq1.upd hu20 hbx
              have hO20 := owns_upd' hq2 (fun j hj e => hqx (by rw [hj, e])) hu20
              refine L.op rfl rfl (O.pick_true rfl rfl (L.nil (T.cond_false rfl (T.skip (T.region (L.op rfl rfl (O.load Tryz.isAgg30 rfl (hq20.cell rfl) (L.op rfl rfl (O.loadAgg Tryz.isAgg39 Tryz.sizeOf39 rfl rfl hX20.row (L.op rfl rfl (O.buildSlice (el := 39) (parts := [(0, .tmp 40)]) (vs := [(0, _)]) (cs := (viewIt who y).cells) rfl (fun w => by kernel_rfl) (fun b22 w22 hb22 hz22 he22 hB22 => ?_))))))))))))
              have hq22 := owns_keep hO20 he22 (Nat.zero_le _)
              have hvl := viewL_len who (s.its.take i)
              have htl : (s.its.take i).length ≤ i := by rw [List.length_take]; omega
              refine L.op rfl rfl (O.appendF (size := 7) (bytes := 72) Tryz.runUnderlying30 Tryz.infoOf39 rfl rfl rfl rfl (by decide) rfl rfl hq22 (show (viewIt who y).cells.length = 1 * 7 from rfl) hB22.row (It.one _) (by omega) (by simp only [maxLen]; omega) (by have := hA8.xz; have := he22.size; omega) (fun v23 w23 hO23 hG23 hF23 => ?_))
              have hq23 : Blk w23 b9 [q] 30 := (hq20.ext he22).grown hG23 (fun j hj e => by have := own_at hq2 hj; omega)
              refine L.op rfl rfl (O.store1 Tryz.sizeOf30 (Sl.one (Sl.of_owns hO23)) rfl rfl hq23 (by simp) (fun w24 hu24 hB24 => ?_))
              have hu24 : Upd b9 _ _ := hu24
              have hfin := hA8.add2 hbz (by omega) hq3 (he20.trans he22) (by have := he22.size; omega) (fun k hk => by rw [he22.block k (Nat.zero_le _) (by have := hA8.xs k hk; omega), hk20 k hk]) hq22 hG23 hO23 hF23 hu24 hB24
              refine L.nil (T.blk (T.roundEnd ⟨⟨hi, by rw [viewL_yes hi (by rw [← hy]; exact hwd), List.length_append, fl_append, fl_one, ← hy]; exact hfin.1⟩, hfin.2⟩))
          · refine L.nil (T.seq (T.region (L.op rfl rfl (O.fieldAddr Tryz.runUnderlying39 rfl Tryz.sizeOf4 rfl (L.op rfl rfl (O.load Tryz.isAgg4 rfl (hX20.cell (i := 5) (v := .bool true) (by rw [← hop]; rfl)) (?_)))))))
            have hv21 : vA y = viewIt who y := (view_a hwd (.inl hop)).symm
            rw [hv21] at hX20
            have he20 : Ext w14 w20 := hA8.xe.upd hu20 (.inr (by have := he9.size; omega))
            have hz20 : w20.heap.size = w8.heap.size := hu20.size
            have hk20 : ∀ k, S k → w20.heap[k]? = w8.heap[k]? := fun k hk => hu20.block k (fun e => hnx (e ▸ hk))
            have hq20 : Blk w20 b9 [q] 30 := hq1.upd hu20 hbx
            have hO20 := owns_upd' hq2 (fun j hj e => hqx (by rw [hj, e])) hu20
            refine L.op rfl rfl (O.not rfl (L.op rfl rfl (O.move rfl (L.pass rfl rfl (L.pass rfl rfl (L.pass rfl rfl (L.pass rfl rfl (L.op rfl rfl (O.pick_false rfl rfl (L.nil (T.cond_false rfl (T.skip (T.region (L.op rfl rfl (O.load Tryz.isAgg30 rfl (hq20.cell rfl) (L.op rfl rfl (O.loadAgg Tryz.isAgg39 Tryz.sizeOf39 rfl rfl hX20.row (L.op rfl rfl (O.buildSlice (el := 39) (parts := [(0, .tmp 40)]) (vs := [(0, _)]) (cs := (viewIt who y).cells) rfl (fun w => by kernel_rfl) (fun b22 w22 hb22 hz22 he22 hB22 => ?_))))))))))))))))))))
            have hq22 := owns_keep hO20 he22 (Nat.zero_le _)
            have hvl := viewL_len who (s.its.take i)
            have htl : (s.its.take i).length ≤ i := by rw [List.length_take]; omega
            refine L.op rfl rfl (O.appendF (size := 7) (bytes := 72) Tryz.runUnderlying30 Tryz.infoOf39 rfl rfl rfl rfl (by decide) rfl rfl hq22 (show (viewIt who y).cells.length = 1 * 7 from rfl) hB22.row (It.one _) (by omega) (by simp only [maxLen]; omega) (by have := hA8.xz; have := he22.size; omega) (fun v23 w23 hO23 hG23 hF23 => ?_))
            have hq23 : Blk w23 b9 [q] 30 := (hq20.ext he22).grown hG23 (fun j hj e => by have := own_at hq2 hj; omega)
            refine L.op rfl rfl (O.store1 Tryz.sizeOf30 (Sl.one (Sl.of_owns hO23)) rfl rfl hq23 (by simp) (fun w24 hu24 hB24 => ?_))
            have hu24 : Upd b9 _ _ := hu24
            have hfin := hA8.add2 hbz (by omega) hq3 (he20.trans he22) (by have := he22.size; omega) (fun k hk => by rw [he22.block k (Nat.zero_le _) (by have := hA8.xs k hk; omega), hk20 k hk]) hq22 hG23 hO23 hF23 hu24 hB24
            refine L.nil (T.blk (T.roundEnd ⟨⟨hi, by rw [viewL_yes hi (by rw [← hy]; exact hwd), List.length_append, fl_append, fl_one, ← hy]; exact hfin.1⟩, hfin.2⟩))
        · refine T.block (T.seq (T.seq (T.region (L.op rfl rfl (O.fieldAddr Tryz.runUnderlying39 rfl Tryz.sizeOf4 rfl (L.op rfl rfl (O.load Tryz.isAgg4 rfl (hBx'.cell (i := 4) (v := .bool true) (by rw [← hwd]; rfl)) (L.nil (T.cond_true rfl (T.exit rfl (T.roundEnd ⟨⟨hi, by rw [viewL_no hi (by rw [← hy]; exact hwd)]; exact hA8⟩, fun k hk => rfl⟩)))))))))))
      · rintro S D w8 hD hS0 hSD ⟨hle, hA8⟩ hD8
        have ho8 : Opn [D] w8 := (Opn.nil _).cons hD8 (by simp)
        obtain ⟨q, hq1, hq2, hq3⟩ := hA8.row
        refine T.blk (T.seq (T.region (L.op rfl rfl (O.load Tryz.isAgg30 rfl (hq1.cell rfl) (L.op rfl rfl (O.assign rfl (L.op rfl rfl (O.assign rfl (L.nil (T.retM2 Tryz.results13 rfl rfl ho8 (fun w' hsh => ⟨q, by rw [hvr] <;> rfl, ?_, (he014.trans hA8.xe).shut hsh (fun r hr => by simp at hr; subst hr; have := (hA8.xs _ hSD).1; have := he9.size; have := he014.size; omega)⟩)))))))))))
        rw [hvr]
        have h2 := Opn.shut_owns ho8 hq2 hsh
        rw [List.take_of_length_le (Nat.le_refl _)] at h2
        exact (Sl.of_owns h2).mono (Nat.zero_le _)
      · exact fun _ _ _ _ _ _ h _ => h.elim
  · refine L.op rfl rfl (O.assign rfl (L.op rfl rfl (O.assign rfl (L.nil (T.scope (fun _ _ _ h => h) (T.seq (T.region (L.op rfl rfl (O.move rfl (L.op rfl rfl (O.call (xs := [.tmp 12]) Tryz.call47 rfl rfl (replay_calls lo p xs w3 (hp.ext he3) hxs (hL.ext he3)) (fun v13 w13 hq => ?_))))))))))))
    obtain ⟨he13, _, hn13⟩ := hq
    obtain rfl := hn13 hc
    refine L.op rfl rfl (O.move rfl (L.op rfl rfl (O.extract rfl rfl (L.op rfl rfl (O.extract rfl rfl (L.op rfl rfl (O.extract rfl rfl (L.op rfl rfl (O.assign rfl (L.op rfl rfl (O.assign rfl (L.op rfl rfl (O.assign rfl (L.nil (T.seq (T.seq (T.region (L.op rfl rfl (O.move rfl (L.op rfl rfl (O.neq_t rfl rfl hc (L.nil (T.cond_true rfl (T.seq (T.region (L.op rfl rfl (O.move rfl (L.op rfl rfl (O.assign rfl (L.op rfl rfl (O.assign rfl (L.nil (T.retM2 Tryz.results13 rfl rfl (Opn.nil _) (fun w' hs => ⟨.slice none 0 0, by rw [viewR, if_neg hc] <;> rfl, by rw [viewR, if_neg hc]; exact Sl.nil _ _ _, (he3.trans he13).shut hs (fun r hr => by simp at hr)⟩))))))))))))))))))))))))))))))))))

end Go.Proofs.YtmnihgcffdmodaaGreatDoor
set_option linter.unusedVariables false
set_option linter.unusedSimpArgs false
set_option maxRecDepth 20000
namespace Go.Proofs.YtmnihgcffdmodaaGreatDoor
open Go Go.E RowKit
attribute [local irreducible] Go.E.T Go.E.L Go.E.O Go.E.Ob

attribute [local irreducible] Go.E.ObX Go.E.ObK
section ops
variable {C : Cx} {e : Env} {w : World} {K : Value → World → Prop} {d : Option Tmp} {ty : TypeId} {pos : String} {aft : Array Edge} {g : Option (Nat × Bool)} {x y z : Operand} {t tx ty' src dst el : TypeId}
theorem O.makeIface {v : Value} (hc : C.P.concrete t = true) (hx : ev e x = some v) (h : K (.iface t v) w) : O C e ⟨d, .makeInterface t x, ty, pos, aft, g⟩ w K :=
  O.of_run (by simp) (fun ac hq => by simp [execOp, hq.eval hx, run_makeInterface w t v hc]) h
theorem O.eql_iface_no {u : TypeId} {v : Value} (hi : C.P.isIface tx = true) (hx : ev e x = some (.iface u v)) (hy : ev e y = some .nilIface) (h : K (.bool false) w) : O C e ⟨d, .binOp .eql tx x y ty', ty, pos, aft, g⟩ w K :=
  O.of_run (by simp) (fun ac hq => by simp [execOp, hq.eval hx, hq.eval hy, eqGuard, run_eql_iface_nil w tx hi u v]) h
theorem O.eql_iface_yes (hi : C.P.isIface tx = true) (hx : ev e x = some .nilIface) (h : K (.bool true) w) : O C e ⟨d, .binOp .eql tx x (.const .nilIface) ty', ty, pos, aft, g⟩ w K :=
  O.of_run (by simp) (fun ac hq => by simp [execOp, hq.eval hx, (show ac.eval (.const .nilIface) = .nilIface from rfl), eqGuard, run_eql_nil_nil_at w tx hi]) h
theorem O.neq_iface_yes {u : TypeId} {v : Value} (hi : C.P.isIface tx = true) (hx : ev e x = some (.iface u v)) (hy : ev e y = some .nilIface) (h : K (.bool true) w) : O C e ⟨d, .binOp .neq tx x y ty', ty, pos, aft, g⟩ w K :=
  O.of_run (by simp) (fun ac hq => by simp [execOp, hq.eval hx, hq.eval hy, eqGuard, run_neq_iface_nil w tx hi u v]) h
theorem O.neq_iface_no (hi : C.P.isIface tx = true) (hx : ev e x = some .nilIface) (h : K (.bool false) w) : O C e ⟨d, .binOp .neq tx x (.const .nilIface) ty', ty, pos, aft, g⟩ w K :=
  O.of_run (by simp) (fun ac hq => by simp [execOp, hq.eval hx, (show ac.eval (.const .nilIface) = .nilIface from rfl), eqGuard, run_neq_nil_nil_at w tx hi]) h
/-- '[]byte(s)'. -/
theorem O.str_bytes {s : Str} (hs : ∀ w, (underlying src).run C.P w = .ok .string w) (hd : ∀ w, (underlying dst).run C.P w = .ok (.slice el) w) (he : ∀ w, (underlying el).run C.P w = .ok (.int .u8) w) (hx : ev e x = some (str s)) (hn : s.length ≤ 9223372036854775807)
    (h : ∀ v w', Ext w w' → Ints .u8 0 w' v (s.map fun c => (c.toNat : Int)) → K v w') : O C e ⟨d, .convert src dst x, ty, pos, aft, g⟩ w K := by
  have hr := Lib.run_convert_string_bytes (P := C.P) w src dst el ⟨s.toArray⟩ (underlying_of hs) (underlying_of hd) (underlying_of he)
  have hsz : (⟨s.toArray⟩ : ByteArray).size = s.length := by simp [ByteArray.size]
  refine O.of_run (v := .slice (some ⟨w.heap.size, 0, none⟩) (⟨s.toArray⟩ : ByteArray).size (grownCap w (⟨s.toArray⟩ : ByteArray).size 0 el)) (w' := Lib.bytesWorld w el ⟨s.toArray⟩) (by simp) (fun ac hq => by simp only [execOp, hq.eval hx, str]; rw [Sem.run_bind, hr]; simp) (h _ _ ⟨rfl, rfl, rfl, ?_, fun k _ hk => Lib.bytesWorld_at_old w el _ k hk⟩ ?_)
  · rw [Lib.bytesWorld_size]; omega
  · refine ⟨by simp, some ⟨w.heap.size, 0, none⟩, _, by rw [hsz, List.length_map], ?_, ?_, .inr ⟨_, rfl, Nat.zero_le _, fun j u hj => ?_⟩⟩
    · rw [List.length_map]; exact grownCap_ge w s.length 0 el
    · exact grownCap_le_maxLen w s.length 0 el (by unfold maxLen; omega)
    · rw [List.getElem?_map, List.getElem?_map] at hj
      cases hq : s[j]? with
      | none => rw [hq] at hj; cases hj
      | some c =>
        rw [hq] at hj
        cases hj
        have hlt := (List.getElem?_eq_some_iff.1 hq).1
        have := Lib.bytesWorld_cell w el ⟨s.toArray⟩ j (by rw [hsz]; exact hlt)
        rw [add_at, Nat.zero_add, this]
        simp [List.getD, hq]
theorem O.mask_u64' {n : Nat} (hx : ev e x = some (.int .u64 (bit64 n : Nat))) (hy : ev e y = some (.int .u64 1)) (hn : n ≤ 64) (h : K (.int .u64 ((2 ^ n - 1 : Nat) : Int)) w) : O C e ⟨d, .binOp .sub tx x y ty', ty, pos, aft, g⟩ w K :=
  O.sub hx hy (by
    have e : IntKind.u64.wrap ((bit64 n : Nat) - 1 : Int) = ((2 ^ n - 1 : Nat) : Int) := by
      rw [IntKind.wrap_u64, bit64]
      rcases Nat.lt_or_ge n 64 with h | h
      · have h1 : 2 ^ n < 2 ^ 64 := Nat.pow_lt_pow_right (by decide) h
        have h2 : 0 < 2 ^ n := Nat.pow_pos (by decide)
        have h3 : (2 : Nat) ^ 64 = 18446744073709551616 := by decide
        rw [Nat.mod_eq_of_lt (by omega)]; omega
      · obtain rfl : n = 64 := by omega
        decide
    rw [e]; exact h)
theorem O.mulW {a b : Nat} (hx : ev e x = some (.int .u64 a)) (hy : ev e y = some (.int .u64 b)) (hb : a * b < 18446744073709551616) (h : K (.int .u64 ((a * b : Nat) : Int)) w) : O C e ⟨d, .binOp .mul tx x y ty', ty, pos, aft, g⟩ w K :=
  O.mul64w hx hy (by rw [Nat.mod_eq_of_lt hb]; exact h)
theorem O.addW {a b : Nat} (hx : ev e x = some (.int .u64 a)) (hy : ev e y = some (.int .u64 b)) (hb : a + b < 18446744073709551616) (h : K (.int .u64 ((a + b : Nat) : Int)) w) : O C e ⟨d, .binOp .add tx x y ty', ty, pos, aft, g⟩ w K :=
  O.add64w hx hy (by rw [Nat.mod_eq_of_lt hb]; exact h)
end ops
/-- The digit that an octet is, in base 16. -/
def lowU (c : UInt8) : Nat := (c ||| 32).toNat
def hexd (c : UInt8) : Option Nat := if 48 ≤ c.toNat ∧ c.toNat ≤ 57 then some (c.toNat - 48) else if 97 ≤ lowU c ∧ lowU c ≤ 102 then some (lowU c - 87) else none
theorem lower_bits : ∀ c : UInt8, bits .or .u8 (c.toNat : Int) 32 = (lowU c : Int) := by
  have key : ∀ k : Fin 256, bits .or .u8 ((UInt8.ofNat k.val).toNat : Int) 32 = (lowU (UInt8.ofNat k.val) : Int) := by decide +kernel
  intro c
  have := key ⟨c.toNat, UInt8.toNat_lt c⟩
  simpa using this
theorem low_95 : ∀ c : UInt8, (c.toNat = 95 → lowU c = 127) ∧ lowU c < 256 ∧ (97 ≤ lowU c → 58 ≤ c.toNat) := by
  have key : ∀ k : Fin 256, ((UInt8.ofNat k.val).toNat = 95 → lowU (UInt8.ofNat k.val) = 127) ∧ lowU (UInt8.ofNat k.val) < 256 ∧ (97 ≤ lowU (UInt8.ofNat k.val) → 58 ≤ (UInt8.ofNat k.val).toNat) := by decide +kernel
  intro c
  have := key ⟨c.toNat, UInt8.toNat_lt c⟩
  simpa using this
theorem lower_calls (c : UInt8) (w : World) : Calls Tryz.prog 161 #[.int .u8 c.toNat] w (Ret fun v w' => v = .int .u8 (lowU c) ∧ w' = w) := by
  have := of_same (Tryz.internal_strconv_lower (c.toNat : Int) w)
  rw [lower_bits] at this
  exact this
/-- The number of digits, below 2^B. -/
def puN (B : Nat) : Str → Nat → Option Nat
  | [], n => some n
  | c :: r, n => match hexd c with
    | none => none
    | some d => if n * 16 + d < 2 ^ B then puN B r (n * 16 + d) else none
theorem puN_end {B : Nat} {s : Str} {i n : Nat} (h : s.length ≤ i) : puN B (s.drop i) n = some n := by rw [List.drop_of_length_le h, puN]
theorem puN_no {B : Nat} {s : Str} {i n : Nat} (h : i < s.length) (hd : hexd (s.getD i 0) = none) : puN B (s.drop i) n = none := by rw [drop_cons (d := 0) h, puN, hd]
theorem puN_big {B : Nat} {s : Str} {i n d : Nat} (h : i < s.length) (hd : hexd (s.getD i 0) = some d) (hb : ¬ n * 16 + d < 2 ^ B) : puN B (s.drop i) n = none := by
  rw [drop_cons (d := 0) h, puN, hd]; simp only; rw [if_neg hb]
theorem puN_yes {B : Nat} {s : Str} {i n d : Nat} (h : i < s.length) (hd : hexd (s.getD i 0) = some d) (hb : n * 16 + d < 2 ^ B) : puN B (s.drop i) n = puN B (s.drop (i + 1)) (n * 16 + d) := by
  rw [drop_cons (d := 0) h, puN, hd]; simp only; rw [if_pos hb]
theorem hexd_1 {c : UInt8} (h1 : 48 ≤ c.toNat) (h2 : c.toNat ≤ 57) : hexd c = some (c.toNat - 48) := by rw [hexd, if_pos ⟨h1, h2⟩]
theorem hexd_2 {c : UInt8} (h : ¬ (48 ≤ c.toNat ∧ c.toNat ≤ 57)) (h1 : 97 ≤ lowU c) (h2 : lowU c ≤ 102) : hexd c = some (lowU c - 87) := by rw [hexd, if_neg h, if_pos ⟨h1, h2⟩]
theorem hexd_3 {c : UInt8} (h : ¬ (48 ≤ c.toNat ∧ c.toNat ≤ 57)) (h1 : ¬ (97 ≤ lowU c ∧ lowU c ≤ 102)) : hexd c = none := by rw [hexd, if_neg h, if_neg h1]
/-- What ParseUint of the inner package gives. -/
def PuP (r : Option Nat) (v : Value) : Prop := (∀ n, r = some n → v = .tuple #[wordV n, .nilIface] ∧ n < 18446744073709551616) ∧ (r = none → ∃ m : Nat, ∃ t : Int, v = .tuple #[wordV m, .iface 185 (.int .i64 t)] ∧ (t = 1 ∨ t = 2))
theorem PuP.yes {r : Option Nat} {n : Nat} (h : r = some n) (hn : n < 18446744073709551616) : PuP r (.tuple #[wordV n, .nilIface]) := ⟨fun m hm => by rw [h] at hm; cases hm; exact ⟨rfl, hn⟩, fun h2 => by rw [h] at h2; cases h2⟩
theorem PuP.no {r : Option Nat} {m : Nat} {t : Int} (h : r = none) (ht : t = 1 ∨ t = 2) : PuP r (.tuple #[wordV m, .iface 185 (.int .i64 t)]) := ⟨fun n hn => (by rw [h] at hn; cases hn), fun _ => ⟨m, t, rfl, ht⟩⟩
theorem digit_cases (c : UInt8) : (48 ≤ c.toNat ∧ c.toNat ≤ 57) ∨ (¬ (48 ≤ c.toNat ∧ c.toNat ≤ 57) ∧ 97 ≤ lowU c ∧ lowU c ≤ 102) ∨ (¬ (48 ≤ c.toNat ∧ c.toNat ≤ 57) ∧ 103 ≤ lowU c ∧ lowU c ≤ 122) ∨ (c.toNat < 48 ∧ lowU c < 97) ∨ (57 < c.toNat ∧ lowU c < 97) ∨ (¬ (48 ≤ c.toNat ∧ c.toNat ≤ 57) ∧ 122 < lowU c ∧ ¬ c.toNat = 95) ∨ (¬ (48 ≤ c.toNat ∧ c.toNat ≤ 57) ∧ 122 < lowU c ∧ c.toNat = 95) := by omega
set_option maxHeartbeats 4000000 in
theorem iparse_calls (s : Str) (B : Nat) (w : World) (hB : B = 8 ∨ B = 64) (hne : s ≠ []) (hn : s.length ≤ 1000000) :
    Calls Tryz.prog 150 #[str s, .int .i64 16, .int .i64 B] w (Ret fun v w' => PuP (puN B s 0) v ∧ Ext w w') := by
  have hp64 : (2 : Nat) ^ 64 = 18446744073709551616 := by decide
  have hmx : 2 ^ B ≤ 18446744073709551616 := by rcases hB with rfl | rfl <;> decide
  have hmx0 : 0 < 2 ^ B := Nat.pow_pos (by decide)
  refine T.enter (vs := [str s, .int .i64 16, .int .i64 B]) Tryz.func150 rfl Tryz.ntmps150 rfl ?_
  refine T.seq (T.region (L.op rfl rfl (O.assign rfl (L.op rfl rfl (O.assign rfl (L.nil (T.seq (T.seq (T.region (L.op rfl rfl (O.move rfl (L.op rfl rfl (O.eql_str_f Tryz.runUnderlying9 rfl rfl hne (L.nil (T.cond_false rfl (T.skip (T.seq (T.region (L.op rfl rfl (O.move rfl (L.op rfl rfl (O.eql_f rfl rfl (by decide) (L.op rfl rfl (O.assign rfl (L.nil (T.seq (T.region (L.op rfl rfl (O.move rfl (L.op rfl rfl (O.assign rfl (L.nil (?_)))))))))))))))))))))))))))))))))
  refine T.seq (T.block (T.seq (T.region (L.op rfl rfl (O.move rfl (L.op rfl rfl (O.leq_t rfl rfl (by decide) (L.op rfl rfl (O.move rfl (L.op rfl rfl (O.move rfl (L.op rfl rfl (O.leq_t rfl rfl (by decide) (L.op rfl rfl (O.pick_true rfl rfl (L.op rfl rfl (O.assign rfl (L.nil (T.cond_true rfl (T.skip (T.blk (T.seq (T.seq (T.region (L.op rfl rfl (O.move rfl (L.op rfl rfl (O.eql_f rfl rfl (by omega) (L.nil (T.cond_false rfl (T.seq (T.region (?_)))))))))))))))))))))))))))))))))
  refine L.op rfl rfl (O.move rfl (L.op rfl rfl (O.lss_f rfl rfl (by omega) (L.op rfl rfl (O.move rfl (L.op rfl rfl (O.move rfl (L.op rfl rfl (O.gtr_f rfl rfl (by omega) (L.op rfl rfl (O.pick_false rfl rfl (L.nil (T.cond_false rfl (T.skip (T.seq (T.region (L.op rfl rfl (O.assign rfl (L.nil (T.seq (T.seq (T.region (L.op rfl rfl (O.move rfl (L.nil (T.block (T.seq (T.region (L.op rfl rfl (O.eql_f rfl rfl (by decide) (L.op rfl rfl (O.assign rfl (L.nil (?_))))))))))))))))))))))))))))))))))
  refine T.cond_false rfl (T.seq (T.region (L.op rfl rfl (O.eql_t rfl rfl (by decide) (L.op rfl rfl (O.assign rfl (L.nil (T.cond_true rfl (T.region (L.op rfl rfl (O.assign rfl (L.nil (T.blk (T.seq (T.region (L.op rfl rfl (O.move rfl (L.op rfl rfl (O.conv_to rfl (fun w => ⟨_, Tryz.runUnderlying3 w⟩) Tryz.runUnderlying108 (IntWalk.u64_in _ ⟨by omega, by omega⟩) (L.op rfl rfl (O.bit_u64 rfl rfl (by omega) (L.op rfl rfl (O.mask_u64' (n := B) rfl rfl (by omega) (L.op rfl rfl (O.assign rfl (L.nil (T.seq (T.region (L.op rfl rfl (O.assign rfl (L.nil (T.seq (?_)))))))))))))))))))))))))))))))))
  refine T.region (L.op rfl rfl (O.assign rfl (L.nil (T.seq (T.seq (T.region (L.op rfl rfl (O.move rfl (L.op rfl rfl (O.str_bytes Tryz.runUnderlying9 Tryz.runUnderlying93 Tryz.runUnderlying5 rfl (by omega) (fun v99 w99 he99 hI99 => ?_)))))))))))
  have hlen : (s.map fun c => (c.toNat : Int)).length = s.length := List.length_map ..
  refine L.op rfl rfl (O.len Tryz.runUnderlying93 rfl (Sl.val (show Ints .u8 0 w99 v99 _ from hI99)) (L.op rfl rfl (O.move rfl (L.nil (T.block (?_))))))
  refine T.loop (σ := Nat × Nat) (fun g => [(1, .int .i64 16), (8, .bool false), (9, str s), (10, .int .u64 1152921504606846976), (11, .int .u64 ((2 ^ B - 1 : Nat) : Int)), (12, .bool false), (13, .int .u64 (g.2 : Int)), (99, v99), (100, .int .i64 s.length), (101, .int .i64 g.1)]) (fun g w' => g.1 ≤ s.length ∧ Ext w w' ∧ Ints .u8 0 w' v99 (s.map fun c => (c.toNat : Int)) ∧ g.2 < 2 ^ B ∧ puN B s 0 = puN B (s.drop g.1) g.2) (fun g => s.length - g.1) ((0, 0)) ⟨rfl, rfl, rfl, rfl, rfl, rfl, rfl, rfl, ?_, rfl, trivial⟩ ⟨Nat.zero_le _, he99, hI99, hmx0, rfl⟩ ?_
  · exact congrArg (fun z : Nat => some (Value.int .i64 z)) hlen
  rintro ⟨i, n⟩ w1 ⟨hi, he1, hI1, hnb, hpu⟩
  simp only at hi hI1 hnb hpu
  refine T.seq (T.region (L.op rfl rfl (O.lss_s rfl rfl (fun hlt => ?_) (fun hlt => ?_))))
  · refine L.nil (?_)
    have hlt' : i < s.length := by omega
    obtain ⟨c, hc⟩ : ∃ c, c = s.getD i 0 := ⟨_, rfl⟩
    have hc8 := UInt8.toNat_lt c
    have hl8 := low_95 c
    have hcell : w1.cell? ((sAddr v99).add ((i : Int).toNat * 1)) = some (.int .u8 (c.toNat : Int)) := Sl.at1 hI1 (by rw [hc]; simp [List.getD, hlt'])
    refine T.seq (T.cond_true rfl (T.skip (T.seq (T.block (T.seq (T.region (L.op rfl rfl (O.indexAddr Tryz.runUnderlying93 Tryz.sizeOf5 rfl rfl hI1 (by omega) (by omega) (L.op rfl rfl (O.load Tryz.isAgg5 rfl hcell (?_)))))))))))
    rcases digit_cases c with h | h | h | h | h | h | h
    · refine L.op rfl rfl (O.assign rfl (L.nil (T.seq (T.region (L.op rfl rfl (O.assign rfl (L.nil (T.seq (T.block (T.seq (T.region (L.op rfl rfl (O.move rfl (L.op rfl rfl (O.eql_f rfl rfl (by omega) (L.op rfl rfl (O.move rfl (L.pass rfl rfl (L.op rfl rfl (O.pick_false rfl rfl (L.op rfl rfl (O.assign rfl (L.nil (T.cond_false rfl (T.seq (T.region (L.op rfl rfl (O.move rfl (L.op rfl rfl (O.leq_t rfl rfl (by omega) (L.op rfl rfl (O.move rfl (L.op rfl rfl (O.move rfl (?_)))))))))))))))))))))))))))))))))))
      refine L.op rfl rfl (O.leq_t rfl rfl (by omega) (L.op rfl rfl (O.pick_true rfl rfl (L.op rfl rfl (O.assign rfl (L.nil (T.cond_true rfl (T.region (L.op rfl rfl (O.move rfl (L.op rfl rfl (O.sub8 rfl rfl (by omega) (?_)))))))))))))
      obtain ⟨d, hdd⟩ : ∃ d, d = (c.toNat - 48) := ⟨_, rfl⟩
      have hd1 : hexd (s.getD i 0) = some d := by rw [← hc, hdd]; exact (hexd_1 h.1 h.2)
      have hd16 : d < 16 := by omega
      have heq : (((c.toNat - 48 : Nat) : Int) = (c.toNat : Int) - 48) := by omega
      rw [← heq, ← hdd]
      refine L.op rfl rfl (O.assign rfl (L.nil (T.blk (T.seq (T.seq (T.region (L.op rfl rfl (O.move rfl (L.op rfl rfl (O.move rfl (L.op rfl rfl (O.conv_to rfl (fun w => ⟨_, Tryz.runUnderlying3 w⟩) Tryz.runUnderlying5 (IntWalk.u8_in _ ⟨by decide, by decide⟩) (L.op rfl rfl (O.geq_f rfl rfl (by omega) (L.nil (T.cond_false rfl (T.skip (T.seq (T.seq (T.region (L.op rfl rfl (O.move rfl (L.op rfl rfl (O.move rfl (L.op rfl rfl (O.geq_s rfl rfl (fun hcut => ?_) (fun hcut => ?_)))))))))))))))))))))))))))
      · refine L.nil (T.cond_true rfl (T.seq (T.region (L.op rfl rfl (O.move rfl (L.op rfl rfl (O.makeIface (by kernel_rfl) rfl (L.op rfl rfl (O.assign rfl (L.op rfl rfl (O.assign rfl (L.nil (T.ret2 Tryz.results150 rfl rfl ⟨PuP.no (m := 2 ^ B - 1) (by rw [hpu, puN_big hlt' hd1 (by omega)]) (.inl rfl), he1⟩)))))))))))))
      · refine L.nil (T.cond_false rfl (T.skip (T.seq (T.region (L.op rfl rfl (O.move rfl (L.op rfl rfl (O.move rfl (L.op rfl rfl (O.conv_to rfl (fun w => ⟨_, Tryz.runUnderlying3 w⟩) Tryz.runUnderlying25 (IntWalk.u64_in _ ⟨by decide, by decide⟩) (L.op rfl rfl (O.mulW (a := n) (b := 16) rfl rfl (by omega) (L.op rfl rfl (O.assign rfl (L.nil (T.seq (T.region (L.op rfl rfl (O.move rfl (L.op rfl rfl (O.move rfl (L.op rfl rfl (O.conv_to rfl (fun w => ⟨_, Tryz.runUnderlying5 w⟩) Tryz.runUnderlying25 (IntWalk.u64_in _ ⟨by omega, by omega⟩) (L.op rfl rfl (O.addW (a := n * 16) (b := d) rfl rfl (by omega) (L.op rfl rfl (O.assign rfl (L.nil (T.seq (T.seq (T.region (L.op rfl rfl (O.move rfl (L.op rfl rfl (O.move rfl (?_))))))))))))))))))))))))))))))))))))
        refine L.op rfl rfl (O.lss_f rfl rfl (by omega) (L.op rfl rfl (O.move rfl (L.op rfl rfl (O.move rfl (L.op rfl rfl (O.move rfl (L.op rfl rfl (O.gtr_s rfl rfl (fun hbig => ?_) (fun hbig => ?_))))))))))
        · refine L.op rfl rfl (O.pick_false rfl rfl (L.nil (T.cond_true rfl (T.seq (T.region (L.op rfl rfl (O.move rfl (L.op rfl rfl (O.makeIface (by kernel_rfl) rfl (L.op rfl rfl (O.assign rfl (L.op rfl rfl (O.assign rfl (L.nil (T.ret2 Tryz.results150 rfl rfl ⟨PuP.no (m := 2 ^ B - 1) (by rw [hpu, puN_big hlt' hd1 (by omega)]) (.inl rfl), he1⟩)))))))))))))))
        · refine L.op rfl rfl (O.pick_false rfl rfl (L.nil (T.cond_false rfl (T.skip (T.region (L.op rfl rfl (O.move rfl (L.op rfl rfl (O.assign rfl (L.nil (T.blk (T.region (L.op rfl rfl (O.add64 rfl rfl (by omega) (L.op rfl rfl (O.move rfl (L.nil (T.again ((i + 1, n * 16 + d)) (by omega) ⟨rfl, rfl, rfl, rfl, rfl, rfl, rfl, rfl, rfl, rfl, trivial⟩ ⟨hlt', he1, hI1, by (try dsimp only); omega, by (try dsimp only); rw [hpu, puN_yes hlt' hd1 (by omega)]⟩))))))))))))))))))
    · refine L.op rfl rfl (O.assign rfl (L.nil (T.seq (T.region (L.op rfl rfl (O.assign rfl (L.nil (T.seq (T.block (T.seq (T.region (L.op rfl rfl (O.move rfl (L.op rfl rfl (O.eql_f rfl rfl (by omega) (L.op rfl rfl (O.move rfl (L.pass rfl rfl (L.op rfl rfl (O.pick_false rfl rfl (L.op rfl rfl (O.assign rfl (L.nil (T.cond_false rfl (T.seq (T.region (L.op rfl rfl (O.move rfl (L.op rfl rfl (O.leq_t rfl rfl (by omega) (L.op rfl rfl (O.move rfl (L.op rfl rfl (O.move rfl (?_)))))))))))))))))))))))))))))))))))
      refine L.op rfl rfl (O.leq_f rfl rfl (by omega) (L.op rfl rfl (O.pick_true rfl rfl (L.op rfl rfl (O.assign rfl (L.nil (T.cond_false rfl (T.seq (T.region (L.op rfl rfl (O.move rfl (L.op rfl rfl (O.call (xs := [.tmp 122]) Tryz.call161 rfl rfl (lower_calls c w1) (fun v2 w2 hq => ?_))))))))))))))
      obtain ⟨rfl, rfl⟩ := hq
      refine L.op rfl rfl (O.leq_t rfl rfl (by omega) (L.op rfl rfl (O.move rfl (L.op rfl rfl (O.move rfl (L.op rfl rfl (O.call (xs := [.tmp 126]) Tryz.call161 rfl rfl (lower_calls c w2) (fun v3 w3 hq => ?_))))))))
      obtain ⟨rfl, rfl⟩ := hq
      refine L.op rfl rfl (O.leq_t rfl rfl (by omega) (L.op rfl rfl (O.pick_true rfl rfl (L.op rfl rfl (O.assign rfl (L.nil (T.cond_true rfl (T.region (L.op rfl rfl (O.move rfl (L.op rfl rfl (O.call (xs := [.tmp 130]) Tryz.call161 rfl rfl (lower_calls c w3) (fun v4 w4 hq => ?_)))))))))))))
      obtain ⟨rfl, rfl⟩ := hq
      refine L.op rfl rfl (O.sub8 rfl rfl (by omega) (L.op rfl rfl (O.add8 rfl rfl (by omega) (?_))))
      obtain ⟨d, hdd⟩ : ∃ d, d = (lowU c - 87) := ⟨_, rfl⟩
      have hd1 : hexd (s.getD i 0) = some d := by rw [← hc, hdd]; exact (hexd_2 h.1 h.2.1 h.2.2)
      have hd16 : d < 16 := by omega
      have heq : (((lowU c - 87 : Nat) : Int) = (lowU c : Int) - 97 + 10) := by omega
      rw [← heq, ← hdd]
      refine L.op rfl rfl (O.assign rfl (L.nil (T.blk (T.seq (T.seq (T.region (L.op rfl rfl (O.move rfl (L.op rfl rfl (O.move rfl (L.op rfl rfl (O.conv_to rfl (fun w => ⟨_, Tryz.runUnderlying3 w⟩) Tryz.runUnderlying5 (IntWalk.u8_in _ ⟨by decide, by decide⟩) (L.op rfl rfl (O.geq_f rfl rfl (by omega) (L.nil (T.cond_false rfl (T.skip (T.seq (T.seq (T.region (L.op rfl rfl (O.move rfl (L.op rfl rfl (O.move rfl (L.op rfl rfl (O.geq_s rfl rfl (fun hcut => ?_) (fun hcut => ?_)))))))))))))))))))))))))))
      · refine L.nil (T.cond_true rfl (T.seq (T.region (L.op rfl rfl (O.move rfl (L.op rfl rfl (O.makeIface (by kernel_rfl) rfl (L.op rfl rfl (O.assign rfl (L.op rfl rfl (O.assign rfl (L.nil (T.ret2 Tryz.results150 rfl rfl ⟨PuP.no (m := 2 ^ B - 1) (by rw [hpu, puN_big hlt' hd1 (by omega)]) (.inl rfl), he1⟩)))))))))))))
      · refine L.nil (T.cond_false rfl (T.skip (T.seq (T.region (L.op rfl rfl (O.move rfl (L.op rfl rfl (O.move rfl (L.op rfl rfl (O.conv_to rfl (fun w => ⟨_, Tryz.runUnderlying3 w⟩) Tryz.runUnderlying25 (IntWalk.u64_in _ ⟨by decide, by decide⟩) (L.op rfl rfl (O.mulW (a := n) (b := 16) rfl rfl (by omega) (L.op rfl rfl (O.assign rfl (L.nil (T.seq (T.region (L.op rfl rfl (O.move rfl (L.op rfl rfl (O.move rfl (L.op rfl rfl (O.conv_to rfl (fun w => ⟨_, Tryz.runUnderlying5 w⟩) Tryz.runUnderlying25 (IntWalk.u64_in _ ⟨by omega, by omega⟩) (L.op rfl rfl (O.addW (a := n * 16) (b := d) rfl rfl (by omega) (L.op rfl rfl (O.assign rfl (L.nil (T.seq (T.seq (T.region (L.op rfl rfl (O.move rfl (L.op rfl rfl (O.move rfl (?_))))))))))))))))))))))))))))))))))))
        refine L.op rfl rfl (O.lss_f rfl rfl (by omega) (L.op rfl rfl (O.move rfl (L.op rfl rfl (O.move rfl (L.op rfl rfl (O.move rfl (L.op rfl rfl (O.gtr_s rfl rfl (fun hbig => ?_) (fun hbig => ?_))))))))))
        · refine L.op rfl rfl (O.pick_false rfl rfl (L.nil (T.cond_true rfl (T.seq (T.region (L.op rfl rfl (O.move rfl (L.op rfl rfl (O.makeIface (by kernel_rfl) rfl (L.op rfl rfl (O.assign rfl (L.op rfl rfl (O.assign rfl (L.nil (T.ret2 Tryz.results150 rfl rfl ⟨PuP.no (m := 2 ^ B - 1) (by rw [hpu, puN_big hlt' hd1 (by omega)]) (.inl rfl), he1⟩)))))))))))))))
        · refine L.op rfl rfl (O.pick_false rfl rfl (L.nil (T.cond_false rfl (T.skip (T.region (L.op rfl rfl (O.move rfl (L.op rfl rfl (O.assign rfl (L.nil (T.blk (T.region (L.op rfl rfl (O.add64 rfl rfl (by omega) (L.op rfl rfl (O.move rfl (L.nil (T.again ((i + 1, n * 16 + d)) (by omega) ⟨rfl, rfl, rfl, rfl, rfl, rfl, rfl, rfl, rfl, rfl, trivial⟩ ⟨hlt', he1, hI1, by (try dsimp only); omega, by (try dsimp only); rw [hpu, puN_yes hlt' hd1 (by omega)]⟩))))))))))))))))))
    · refine L.op rfl rfl (O.assign rfl (L.nil (T.seq (T.region (L.op rfl rfl (O.assign rfl (L.nil (T.seq (T.block (T.seq (T.region (L.op rfl rfl (O.move rfl (L.op rfl rfl (O.eql_f rfl rfl (by omega) (L.op rfl rfl (O.move rfl (L.pass rfl rfl (L.op rfl rfl (O.pick_false rfl rfl (L.op rfl rfl (O.assign rfl (L.nil (T.cond_false rfl (T.seq (T.region (L.op rfl rfl (O.move rfl (L.op rfl rfl (O.leq_t rfl rfl (by omega) (L.op rfl rfl (O.move rfl (L.op rfl rfl (O.move rfl (?_)))))))))))))))))))))))))))))))))))
      refine L.op rfl rfl (O.leq_f rfl rfl (by omega) (L.op rfl rfl (O.pick_true rfl rfl (L.op rfl rfl (O.assign rfl (L.nil (T.cond_false rfl (T.seq (T.region (L.op rfl rfl (O.move rfl (L.op rfl rfl (O.call (xs := [.tmp 122]) Tryz.call161 rfl rfl (lower_calls c w1) (fun v2 w2 hq => ?_))))))))))))))
      obtain ⟨rfl, rfl⟩ := hq
      refine L.op rfl rfl (O.leq_t rfl rfl (by omega) (L.op rfl rfl (O.move rfl (L.op rfl rfl (O.move rfl (L.op rfl rfl (O.call (xs := [.tmp 126]) Tryz.call161 rfl rfl (lower_calls c w2) (fun v3 w3 hq => ?_))))))))
      obtain ⟨rfl, rfl⟩ := hq
      refine L.op rfl rfl (O.leq_t rfl rfl (by omega) (L.op rfl rfl (O.pick_true rfl rfl (L.op rfl rfl (O.assign rfl (L.nil (T.cond_true rfl (T.region (L.op rfl rfl (O.move rfl (L.op rfl rfl (O.call (xs := [.tmp 130]) Tryz.call161 rfl rfl (lower_calls c w3) (fun v4 w4 hq => ?_)))))))))))))
      obtain ⟨rfl, rfl⟩ := hq
      refine L.op rfl rfl (O.sub8 rfl rfl (by omega) (L.op rfl rfl (O.add8 rfl rfl (by omega) (L.op rfl rfl (O.assign rfl (L.nil (T.blk (T.seq (T.seq (T.region (L.op rfl rfl (O.move rfl (L.op rfl rfl (O.move rfl (L.op rfl rfl (O.conv_to rfl (fun w => ⟨_, Tryz.runUnderlying3 w⟩) Tryz.runUnderlying5 (IntWalk.u8_in _ ⟨by decide, by decide⟩) (L.op rfl rfl (O.geq_t rfl rfl (by omega) (L.nil (T.cond_true rfl (T.seq (T.region (L.op rfl rfl (O.makeIface (by kernel_rfl) rfl (L.op rfl rfl (O.assign rfl (L.op rfl rfl (O.assign rfl (L.nil (T.ret2 Tryz.results150 rfl rfl ⟨PuP.no (m := 0) (by rw [hpu, puN_no hlt' (by rw [← hc]; exact hexd_3 h.1 (by omega))]) (.inr rfl), he1⟩))))))))))))))))))))))))))))))
    · refine L.op rfl rfl (O.assign rfl (L.nil (T.seq (T.region (L.op rfl rfl (O.assign rfl (L.nil (T.seq (T.block (T.seq (T.region (L.op rfl rfl (O.move rfl (L.op rfl rfl (O.eql_f rfl rfl (by omega) (L.op rfl rfl (O.move rfl (L.pass rfl rfl (L.op rfl rfl (O.pick_false rfl rfl (L.op rfl rfl (O.assign rfl (L.nil (T.cond_false rfl (T.seq (T.region (L.op rfl rfl (O.move rfl (L.op rfl rfl (O.leq_f rfl rfl (by omega) (L.op rfl rfl (O.move rfl (L.pass rfl rfl (?_))))))))))))))))))))))))))))))))))
      refine L.pass rfl rfl (L.op rfl rfl (O.pick_false rfl rfl (L.op rfl rfl (O.assign rfl (L.nil (T.cond_false rfl (T.seq (T.region (L.op rfl rfl (O.move rfl (L.op rfl rfl (O.call (xs := [.tmp 122]) Tryz.call161 rfl rfl (lower_calls c w1) (fun v2 w2 hq => ?_)))))))))))))
      obtain ⟨rfl, rfl⟩ := hq
      refine L.op rfl rfl (O.leq_f rfl rfl (by omega) (L.op rfl rfl (O.move rfl (L.pass rfl rfl (L.pass rfl rfl (L.pass rfl rfl (L.op rfl rfl (O.pick_false rfl rfl (L.op rfl rfl (O.assign rfl (L.nil (T.cond_false rfl (T.seq (T.region (L.op rfl rfl (O.makeIface (by kernel_rfl) rfl (L.op rfl rfl (O.assign rfl (L.op rfl rfl (O.assign rfl (L.nil (T.ret2 Tryz.results150 rfl rfl ⟨PuP.no (m := 0) (by rw [hpu, puN_no hlt' (by rw [← hc]; exact hexd_3 (by omega) (by omega))]) (.inr rfl), he1⟩))))))))))))))))))))))
    · refine L.op rfl rfl (O.assign rfl (L.nil (T.seq (T.region (L.op rfl rfl (O.assign rfl (L.nil (T.seq (T.block (T.seq (T.region (L.op rfl rfl (O.move rfl (L.op rfl rfl (O.eql_f rfl rfl (by omega) (L.op rfl rfl (O.move rfl (L.pass rfl rfl (L.op rfl rfl (O.pick_false rfl rfl (L.op rfl rfl (O.assign rfl (L.nil (T.cond_false rfl (T.seq (T.region (L.op rfl rfl (O.move rfl (L.op rfl rfl (O.leq_t rfl rfl (by omega) (L.op rfl rfl (O.move rfl (L.op rfl rfl (O.move rfl (?_)))))))))))))))))))))))))))))))))))
      refine L.op rfl rfl (O.leq_f rfl rfl (by omega) (L.op rfl rfl (O.pick_true rfl rfl (L.op rfl rfl (O.assign rfl (L.nil (T.cond_false rfl (T.seq (T.region (L.op rfl rfl (O.move rfl (L.op rfl rfl (O.call (xs := [.tmp 122]) Tryz.call161 rfl rfl (lower_calls c w1) (fun v2 w2 hq => ?_))))))))))))))
      obtain ⟨rfl, rfl⟩ := hq
      refine L.op rfl rfl (O.leq_f rfl rfl (by omega) (L.op rfl rfl (O.move rfl (L.pass rfl rfl (L.pass rfl rfl (L.pass rfl rfl (L.op rfl rfl (O.pick_false rfl rfl (L.op rfl rfl (O.assign rfl (L.nil (T.cond_false rfl (T.seq (T.region (L.op rfl rfl (O.makeIface (by kernel_rfl) rfl (L.op rfl rfl (O.assign rfl (L.op rfl rfl (O.assign rfl (L.nil (T.ret2 Tryz.results150 rfl rfl ⟨PuP.no (m := 0) (by rw [hpu, puN_no hlt' (by rw [← hc]; exact hexd_3 (by omega) (by omega))]) (.inr rfl), he1⟩))))))))))))))))))))))
    · refine L.op rfl rfl (O.assign rfl (L.nil (T.seq (T.region (L.op rfl rfl (O.assign rfl (L.nil (T.seq (T.block (T.seq (T.region (L.op rfl rfl (O.move rfl (L.op rfl rfl (O.eql_f rfl rfl (by omega) (L.op rfl rfl (O.move rfl (L.pass rfl rfl (L.op rfl rfl (O.pick_false rfl rfl (L.op rfl rfl (O.assign rfl (L.nil (T.cond_false rfl (T.seq (T.region (L.op rfl rfl (O.move rfl (L.op rfl rfl (O.leq_t rfl rfl (by omega) (L.op rfl rfl (O.move rfl (L.op rfl rfl (O.move rfl (?_)))))))))))))))))))))))))))))))))))
      refine L.op rfl rfl (O.leq_f rfl rfl (by omega) (L.op rfl rfl (O.pick_true rfl rfl (L.op rfl rfl (O.assign rfl (L.nil (T.cond_false rfl (T.seq (T.region (L.op rfl rfl (O.move rfl (L.op rfl rfl (O.call (xs := [.tmp 122]) Tryz.call161 rfl rfl (lower_calls c w1) (fun v2 w2 hq => ?_))))))))))))))
      obtain ⟨rfl, rfl⟩ := hq
      refine L.op rfl rfl (O.leq_t rfl rfl (by omega) (L.op rfl rfl (O.move rfl (L.op rfl rfl (O.move rfl (L.op rfl rfl (O.call (xs := [.tmp 126]) Tryz.call161 rfl rfl (lower_calls c w2) (fun v3 w3 hq => ?_))))))))
      obtain ⟨rfl, rfl⟩ := hq
      refine L.op rfl rfl (O.leq_f rfl rfl (by omega) (L.op rfl rfl (O.pick_true rfl rfl (L.op rfl rfl (O.assign rfl (L.nil (T.cond_false rfl (T.seq (T.region (L.op rfl rfl (O.makeIface (by kernel_rfl) rfl (L.op rfl rfl (O.assign rfl (L.op rfl rfl (O.assign rfl (L.nil (T.ret2 Tryz.results150 rfl rfl ⟨PuP.no (m := 0) (by rw [hpu, puN_no hlt' (by rw [← hc]; exact hexd_3 h.1 (by omega))]) (.inr rfl), he1⟩)))))))))))))))))
    · refine L.op rfl rfl (O.assign rfl (L.nil (T.seq (T.region (L.op rfl rfl (O.assign rfl (L.nil (T.seq (T.block (T.seq (T.region (L.op rfl rfl (O.move rfl (L.op rfl rfl (O.eql_t rfl rfl (by omega) (L.op rfl rfl (O.move rfl (L.op rfl rfl (O.move rfl (L.op rfl rfl (O.pick_true rfl rfl (L.op rfl rfl (O.assign rfl (L.nil (T.cond_false rfl (T.seq (T.region (L.op rfl rfl (O.move rfl (L.op rfl rfl (O.leq_t rfl rfl (by omega) (L.op rfl rfl (O.move rfl (L.op rfl rfl (O.move rfl (?_))))))))))))))))))))))))))))))))))))
      refine L.op rfl rfl (O.leq_f rfl rfl (by omega) (L.op rfl rfl (O.pick_true rfl rfl (L.op rfl rfl (O.assign rfl (L.nil (T.cond_false rfl (T.seq (T.region (L.op rfl rfl (O.move rfl (L.op rfl rfl (O.call (xs := [.tmp 122]) Tryz.call161 rfl rfl (lower_calls c w1) (fun v2 w2 hq => ?_))))))))))))))
      obtain ⟨rfl, rfl⟩ := hq
      refine L.op rfl rfl (O.leq_t rfl rfl (by omega) (L.op rfl rfl (O.move rfl (L.op rfl rfl (O.move rfl (L.op rfl rfl (O.call (xs := [.tmp 126]) Tryz.call161 rfl rfl (lower_calls c w2) (fun v3 w3 hq => ?_))))))))
      obtain ⟨rfl, rfl⟩ := hq
      refine L.op rfl rfl (O.leq_f rfl rfl (by omega) (L.op rfl rfl (O.pick_true rfl rfl (L.op rfl rfl (O.assign rfl (L.nil (T.cond_false rfl (T.seq (T.region (L.op rfl rfl (O.makeIface (by kernel_rfl) rfl (L.op rfl rfl (O.assign rfl (L.op rfl rfl (O.assign rfl (L.nil (T.ret2 Tryz.results150 rfl rfl ⟨PuP.no (m := 0) (by rw [hpu, puN_no hlt' (by rw [← hc]; exact hexd_3 h.1 (by omega))]) (.inr rfl), he1⟩)))))))))))))))))
  · refine L.nil (T.seq (T.cond_false rfl (T.exit rfl (T.seq (T.seq (T.region (L.op rfl rfl (O.move rfl (L.op rfl rfl (O.move rfl (L.pass rfl rfl (L.pass rfl rfl (L.pass rfl rfl (L.op rfl rfl (O.pick_false rfl rfl (L.nil (T.cond_false rfl (T.skip (T.seq (T.region (L.op rfl rfl (O.move rfl (L.op rfl rfl (O.assign rfl (L.op rfl rfl (O.assign rfl (L.nil (T.ret2 Tryz.results150 rfl rfl ⟨PuP.yes (by rw [hpu, puN_end (by omega)]) (by omega), he1⟩))))))))))))))))))))))))))))

end Go.Proofs.YtmnihgcffdmodaaGreatDoor
set_option linter.unusedVariables false
set_option linter.unusedSimpArgs false
set_option maxRecDepth 20000
namespace Go.Proofs.YtmnihgcffdmodaaGreatDoor
open Go Go.E RowKit
attribute [local irreducible] Go.E.T Go.E.L Go.E.O Go.E.Ob

attribute [local irreducible] Go.E.ObX Go.E.ObK
section ops
variable {C : Cx} {e : Env} {w : World} {K : Value → World → Prop} {d : Option Tmp} {ty : TypeId} {pos : String} {aft : Array Edge} {g : Option (Nat × Bool)} {x y z : Operand} {t tx ty' src dst el : TypeId}
theorem O.typeAssert {v r : Value} {ok : Bool} (hx : ev e x = some v) (hr : ∀ w, (Instr.typeAssert v tx t ok).run C.P w = .ok r w) (h : K r w) : O C e ⟨d, .typeAssert x tx t ok, ty, pos, aft, g⟩ w K :=
  O.of_run (by simp) (fun ac hq => by simp [execOp, hq.eval hx, hr]) h
/-- 'string(b)' of nil. -/
theorem O.bytes_str0 (hs : ∀ w, (underlying src).run C.P w = .ok (.slice el) w) (he : ∀ w, (underlying el).run C.P w = .ok (.int .u8) w) (hd : ∀ w, (underlying dst).run C.P w = .ok .string w) (hx : ev e x = some (.slice none 0 0)) (h : K (str []) w) : O C e ⟨d, .convert src dst x, ty, pos, aft, g⟩ w K :=
  O.of_run (by simp) (fun ac ha => by
    have := Lib.run_convert_nil_bytes (P := C.P) w src dst el 0 (underlying_of hs) (underlying_of he) (underlying_of hd)
    simp only [execOp, ha.eval hx, str]
    rw [Sem.run_bind, this]; simp) h
end ops
/-- What is thrown. -/
def wrongV : Value := .iface 133 (.agg #[])
theorem hexd_hexD {n : Nat} (h : n < 16) : hexd (hexD n) = some n := by
  rcases (show n = 0 ∨ n = 1 ∨ n = 2 ∨ n = 3 ∨ n = 4 ∨ n = 5 ∨ n = 6 ∨ n = 7 ∨ n = 8 ∨ n = 9 ∨ n = 10 ∨ n = 11 ∨ n = 12 ∨ n = 13 ∨ n = 14 ∨ n = 15 by omega) with rfl | rfl | rfl | rfl | rfl | rfl | rfl | rfl | rfl | rfl | rfl | rfl | rfl | rfl | rfl | rfl <;> decide
theorem puN_hexTo (n : Nat) : ∀ (i z : Nat), z * 16 ^ i + n % 16 ^ i < 2 ^ 64 → puN 64 (hexTo n i) z = some (z * 16 ^ i + n % 16 ^ i)
  | 0, z, h => by simp [hexTo, puN, Nat.mod_one]
  | i + 1, z, h => by
    have e : n % 16 ^ (i + 1) = (n / 16 ^ i) % 16 * 16 ^ i + n % 16 ^ i := by
      rw [Nat.pow_succ, Nat.mod_mul, Nat.mul_comm, Nat.add_comm]
    have hd := Nat.mod_lt (n / 16 ^ i) (by decide : 16 > 0)
    have e2 : z * 16 ^ (i + 1) = z * 16 * 16 ^ i := by rw [Nat.pow_succ, Nat.mul_comm (16 ^ i) 16, Nat.mul_assoc]
    have hb : (z * 16 + (n / 16 ^ i) % 16) * 16 ^ i + n % 16 ^ i < 2 ^ 64 := by rw [Nat.add_mul, Nat.add_assoc, ← e, ← e2]; exact h
    have hp : 0 < 16 ^ i := Nat.pow_pos (by decide)
    have hz : z * 16 + (n / 16 ^ i) % 16 < 2 ^ 64 := by
      have := Nat.le_mul_of_pos_right (z * 16 + (n / 16 ^ i) % 16) hp
      omega
    rw [hexTo, puN, hexd_hexD hd]
    simp only
    rw [if_pos hz, puN_hexTo n i _ hb, e, e2, Nat.add_mul]; congr 1; omega
theorem puN_hex16 {n : Nat} (h : n < 18446744073709551616) : puN 64 (hex16 n) 0 = some n := by
  have h64 : (2 : Nat) ^ 64 = 18446744073709551616 := by decide
  have e : n % 16 ^ 16 = n := Nat.mod_eq_of_lt h
  rw [hex16, puN_hexTo n 16 0 (by rw [e]; omega), e]; simp
theorem puN_oct (c : UInt8) : puN 8 [hexD (c.toNat / 16), hexD (c.toNat % 16)] 0 = some c.toNat := by
  have hc := UInt8.toNat_lt c
  have h8 : (2 : Nat) ^ 8 = 256 := by decide
  rw [puN, hexd_hexD (by omega)]
  simp only
  rw [if_pos (by omega), puN, hexd_hexD (by omega)]
  simp only
  rw [if_pos (by omega), puN]
  congr 1; omega
theorem hex16_ne (n : Nat) : hex16 n ≠ [] := by intro h; have := hex16_len n; rw [h] at this; simp at this
theorem toError_calls (fn : ByteArray) (s : Str) (base bits t : Int) (w : World) (ht : t = 1 ∨ t = 2) (hL : LibM w) (hs : s.length ≤ 1000000) : Calls Tryz.prog 151 #[.string fn, str s, .int .i64 base, .int .i64 bits, .iface 185 (.int .i64 t)] w (Ret fun v w' => (∃ t p, v = .iface t p) ∧ Ext w w') := by
  rcases ht with rfl | rfl
  · obtain ⟨te, pe, hv⟩ := hL.er
    exact (Tryz.strconv_toError_range fn ⟨s.toArray⟩ base bits _ w (by simp [ByteArray.size]; omega) hv (.inr ⟨te, pe, rfl⟩)).mono (by rintro e w' ⟨N, rfl, _, _, hb⟩; exact ⟨⟨_, _, rfl⟩, Ext.of_below hb⟩)
  · obtain ⟨te, pe, hv⟩ := hL.es
    exact (Tryz.strconv_toError_syntax fn ⟨s.toArray⟩ base bits _ w (by simp [ByteArray.size]; omega) hv (.inr ⟨te, pe, rfl⟩)).mono (by rintro e w' ⟨N, rfl, _, _, hb⟩; exact ⟨⟨_, _, rfl⟩, Ext.of_below hb⟩)
theorem iparse0_calls (base bits : Int) (w : World) : Calls Tryz.prog 150 #[str [], .int .i64 base, .int .i64 bits] w (Ret fun v w' => v = .tuple #[.int .u64 0, .iface 185 (.int .i64 2)] ∧ w' = w) := of_same (Tryz.internal_strconv_ParseUint_empty base bits w)
theorem parse_yes (s : Str) (B n : Nat) (w : World) (hB : B = 8 ∨ B = 64) (hne : s ≠ []) (hn : s.length ≤ 1000000) (hp : puN B s 0 = some n) :
    Calls Tryz.prog 130 #[str s, .int .i64 16, .int .i64 B] w (Ret fun v w' => v = .tuple #[wordV n, .nilIface] ∧ n < 18446744073709551616 ∧ Ext w w') := by
  refine T.enter (vs := [str s, .int .i64 16, .int .i64 B]) Tryz.func130 rfl Tryz.ntmps130 rfl ?_
  refine T.seq (T.region (L.op rfl rfl (O.assign rfl (L.op rfl rfl (O.assign rfl (L.nil (T.seq (T.region (L.op rfl rfl (O.move rfl (L.op rfl rfl (O.move rfl (L.op rfl rfl (O.move rfl (L.op rfl rfl (O.call (xs := [.tmp 11, .tmp 12, .tmp 13]) Tryz.call150 rfl rfl (iparse_calls s B w hB hne hn) (fun v1 w1 hq => ?_)))))))))))))))))
  obtain ⟨hP, he1⟩ := hq
  obtain ⟨rfl, hnl⟩ := hP.1 n hp
  refine L.op rfl rfl (O.move rfl (L.op rfl rfl (O.extract rfl rfl (L.op rfl rfl (O.extract rfl rfl (L.op rfl rfl (O.assign rfl (L.op rfl rfl (O.assign rfl (L.nil (T.seq (T.seq (T.region (L.op rfl rfl (O.move rfl (L.op rfl rfl (O.neq_iface_no (by kernel_rfl) rfl (L.nil (T.cond_false rfl (T.skip (T.seq (T.region (L.op rfl rfl (O.move rfl (L.op rfl rfl (O.assign rfl (L.op rfl rfl (O.assign rfl (L.nil (T.ret2 Tryz.results130 rfl rfl ⟨rfl, hnl, he1⟩))))))))))))))))))))))))))))))

theorem parse_no (s : Str) (B : Nat) (w : World) (hB : B = 8 ∨ B = 64) (hn : s.length ≤ 1000000) (hL : LibM w) (hp : s ≠ [] → puN B s 0 = none) :
    Calls Tryz.prog 130 #[str s, .int .i64 16, .int .i64 B] w (Ret fun v w' => (∃ (m : Nat) (t : TypeId) (p : Value), v = .tuple #[wordV m, .iface t p]) ∧ Ext w w') := by
  refine T.enter (vs := [str s, .int .i64 16, .int .i64 B]) Tryz.func130 rfl Tryz.ntmps130 rfl ?_
  rcases Classical.em (s = []) with h0 | h0
  · subst h0
    refine T.seq (T.region (L.op rfl rfl (O.assign rfl (L.op rfl rfl (O.assign rfl (L.nil (T.seq (T.region (L.op rfl rfl (O.move rfl (L.op rfl rfl (O.move rfl (L.op rfl rfl (O.move rfl (L.op rfl rfl (O.call (xs := [.tmp 11, .tmp 12, .tmp 13]) Tryz.call150 rfl rfl (iparse0_calls 16 B w) (fun v1 w1 hq => ?_)))))))))))))))))
    obtain ⟨rfl, rfl⟩ := hq
    refine L.op rfl rfl (O.move rfl (L.op rfl rfl (O.extract rfl rfl (L.op rfl rfl (O.extract rfl rfl (L.op rfl rfl (O.assign rfl (L.op rfl rfl (O.assign rfl (L.nil (T.seq (T.seq (T.region (L.op rfl rfl (O.move rfl (L.op rfl rfl (O.neq_iface_yes (by kernel_rfl) rfl rfl (L.nil (T.cond_true rfl (T.seq (T.region (L.op rfl rfl (O.move rfl (L.op rfl rfl (O.move rfl (L.op rfl rfl (O.move rfl (L.op rfl rfl (O.move rfl (L.op rfl rfl (O.move rfl (L.op rfl rfl (O.call (xs := [_, .tmp 20, .tmp 21, .tmp 22, .tmp 23]) Tryz.call151 rfl rfl (toError_calls _ [] 16 B 2 w1 (.inr rfl) hL hn) (fun v2 w2 hq => ?_))))))))))))))))))))))))))))))))))
    obtain ⟨⟨t, p, rfl⟩, he2⟩ := hq
    refine L.op rfl rfl (O.assign rfl (L.op rfl rfl (O.assign rfl (L.nil (T.ret2 Tryz.results130 rfl rfl ⟨⟨0, t, p, rfl⟩, he2⟩)))))
  · refine T.seq (T.region (L.op rfl rfl (O.assign rfl (L.op rfl rfl (O.assign rfl (L.nil (T.seq (T.region (L.op rfl rfl (O.move rfl (L.op rfl rfl (O.move rfl (L.op rfl rfl (O.move rfl (L.op rfl rfl (O.call (xs := [.tmp 11, .tmp 12, .tmp 13]) Tryz.call150 rfl rfl (iparse_calls s B w hB h0 hn) (fun v1 w1 hq => ?_)))))))))))))))))
    obtain ⟨hP, he1⟩ := hq
    obtain ⟨m, t, rfl, ht⟩ := hP.2 (hp h0)
    refine L.op rfl rfl (O.move rfl (L.op rfl rfl (O.extract rfl rfl (L.op rfl rfl (O.extract rfl rfl (L.op rfl rfl (O.assign rfl (L.op rfl rfl (O.assign rfl (L.nil (T.seq (T.seq (T.region (L.op rfl rfl (O.move rfl (L.op rfl rfl (O.neq_iface_yes (by kernel_rfl) rfl rfl (L.nil (T.cond_true rfl (T.seq (T.region (L.op rfl rfl (O.move rfl (L.op rfl rfl (O.move rfl (L.op rfl rfl (O.move rfl (L.op rfl rfl (O.move rfl (L.op rfl rfl (O.move rfl (L.op rfl rfl (O.call (xs := [_, .tmp 20, .tmp 21, .tmp 22, .tmp 23]) Tryz.call151 rfl rfl (toError_calls _ s 16 B t w1 ht (hL.ext he1) hn) (fun v2 w2 hq => ?_))))))))))))))))))))))))))))))))))
    obtain ⟨⟨t', p, rfl⟩, he2⟩ := hq
    refine L.op rfl rfl (O.assign rfl (L.op rfl rfl (O.assign rfl (L.nil (T.ret2 Tryz.results130 rfl rfl ⟨⟨m, t', p, rfl⟩, he1.trans he2⟩)))))

theorem needInt_yes (x : Int) (g : FuncId) (ca : Array Value) (w : World) (hcl : ∀ args w, (callFunc g args).run Tryz.prog w = .ok (.enter g args) w) (hcall : Calls Tryz.prog g (#[] ++ [.int .i64 x].toArray ++ ca) w (Ret fun v w' => v = .bool true ∧ Ext w w')) :
    Calls Tryz.prog 101 #[.int .i64 x, .func (.func g) #[] ca] w (Ret fun v w' => v = .int .i64 x ∧ Ext w w') := by
  refine T.enter (vs := [.int .i64 x, .func (.func g) #[] ca]) Tryz.func101 rfl Tryz.ntmps101 rfl ?_
  refine T.seq (T.region (L.op rfl rfl (O.assign rfl (L.nil (T.seq (T.seq (T.region (L.op rfl rfl (O.move rfl (L.op rfl rfl (O.move rfl (L.op rfl rfl (O.call (xs := [.tmp 6]) hcl rfl rfl hcall (fun v1 w1 hq => ?_))))))))))))))
  obtain ⟨rfl, he1⟩ := hq
  refine L.op rfl rfl (O.not rfl (L.nil (T.cond_false rfl (T.skip (T.seq (T.region (L.op rfl rfl (O.move rfl (L.op rfl rfl (O.assign rfl (L.nil (T.ret1 Tryz.results101 rfl ⟨rfl, he1⟩))))))))))))

theorem needInt_no (x : Int) (g : FuncId) (ca : Array Value) (w : World) (hcl : ∀ args w, (callFunc g args).run Tryz.prog w = .ok (.enter g args) w) (hcall : Calls Tryz.prog g (#[] ++ [.int .i64 x].toArray ++ ca) w (Ret fun v w' => v = .bool false ∧ Ext w w')) :
    Calls Tryz.prog 101 #[.int .i64 x, .func (.func g) #[] ca] w (Pan (wrongV) fun w' => Ext w w') := by
  refine T.enterP (vs := [.int .i64 x, .func (.func g) #[] ca]) Tryz.func101 rfl Tryz.ntmps101 rfl ?_
  refine T.seq (T.region (L.op rfl rfl (O.assign rfl (L.nil (T.seq (T.seq (T.region (L.op rfl rfl (O.move rfl (L.op rfl rfl (O.move rfl (L.op rfl rfl (O.call (xs := [.tmp 6]) hcl rfl rfl hcall (fun v1 w1 hq => ?_))))))))))))))
  obtain ⟨rfl, he1⟩ := hq
  refine L.op rfl rfl (O.not rfl (L.nil (T.cond_true rfl (T.region (L.op rfl rfl (O.build (v := .agg #[]) (parts := []) (vs := []) rfl (fun w => by kernel_rfl) (L.op rfl rfl (O.makeIface (by kernel_rfl) rfl (L.panicP rfl rfl he1)))))))))

theorem needStrs_yes (x : Value) (g : FuncId) (ca : Array Value) (w : World) (hcl : ∀ args w, (callFunc g args).run Tryz.prog w = .ok (.enter g args) w) (hcall : Calls Tryz.prog g (#[] ++ [x].toArray ++ ca) w (Ret fun v w' => v = .bool true ∧ Ext w w')) :
    Calls Tryz.prog 104 #[x, .func (.func g) #[] ca] w (Ret fun v w' => v = x ∧ Ext w w') := by
  refine T.enter (vs := [x, .func (.func g) #[] ca]) Tryz.func104 rfl Tryz.ntmps104 rfl ?_
  refine T.seq (T.region (L.op rfl rfl (O.assign rfl (L.nil (T.seq (T.seq (T.region (L.op rfl rfl (O.move rfl (L.op rfl rfl (O.move rfl (L.op rfl rfl (O.call (xs := [.tmp 6]) hcl rfl rfl hcall (fun v1 w1 hq => ?_))))))))))))))
  obtain ⟨rfl, he1⟩ := hq
  refine L.op rfl rfl (O.not rfl (L.nil (T.cond_false rfl (T.skip (T.seq (T.region (L.op rfl rfl (O.move rfl (L.op rfl rfl (O.assign rfl (L.nil (T.ret1 Tryz.results104 rfl ⟨rfl, he1⟩))))))))))))

theorem needStrs_no (x : Value) (g : FuncId) (ca : Array Value) (w : World) (hcl : ∀ args w, (callFunc g args).run Tryz.prog w = .ok (.enter g args) w) (hcall : Calls Tryz.prog g (#[] ++ [x].toArray ++ ca) w (Ret fun v w' => v = .bool false ∧ Ext w w')) :
    Calls Tryz.prog 104 #[x, .func (.func g) #[] ca] w (Pan (wrongV) fun w' => Ext w w') := by
  refine T.enterP (vs := [x, .func (.func g) #[] ca]) Tryz.func104 rfl Tryz.ntmps104 rfl ?_
  refine T.seq (T.region (L.op rfl rfl (O.assign rfl (L.nil (T.seq (T.seq (T.region (L.op rfl rfl (O.move rfl (L.op rfl rfl (O.move rfl (L.op rfl rfl (O.call (xs := [.tmp 6]) hcl rfl rfl hcall (fun v1 w1 hq => ?_))))))))))))))
  obtain ⟨rfl, he1⟩ := hq
  refine L.op rfl rfl (O.not rfl (L.nil (T.cond_true rfl (T.region (L.op rfl rfl (O.build (v := .agg #[]) (parts := []) (vs := []) rfl (fun w => by kernel_rfl) (L.op rfl rfl (O.makeIface (by kernel_rfl) rfl (L.panicP rfl rfl he1)))))))))

theorem needStr_yes (x : Str) (g : FuncId) (ca : Array Value) (w : World) (hcl : ∀ args w, (callFunc g args).run Tryz.prog w = .ok (.enter g args) w) (hcall : Calls Tryz.prog g (#[] ++ [str x].toArray ++ ca) w (Ret fun v w' => v = .bool true ∧ Ext w w')) :
    Calls Tryz.prog 131 #[str x, .func (.func g) #[] ca] w (Ret fun v w' => v = str x ∧ Ext w w') := by
  refine T.enter (vs := [str x, .func (.func g) #[] ca]) Tryz.func131 rfl Tryz.ntmps131 rfl ?_
  refine T.seq (T.region (L.op rfl rfl (O.assign rfl (L.nil (T.seq (T.seq (T.region (L.op rfl rfl (O.move rfl (L.op rfl rfl (O.move rfl (L.op rfl rfl (O.call (xs := [.tmp 6]) hcl rfl rfl hcall (fun v1 w1 hq => ?_))))))))))))))
  obtain ⟨rfl, he1⟩ := hq
  refine L.op rfl rfl (O.not rfl (L.nil (T.cond_false rfl (T.skip (T.seq (T.region (L.op rfl rfl (O.move rfl (L.op rfl rfl (O.assign rfl (L.nil (T.ret1 Tryz.results131 rfl ⟨rfl, he1⟩))))))))))))

theorem needStr_no (x : Str) (g : FuncId) (ca : Array Value) (w : World) (hcl : ∀ args w, (callFunc g args).run Tryz.prog w = .ok (.enter g args) w) (hcall : Calls Tryz.prog g (#[] ++ [str x].toArray ++ ca) w (Ret fun v w' => v = .bool false ∧ Ext w w')) :
    Calls Tryz.prog 131 #[str x, .func (.func g) #[] ca] w (Pan (wrongV) fun w' => Ext w w') := by
  refine T.enterP (vs := [str x, .func (.func g) #[] ca]) Tryz.func131 rfl Tryz.ntmps131 rfl ?_
  refine T.seq (T.region (L.op rfl rfl (O.assign rfl (L.nil (T.seq (T.seq (T.region (L.op rfl rfl (O.move rfl (L.op rfl rfl (O.move rfl (L.op rfl rfl (O.call (xs := [.tmp 6]) hcl rfl rfl hcall (fun v1 w1 hq => ?_))))))))))))))
  obtain ⟨rfl, he1⟩ := hq
  refine L.op rfl rfl (O.not rfl (L.nil (T.cond_true rfl (T.region (L.op rfl rfl (O.build (v := .agg #[]) (parts := []) (vs := []) rfl (fun w => by kernel_rfl) (L.op rfl rfl (O.makeIface (by kernel_rfl) rfl (L.panicP rfl rfl he1)))))))))

theorem needErr_yes (x : Value) (g : FuncId) (ca : Array Value) (w : World) (hcl : ∀ args w, (callFunc g args).run Tryz.prog w = .ok (.enter g args) w) (hcall : Calls Tryz.prog g (#[] ++ [x].toArray ++ ca) w (Ret fun v w' => v = .bool true ∧ Ext w w')) :
    Calls Tryz.prog 133 #[x, .func (.func g) #[] ca] w (Ret fun v w' => v = x ∧ Ext w w') := by
  refine T.enter (vs := [x, .func (.func g) #[] ca]) Tryz.func133 rfl Tryz.ntmps133 rfl ?_
  refine T.seq (T.region (L.op rfl rfl (O.assign rfl (L.nil (T.seq (T.seq (T.region (L.op rfl rfl (O.move rfl (L.op rfl rfl (O.move rfl (L.op rfl rfl (O.call (xs := [.tmp 6]) hcl rfl rfl hcall (fun v1 w1 hq => ?_))))))))))))))
  obtain ⟨rfl, he1⟩ := hq
  refine L.op rfl rfl (O.not rfl (L.nil (T.cond_false rfl (T.skip (T.seq (T.region (L.op rfl rfl (O.move rfl (L.op rfl rfl (O.assign rfl (L.nil (T.ret1 Tryz.results133 rfl ⟨rfl, he1⟩))))))))))))

theorem needErr_no (x : Value) (g : FuncId) (ca : Array Value) (w : World) (hcl : ∀ args w, (callFunc g args).run Tryz.prog w = .ok (.enter g args) w) (hcall : Calls Tryz.prog g (#[] ++ [x].toArray ++ ca) w (Ret fun v w' => v = .bool false ∧ Ext w w')) :
    Calls Tryz.prog 133 #[x, .func (.func g) #[] ca] w (Pan (wrongV) fun w' => Ext w w') := by
  refine T.enterP (vs := [x, .func (.func g) #[] ca]) Tryz.func133 rfl Tryz.ntmps133 rfl ?_
  refine T.seq (T.region (L.op rfl rfl (O.assign rfl (L.nil (T.seq (T.seq (T.region (L.op rfl rfl (O.move rfl (L.op rfl rfl (O.move rfl (L.op rfl rfl (O.call (xs := [.tmp 6]) hcl rfl rfl hcall (fun v1 w1 hq => ?_))))))))))))))
  obtain ⟨rfl, he1⟩ := hq
  refine L.op rfl rfl (O.not rfl (L.nil (T.cond_true rfl (T.region (L.op rfl rfl (O.build (v := .agg #[]) (parts := []) (vs := []) rfl (fun w => by kernel_rfl) (L.op rfl rfl (O.makeIface (by kernel_rfl) rfl (L.panicP rfl rfl he1)))))))))

theorem needEn_yes (x : En) (w : World) (hx : x.ok) (hr : rightE x = true) :
    Calls Tryz.prog 108 #[x.val, .func (.func 51) #[] #[]] w (Ret fun v w' => v = x.val ∧ Ext w w') := by
  refine T.enter (vs := [x.val, .func (.func 51) #[] #[]]) Tryz.func108 rfl Tryz.ntmps108 rfl ?_
  refine T.seq (T.region (L.op rfl rfl (O.box rfl (fun b2 w2 hb2 hz2 he2 hB2 => ?_))))
  have hX2 : Blk w2 b2 x.cells 42 := hB2
  refine L.op rfl rfl (O.alloc Tryz.zeroValue42 (fun b4 w4 hb4 hz4 he4 hB4 => ?_))
  have hE4 : Blk w4 b4 e0.cells 42 := hB4
  have hX4 := hX2.ext he4
  have he04 := he2.trans he4
  refine L.nil (T.seq (T.seq (T.region (L.op rfl rfl (O.move rfl (L.op rfl rfl (O.loadAgg Tryz.isAgg42 Tryz.sizeOf42 rfl rfl hX4.row (L.op rfl rfl (O.call (xs := [.tmp 6]) Tryz.call51 rfl rfl (right_calls x w4 hx) (fun v5 w5 hq => ?_))))))))))
  obtain ⟨hv5, he5⟩ := hq
  rw [hr] at hv5
  subst hv5
  refine L.op rfl rfl (O.not rfl (L.nil (T.cond_false rfl (T.skip (T.seq (T.region (L.op rfl rfl (O.loadAgg Tryz.isAgg42 Tryz.sizeOf42 rfl rfl ((hX4.ext he5).row) (L.op rfl rfl (O.storeAgg Tryz.sizeOf42 rfl rfl rfl (hE4.ext he5) (Nat.le_refl _) (En.one _) (fun w6 hu6 hB6 => ?_)))))))))))
  have hu6 : Upd b4 _ _ := hu6
  have hE6 : Blk w6 b4 x.cells 42 := hB6
  refine L.nil (T.retA Tryz.results108 Tryz.isAgg42 Tryz.sizeOf42 rfl rfl hE6.row ⟨rfl, (he04.trans he5).upd hu6 (.inr (by omega))⟩)

theorem needEn_no (x : En) (w : World) (hx : x.ok) (hr : rightE x = false) :
    Calls Tryz.prog 108 #[x.val, .func (.func 51) #[] #[]] w (Pan (wrongV) fun w' => Ext w w') := by
  refine T.enterP (vs := [x.val, .func (.func 51) #[] #[]]) Tryz.func108 rfl Tryz.ntmps108 rfl ?_
  refine T.seq (T.region (L.op rfl rfl (O.box rfl (fun b2 w2 hb2 hz2 he2 hB2 => ?_))))
  have hX2 : Blk w2 b2 x.cells 42 := hB2
  refine L.op rfl rfl (O.alloc Tryz.zeroValue42 (fun b4 w4 hb4 hz4 he4 hB4 => ?_))
  have hE4 : Blk w4 b4 e0.cells 42 := hB4
  have hX4 := hX2.ext he4
  have he04 := he2.trans he4
  refine L.nil (T.seq (T.seq (T.region (L.op rfl rfl (O.move rfl (L.op rfl rfl (O.loadAgg Tryz.isAgg42 Tryz.sizeOf42 rfl rfl hX4.row (L.op rfl rfl (O.call (xs := [.tmp 6]) Tryz.call51 rfl rfl (right_calls x w4 hx) (fun v5 w5 hq => ?_))))))))))
  obtain ⟨hv5, he5⟩ := hq
  rw [hr] at hv5
  subst hv5
  refine L.op rfl rfl (O.not rfl (L.nil (T.cond_true rfl (T.region (L.op rfl rfl (O.build (v := .agg #[]) (parts := []) (vs := []) rfl (fun w => by kernel_rfl) (L.op rfl rfl (O.makeIface (by kernel_rfl) rfl (L.panicP rfl rfl (he04.trans he5))))))))))

theorem entry2_calls (i : Int) (w : World) :
    Calls Tryz.prog 103 #[.int .i64 i] w (Ret fun v w' => v = .bool (decide (0 ≤ i)) ∧ w' = w) := by
  refine T.enter (vs := [.int .i64 i]) Tryz.func103 rfl Tryz.ntmps103 rfl ?_
  refine T.seq (T.region (L.op rfl rfl (O.assign rfl (L.nil (T.seq (T.region (L.op rfl rfl (O.move rfl (L.op rfl rfl (O.geq rfl rfl (L.op rfl rfl (O.assign rfl (L.nil (T.ret1 Tryz.results103 rfl ⟨rfl, rfl⟩))))))))))))))

theorem unhex1_nil (s : Str) (b4 b3 n : Nat) (w : World) (h4 : Blk w b4 [.nilIface] 97) (h3 : Blk w b3 [wordV n] 25) (hn : n < 18446744073709551616) (hL : LibM w) :
    Calls Tryz.prog 132 #[str s, .pointer (some ⟨b4, 0, none⟩), .pointer (some ⟨b3, 0, none⟩)] w (Ret fun v w' => v = .bool (decide (hex16 n = s)) ∧ Ext w w') := by
  refine T.enter (vs := [str s, .pointer (some ⟨b4, 0, none⟩), .pointer (some ⟨b3, 0, none⟩)]) Tryz.func132 rfl Tryz.ntmps132 rfl ?_
  refine T.seq (T.region (L.op rfl rfl (O.assign rfl (L.nil (T.seq (T.region (L.op rfl rfl (O.load Tryz.isAgg97 rfl (h4.cell rfl) (L.op rfl rfl (O.eql_iface_yes (by kernel_rfl) rfl (L.op rfl rfl (O.move rfl (L.op rfl rfl (O.load Tryz.isAgg25 rfl (h3.cell rfl) (L.op rfl rfl (O.call (xs := [.tmp 8]) Tryz.call68 rfl rfl (sixteen_calls n w hL hn) (fun v1 w1 hq => ?_)))))))))))))))))
  obtain ⟨rfl, he1⟩ := hq
  refine L.op rfl rfl (O.move rfl (L.op rfl rfl (O.eql_str Tryz.runUnderlying9 rfl rfl (L.op rfl rfl (O.pick_true rfl rfl (L.op rfl rfl (O.assign rfl (L.nil (T.ret1 Tryz.results132 rfl ⟨rfl, he1⟩)))))))))

theorem unhex1_err (s : Str) (b4 b3 : Nat) (t : TypeId) (p : Value) (w : World) (h4 : Blk w b4 [.iface t p] 97) :
    Calls Tryz.prog 132 #[str s, .pointer (some ⟨b4, 0, none⟩), .pointer (some ⟨b3, 0, none⟩)] w (Ret fun v w' => v = .bool false ∧ Ext w w') := by
  refine T.enter (vs := [str s, .pointer (some ⟨b4, 0, none⟩), .pointer (some ⟨b3, 0, none⟩)]) Tryz.func132 rfl Tryz.ntmps132 rfl ?_
  refine T.seq (T.region (L.op rfl rfl (O.assign rfl (L.nil (T.seq (T.region (L.op rfl rfl (O.load Tryz.isAgg97 rfl (h4.cell rfl) (L.op rfl rfl (O.eql_iface_no (by kernel_rfl) rfl rfl (L.op rfl rfl (O.move rfl (L.pass rfl rfl (L.pass rfl rfl (L.pass rfl rfl (L.pass rfl rfl (L.op rfl rfl (O.pick_false rfl rfl (L.op rfl rfl (O.assign rfl (L.nil (T.ret1 Tryz.results132 rfl ⟨rfl, Keep.refl _ _⟩))))))))))))))))))))))

theorem unhex_yes (n : Nat) (w : World) (hn : n < 18446744073709551616) (hL : LibM w) :
    Calls Tryz.prog 106 #[str (hex16 n)] w (Ret fun v w' => v = wordV n ∧ Ext w w') := by
  refine T.enter (vs := [str (hex16 n)]) Tryz.func106 rfl Tryz.ntmps106 rfl ?_
  refine T.seq (T.region (L.op rfl rfl (O.assign rfl (L.nil (T.seq (T.region (L.op rfl rfl (O.move rfl (L.op rfl rfl (O.call (xs := [.tmp 6, .const (.int .i64 16), .const (.int .i64 64)]) Tryz.call130 rfl rfl (parse_yes (hex16 n) 64 n w (.inr rfl) (hex16_ne n) (by rw [hex16_len]; omega) (puN_hex16 hn)) (fun v1 w1 hq => ?_)))))))))))
  obtain ⟨rfl, _, he1⟩ := hq
  refine L.op rfl rfl (O.move rfl (L.op rfl rfl (O.extract rfl rfl (L.op rfl rfl (O.extract rfl rfl (L.op rfl rfl (O.alloc Tryz.zeroValue25 (fun b3 w3 hb3 hz3 he3 hB3 => ?_))))))))
  refine L.op rfl rfl (O.alloc Tryz.zeroValue97 (fun b4 w4 hb4 hz4 he4 hB4 => ?_))
  have hA4 : Blk w4 b3 [wordV 0] 25 := hB3.ext he4
  have hC4 : Blk w4 b4 [.nilIface] 97 := hB4
  refine L.op rfl rfl (O.store1 Tryz.sizeOf25 rfl rfl rfl hA4 (by simp) (fun w5 hu5 hB5 => ?_))
  have hu5 : Upd b3 _ _ := hu5
  have hA5 : Blk w5 b3 [wordV n] 25 := hB5
  refine L.op rfl rfl (O.store1 Tryz.sizeOf97 rfl rfl rfl (hC4.upd hu5 (by omega)) (by simp) (fun w6 hu6 hB6 => ?_))
  have hu6 : Upd b4 _ _ := hu6
  have hC6 : Blk w6 b4 [.nilIface] 97 := hB6
  have hA6 := hA5.upd hu6 (by omega)
  have he06 : Ext w w6 := ((((he1.trans he3).trans he4).upd hu5 (.inr (by have := he1.size; omega))).upd hu6 (.inr (by have := he1.size; omega)))
  refine L.nil (T.seq (T.region (L.op rfl rfl (O.move rfl (L.op rfl rfl (O.makeFunc (fi := []) (ca := [.tmp 4, .tmp 3]) rfl rfl (L.op rfl rfl (O.call (xs := [.tmp 10, .tmp 11]) Tryz.call131 rfl rfl (needStr_yes (hex16 n) 132 #[.pointer (some ⟨b4, 0, none⟩), .pointer (some ⟨b3, 0, none⟩)] w6 Tryz.call132 (by have h := unhex1_nil (hex16 n) b4 b3 n w6 hC6 hA6 hn (hL.ext he06); rw [decide_eq_true rfl] at h; exact h)) (fun v7 w7 hq => ?_)))))))))
  obtain ⟨rfl, he7⟩ := hq
  refine L.nil (T.seq (T.region (L.op rfl rfl (O.load Tryz.isAgg25 rfl ((hA6.ext he7).cell rfl) (L.op rfl rfl (O.assign rfl (L.nil (T.ret1 Tryz.results106 rfl ⟨rfl, he06.trans he7⟩))))))))

theorem unhex_no (s : Str) (w : World) (hs : ∀ n, n < 18446744073709551616 → ¬ hex16 n = s) (hl : s.length ≤ 1000000) (hL : LibM w) :
    Calls Tryz.prog 106 #[str s] w (Pan (wrongV) fun w' => Ext w w') := by
  refine T.enterP (vs := [str s]) Tryz.func106 rfl Tryz.ntmps106 rfl ?_
  rcases hp : (if s = [] then none else puN 64 s 0) with _ | n
  · refine T.seq (T.region (L.op rfl rfl (O.assign rfl (L.nil (T.seq (T.region (L.op rfl rfl (O.move rfl (L.op rfl rfl (O.call (xs := [.tmp 6, .const (.int .i64 16), .const (.int .i64 64)]) Tryz.call130 rfl rfl (parse_no s 64 w (.inr rfl) hl hL (fun h0 ↦ by rw [if_neg h0] at hp; exact hp)) (fun v1 w1 hq => ?_)))))))))))
    obtain ⟨⟨m, t, p, rfl⟩, he1⟩ := hq
    refine L.op rfl rfl (O.move rfl (L.op rfl rfl (O.extract rfl rfl (L.op rfl rfl (O.extract rfl rfl (L.op rfl rfl (O.alloc Tryz.zeroValue25 (fun b3 w3 hb3 hz3 he3 hB3 => ?_))))))))
    refine L.op rfl rfl (O.alloc Tryz.zeroValue97 (fun b4 w4 hb4 hz4 he4 hB4 => ?_))
    have hA4 : Blk w4 b3 [wordV 0] 25 := hB3.ext he4
    have hC4 : Blk w4 b4 [.nilIface] 97 := hB4
    refine L.op rfl rfl (O.store1 Tryz.sizeOf25 rfl rfl rfl hA4 (by simp) (fun w5 hu5 hB5 => ?_))
    have hu5 : Upd b3 _ _ := hu5
    refine L.op rfl rfl (O.store1 Tryz.sizeOf97 rfl rfl rfl (hC4.upd hu5 (by omega)) (by simp) (fun w6 hu6 hB6 => ?_))
    have hu6 : Upd b4 _ _ := hu6
    have hC6 : Blk w6 b4 [.iface t p] 97 := hB6
    have he06 : Ext w w6 := ((((he1.trans he3).trans he4).upd hu5 (.inr (by have := he1.size; omega))).upd hu6 (.inr (by have := he1.size; omega)))
    refine L.nil (T.seq (T.region (L.op rfl rfl (O.move rfl (L.op rfl rfl (O.makeFunc (fi := []) (ca := [.tmp 4, .tmp 3]) rfl rfl (L.callPan (xs := [.tmp 10, .tmp 11]) rfl Tryz.call131 rfl rfl (needStr_no s 132 #[.pointer (some ⟨b4, 0, none⟩), .pointer (some ⟨b3, 0, none⟩)] w6 Tryz.call132 (unhex1_err s b4 b3 t p w6 hC6)) (fun w' a hR ha => ⟨ha.defers, rfl, he06.trans hR⟩))))))))
  · have h0 : s ≠ [] := fun e => by rw [if_pos e] at hp; cases hp
    rw [if_neg h0] at hp
    refine T.seq (T.region (L.op rfl rfl (O.assign rfl (L.nil (T.seq (T.region (L.op rfl rfl (O.move rfl (L.op rfl rfl (O.call (xs := [.tmp 6, .const (.int .i64 16), .const (.int .i64 64)]) Tryz.call130 rfl rfl (parse_yes s 64 n w (.inr rfl) h0 hl hp) (fun v1 w1 hq => ?_)))))))))))
    obtain ⟨rfl, hn, he1⟩ := hq
    refine L.op rfl rfl (O.move rfl (L.op rfl rfl (O.extract rfl rfl (L.op rfl rfl (O.extract rfl rfl (L.op rfl rfl (O.alloc Tryz.zeroValue25 (fun b3 w3 hb3 hz3 he3 hB3 => ?_))))))))
    refine L.op rfl rfl (O.alloc Tryz.zeroValue97 (fun b4 w4 hb4 hz4 he4 hB4 => ?_))
    have hA4 : Blk w4 b3 [wordV 0] 25 := hB3.ext he4
    have hC4 : Blk w4 b4 [.nilIface] 97 := hB4
    refine L.op rfl rfl (O.store1 Tryz.sizeOf25 rfl rfl rfl hA4 (by simp) (fun w5 hu5 hB5 => ?_))
    have hu5 : Upd b3 _ _ := hu5
    have hA5 : Blk w5 b3 [wordV n] 25 := hB5
    refine L.op rfl rfl (O.store1 Tryz.sizeOf97 rfl rfl rfl (hC4.upd hu5 (by omega)) (by simp) (fun w6 hu6 hB6 => ?_))
    have hu6 : Upd b4 _ _ := hu6
    have hC6 : Blk w6 b4 [.nilIface] 97 := hB6
    have hA6 := hA5.upd hu6 (by omega)
    have he06 : Ext w w6 := ((((he1.trans he3).trans he4).upd hu5 (.inr (by have := he1.size; omega))).upd hu6 (.inr (by have := he1.size; omega)))
    refine L.nil (T.seq (T.region (L.op rfl rfl (O.move rfl (L.op rfl rfl (O.makeFunc (fi := []) (ca := [.tmp 4, .tmp 3]) rfl rfl (L.callPan (xs := [.tmp 10, .tmp 11]) rfl Tryz.call131 rfl rfl (needStr_no s 132 #[.pointer (some ⟨b4, 0, none⟩), .pointer (some ⟨b3, 0, none⟩)] w6 Tryz.call132 (by have h := unhex1_nil s b4 b3 n w6 hC6 hA6 hn (hL.ext he06); rw [decide_eq_false (hs n hn)] at h; exact h)) (fun w' a hR ha => ⟨ha.defers, rfl, he06.trans hR⟩))))))))

end Go.Proofs.YtmnihgcffdmodaaGreatDoor
