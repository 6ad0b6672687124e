/-
  HistoryRules returns true for every input, and each argument reads behind the call as it read before. Conditions: the listed variables read as the program's text lays them (tied by the card).
-/
import Derived.Test.YtmnihgcffdmodaaGreatDoorQh
import Derived.Test.YtmnihgcffdmodaaGreatDoorCards
set_option linter.unusedVariables false
set_option linter.unusedSimpArgs false
set_option maxRecDepth 20000
namespace Go.Proofs.YtmnihgcffdmodaaGreatDoor
open Go Go.E RowKit
attribute [local irreducible] Go.E.T Go.E.L Go.E.O Go.E.Ob

attribute [local irreducible] Go.E.ObX Go.E.ObK Go.E.ObKP
/-- A new variable that holds an entry. -/
def EnB (base : Nat) (v : Value) (w : World) : Prop := ∃ (b : Nat) (c : En), v = .pointer (some ⟨b, 0, none⟩) ∧ base ≤ b ∧ Blk w b c.cells 42
theorem EnB.lt {base : Nat} {v : Value} {w : World} (h : EnB base v w) : ∀ b, ptrBlk v = some b → b < w.heap.size := fun b hb => by
  obtain ⟨b', c, rfl, _, hB⟩ := h
  cases hb
  exact hB.lt
structure RelD (base : Nat) (a : En) (w w' : World) : Prop where
  own : ∀ (b : Nat) (c : En), base ≤ b → Blk w b c.cells 42 → ∃ c' : En, Blk w' b c'.cells 42 ∧ (c = a → c' = a)
theorem RelD.of_ext {base : Nat} {a : En} {w w' : World} (h : Ext w w') : RelD base a w w' := ⟨fun b c _ hB => ⟨c, hB.ext h, id⟩⟩
theorem RelD.upd {base : Nat} {a : En} {b : Nat} {w w' : World} (hu : Upd b w w') (hB : Blk w' b a.cells 42) : RelD base a w w' := ⟨fun b' c _ hB' => by
  by_cases e : b' = b
  · subst e; exact ⟨a, hB, fun _ => rfl⟩
  · exact ⟨c, hB'.upd hu e, id⟩⟩
theorem EnB.st {base : Nat} {a : En} : ∀ v w w', RelD base a w w' → EnB base v w → EnB base v w' := fun v w w' h ⟨b, c, h1, h2, h3⟩ => by
  obtain ⟨c', k1, _⟩ := h.own b c h2 h3
  exact ⟨b, c', h1, h2, k1⟩
def sNew : Str := [110, 101, 119]
def xSub (nm it : Str) : En := ⟨1, nm, it, 0, [], []⟩
def xClo (nm : Str) : En := ⟨4, nm, [], 0, [], []⟩
def xRev (nm it : Str) : En := ⟨2, nm, it, 0, [], []⟩
def xWit (nm it : Str) : En := ⟨3, nm, it, 0, [], []⟩
def xOpe (nm it : Str) : En := ⟨5, nm, it, 0, sPlan, sN⟩
theorem ref_dec {rs : List R4} {x : En} (hr : rightE x = true) : decide ((appR (draftE rs false) x).2 = 8) = (stepE (draftS rs) x).isNone := by
  have hl := draft_len rs false
  rw [appR, draft_replay, if_pos rfl, if_neg (by omega), if_pos hr]
  cases stepE (draftS rs) x <;> rfl
theorem find_at {its : List It} (hn : (its.map (·.nm)).Nodup) {j : Nat} (hj : j < its.length) : findK its (its.getD j i0).nm = j := by
  refine findK_eq hj rfl fun k hk e => ?_
  have hk' : k < its.length := by omega
  have h1 : (its.map (·.nm))[k]? = (its.map (·.nm))[j]? := by
    rw [List.getElem?_map, List.getElem?_map, List.getElem?_eq_getElem hk', List.getElem?_eq_getElem hj]
    simp only [Option.map_some, Option.some.injEq]
    rw [← getD_get (d := i0) hk', ← getD_get (d := i0) hj]; exact e
  have := (List.getElem?_inj (by rw [List.length_map]; exact hk') hn).1 h1
  omega
theorem new_not {s : St} (hs : DrS s) : ¬ findK s.its sNew < s.its.length := fun h => by
  have h1 := findK_at h
  have h2 := hs.nm (s.its.getD (findK s.its sNew) i0) (by rw [getD_get h]; exact List.getElem_mem h)
  rw [h1] at h2
  revert h2; decide
theorem st_new {s : St} {nm : Str} (hs : DrS s) : (stepE s (xSub nm sNew)).isNone = s.cl := by
  have hn := new_not hs
  unfold stepE
  have k4 : ¬ (xSub nm sNew).k = 4 := by simp [xSub]
  have k1 : (xSub nm sNew).k = 1 := rfl
  rw [if_neg k4, if_pos k1]
  have e : (xSub nm sNew).item = sNew := rfl
  cases hc : s.cl <;> simp [hn, e]
theorem st_clo {s : St} {nm : Str} : (stepE s (xClo nm)).isNone = s.cl := by
  unfold stepE
  have k4 : (xClo nm).k = 4 := rfl
  rw [if_pos k4]
  cases hc : s.cl <;> simp
theorem st_sub {s : St} {nm : Str} {j : Nat} (hs : DrS s) (hj : j < s.its.length) : (stepE s (xSub nm (s.its.getD j i0).nm)).isNone = true := by
  have hf := find_at hs.nodup hj
  unfold stepE
  have k4 : ¬ (xSub nm (s.its.getD j i0).nm).k = 4 := by simp [xSub]
  have k1 : (xSub nm (s.its.getD j i0).nm).k = 1 := rfl
  rw [if_neg k4, if_pos k1, if_pos (.inr (by show findK s.its (s.its.getD j i0).nm < _; rw [hf]; exact hj))]
  rfl
theorem step_at {s : St} {x : En} {y : It} {j q : Nat} (h4 : ¬ x.k = 4) (h1 : ¬ x.k = 1) (hs : DrS s) (hj : j < s.its.length) (hy : y = s.its.getD j i0) (hi : x.item = y.nm) (hq : q = sealN x.con x.non) : stepE s x = (if ¬ y.ow = x.who ∨ y.wd = true then none
    else if x.k = 2 then (if s.cl = true then none else some { s with its := s.its.set j { y with ver := wrap64 (y.ver + 1), sl := x.sl } })
    else if x.k = 3 then (if y.op = true then none else some { s with its := s.its.set j { y with wd := true } })
    else if ¬ s.cl = true ∨ y.op = true ∨ ¬ y.sl = q then none
    else some { s with its := s.its.set j { y with op := true, con := x.con } }) := by
  have hf : findK s.its x.item = j := by rw [hi, hy]; exact find_at hs.nodup hj
  rw [step_item h4 h1 (by rw [hf]; exact hj), hf, ← hy, hq]
theorem st_rev {s : St} {nm : Str} {j : Nat} (hs : DrS s) (hj : j < s.its.length) : (stepE s (xRev nm (s.its.getD j i0).nm)).isNone = (s.cl || (!decide ((s.its.getD j i0).ow = nm) || (s.its.getD j i0).wd)) := by
  obtain ⟨y, hy⟩ : ∃ y, y = s.its.getD j i0 := ⟨_, rfl⟩
  rw [← hy, step_at (x := xRev nm y.nm) (by simp [xRev]) (by simp [xRev]) hs hj hy rfl rfl]
  simp only [xRev]
  by_cases ho : y.ow = nm <;> cases hw : y.wd <;> cases hc : s.cl <;> simp [ho]
theorem st_wit {s : St} {nm : Str} {j : Nat} (hs : DrS s) (hj : j < s.its.length) : (stepE s (xWit nm (s.its.getD j i0).nm)).isNone = ((!decide ((s.its.getD j i0).ow = nm) || (s.its.getD j i0).wd) || (s.its.getD j i0).op) := by
  obtain ⟨y, hy⟩ : ∃ y, y = s.its.getD j i0 := ⟨_, rfl⟩
  rw [← hy, step_at (x := xWit nm y.nm) (by simp [xWit]) (by simp [xWit]) hs hj hy rfl rfl]
  simp only [xWit]
  by_cases ho : y.ow = nm <;> cases hw : y.wd <;> cases hc : y.op <;> simp [ho]
theorem st_ope {s : St} {nm : Str} {j : Nat} (hs : DrS s) (hj : j < s.its.length) : (stepE s (xOpe nm (s.its.getD j i0).nm)).isNone = (!s.cl || (!decide ((s.its.getD j i0).ow = nm) || ((s.its.getD j i0).wd || ((s.its.getD j i0).op || !decide ((s.its.getD j i0).sl = sealN sPlan sN))))) := by
  obtain ⟨y, hy⟩ : ∃ y, y = s.its.getD j i0 := ⟨_, rfl⟩
  obtain ⟨q, hq⟩ : ∃ q, q = sealN sPlan sN := ⟨_, rfl⟩
  rw [← hy, ← hq, step_at (x := xOpe nm y.nm) (by simp [xOpe]) (by simp [xOpe]) hs hj hy rfl hq]
  simp only [xOpe]
  clear hq
  by_cases ho : y.ow = nm <;> cases hw : y.wd <;> cases hc : s.cl <;> cases hp : y.op <;> by_cases he : y.sl = q <;> simp [ho, he]
theorem names3 (k : Nat) (h : k < 3) : ∃ s : Str, #[str sAnn, str sBob, str sZoe][(k : Int).toNat]? = some (str s) ∧ nameB s = true ∧ s.length ≤ 12 := by
  rcases (show k = 0 ∨ k = 1 ∨ k = 2 by omega) with rfl | rfl | rfl
  · exact ⟨sAnn, rfl, by decide, by decide⟩
  · exact ⟨sBob, rfl, by decide, by decide⟩
  · exact ⟨sZoe, rfl, by decide, by decide⟩
theorem items_name {n : Str} (h : n ∈ itemsL) : nameB n = true := by
  simp only [itemsL, List.mem_cons, List.mem_nil_iff, or_false] at h
  rcases h with rfl | rfl | rfl <;> decide
theorem r_sub {nm it : Str} (h1 : nameB nm = true) (h2 : nameB it = true) : rightE (xSub nm it) = true := by simp [rightE, xSub, h1, h2]
theorem r_rev {nm it : Str} (h1 : nameB nm = true) (h2 : nameB it = true) : rightE (xRev nm it) = true := by simp [rightE, xRev, h1, h2]
theorem r_wit {nm it : Str} (h1 : nameB nm = true) (h2 : nameB it = true) : rightE (xWit nm it) = true := by simp [rightE, xWit, h1, h2]
theorem r_clo {nm : Str} (h1 : nameB nm = true) : rightE (xClo nm) = true := by simp [rightE, xClo, h1]
theorem r_ope {nm it : Str} (h1 : nameB nm = true) (h2 : nameB it = true) : rightE (xOpe nm it) = true := by
  have h3 : madeB plainI 0 200 sPlan = true := by decide
  have h4 : madeB plainI 1 40 sN = true := by decide
  simp [rightE, xOpe, h1, h2, h3, h4]
theorem o_any {k : Int} {nm it c n : Str} (h1 : nm.length ≤ 12) (h2 : it.length ≤ 12) (h3 : c.length ≤ 12) (h4 : n.length ≤ 12) : (⟨k, nm, it, 0, c, n⟩ : En).ok := ⟨by show nm.length ≤ _; omega, by show it.length ≤ _; omega, by show 0 < _; decide, by show c.length ≤ _; omega, by show n.length ≤ _; omega⟩
theorem refused_calls (b7 : Nat) (pv : Value) (xs : List En) (x : En) (w : World) (h7 : Blk w b7 [pv] 27) (hI : Ens 0 w pv xs) (hok : AllOk xs) (hxo : x.ok) (hL : LibM w) :
    Calls Tryz.prog 16 #[x.val, .pointer (some ⟨b7, 0, none⟩)] w (Ret fun v w' => v = .bool (decide ((appR xs x).2 = 8)) ∧ Ext w w') := by
  refine T.enter (vs := [x.val, .pointer (some ⟨b7, 0, none⟩)]) Tryz.func16 rfl Tryz.ntmps16 rfl ?_
  refine T.seq (T.region (L.op rfl rfl (O.box rfl (fun b2 w2 hb2 hz2 he2 hB2 => ?_))))
  refine L.op rfl rfl (O.assign rfl (L.nil (T.seq (T.region (L.op rfl rfl (O.load Tryz.isAgg27 rfl ((h7.ext he2).cell rfl) (L.op rfl rfl (O.loadAgg Tryz.isAgg42 Tryz.sizeOf42 rfl rfl (Blk.row (cs := x.cells) hB2) (L.op rfl rfl (O.call (xs := [.tmp 7, .tmp 8]) Tryz.call17 rfl rfl (Append_calls 0 pv xs x w2 (hI.ext he2) hok hxo (hL.ext he2)) (fun v9 w9 hq => ?_)))))))))))
  obtain ⟨q, rfl, _, he9⟩ := hq
  refine L.op rfl rfl (O.move rfl (L.op rfl rfl (O.extract rfl rfl (L.op rfl rfl (O.extract rfl rfl (L.op rfl rfl (O.assign rfl (L.op rfl rfl (O.assign rfl (L.nil (T.seq (T.region (L.op rfl rfl (O.move rfl (L.op rfl rfl (O.eql rfl rfl (L.op rfl rfl (O.assign rfl (L.nil (T.ret1 Tryz.results16 rfl ⟨rfl, he2.trans he9⟩))))))))))))))))))))

set_option maxHeartbeats 8000000 in
theorem HistoryRules_calls (lo cd : Nat) (ad : Option Addr) (fd : Bool) (rs : List R4) (who : Nat) (con : Str) (w : World) (hL : LibM w) (hd : Rws lo w (.slice ad rs.length cd) rs) (hw8 : who < 256) :
    Calls Tryz.prog 4 #[.agg #[.slice ad rs.length cd, .bool fd], .int .u8 who, str con] w (Ret fun v w' => v = .bool true ∧ Ext w w') := by
  refine T.enter (vs := [.agg #[.slice ad rs.length cd, .bool fd], .int .u8 who, str con]) Tryz.func4 rfl Tryz.ntmps4 rfl ?_
  refine T.seq (T.region (L.op rfl rfl (O.box rfl (fun b3 w3 hb3 hz3 he3 hB3 => ?_))))
  have hA3 : Blk w3 b3 [.slice ad rs.length cd, .bool fd] 24 := hB3
  refine L.op rfl rfl (O.assign rfl (L.nil (T.seq (T.seq (T.region (L.op rfl rfl (O.call (xs := []) Tryz.call10 rfl rfl (wakes_calls w3 (hL.ext he3)) (fun v18 w18 hq => ?_))))))))
  obtain ⟨rfl, he18⟩ := hq
  refine L.op rfl rfl (O.not rfl (L.nil (T.cond_false rfl (T.skip (T.seq (T.region (L.op rfl rfl (O.fieldAddr Tryz.runUnderlying24 rfl Tryz.sizeOf4 rfl (L.op rfl rfl (O.store1 Tryz.sizeOf4 rfl rfl rfl (hA3.ext he18) (by simp) (fun w25 hu25 hB25 => ?_)))))))))))
  have hu25 : Upd b3 _ _ := hu25
  have hA25 : Blk w25 b3 [.slice ad rs.length cd, .bool false] 24 := hB25
  have he025 : Ext w w25 := (he3.trans he18).upd hu25 (.inr (by omega))
  refine L.nil (T.seq (T.region (L.op rfl rfl (O.loadAgg Tryz.isAgg24 Tryz.sizeOf24 rfl rfl hA25.row (L.op rfl rfl (O.call (xs := [.tmp 22]) Tryz.call11 rfl rfl (Entries_calls lo cd ad false rs w25 (hd.ext he025)) (fun v22 w22 hq => ?_)))))))
  obtain ⟨hO22, he22⟩ := hq
  have hok := draft_ok rs false
  have hlen := draft_len rs false
  have hrp := draft_replay rs
  have hst := draft_st rs
  have hrd : ∀ x, rightE x = true → decide ((appR (draftE rs false) x).2 = 8) = (stepE (draftS rs) x).isNone := fun x h => ref_dec h
  have hI22 : Ens 0 w22 v22 (draftE rs false) := Sl.mono (Sl.of_owns hO22) (Nat.zero_le _)
  obtain ⟨xs, hxs⟩ : ∃ h, h = draftE rs false := ⟨_, rfl⟩
  obtain ⟨s, hs⟩ : ∃ s, s = draftS rs := ⟨_, rfl⟩
  have hrl := (replay_len xs).1
  rw [← hxs] at hok hlen hrp hrd hI22
  rw [← hs] at hrp hst hrd
  rw [hrp] at hrl
  have hsl : s.its.length ≤ 60 := hrl
  obtain ⟨oh, caph, rfl, _⟩ := Sl.val hI22
  have he022 := he025.trans he22
  refine L.op rfl rfl (O.alloc Tryz.zeroValue27 (fun b7 w7 hb7 hz7 he7 hB7 => ?_))
  refine L.op rfl rfl (O.store1 Tryz.sizeOf27 rfl rfl rfl hB7 (by decide) (fun w8 hu8 hB8 => ?_))
  have hu8 : Upd b7 _ _ := hu8
  have hH8 : Blk w8 b7 [.slice oh xs.length caph] 27 := hB8
  have he228 : Ext w22 w8 := he7.upd hu8 (.inr (by omega))
  have he08 := he022.trans he228
  have hI8 := hI22.ext he228
  refine L.nil (T.seq (T.region (L.op rfl rfl (O.load Tryz.isAgg27 rfl (hH8.cell rfl) (L.op rfl rfl (O.call (xs := [.tmp 25]) Tryz.call12 rfl rfl (Replay_calls 0 _ xs w8 hI8 hok (hL.ext he08)) (fun v34 w34 hq => ?_)))))))
  obtain ⟨pv, hv34, hJ34, he34⟩ := hq
  rw [hrp] at hv34 hJ34
  subst hv34
  have hJ34' : Its 0 w34 pv s.its := hJ34
  refine L.op rfl rfl (O.move rfl (L.op rfl rfl (O.extract rfl rfl (L.op rfl rfl (O.extract rfl rfl (L.op rfl rfl (O.extract rfl rfl (L.op rfl rfl (O.alloc Tryz.zeroValue32 (fun b9 w9 hb9 hz9 he9 hB9 => ?_))))))))))
  refine L.op rfl rfl (O.storeAgg Tryz.sizeOf32 rfl rfl rfl hB9 (Nat.le_refl _) (stCells_one s (Sl.one hJ34')) (fun w10 hu10 hB10 => ?_))
  have hu10 : Upd b9 _ _ := hu10
  have hS10 : Blk w10 b9 (stCells pv s) 32 := hB10
  have he3410 : Ext w34 w10 := he9.upd hu10 (.inr (by omega))
  have he810 := he34.trans he3410
  have he010 := he08.trans he810
  have hJ10 : Its 0 w10 pv s.its := Its.ext hJ34' he3410
  have hH10 := hH8.ext he810
  have hI10 := hI8.ext he810
  refine L.op rfl rfl (O.assign rfl (L.op rfl rfl (O.assign rfl (L.nil (T.seq (T.seq (T.region (L.op rfl rfl (O.move rfl (L.op rfl rfl (O.neq_f rfl rfl rfl (L.nil (T.cond_false rfl (T.skip (T.seq (T.region (L.op rfl rfl (O.build (v := .agg #[str sAnn, str sBob, str sZoe]) (parts := [(0, _), (1, _), (2, _)]) (vs := [(0, _), (1, _), (2, _)]) rfl (fun w => by kernel_rfl) (L.op rfl rfl (O.move rfl (L.op rfl rfl (O.rem rfl rfl (by omega) (by omega) (?_)))))))))))))))))))))))
  obtain ⟨nm, hnm, hnb, hnl⟩ := names3 (who % 3) (by omega)
  rw [show ((who : Int) % 3) = ((who % 3 : Nat) : Int) by omega]
  refine L.op rfl rfl (O.index_arr Tryz.runUnderlying45 Tryz.isAgg9 Tryz.sizeOf9 rfl rfl (by omega) (by omega) hnm (L.op rfl rfl (O.assign rfl (L.nil (T.seq (T.region (L.op rfl rfl (O.makeFunc (fi := []) (ca := [.tmp 7]) rfl rfl (L.op rfl rfl (O.assign rfl (L.nil (T.seq (T.seq (T.region (L.op rfl rfl (O.load Tryz.isAgg27 rfl (hH10.cell rfl) (L.op rfl rfl (O.len Tryz.runUnderlying27 rfl (Sl.val hI10) (L.op rfl rfl (O.geq_f rfl rfl (by (try dsimp only); omega) (?_)))))))))))))))))))))
  obtain ⟨op, capp, rfl, _⟩ := Sl.val hJ10
  have hL10 := hL.ext he010
  have hnn : nameB sNew = true := by decide
  have e1 := (hrd _ (r_sub hnb hnn)).trans (st_new hst)
  have e4 := (hrd _ (r_clo hnb)).trans st_clo
  have o1 : (xSub nm sNew).ok := o_any hnl (by decide) (by decide) (by decide)
  have o4 : (xClo nm).ok := o_any hnl (by decide) (by decide) (by decide)
  rcases hcl : s.cl with _ | _
  · refine L.nil (?_)
    rw [hcl] at e1 e4
    refine T.cond_false rfl (T.skip (T.seq (T.seq (T.region (L.op rfl rfl (O.fieldAddr Tryz.runUnderlying32 rfl Tryz.sizeOf4 rfl (L.op rfl rfl (O.load Tryz.isAgg4 rfl ((hS10).cell (v := .bool false) (by simp [stCells, hcl])) (L.op rfl rfl (O.move rfl (L.pass rfl rfl (L.pass rfl rfl (L.pass rfl rfl (L.pass rfl rfl (L.pass rfl rfl (L.pass rfl rfl (L.pass rfl rfl (L.pass rfl rfl (L.pass rfl rfl (L.pass rfl rfl (L.pass rfl rfl (L.pass rfl rfl (L.op rfl rfl (O.pick_false rfl rfl (L.nil (T.cond_false rfl (T.skip (?_))))))))))))))))))))))))))))
    refine T.seq (T.seq (T.region (L.op rfl rfl (O.fieldAddr Tryz.runUnderlying32 rfl Tryz.sizeOf4 rfl (L.op rfl rfl (O.load Tryz.isAgg4 rfl ((hS10).cell (v := .bool false) (by simp [stCells, hcl])) (L.op rfl rfl (O.not rfl (L.op rfl rfl (O.move rfl (L.op rfl rfl (O.move rfl (L.op rfl rfl (O.move rfl (L.op rfl rfl (O.build (v := (xSub nm sNew).val) (parts := [(0, .const (.int .i64 1)), (1, .tmp 61), (2, _)]) (vs := [(0, _), (1, _), (2, _)]) rfl (fun w => by kernel_rfl) (L.op rfl rfl (O.call (xs := [.tmp 62]) Tryz.call16 rfl rfl (refused_calls b7 (.slice oh xs.length caph) xs (xSub nm sNew) w10 hH10 hI10 hok o1 hL10) (fun v46 w46 hq => ?_)))))))))))))))))))
    obtain ⟨hv46, he46⟩ := hq
    rw [e1] at hv46
    subst hv46
    have he1020 := he46
    have hJ20 := Its.ext hJ10 he1020
    refine L.op rfl rfl (O.pick_true rfl rfl (L.nil (T.cond_false rfl (T.skip (T.seq (T.seq (T.region (L.op rfl rfl (O.fieldAddr Tryz.runUnderlying32 rfl Tryz.sizeOf30 rfl (L.op rfl rfl (O.load Tryz.isAgg30 rfl ((hS10.ext he1020).cell rfl) (L.op rfl rfl (O.len Tryz.runUnderlying30 rfl (Sl.val hJ20) (L.op rfl rfl (O.move rfl (L.nil (T.block (?_))))))))))))))))))
    refine T.loop (σ := Nat) (fun j => [(7, .pointer (some ⟨b7, 0, none⟩)), (8, .pointer (some ⟨b9, 0, none⟩)), (11, str nm), (12, .func (.func 16) #[] #[.pointer (some ⟨b7, 0, none⟩)]), (66, .slice op s.its.length capp), (67, .int .i64 s.its.length), (68, .int .i64 j)]) (fun j w' => j ≤ s.its.length ∧ Ext w10 w') (fun j => s.its.length - j) (0) ⟨rfl, rfl, rfl, rfl, rfl, rfl, rfl, trivial⟩ ⟨Nat.zero_le _, he1020⟩ ?_
    rintro j w50 ⟨hj, he50⟩
    have he050 := he010.trans he50
    refine T.seq (T.region (L.op rfl rfl (O.lss_s rfl rfl (fun hlt => ?_) (fun hlt => ?_))))
    · refine L.nil (?_)
      have hjl : j < s.its.length := by omega
      have hJ50 := Its.ext hJ10 he50
      obtain ⟨x, hx⟩ : ∃ x, x = s.its.getD j i0 := ⟨_, rfl⟩
      have hxm : x ∈ s.its := by rw [hx, getD_get hjl]; exact List.getElem_mem hjl
      have hxn := items_name (hst.nm x hxm)
      have hxl := name_len hxn
      have q2 := st_rev (nm := nm) hst hjl
      have q3 := st_wit (nm := nm) hst hjl
      have q1 := st_sub (nm := nm) hst hjl
      have q5 := st_ope (nm := nm) hst hjl
      rw [← hx] at q1 q2 q3 q5
      have f2 := (hrd _ (r_rev hnb hxn)).trans q2
      have f3 := (hrd _ (r_wit hnb hxn)).trans q3
      have f1 := (hrd _ (r_sub hnb hxn)).trans q1
      have f5 := (hrd _ (r_ope hnb hxn)).trans q5
      rw [hcl] at f2 f5
      have o2 : (xRev nm x.nm).ok := o_any hnl hxl (by decide) (by decide)
      have o3 : (xWit nm x.nm).ok := o_any hnl hxl (by decide) (by decide)
      have o5 : (xOpe nm x.nm).ok := o_any hnl hxl (by decide) (by decide)
      have o6 : (xSub nm x.nm).ok := o_any hnl hxl (by decide) (by decide)
      refine T.seq (T.cond_true rfl (T.skip (T.seq (T.block (T.seq (T.region (L.op rfl rfl (O.indexAddr Tryz.runUnderlying30 Tryz.sizeOf39 rfl rfl hJ50 (by (try dsimp only); omega) (by (try dsimp only); omega) (L.op rfl rfl (O.loadAgg Tryz.isAgg39 Tryz.sizeOf39 rfl rfl (hJ50.row hjl) (?_)))))))))))
      rw [← hx]
      refine L.op rfl rfl (O.alloc Tryz.zeroValue39 (fun b14 w14 hb14 hz14 he14 hB14 => ?_))
      refine L.op rfl rfl (O.storeAgg Tryz.sizeOf39 rfl rfl rfl hB14 (Nat.le_refl _) (It.one _) (fun w15 hu15 hB15 => ?_))
      have hu15 : Upd b14 _ _ := hu15
      have hX15 : Blk w15 b14 x.cells 39 := hB15
      have he5015 : Ext w50 w15 := he14.upd hu15 (.inr (by omega))
      refine L.nil (T.seq (?_))
      refine T.anyF2 mixed 11 1 [11, 14] rfl [.is _, .is _, .is _, .is _, .is _, .is _, .is _, .is _, .such (EnB w15.heap.size), .such (EnB w15.heap.size), .is undef] [[], [], [1], [0, 2], [], [], [5], [4, 6], [], [], [8, 3]] [none, none, none, none, none, none, none, none, none, none, some 0] [[], [], [1], [0, 1, 2], [], [], [5], [4, 5, 6], [], [], [0, 1, 2, 3, 8, 9], [0, 1, 2, 3, 4, 5, 6, 7, 8, 9, 10]] [8, 9] [(10, 8, 15)] (fun _ _ u _ W => ∃ b, u = .pointer (some ⟨b, 0, none⟩) ∧ w15.heap.size ≤ b ∧ Blk W b (xRev nm x.nm).cells 42) (fun _ W => Ext w15 W) (RelD w15.heap.size (xRev nm x.nm)) (fun i f v w hi hf hh => by { rcases (show i = 8 ∨ i = 9 by simpa using hi) with rfl | rfl <;> (simp only [List.getElem?_cons_succ, List.getElem?_cons_zero, Option.some.injEq] at hf; subst hf; exact EnB.lt hh) }) (fun i j vi vj W W' hr ⟨b, h1, h2, h3⟩ => (hr.own b _ h2 h3).elim fun c' k => ⟨b, h1, h2, (k.2 rfl) ▸ k.1⟩) (by kernel_rfl) (by kernel_rfl) (by kernel_rfl) (by kernel_rfl) rfl ⟨EnB.st, EnB.st, trivial⟩ (Keep.drew _ _) ⟨fun c wx hx => ObX.op rfl (O.move rfl ⟨⟨RelD.of_ext (Keep.refl _ _), hx⟩, rfl, trivial, trivial⟩),
          fun c wx hx => ObX.op rfl (O.fieldAddr Tryz.runUnderlying39 rfl Tryz.sizeOf9 rfl ⟨⟨RelD.of_ext (Keep.refl _ _), hx⟩, rfl, trivial, trivial⟩),
          fun c wx hx => ObX.op rfl (O.load Tryz.isAgg9 rfl ((hX15.ext hx).cell rfl) ⟨⟨RelD.of_ext (Keep.refl _ _), hx⟩, rfl, trivial, trivial⟩),
          fun c wx hx => ObX.op rfl (O.build (v := (xRev nm x.nm).val) (parts := [(0, .const (.int .i64 2)), (1, .tmp 72), (2, .tmp 74)]) (vs := [(0, _), (1, _), (2, _)]) rfl (fun w => by kernel_rfl) ⟨⟨RelD.of_ext (Keep.refl _ _), hx⟩, rfl, trivial, trivial⟩),
          fun c wx hx => ObX.op rfl (O.move rfl ⟨⟨RelD.of_ext (Keep.refl _ _), hx⟩, rfl, trivial, trivial⟩),
          fun c wx hx => ObX.op rfl (O.fieldAddr Tryz.runUnderlying39 rfl Tryz.sizeOf9 rfl ⟨⟨RelD.of_ext (Keep.refl _ _), hx⟩, rfl, trivial, trivial⟩),
          fun c wx hx => ObX.op rfl (O.load Tryz.isAgg9 rfl ((hX15.ext hx).cell rfl) ⟨⟨RelD.of_ext (Keep.refl _ _), hx⟩, rfl, trivial, trivial⟩),
          fun c wx hx => ObX.op rfl (O.build (v := (xWit nm x.nm).val) (parts := [(0, .const (.int .i64 3)), (1, .tmp 76), (2, .tmp 78)]) (vs := [(0, _), (1, _), (2, _)]) rfl (fun w => by kernel_rfl) ⟨⟨RelD.of_ext (Keep.refl _ _), hx⟩, rfl, trivial, trivial⟩),
          fun c wx hx => ObX.op rfl (O.alloc Tryz.zeroValue42 (fun b wy hb hz he hB => and3 ⟨⟨RelD.of_ext he, hx.trans he⟩, b, e0, rfl, by have := hx.size; omega, hB⟩ ⟨fun q hq => by { cases hq; exact Nat.le_of_eq hb.symm }, trivial⟩)),
          fun c wx hx => ObX.op rfl (O.alloc Tryz.zeroValue42 (fun b wy hb hz he hB => and3 ⟨⟨RelD.of_ext he, hx.trans he⟩, b, e0, rfl, by have := hx.size; omega, hB⟩ ⟨fun q hq => by { cases hq; exact Nat.le_of_eq hb.symm }, trivial⟩)),
          fun wx hx v15 hv15 => by { obtain ⟨b5, c5, rfl, hb5, hB5⟩ := hv15; exact ObX.op rfl (O.storeAgg Tryz.sizeOf42 rfl rfl rfl hB5 (Nat.le_refl _) (En.one (xRev nm x.nm)) (fun w16 hu16 hB16 => and3 ⟨⟨RelD.upd hu16 (show Blk w16 b5 (xRev nm x.nm).cells _ from hB16), hx.upd hu16 (.inr hb5)⟩, rfl⟩ ⟨trivial, fun u hu => by { cases hu; exact ⟨b5, rfl, hb5, hB16⟩ }⟩)) },
          trivial⟩ (fun w19 hI19 v15 hv15 v16 hv16 hp19 => ?_)
      obtain ⟨vj, hvj, hfr, _⟩ := hp19 8 9 _ _ _ _ (by decide) (by decide) rfl rfl rfl rfl
      obtain rfl := hvj _ _ rfl rfl
      obtain ⟨_, _, _, hlk⟩ := hp19 8 10 _ _ _ _ (by decide) (by decide) rfl rfl rfl rfl
      obtain ⟨b5, rfl, hb5, hB5⟩ := hlk rfl
      obtain ⟨b6, c6, rfl, hb6, hB6⟩ := hv16
      have hne : b5 ≠ b6 := fun e => hfr b5 rfl (by rw [e]; rfl)
      refine L.op rfl rfl (O.storeAgg Tryz.sizeOf42 rfl rfl rfl hB6 (Nat.le_refl _) (En.one (xWit nm x.nm)) (fun w17 hu17 hB17 => ?_))
      have hu17 : Upd b6 _ _ := hu17
      have hR17 : Blk w17 b5 (xRev nm x.nm).cells 42 := Blk.upd (cs := (xRev nm x.nm).cells) hB5 hu17 hne
      have hW17 : Blk w17 b6 (xWit nm x.nm).cells 42 := hB17
      have he1517 : Ext w15 w17 := hI19.upd hu17 (.inr hb6)
      have hX17 := hX15.ext he1517
      have he1017 := (he50.trans he5015).trans he1517
      have he017 := he010.trans he1017
      have hL17 := hL.ext he017
      have hH17 := hH10.ext he1017
      have hE17 := hI10.ext he1017
      have hS17 := hS10.ext he1017
      rcases hwd : x.wd with _ | _
      · refine L.nil (?_)
        rcases hop : x.op with _ | _
        · by_cases how : x.ow = nm
          · refine T.seq (T.region (L.op rfl rfl (O.fieldAddr Tryz.runUnderlying39 rfl Tryz.sizeOf9 rfl (L.op rfl rfl (O.load Tryz.isAgg9 rfl (hX17.cell rfl) (L.op rfl rfl (O.move rfl (L.op rfl rfl (O.eql_str_t Tryz.runUnderlying9 rfl rfl how (?_))))))))))
            have g2 : decide ((appR xs (xRev nm x.nm)).2 = 8) = false := by rw [f2, hwd, decide_eq_true how]; rfl
            have g3 : decide ((appR xs (xWit nm x.nm)).2 = 8) = false := by rw [f3, hwd, hop, decide_eq_true how]; rfl
            have g5 : decide ((appR xs (xOpe nm x.nm)).2 = 8) = true := by rw [f5, hwd, hop, decide_eq_true how]; first | rfl | simp
            refine L.op rfl rfl (O.assign rfl (L.nil (T.seq (T.seq (?_)))))
            refine T.anyE mixed 20 [12, 15, 8, 17, 14, 16] rfl [.is _, .is _, .is (.bool false), .is _, .is _, .is _, .is _, .is _, .is _, .is _, .is _, .is _, .is _, .is _, .is _, .is _, .is _, .is (.bool false), .is _, .is _] [[], [], [0, 1], [], [3], [4], [5], [6, 5], [5, 7], [8], [9], [10, 9], [9, 11], [2, 12], [13], [14], [14], [15, 16, 14], [14], [18, 14]] [[], [], [0, 1], [], [3], [0, 1, 2, 3, 4], [0, 1, 2, 3, 4, 5], [0, 1, 2, 3, 4, 5, 6], [0, 1, 2, 3, 4, 5, 6, 7], [0, 1, 2, 3, 4, 5, 6, 7, 8], [0, 1, 2, 3, 4, 5, 6, 7, 8, 9], [0, 1, 2, 3, 4, 5, 6, 7, 8, 9, 10], [0, 1, 2, 3, 4, 5, 6, 7, 8, 9, 10, 11], [0, 1, 2, 3, 4, 5, 6, 7, 8, 9, 10, 11, 12], [0, 1, 2, 3, 4, 5, 6, 7, 8, 9, 10, 11, 12, 13], [0, 1, 2, 3, 4, 5, 6, 7, 8, 9, 10, 11, 12, 13, 14], [0, 1, 2, 3, 4, 5, 6, 7, 8, 9, 10, 11, 12, 13, 14], [0, 1, 2, 3, 4, 5, 6, 7, 8, 9, 10, 11, 12, 13, 14, 15, 16], [0, 1, 2, 3, 4, 5, 6, 7, 8, 9, 10, 11, 12, 13, 14], [0, 1, 2, 3, 4, 5, 6, 7, 8, 9, 10, 11, 12, 13, 14, 18], [0, 1, 2, 3, 4, 5, 6, 7, 8, 9, 10, 11, 12, 13, 14, 15, 16, 17, 18, 19], [0, 1, 2, 3, 4, 5, 6, 7, 8, 9, 10, 11, 12, 13, 14, 15, 16, 17, 18, 19, 20], [0, 1, 2, 3, 4, 5, 6, 7, 8, 9, 10, 11, 12, 13, 14, 15, 16, 17, 18, 19, 20, 21], [0, 1, 2, 3, 4, 5, 6, 7, 8, 9, 10, 11, 12, 13, 14, 15, 16, 17, 18, 19, 20, 21, 22], [0, 1, 2, 3, 4, 5, 6, 7, 8, 9, 10, 11, 12, 13, 14, 15, 16, 17, 18, 19, 20, 21, 22, 23], [0, 1, 2, 3, 4, 5, 6, 7, 8, 9, 10, 11, 12, 13, 14, 15, 16, 17, 18, 19, 20, 21, 22, 23, 24], [0, 1, 2, 3, 4, 5, 6, 7, 8, 9, 10, 11, 12, 13, 14, 15, 16, 17, 18, 19, 20, 21, 22, 23, 24, 25], [0, 1, 2, 3, 4, 5, 6, 7, 8, 9, 10, 11, 12, 13, 14, 15, 16, 17, 18, 19, 20, 21, 22, 23, 24, 25, 26], [0, 1, 2, 3, 4, 5, 6, 7, 8, 9, 10, 11, 12, 13, 14, 15, 16, 17, 18, 19, 20, 21, 22, 23, 24, 25, 26, 27], [0, 1, 2, 3, 4, 5, 6, 7, 8, 9, 10, 11, 12, 13, 14, 15, 16, 17, 18, 19, 20, 21, 22, 23, 24, 25, 26, 27, 28]] (by kernel_rfl) (by kernel_rfl) rfl (by kernel_rfl) trivial ⟨fun wx hx => Ob.op rfl (O.move rfl ⟨Keep.refl _ _, rfl⟩),
                fun wx hx => Ob.op rfl (O.loadAgg Tryz.isAgg42 Tryz.sizeOf42 rfl rfl ((hR17.ext hx).row) ⟨Keep.refl _ _, rfl⟩),
                fun wx hx => Ob.op rfl (O.call (xs := [.tmp 85]) Tryz.call16 rfl rfl (refused_calls b7 (.slice oh xs.length caph) xs (xRev nm x.nm) wx (hH17.ext hx) (hE17.ext hx) hok o2 (hL17.ext hx)) (fun v wy h => ⟨h.2, by rw [h.1, g2]; rfl⟩)),
                fun wx hx => Ob.op rfl (O.fieldAddr Tryz.runUnderlying32 rfl Tryz.sizeOf4 rfl ⟨Keep.refl _ _, rfl⟩),
                fun wx hx => Ob.op rfl (O.load Tryz.isAgg4 rfl ((hS17.ext hx).cell (v := .bool false) (by simp [stCells, hcl])) ⟨Keep.refl _ _, rfl⟩),
                fun wx hx => Ob.op rfl (O.move rfl ⟨Keep.refl _ _, rfl⟩),
                fun wx hx => Ob.op rfl (O.move rfl ⟨Keep.refl _ _, rfl⟩),
                fun wx hx => Ob.op rfl (O.not rfl ⟨Keep.refl _ _, rfl⟩),
                fun wx hx => Ob.op rfl (O.pick_false rfl rfl ⟨Keep.refl _ _, rfl⟩),
                fun wx hx => Ob.op rfl (O.move rfl ⟨Keep.refl _ _, rfl⟩),
                fun wx hx => Ob.op rfl (O.fieldAddr Tryz.runUnderlying39 rfl Tryz.sizeOf4 rfl ⟨Keep.refl _ _, rfl⟩),
                fun wx hx => Ob.op rfl (O.load Tryz.isAgg4 rfl ((hX17.ext hx).cell (v := .bool false) (by simp [It.cells, hwd])) ⟨Keep.refl _ _, rfl⟩),
                fun wx hx => Ob.op rfl (O.pick_false rfl rfl ⟨Keep.refl _ _, rfl⟩),
                fun wx hx => Ob.op rfl (O.neq_bool_f Tryz.runUnderlying4 rfl rfl rfl ⟨Keep.refl _ _, rfl⟩),
                fun wx hx => Ob.op rfl (O.move rfl ⟨Keep.refl _ _, rfl⟩),
                fun wx hx => Ob.op rfl (O.move rfl ⟨Keep.refl _ _, rfl⟩),
                fun wx hx => Ob.op rfl (O.loadAgg Tryz.isAgg42 Tryz.sizeOf42 rfl rfl ((hW17.ext hx).row) ⟨Keep.refl _ _, rfl⟩),
                fun wx hx => Ob.op rfl (O.call (xs := [.tmp 100]) Tryz.call16 rfl rfl (refused_calls b7 (.slice oh xs.length caph) xs (xWit nm x.nm) wx (hH17.ext hx) (hE17.ext hx) hok o3 (hL17.ext hx)) (fun v wy h => ⟨h.2, by rw [h.1, g3]; rfl⟩)),
                fun wx hx => Ob.op rfl (O.move rfl ⟨Keep.refl _ _, rfl⟩),
                fun wx hx => Ob.op rfl (O.not rfl ⟨Keep.refl _ _, rfl⟩),
                trivial⟩ (fun w21 he21 => ?_)
            refine L.op rfl rfl (O.move rfl (L.op rfl rfl (O.fieldAddr Tryz.runUnderlying39 rfl Tryz.sizeOf4 rfl (L.op rfl rfl (O.load Tryz.isAgg4 rfl ((hX17.ext he21).cell (v := .bool false) (by simp [It.cells, hwd])) (L.op rfl rfl (O.pick_false rfl rfl (L.op rfl rfl (O.move rfl (L.op rfl rfl (O.fieldAddr Tryz.runUnderlying39 rfl Tryz.sizeOf4 rfl (L.op rfl rfl (O.load Tryz.isAgg4 rfl ((hX17.ext he21).cell (v := .bool false) (by simp [It.cells, hop])) (L.op rfl rfl (O.pick_false rfl rfl (L.op rfl rfl (O.neq_bool_f Tryz.runUnderlying4 rfl rfl rfl (?_))))))))))))))))))
            have hH21 := hH17.ext he21
            have hE21 := hE17.ext he21
            have hL21 := hL17.ext he21
            have hX21 := hX17.ext he21
            have hS21 := hS17.ext he21
            refine L.op rfl rfl (O.pick_false rfl rfl (L.nil (T.cond_false rfl (T.skip (T.seq (T.seq (T.region (L.op rfl rfl (O.move rfl (L.op rfl rfl (O.move rfl (L.op rfl rfl (O.fieldAddr Tryz.runUnderlying39 rfl Tryz.sizeOf9 rfl (L.op rfl rfl (O.load Tryz.isAgg9 rfl (hX21.cell rfl) (L.op rfl rfl (O.build (v := (xSub nm x.nm).val) (parts := [(0, .const (.int .i64 1)), (1, .tmp 115), (2, .tmp 117)]) (vs := [(0, _), (1, _), (2, _)]) rfl (fun w => by kernel_rfl) (L.op rfl rfl (O.call (xs := [.tmp 118]) Tryz.call16 rfl rfl (refused_calls b7 (.slice oh xs.length caph) xs (xSub nm x.nm) w21 hH21 hE21 hok o6 hL21) (fun v119 w119 hq => ?_))))))))))))))))))))
            obtain ⟨hv119, he119⟩ := hq
            rw [f1] at hv119
            subst hv119
            refine L.op rfl rfl (O.not rfl (L.nil (T.cond_false rfl (T.skip (T.seq (T.region (L.op rfl rfl (O.move rfl (L.op rfl rfl (O.fieldAddr Tryz.runUnderlying39 rfl Tryz.sizeOf9 rfl (L.op rfl rfl (O.load Tryz.isAgg9 rfl ((hX21.ext he119).cell rfl) (L.op rfl rfl (O.build (v := (xOpe nm x.nm).val) (parts := [(0, .const (.int .i64 5)), (1, .tmp 121), (2, .tmp 123), (4, _), (5, _)]) (vs := [(0, _), (1, _), (2, _), (4, _), (5, _)]) rfl (fun w => by kernel_rfl) (L.op rfl rfl (O.alloc Tryz.zeroValue42 (fun b18 w18 hb18 hz18 he18 hB18 => ?_)))))))))))))))))
            refine L.op rfl rfl (O.storeAgg Tryz.sizeOf42 rfl rfl rfl hB18 (Nat.le_refl _) (En.one (xOpe nm x.nm)) (fun w22 hu22 hB22 => ?_))
            have hu22 : Upd b18 _ _ := hu22
            have hO22' : Blk w22 b18 (xOpe nm x.nm).cells 42 := hB22
            have he2122 := he119.trans (he18.upd hu22 (.inr (by omega)))
            have hH22 := hH21.ext he2122
            have hE22 := hE21.ext he2122
            have hL22 := hL21.ext he2122
            have hX22 := hX21.ext he2122
            have hS22 := hS21.ext he2122
            refine L.nil (T.seq (?_))
            refine T.anyE mixed 22 [12, 18, 8, 17, 14] rfl [.is _, .is _, .is (.bool true), .is _, .is _, .is _, .is _, .is undef, .is undef, .is _, .is _, .is undef, .is undef, .is _, .is _, .is undef, .is undef, .is _, .is _, .is undef, .is undef, .is undef] [[], [], [0, 1], [], [3], [4], [5], [6], [7, 6], [6, 8], [9], [10], [11, 10], [10, 12], [13], [14], [15, 14], [14, 16], [17], [18], [19, 18], [18]] [[], [], [0, 1], [], [3], [3, 4], [0, 1, 2, 3, 4, 5], [0, 1, 2, 3, 4, 5, 6], [0, 1, 2, 3, 4, 5, 6, 7], [0, 1, 2, 3, 4, 5, 6, 7, 8], [0, 1, 2, 3, 4, 5, 6, 7, 8, 9], [0, 1, 2, 3, 4, 5, 6, 7, 8, 9, 10], [0, 1, 2, 3, 4, 5, 6, 7, 8, 9, 10, 11], [0, 1, 2, 3, 4, 5, 6, 7, 8, 9, 10, 11, 12], [0, 1, 2, 3, 4, 5, 6, 7, 8, 9, 10, 11, 12, 13], [0, 1, 2, 3, 4, 5, 6, 7, 8, 9, 10, 11, 12, 13, 14], [0, 1, 2, 3, 4, 5, 6, 7, 8, 9, 10, 11, 12, 13, 14, 15], [0, 1, 2, 3, 4, 5, 6, 7, 8, 9, 10, 11, 12, 13, 14, 15, 16], [0, 1, 2, 3, 4, 5, 6, 7, 8, 9, 10, 11, 12, 13, 14, 15, 16, 17], [0, 1, 2, 3, 4, 5, 6, 7, 8, 9, 10, 11, 12, 13, 14, 15, 16, 17, 18], [0, 1, 2, 3, 4, 5, 6, 7, 8, 9, 10, 11, 12, 13, 14, 15, 16, 17, 18, 19], [0, 1, 2, 3, 4, 5, 6, 7, 8, 9, 10, 11, 12, 13, 14, 15, 16, 17, 18], [0, 1, 2, 3, 4, 5, 6, 7, 8, 9, 10, 11, 12, 13, 14, 15, 16, 17, 18, 19, 20, 21], [0, 1, 2, 3, 4, 5, 6, 7, 8, 9, 10, 11, 12, 13, 14, 15, 16, 17, 18, 19, 20, 21, 22], [0, 1, 2, 3, 4, 5, 6, 7, 8, 9, 10, 11, 12, 13, 14, 15, 16, 17, 18, 19, 20, 21, 22, 23]] (by kernel_rfl) (by kernel_rfl) rfl (by kernel_rfl) trivial ⟨fun wx hx => Ob.op rfl (O.move rfl ⟨Keep.refl _ _, rfl⟩),
                fun wx hx => Ob.op rfl (O.loadAgg Tryz.isAgg42 Tryz.sizeOf42 rfl rfl ((hO22'.ext hx).row) ⟨Keep.refl _ _, rfl⟩),
                fun wx hx => Ob.op rfl (O.call (xs := [.tmp 126]) Tryz.call16 rfl rfl (refused_calls b7 (.slice oh xs.length caph) xs (xOpe nm x.nm) wx (hH22.ext hx) (hE22.ext hx) hok o5 (hL22.ext hx)) (fun v wy h => ⟨h.2, by rw [h.1, g5]; rfl⟩)),
                fun wx hx => Ob.op rfl (O.fieldAddr Tryz.runUnderlying32 rfl Tryz.sizeOf4 rfl ⟨Keep.refl _ _, rfl⟩),
                fun wx hx => Ob.op rfl (O.load Tryz.isAgg4 rfl ((hS22.ext hx).cell (v := .bool false) (by simp [stCells, hcl])) ⟨Keep.refl _ _, rfl⟩),
                fun wx hx => Ob.op rfl (O.not rfl ⟨Keep.refl _ _, rfl⟩),
                fun wx hx => Ob.op rfl (O.move rfl ⟨Keep.refl _ _, rfl⟩),
                fun wx hx => Ob.pass rfl rfl,
                fun wx hx => Ob.pass rfl rfl,
                fun wx hx => Ob.op rfl (O.pick_true rfl rfl ⟨Keep.refl _ _, rfl⟩),
                fun wx hx => Ob.op rfl (O.move rfl ⟨Keep.refl _ _, rfl⟩),
                fun wx hx => Ob.pass rfl rfl,
                fun wx hx => Ob.pass rfl rfl,
                fun wx hx => Ob.op rfl (O.pick_true rfl rfl ⟨Keep.refl _ _, rfl⟩),
                fun wx hx => Ob.op rfl (O.move rfl ⟨Keep.refl _ _, rfl⟩),
                fun wx hx => Ob.pass rfl rfl,
                fun wx hx => Ob.pass rfl rfl,
                fun wx hx => Ob.op rfl (O.pick_true rfl rfl ⟨Keep.refl _ _, rfl⟩),
                fun wx hx => Ob.op rfl (O.move rfl ⟨Keep.refl _ _, rfl⟩),
                fun wx hx => Ob.pass rfl rfl,
                fun wx hx => Ob.pass rfl rfl,
                fun wx hx => Ob.pass rfl rfl,
                trivial⟩ (fun w26 he26 => ?_)
            refine L.pass rfl rfl (L.op rfl rfl (O.pick_true rfl rfl (L.op rfl rfl (O.neq_bool_f Tryz.runUnderlying4 rfl rfl rfl (L.nil (T.cond_false rfl (T.skip (T.blk (T.region (L.op rfl rfl (O.add64 rfl rfl (by (try dsimp only); omega) (L.op rfl rfl (O.move rfl (L.nil (T.again (j + 1) (by omega) ⟨rfl, rfl, rfl, rfl, rfl, rfl, rfl, trivial⟩ ⟨hjl, (he1017.trans (he21.trans he2122)).trans he26⟩)))))))))))))))
          · refine T.seq (T.region (L.op rfl rfl (O.fieldAddr Tryz.runUnderlying39 rfl Tryz.sizeOf9 rfl (L.op rfl rfl (O.load Tryz.isAgg9 rfl (hX17.cell rfl) (L.op rfl rfl (O.move rfl (L.op rfl rfl (O.eql_str_f Tryz.runUnderlying9 rfl rfl how (?_))))))))))
            have g2 : decide ((appR xs (xRev nm x.nm)).2 = 8) = true := by rw [f2, hwd, decide_eq_false how]; rfl
            have g3 : decide ((appR xs (xWit nm x.nm)).2 = 8) = true := by rw [f3, hwd, hop, decide_eq_false how]; rfl
            have g5 : decide ((appR xs (xOpe nm x.nm)).2 = 8) = true := by rw [f5, hwd, hop, decide_eq_false how]; first | rfl | simp
            refine L.op rfl rfl (O.assign rfl (L.nil (T.seq (T.seq (?_)))))
            refine T.anyE mixed 20 [12, 15, 8, 17, 14, 16] rfl [.is _, .is _, .is (.bool true), .is _, .is _, .is _, .is _, .is _, .is _, .is _, .is undef, .is undef, .is _, .is _, .is _, .is _, .is _, .is (.bool true), .is _, .is _] [[], [], [0, 1], [], [3], [4], [5], [6, 5], [5, 7], [8], [9], [10, 9], [9, 11], [2, 12], [13], [14], [14], [15, 16, 14], [14], [18, 14]] [[], [], [0, 1], [], [3], [0, 1, 2, 3, 4], [0, 1, 2, 3, 4, 5], [0, 1, 2, 3, 4, 5, 6], [0, 1, 2, 3, 4, 5, 6, 7], [0, 1, 2, 3, 4, 5, 6, 7, 8], [0, 1, 2, 3, 4, 5, 6, 7, 8, 9], [0, 1, 2, 3, 4, 5, 6, 7, 8, 9, 10], [0, 1, 2, 3, 4, 5, 6, 7, 8, 9, 10, 11], [0, 1, 2, 3, 4, 5, 6, 7, 8, 9, 10, 11, 12], [0, 1, 2, 3, 4, 5, 6, 7, 8, 9, 10, 11, 12, 13], [0, 1, 2, 3, 4, 5, 6, 7, 8, 9, 10, 11, 12, 13, 14], [0, 1, 2, 3, 4, 5, 6, 7, 8, 9, 10, 11, 12, 13, 14], [0, 1, 2, 3, 4, 5, 6, 7, 8, 9, 10, 11, 12, 13, 14, 15, 16], [0, 1, 2, 3, 4, 5, 6, 7, 8, 9, 10, 11, 12, 13, 14], [0, 1, 2, 3, 4, 5, 6, 7, 8, 9, 10, 11, 12, 13, 14, 18], [0, 1, 2, 3, 4, 5, 6, 7, 8, 9, 10, 11, 12, 13, 14, 15, 16, 17, 18, 19], [0, 1, 2, 3, 4, 5, 6, 7, 8, 9, 10, 11, 12, 13, 14, 15, 16, 17, 18, 19, 20], [0, 1, 2, 3, 4, 5, 6, 7, 8, 9, 10, 11, 12, 13, 14, 15, 16, 17, 18, 19, 20, 21], [0, 1, 2, 3, 4, 5, 6, 7, 8, 9, 10, 11, 12, 13, 14, 15, 16, 17, 18, 19, 20, 21, 22], [0, 1, 2, 3, 4, 5, 6, 7, 8, 9, 10, 11, 12, 13, 14, 15, 16, 17, 18, 19, 20, 21, 22, 23], [0, 1, 2, 3, 4, 5, 6, 7, 8, 9, 10, 11, 12, 13, 14, 15, 16, 17, 18, 19, 20, 21, 22, 23, 24], [0, 1, 2, 3, 4, 5, 6, 7, 8, 9, 10, 11, 12, 13, 14, 15, 16, 17, 18, 19, 20, 21, 22, 23, 24, 25], [0, 1, 2, 3, 4, 5, 6, 7, 8, 9, 10, 11, 12, 13, 14, 15, 16, 17, 18, 19, 20, 21, 22, 23, 24, 25, 26], [0, 1, 2, 3, 4, 5, 6, 7, 8, 9, 10, 11, 12, 13, 14, 15, 16, 17, 18, 19, 20, 21, 22, 23, 24, 25, 26, 27], [0, 1, 2, 3, 4, 5, 6, 7, 8, 9, 10, 11, 12, 13, 14, 15, 16, 17, 18, 19, 20, 21, 22, 23, 24, 25, 26, 27, 28]] (by kernel_rfl) (by kernel_rfl) rfl (by kernel_rfl) trivial ⟨fun wx hx => Ob.op rfl (O.move rfl ⟨Keep.refl _ _, rfl⟩),
                fun wx hx => Ob.op rfl (O.loadAgg Tryz.isAgg42 Tryz.sizeOf42 rfl rfl ((hR17.ext hx).row) ⟨Keep.refl _ _, rfl⟩),
                fun wx hx => Ob.op rfl (O.call (xs := [.tmp 85]) Tryz.call16 rfl rfl (refused_calls b7 (.slice oh xs.length caph) xs (xRev nm x.nm) wx (hH17.ext hx) (hE17.ext hx) hok o2 (hL17.ext hx)) (fun v wy h => ⟨h.2, by rw [h.1, g2]; rfl⟩)),
                fun wx hx => Ob.op rfl (O.fieldAddr Tryz.runUnderlying32 rfl Tryz.sizeOf4 rfl ⟨Keep.refl _ _, rfl⟩),
                fun wx hx => Ob.op rfl (O.load Tryz.isAgg4 rfl ((hS17.ext hx).cell (v := .bool false) (by simp [stCells, hcl])) ⟨Keep.refl _ _, rfl⟩),
                fun wx hx => Ob.op rfl (O.move rfl ⟨Keep.refl _ _, rfl⟩),
                fun wx hx => Ob.op rfl (O.move rfl ⟨Keep.refl _ _, rfl⟩),
                fun wx hx => Ob.op rfl (O.not rfl ⟨Keep.refl _ _, rfl⟩),
                fun wx hx => Ob.op rfl (O.pick_false rfl rfl ⟨Keep.refl _ _, rfl⟩),
                fun wx hx => Ob.op rfl (O.move rfl ⟨Keep.refl _ _, rfl⟩),
                fun wx hx => Ob.pass rfl rfl,
                fun wx hx => Ob.pass rfl rfl,
                fun wx hx => Ob.op rfl (O.pick_true rfl rfl ⟨Keep.refl _ _, rfl⟩),
                fun wx hx => Ob.op rfl (O.neq_bool_f Tryz.runUnderlying4 rfl rfl rfl ⟨Keep.refl _ _, rfl⟩),
                fun wx hx => Ob.op rfl (O.move rfl ⟨Keep.refl _ _, rfl⟩),
                fun wx hx => Ob.op rfl (O.move rfl ⟨Keep.refl _ _, rfl⟩),
                fun wx hx => Ob.op rfl (O.loadAgg Tryz.isAgg42 Tryz.sizeOf42 rfl rfl ((hW17.ext hx).row) ⟨Keep.refl _ _, rfl⟩),
                fun wx hx => Ob.op rfl (O.call (xs := [.tmp 100]) Tryz.call16 rfl rfl (refused_calls b7 (.slice oh xs.length caph) xs (xWit nm x.nm) wx (hH17.ext hx) (hE17.ext hx) hok o3 (hL17.ext hx)) (fun v wy h => ⟨h.2, by rw [h.1, g3]; rfl⟩)),
                fun wx hx => Ob.op rfl (O.move rfl ⟨Keep.refl _ _, rfl⟩),
                fun wx hx => Ob.op rfl (O.not rfl ⟨Keep.refl _ _, rfl⟩),
                trivial⟩ (fun w21 he21 => ?_)
            refine L.op rfl rfl (O.move rfl (L.pass rfl rfl (L.pass rfl rfl (L.op rfl rfl (O.pick_true rfl rfl (L.op rfl rfl (O.move rfl (L.pass rfl rfl (L.pass rfl rfl (L.op rfl rfl (O.pick_true rfl rfl (L.op rfl rfl (O.neq_bool_f Tryz.runUnderlying4 rfl rfl rfl (?_))))))))))))))
            have hH21 := hH17.ext he21
            have hE21 := hE17.ext he21
            have hL21 := hL17.ext he21
            have hX21 := hX17.ext he21
            have hS21 := hS17.ext he21
            refine L.op rfl rfl (O.pick_false rfl rfl (L.nil (T.cond_false rfl (T.skip (T.seq (T.seq (T.region (L.op rfl rfl (O.move rfl (L.op rfl rfl (O.move rfl (L.op rfl rfl (O.fieldAddr Tryz.runUnderlying39 rfl Tryz.sizeOf9 rfl (L.op rfl rfl (O.load Tryz.isAgg9 rfl (hX21.cell rfl) (L.op rfl rfl (O.build (v := (xSub nm x.nm).val) (parts := [(0, .const (.int .i64 1)), (1, .tmp 115), (2, .tmp 117)]) (vs := [(0, _), (1, _), (2, _)]) rfl (fun w => by kernel_rfl) (L.op rfl rfl (O.call (xs := [.tmp 118]) Tryz.call16 rfl rfl (refused_calls b7 (.slice oh xs.length caph) xs (xSub nm x.nm) w21 hH21 hE21 hok o6 hL21) (fun v119 w119 hq => ?_))))))))))))))))))))
            obtain ⟨hv119, he119⟩ := hq
            rw [f1] at hv119
            subst hv119
            refine L.op rfl rfl (O.not rfl (L.nil (T.cond_false rfl (T.skip (T.seq (T.region (L.op rfl rfl (O.move rfl (L.op rfl rfl (O.fieldAddr Tryz.runUnderlying39 rfl Tryz.sizeOf9 rfl (L.op rfl rfl (O.load Tryz.isAgg9 rfl ((hX21.ext he119).cell rfl) (L.op rfl rfl (O.build (v := (xOpe nm x.nm).val) (parts := [(0, .const (.int .i64 5)), (1, .tmp 121), (2, .tmp 123), (4, _), (5, _)]) (vs := [(0, _), (1, _), (2, _), (4, _), (5, _)]) rfl (fun w => by kernel_rfl) (L.op rfl rfl (O.alloc Tryz.zeroValue42 (fun b18 w18 hb18 hz18 he18 hB18 => ?_)))))))))))))))))
            refine L.op rfl rfl (O.storeAgg Tryz.sizeOf42 rfl rfl rfl hB18 (Nat.le_refl _) (En.one (xOpe nm x.nm)) (fun w22 hu22 hB22 => ?_))
            have hu22 : Upd b18 _ _ := hu22
            have hO22' : Blk w22 b18 (xOpe nm x.nm).cells 42 := hB22
            have he2122 := he119.trans (he18.upd hu22 (.inr (by omega)))
            have hH22 := hH21.ext he2122
            have hE22 := hE21.ext he2122
            have hL22 := hL21.ext he2122
            have hX22 := hX21.ext he2122
            have hS22 := hS21.ext he2122
            refine L.nil (T.seq (?_))
            refine T.anyE mixed 22 [12, 18, 8, 17, 14] rfl [.is _, .is _, .is (.bool true), .is _, .is _, .is _, .is _, .is undef, .is undef, .is _, .is _, .is undef, .is undef, .is _, .is _, .is undef, .is undef, .is _, .is _, .is undef, .is undef, .is undef] [[], [], [0, 1], [], [3], [4], [5], [6], [7, 6], [6, 8], [9], [10], [11, 10], [10, 12], [13], [14], [15, 14], [14, 16], [17], [18], [19, 18], [18]] [[], [], [0, 1], [], [3], [3, 4], [0, 1, 2, 3, 4, 5], [0, 1, 2, 3, 4, 5, 6], [0, 1, 2, 3, 4, 5, 6, 7], [0, 1, 2, 3, 4, 5, 6, 7, 8], [0, 1, 2, 3, 4, 5, 6, 7, 8, 9], [0, 1, 2, 3, 4, 5, 6, 7, 8, 9, 10], [0, 1, 2, 3, 4, 5, 6, 7, 8, 9, 10, 11], [0, 1, 2, 3, 4, 5, 6, 7, 8, 9, 10, 11, 12], [0, 1, 2, 3, 4, 5, 6, 7, 8, 9, 10, 11, 12, 13], [0, 1, 2, 3, 4, 5, 6, 7, 8, 9, 10, 11, 12, 13, 14], [0, 1, 2, 3, 4, 5, 6, 7, 8, 9, 10, 11, 12, 13, 14, 15], [0, 1, 2, 3, 4, 5, 6, 7, 8, 9, 10, 11, 12, 13, 14, 15, 16], [0, 1, 2, 3, 4, 5, 6, 7, 8, 9, 10, 11, 12, 13, 14, 15, 16, 17], [0, 1, 2, 3, 4, 5, 6, 7, 8, 9, 10, 11, 12, 13, 14, 15, 16, 17, 18], [0, 1, 2, 3, 4, 5, 6, 7, 8, 9, 10, 11, 12, 13, 14, 15, 16, 17, 18, 19], [0, 1, 2, 3, 4, 5, 6, 7, 8, 9, 10, 11, 12, 13, 14, 15, 16, 17, 18], [0, 1, 2, 3, 4, 5, 6, 7, 8, 9, 10, 11, 12, 13, 14, 15, 16, 17, 18, 19, 20, 21], [0, 1, 2, 3, 4, 5, 6, 7, 8, 9, 10, 11, 12, 13, 14, 15, 16, 17, 18, 19, 20, 21, 22], [0, 1, 2, 3, 4, 5, 6, 7, 8, 9, 10, 11, 12, 13, 14, 15, 16, 17, 18, 19, 20, 21, 22, 23]] (by kernel_rfl) (by kernel_rfl) rfl (by kernel_rfl) trivial ⟨fun wx hx => Ob.op rfl (O.move rfl ⟨Keep.refl _ _, rfl⟩),
                fun wx hx => Ob.op rfl (O.loadAgg Tryz.isAgg42 Tryz.sizeOf42 rfl rfl ((hO22'.ext hx).row) ⟨Keep.refl _ _, rfl⟩),
                fun wx hx => Ob.op rfl (O.call (xs := [.tmp 126]) Tryz.call16 rfl rfl (refused_calls b7 (.slice oh xs.length caph) xs (xOpe nm x.nm) wx (hH22.ext hx) (hE22.ext hx) hok o5 (hL22.ext hx)) (fun v wy h => ⟨h.2, by rw [h.1, g5]; rfl⟩)),
                fun wx hx => Ob.op rfl (O.fieldAddr Tryz.runUnderlying32 rfl Tryz.sizeOf4 rfl ⟨Keep.refl _ _, rfl⟩),
                fun wx hx => Ob.op rfl (O.load Tryz.isAgg4 rfl ((hS22.ext hx).cell (v := .bool false) (by simp [stCells, hcl])) ⟨Keep.refl _ _, rfl⟩),
                fun wx hx => Ob.op rfl (O.not rfl ⟨Keep.refl _ _, rfl⟩),
                fun wx hx => Ob.op rfl (O.move rfl ⟨Keep.refl _ _, rfl⟩),
                fun wx hx => Ob.pass rfl rfl,
                fun wx hx => Ob.pass rfl rfl,
                fun wx hx => Ob.op rfl (O.pick_true rfl rfl ⟨Keep.refl _ _, rfl⟩),
                fun wx hx => Ob.op rfl (O.move rfl ⟨Keep.refl _ _, rfl⟩),
                fun wx hx => Ob.pass rfl rfl,
                fun wx hx => Ob.pass rfl rfl,
                fun wx hx => Ob.op rfl (O.pick_true rfl rfl ⟨Keep.refl _ _, rfl⟩),
                fun wx hx => Ob.op rfl (O.move rfl ⟨Keep.refl _ _, rfl⟩),
                fun wx hx => Ob.pass rfl rfl,
                fun wx hx => Ob.pass rfl rfl,
                fun wx hx => Ob.op rfl (O.pick_true rfl rfl ⟨Keep.refl _ _, rfl⟩),
                fun wx hx => Ob.op rfl (O.move rfl ⟨Keep.refl _ _, rfl⟩),
                fun wx hx => Ob.pass rfl rfl,
                fun wx hx => Ob.pass rfl rfl,
                fun wx hx => Ob.pass rfl rfl,
                trivial⟩ (fun w26 he26 => ?_)
            refine L.pass rfl rfl (L.op rfl rfl (O.pick_true rfl rfl (L.op rfl rfl (O.neq_bool_f Tryz.runUnderlying4 rfl rfl rfl (L.nil (T.cond_false rfl (T.skip (T.blk (T.region (L.op rfl rfl (O.add64 rfl rfl (by (try dsimp only); omega) (L.op rfl rfl (O.move rfl (L.nil (T.again (j + 1) (by omega) ⟨rfl, rfl, rfl, rfl, rfl, rfl, rfl, trivial⟩ ⟨hjl, (he1017.trans (he21.trans he2122)).trans he26⟩)))))))))))))))
        · by_cases how : x.ow = nm
          · refine T.seq (T.region (L.op rfl rfl (O.fieldAddr Tryz.runUnderlying39 rfl Tryz.sizeOf9 rfl (L.op rfl rfl (O.load Tryz.isAgg9 rfl (hX17.cell rfl) (L.op rfl rfl (O.move rfl (L.op rfl rfl (O.eql_str_t Tryz.runUnderlying9 rfl rfl how (?_))))))))))
            have g2 : decide ((appR xs (xRev nm x.nm)).2 = 8) = false := by rw [f2, hwd, decide_eq_true how]; rfl
            have g3 : decide ((appR xs (xWit nm x.nm)).2 = 8) = true := by rw [f3, hwd, hop, decide_eq_true how]; rfl
            have g5 : decide ((appR xs (xOpe nm x.nm)).2 = 8) = true := by rw [f5, hwd, hop, decide_eq_true how]; first | rfl | simp
            refine L.op rfl rfl (O.assign rfl (L.nil (T.seq (T.seq (?_)))))
            refine T.anyE mixed 20 [12, 15, 8, 17, 14, 16] rfl [.is _, .is _, .is (.bool false), .is _, .is _, .is _, .is _, .is _, .is _, .is _, .is _, .is _, .is _, .is _, .is _, .is _, .is _, .is (.bool true), .is _, .is _] [[], [], [0, 1], [], [3], [4], [5], [6, 5], [5, 7], [8], [9], [10, 9], [9, 11], [2, 12], [13], [14], [14], [15, 16, 14], [14], [18, 14]] [[], [], [0, 1], [], [3], [0, 1, 2, 3, 4], [0, 1, 2, 3, 4, 5], [0, 1, 2, 3, 4, 5, 6], [0, 1, 2, 3, 4, 5, 6, 7], [0, 1, 2, 3, 4, 5, 6, 7, 8], [0, 1, 2, 3, 4, 5, 6, 7, 8, 9], [0, 1, 2, 3, 4, 5, 6, 7, 8, 9, 10], [0, 1, 2, 3, 4, 5, 6, 7, 8, 9, 10, 11], [0, 1, 2, 3, 4, 5, 6, 7, 8, 9, 10, 11, 12], [0, 1, 2, 3, 4, 5, 6, 7, 8, 9, 10, 11, 12, 13], [0, 1, 2, 3, 4, 5, 6, 7, 8, 9, 10, 11, 12, 13, 14], [0, 1, 2, 3, 4, 5, 6, 7, 8, 9, 10, 11, 12, 13, 14], [0, 1, 2, 3, 4, 5, 6, 7, 8, 9, 10, 11, 12, 13, 14, 15, 16], [0, 1, 2, 3, 4, 5, 6, 7, 8, 9, 10, 11, 12, 13, 14], [0, 1, 2, 3, 4, 5, 6, 7, 8, 9, 10, 11, 12, 13, 14, 18], [0, 1, 2, 3, 4, 5, 6, 7, 8, 9, 10, 11, 12, 13, 14, 15, 16, 17, 18, 19], [0, 1, 2, 3, 4, 5, 6, 7, 8, 9, 10, 11, 12, 13, 14, 15, 16, 17, 18, 19, 20], [0, 1, 2, 3, 4, 5, 6, 7, 8, 9, 10, 11, 12, 13, 14, 15, 16, 17, 18, 19, 20, 21], [0, 1, 2, 3, 4, 5, 6, 7, 8, 9, 10, 11, 12, 13, 14, 15, 16, 17, 18, 19, 20, 21, 22], [0, 1, 2, 3, 4, 5, 6, 7, 8, 9, 10, 11, 12, 13, 14, 15, 16, 17, 18, 19, 20, 21, 22, 23], [0, 1, 2, 3, 4, 5, 6, 7, 8, 9, 10, 11, 12, 13, 14, 15, 16, 17, 18, 19, 20, 21, 22, 23, 24], [0, 1, 2, 3, 4, 5, 6, 7, 8, 9, 10, 11, 12, 13, 14, 15, 16, 17, 18, 19, 20, 21, 22, 23, 24, 25], [0, 1, 2, 3, 4, 5, 6, 7, 8, 9, 10, 11, 12, 13, 14, 15, 16, 17, 18, 19, 20, 21, 22, 23, 24, 25, 26], [0, 1, 2, 3, 4, 5, 6, 7, 8, 9, 10, 11, 12, 13, 14, 15, 16, 17, 18, 19, 20, 21, 22, 23, 24, 25, 26, 27], [0, 1, 2, 3, 4, 5, 6, 7, 8, 9, 10, 11, 12, 13, 14, 15, 16, 17, 18, 19, 20, 21, 22, 23, 24, 25, 26, 27, 28]] (by kernel_rfl) (by kernel_rfl) rfl (by kernel_rfl) trivial ⟨fun wx hx => Ob.op rfl (O.move rfl ⟨Keep.refl _ _, rfl⟩),
                fun wx hx => Ob.op rfl (O.loadAgg Tryz.isAgg42 Tryz.sizeOf42 rfl rfl ((hR17.ext hx).row) ⟨Keep.refl _ _, rfl⟩),
                fun wx hx => Ob.op rfl (O.call (xs := [.tmp 85]) Tryz.call16 rfl rfl (refused_calls b7 (.slice oh xs.length caph) xs (xRev nm x.nm) wx (hH17.ext hx) (hE17.ext hx) hok o2 (hL17.ext hx)) (fun v wy h => ⟨h.2, by rw [h.1, g2]; rfl⟩)),
                fun wx hx => Ob.op rfl (O.fieldAddr Tryz.runUnderlying32 rfl Tryz.sizeOf4 rfl ⟨Keep.refl _ _, rfl⟩),
                fun wx hx => Ob.op rfl (O.load Tryz.isAgg4 rfl ((hS17.ext hx).cell (v := .bool false) (by simp [stCells, hcl])) ⟨Keep.refl _ _, rfl⟩),
                fun wx hx => Ob.op rfl (O.move rfl ⟨Keep.refl _ _, rfl⟩),
                fun wx hx => Ob.op rfl (O.move rfl ⟨Keep.refl _ _, rfl⟩),
                fun wx hx => Ob.op rfl (O.not rfl ⟨Keep.refl _ _, rfl⟩),
                fun wx hx => Ob.op rfl (O.pick_false rfl rfl ⟨Keep.refl _ _, rfl⟩),
                fun wx hx => Ob.op rfl (O.move rfl ⟨Keep.refl _ _, rfl⟩),
                fun wx hx => Ob.op rfl (O.fieldAddr Tryz.runUnderlying39 rfl Tryz.sizeOf4 rfl ⟨Keep.refl _ _, rfl⟩),
                fun wx hx => Ob.op rfl (O.load Tryz.isAgg4 rfl ((hX17.ext hx).cell (v := .bool false) (by simp [It.cells, hwd])) ⟨Keep.refl _ _, rfl⟩),
                fun wx hx => Ob.op rfl (O.pick_false rfl rfl ⟨Keep.refl _ _, rfl⟩),
                fun wx hx => Ob.op rfl (O.neq_bool_f Tryz.runUnderlying4 rfl rfl rfl ⟨Keep.refl _ _, rfl⟩),
                fun wx hx => Ob.op rfl (O.move rfl ⟨Keep.refl _ _, rfl⟩),
                fun wx hx => Ob.op rfl (O.move rfl ⟨Keep.refl _ _, rfl⟩),
                fun wx hx => Ob.op rfl (O.loadAgg Tryz.isAgg42 Tryz.sizeOf42 rfl rfl ((hW17.ext hx).row) ⟨Keep.refl _ _, rfl⟩),
                fun wx hx => Ob.op rfl (O.call (xs := [.tmp 100]) Tryz.call16 rfl rfl (refused_calls b7 (.slice oh xs.length caph) xs (xWit nm x.nm) wx (hH17.ext hx) (hE17.ext hx) hok o3 (hL17.ext hx)) (fun v wy h => ⟨h.2, by rw [h.1, g3]; rfl⟩)),
                fun wx hx => Ob.op rfl (O.move rfl ⟨Keep.refl _ _, rfl⟩),
                fun wx hx => Ob.op rfl (O.not rfl ⟨Keep.refl _ _, rfl⟩),
                trivial⟩ (fun w21 he21 => ?_)
            refine L.op rfl rfl (O.move rfl (L.op rfl rfl (O.fieldAddr Tryz.runUnderlying39 rfl Tryz.sizeOf4 rfl (L.op rfl rfl (O.load Tryz.isAgg4 rfl ((hX17.ext he21).cell (v := .bool false) (by simp [It.cells, hwd])) (L.op rfl rfl (O.pick_false rfl rfl (L.op rfl rfl (O.move rfl (L.op rfl rfl (O.fieldAddr Tryz.runUnderlying39 rfl Tryz.sizeOf4 rfl (L.op rfl rfl (O.load Tryz.isAgg4 rfl ((hX17.ext he21).cell (v := .bool true) (by simp [It.cells, hop])) (L.op rfl rfl (O.pick_false rfl rfl (L.op rfl rfl (O.neq_bool_f Tryz.runUnderlying4 rfl rfl rfl (?_))))))))))))))))))
            have hH21 := hH17.ext he21
            have hE21 := hE17.ext he21
            have hL21 := hL17.ext he21
            have hX21 := hX17.ext he21
            have hS21 := hS17.ext he21
            refine L.op rfl rfl (O.pick_false rfl rfl (L.nil (T.cond_false rfl (T.skip (T.seq (T.seq (T.region (L.op rfl rfl (O.move rfl (L.op rfl rfl (O.move rfl (L.op rfl rfl (O.fieldAddr Tryz.runUnderlying39 rfl Tryz.sizeOf9 rfl (L.op rfl rfl (O.load Tryz.isAgg9 rfl (hX21.cell rfl) (L.op rfl rfl (O.build (v := (xSub nm x.nm).val) (parts := [(0, .const (.int .i64 1)), (1, .tmp 115), (2, .tmp 117)]) (vs := [(0, _), (1, _), (2, _)]) rfl (fun w => by kernel_rfl) (L.op rfl rfl (O.call (xs := [.tmp 118]) Tryz.call16 rfl rfl (refused_calls b7 (.slice oh xs.length caph) xs (xSub nm x.nm) w21 hH21 hE21 hok o6 hL21) (fun v119 w119 hq => ?_))))))))))))))))))))
            obtain ⟨hv119, he119⟩ := hq
            rw [f1] at hv119
            subst hv119
            refine L.op rfl rfl (O.not rfl (L.nil (T.cond_false rfl (T.skip (T.seq (T.region (L.op rfl rfl (O.move rfl (L.op rfl rfl (O.fieldAddr Tryz.runUnderlying39 rfl Tryz.sizeOf9 rfl (L.op rfl rfl (O.load Tryz.isAgg9 rfl ((hX21.ext he119).cell rfl) (L.op rfl rfl (O.build (v := (xOpe nm x.nm).val) (parts := [(0, .const (.int .i64 5)), (1, .tmp 121), (2, .tmp 123), (4, _), (5, _)]) (vs := [(0, _), (1, _), (2, _), (4, _), (5, _)]) rfl (fun w => by kernel_rfl) (L.op rfl rfl (O.alloc Tryz.zeroValue42 (fun b18 w18 hb18 hz18 he18 hB18 => ?_)))))))))))))))))
            refine L.op rfl rfl (O.storeAgg Tryz.sizeOf42 rfl rfl rfl hB18 (Nat.le_refl _) (En.one (xOpe nm x.nm)) (fun w22 hu22 hB22 => ?_))
            have hu22 : Upd b18 _ _ := hu22
            have hO22' : Blk w22 b18 (xOpe nm x.nm).cells 42 := hB22
            have he2122 := he119.trans (he18.upd hu22 (.inr (by omega)))
            have hH22 := hH21.ext he2122
            have hE22 := hE21.ext he2122
            have hL22 := hL21.ext he2122
            have hX22 := hX21.ext he2122
            have hS22 := hS21.ext he2122
            refine L.nil (T.seq (?_))
            refine T.anyE mixed 22 [12, 18, 8, 17, 14] rfl [.is _, .is _, .is (.bool true), .is _, .is _, .is _, .is _, .is undef, .is undef, .is _, .is _, .is undef, .is undef, .is _, .is _, .is undef, .is undef, .is _, .is _, .is undef, .is undef, .is undef] [[], [], [0, 1], [], [3], [4], [5], [6], [7, 6], [6, 8], [9], [10], [11, 10], [10, 12], [13], [14], [15, 14], [14, 16], [17], [18], [19, 18], [18]] [[], [], [0, 1], [], [3], [3, 4], [0, 1, 2, 3, 4, 5], [0, 1, 2, 3, 4, 5, 6], [0, 1, 2, 3, 4, 5, 6, 7], [0, 1, 2, 3, 4, 5, 6, 7, 8], [0, 1, 2, 3, 4, 5, 6, 7, 8, 9], [0, 1, 2, 3, 4, 5, 6, 7, 8, 9, 10], [0, 1, 2, 3, 4, 5, 6, 7, 8, 9, 10, 11], [0, 1, 2, 3, 4, 5, 6, 7, 8, 9, 10, 11, 12], [0, 1, 2, 3, 4, 5, 6, 7, 8, 9, 10, 11, 12, 13], [0, 1, 2, 3, 4, 5, 6, 7, 8, 9, 10, 11, 12, 13, 14], [0, 1, 2, 3, 4, 5, 6, 7, 8, 9, 10, 11, 12, 13, 14, 15], [0, 1, 2, 3, 4, 5, 6, 7, 8, 9, 10, 11, 12, 13, 14, 15, 16], [0, 1, 2, 3, 4, 5, 6, 7, 8, 9, 10, 11, 12, 13, 14, 15, 16, 17], [0, 1, 2, 3, 4, 5, 6, 7, 8, 9, 10, 11, 12, 13, 14, 15, 16, 17, 18], [0, 1, 2, 3, 4, 5, 6, 7, 8, 9, 10, 11, 12, 13, 14, 15, 16, 17, 18, 19], [0, 1, 2, 3, 4, 5, 6, 7, 8, 9, 10, 11, 12, 13, 14, 15, 16, 17, 18], [0, 1, 2, 3, 4, 5, 6, 7, 8, 9, 10, 11, 12, 13, 14, 15, 16, 17, 18, 19, 20, 21], [0, 1, 2, 3, 4, 5, 6, 7, 8, 9, 10, 11, 12, 13, 14, 15, 16, 17, 18, 19, 20, 21, 22], [0, 1, 2, 3, 4, 5, 6, 7, 8, 9, 10, 11, 12, 13, 14, 15, 16, 17, 18, 19, 20, 21, 22, 23]] (by kernel_rfl) (by kernel_rfl) rfl (by kernel_rfl) trivial ⟨fun wx hx => Ob.op rfl (O.move rfl ⟨Keep.refl _ _, rfl⟩),
                fun wx hx => Ob.op rfl (O.loadAgg Tryz.isAgg42 Tryz.sizeOf42 rfl rfl ((hO22'.ext hx).row) ⟨Keep.refl _ _, rfl⟩),
                fun wx hx => Ob.op rfl (O.call (xs := [.tmp 126]) Tryz.call16 rfl rfl (refused_calls b7 (.slice oh xs.length caph) xs (xOpe nm x.nm) wx (hH22.ext hx) (hE22.ext hx) hok o5 (hL22.ext hx)) (fun v wy h => ⟨h.2, by rw [h.1, g5]; rfl⟩)),
                fun wx hx => Ob.op rfl (O.fieldAddr Tryz.runUnderlying32 rfl Tryz.sizeOf4 rfl ⟨Keep.refl _ _, rfl⟩),
                fun wx hx => Ob.op rfl (O.load Tryz.isAgg4 rfl ((hS22.ext hx).cell (v := .bool false) (by simp [stCells, hcl])) ⟨Keep.refl _ _, rfl⟩),
                fun wx hx => Ob.op rfl (O.not rfl ⟨Keep.refl _ _, rfl⟩),
                fun wx hx => Ob.op rfl (O.move rfl ⟨Keep.refl _ _, rfl⟩),
                fun wx hx => Ob.pass rfl rfl,
                fun wx hx => Ob.pass rfl rfl,
                fun wx hx => Ob.op rfl (O.pick_true rfl rfl ⟨Keep.refl _ _, rfl⟩),
                fun wx hx => Ob.op rfl (O.move rfl ⟨Keep.refl _ _, rfl⟩),
                fun wx hx => Ob.pass rfl rfl,
                fun wx hx => Ob.pass rfl rfl,
                fun wx hx => Ob.op rfl (O.pick_true rfl rfl ⟨Keep.refl _ _, rfl⟩),
                fun wx hx => Ob.op rfl (O.move rfl ⟨Keep.refl _ _, rfl⟩),
                fun wx hx => Ob.pass rfl rfl,
                fun wx hx => Ob.pass rfl rfl,
                fun wx hx => Ob.op rfl (O.pick_true rfl rfl ⟨Keep.refl _ _, rfl⟩),
                fun wx hx => Ob.op rfl (O.move rfl ⟨Keep.refl _ _, rfl⟩),
                fun wx hx => Ob.pass rfl rfl,
                fun wx hx => Ob.pass rfl rfl,
                fun wx hx => Ob.pass rfl rfl,
                trivial⟩ (fun w26 he26 => ?_)
            refine L.pass rfl rfl (L.op rfl rfl (O.pick_true rfl rfl (L.op rfl rfl (O.neq_bool_f Tryz.runUnderlying4 rfl rfl rfl (L.nil (T.cond_false rfl (T.skip (T.blk (T.region (L.op rfl rfl (O.add64 rfl rfl (by (try dsimp only); omega) (L.op rfl rfl (O.move rfl (L.nil (T.again (j + 1) (by omega) ⟨rfl, rfl, rfl, rfl, rfl, rfl, rfl, trivial⟩ ⟨hjl, (he1017.trans (he21.trans he2122)).trans he26⟩)))))))))))))))
          · refine T.seq (T.region (L.op rfl rfl (O.fieldAddr Tryz.runUnderlying39 rfl Tryz.sizeOf9 rfl (L.op rfl rfl (O.load Tryz.isAgg9 rfl (hX17.cell rfl) (L.op rfl rfl (O.move rfl (L.op rfl rfl (O.eql_str_f Tryz.runUnderlying9 rfl rfl how (?_))))))))))
            have g2 : decide ((appR xs (xRev nm x.nm)).2 = 8) = true := by rw [f2, hwd, decide_eq_false how]; rfl
            have g3 : decide ((appR xs (xWit nm x.nm)).2 = 8) = true := by rw [f3, hwd, hop, decide_eq_false how]; rfl
            have g5 : decide ((appR xs (xOpe nm x.nm)).2 = 8) = true := by rw [f5, hwd, hop, decide_eq_false how]; first | rfl | simp
            refine L.op rfl rfl (O.assign rfl (L.nil (T.seq (T.seq (?_)))))
            refine T.anyE mixed 20 [12, 15, 8, 17, 14, 16] rfl [.is _, .is _, .is (.bool true), .is _, .is _, .is _, .is _, .is _, .is _, .is _, .is undef, .is undef, .is _, .is _, .is _, .is _, .is _, .is (.bool true), .is _, .is _] [[], [], [0, 1], [], [3], [4], [5], [6, 5], [5, 7], [8], [9], [10, 9], [9, 11], [2, 12], [13], [14], [14], [15, 16, 14], [14], [18, 14]] [[], [], [0, 1], [], [3], [0, 1, 2, 3, 4], [0, 1, 2, 3, 4, 5], [0, 1, 2, 3, 4, 5, 6], [0, 1, 2, 3, 4, 5, 6, 7], [0, 1, 2, 3, 4, 5, 6, 7, 8], [0, 1, 2, 3, 4, 5, 6, 7, 8, 9], [0, 1, 2, 3, 4, 5, 6, 7, 8, 9, 10], [0, 1, 2, 3, 4, 5, 6, 7, 8, 9, 10, 11], [0, 1, 2, 3, 4, 5, 6, 7, 8, 9, 10, 11, 12], [0, 1, 2, 3, 4, 5, 6, 7, 8, 9, 10, 11, 12, 13], [0, 1, 2, 3, 4, 5, 6, 7, 8, 9, 10, 11, 12, 13, 14], [0, 1, 2, 3, 4, 5, 6, 7, 8, 9, 10, 11, 12, 13, 14], [0, 1, 2, 3, 4, 5, 6, 7, 8, 9, 10, 11, 12, 13, 14, 15, 16], [0, 1, 2, 3, 4, 5, 6, 7, 8, 9, 10, 11, 12, 13, 14], [0, 1, 2, 3, 4, 5, 6, 7, 8, 9, 10, 11, 12, 13, 14, 18], [0, 1, 2, 3, 4, 5, 6, 7, 8, 9, 10, 11, 12, 13, 14, 15, 16, 17, 18, 19], [0, 1, 2, 3, 4, 5, 6, 7, 8, 9, 10, 11, 12, 13, 14, 15, 16, 17, 18, 19, 20], [0, 1, 2, 3, 4, 5, 6, 7, 8, 9, 10, 11, 12, 13, 14, 15, 16, 17, 18, 19, 20, 21], [0, 1, 2, 3, 4, 5, 6, 7, 8, 9, 10, 11, 12, 13, 14, 15, 16, 17, 18, 19, 20, 21, 22], [0, 1, 2, 3, 4, 5, 6, 7, 8, 9, 10, 11, 12, 13, 14, 15, 16, 17, 18, 19, 20, 21, 22, 23], [0, 1, 2, 3, 4, 5, 6, 7, 8, 9, 10, 11, 12, 13, 14, 15, 16, 17, 18, 19, 20, 21, 22, 23, 24], [0, 1, 2, 3, 4, 5, 6, 7, 8, 9, 10, 11, 12, 13, 14, 15, 16, 17, 18, 19, 20, 21, 22, 23, 24, 25], [0, 1, 2, 3, 4, 5, 6, 7, 8, 9, 10, 11, 12, 13, 14, 15, 16, 17, 18, 19, 20, 21, 22, 23, 24, 25, 26], [0, 1, 2, 3, 4, 5, 6, 7, 8, 9, 10, 11, 12, 13, 14, 15, 16, 17, 18, 19, 20, 21, 22, 23, 24, 25, 26, 27], [0, 1, 2, 3, 4, 5, 6, 7, 8, 9, 10, 11, 12, 13, 14, 15, 16, 17, 18, 19, 20, 21, 22, 23, 24, 25, 26, 27, 28]] (by kernel_rfl) (by kernel_rfl) rfl (by kernel_rfl) trivial ⟨fun wx hx => Ob.op rfl (O.move rfl ⟨Keep.refl _ _, rfl⟩),
                fun wx hx => Ob.op rfl (O.loadAgg Tryz.isAgg42 Tryz.sizeOf42 rfl rfl ((hR17.ext hx).row) ⟨Keep.refl _ _, rfl⟩),
                fun wx hx => Ob.op rfl (O.call (xs := [.tmp 85]) Tryz.call16 rfl rfl (refused_calls b7 (.slice oh xs.length caph) xs (xRev nm x.nm) wx (hH17.ext hx) (hE17.ext hx) hok o2 (hL17.ext hx)) (fun v wy h => ⟨h.2, by rw [h.1, g2]; rfl⟩)),
                fun wx hx => Ob.op rfl (O.fieldAddr Tryz.runUnderlying32 rfl Tryz.sizeOf4 rfl ⟨Keep.refl _ _, rfl⟩),
                fun wx hx => Ob.op rfl (O.load Tryz.isAgg4 rfl ((hS17.ext hx).cell (v := .bool false) (by simp [stCells, hcl])) ⟨Keep.refl _ _, rfl⟩),
                fun wx hx => Ob.op rfl (O.move rfl ⟨Keep.refl _ _, rfl⟩),
                fun wx hx => Ob.op rfl (O.move rfl ⟨Keep.refl _ _, rfl⟩),
                fun wx hx => Ob.op rfl (O.not rfl ⟨Keep.refl _ _, rfl⟩),
                fun wx hx => Ob.op rfl (O.pick_false rfl rfl ⟨Keep.refl _ _, rfl⟩),
                fun wx hx => Ob.op rfl (O.move rfl ⟨Keep.refl _ _, rfl⟩),
                fun wx hx => Ob.pass rfl rfl,
                fun wx hx => Ob.pass rfl rfl,
                fun wx hx => Ob.op rfl (O.pick_true rfl rfl ⟨Keep.refl _ _, rfl⟩),
                fun wx hx => Ob.op rfl (O.neq_bool_f Tryz.runUnderlying4 rfl rfl rfl ⟨Keep.refl _ _, rfl⟩),
                fun wx hx => Ob.op rfl (O.move rfl ⟨Keep.refl _ _, rfl⟩),
                fun wx hx => Ob.op rfl (O.move rfl ⟨Keep.refl _ _, rfl⟩),
                fun wx hx => Ob.op rfl (O.loadAgg Tryz.isAgg42 Tryz.sizeOf42 rfl rfl ((hW17.ext hx).row) ⟨Keep.refl _ _, rfl⟩),
                fun wx hx => Ob.op rfl (O.call (xs := [.tmp 100]) Tryz.call16 rfl rfl (refused_calls b7 (.slice oh xs.length caph) xs (xWit nm x.nm) wx (hH17.ext hx) (hE17.ext hx) hok o3 (hL17.ext hx)) (fun v wy h => ⟨h.2, by rw [h.1, g3]; rfl⟩)),
                fun wx hx => Ob.op rfl (O.move rfl ⟨Keep.refl _ _, rfl⟩),
                fun wx hx => Ob.op rfl (O.not rfl ⟨Keep.refl _ _, rfl⟩),
                trivial⟩ (fun w21 he21 => ?_)
            refine L.op rfl rfl (O.move rfl (L.pass rfl rfl (L.pass rfl rfl (L.op rfl rfl (O.pick_true rfl rfl (L.op rfl rfl (O.move rfl (L.pass rfl rfl (L.pass rfl rfl (L.op rfl rfl (O.pick_true rfl rfl (L.op rfl rfl (O.neq_bool_f Tryz.runUnderlying4 rfl rfl rfl (?_))))))))))))))
            have hH21 := hH17.ext he21
            have hE21 := hE17.ext he21
            have hL21 := hL17.ext he21
            have hX21 := hX17.ext he21
            have hS21 := hS17.ext he21
            refine L.op rfl rfl (O.pick_false rfl rfl (L.nil (T.cond_false rfl (T.skip (T.seq (T.seq (T.region (L.op rfl rfl (O.move rfl (L.op rfl rfl (O.move rfl (L.op rfl rfl (O.fieldAddr Tryz.runUnderlying39 rfl Tryz.sizeOf9 rfl (L.op rfl rfl (O.load Tryz.isAgg9 rfl (hX21.cell rfl) (L.op rfl rfl (O.build (v := (xSub nm x.nm).val) (parts := [(0, .const (.int .i64 1)), (1, .tmp 115), (2, .tmp 117)]) (vs := [(0, _), (1, _), (2, _)]) rfl (fun w => by kernel_rfl) (L.op rfl rfl (O.call (xs := [.tmp 118]) Tryz.call16 rfl rfl (refused_calls b7 (.slice oh xs.length caph) xs (xSub nm x.nm) w21 hH21 hE21 hok o6 hL21) (fun v119 w119 hq => ?_))))))))))))))))))))
            obtain ⟨hv119, he119⟩ := hq
            rw [f1] at hv119
            subst hv119
            refine L.op rfl rfl (O.not rfl (L.nil (T.cond_false rfl (T.skip (T.seq (T.region (L.op rfl rfl (O.move rfl (L.op rfl rfl (O.fieldAddr Tryz.runUnderlying39 rfl Tryz.sizeOf9 rfl (L.op rfl rfl (O.load Tryz.isAgg9 rfl ((hX21.ext he119).cell rfl) (L.op rfl rfl (O.build (v := (xOpe nm x.nm).val) (parts := [(0, .const (.int .i64 5)), (1, .tmp 121), (2, .tmp 123), (4, _), (5, _)]) (vs := [(0, _), (1, _), (2, _), (4, _), (5, _)]) rfl (fun w => by kernel_rfl) (L.op rfl rfl (O.alloc Tryz.zeroValue42 (fun b18 w18 hb18 hz18 he18 hB18 => ?_)))))))))))))))))
            refine L.op rfl rfl (O.storeAgg Tryz.sizeOf42 rfl rfl rfl hB18 (Nat.le_refl _) (En.one (xOpe nm x.nm)) (fun w22 hu22 hB22 => ?_))
            have hu22 : Upd b18 _ _ := hu22
            have hO22' : Blk w22 b18 (xOpe nm x.nm).cells 42 := hB22
            have he2122 := he119.trans (he18.upd hu22 (.inr (by omega)))
            have hH22 := hH21.ext he2122
            have hE22 := hE21.ext he2122
            have hL22 := hL21.ext he2122
            have hX22 := hX21.ext he2122
            have hS22 := hS21.ext he2122
            refine L.nil (T.seq (?_))
            refine T.anyE mixed 22 [12, 18, 8, 17, 14] rfl [.is _, .is _, .is (.bool true), .is _, .is _, .is _, .is _, .is undef, .is undef, .is _, .is _, .is undef, .is undef, .is _, .is _, .is undef, .is undef, .is _, .is _, .is undef, .is undef, .is undef] [[], [], [0, 1], [], [3], [4], [5], [6], [7, 6], [6, 8], [9], [10], [11, 10], [10, 12], [13], [14], [15, 14], [14, 16], [17], [18], [19, 18], [18]] [[], [], [0, 1], [], [3], [3, 4], [0, 1, 2, 3, 4, 5], [0, 1, 2, 3, 4, 5, 6], [0, 1, 2, 3, 4, 5, 6, 7], [0, 1, 2, 3, 4, 5, 6, 7, 8], [0, 1, 2, 3, 4, 5, 6, 7, 8, 9], [0, 1, 2, 3, 4, 5, 6, 7, 8, 9, 10], [0, 1, 2, 3, 4, 5, 6, 7, 8, 9, 10, 11], [0, 1, 2, 3, 4, 5, 6, 7, 8, 9, 10, 11, 12], [0, 1, 2, 3, 4, 5, 6, 7, 8, 9, 10, 11, 12, 13], [0, 1, 2, 3, 4, 5, 6, 7, 8, 9, 10, 11, 12, 13, 14], [0, 1, 2, 3, 4, 5, 6, 7, 8, 9, 10, 11, 12, 13, 14, 15], [0, 1, 2, 3, 4, 5, 6, 7, 8, 9, 10, 11, 12, 13, 14, 15, 16], [0, 1, 2, 3, 4, 5, 6, 7, 8, 9, 10, 11, 12, 13, 14, 15, 16, 17], [0, 1, 2, 3, 4, 5, 6, 7, 8, 9, 10, 11, 12, 13, 14, 15, 16, 17, 18], [0, 1, 2, 3, 4, 5, 6, 7, 8, 9, 10, 11, 12, 13, 14, 15, 16, 17, 18, 19], [0, 1, 2, 3, 4, 5, 6, 7, 8, 9, 10, 11, 12, 13, 14, 15, 16, 17, 18], [0, 1, 2, 3, 4, 5, 6, 7, 8, 9, 10, 11, 12, 13, 14, 15, 16, 17, 18, 19, 20, 21], [0, 1, 2, 3, 4, 5, 6, 7, 8, 9, 10, 11, 12, 13, 14, 15, 16, 17, 18, 19, 20, 21, 22], [0, 1, 2, 3, 4, 5, 6, 7, 8, 9, 10, 11, 12, 13, 14, 15, 16, 17, 18, 19, 20, 21, 22, 23]] (by kernel_rfl) (by kernel_rfl) rfl (by kernel_rfl) trivial ⟨fun wx hx => Ob.op rfl (O.move rfl ⟨Keep.refl _ _, rfl⟩),
                fun wx hx => Ob.op rfl (O.loadAgg Tryz.isAgg42 Tryz.sizeOf42 rfl rfl ((hO22'.ext hx).row) ⟨Keep.refl _ _, rfl⟩),
                fun wx hx => Ob.op rfl (O.call (xs := [.tmp 126]) Tryz.call16 rfl rfl (refused_calls b7 (.slice oh xs.length caph) xs (xOpe nm x.nm) wx (hH22.ext hx) (hE22.ext hx) hok o5 (hL22.ext hx)) (fun v wy h => ⟨h.2, by rw [h.1, g5]; rfl⟩)),
                fun wx hx => Ob.op rfl (O.fieldAddr Tryz.runUnderlying32 rfl Tryz.sizeOf4 rfl ⟨Keep.refl _ _, rfl⟩),
                fun wx hx => Ob.op rfl (O.load Tryz.isAgg4 rfl ((hS22.ext hx).cell (v := .bool false) (by simp [stCells, hcl])) ⟨Keep.refl _ _, rfl⟩),
                fun wx hx => Ob.op rfl (O.not rfl ⟨Keep.refl _ _, rfl⟩),
                fun wx hx => Ob.op rfl (O.move rfl ⟨Keep.refl _ _, rfl⟩),
                fun wx hx => Ob.pass rfl rfl,
                fun wx hx => Ob.pass rfl rfl,
                fun wx hx => Ob.op rfl (O.pick_true rfl rfl ⟨Keep.refl _ _, rfl⟩),
                fun wx hx => Ob.op rfl (O.move rfl ⟨Keep.refl _ _, rfl⟩),
                fun wx hx => Ob.pass rfl rfl,
                fun wx hx => Ob.pass rfl rfl,
                fun wx hx => Ob.op rfl (O.pick_true rfl rfl ⟨Keep.refl _ _, rfl⟩),
                fun wx hx => Ob.op rfl (O.move rfl ⟨Keep.refl _ _, rfl⟩),
                fun wx hx => Ob.pass rfl rfl,
                fun wx hx => Ob.pass rfl rfl,
                fun wx hx => Ob.op rfl (O.pick_true rfl rfl ⟨Keep.refl _ _, rfl⟩),
                fun wx hx => Ob.op rfl (O.move rfl ⟨Keep.refl _ _, rfl⟩),
                fun wx hx => Ob.pass rfl rfl,
                fun wx hx => Ob.pass rfl rfl,
                fun wx hx => Ob.pass rfl rfl,
                trivial⟩ (fun w26 he26 => ?_)
            refine L.pass rfl rfl (L.op rfl rfl (O.pick_true rfl rfl (L.op rfl rfl (O.neq_bool_f Tryz.runUnderlying4 rfl rfl rfl (L.nil (T.cond_false rfl (T.skip (T.blk (T.region (L.op rfl rfl (O.add64 rfl rfl (by (try dsimp only); omega) (L.op rfl rfl (O.move rfl (L.nil (T.again (j + 1) (by omega) ⟨rfl, rfl, rfl, rfl, rfl, rfl, rfl, trivial⟩ ⟨hjl, (he1017.trans (he21.trans he2122)).trans he26⟩)))))))))))))))
      · refine L.nil (?_)
        rcases hop : x.op with _ | _
        · by_cases how : x.ow = nm
          · refine T.seq (T.region (L.op rfl rfl (O.fieldAddr Tryz.runUnderlying39 rfl Tryz.sizeOf9 rfl (L.op rfl rfl (O.load Tryz.isAgg9 rfl (hX17.cell rfl) (L.op rfl rfl (O.move rfl (L.op rfl rfl (O.eql_str_t Tryz.runUnderlying9 rfl rfl how (?_))))))))))
            have g2 : decide ((appR xs (xRev nm x.nm)).2 = 8) = true := by rw [f2, hwd, decide_eq_true how]; rfl
            have g3 : decide ((appR xs (xWit nm x.nm)).2 = 8) = true := by rw [f3, hwd, hop, decide_eq_true how]; rfl
            have g5 : decide ((appR xs (xOpe nm x.nm)).2 = 8) = true := by rw [f5, hwd, hop, decide_eq_true how]; first | rfl | simp
            refine L.op rfl rfl (O.assign rfl (L.nil (T.seq (T.seq (?_)))))
            refine T.anyE mixed 20 [12, 15, 8, 17, 14, 16] rfl [.is _, .is _, .is (.bool true), .is _, .is _, .is _, .is _, .is _, .is _, .is _, .is _, .is _, .is _, .is _, .is _, .is _, .is _, .is (.bool true), .is _, .is _] [[], [], [0, 1], [], [3], [4], [5], [6, 5], [5, 7], [8], [9], [10, 9], [9, 11], [2, 12], [13], [14], [14], [15, 16, 14], [14], [18, 14]] [[], [], [0, 1], [], [3], [0, 1, 2, 3, 4], [0, 1, 2, 3, 4, 5], [0, 1, 2, 3, 4, 5, 6], [0, 1, 2, 3, 4, 5, 6, 7], [0, 1, 2, 3, 4, 5, 6, 7, 8], [0, 1, 2, 3, 4, 5, 6, 7, 8, 9], [0, 1, 2, 3, 4, 5, 6, 7, 8, 9, 10], [0, 1, 2, 3, 4, 5, 6, 7, 8, 9, 10, 11], [0, 1, 2, 3, 4, 5, 6, 7, 8, 9, 10, 11, 12], [0, 1, 2, 3, 4, 5, 6, 7, 8, 9, 10, 11, 12, 13], [0, 1, 2, 3, 4, 5, 6, 7, 8, 9, 10, 11, 12, 13, 14], [0, 1, 2, 3, 4, 5, 6, 7, 8, 9, 10, 11, 12, 13, 14], [0, 1, 2, 3, 4, 5, 6, 7, 8, 9, 10, 11, 12, 13, 14, 15, 16], [0, 1, 2, 3, 4, 5, 6, 7, 8, 9, 10, 11, 12, 13, 14], [0, 1, 2, 3, 4, 5, 6, 7, 8, 9, 10, 11, 12, 13, 14, 18], [0, 1, 2, 3, 4, 5, 6, 7, 8, 9, 10, 11, 12, 13, 14, 15, 16, 17, 18, 19], [0, 1, 2, 3, 4, 5, 6, 7, 8, 9, 10, 11, 12, 13, 14, 15, 16, 17, 18, 19, 20], [0, 1, 2, 3, 4, 5, 6, 7, 8, 9, 10, 11, 12, 13, 14, 15, 16, 17, 18, 19, 20, 21], [0, 1, 2, 3, 4, 5, 6, 7, 8, 9, 10, 11, 12, 13, 14, 15, 16, 17, 18, 19, 20, 21, 22], [0, 1, 2, 3, 4, 5, 6, 7, 8, 9, 10, 11, 12, 13, 14, 15, 16, 17, 18, 19, 20, 21, 22, 23], [0, 1, 2, 3, 4, 5, 6, 7, 8, 9, 10, 11, 12, 13, 14, 15, 16, 17, 18, 19, 20, 21, 22, 23, 24], [0, 1, 2, 3, 4, 5, 6, 7, 8, 9, 10, 11, 12, 13, 14, 15, 16, 17, 18, 19, 20, 21, 22, 23, 24, 25], [0, 1, 2, 3, 4, 5, 6, 7, 8, 9, 10, 11, 12, 13, 14, 15, 16, 17, 18, 19, 20, 21, 22, 23, 24, 25, 26], [0, 1, 2, 3, 4, 5, 6, 7, 8, 9, 10, 11, 12, 13, 14, 15, 16, 17, 18, 19, 20, 21, 22, 23, 24, 25, 26, 27], [0, 1, 2, 3, 4, 5, 6, 7, 8, 9, 10, 11, 12, 13, 14, 15, 16, 17, 18, 19, 20, 21, 22, 23, 24, 25, 26, 27, 28]] (by kernel_rfl) (by kernel_rfl) rfl (by kernel_rfl) trivial ⟨fun wx hx => Ob.op rfl (O.move rfl ⟨Keep.refl _ _, rfl⟩),
                fun wx hx => Ob.op rfl (O.loadAgg Tryz.isAgg42 Tryz.sizeOf42 rfl rfl ((hR17.ext hx).row) ⟨Keep.refl _ _, rfl⟩),
                fun wx hx => Ob.op rfl (O.call (xs := [.tmp 85]) Tryz.call16 rfl rfl (refused_calls b7 (.slice oh xs.length caph) xs (xRev nm x.nm) wx (hH17.ext hx) (hE17.ext hx) hok o2 (hL17.ext hx)) (fun v wy h => ⟨h.2, by rw [h.1, g2]; rfl⟩)),
                fun wx hx => Ob.op rfl (O.fieldAddr Tryz.runUnderlying32 rfl Tryz.sizeOf4 rfl ⟨Keep.refl _ _, rfl⟩),
                fun wx hx => Ob.op rfl (O.load Tryz.isAgg4 rfl ((hS17.ext hx).cell (v := .bool false) (by simp [stCells, hcl])) ⟨Keep.refl _ _, rfl⟩),
                fun wx hx => Ob.op rfl (O.move rfl ⟨Keep.refl _ _, rfl⟩),
                fun wx hx => Ob.op rfl (O.move rfl ⟨Keep.refl _ _, rfl⟩),
                fun wx hx => Ob.op rfl (O.not rfl ⟨Keep.refl _ _, rfl⟩),
                fun wx hx => Ob.op rfl (O.pick_false rfl rfl ⟨Keep.refl _ _, rfl⟩),
                fun wx hx => Ob.op rfl (O.move rfl ⟨Keep.refl _ _, rfl⟩),
                fun wx hx => Ob.op rfl (O.fieldAddr Tryz.runUnderlying39 rfl Tryz.sizeOf4 rfl ⟨Keep.refl _ _, rfl⟩),
                fun wx hx => Ob.op rfl (O.load Tryz.isAgg4 rfl ((hX17.ext hx).cell (v := .bool true) (by simp [It.cells, hwd])) ⟨Keep.refl _ _, rfl⟩),
                fun wx hx => Ob.op rfl (O.pick_false rfl rfl ⟨Keep.refl _ _, rfl⟩),
                fun wx hx => Ob.op rfl (O.neq_bool_f Tryz.runUnderlying4 rfl rfl rfl ⟨Keep.refl _ _, rfl⟩),
                fun wx hx => Ob.op rfl (O.move rfl ⟨Keep.refl _ _, rfl⟩),
                fun wx hx => Ob.op rfl (O.move rfl ⟨Keep.refl _ _, rfl⟩),
                fun wx hx => Ob.op rfl (O.loadAgg Tryz.isAgg42 Tryz.sizeOf42 rfl rfl ((hW17.ext hx).row) ⟨Keep.refl _ _, rfl⟩),
                fun wx hx => Ob.op rfl (O.call (xs := [.tmp 100]) Tryz.call16 rfl rfl (refused_calls b7 (.slice oh xs.length caph) xs (xWit nm x.nm) wx (hH17.ext hx) (hE17.ext hx) hok o3 (hL17.ext hx)) (fun v wy h => ⟨h.2, by rw [h.1, g3]; rfl⟩)),
                fun wx hx => Ob.op rfl (O.move rfl ⟨Keep.refl _ _, rfl⟩),
                fun wx hx => Ob.op rfl (O.not rfl ⟨Keep.refl _ _, rfl⟩),
                trivial⟩ (fun w21 he21 => ?_)
            refine L.op rfl rfl (O.move rfl (L.op rfl rfl (O.fieldAddr Tryz.runUnderlying39 rfl Tryz.sizeOf4 rfl (L.op rfl rfl (O.load Tryz.isAgg4 rfl ((hX17.ext he21).cell (v := .bool true) (by simp [It.cells, hwd])) (L.op rfl rfl (O.pick_false rfl rfl (L.op rfl rfl (O.move rfl (L.pass rfl rfl (L.pass rfl rfl (L.op rfl rfl (O.pick_true rfl rfl (L.op rfl rfl (O.neq_bool_f Tryz.runUnderlying4 rfl rfl rfl (?_))))))))))))))))
            have hH21 := hH17.ext he21
            have hE21 := hE17.ext he21
            have hL21 := hL17.ext he21
            have hX21 := hX17.ext he21
            have hS21 := hS17.ext he21
            refine L.op rfl rfl (O.pick_false rfl rfl (L.nil (T.cond_false rfl (T.skip (T.seq (T.seq (T.region (L.op rfl rfl (O.move rfl (L.op rfl rfl (O.move rfl (L.op rfl rfl (O.fieldAddr Tryz.runUnderlying39 rfl Tryz.sizeOf9 rfl (L.op rfl rfl (O.load Tryz.isAgg9 rfl (hX21.cell rfl) (L.op rfl rfl (O.build (v := (xSub nm x.nm).val) (parts := [(0, .const (.int .i64 1)), (1, .tmp 115), (2, .tmp 117)]) (vs := [(0, _), (1, _), (2, _)]) rfl (fun w => by kernel_rfl) (L.op rfl rfl (O.call (xs := [.tmp 118]) Tryz.call16 rfl rfl (refused_calls b7 (.slice oh xs.length caph) xs (xSub nm x.nm) w21 hH21 hE21 hok o6 hL21) (fun v119 w119 hq => ?_))))))))))))))))))))
            obtain ⟨hv119, he119⟩ := hq
            rw [f1] at hv119
            subst hv119
            refine L.op rfl rfl (O.not rfl (L.nil (T.cond_false rfl (T.skip (T.seq (T.region (L.op rfl rfl (O.move rfl (L.op rfl rfl (O.fieldAddr Tryz.runUnderlying39 rfl Tryz.sizeOf9 rfl (L.op rfl rfl (O.load Tryz.isAgg9 rfl ((hX21.ext he119).cell rfl) (L.op rfl rfl (O.build (v := (xOpe nm x.nm).val) (parts := [(0, .const (.int .i64 5)), (1, .tmp 121), (2, .tmp 123), (4, _), (5, _)]) (vs := [(0, _), (1, _), (2, _), (4, _), (5, _)]) rfl (fun w => by kernel_rfl) (L.op rfl rfl (O.alloc Tryz.zeroValue42 (fun b18 w18 hb18 hz18 he18 hB18 => ?_)))))))))))))))))
            refine L.op rfl rfl (O.storeAgg Tryz.sizeOf42 rfl rfl rfl hB18 (Nat.le_refl _) (En.one (xOpe nm x.nm)) (fun w22 hu22 hB22 => ?_))
            have hu22 : Upd b18 _ _ := hu22
            have hO22' : Blk w22 b18 (xOpe nm x.nm).cells 42 := hB22
            have he2122 := he119.trans (he18.upd hu22 (.inr (by omega)))
            have hH22 := hH21.ext he2122
            have hE22 := hE21.ext he2122
            have hL22 := hL21.ext he2122
            have hX22 := hX21.ext he2122
            have hS22 := hS21.ext he2122
            refine L.nil (T.seq (?_))
            refine T.anyE mixed 22 [12, 18, 8, 17, 14] rfl [.is _, .is _, .is (.bool true), .is _, .is _, .is _, .is _, .is undef, .is undef, .is _, .is _, .is undef, .is undef, .is _, .is _, .is undef, .is undef, .is _, .is _, .is undef, .is undef, .is undef] [[], [], [0, 1], [], [3], [4], [5], [6], [7, 6], [6, 8], [9], [10], [11, 10], [10, 12], [13], [14], [15, 14], [14, 16], [17], [18], [19, 18], [18]] [[], [], [0, 1], [], [3], [3, 4], [0, 1, 2, 3, 4, 5], [0, 1, 2, 3, 4, 5, 6], [0, 1, 2, 3, 4, 5, 6, 7], [0, 1, 2, 3, 4, 5, 6, 7, 8], [0, 1, 2, 3, 4, 5, 6, 7, 8, 9], [0, 1, 2, 3, 4, 5, 6, 7, 8, 9, 10], [0, 1, 2, 3, 4, 5, 6, 7, 8, 9, 10, 11], [0, 1, 2, 3, 4, 5, 6, 7, 8, 9, 10, 11, 12], [0, 1, 2, 3, 4, 5, 6, 7, 8, 9, 10, 11, 12, 13], [0, 1, 2, 3, 4, 5, 6, 7, 8, 9, 10, 11, 12, 13, 14], [0, 1, 2, 3, 4, 5, 6, 7, 8, 9, 10, 11, 12, 13, 14, 15], [0, 1, 2, 3, 4, 5, 6, 7, 8, 9, 10, 11, 12, 13, 14, 15, 16], [0, 1, 2, 3, 4, 5, 6, 7, 8, 9, 10, 11, 12, 13, 14, 15, 16, 17], [0, 1, 2, 3, 4, 5, 6, 7, 8, 9, 10, 11, 12, 13, 14, 15, 16, 17, 18], [0, 1, 2, 3, 4, 5, 6, 7, 8, 9, 10, 11, 12, 13, 14, 15, 16, 17, 18, 19], [0, 1, 2, 3, 4, 5, 6, 7, 8, 9, 10, 11, 12, 13, 14, 15, 16, 17, 18], [0, 1, 2, 3, 4, 5, 6, 7, 8, 9, 10, 11, 12, 13, 14, 15, 16, 17, 18, 19, 20, 21], [0, 1, 2, 3, 4, 5, 6, 7, 8, 9, 10, 11, 12, 13, 14, 15, 16, 17, 18, 19, 20, 21, 22], [0, 1, 2, 3, 4, 5, 6, 7, 8, 9, 10, 11, 12, 13, 14, 15, 16, 17, 18, 19, 20, 21, 22, 23]] (by kernel_rfl) (by kernel_rfl) rfl (by kernel_rfl) trivial ⟨fun wx hx => Ob.op rfl (O.move rfl ⟨Keep.refl _ _, rfl⟩),
                fun wx hx => Ob.op rfl (O.loadAgg Tryz.isAgg42 Tryz.sizeOf42 rfl rfl ((hO22'.ext hx).row) ⟨Keep.refl _ _, rfl⟩),
                fun wx hx => Ob.op rfl (O.call (xs := [.tmp 126]) Tryz.call16 rfl rfl (refused_calls b7 (.slice oh xs.length caph) xs (xOpe nm x.nm) wx (hH22.ext hx) (hE22.ext hx) hok o5 (hL22.ext hx)) (fun v wy h => ⟨h.2, by rw [h.1, g5]; rfl⟩)),
                fun wx hx => Ob.op rfl (O.fieldAddr Tryz.runUnderlying32 rfl Tryz.sizeOf4 rfl ⟨Keep.refl _ _, rfl⟩),
                fun wx hx => Ob.op rfl (O.load Tryz.isAgg4 rfl ((hS22.ext hx).cell (v := .bool false) (by simp [stCells, hcl])) ⟨Keep.refl _ _, rfl⟩),
                fun wx hx => Ob.op rfl (O.not rfl ⟨Keep.refl _ _, rfl⟩),
                fun wx hx => Ob.op rfl (O.move rfl ⟨Keep.refl _ _, rfl⟩),
                fun wx hx => Ob.pass rfl rfl,
                fun wx hx => Ob.pass rfl rfl,
                fun wx hx => Ob.op rfl (O.pick_true rfl rfl ⟨Keep.refl _ _, rfl⟩),
                fun wx hx => Ob.op rfl (O.move rfl ⟨Keep.refl _ _, rfl⟩),
                fun wx hx => Ob.pass rfl rfl,
                fun wx hx => Ob.pass rfl rfl,
                fun wx hx => Ob.op rfl (O.pick_true rfl rfl ⟨Keep.refl _ _, rfl⟩),
                fun wx hx => Ob.op rfl (O.move rfl ⟨Keep.refl _ _, rfl⟩),
                fun wx hx => Ob.pass rfl rfl,
                fun wx hx => Ob.pass rfl rfl,
                fun wx hx => Ob.op rfl (O.pick_true rfl rfl ⟨Keep.refl _ _, rfl⟩),
                fun wx hx => Ob.op rfl (O.move rfl ⟨Keep.refl _ _, rfl⟩),
                fun wx hx => Ob.pass rfl rfl,
                fun wx hx => Ob.pass rfl rfl,
                fun wx hx => Ob.pass rfl rfl,
                trivial⟩ (fun w26 he26 => ?_)
            refine L.pass rfl rfl (L.op rfl rfl (O.pick_true rfl rfl (L.op rfl rfl (O.neq_bool_f Tryz.runUnderlying4 rfl rfl rfl (L.nil (T.cond_false rfl (T.skip (T.blk (T.region (L.op rfl rfl (O.add64 rfl rfl (by (try dsimp only); omega) (L.op rfl rfl (O.move rfl (L.nil (T.again (j + 1) (by omega) ⟨rfl, rfl, rfl, rfl, rfl, rfl, rfl, trivial⟩ ⟨hjl, (he1017.trans (he21.trans he2122)).trans he26⟩)))))))))))))))
          · refine T.seq (T.region (L.op rfl rfl (O.fieldAddr Tryz.runUnderlying39 rfl Tryz.sizeOf9 rfl (L.op rfl rfl (O.load Tryz.isAgg9 rfl (hX17.cell rfl) (L.op rfl rfl (O.move rfl (L.op rfl rfl (O.eql_str_f Tryz.runUnderlying9 rfl rfl how (?_))))))))))
            have g2 : decide ((appR xs (xRev nm x.nm)).2 = 8) = true := by rw [f2, hwd, decide_eq_false how]; rfl
            have g3 : decide ((appR xs (xWit nm x.nm)).2 = 8) = true := by rw [f3, hwd, hop, decide_eq_false how]; rfl
            have g5 : decide ((appR xs (xOpe nm x.nm)).2 = 8) = true := by rw [f5, hwd, hop, decide_eq_false how]; first | rfl | simp
            refine L.op rfl rfl (O.assign rfl (L.nil (T.seq (T.seq (?_)))))
            refine T.anyE mixed 20 [12, 15, 8, 17, 14, 16] rfl [.is _, .is _, .is (.bool true), .is _, .is _, .is _, .is _, .is _, .is _, .is _, .is undef, .is undef, .is _, .is _, .is _, .is _, .is _, .is (.bool true), .is _, .is _] [[], [], [0, 1], [], [3], [4], [5], [6, 5], [5, 7], [8], [9], [10, 9], [9, 11], [2, 12], [13], [14], [14], [15, 16, 14], [14], [18, 14]] [[], [], [0, 1], [], [3], [0, 1, 2, 3, 4], [0, 1, 2, 3, 4, 5], [0, 1, 2, 3, 4, 5, 6], [0, 1, 2, 3, 4, 5, 6, 7], [0, 1, 2, 3, 4, 5, 6, 7, 8], [0, 1, 2, 3, 4, 5, 6, 7, 8, 9], [0, 1, 2, 3, 4, 5, 6, 7, 8, 9, 10], [0, 1, 2, 3, 4, 5, 6, 7, 8, 9, 10, 11], [0, 1, 2, 3, 4, 5, 6, 7, 8, 9, 10, 11, 12], [0, 1, 2, 3, 4, 5, 6, 7, 8, 9, 10, 11, 12, 13], [0, 1, 2, 3, 4, 5, 6, 7, 8, 9, 10, 11, 12, 13, 14], [0, 1, 2, 3, 4, 5, 6, 7, 8, 9, 10, 11, 12, 13, 14], [0, 1, 2, 3, 4, 5, 6, 7, 8, 9, 10, 11, 12, 13, 14, 15, 16], [0, 1, 2, 3, 4, 5, 6, 7, 8, 9, 10, 11, 12, 13, 14], [0, 1, 2, 3, 4, 5, 6, 7, 8, 9, 10, 11, 12, 13, 14, 18], [0, 1, 2, 3, 4, 5, 6, 7, 8, 9, 10, 11, 12, 13, 14, 15, 16, 17, 18, 19], [0, 1, 2, 3, 4, 5, 6, 7, 8, 9, 10, 11, 12, 13, 14, 15, 16, 17, 18, 19, 20], [0, 1, 2, 3, 4, 5, 6, 7, 8, 9, 10, 11, 12, 13, 14, 15, 16, 17, 18, 19, 20, 21], [0, 1, 2, 3, 4, 5, 6, 7, 8, 9, 10, 11, 12, 13, 14, 15, 16, 17, 18, 19, 20, 21, 22], [0, 1, 2, 3, 4, 5, 6, 7, 8, 9, 10, 11, 12, 13, 14, 15, 16, 17, 18, 19, 20, 21, 22, 23], [0, 1, 2, 3, 4, 5, 6, 7, 8, 9, 10, 11, 12, 13, 14, 15, 16, 17, 18, 19, 20, 21, 22, 23, 24], [0, 1, 2, 3, 4, 5, 6, 7, 8, 9, 10, 11, 12, 13, 14, 15, 16, 17, 18, 19, 20, 21, 22, 23, 24, 25], [0, 1, 2, 3, 4, 5, 6, 7, 8, 9, 10, 11, 12, 13, 14, 15, 16, 17, 18, 19, 20, 21, 22, 23, 24, 25, 26], [0, 1, 2, 3, 4, 5, 6, 7, 8, 9, 10, 11, 12, 13, 14, 15, 16, 17, 18, 19, 20, 21, 22, 23, 24, 25, 26, 27], [0, 1, 2, 3, 4, 5, 6, 7, 8, 9, 10, 11, 12, 13, 14, 15, 16, 17, 18, 19, 20, 21, 22, 23, 24, 25, 26, 27, 28]] (by kernel_rfl) (by kernel_rfl) rfl (by kernel_rfl) trivial ⟨fun wx hx => Ob.op rfl (O.move rfl ⟨Keep.refl _ _, rfl⟩),
                fun wx hx => Ob.op rfl (O.loadAgg Tryz.isAgg42 Tryz.sizeOf42 rfl rfl ((hR17.ext hx).row) ⟨Keep.refl _ _, rfl⟩),
                fun wx hx => Ob.op rfl (O.call (xs := [.tmp 85]) Tryz.call16 rfl rfl (refused_calls b7 (.slice oh xs.length caph) xs (xRev nm x.nm) wx (hH17.ext hx) (hE17.ext hx) hok o2 (hL17.ext hx)) (fun v wy h => ⟨h.2, by rw [h.1, g2]; rfl⟩)),
                fun wx hx => Ob.op rfl (O.fieldAddr Tryz.runUnderlying32 rfl Tryz.sizeOf4 rfl ⟨Keep.refl _ _, rfl⟩),
                fun wx hx => Ob.op rfl (O.load Tryz.isAgg4 rfl ((hS17.ext hx).cell (v := .bool false) (by simp [stCells, hcl])) ⟨Keep.refl _ _, rfl⟩),
                fun wx hx => Ob.op rfl (O.move rfl ⟨Keep.refl _ _, rfl⟩),
                fun wx hx => Ob.op rfl (O.move rfl ⟨Keep.refl _ _, rfl⟩),
                fun wx hx => Ob.op rfl (O.not rfl ⟨Keep.refl _ _, rfl⟩),
                fun wx hx => Ob.op rfl (O.pick_false rfl rfl ⟨Keep.refl _ _, rfl⟩),
                fun wx hx => Ob.op rfl (O.move rfl ⟨Keep.refl _ _, rfl⟩),
                fun wx hx => Ob.pass rfl rfl,
                fun wx hx => Ob.pass rfl rfl,
                fun wx hx => Ob.op rfl (O.pick_true rfl rfl ⟨Keep.refl _ _, rfl⟩),
                fun wx hx => Ob.op rfl (O.neq_bool_f Tryz.runUnderlying4 rfl rfl rfl ⟨Keep.refl _ _, rfl⟩),
                fun wx hx => Ob.op rfl (O.move rfl ⟨Keep.refl _ _, rfl⟩),
                fun wx hx => Ob.op rfl (O.move rfl ⟨Keep.refl _ _, rfl⟩),
                fun wx hx => Ob.op rfl (O.loadAgg Tryz.isAgg42 Tryz.sizeOf42 rfl rfl ((hW17.ext hx).row) ⟨Keep.refl _ _, rfl⟩),
                fun wx hx => Ob.op rfl (O.call (xs := [.tmp 100]) Tryz.call16 rfl rfl (refused_calls b7 (.slice oh xs.length caph) xs (xWit nm x.nm) wx (hH17.ext hx) (hE17.ext hx) hok o3 (hL17.ext hx)) (fun v wy h => ⟨h.2, by rw [h.1, g3]; rfl⟩)),
                fun wx hx => Ob.op rfl (O.move rfl ⟨Keep.refl _ _, rfl⟩),
                fun wx hx => Ob.op rfl (O.not rfl ⟨Keep.refl _ _, rfl⟩),
                trivial⟩ (fun w21 he21 => ?_)
            refine L.op rfl rfl (O.move rfl (L.pass rfl rfl (L.pass rfl rfl (L.op rfl rfl (O.pick_true rfl rfl (L.op rfl rfl (O.move rfl (L.pass rfl rfl (L.pass rfl rfl (L.op rfl rfl (O.pick_true rfl rfl (L.op rfl rfl (O.neq_bool_f Tryz.runUnderlying4 rfl rfl rfl (?_))))))))))))))
            have hH21 := hH17.ext he21
            have hE21 := hE17.ext he21
            have hL21 := hL17.ext he21
            have hX21 := hX17.ext he21
            have hS21 := hS17.ext he21
            refine L.op rfl rfl (O.pick_false rfl rfl (L.nil (T.cond_false rfl (T.skip (T.seq (T.seq (T.region (L.op rfl rfl (O.move rfl (L.op rfl rfl (O.move rfl (L.op rfl rfl (O.fieldAddr Tryz.runUnderlying39 rfl Tryz.sizeOf9 rfl (L.op rfl rfl (O.load Tryz.isAgg9 rfl (hX21.cell rfl) (L.op rfl rfl (O.build (v := (xSub nm x.nm).val) (parts := [(0, .const (.int .i64 1)), (1, .tmp 115), (2, .tmp 117)]) (vs := [(0, _), (1, _), (2, _)]) rfl (fun w => by kernel_rfl) (L.op rfl rfl (O.call (xs := [.tmp 118]) Tryz.call16 rfl rfl (refused_calls b7 (.slice oh xs.length caph) xs (xSub nm x.nm) w21 hH21 hE21 hok o6 hL21) (fun v119 w119 hq => ?_))))))))))))))))))))
            obtain ⟨hv119, he119⟩ := hq
            rw [f1] at hv119
            subst hv119
            refine L.op rfl rfl (O.not rfl (L.nil (T.cond_false rfl (T.skip (T.seq (T.region (L.op rfl rfl (O.move rfl (L.op rfl rfl (O.fieldAddr Tryz.runUnderlying39 rfl Tryz.sizeOf9 rfl (L.op rfl rfl (O.load Tryz.isAgg9 rfl ((hX21.ext he119).cell rfl) (L.op rfl rfl (O.build (v := (xOpe nm x.nm).val) (parts := [(0, .const (.int .i64 5)), (1, .tmp 121), (2, .tmp 123), (4, _), (5, _)]) (vs := [(0, _), (1, _), (2, _), (4, _), (5, _)]) rfl (fun w => by kernel_rfl) (L.op rfl rfl (O.alloc Tryz.zeroValue42 (fun b18 w18 hb18 hz18 he18 hB18 => ?_)))))))))))))))))
            refine L.op rfl rfl (O.storeAgg Tryz.sizeOf42 rfl rfl rfl hB18 (Nat.le_refl _) (En.one (xOpe nm x.nm)) (fun w22 hu22 hB22 => ?_))
            have hu22 : Upd b18 _ _ := hu22
            have hO22' : Blk w22 b18 (xOpe nm x.nm).cells 42 := hB22
            have he2122 := he119.trans (he18.upd hu22 (.inr (by omega)))
            have hH22 := hH21.ext he2122
            have hE22 := hE21.ext he2122
            have hL22 := hL21.ext he2122
            have hX22 := hX21.ext he2122
            have hS22 := hS21.ext he2122
            refine L.nil (T.seq (?_))
            refine T.anyE mixed 22 [12, 18, 8, 17, 14] rfl [.is _, .is _, .is (.bool true), .is _, .is _, .is _, .is _, .is undef, .is undef, .is _, .is _, .is undef, .is undef, .is _, .is _, .is undef, .is undef, .is _, .is _, .is undef, .is undef, .is undef] [[], [], [0, 1], [], [3], [4], [5], [6], [7, 6], [6, 8], [9], [10], [11, 10], [10, 12], [13], [14], [15, 14], [14, 16], [17], [18], [19, 18], [18]] [[], [], [0, 1], [], [3], [3, 4], [0, 1, 2, 3, 4, 5], [0, 1, 2, 3, 4, 5, 6], [0, 1, 2, 3, 4, 5, 6, 7], [0, 1, 2, 3, 4, 5, 6, 7, 8], [0, 1, 2, 3, 4, 5, 6, 7, 8, 9], [0, 1, 2, 3, 4, 5, 6, 7, 8, 9, 10], [0, 1, 2, 3, 4, 5, 6, 7, 8, 9, 10, 11], [0, 1, 2, 3, 4, 5, 6, 7, 8, 9, 10, 11, 12], [0, 1, 2, 3, 4, 5, 6, 7, 8, 9, 10, 11, 12, 13], [0, 1, 2, 3, 4, 5, 6, 7, 8, 9, 10, 11, 12, 13, 14], [0, 1, 2, 3, 4, 5, 6, 7, 8, 9, 10, 11, 12, 13, 14, 15], [0, 1, 2, 3, 4, 5, 6, 7, 8, 9, 10, 11, 12, 13, 14, 15, 16], [0, 1, 2, 3, 4, 5, 6, 7, 8, 9, 10, 11, 12, 13, 14, 15, 16, 17], [0, 1, 2, 3, 4, 5, 6, 7, 8, 9, 10, 11, 12, 13, 14, 15, 16, 17, 18], [0, 1, 2, 3, 4, 5, 6, 7, 8, 9, 10, 11, 12, 13, 14, 15, 16, 17, 18, 19], [0, 1, 2, 3, 4, 5, 6, 7, 8, 9, 10, 11, 12, 13, 14, 15, 16, 17, 18], [0, 1, 2, 3, 4, 5, 6, 7, 8, 9, 10, 11, 12, 13, 14, 15, 16, 17, 18, 19, 20, 21], [0, 1, 2, 3, 4, 5, 6, 7, 8, 9, 10, 11, 12, 13, 14, 15, 16, 17, 18, 19, 20, 21, 22], [0, 1, 2, 3, 4, 5, 6, 7, 8, 9, 10, 11, 12, 13, 14, 15, 16, 17, 18, 19, 20, 21, 22, 23]] (by kernel_rfl) (by kernel_rfl) rfl (by kernel_rfl) trivial ⟨fun wx hx => Ob.op rfl (O.move rfl ⟨Keep.refl _ _, rfl⟩),
                fun wx hx => Ob.op rfl (O.loadAgg Tryz.isAgg42 Tryz.sizeOf42 rfl rfl ((hO22'.ext hx).row) ⟨Keep.refl _ _, rfl⟩),
                fun wx hx => Ob.op rfl (O.call (xs := [.tmp 126]) Tryz.call16 rfl rfl (refused_calls b7 (.slice oh xs.length caph) xs (xOpe nm x.nm) wx (hH22.ext hx) (hE22.ext hx) hok o5 (hL22.ext hx)) (fun v wy h => ⟨h.2, by rw [h.1, g5]; rfl⟩)),
                fun wx hx => Ob.op rfl (O.fieldAddr Tryz.runUnderlying32 rfl Tryz.sizeOf4 rfl ⟨Keep.refl _ _, rfl⟩),
                fun wx hx => Ob.op rfl (O.load Tryz.isAgg4 rfl ((hS22.ext hx).cell (v := .bool false) (by simp [stCells, hcl])) ⟨Keep.refl _ _, rfl⟩),
                fun wx hx => Ob.op rfl (O.not rfl ⟨Keep.refl _ _, rfl⟩),
                fun wx hx => Ob.op rfl (O.move rfl ⟨Keep.refl _ _, rfl⟩),
                fun wx hx => Ob.pass rfl rfl,
                fun wx hx => Ob.pass rfl rfl,
                fun wx hx => Ob.op rfl (O.pick_true rfl rfl ⟨Keep.refl _ _, rfl⟩),
                fun wx hx => Ob.op rfl (O.move rfl ⟨Keep.refl _ _, rfl⟩),
                fun wx hx => Ob.pass rfl rfl,
                fun wx hx => Ob.pass rfl rfl,
                fun wx hx => Ob.op rfl (O.pick_true rfl rfl ⟨Keep.refl _ _, rfl⟩),
                fun wx hx => Ob.op rfl (O.move rfl ⟨Keep.refl _ _, rfl⟩),
                fun wx hx => Ob.pass rfl rfl,
                fun wx hx => Ob.pass rfl rfl,
                fun wx hx => Ob.op rfl (O.pick_true rfl rfl ⟨Keep.refl _ _, rfl⟩),
                fun wx hx => Ob.op rfl (O.move rfl ⟨Keep.refl _ _, rfl⟩),
                fun wx hx => Ob.pass rfl rfl,
                fun wx hx => Ob.pass rfl rfl,
                fun wx hx => Ob.pass rfl rfl,
                trivial⟩ (fun w26 he26 => ?_)
            refine L.pass rfl rfl (L.op rfl rfl (O.pick_true rfl rfl (L.op rfl rfl (O.neq_bool_f Tryz.runUnderlying4 rfl rfl rfl (L.nil (T.cond_false rfl (T.skip (T.blk (T.region (L.op rfl rfl (O.add64 rfl rfl (by (try dsimp only); omega) (L.op rfl rfl (O.move rfl (L.nil (T.again (j + 1) (by omega) ⟨rfl, rfl, rfl, rfl, rfl, rfl, rfl, trivial⟩ ⟨hjl, (he1017.trans (he21.trans he2122)).trans he26⟩)))))))))))))))
        · by_cases how : x.ow = nm
          · refine T.seq (T.region (L.op rfl rfl (O.fieldAddr Tryz.runUnderlying39 rfl Tryz.sizeOf9 rfl (L.op rfl rfl (O.load Tryz.isAgg9 rfl (hX17.cell rfl) (L.op rfl rfl (O.move rfl (L.op rfl rfl (O.eql_str_t Tryz.runUnderlying9 rfl rfl how (?_))))))))))
            have g2 : decide ((appR xs (xRev nm x.nm)).2 = 8) = true := by rw [f2, hwd, decide_eq_true how]; rfl
            have g3 : decide ((appR xs (xWit nm x.nm)).2 = 8) = true := by rw [f3, hwd, hop, decide_eq_true how]; rfl
            have g5 : decide ((appR xs (xOpe nm x.nm)).2 = 8) = true := by rw [f5, hwd, hop, decide_eq_true how]; first | rfl | simp
            refine L.op rfl rfl (O.assign rfl (L.nil (T.seq (T.seq (?_)))))
            refine T.anyE mixed 20 [12, 15, 8, 17, 14, 16] rfl [.is _, .is _, .is (.bool true), .is _, .is _, .is _, .is _, .is _, .is _, .is _, .is _, .is _, .is _, .is _, .is _, .is _, .is _, .is (.bool true), .is _, .is _] [[], [], [0, 1], [], [3], [4], [5], [6, 5], [5, 7], [8], [9], [10, 9], [9, 11], [2, 12], [13], [14], [14], [15, 16, 14], [14], [18, 14]] [[], [], [0, 1], [], [3], [0, 1, 2, 3, 4], [0, 1, 2, 3, 4, 5], [0, 1, 2, 3, 4, 5, 6], [0, 1, 2, 3, 4, 5, 6, 7], [0, 1, 2, 3, 4, 5, 6, 7, 8], [0, 1, 2, 3, 4, 5, 6, 7, 8, 9], [0, 1, 2, 3, 4, 5, 6, 7, 8, 9, 10], [0, 1, 2, 3, 4, 5, 6, 7, 8, 9, 10, 11], [0, 1, 2, 3, 4, 5, 6, 7, 8, 9, 10, 11, 12], [0, 1, 2, 3, 4, 5, 6, 7, 8, 9, 10, 11, 12, 13], [0, 1, 2, 3, 4, 5, 6, 7, 8, 9, 10, 11, 12, 13, 14], [0, 1, 2, 3, 4, 5, 6, 7, 8, 9, 10, 11, 12, 13, 14], [0, 1, 2, 3, 4, 5, 6, 7, 8, 9, 10, 11, 12, 13, 14, 15, 16], [0, 1, 2, 3, 4, 5, 6, 7, 8, 9, 10, 11, 12, 13, 14], [0, 1, 2, 3, 4, 5, 6, 7, 8, 9, 10, 11, 12, 13, 14, 18], [0, 1, 2, 3, 4, 5, 6, 7, 8, 9, 10, 11, 12, 13, 14, 15, 16, 17, 18, 19], [0, 1, 2, 3, 4, 5, 6, 7, 8, 9, 10, 11, 12, 13, 14, 15, 16, 17, 18, 19, 20], [0, 1, 2, 3, 4, 5, 6, 7, 8, 9, 10, 11, 12, 13, 14, 15, 16, 17, 18, 19, 20, 21], [0, 1, 2, 3, 4, 5, 6, 7, 8, 9, 10, 11, 12, 13, 14, 15, 16, 17, 18, 19, 20, 21, 22], [0, 1, 2, 3, 4, 5, 6, 7, 8, 9, 10, 11, 12, 13, 14, 15, 16, 17, 18, 19, 20, 21, 22, 23], [0, 1, 2, 3, 4, 5, 6, 7, 8, 9, 10, 11, 12, 13, 14, 15, 16, 17, 18, 19, 20, 21, 22, 23, 24], [0, 1, 2, 3, 4, 5, 6, 7, 8, 9, 10, 11, 12, 13, 14, 15, 16, 17, 18, 19, 20, 21, 22, 23, 24, 25], [0, 1, 2, 3, 4, 5, 6, 7, 8, 9, 10, 11, 12, 13, 14, 15, 16, 17, 18, 19, 20, 21, 22, 23, 24, 25, 26], [0, 1, 2, 3, 4, 5, 6, 7, 8, 9, 10, 11, 12, 13, 14, 15, 16, 17, 18, 19, 20, 21, 22, 23, 24, 25, 26, 27], [0, 1, 2, 3, 4, 5, 6, 7, 8, 9, 10, 11, 12, 13, 14, 15, 16, 17, 18, 19, 20, 21, 22, 23, 24, 25, 26, 27, 28]] (by kernel_rfl) (by kernel_rfl) rfl (by kernel_rfl) trivial ⟨fun wx hx => Ob.op rfl (O.move rfl ⟨Keep.refl _ _, rfl⟩),
                fun wx hx => Ob.op rfl (O.loadAgg Tryz.isAgg42 Tryz.sizeOf42 rfl rfl ((hR17.ext hx).row) ⟨Keep.refl _ _, rfl⟩),
                fun wx hx => Ob.op rfl (O.call (xs := [.tmp 85]) Tryz.call16 rfl rfl (refused_calls b7 (.slice oh xs.length caph) xs (xRev nm x.nm) wx (hH17.ext hx) (hE17.ext hx) hok o2 (hL17.ext hx)) (fun v wy h => ⟨h.2, by rw [h.1, g2]; rfl⟩)),
                fun wx hx => Ob.op rfl (O.fieldAddr Tryz.runUnderlying32 rfl Tryz.sizeOf4 rfl ⟨Keep.refl _ _, rfl⟩),
                fun wx hx => Ob.op rfl (O.load Tryz.isAgg4 rfl ((hS17.ext hx).cell (v := .bool false) (by simp [stCells, hcl])) ⟨Keep.refl _ _, rfl⟩),
                fun wx hx => Ob.op rfl (O.move rfl ⟨Keep.refl _ _, rfl⟩),
                fun wx hx => Ob.op rfl (O.move rfl ⟨Keep.refl _ _, rfl⟩),
                fun wx hx => Ob.op rfl (O.not rfl ⟨Keep.refl _ _, rfl⟩),
                fun wx hx => Ob.op rfl (O.pick_false rfl rfl ⟨Keep.refl _ _, rfl⟩),
                fun wx hx => Ob.op rfl (O.move rfl ⟨Keep.refl _ _, rfl⟩),
                fun wx hx => Ob.op rfl (O.fieldAddr Tryz.runUnderlying39 rfl Tryz.sizeOf4 rfl ⟨Keep.refl _ _, rfl⟩),
                fun wx hx => Ob.op rfl (O.load Tryz.isAgg4 rfl ((hX17.ext hx).cell (v := .bool true) (by simp [It.cells, hwd])) ⟨Keep.refl _ _, rfl⟩),
                fun wx hx => Ob.op rfl (O.pick_false rfl rfl ⟨Keep.refl _ _, rfl⟩),
                fun wx hx => Ob.op rfl (O.neq_bool_f Tryz.runUnderlying4 rfl rfl rfl ⟨Keep.refl _ _, rfl⟩),
                fun wx hx => Ob.op rfl (O.move rfl ⟨Keep.refl _ _, rfl⟩),
                fun wx hx => Ob.op rfl (O.move rfl ⟨Keep.refl _ _, rfl⟩),
                fun wx hx => Ob.op rfl (O.loadAgg Tryz.isAgg42 Tryz.sizeOf42 rfl rfl ((hW17.ext hx).row) ⟨Keep.refl _ _, rfl⟩),
                fun wx hx => Ob.op rfl (O.call (xs := [.tmp 100]) Tryz.call16 rfl rfl (refused_calls b7 (.slice oh xs.length caph) xs (xWit nm x.nm) wx (hH17.ext hx) (hE17.ext hx) hok o3 (hL17.ext hx)) (fun v wy h => ⟨h.2, by rw [h.1, g3]; rfl⟩)),
                fun wx hx => Ob.op rfl (O.move rfl ⟨Keep.refl _ _, rfl⟩),
                fun wx hx => Ob.op rfl (O.not rfl ⟨Keep.refl _ _, rfl⟩),
                trivial⟩ (fun w21 he21 => ?_)
            refine L.op rfl rfl (O.move rfl (L.op rfl rfl (O.fieldAddr Tryz.runUnderlying39 rfl Tryz.sizeOf4 rfl (L.op rfl rfl (O.load Tryz.isAgg4 rfl ((hX17.ext he21).cell (v := .bool true) (by simp [It.cells, hwd])) (L.op rfl rfl (O.pick_false rfl rfl (L.op rfl rfl (O.move rfl (L.pass rfl rfl (L.pass rfl rfl (L.op rfl rfl (O.pick_true rfl rfl (L.op rfl rfl (O.neq_bool_f Tryz.runUnderlying4 rfl rfl rfl (?_))))))))))))))))
            have hH21 := hH17.ext he21
            have hE21 := hE17.ext he21
            have hL21 := hL17.ext he21
            have hX21 := hX17.ext he21
            have hS21 := hS17.ext he21
            refine L.op rfl rfl (O.pick_false rfl rfl (L.nil (T.cond_false rfl (T.skip (T.seq (T.seq (T.region (L.op rfl rfl (O.move rfl (L.op rfl rfl (O.move rfl (L.op rfl rfl (O.fieldAddr Tryz.runUnderlying39 rfl Tryz.sizeOf9 rfl (L.op rfl rfl (O.load Tryz.isAgg9 rfl (hX21.cell rfl) (L.op rfl rfl (O.build (v := (xSub nm x.nm).val) (parts := [(0, .const (.int .i64 1)), (1, .tmp 115), (2, .tmp 117)]) (vs := [(0, _), (1, _), (2, _)]) rfl (fun w => by kernel_rfl) (L.op rfl rfl (O.call (xs := [.tmp 118]) Tryz.call16 rfl rfl (refused_calls b7 (.slice oh xs.length caph) xs (xSub nm x.nm) w21 hH21 hE21 hok o6 hL21) (fun v119 w119 hq => ?_))))))))))))))))))))
            obtain ⟨hv119, he119⟩ := hq
            rw [f1] at hv119
            subst hv119
            refine L.op rfl rfl (O.not rfl (L.nil (T.cond_false rfl (T.skip (T.seq (T.region (L.op rfl rfl (O.move rfl (L.op rfl rfl (O.fieldAddr Tryz.runUnderlying39 rfl Tryz.sizeOf9 rfl (L.op rfl rfl (O.load Tryz.isAgg9 rfl ((hX21.ext he119).cell rfl) (L.op rfl rfl (O.build (v := (xOpe nm x.nm).val) (parts := [(0, .const (.int .i64 5)), (1, .tmp 121), (2, .tmp 123), (4, _), (5, _)]) (vs := [(0, _), (1, _), (2, _), (4, _), (5, _)]) rfl (fun w => by kernel_rfl) (L.op rfl rfl (O.alloc Tryz.zeroValue42 (fun b18 w18 hb18 hz18 he18 hB18 => ?_)))))))))))))))))
            refine L.op rfl rfl (O.storeAgg Tryz.sizeOf42 rfl rfl rfl hB18 (Nat.le_refl _) (En.one (xOpe nm x.nm)) (fun w22 hu22 hB22 => ?_))
            have hu22 : Upd b18 _ _ := hu22
            have hO22' : Blk w22 b18 (xOpe nm x.nm).cells 42 := hB22
            have he2122 := he119.trans (he18.upd hu22 (.inr (by omega)))
            have hH22 := hH21.ext he2122
            have hE22 := hE21.ext he2122
            have hL22 := hL21.ext he2122
            have hX22 := hX21.ext he2122
            have hS22 := hS21.ext he2122
            refine L.nil (T.seq (?_))
            refine T.anyE mixed 22 [12, 18, 8, 17, 14] rfl [.is _, .is _, .is (.bool true), .is _, .is _, .is _, .is _, .is undef, .is undef, .is _, .is _, .is undef, .is undef, .is _, .is _, .is undef, .is undef, .is _, .is _, .is undef, .is undef, .is undef] [[], [], [0, 1], [], [3], [4], [5], [6], [7, 6], [6, 8], [9], [10], [11, 10], [10, 12], [13], [14], [15, 14], [14, 16], [17], [18], [19, 18], [18]] [[], [], [0, 1], [], [3], [3, 4], [0, 1, 2, 3, 4, 5], [0, 1, 2, 3, 4, 5, 6], [0, 1, 2, 3, 4, 5, 6, 7], [0, 1, 2, 3, 4, 5, 6, 7, 8], [0, 1, 2, 3, 4, 5, 6, 7, 8, 9], [0, 1, 2, 3, 4, 5, 6, 7, 8, 9, 10], [0, 1, 2, 3, 4, 5, 6, 7, 8, 9, 10, 11], [0, 1, 2, 3, 4, 5, 6, 7, 8, 9, 10, 11, 12], [0, 1, 2, 3, 4, 5, 6, 7, 8, 9, 10, 11, 12, 13], [0, 1, 2, 3, 4, 5, 6, 7, 8, 9, 10, 11, 12, 13, 14], [0, 1, 2, 3, 4, 5, 6, 7, 8, 9, 10, 11, 12, 13, 14, 15], [0, 1, 2, 3, 4, 5, 6, 7, 8, 9, 10, 11, 12, 13, 14, 15, 16], [0, 1, 2, 3, 4, 5, 6, 7, 8, 9, 10, 11, 12, 13, 14, 15, 16, 17], [0, 1, 2, 3, 4, 5, 6, 7, 8, 9, 10, 11, 12, 13, 14, 15, 16, 17, 18], [0, 1, 2, 3, 4, 5, 6, 7, 8, 9, 10, 11, 12, 13, 14, 15, 16, 17, 18, 19], [0, 1, 2, 3, 4, 5, 6, 7, 8, 9, 10, 11, 12, 13, 14, 15, 16, 17, 18], [0, 1, 2, 3, 4, 5, 6, 7, 8, 9, 10, 11, 12, 13, 14, 15, 16, 17, 18, 19, 20, 21], [0, 1, 2, 3, 4, 5, 6, 7, 8, 9, 10, 11, 12, 13, 14, 15, 16, 17, 18, 19, 20, 21, 22], [0, 1, 2, 3, 4, 5, 6, 7, 8, 9, 10, 11, 12, 13, 14, 15, 16, 17, 18, 19, 20, 21, 22, 23]] (by kernel_rfl) (by kernel_rfl) rfl (by kernel_rfl) trivial ⟨fun wx hx => Ob.op rfl (O.move rfl ⟨Keep.refl _ _, rfl⟩),
                fun wx hx => Ob.op rfl (O.loadAgg Tryz.isAgg42 Tryz.sizeOf42 rfl rfl ((hO22'.ext hx).row) ⟨Keep.refl _ _, rfl⟩),
                fun wx hx => Ob.op rfl (O.call (xs := [.tmp 126]) Tryz.call16 rfl rfl (refused_calls b7 (.slice oh xs.length caph) xs (xOpe nm x.nm) wx (hH22.ext hx) (hE22.ext hx) hok o5 (hL22.ext hx)) (fun v wy h => ⟨h.2, by rw [h.1, g5]; rfl⟩)),
                fun wx hx => Ob.op rfl (O.fieldAddr Tryz.runUnderlying32 rfl Tryz.sizeOf4 rfl ⟨Keep.refl _ _, rfl⟩),
                fun wx hx => Ob.op rfl (O.load Tryz.isAgg4 rfl ((hS22.ext hx).cell (v := .bool false) (by simp [stCells, hcl])) ⟨Keep.refl _ _, rfl⟩),
                fun wx hx => Ob.op rfl (O.not rfl ⟨Keep.refl _ _, rfl⟩),
                fun wx hx => Ob.op rfl (O.move rfl ⟨Keep.refl _ _, rfl⟩),
                fun wx hx => Ob.pass rfl rfl,
                fun wx hx => Ob.pass rfl rfl,
                fun wx hx => Ob.op rfl (O.pick_true rfl rfl ⟨Keep.refl _ _, rfl⟩),
                fun wx hx => Ob.op rfl (O.move rfl ⟨Keep.refl _ _, rfl⟩),
                fun wx hx => Ob.pass rfl rfl,
                fun wx hx => Ob.pass rfl rfl,
                fun wx hx => Ob.op rfl (O.pick_true rfl rfl ⟨Keep.refl _ _, rfl⟩),
                fun wx hx => Ob.op rfl (O.move rfl ⟨Keep.refl _ _, rfl⟩),
                fun wx hx => Ob.pass rfl rfl,
                fun wx hx => Ob.pass rfl rfl,
                fun wx hx => Ob.op rfl (O.pick_true rfl rfl ⟨Keep.refl _ _, rfl⟩),
                fun wx hx => Ob.op rfl (O.move rfl ⟨Keep.refl _ _, rfl⟩),
                fun wx hx => Ob.pass rfl rfl,
                fun wx hx => Ob.pass rfl rfl,
                fun wx hx => Ob.pass rfl rfl,
                trivial⟩ (fun w26 he26 => ?_)
            refine L.pass rfl rfl (L.op rfl rfl (O.pick_true rfl rfl (L.op rfl rfl (O.neq_bool_f Tryz.runUnderlying4 rfl rfl rfl (L.nil (T.cond_false rfl (T.skip (T.blk (T.region (L.op rfl rfl (O.add64 rfl rfl (by (try dsimp only); omega) (L.op rfl rfl (O.move rfl (L.nil (T.again (j + 1) (by omega) ⟨rfl, rfl, rfl, rfl, rfl, rfl, rfl, trivial⟩ ⟨hjl, (he1017.trans (he21.trans he2122)).trans he26⟩)))))))))))))))
          · refine T.seq (T.region (L.op rfl rfl (O.fieldAddr Tryz.runUnderlying39 rfl Tryz.sizeOf9 rfl (L.op rfl rfl (O.load Tryz.isAgg9 rfl (hX17.cell rfl) (L.op rfl rfl (O.move rfl (L.op rfl rfl (O.eql_str_f Tryz.runUnderlying9 rfl rfl how (?_))))))))))
            have g2 : decide ((appR xs (xRev nm x.nm)).2 = 8) = true := by rw [f2, hwd, decide_eq_false how]; rfl
            have g3 : decide ((appR xs (xWit nm x.nm)).2 = 8) = true := by rw [f3, hwd, hop, decide_eq_false how]; rfl
            have g5 : decide ((appR xs (xOpe nm x.nm)).2 = 8) = true := by rw [f5, hwd, hop, decide_eq_false how]; first | rfl | simp
            refine L.op rfl rfl (O.assign rfl (L.nil (T.seq (T.seq (?_)))))
            refine T.anyE mixed 20 [12, 15, 8, 17, 14, 16] rfl [.is _, .is _, .is (.bool true), .is _, .is _, .is _, .is _, .is _, .is _, .is _, .is undef, .is undef, .is _, .is _, .is _, .is _, .is _, .is (.bool true), .is _, .is _] [[], [], [0, 1], [], [3], [4], [5], [6, 5], [5, 7], [8], [9], [10, 9], [9, 11], [2, 12], [13], [14], [14], [15, 16, 14], [14], [18, 14]] [[], [], [0, 1], [], [3], [0, 1, 2, 3, 4], [0, 1, 2, 3, 4, 5], [0, 1, 2, 3, 4, 5, 6], [0, 1, 2, 3, 4, 5, 6, 7], [0, 1, 2, 3, 4, 5, 6, 7, 8], [0, 1, 2, 3, 4, 5, 6, 7, 8, 9], [0, 1, 2, 3, 4, 5, 6, 7, 8, 9, 10], [0, 1, 2, 3, 4, 5, 6, 7, 8, 9, 10, 11], [0, 1, 2, 3, 4, 5, 6, 7, 8, 9, 10, 11, 12], [0, 1, 2, 3, 4, 5, 6, 7, 8, 9, 10, 11, 12, 13], [0, 1, 2, 3, 4, 5, 6, 7, 8, 9, 10, 11, 12, 13, 14], [0, 1, 2, 3, 4, 5, 6, 7, 8, 9, 10, 11, 12, 13, 14], [0, 1, 2, 3, 4, 5, 6, 7, 8, 9, 10, 11, 12, 13, 14, 15, 16], [0, 1, 2, 3, 4, 5, 6, 7, 8, 9, 10, 11, 12, 13, 14], [0, 1, 2, 3, 4, 5, 6, 7, 8, 9, 10, 11, 12, 13, 14, 18], [0, 1, 2, 3, 4, 5, 6, 7, 8, 9, 10, 11, 12, 13, 14, 15, 16, 17, 18, 19], [0, 1, 2, 3, 4, 5, 6, 7, 8, 9, 10, 11, 12, 13, 14, 15, 16, 17, 18, 19, 20], [0, 1, 2, 3, 4, 5, 6, 7, 8, 9, 10, 11, 12, 13, 14, 15, 16, 17, 18, 19, 20, 21], [0, 1, 2, 3, 4, 5, 6, 7, 8, 9, 10, 11, 12, 13, 14, 15, 16, 17, 18, 19, 20, 21, 22], [0, 1, 2, 3, 4, 5, 6, 7, 8, 9, 10, 11, 12, 13, 14, 15, 16, 17, 18, 19, 20, 21, 22, 23], [0, 1, 2, 3, 4, 5, 6, 7, 8, 9, 10, 11, 12, 13, 14, 15, 16, 17, 18, 19, 20, 21, 22, 23, 24], [0, 1, 2, 3, 4, 5, 6, 7, 8, 9, 10, 11, 12, 13, 14, 15, 16, 17, 18, 19, 20, 21, 22, 23, 24, 25], [0, 1, 2, 3, 4, 5, 6, 7, 8, 9, 10, 11, 12, 13, 14, 15, 16, 17, 18, 19, 20, 21, 22, 23, 24, 25, 26], [0, 1, 2, 3, 4, 5, 6, 7, 8, 9, 10, 11, 12, 13, 14, 15, 16, 17, 18, 19, 20, 21, 22, 23, 24, 25, 26, 27], [0, 1, 2, 3, 4, 5, 6, 7, 8, 9, 10, 11, 12, 13, 14, 15, 16, 17, 18, 19, 20, 21, 22, 23, 24, 25, 26, 27, 28]] (by kernel_rfl) (by kernel_rfl) rfl (by kernel_rfl) trivial ⟨fun wx hx => Ob.op rfl (O.move rfl ⟨Keep.refl _ _, rfl⟩),
                fun wx hx => Ob.op rfl (O.loadAgg Tryz.isAgg42 Tryz.sizeOf42 rfl rfl ((hR17.ext hx).row) ⟨Keep.refl _ _, rfl⟩),
                fun wx hx => Ob.op rfl (O.call (xs := [.tmp 85]) Tryz.call16 rfl rfl (refused_calls b7 (.slice oh xs.length caph) xs (xRev nm x.nm) wx (hH17.ext hx) (hE17.ext hx) hok o2 (hL17.ext hx)) (fun v wy h => ⟨h.2, by rw [h.1, g2]; rfl⟩)),
                fun wx hx => Ob.op rfl (O.fieldAddr Tryz.runUnderlying32 rfl Tryz.sizeOf4 rfl ⟨Keep.refl _ _, rfl⟩),
                fun wx hx => Ob.op rfl (O.load Tryz.isAgg4 rfl ((hS17.ext hx).cell (v := .bool false) (by simp [stCells, hcl])) ⟨Keep.refl _ _, rfl⟩),
                fun wx hx => Ob.op rfl (O.move rfl ⟨Keep.refl _ _, rfl⟩),
                fun wx hx => Ob.op rfl (O.move rfl ⟨Keep.refl _ _, rfl⟩),
                fun wx hx => Ob.op rfl (O.not rfl ⟨Keep.refl _ _, rfl⟩),
                fun wx hx => Ob.op rfl (O.pick_false rfl rfl ⟨Keep.refl _ _, rfl⟩),
                fun wx hx => Ob.op rfl (O.move rfl ⟨Keep.refl _ _, rfl⟩),
                fun wx hx => Ob.pass rfl rfl,
                fun wx hx => Ob.pass rfl rfl,
                fun wx hx => Ob.op rfl (O.pick_true rfl rfl ⟨Keep.refl _ _, rfl⟩),
                fun wx hx => Ob.op rfl (O.neq_bool_f Tryz.runUnderlying4 rfl rfl rfl ⟨Keep.refl _ _, rfl⟩),
                fun wx hx => Ob.op rfl (O.move rfl ⟨Keep.refl _ _, rfl⟩),
                fun wx hx => Ob.op rfl (O.move rfl ⟨Keep.refl _ _, rfl⟩),
                fun wx hx => Ob.op rfl (O.loadAgg Tryz.isAgg42 Tryz.sizeOf42 rfl rfl ((hW17.ext hx).row) ⟨Keep.refl _ _, rfl⟩),
                fun wx hx => Ob.op rfl (O.call (xs := [.tmp 100]) Tryz.call16 rfl rfl (refused_calls b7 (.slice oh xs.length caph) xs (xWit nm x.nm) wx (hH17.ext hx) (hE17.ext hx) hok o3 (hL17.ext hx)) (fun v wy h => ⟨h.2, by rw [h.1, g3]; rfl⟩)),
                fun wx hx => Ob.op rfl (O.move rfl ⟨Keep.refl _ _, rfl⟩),
                fun wx hx => Ob.op rfl (O.not rfl ⟨Keep.refl _ _, rfl⟩),
                trivial⟩ (fun w21 he21 => ?_)
            refine L.op rfl rfl (O.move rfl (L.pass rfl rfl (L.pass rfl rfl (L.op rfl rfl (O.pick_true rfl rfl (L.op rfl rfl (O.move rfl (L.pass rfl rfl (L.pass rfl rfl (L.op rfl rfl (O.pick_true rfl rfl (L.op rfl rfl (O.neq_bool_f Tryz.runUnderlying4 rfl rfl rfl (?_))))))))))))))
            have hH21 := hH17.ext he21
            have hE21 := hE17.ext he21
            have hL21 := hL17.ext he21
            have hX21 := hX17.ext he21
            have hS21 := hS17.ext he21
            refine L.op rfl rfl (O.pick_false rfl rfl (L.nil (T.cond_false rfl (T.skip (T.seq (T.seq (T.region (L.op rfl rfl (O.move rfl (L.op rfl rfl (O.move rfl (L.op rfl rfl (O.fieldAddr Tryz.runUnderlying39 rfl Tryz.sizeOf9 rfl (L.op rfl rfl (O.load Tryz.isAgg9 rfl (hX21.cell rfl) (L.op rfl rfl (O.build (v := (xSub nm x.nm).val) (parts := [(0, .const (.int .i64 1)), (1, .tmp 115), (2, .tmp 117)]) (vs := [(0, _), (1, _), (2, _)]) rfl (fun w => by kernel_rfl) (L.op rfl rfl (O.call (xs := [.tmp 118]) Tryz.call16 rfl rfl (refused_calls b7 (.slice oh xs.length caph) xs (xSub nm x.nm) w21 hH21 hE21 hok o6 hL21) (fun v119 w119 hq => ?_))))))))))))))))))))
            obtain ⟨hv119, he119⟩ := hq
            rw [f1] at hv119
            subst hv119
            refine L.op rfl rfl (O.not rfl (L.nil (T.cond_false rfl (T.skip (T.seq (T.region (L.op rfl rfl (O.move rfl (L.op rfl rfl (O.fieldAddr Tryz.runUnderlying39 rfl Tryz.sizeOf9 rfl (L.op rfl rfl (O.load Tryz.isAgg9 rfl ((hX21.ext he119).cell rfl) (L.op rfl rfl (O.build (v := (xOpe nm x.nm).val) (parts := [(0, .const (.int .i64 5)), (1, .tmp 121), (2, .tmp 123), (4, _), (5, _)]) (vs := [(0, _), (1, _), (2, _), (4, _), (5, _)]) rfl (fun w => by kernel_rfl) (L.op rfl rfl (O.alloc Tryz.zeroValue42 (fun b18 w18 hb18 hz18 he18 hB18 => ?_)))))))))))))))))
            refine L.op rfl rfl (O.storeAgg Tryz.sizeOf42 rfl rfl rfl hB18 (Nat.le_refl _) (En.one (xOpe nm x.nm)) (fun w22 hu22 hB22 => ?_))
            have hu22 : Upd b18 _ _ := hu22
            have hO22' : Blk w22 b18 (xOpe nm x.nm).cells 42 := hB22
            have he2122 := he119.trans (he18.upd hu22 (.inr (by omega)))
            have hH22 := hH21.ext he2122
            have hE22 := hE21.ext he2122
            have hL22 := hL21.ext he2122
            have hX22 := hX21.ext he2122
            have hS22 := hS21.ext he2122
            refine L.nil (T.seq (?_))
            refine T.anyE mixed 22 [12, 18, 8, 17, 14] rfl [.is _, .is _, .is (.bool true), .is _, .is _, .is _, .is _, .is undef, .is undef, .is _, .is _, .is undef, .is undef, .is _, .is _, .is undef, .is undef, .is _, .is _, .is undef, .is undef, .is undef] [[], [], [0, 1], [], [3], [4], [5], [6], [7, 6], [6, 8], [9], [10], [11, 10], [10, 12], [13], [14], [15, 14], [14, 16], [17], [18], [19, 18], [18]] [[], [], [0, 1], [], [3], [3, 4], [0, 1, 2, 3, 4, 5], [0, 1, 2, 3, 4, 5, 6], [0, 1, 2, 3, 4, 5, 6, 7], [0, 1, 2, 3, 4, 5, 6, 7, 8], [0, 1, 2, 3, 4, 5, 6, 7, 8, 9], [0, 1, 2, 3, 4, 5, 6, 7, 8, 9, 10], [0, 1, 2, 3, 4, 5, 6, 7, 8, 9, 10, 11], [0, 1, 2, 3, 4, 5, 6, 7, 8, 9, 10, 11, 12], [0, 1, 2, 3, 4, 5, 6, 7, 8, 9, 10, 11, 12, 13], [0, 1, 2, 3, 4, 5, 6, 7, 8, 9, 10, 11, 12, 13, 14], [0, 1, 2, 3, 4, 5, 6, 7, 8, 9, 10, 11, 12, 13, 14, 15], [0, 1, 2, 3, 4, 5, 6, 7, 8, 9, 10, 11, 12, 13, 14, 15, 16], [0, 1, 2, 3, 4, 5, 6, 7, 8, 9, 10, 11, 12, 13, 14, 15, 16, 17], [0, 1, 2, 3, 4, 5, 6, 7, 8, 9, 10, 11, 12, 13, 14, 15, 16, 17, 18], [0, 1, 2, 3, 4, 5, 6, 7, 8, 9, 10, 11, 12, 13, 14, 15, 16, 17, 18, 19], [0, 1, 2, 3, 4, 5, 6, 7, 8, 9, 10, 11, 12, 13, 14, 15, 16, 17, 18], [0, 1, 2, 3, 4, 5, 6, 7, 8, 9, 10, 11, 12, 13, 14, 15, 16, 17, 18, 19, 20, 21], [0, 1, 2, 3, 4, 5, 6, 7, 8, 9, 10, 11, 12, 13, 14, 15, 16, 17, 18, 19, 20, 21, 22], [0, 1, 2, 3, 4, 5, 6, 7, 8, 9, 10, 11, 12, 13, 14, 15, 16, 17, 18, 19, 20, 21, 22, 23]] (by kernel_rfl) (by kernel_rfl) rfl (by kernel_rfl) trivial ⟨fun wx hx => Ob.op rfl (O.move rfl ⟨Keep.refl _ _, rfl⟩),
                fun wx hx => Ob.op rfl (O.loadAgg Tryz.isAgg42 Tryz.sizeOf42 rfl rfl ((hO22'.ext hx).row) ⟨Keep.refl _ _, rfl⟩),
                fun wx hx => Ob.op rfl (O.call (xs := [.tmp 126]) Tryz.call16 rfl rfl (refused_calls b7 (.slice oh xs.length caph) xs (xOpe nm x.nm) wx (hH22.ext hx) (hE22.ext hx) hok o5 (hL22.ext hx)) (fun v wy h => ⟨h.2, by rw [h.1, g5]; rfl⟩)),
                fun wx hx => Ob.op rfl (O.fieldAddr Tryz.runUnderlying32 rfl Tryz.sizeOf4 rfl ⟨Keep.refl _ _, rfl⟩),
                fun wx hx => Ob.op rfl (O.load Tryz.isAgg4 rfl ((hS22.ext hx).cell (v := .bool false) (by simp [stCells, hcl])) ⟨Keep.refl _ _, rfl⟩),
                fun wx hx => Ob.op rfl (O.not rfl ⟨Keep.refl _ _, rfl⟩),
                fun wx hx => Ob.op rfl (O.move rfl ⟨Keep.refl _ _, rfl⟩),
                fun wx hx => Ob.pass rfl rfl,
                fun wx hx => Ob.pass rfl rfl,
                fun wx hx => Ob.op rfl (O.pick_true rfl rfl ⟨Keep.refl _ _, rfl⟩),
                fun wx hx => Ob.op rfl (O.move rfl ⟨Keep.refl _ _, rfl⟩),
                fun wx hx => Ob.pass rfl rfl,
                fun wx hx => Ob.pass rfl rfl,
                fun wx hx => Ob.op rfl (O.pick_true rfl rfl ⟨Keep.refl _ _, rfl⟩),
                fun wx hx => Ob.op rfl (O.move rfl ⟨Keep.refl _ _, rfl⟩),
                fun wx hx => Ob.pass rfl rfl,
                fun wx hx => Ob.pass rfl rfl,
                fun wx hx => Ob.op rfl (O.pick_true rfl rfl ⟨Keep.refl _ _, rfl⟩),
                fun wx hx => Ob.op rfl (O.move rfl ⟨Keep.refl _ _, rfl⟩),
                fun wx hx => Ob.pass rfl rfl,
                fun wx hx => Ob.pass rfl rfl,
                fun wx hx => Ob.pass rfl rfl,
                trivial⟩ (fun w26 he26 => ?_)
            refine L.pass rfl rfl (L.op rfl rfl (O.pick_true rfl rfl (L.op rfl rfl (O.neq_bool_f Tryz.runUnderlying4 rfl rfl rfl (L.nil (T.cond_false rfl (T.skip (T.blk (T.region (L.op rfl rfl (O.add64 rfl rfl (by (try dsimp only); omega) (L.op rfl rfl (O.move rfl (L.nil (T.again (j + 1) (by omega) ⟨rfl, rfl, rfl, rfl, rfl, rfl, rfl, trivial⟩ ⟨hjl, (he1017.trans (he21.trans he2122)).trans he26⟩)))))))))))))))
    · refine L.nil (T.seq (T.cond_false rfl (T.exit rfl (T.seq (T.region (L.op rfl rfl (O.assign rfl (L.nil (T.ret1 Tryz.results4 rfl ⟨rfl, he050⟩)))))))))
  · refine L.nil (?_)
    rw [hcl] at e1 e4
    refine T.cond_false rfl (T.skip (T.seq (T.seq (T.region (L.op rfl rfl (O.fieldAddr Tryz.runUnderlying32 rfl Tryz.sizeOf4 rfl (L.op rfl rfl (O.load Tryz.isAgg4 rfl ((hS10).cell (v := .bool true) (by simp [stCells, hcl])) (L.op rfl rfl (O.move rfl (L.op rfl rfl (O.move rfl (L.op rfl rfl (O.move rfl (L.op rfl rfl (O.build (v := (xSub nm sNew).val) (parts := [(0, .const (.int .i64 1)), (1, .tmp 44), (2, _)]) (vs := [(0, _), (1, _), (2, _)]) rfl (fun w => by kernel_rfl) (L.op rfl rfl (O.call (xs := [.tmp 45]) Tryz.call16 rfl rfl (refused_calls b7 (.slice oh xs.length caph) xs (xSub nm sNew) w10 hH10 hI10 hok o1 hL10) (fun v46 w46 hq => ?_)))))))))))))))))))
    obtain ⟨hv46, he46⟩ := hq
    rw [e1] at hv46
    subst hv46
    refine L.op rfl rfl (O.not rfl (L.op rfl rfl (O.move rfl (L.op rfl rfl (O.move rfl (L.op rfl rfl (O.move rfl (L.op rfl rfl (O.build (v := (xClo nm).val) (parts := [(0, .const (.int .i64 4)), (1, .tmp 50)]) (vs := [(0, _), (1, _)]) rfl (fun w => by kernel_rfl) (L.op rfl rfl (O.call (xs := [.tmp 51]) Tryz.call16 rfl rfl (refused_calls b7 (.slice oh xs.length caph) xs (xClo nm) w46 (hH10.ext he46) (hI10.ext he46) hok o4 (hL10.ext he46)) (fun v52 w52 hq => ?_))))))))))))
    obtain ⟨hv52, he52⟩ := hq
    rw [e4] at hv52
    subst hv52
    have he1020 := he46.trans he52
    refine L.op rfl rfl (O.not rfl (L.op rfl rfl (O.pick_false rfl rfl (L.op rfl rfl (O.pick_true rfl rfl (L.nil (T.cond_false rfl (T.skip (T.seq (T.seq (T.region (L.op rfl rfl (O.fieldAddr Tryz.runUnderlying32 rfl Tryz.sizeOf4 rfl (L.op rfl rfl (O.load Tryz.isAgg4 rfl ((hS10.ext he1020).cell (v := .bool true) (by simp [stCells, hcl])) (?_))))))))))))))))
    have hJ20 := Its.ext hJ10 he1020
    refine L.op rfl rfl (O.not rfl (L.op rfl rfl (O.move rfl (L.pass rfl rfl (L.pass rfl rfl (L.pass rfl rfl (L.pass rfl rfl (L.op rfl rfl (O.pick_false rfl rfl (L.nil (T.cond_false rfl (T.skip (T.seq (T.seq (T.region (L.op rfl rfl (O.fieldAddr Tryz.runUnderlying32 rfl Tryz.sizeOf30 rfl (L.op rfl rfl (O.load Tryz.isAgg30 rfl ((hS10.ext he1020).cell rfl) (L.op rfl rfl (O.len Tryz.runUnderlying30 rfl (Sl.val hJ20) (L.op rfl rfl (O.move rfl (L.nil (T.block (?_))))))))))))))))))))))))))
    refine T.loop (σ := Nat) (fun j => [(7, .pointer (some ⟨b7, 0, none⟩)), (8, .pointer (some ⟨b9, 0, none⟩)), (11, str nm), (12, .func (.func 16) #[] #[.pointer (some ⟨b7, 0, none⟩)]), (66, .slice op s.its.length capp), (67, .int .i64 s.its.length), (68, .int .i64 j)]) (fun j w' => j ≤ s.its.length ∧ Ext w10 w') (fun j => s.its.length - j) (0) ⟨rfl, rfl, rfl, rfl, rfl, rfl, rfl, trivial⟩ ⟨Nat.zero_le _, he1020⟩ ?_
    rintro j w50 ⟨hj, he50⟩
    have he050 := he010.trans he50
    refine T.seq (T.region (L.op rfl rfl (O.lss_s rfl rfl (fun hlt => ?_) (fun hlt => ?_))))
    · refine L.nil (?_)
      have hjl : j < s.its.length := by omega
      have hJ50 := Its.ext hJ10 he50
      obtain ⟨x, hx⟩ : ∃ x, x = s.its.getD j i0 := ⟨_, rfl⟩
      have hxm : x ∈ s.its := by rw [hx, getD_get hjl]; exact List.getElem_mem hjl
      have hxn := items_name (hst.nm x hxm)
      have hxl := name_len hxn
      have q2 := st_rev (nm := nm) hst hjl
      have q3 := st_wit (nm := nm) hst hjl
      have q1 := st_sub (nm := nm) hst hjl
      have q5 := st_ope (nm := nm) hst hjl
      rw [← hx] at q1 q2 q3 q5
      have f2 := (hrd _ (r_rev hnb hxn)).trans q2
      have f3 := (hrd _ (r_wit hnb hxn)).trans q3
      have f1 := (hrd _ (r_sub hnb hxn)).trans q1
      have f5 := (hrd _ (r_ope hnb hxn)).trans q5
      rw [hcl] at f2 f5
      have o2 : (xRev nm x.nm).ok := o_any hnl hxl (by decide) (by decide)
      have o3 : (xWit nm x.nm).ok := o_any hnl hxl (by decide) (by decide)
      have o5 : (xOpe nm x.nm).ok := o_any hnl hxl (by decide) (by decide)
      have o6 : (xSub nm x.nm).ok := o_any hnl hxl (by decide) (by decide)
      refine T.seq (T.cond_true rfl (T.skip (T.seq (T.block (T.seq (T.region (L.op rfl rfl (O.indexAddr Tryz.runUnderlying30 Tryz.sizeOf39 rfl rfl hJ50 (by (try dsimp only); omega) (by (try dsimp only); omega) (L.op rfl rfl (O.loadAgg Tryz.isAgg39 Tryz.sizeOf39 rfl rfl (hJ50.row hjl) (?_)))))))))))
      rw [← hx]
      refine L.op rfl rfl (O.alloc Tryz.zeroValue39 (fun b14 w14 hb14 hz14 he14 hB14 => ?_))
      refine L.op rfl rfl (O.storeAgg Tryz.sizeOf39 rfl rfl rfl hB14 (Nat.le_refl _) (It.one _) (fun w15 hu15 hB15 => ?_))
      have hu15 : Upd b14 _ _ := hu15
      have hX15 : Blk w15 b14 x.cells 39 := hB15
      have he5015 : Ext w50 w15 := he14.upd hu15 (.inr (by omega))
      refine L.nil (T.seq (?_))
      refine T.anyF2 mixed 11 1 [11, 14] rfl [.is _, .is _, .is _, .is _, .is _, .is _, .is _, .is _, .such (EnB w15.heap.size), .such (EnB w15.heap.size), .is undef] [[], [], [1], [0, 2], [], [], [5], [4, 6], [], [], [8, 3]] [none, none, none, none, none, none, none, none, none, none, some 0] [[], [], [1], [0, 1, 2], [], [], [5], [4, 5, 6], [], [], [0, 1, 2, 3, 8, 9], [0, 1, 2, 3, 4, 5, 6, 7, 8, 9, 10]] [8, 9] [(10, 8, 15)] (fun _ _ u _ W => ∃ b, u = .pointer (some ⟨b, 0, none⟩) ∧ w15.heap.size ≤ b ∧ Blk W b (xRev nm x.nm).cells 42) (fun _ W => Ext w15 W) (RelD w15.heap.size (xRev nm x.nm)) (fun i f v w hi hf hh => by { rcases (show i = 8 ∨ i = 9 by simpa using hi) with rfl | rfl <;> (simp only [List.getElem?_cons_succ, List.getElem?_cons_zero, Option.some.injEq] at hf; subst hf; exact EnB.lt hh) }) (fun i j vi vj W W' hr ⟨b, h1, h2, h3⟩ => (hr.own b _ h2 h3).elim fun c' k => ⟨b, h1, h2, (k.2 rfl) ▸ k.1⟩) (by kernel_rfl) (by kernel_rfl) (by kernel_rfl) (by kernel_rfl) rfl ⟨EnB.st, EnB.st, trivial⟩ (Keep.drew _ _) ⟨fun c wx hx => ObX.op rfl (O.move rfl ⟨⟨RelD.of_ext (Keep.refl _ _), hx⟩, rfl, trivial, trivial⟩),
          fun c wx hx => ObX.op rfl (O.fieldAddr Tryz.runUnderlying39 rfl Tryz.sizeOf9 rfl ⟨⟨RelD.of_ext (Keep.refl _ _), hx⟩, rfl, trivial, trivial⟩),
          fun c wx hx => ObX.op rfl (O.load Tryz.isAgg9 rfl ((hX15.ext hx).cell rfl) ⟨⟨RelD.of_ext (Keep.refl _ _), hx⟩, rfl, trivial, trivial⟩),
          fun c wx hx => ObX.op rfl (O.build (v := (xRev nm x.nm).val) (parts := [(0, .const (.int .i64 2)), (1, .tmp 72), (2, .tmp 74)]) (vs := [(0, _), (1, _), (2, _)]) rfl (fun w => by kernel_rfl) ⟨⟨RelD.of_ext (Keep.refl _ _), hx⟩, rfl, trivial, trivial⟩),
          fun c wx hx => ObX.op rfl (O.move rfl ⟨⟨RelD.of_ext (Keep.refl _ _), hx⟩, rfl, trivial, trivial⟩),
          fun c wx hx => ObX.op rfl (O.fieldAddr Tryz.runUnderlying39 rfl Tryz.sizeOf9 rfl ⟨⟨RelD.of_ext (Keep.refl _ _), hx⟩, rfl, trivial, trivial⟩),
          fun c wx hx => ObX.op rfl (O.load Tryz.isAgg9 rfl ((hX15.ext hx).cell rfl) ⟨⟨RelD.of_ext (Keep.refl _ _), hx⟩, rfl, trivial, trivial⟩),
          fun c wx hx => ObX.op rfl (O.build (v := (xWit nm x.nm).val) (parts := [(0, .const (.int .i64 3)), (1, .tmp 76), (2, .tmp 78)]) (vs := [(0, _), (1, _), (2, _)]) rfl (fun w => by kernel_rfl) ⟨⟨RelD.of_ext (Keep.refl _ _), hx⟩, rfl, trivial, trivial⟩),
          fun c wx hx => ObX.op rfl (O.alloc Tryz.zeroValue42 (fun b wy hb hz he hB => and3 ⟨⟨RelD.of_ext he, hx.trans he⟩, b, e0, rfl, by have := hx.size; omega, hB⟩ ⟨fun q hq => by { cases hq; exact Nat.le_of_eq hb.symm }, trivial⟩)),
          fun c wx hx => ObX.op rfl (O.alloc Tryz.zeroValue42 (fun b wy hb hz he hB => and3 ⟨⟨RelD.of_ext he, hx.trans he⟩, b, e0, rfl, by have := hx.size; omega, hB⟩ ⟨fun q hq => by { cases hq; exact Nat.le_of_eq hb.symm }, trivial⟩)),
          fun wx hx v15 hv15 => by { obtain ⟨b5, c5, rfl, hb5, hB5⟩ := hv15; exact ObX.op rfl (O.storeAgg Tryz.sizeOf42 rfl rfl rfl hB5 (Nat.le_refl _) (En.one (xRev nm x.nm)) (fun w16 hu16 hB16 => and3 ⟨⟨RelD.upd hu16 (show Blk w16 b5 (xRev nm x.nm).cells _ from hB16), hx.upd hu16 (.inr hb5)⟩, rfl⟩ ⟨trivial, fun u hu => by { cases hu; exact ⟨b5, rfl, hb5, hB16⟩ }⟩)) },
          trivial⟩ (fun w19 hI19 v15 hv15 v16 hv16 hp19 => ?_)
      obtain ⟨vj, hvj, hfr, _⟩ := hp19 8 9 _ _ _ _ (by decide) (by decide) rfl rfl rfl rfl
      obtain rfl := hvj _ _ rfl rfl
      obtain ⟨_, _, _, hlk⟩ := hp19 8 10 _ _ _ _ (by decide) (by decide) rfl rfl rfl rfl
      obtain ⟨b5, rfl, hb5, hB5⟩ := hlk rfl
      obtain ⟨b6, c6, rfl, hb6, hB6⟩ := hv16
      have hne : b5 ≠ b6 := fun e => hfr b5 rfl (by rw [e]; rfl)
      refine L.op rfl rfl (O.storeAgg Tryz.sizeOf42 rfl rfl rfl hB6 (Nat.le_refl _) (En.one (xWit nm x.nm)) (fun w17 hu17 hB17 => ?_))
      have hu17 : Upd b6 _ _ := hu17
      have hR17 : Blk w17 b5 (xRev nm x.nm).cells 42 := Blk.upd (cs := (xRev nm x.nm).cells) hB5 hu17 hne
      have hW17 : Blk w17 b6 (xWit nm x.nm).cells 42 := hB17
      have he1517 : Ext w15 w17 := hI19.upd hu17 (.inr hb6)
      have hX17 := hX15.ext he1517
      have he1017 := (he50.trans he5015).trans he1517
      have he017 := he010.trans he1017
      have hL17 := hL.ext he017
      have hH17 := hH10.ext he1017
      have hE17 := hI10.ext he1017
      have hS17 := hS10.ext he1017
      rcases hwd : x.wd with _ | _
      · refine L.nil (?_)
        rcases hop : x.op with _ | _
        · by_cases how : x.ow = nm
          · by_cases hq : x.sl = sealN sPlan sN
            · refine T.seq (T.region (L.op rfl rfl (O.fieldAddr Tryz.runUnderlying39 rfl Tryz.sizeOf9 rfl (L.op rfl rfl (O.load Tryz.isAgg9 rfl (hX17.cell rfl) (L.op rfl rfl (O.move rfl (L.op rfl rfl (O.eql_str_t Tryz.runUnderlying9 rfl rfl how (?_))))))))))
              have g2 : decide ((appR xs (xRev nm x.nm)).2 = 8) = true := by rw [f2, hwd, decide_eq_true how]; rfl
              have g3 : decide ((appR xs (xWit nm x.nm)).2 = 8) = false := by rw [f3, hwd, hop, decide_eq_true how]; rfl
              have g5 : decide ((appR xs (xOpe nm x.nm)).2 = 8) = false := by rw [f5, hwd, hop, decide_eq_true how, decide_eq_true hq]; rfl
              refine L.op rfl rfl (O.assign rfl (L.nil (T.seq (T.seq (?_)))))
              refine T.anyE mixed 20 [12, 15, 8, 17, 14, 16] rfl [.is _, .is _, .is (.bool true), .is _, .is _, .is _, .is undef, .is undef, .is _, .is _, .is undef, .is undef, .is _, .is _, .is _, .is _, .is _, .is (.bool false), .is _, .is _] [[], [], [0, 1], [], [3], [4], [5], [6, 5], [5, 7], [8], [9], [10, 9], [9, 11], [2, 12], [13], [14], [14], [15, 16, 14], [14], [18, 14]] [[], [], [0, 1], [], [3], [0, 1, 2, 3, 4], [0, 1, 2, 3, 4, 5], [0, 1, 2, 3, 4, 5, 6], [0, 1, 2, 3, 4, 5, 6, 7], [0, 1, 2, 3, 4, 5, 6, 7, 8], [0, 1, 2, 3, 4, 5, 6, 7, 8, 9], [0, 1, 2, 3, 4, 5, 6, 7, 8, 9, 10], [0, 1, 2, 3, 4, 5, 6, 7, 8, 9, 10, 11], [0, 1, 2, 3, 4, 5, 6, 7, 8, 9, 10, 11, 12], [0, 1, 2, 3, 4, 5, 6, 7, 8, 9, 10, 11, 12, 13], [0, 1, 2, 3, 4, 5, 6, 7, 8, 9, 10, 11, 12, 13, 14], [0, 1, 2, 3, 4, 5, 6, 7, 8, 9, 10, 11, 12, 13, 14], [0, 1, 2, 3, 4, 5, 6, 7, 8, 9, 10, 11, 12, 13, 14, 15, 16], [0, 1, 2, 3, 4, 5, 6, 7, 8, 9, 10, 11, 12, 13, 14], [0, 1, 2, 3, 4, 5, 6, 7, 8, 9, 10, 11, 12, 13, 14, 18], [0, 1, 2, 3, 4, 5, 6, 7, 8, 9, 10, 11, 12, 13, 14, 15, 16, 17, 18, 19], [0, 1, 2, 3, 4, 5, 6, 7, 8, 9, 10, 11, 12, 13, 14, 15, 16, 17, 18, 19, 20], [0, 1, 2, 3, 4, 5, 6, 7, 8, 9, 10, 11, 12, 13, 14, 15, 16, 17, 18, 19, 20, 21], [0, 1, 2, 3, 4, 5, 6, 7, 8, 9, 10, 11, 12, 13, 14, 15, 16, 17, 18, 19, 20, 21, 22], [0, 1, 2, 3, 4, 5, 6, 7, 8, 9, 10, 11, 12, 13, 14, 15, 16, 17, 18, 19, 20, 21, 22, 23], [0, 1, 2, 3, 4, 5, 6, 7, 8, 9, 10, 11, 12, 13, 14, 15, 16, 17, 18, 19, 20, 21, 22, 23, 24], [0, 1, 2, 3, 4, 5, 6, 7, 8, 9, 10, 11, 12, 13, 14, 15, 16, 17, 18, 19, 20, 21, 22, 23, 24, 25], [0, 1, 2, 3, 4, 5, 6, 7, 8, 9, 10, 11, 12, 13, 14, 15, 16, 17, 18, 19, 20, 21, 22, 23, 24, 25, 26], [0, 1, 2, 3, 4, 5, 6, 7, 8, 9, 10, 11, 12, 13, 14, 15, 16, 17, 18, 19, 20, 21, 22, 23, 24, 25, 26, 27], [0, 1, 2, 3, 4, 5, 6, 7, 8, 9, 10, 11, 12, 13, 14, 15, 16, 17, 18, 19, 20, 21, 22, 23, 24, 25, 26, 27, 28]] (by kernel_rfl) (by kernel_rfl) rfl (by kernel_rfl) trivial ⟨fun wx hx => Ob.op rfl (O.move rfl ⟨Keep.refl _ _, rfl⟩),
                  fun wx hx => Ob.op rfl (O.loadAgg Tryz.isAgg42 Tryz.sizeOf42 rfl rfl ((hR17.ext hx).row) ⟨Keep.refl _ _, rfl⟩),
                  fun wx hx => Ob.op rfl (O.call (xs := [.tmp 85]) Tryz.call16 rfl rfl (refused_calls b7 (.slice oh xs.length caph) xs (xRev nm x.nm) wx (hH17.ext hx) (hE17.ext hx) hok o2 (hL17.ext hx)) (fun v wy h => ⟨h.2, by rw [h.1, g2]; rfl⟩)),
                  fun wx hx => Ob.op rfl (O.fieldAddr Tryz.runUnderlying32 rfl Tryz.sizeOf4 rfl ⟨Keep.refl _ _, rfl⟩),
                  fun wx hx => Ob.op rfl (O.load Tryz.isAgg4 rfl ((hS17.ext hx).cell (v := .bool true) (by simp [stCells, hcl])) ⟨Keep.refl _ _, rfl⟩),
                  fun wx hx => Ob.op rfl (O.move rfl ⟨Keep.refl _ _, rfl⟩),
                  fun wx hx => Ob.pass rfl rfl,
                  fun wx hx => Ob.pass rfl rfl,
                  fun wx hx => Ob.op rfl (O.pick_true rfl rfl ⟨Keep.refl _ _, rfl⟩),
                  fun wx hx => Ob.op rfl (O.move rfl ⟨Keep.refl _ _, rfl⟩),
                  fun wx hx => Ob.pass rfl rfl,
                  fun wx hx => Ob.pass rfl rfl,
                  fun wx hx => Ob.op rfl (O.pick_true rfl rfl ⟨Keep.refl _ _, rfl⟩),
                  fun wx hx => Ob.op rfl (O.neq_bool_f Tryz.runUnderlying4 rfl rfl rfl ⟨Keep.refl _ _, rfl⟩),
                  fun wx hx => Ob.op rfl (O.move rfl ⟨Keep.refl _ _, rfl⟩),
                  fun wx hx => Ob.op rfl (O.move rfl ⟨Keep.refl _ _, rfl⟩),
                  fun wx hx => Ob.op rfl (O.loadAgg Tryz.isAgg42 Tryz.sizeOf42 rfl rfl ((hW17.ext hx).row) ⟨Keep.refl _ _, rfl⟩),
                  fun wx hx => Ob.op rfl (O.call (xs := [.tmp 100]) Tryz.call16 rfl rfl (refused_calls b7 (.slice oh xs.length caph) xs (xWit nm x.nm) wx (hH17.ext hx) (hE17.ext hx) hok o3 (hL17.ext hx)) (fun v wy h => ⟨h.2, by rw [h.1, g3]; rfl⟩)),
                  fun wx hx => Ob.op rfl (O.move rfl ⟨Keep.refl _ _, rfl⟩),
                  fun wx hx => Ob.op rfl (O.not rfl ⟨Keep.refl _ _, rfl⟩),
                  trivial⟩ (fun w21 he21 => ?_)
              refine L.op rfl rfl (O.move rfl (L.op rfl rfl (O.fieldAddr Tryz.runUnderlying39 rfl Tryz.sizeOf4 rfl (L.op rfl rfl (O.load Tryz.isAgg4 rfl ((hX17.ext he21).cell (v := .bool false) (by simp [It.cells, hwd])) (L.op rfl rfl (O.pick_false rfl rfl (L.op rfl rfl (O.move rfl (L.op rfl rfl (O.fieldAddr Tryz.runUnderlying39 rfl Tryz.sizeOf4 rfl (L.op rfl rfl (O.load Tryz.isAgg4 rfl ((hX17.ext he21).cell (v := .bool false) (by simp [It.cells, hop])) (L.op rfl rfl (O.pick_false rfl rfl (L.op rfl rfl (O.neq_bool_f Tryz.runUnderlying4 rfl rfl rfl (?_))))))))))))))))))
              have hH21 := hH17.ext he21
              have hE21 := hE17.ext he21
              have hL21 := hL17.ext he21
              have hX21 := hX17.ext he21
              have hS21 := hS17.ext he21
              refine L.op rfl rfl (O.pick_false rfl rfl (L.nil (T.cond_false rfl (T.skip (T.seq (T.seq (T.region (L.op rfl rfl (O.move rfl (L.op rfl rfl (O.move rfl (L.op rfl rfl (O.fieldAddr Tryz.runUnderlying39 rfl Tryz.sizeOf9 rfl (L.op rfl rfl (O.load Tryz.isAgg9 rfl (hX21.cell rfl) (L.op rfl rfl (O.build (v := (xSub nm x.nm).val) (parts := [(0, .const (.int .i64 1)), (1, .tmp 115), (2, .tmp 117)]) (vs := [(0, _), (1, _), (2, _)]) rfl (fun w => by kernel_rfl) (L.op rfl rfl (O.call (xs := [.tmp 118]) Tryz.call16 rfl rfl (refused_calls b7 (.slice oh xs.length caph) xs (xSub nm x.nm) w21 hH21 hE21 hok o6 hL21) (fun v119 w119 hq => ?_))))))))))))))))))))
              obtain ⟨hv119, he119⟩ := hq
              rw [f1] at hv119
              subst hv119
              refine L.op rfl rfl (O.not rfl (L.nil (T.cond_false rfl (T.skip (T.seq (T.region (L.op rfl rfl (O.move rfl (L.op rfl rfl (O.fieldAddr Tryz.runUnderlying39 rfl Tryz.sizeOf9 rfl (L.op rfl rfl (O.load Tryz.isAgg9 rfl ((hX21.ext he119).cell rfl) (L.op rfl rfl (O.build (v := (xOpe nm x.nm).val) (parts := [(0, .const (.int .i64 5)), (1, .tmp 121), (2, .tmp 123), (4, _), (5, _)]) (vs := [(0, _), (1, _), (2, _), (4, _), (5, _)]) rfl (fun w => by kernel_rfl) (L.op rfl rfl (O.alloc Tryz.zeroValue42 (fun b18 w18 hb18 hz18 he18 hB18 => ?_)))))))))))))))))
              refine L.op rfl rfl (O.storeAgg Tryz.sizeOf42 rfl rfl rfl hB18 (Nat.le_refl _) (En.one (xOpe nm x.nm)) (fun w22 hu22 hB22 => ?_))
              have hu22 : Upd b18 _ _ := hu22
              have hO22' : Blk w22 b18 (xOpe nm x.nm).cells 42 := hB22
              have he2122 := he119.trans (he18.upd hu22 (.inr (by omega)))
              have hH22 := hH21.ext he2122
              have hE22 := hE21.ext he2122
              have hL22 := hL21.ext he2122
              have hX22 := hX21.ext he2122
              have hS22 := hS21.ext he2122
              refine L.nil (T.seq (?_))
              refine T.anyE mixed 22 [12, 18, 8, 17, 14] rfl [.is _, .is _, .is (.bool false), .is _, .is _, .is _, .is _, .is _, .is _, .is _, .is _, .is _, .is _, .is _, .is _, .is _, .is _, .is _, .is _, .is _, .is _, .is (wordV (sealN sPlan sN))] [[], [], [0, 1], [], [3], [4], [5], [6], [7, 6], [6, 8], [9], [10], [11, 10], [10, 12], [13], [14], [15, 14], [14, 16], [17], [18], [19, 18], [18]] [[], [], [0, 1], [], [3], [3, 4], [0, 1, 2, 3, 4, 5], [0, 1, 2, 3, 4, 5, 6], [0, 1, 2, 3, 4, 5, 6, 7], [0, 1, 2, 3, 4, 5, 6, 7, 8], [0, 1, 2, 3, 4, 5, 6, 7, 8, 9], [0, 1, 2, 3, 4, 5, 6, 7, 8, 9, 10], [0, 1, 2, 3, 4, 5, 6, 7, 8, 9, 10, 11], [0, 1, 2, 3, 4, 5, 6, 7, 8, 9, 10, 11, 12], [0, 1, 2, 3, 4, 5, 6, 7, 8, 9, 10, 11, 12, 13], [0, 1, 2, 3, 4, 5, 6, 7, 8, 9, 10, 11, 12, 13, 14], [0, 1, 2, 3, 4, 5, 6, 7, 8, 9, 10, 11, 12, 13, 14, 15], [0, 1, 2, 3, 4, 5, 6, 7, 8, 9, 10, 11, 12, 13, 14, 15, 16], [0, 1, 2, 3, 4, 5, 6, 7, 8, 9, 10, 11, 12, 13, 14, 15, 16, 17], [0, 1, 2, 3, 4, 5, 6, 7, 8, 9, 10, 11, 12, 13, 14, 15, 16, 17, 18], [0, 1, 2, 3, 4, 5, 6, 7, 8, 9, 10, 11, 12, 13, 14, 15, 16, 17, 18, 19], [0, 1, 2, 3, 4, 5, 6, 7, 8, 9, 10, 11, 12, 13, 14, 15, 16, 17, 18], [0, 1, 2, 3, 4, 5, 6, 7, 8, 9, 10, 11, 12, 13, 14, 15, 16, 17, 18, 19, 20, 21], [0, 1, 2, 3, 4, 5, 6, 7, 8, 9, 10, 11, 12, 13, 14, 15, 16, 17, 18, 19, 20, 21, 22], [0, 1, 2, 3, 4, 5, 6, 7, 8, 9, 10, 11, 12, 13, 14, 15, 16, 17, 18, 19, 20, 21, 22, 23]] (by kernel_rfl) (by kernel_rfl) rfl (by kernel_rfl) trivial ⟨fun wx hx => Ob.op rfl (O.move rfl ⟨Keep.refl _ _, rfl⟩),
                  fun wx hx => Ob.op rfl (O.loadAgg Tryz.isAgg42 Tryz.sizeOf42 rfl rfl ((hO22'.ext hx).row) ⟨Keep.refl _ _, rfl⟩),
                  fun wx hx => Ob.op rfl (O.call (xs := [.tmp 126]) Tryz.call16 rfl rfl (refused_calls b7 (.slice oh xs.length caph) xs (xOpe nm x.nm) wx (hH22.ext hx) (hE22.ext hx) hok o5 (hL22.ext hx)) (fun v wy h => ⟨h.2, by rw [h.1, g5]; rfl⟩)),
                  fun wx hx => Ob.op rfl (O.fieldAddr Tryz.runUnderlying32 rfl Tryz.sizeOf4 rfl ⟨Keep.refl _ _, rfl⟩),
                  fun wx hx => Ob.op rfl (O.load Tryz.isAgg4 rfl ((hS22.ext hx).cell (v := .bool true) (by simp [stCells, hcl])) ⟨Keep.refl _ _, rfl⟩),
                  fun wx hx => Ob.op rfl (O.not rfl ⟨Keep.refl _ _, rfl⟩),
                  fun wx hx => Ob.op rfl (O.move rfl ⟨Keep.refl _ _, rfl⟩),
                  fun wx hx => Ob.op rfl (O.move rfl ⟨Keep.refl _ _, rfl⟩),
                  fun wx hx => Ob.op rfl (O.not rfl ⟨Keep.refl _ _, rfl⟩),
                  fun wx hx => Ob.op rfl (O.pick_false rfl rfl ⟨Keep.refl _ _, rfl⟩),
                  fun wx hx => Ob.op rfl (O.move rfl ⟨Keep.refl _ _, rfl⟩),
                  fun wx hx => Ob.op rfl (O.fieldAddr Tryz.runUnderlying39 rfl Tryz.sizeOf4 rfl ⟨Keep.refl _ _, rfl⟩),
                  fun wx hx => Ob.op rfl (O.load Tryz.isAgg4 rfl ((hX22.ext hx).cell (v := .bool false) (by simp [It.cells, hwd])) ⟨Keep.refl _ _, rfl⟩),
                  fun wx hx => Ob.op rfl (O.pick_false rfl rfl ⟨Keep.refl _ _, rfl⟩),
                  fun wx hx => Ob.op rfl (O.move rfl ⟨Keep.refl _ _, rfl⟩),
                  fun wx hx => Ob.op rfl (O.fieldAddr Tryz.runUnderlying39 rfl Tryz.sizeOf4 rfl ⟨Keep.refl _ _, rfl⟩),
                  fun wx hx => Ob.op rfl (O.load Tryz.isAgg4 rfl ((hX22.ext hx).cell (v := .bool false) (by simp [It.cells, hop])) ⟨Keep.refl _ _, rfl⟩),
                  fun wx hx => Ob.op rfl (O.pick_false rfl rfl ⟨Keep.refl _ _, rfl⟩),
                  fun wx hx => Ob.op rfl (O.move rfl ⟨Keep.refl _ _, rfl⟩),
                  fun wx hx => Ob.op rfl (O.fieldAddr Tryz.runUnderlying39 rfl Tryz.sizeOf25 rfl ⟨Keep.refl _ _, rfl⟩),
                  fun wx hx => Ob.op rfl (O.load Tryz.isAgg25 rfl ((hX22.ext hx).cell rfl) ⟨Keep.refl _ _, rfl⟩),
                  fun wx hx => Ob.op rfl (O.call (xs := [_, _]) Tryz.call18 rfl rfl (seal_calls sPlan sN wx (hL22.ext hx) (by decide) (by decide)) (fun v wy h => ⟨h.2, h.1⟩)),
                  trivial⟩ (fun w26 he26 => ?_)
              refine L.op rfl rfl (O.neq_f rfl rfl (by rw [hq]) (L.op rfl rfl (O.pick_false rfl rfl (L.op rfl rfl (O.neq_bool_f Tryz.runUnderlying4 rfl rfl rfl (L.nil (T.cond_false rfl (T.skip (T.blk (T.region (L.op rfl rfl (O.add64 rfl rfl (by (try dsimp only); omega) (L.op rfl rfl (O.move rfl (L.nil (T.again (j + 1) (by omega) ⟨rfl, rfl, rfl, rfl, rfl, rfl, rfl, trivial⟩ ⟨hjl, (he1017.trans (he21.trans he2122)).trans he26⟩))))))))))))))))
            · refine T.seq (T.region (L.op rfl rfl (O.fieldAddr Tryz.runUnderlying39 rfl Tryz.sizeOf9 rfl (L.op rfl rfl (O.load Tryz.isAgg9 rfl (hX17.cell rfl) (L.op rfl rfl (O.move rfl (L.op rfl rfl (O.eql_str_t Tryz.runUnderlying9 rfl rfl how (?_))))))))))
              have g2 : decide ((appR xs (xRev nm x.nm)).2 = 8) = true := by rw [f2, hwd, decide_eq_true how]; rfl
              have g3 : decide ((appR xs (xWit nm x.nm)).2 = 8) = false := by rw [f3, hwd, hop, decide_eq_true how]; rfl
              have g5 : decide ((appR xs (xOpe nm x.nm)).2 = 8) = true := by rw [f5, hwd, hop, decide_eq_true how, decide_eq_false hq]; rfl
              refine L.op rfl rfl (O.assign rfl (L.nil (T.seq (T.seq (?_)))))
              refine T.anyE mixed 20 [12, 15, 8, 17, 14, 16] rfl [.is _, .is _, .is (.bool true), .is _, .is _, .is _, .is undef, .is undef, .is _, .is _, .is undef, .is undef, .is _, .is _, .is _, .is _, .is _, .is (.bool false), .is _, .is _] [[], [], [0, 1], [], [3], [4], [5], [6, 5], [5, 7], [8], [9], [10, 9], [9, 11], [2, 12], [13], [14], [14], [15, 16, 14], [14], [18, 14]] [[], [], [0, 1], [], [3], [0, 1, 2, 3, 4], [0, 1, 2, 3, 4, 5], [0, 1, 2, 3, 4, 5, 6], [0, 1, 2, 3, 4, 5, 6, 7], [0, 1, 2, 3, 4, 5, 6, 7, 8], [0, 1, 2, 3, 4, 5, 6, 7, 8, 9], [0, 1, 2, 3, 4, 5, 6, 7, 8, 9, 10], [0, 1, 2, 3, 4, 5, 6, 7, 8, 9, 10, 11], [0, 1, 2, 3, 4, 5, 6, 7, 8, 9, 10, 11, 12], [0, 1, 2, 3, 4, 5, 6, 7, 8, 9, 10, 11, 12, 13], [0, 1, 2, 3, 4, 5, 6, 7, 8, 9, 10, 11, 12, 13, 14], [0, 1, 2, 3, 4, 5, 6, 7, 8, 9, 10, 11, 12, 13, 14], [0, 1, 2, 3, 4, 5, 6, 7, 8, 9, 10, 11, 12, 13, 14, 15, 16], [0, 1, 2, 3, 4, 5, 6, 7, 8, 9, 10, 11, 12, 13, 14], [0, 1, 2, 3, 4, 5, 6, 7, 8, 9, 10, 11, 12, 13, 14, 18], [0, 1, 2, 3, 4, 5, 6, 7, 8, 9, 10, 11, 12, 13, 14, 15, 16, 17, 18, 19], [0, 1, 2, 3, 4, 5, 6, 7, 8, 9, 10, 11, 12, 13, 14, 15, 16, 17, 18, 19, 20], [0, 1, 2, 3, 4, 5, 6, 7, 8, 9, 10, 11, 12, 13, 14, 15, 16, 17, 18, 19, 20, 21], [0, 1, 2, 3, 4, 5, 6, 7, 8, 9, 10, 11, 12, 13, 14, 15, 16, 17, 18, 19, 20, 21, 22], [0, 1, 2, 3, 4, 5, 6, 7, 8, 9, 10, 11, 12, 13, 14, 15, 16, 17, 18, 19, 20, 21, 22, 23], [0, 1, 2, 3, 4, 5, 6, 7, 8, 9, 10, 11, 12, 13, 14, 15, 16, 17, 18, 19, 20, 21, 22, 23, 24], [0, 1, 2, 3, 4, 5, 6, 7, 8, 9, 10, 11, 12, 13, 14, 15, 16, 17, 18, 19, 20, 21, 22, 23, 24, 25], [0, 1, 2, 3, 4, 5, 6, 7, 8, 9, 10, 11, 12, 13, 14, 15, 16, 17, 18, 19, 20, 21, 22, 23, 24, 25, 26], [0, 1, 2, 3, 4, 5, 6, 7, 8, 9, 10, 11, 12, 13, 14, 15, 16, 17, 18, 19, 20, 21, 22, 23, 24, 25, 26, 27], [0, 1, 2, 3, 4, 5, 6, 7, 8, 9, 10, 11, 12, 13, 14, 15, 16, 17, 18, 19, 20, 21, 22, 23, 24, 25, 26, 27, 28]] (by kernel_rfl) (by kernel_rfl) rfl (by kernel_rfl) trivial ⟨fun wx hx => Ob.op rfl (O.move rfl ⟨Keep.refl _ _, rfl⟩),
                  fun wx hx => Ob.op rfl (O.loadAgg Tryz.isAgg42 Tryz.sizeOf42 rfl rfl ((hR17.ext hx).row) ⟨Keep.refl _ _, rfl⟩),
                  fun wx hx => Ob.op rfl (O.call (xs := [.tmp 85]) Tryz.call16 rfl rfl (refused_calls b7 (.slice oh xs.length caph) xs (xRev nm x.nm) wx (hH17.ext hx) (hE17.ext hx) hok o2 (hL17.ext hx)) (fun v wy h => ⟨h.2, by rw [h.1, g2]; rfl⟩)),
                  fun wx hx => Ob.op rfl (O.fieldAddr Tryz.runUnderlying32 rfl Tryz.sizeOf4 rfl ⟨Keep.refl _ _, rfl⟩),
                  fun wx hx => Ob.op rfl (O.load Tryz.isAgg4 rfl ((hS17.ext hx).cell (v := .bool true) (by simp [stCells, hcl])) ⟨Keep.refl _ _, rfl⟩),
                  fun wx hx => Ob.op rfl (O.move rfl ⟨Keep.refl _ _, rfl⟩),
                  fun wx hx => Ob.pass rfl rfl,
                  fun wx hx => Ob.pass rfl rfl,
                  fun wx hx => Ob.op rfl (O.pick_true rfl rfl ⟨Keep.refl _ _, rfl⟩),
                  fun wx hx => Ob.op rfl (O.move rfl ⟨Keep.refl _ _, rfl⟩),
                  fun wx hx => Ob.pass rfl rfl,
                  fun wx hx => Ob.pass rfl rfl,
                  fun wx hx => Ob.op rfl (O.pick_true rfl rfl ⟨Keep.refl _ _, rfl⟩),
                  fun wx hx => Ob.op rfl (O.neq_bool_f Tryz.runUnderlying4 rfl rfl rfl ⟨Keep.refl _ _, rfl⟩),
                  fun wx hx => Ob.op rfl (O.move rfl ⟨Keep.refl _ _, rfl⟩),
                  fun wx hx => Ob.op rfl (O.move rfl ⟨Keep.refl _ _, rfl⟩),
                  fun wx hx => Ob.op rfl (O.loadAgg Tryz.isAgg42 Tryz.sizeOf42 rfl rfl ((hW17.ext hx).row) ⟨Keep.refl _ _, rfl⟩),
                  fun wx hx => Ob.op rfl (O.call (xs := [.tmp 100]) Tryz.call16 rfl rfl (refused_calls b7 (.slice oh xs.length caph) xs (xWit nm x.nm) wx (hH17.ext hx) (hE17.ext hx) hok o3 (hL17.ext hx)) (fun v wy h => ⟨h.2, by rw [h.1, g3]; rfl⟩)),
                  fun wx hx => Ob.op rfl (O.move rfl ⟨Keep.refl _ _, rfl⟩),
                  fun wx hx => Ob.op rfl (O.not rfl ⟨Keep.refl _ _, rfl⟩),
                  trivial⟩ (fun w21 he21 => ?_)
              refine L.op rfl rfl (O.move rfl (L.op rfl rfl (O.fieldAddr Tryz.runUnderlying39 rfl Tryz.sizeOf4 rfl (L.op rfl rfl (O.load Tryz.isAgg4 rfl ((hX17.ext he21).cell (v := .bool false) (by simp [It.cells, hwd])) (L.op rfl rfl (O.pick_false rfl rfl (L.op rfl rfl (O.move rfl (L.op rfl rfl (O.fieldAddr Tryz.runUnderlying39 rfl Tryz.sizeOf4 rfl (L.op rfl rfl (O.load Tryz.isAgg4 rfl ((hX17.ext he21).cell (v := .bool false) (by simp [It.cells, hop])) (L.op rfl rfl (O.pick_false rfl rfl (L.op rfl rfl (O.neq_bool_f Tryz.runUnderlying4 rfl rfl rfl (?_))))))))))))))))))
              have hH21 := hH17.ext he21
              have hE21 := hE17.ext he21
              have hL21 := hL17.ext he21
              have hX21 := hX17.ext he21
              have hS21 := hS17.ext he21
              refine L.op rfl rfl (O.pick_false rfl rfl (L.nil (T.cond_false rfl (T.skip (T.seq (T.seq (T.region (L.op rfl rfl (O.move rfl (L.op rfl rfl (O.move rfl (L.op rfl rfl (O.fieldAddr Tryz.runUnderlying39 rfl Tryz.sizeOf9 rfl (L.op rfl rfl (O.load Tryz.isAgg9 rfl (hX21.cell rfl) (L.op rfl rfl (O.build (v := (xSub nm x.nm).val) (parts := [(0, .const (.int .i64 1)), (1, .tmp 115), (2, .tmp 117)]) (vs := [(0, _), (1, _), (2, _)]) rfl (fun w => by kernel_rfl) (L.op rfl rfl (O.call (xs := [.tmp 118]) Tryz.call16 rfl rfl (refused_calls b7 (.slice oh xs.length caph) xs (xSub nm x.nm) w21 hH21 hE21 hok o6 hL21) (fun v119 w119 hq => ?_))))))))))))))))))))
              obtain ⟨hv119, he119⟩ := hq
              rw [f1] at hv119
              subst hv119
              refine L.op rfl rfl (O.not rfl (L.nil (T.cond_false rfl (T.skip (T.seq (T.region (L.op rfl rfl (O.move rfl (L.op rfl rfl (O.fieldAddr Tryz.runUnderlying39 rfl Tryz.sizeOf9 rfl (L.op rfl rfl (O.load Tryz.isAgg9 rfl ((hX21.ext he119).cell rfl) (L.op rfl rfl (O.build (v := (xOpe nm x.nm).val) (parts := [(0, .const (.int .i64 5)), (1, .tmp 121), (2, .tmp 123), (4, _), (5, _)]) (vs := [(0, _), (1, _), (2, _), (4, _), (5, _)]) rfl (fun w => by kernel_rfl) (L.op rfl rfl (O.alloc Tryz.zeroValue42 (fun b18 w18 hb18 hz18 he18 hB18 => ?_)))))))))))))))))
              refine L.op rfl rfl (O.storeAgg Tryz.sizeOf42 rfl rfl rfl hB18 (Nat.le_refl _) (En.one (xOpe nm x.nm)) (fun w22 hu22 hB22 => ?_))
              have hu22 : Upd b18 _ _ := hu22
              have hO22' : Blk w22 b18 (xOpe nm x.nm).cells 42 := hB22
              have he2122 := he119.trans (he18.upd hu22 (.inr (by omega)))
              have hH22 := hH21.ext he2122
              have hE22 := hE21.ext he2122
              have hL22 := hL21.ext he2122
              have hX22 := hX21.ext he2122
              have hS22 := hS21.ext he2122
              refine L.nil (T.seq (?_))
              refine T.anyE mixed 22 [12, 18, 8, 17, 14] rfl [.is _, .is _, .is (.bool true), .is _, .is _, .is _, .is _, .is _, .is _, .is _, .is _, .is _, .is _, .is _, .is _, .is _, .is _, .is _, .is _, .is _, .is _, .is (wordV (sealN sPlan sN))] [[], [], [0, 1], [], [3], [4], [5], [6], [7, 6], [6, 8], [9], [10], [11, 10], [10, 12], [13], [14], [15, 14], [14, 16], [17], [18], [19, 18], [18]] [[], [], [0, 1], [], [3], [3, 4], [0, 1, 2, 3, 4, 5], [0, 1, 2, 3, 4, 5, 6], [0, 1, 2, 3, 4, 5, 6, 7], [0, 1, 2, 3, 4, 5, 6, 7, 8], [0, 1, 2, 3, 4, 5, 6, 7, 8, 9], [0, 1, 2, 3, 4, 5, 6, 7, 8, 9, 10], [0, 1, 2, 3, 4, 5, 6, 7, 8, 9, 10, 11], [0, 1, 2, 3, 4, 5, 6, 7, 8, 9, 10, 11, 12], [0, 1, 2, 3, 4, 5, 6, 7, 8, 9, 10, 11, 12, 13], [0, 1, 2, 3, 4, 5, 6, 7, 8, 9, 10, 11, 12, 13, 14], [0, 1, 2, 3, 4, 5, 6, 7, 8, 9, 10, 11, 12, 13, 14, 15], [0, 1, 2, 3, 4, 5, 6, 7, 8, 9, 10, 11, 12, 13, 14, 15, 16], [0, 1, 2, 3, 4, 5, 6, 7, 8, 9, 10, 11, 12, 13, 14, 15, 16, 17], [0, 1, 2, 3, 4, 5, 6, 7, 8, 9, 10, 11, 12, 13, 14, 15, 16, 17, 18], [0, 1, 2, 3, 4, 5, 6, 7, 8, 9, 10, 11, 12, 13, 14, 15, 16, 17, 18, 19], [0, 1, 2, 3, 4, 5, 6, 7, 8, 9, 10, 11, 12, 13, 14, 15, 16, 17, 18], [0, 1, 2, 3, 4, 5, 6, 7, 8, 9, 10, 11, 12, 13, 14, 15, 16, 17, 18, 19, 20, 21], [0, 1, 2, 3, 4, 5, 6, 7, 8, 9, 10, 11, 12, 13, 14, 15, 16, 17, 18, 19, 20, 21, 22], [0, 1, 2, 3, 4, 5, 6, 7, 8, 9, 10, 11, 12, 13, 14, 15, 16, 17, 18, 19, 20, 21, 22, 23]] (by kernel_rfl) (by kernel_rfl) rfl (by kernel_rfl) trivial ⟨fun wx hx => Ob.op rfl (O.move rfl ⟨Keep.refl _ _, rfl⟩),
                  fun wx hx => Ob.op rfl (O.loadAgg Tryz.isAgg42 Tryz.sizeOf42 rfl rfl ((hO22'.ext hx).row) ⟨Keep.refl _ _, rfl⟩),
                  fun wx hx => Ob.op rfl (O.call (xs := [.tmp 126]) Tryz.call16 rfl rfl (refused_calls b7 (.slice oh xs.length caph) xs (xOpe nm x.nm) wx (hH22.ext hx) (hE22.ext hx) hok o5 (hL22.ext hx)) (fun v wy h => ⟨h.2, by rw [h.1, g5]; rfl⟩)),
                  fun wx hx => Ob.op rfl (O.fieldAddr Tryz.runUnderlying32 rfl Tryz.sizeOf4 rfl ⟨Keep.refl _ _, rfl⟩),
                  fun wx hx => Ob.op rfl (O.load Tryz.isAgg4 rfl ((hS22.ext hx).cell (v := .bool true) (by simp [stCells, hcl])) ⟨Keep.refl _ _, rfl⟩),
                  fun wx hx => Ob.op rfl (O.not rfl ⟨Keep.refl _ _, rfl⟩),
                  fun wx hx => Ob.op rfl (O.move rfl ⟨Keep.refl _ _, rfl⟩),
                  fun wx hx => Ob.op rfl (O.move rfl ⟨Keep.refl _ _, rfl⟩),
                  fun wx hx => Ob.op rfl (O.not rfl ⟨Keep.refl _ _, rfl⟩),
                  fun wx hx => Ob.op rfl (O.pick_false rfl rfl ⟨Keep.refl _ _, rfl⟩),
                  fun wx hx => Ob.op rfl (O.move rfl ⟨Keep.refl _ _, rfl⟩),
                  fun wx hx => Ob.op rfl (O.fieldAddr Tryz.runUnderlying39 rfl Tryz.sizeOf4 rfl ⟨Keep.refl _ _, rfl⟩),
                  fun wx hx => Ob.op rfl (O.load Tryz.isAgg4 rfl ((hX22.ext hx).cell (v := .bool false) (by simp [It.cells, hwd])) ⟨Keep.refl _ _, rfl⟩),
                  fun wx hx => Ob.op rfl (O.pick_false rfl rfl ⟨Keep.refl _ _, rfl⟩),
                  fun wx hx => Ob.op rfl (O.move rfl ⟨Keep.refl _ _, rfl⟩),
                  fun wx hx => Ob.op rfl (O.fieldAddr Tryz.runUnderlying39 rfl Tryz.sizeOf4 rfl ⟨Keep.refl _ _, rfl⟩),
                  fun wx hx => Ob.op rfl (O.load Tryz.isAgg4 rfl ((hX22.ext hx).cell (v := .bool false) (by simp [It.cells, hop])) ⟨Keep.refl _ _, rfl⟩),
                  fun wx hx => Ob.op rfl (O.pick_false rfl rfl ⟨Keep.refl _ _, rfl⟩),
                  fun wx hx => Ob.op rfl (O.move rfl ⟨Keep.refl _ _, rfl⟩),
                  fun wx hx => Ob.op rfl (O.fieldAddr Tryz.runUnderlying39 rfl Tryz.sizeOf25 rfl ⟨Keep.refl _ _, rfl⟩),
                  fun wx hx => Ob.op rfl (O.load Tryz.isAgg25 rfl ((hX22.ext hx).cell rfl) ⟨Keep.refl _ _, rfl⟩),
                  fun wx hx => Ob.op rfl (O.call (xs := [_, _]) Tryz.call18 rfl rfl (seal_calls sPlan sN wx (hL22.ext hx) (by decide) (by decide)) (fun v wy h => ⟨h.2, h.1⟩)),
                  trivial⟩ (fun w26 he26 => ?_)
              refine L.op rfl rfl (O.neq_t rfl rfl (fun e => hq (by exact Int.ofNat.inj e)) (L.op rfl rfl (O.pick_false rfl rfl (L.op rfl rfl (O.neq_bool_f Tryz.runUnderlying4 rfl rfl rfl (L.nil (T.cond_false rfl (T.skip (T.blk (T.region (L.op rfl rfl (O.add64 rfl rfl (by (try dsimp only); omega) (L.op rfl rfl (O.move rfl (L.nil (T.again (j + 1) (by omega) ⟨rfl, rfl, rfl, rfl, rfl, rfl, rfl, trivial⟩ ⟨hjl, (he1017.trans (he21.trans he2122)).trans he26⟩))))))))))))))))
          · refine T.seq (T.region (L.op rfl rfl (O.fieldAddr Tryz.runUnderlying39 rfl Tryz.sizeOf9 rfl (L.op rfl rfl (O.load Tryz.isAgg9 rfl (hX17.cell rfl) (L.op rfl rfl (O.move rfl (L.op rfl rfl (O.eql_str_f Tryz.runUnderlying9 rfl rfl how (?_))))))))))
            have g2 : decide ((appR xs (xRev nm x.nm)).2 = 8) = true := by rw [f2, hwd, decide_eq_false how]; rfl
            have g3 : decide ((appR xs (xWit nm x.nm)).2 = 8) = true := by rw [f3, hwd, hop, decide_eq_false how]; rfl
            have g5 : decide ((appR xs (xOpe nm x.nm)).2 = 8) = true := by rw [f5, hwd, hop, decide_eq_false how]; first | rfl | simp
            refine L.op rfl rfl (O.assign rfl (L.nil (T.seq (T.seq (?_)))))
            refine T.anyE mixed 20 [12, 15, 8, 17, 14, 16] rfl [.is _, .is _, .is (.bool true), .is _, .is _, .is _, .is undef, .is undef, .is _, .is _, .is undef, .is undef, .is _, .is _, .is _, .is _, .is _, .is (.bool true), .is _, .is _] [[], [], [0, 1], [], [3], [4], [5], [6, 5], [5, 7], [8], [9], [10, 9], [9, 11], [2, 12], [13], [14], [14], [15, 16, 14], [14], [18, 14]] [[], [], [0, 1], [], [3], [0, 1, 2, 3, 4], [0, 1, 2, 3, 4, 5], [0, 1, 2, 3, 4, 5, 6], [0, 1, 2, 3, 4, 5, 6, 7], [0, 1, 2, 3, 4, 5, 6, 7, 8], [0, 1, 2, 3, 4, 5, 6, 7, 8, 9], [0, 1, 2, 3, 4, 5, 6, 7, 8, 9, 10], [0, 1, 2, 3, 4, 5, 6, 7, 8, 9, 10, 11], [0, 1, 2, 3, 4, 5, 6, 7, 8, 9, 10, 11, 12], [0, 1, 2, 3, 4, 5, 6, 7, 8, 9, 10, 11, 12, 13], [0, 1, 2, 3, 4, 5, 6, 7, 8, 9, 10, 11, 12, 13, 14], [0, 1, 2, 3, 4, 5, 6, 7, 8, 9, 10, 11, 12, 13, 14], [0, 1, 2, 3, 4, 5, 6, 7, 8, 9, 10, 11, 12, 13, 14, 15, 16], [0, 1, 2, 3, 4, 5, 6, 7, 8, 9, 10, 11, 12, 13, 14], [0, 1, 2, 3, 4, 5, 6, 7, 8, 9, 10, 11, 12, 13, 14, 18], [0, 1, 2, 3, 4, 5, 6, 7, 8, 9, 10, 11, 12, 13, 14, 15, 16, 17, 18, 19], [0, 1, 2, 3, 4, 5, 6, 7, 8, 9, 10, 11, 12, 13, 14, 15, 16, 17, 18, 19, 20], [0, 1, 2, 3, 4, 5, 6, 7, 8, 9, 10, 11, 12, 13, 14, 15, 16, 17, 18, 19, 20, 21], [0, 1, 2, 3, 4, 5, 6, 7, 8, 9, 10, 11, 12, 13, 14, 15, 16, 17, 18, 19, 20, 21, 22], [0, 1, 2, 3, 4, 5, 6, 7, 8, 9, 10, 11, 12, 13, 14, 15, 16, 17, 18, 19, 20, 21, 22, 23], [0, 1, 2, 3, 4, 5, 6, 7, 8, 9, 10, 11, 12, 13, 14, 15, 16, 17, 18, 19, 20, 21, 22, 23, 24], [0, 1, 2, 3, 4, 5, 6, 7, 8, 9, 10, 11, 12, 13, 14, 15, 16, 17, 18, 19, 20, 21, 22, 23, 24, 25], [0, 1, 2, 3, 4, 5, 6, 7, 8, 9, 10, 11, 12, 13, 14, 15, 16, 17, 18, 19, 20, 21, 22, 23, 24, 25, 26], [0, 1, 2, 3, 4, 5, 6, 7, 8, 9, 10, 11, 12, 13, 14, 15, 16, 17, 18, 19, 20, 21, 22, 23, 24, 25, 26, 27], [0, 1, 2, 3, 4, 5, 6, 7, 8, 9, 10, 11, 12, 13, 14, 15, 16, 17, 18, 19, 20, 21, 22, 23, 24, 25, 26, 27, 28]] (by kernel_rfl) (by kernel_rfl) rfl (by kernel_rfl) trivial ⟨fun wx hx => Ob.op rfl (O.move rfl ⟨Keep.refl _ _, rfl⟩),
                fun wx hx => Ob.op rfl (O.loadAgg Tryz.isAgg42 Tryz.sizeOf42 rfl rfl ((hR17.ext hx).row) ⟨Keep.refl _ _, rfl⟩),
                fun wx hx => Ob.op rfl (O.call (xs := [.tmp 85]) Tryz.call16 rfl rfl (refused_calls b7 (.slice oh xs.length caph) xs (xRev nm x.nm) wx (hH17.ext hx) (hE17.ext hx) hok o2 (hL17.ext hx)) (fun v wy h => ⟨h.2, by rw [h.1, g2]; rfl⟩)),
                fun wx hx => Ob.op rfl (O.fieldAddr Tryz.runUnderlying32 rfl Tryz.sizeOf4 rfl ⟨Keep.refl _ _, rfl⟩),
                fun wx hx => Ob.op rfl (O.load Tryz.isAgg4 rfl ((hS17.ext hx).cell (v := .bool true) (by simp [stCells, hcl])) ⟨Keep.refl _ _, rfl⟩),
                fun wx hx => Ob.op rfl (O.move rfl ⟨Keep.refl _ _, rfl⟩),
                fun wx hx => Ob.pass rfl rfl,
                fun wx hx => Ob.pass rfl rfl,
                fun wx hx => Ob.op rfl (O.pick_true rfl rfl ⟨Keep.refl _ _, rfl⟩),
                fun wx hx => Ob.op rfl (O.move rfl ⟨Keep.refl _ _, rfl⟩),
                fun wx hx => Ob.pass rfl rfl,
                fun wx hx => Ob.pass rfl rfl,
                fun wx hx => Ob.op rfl (O.pick_true rfl rfl ⟨Keep.refl _ _, rfl⟩),
                fun wx hx => Ob.op rfl (O.neq_bool_f Tryz.runUnderlying4 rfl rfl rfl ⟨Keep.refl _ _, rfl⟩),
                fun wx hx => Ob.op rfl (O.move rfl ⟨Keep.refl _ _, rfl⟩),
                fun wx hx => Ob.op rfl (O.move rfl ⟨Keep.refl _ _, rfl⟩),
                fun wx hx => Ob.op rfl (O.loadAgg Tryz.isAgg42 Tryz.sizeOf42 rfl rfl ((hW17.ext hx).row) ⟨Keep.refl _ _, rfl⟩),
                fun wx hx => Ob.op rfl (O.call (xs := [.tmp 100]) Tryz.call16 rfl rfl (refused_calls b7 (.slice oh xs.length caph) xs (xWit nm x.nm) wx (hH17.ext hx) (hE17.ext hx) hok o3 (hL17.ext hx)) (fun v wy h => ⟨h.2, by rw [h.1, g3]; rfl⟩)),
                fun wx hx => Ob.op rfl (O.move rfl ⟨Keep.refl _ _, rfl⟩),
                fun wx hx => Ob.op rfl (O.not rfl ⟨Keep.refl _ _, rfl⟩),
                trivial⟩ (fun w21 he21 => ?_)
            refine L.op rfl rfl (O.move rfl (L.pass rfl rfl (L.pass rfl rfl (L.op rfl rfl (O.pick_true rfl rfl (L.op rfl rfl (O.move rfl (L.pass rfl rfl (L.pass rfl rfl (L.op rfl rfl (O.pick_true rfl rfl (L.op rfl rfl (O.neq_bool_f Tryz.runUnderlying4 rfl rfl rfl (?_))))))))))))))
            have hH21 := hH17.ext he21
            have hE21 := hE17.ext he21
            have hL21 := hL17.ext he21
            have hX21 := hX17.ext he21
            have hS21 := hS17.ext he21
            refine L.op rfl rfl (O.pick_false rfl rfl (L.nil (T.cond_false rfl (T.skip (T.seq (T.seq (T.region (L.op rfl rfl (O.move rfl (L.op rfl rfl (O.move rfl (L.op rfl rfl (O.fieldAddr Tryz.runUnderlying39 rfl Tryz.sizeOf9 rfl (L.op rfl rfl (O.load Tryz.isAgg9 rfl (hX21.cell rfl) (L.op rfl rfl (O.build (v := (xSub nm x.nm).val) (parts := [(0, .const (.int .i64 1)), (1, .tmp 115), (2, .tmp 117)]) (vs := [(0, _), (1, _), (2, _)]) rfl (fun w => by kernel_rfl) (L.op rfl rfl (O.call (xs := [.tmp 118]) Tryz.call16 rfl rfl (refused_calls b7 (.slice oh xs.length caph) xs (xSub nm x.nm) w21 hH21 hE21 hok o6 hL21) (fun v119 w119 hq => ?_))))))))))))))))))))
            obtain ⟨hv119, he119⟩ := hq
            rw [f1] at hv119
            subst hv119
            refine L.op rfl rfl (O.not rfl (L.nil (T.cond_false rfl (T.skip (T.seq (T.region (L.op rfl rfl (O.move rfl (L.op rfl rfl (O.fieldAddr Tryz.runUnderlying39 rfl Tryz.sizeOf9 rfl (L.op rfl rfl (O.load Tryz.isAgg9 rfl ((hX21.ext he119).cell rfl) (L.op rfl rfl (O.build (v := (xOpe nm x.nm).val) (parts := [(0, .const (.int .i64 5)), (1, .tmp 121), (2, .tmp 123), (4, _), (5, _)]) (vs := [(0, _), (1, _), (2, _), (4, _), (5, _)]) rfl (fun w => by kernel_rfl) (L.op rfl rfl (O.alloc Tryz.zeroValue42 (fun b18 w18 hb18 hz18 he18 hB18 => ?_)))))))))))))))))
            refine L.op rfl rfl (O.storeAgg Tryz.sizeOf42 rfl rfl rfl hB18 (Nat.le_refl _) (En.one (xOpe nm x.nm)) (fun w22 hu22 hB22 => ?_))
            have hu22 : Upd b18 _ _ := hu22
            have hO22' : Blk w22 b18 (xOpe nm x.nm).cells 42 := hB22
            have he2122 := he119.trans (he18.upd hu22 (.inr (by omega)))
            have hH22 := hH21.ext he2122
            have hE22 := hE21.ext he2122
            have hL22 := hL21.ext he2122
            have hX22 := hX21.ext he2122
            have hS22 := hS21.ext he2122
            refine L.nil (T.seq (?_))
            refine T.anyE mixed 22 [12, 18, 8, 17, 14] rfl [.is _, .is _, .is (.bool true), .is _, .is _, .is _, .is _, .is _, .is _, .is _, .is _, .is undef, .is undef, .is _, .is _, .is undef, .is undef, .is _, .is _, .is undef, .is undef, .is undef] [[], [], [0, 1], [], [3], [4], [5], [6], [7, 6], [6, 8], [9], [10], [11, 10], [10, 12], [13], [14], [15, 14], [14, 16], [17], [18], [19, 18], [18]] [[], [], [0, 1], [], [3], [3, 4], [0, 1, 2, 3, 4, 5], [0, 1, 2, 3, 4, 5, 6], [0, 1, 2, 3, 4, 5, 6, 7], [0, 1, 2, 3, 4, 5, 6, 7, 8], [0, 1, 2, 3, 4, 5, 6, 7, 8, 9], [0, 1, 2, 3, 4, 5, 6, 7, 8, 9, 10], [0, 1, 2, 3, 4, 5, 6, 7, 8, 9, 10, 11], [0, 1, 2, 3, 4, 5, 6, 7, 8, 9, 10, 11, 12], [0, 1, 2, 3, 4, 5, 6, 7, 8, 9, 10, 11, 12, 13], [0, 1, 2, 3, 4, 5, 6, 7, 8, 9, 10, 11, 12, 13, 14], [0, 1, 2, 3, 4, 5, 6, 7, 8, 9, 10, 11, 12, 13, 14, 15], [0, 1, 2, 3, 4, 5, 6, 7, 8, 9, 10, 11, 12, 13, 14, 15, 16], [0, 1, 2, 3, 4, 5, 6, 7, 8, 9, 10, 11, 12, 13, 14, 15, 16, 17], [0, 1, 2, 3, 4, 5, 6, 7, 8, 9, 10, 11, 12, 13, 14, 15, 16, 17, 18], [0, 1, 2, 3, 4, 5, 6, 7, 8, 9, 10, 11, 12, 13, 14, 15, 16, 17, 18, 19], [0, 1, 2, 3, 4, 5, 6, 7, 8, 9, 10, 11, 12, 13, 14, 15, 16, 17, 18], [0, 1, 2, 3, 4, 5, 6, 7, 8, 9, 10, 11, 12, 13, 14, 15, 16, 17, 18, 19, 20, 21], [0, 1, 2, 3, 4, 5, 6, 7, 8, 9, 10, 11, 12, 13, 14, 15, 16, 17, 18, 19, 20, 21, 22], [0, 1, 2, 3, 4, 5, 6, 7, 8, 9, 10, 11, 12, 13, 14, 15, 16, 17, 18, 19, 20, 21, 22, 23]] (by kernel_rfl) (by kernel_rfl) rfl (by kernel_rfl) trivial ⟨fun wx hx => Ob.op rfl (O.move rfl ⟨Keep.refl _ _, rfl⟩),
                fun wx hx => Ob.op rfl (O.loadAgg Tryz.isAgg42 Tryz.sizeOf42 rfl rfl ((hO22'.ext hx).row) ⟨Keep.refl _ _, rfl⟩),
                fun wx hx => Ob.op rfl (O.call (xs := [.tmp 126]) Tryz.call16 rfl rfl (refused_calls b7 (.slice oh xs.length caph) xs (xOpe nm x.nm) wx (hH22.ext hx) (hE22.ext hx) hok o5 (hL22.ext hx)) (fun v wy h => ⟨h.2, by rw [h.1, g5]; rfl⟩)),
                fun wx hx => Ob.op rfl (O.fieldAddr Tryz.runUnderlying32 rfl Tryz.sizeOf4 rfl ⟨Keep.refl _ _, rfl⟩),
                fun wx hx => Ob.op rfl (O.load Tryz.isAgg4 rfl ((hS22.ext hx).cell (v := .bool true) (by simp [stCells, hcl])) ⟨Keep.refl _ _, rfl⟩),
                fun wx hx => Ob.op rfl (O.not rfl ⟨Keep.refl _ _, rfl⟩),
                fun wx hx => Ob.op rfl (O.move rfl ⟨Keep.refl _ _, rfl⟩),
                fun wx hx => Ob.op rfl (O.move rfl ⟨Keep.refl _ _, rfl⟩),
                fun wx hx => Ob.op rfl (O.not rfl ⟨Keep.refl _ _, rfl⟩),
                fun wx hx => Ob.op rfl (O.pick_false rfl rfl ⟨Keep.refl _ _, rfl⟩),
                fun wx hx => Ob.op rfl (O.move rfl ⟨Keep.refl _ _, rfl⟩),
                fun wx hx => Ob.pass rfl rfl,
                fun wx hx => Ob.pass rfl rfl,
                fun wx hx => Ob.op rfl (O.pick_true rfl rfl ⟨Keep.refl _ _, rfl⟩),
                fun wx hx => Ob.op rfl (O.move rfl ⟨Keep.refl _ _, rfl⟩),
                fun wx hx => Ob.pass rfl rfl,
                fun wx hx => Ob.pass rfl rfl,
                fun wx hx => Ob.op rfl (O.pick_true rfl rfl ⟨Keep.refl _ _, rfl⟩),
                fun wx hx => Ob.op rfl (O.move rfl ⟨Keep.refl _ _, rfl⟩),
                fun wx hx => Ob.pass rfl rfl,
                fun wx hx => Ob.pass rfl rfl,
                fun wx hx => Ob.pass rfl rfl,
                trivial⟩ (fun w26 he26 => ?_)
            refine L.pass rfl rfl (L.op rfl rfl (O.pick_true rfl rfl (L.op rfl rfl (O.neq_bool_f Tryz.runUnderlying4 rfl rfl rfl (L.nil (T.cond_false rfl (T.skip (T.blk (T.region (L.op rfl rfl (O.add64 rfl rfl (by (try dsimp only); omega) (L.op rfl rfl (O.move rfl (L.nil (T.again (j + 1) (by omega) ⟨rfl, rfl, rfl, rfl, rfl, rfl, rfl, trivial⟩ ⟨hjl, (he1017.trans (he21.trans he2122)).trans he26⟩)))))))))))))))
        · by_cases how : x.ow = nm
          · refine T.seq (T.region (L.op rfl rfl (O.fieldAddr Tryz.runUnderlying39 rfl Tryz.sizeOf9 rfl (L.op rfl rfl (O.load Tryz.isAgg9 rfl (hX17.cell rfl) (L.op rfl rfl (O.move rfl (L.op rfl rfl (O.eql_str_t Tryz.runUnderlying9 rfl rfl how (?_))))))))))
            have g2 : decide ((appR xs (xRev nm x.nm)).2 = 8) = true := by rw [f2, hwd, decide_eq_true how]; rfl
            have g3 : decide ((appR xs (xWit nm x.nm)).2 = 8) = true := by rw [f3, hwd, hop, decide_eq_true how]; rfl
            have g5 : decide ((appR xs (xOpe nm x.nm)).2 = 8) = true := by rw [f5, hwd, hop, decide_eq_true how]; first | rfl | simp
            refine L.op rfl rfl (O.assign rfl (L.nil (T.seq (T.seq (?_)))))
            refine T.anyE mixed 20 [12, 15, 8, 17, 14, 16] rfl [.is _, .is _, .is (.bool true), .is _, .is _, .is _, .is undef, .is undef, .is _, .is _, .is undef, .is undef, .is _, .is _, .is _, .is _, .is _, .is (.bool true), .is _, .is _] [[], [], [0, 1], [], [3], [4], [5], [6, 5], [5, 7], [8], [9], [10, 9], [9, 11], [2, 12], [13], [14], [14], [15, 16, 14], [14], [18, 14]] [[], [], [0, 1], [], [3], [0, 1, 2, 3, 4], [0, 1, 2, 3, 4, 5], [0, 1, 2, 3, 4, 5, 6], [0, 1, 2, 3, 4, 5, 6, 7], [0, 1, 2, 3, 4, 5, 6, 7, 8], [0, 1, 2, 3, 4, 5, 6, 7, 8, 9], [0, 1, 2, 3, 4, 5, 6, 7, 8, 9, 10], [0, 1, 2, 3, 4, 5, 6, 7, 8, 9, 10, 11], [0, 1, 2, 3, 4, 5, 6, 7, 8, 9, 10, 11, 12], [0, 1, 2, 3, 4, 5, 6, 7, 8, 9, 10, 11, 12, 13], [0, 1, 2, 3, 4, 5, 6, 7, 8, 9, 10, 11, 12, 13, 14], [0, 1, 2, 3, 4, 5, 6, 7, 8, 9, 10, 11, 12, 13, 14], [0, 1, 2, 3, 4, 5, 6, 7, 8, 9, 10, 11, 12, 13, 14, 15, 16], [0, 1, 2, 3, 4, 5, 6, 7, 8, 9, 10, 11, 12, 13, 14], [0, 1, 2, 3, 4, 5, 6, 7, 8, 9, 10, 11, 12, 13, 14, 18], [0, 1, 2, 3, 4, 5, 6, 7, 8, 9, 10, 11, 12, 13, 14, 15, 16, 17, 18, 19], [0, 1, 2, 3, 4, 5, 6, 7, 8, 9, 10, 11, 12, 13, 14, 15, 16, 17, 18, 19, 20], [0, 1, 2, 3, 4, 5, 6, 7, 8, 9, 10, 11, 12, 13, 14, 15, 16, 17, 18, 19, 20, 21], [0, 1, 2, 3, 4, 5, 6, 7, 8, 9, 10, 11, 12, 13, 14, 15, 16, 17, 18, 19, 20, 21, 22], [0, 1, 2, 3, 4, 5, 6, 7, 8, 9, 10, 11, 12, 13, 14, 15, 16, 17, 18, 19, 20, 21, 22, 23], [0, 1, 2, 3, 4, 5, 6, 7, 8, 9, 10, 11, 12, 13, 14, 15, 16, 17, 18, 19, 20, 21, 22, 23, 24], [0, 1, 2, 3, 4, 5, 6, 7, 8, 9, 10, 11, 12, 13, 14, 15, 16, 17, 18, 19, 20, 21, 22, 23, 24, 25], [0, 1, 2, 3, 4, 5, 6, 7, 8, 9, 10, 11, 12, 13, 14, 15, 16, 17, 18, 19, 20, 21, 22, 23, 24, 25, 26], [0, 1, 2, 3, 4, 5, 6, 7, 8, 9, 10, 11, 12, 13, 14, 15, 16, 17, 18, 19, 20, 21, 22, 23, 24, 25, 26, 27], [0, 1, 2, 3, 4, 5, 6, 7, 8, 9, 10, 11, 12, 13, 14, 15, 16, 17, 18, 19, 20, 21, 22, 23, 24, 25, 26, 27, 28]] (by kernel_rfl) (by kernel_rfl) rfl (by kernel_rfl) trivial ⟨fun wx hx => Ob.op rfl (O.move rfl ⟨Keep.refl _ _, rfl⟩),
                fun wx hx => Ob.op rfl (O.loadAgg Tryz.isAgg42 Tryz.sizeOf42 rfl rfl ((hR17.ext hx).row) ⟨Keep.refl _ _, rfl⟩),
                fun wx hx => Ob.op rfl (O.call (xs := [.tmp 85]) Tryz.call16 rfl rfl (refused_calls b7 (.slice oh xs.length caph) xs (xRev nm x.nm) wx (hH17.ext hx) (hE17.ext hx) hok o2 (hL17.ext hx)) (fun v wy h => ⟨h.2, by rw [h.1, g2]; rfl⟩)),
                fun wx hx => Ob.op rfl (O.fieldAddr Tryz.runUnderlying32 rfl Tryz.sizeOf4 rfl ⟨Keep.refl _ _, rfl⟩),
                fun wx hx => Ob.op rfl (O.load Tryz.isAgg4 rfl ((hS17.ext hx).cell (v := .bool true) (by simp [stCells, hcl])) ⟨Keep.refl _ _, rfl⟩),
                fun wx hx => Ob.op rfl (O.move rfl ⟨Keep.refl _ _, rfl⟩),
                fun wx hx => Ob.pass rfl rfl,
                fun wx hx => Ob.pass rfl rfl,
                fun wx hx => Ob.op rfl (O.pick_true rfl rfl ⟨Keep.refl _ _, rfl⟩),
                fun wx hx => Ob.op rfl (O.move rfl ⟨Keep.refl _ _, rfl⟩),
                fun wx hx => Ob.pass rfl rfl,
                fun wx hx => Ob.pass rfl rfl,
                fun wx hx => Ob.op rfl (O.pick_true rfl rfl ⟨Keep.refl _ _, rfl⟩),
                fun wx hx => Ob.op rfl (O.neq_bool_f Tryz.runUnderlying4 rfl rfl rfl ⟨Keep.refl _ _, rfl⟩),
                fun wx hx => Ob.op rfl (O.move rfl ⟨Keep.refl _ _, rfl⟩),
                fun wx hx => Ob.op rfl (O.move rfl ⟨Keep.refl _ _, rfl⟩),
                fun wx hx => Ob.op rfl (O.loadAgg Tryz.isAgg42 Tryz.sizeOf42 rfl rfl ((hW17.ext hx).row) ⟨Keep.refl _ _, rfl⟩),
                fun wx hx => Ob.op rfl (O.call (xs := [.tmp 100]) Tryz.call16 rfl rfl (refused_calls b7 (.slice oh xs.length caph) xs (xWit nm x.nm) wx (hH17.ext hx) (hE17.ext hx) hok o3 (hL17.ext hx)) (fun v wy h => ⟨h.2, by rw [h.1, g3]; rfl⟩)),
                fun wx hx => Ob.op rfl (O.move rfl ⟨Keep.refl _ _, rfl⟩),
                fun wx hx => Ob.op rfl (O.not rfl ⟨Keep.refl _ _, rfl⟩),
                trivial⟩ (fun w21 he21 => ?_)
            refine L.op rfl rfl (O.move rfl (L.op rfl rfl (O.fieldAddr Tryz.runUnderlying39 rfl Tryz.sizeOf4 rfl (L.op rfl rfl (O.load Tryz.isAgg4 rfl ((hX17.ext he21).cell (v := .bool false) (by simp [It.cells, hwd])) (L.op rfl rfl (O.pick_false rfl rfl (L.op rfl rfl (O.move rfl (L.op rfl rfl (O.fieldAddr Tryz.runUnderlying39 rfl Tryz.sizeOf4 rfl (L.op rfl rfl (O.load Tryz.isAgg4 rfl ((hX17.ext he21).cell (v := .bool true) (by simp [It.cells, hop])) (L.op rfl rfl (O.pick_false rfl rfl (L.op rfl rfl (O.neq_bool_f Tryz.runUnderlying4 rfl rfl rfl (?_))))))))))))))))))
            have hH21 := hH17.ext he21
            have hE21 := hE17.ext he21
            have hL21 := hL17.ext he21
            have hX21 := hX17.ext he21
            have hS21 := hS17.ext he21
            refine L.op rfl rfl (O.pick_false rfl rfl (L.nil (T.cond_false rfl (T.skip (T.seq (T.seq (T.region (L.op rfl rfl (O.move rfl (L.op rfl rfl (O.move rfl (L.op rfl rfl (O.fieldAddr Tryz.runUnderlying39 rfl Tryz.sizeOf9 rfl (L.op rfl rfl (O.load Tryz.isAgg9 rfl (hX21.cell rfl) (L.op rfl rfl (O.build (v := (xSub nm x.nm).val) (parts := [(0, .const (.int .i64 1)), (1, .tmp 115), (2, .tmp 117)]) (vs := [(0, _), (1, _), (2, _)]) rfl (fun w => by kernel_rfl) (L.op rfl rfl (O.call (xs := [.tmp 118]) Tryz.call16 rfl rfl (refused_calls b7 (.slice oh xs.length caph) xs (xSub nm x.nm) w21 hH21 hE21 hok o6 hL21) (fun v119 w119 hq => ?_))))))))))))))))))))
            obtain ⟨hv119, he119⟩ := hq
            rw [f1] at hv119
            subst hv119
            refine L.op rfl rfl (O.not rfl (L.nil (T.cond_false rfl (T.skip (T.seq (T.region (L.op rfl rfl (O.move rfl (L.op rfl rfl (O.fieldAddr Tryz.runUnderlying39 rfl Tryz.sizeOf9 rfl (L.op rfl rfl (O.load Tryz.isAgg9 rfl ((hX21.ext he119).cell rfl) (L.op rfl rfl (O.build (v := (xOpe nm x.nm).val) (parts := [(0, .const (.int .i64 5)), (1, .tmp 121), (2, .tmp 123), (4, _), (5, _)]) (vs := [(0, _), (1, _), (2, _), (4, _), (5, _)]) rfl (fun w => by kernel_rfl) (L.op rfl rfl (O.alloc Tryz.zeroValue42 (fun b18 w18 hb18 hz18 he18 hB18 => ?_)))))))))))))))))
            refine L.op rfl rfl (O.storeAgg Tryz.sizeOf42 rfl rfl rfl hB18 (Nat.le_refl _) (En.one (xOpe nm x.nm)) (fun w22 hu22 hB22 => ?_))
            have hu22 : Upd b18 _ _ := hu22
            have hO22' : Blk w22 b18 (xOpe nm x.nm).cells 42 := hB22
            have he2122 := he119.trans (he18.upd hu22 (.inr (by omega)))
            have hH22 := hH21.ext he2122
            have hE22 := hE21.ext he2122
            have hL22 := hL21.ext he2122
            have hX22 := hX21.ext he2122
            have hS22 := hS21.ext he2122
            refine L.nil (T.seq (?_))
            refine T.anyE mixed 22 [12, 18, 8, 17, 14] rfl [.is _, .is _, .is (.bool true), .is _, .is _, .is _, .is _, .is _, .is _, .is _, .is _, .is _, .is _, .is _, .is _, .is _, .is _, .is _, .is _, .is undef, .is undef, .is undef] [[], [], [0, 1], [], [3], [4], [5], [6], [7, 6], [6, 8], [9], [10], [11, 10], [10, 12], [13], [14], [15, 14], [14, 16], [17], [18], [19, 18], [18]] [[], [], [0, 1], [], [3], [3, 4], [0, 1, 2, 3, 4, 5], [0, 1, 2, 3, 4, 5, 6], [0, 1, 2, 3, 4, 5, 6, 7], [0, 1, 2, 3, 4, 5, 6, 7, 8], [0, 1, 2, 3, 4, 5, 6, 7, 8, 9], [0, 1, 2, 3, 4, 5, 6, 7, 8, 9, 10], [0, 1, 2, 3, 4, 5, 6, 7, 8, 9, 10, 11], [0, 1, 2, 3, 4, 5, 6, 7, 8, 9, 10, 11, 12], [0, 1, 2, 3, 4, 5, 6, 7, 8, 9, 10, 11, 12, 13], [0, 1, 2, 3, 4, 5, 6, 7, 8, 9, 10, 11, 12, 13, 14], [0, 1, 2, 3, 4, 5, 6, 7, 8, 9, 10, 11, 12, 13, 14, 15], [0, 1, 2, 3, 4, 5, 6, 7, 8, 9, 10, 11, 12, 13, 14, 15, 16], [0, 1, 2, 3, 4, 5, 6, 7, 8, 9, 10, 11, 12, 13, 14, 15, 16, 17], [0, 1, 2, 3, 4, 5, 6, 7, 8, 9, 10, 11, 12, 13, 14, 15, 16, 17, 18], [0, 1, 2, 3, 4, 5, 6, 7, 8, 9, 10, 11, 12, 13, 14, 15, 16, 17, 18, 19], [0, 1, 2, 3, 4, 5, 6, 7, 8, 9, 10, 11, 12, 13, 14, 15, 16, 17, 18], [0, 1, 2, 3, 4, 5, 6, 7, 8, 9, 10, 11, 12, 13, 14, 15, 16, 17, 18, 19, 20, 21], [0, 1, 2, 3, 4, 5, 6, 7, 8, 9, 10, 11, 12, 13, 14, 15, 16, 17, 18, 19, 20, 21, 22], [0, 1, 2, 3, 4, 5, 6, 7, 8, 9, 10, 11, 12, 13, 14, 15, 16, 17, 18, 19, 20, 21, 22, 23]] (by kernel_rfl) (by kernel_rfl) rfl (by kernel_rfl) trivial ⟨fun wx hx => Ob.op rfl (O.move rfl ⟨Keep.refl _ _, rfl⟩),
                fun wx hx => Ob.op rfl (O.loadAgg Tryz.isAgg42 Tryz.sizeOf42 rfl rfl ((hO22'.ext hx).row) ⟨Keep.refl _ _, rfl⟩),
                fun wx hx => Ob.op rfl (O.call (xs := [.tmp 126]) Tryz.call16 rfl rfl (refused_calls b7 (.slice oh xs.length caph) xs (xOpe nm x.nm) wx (hH22.ext hx) (hE22.ext hx) hok o5 (hL22.ext hx)) (fun v wy h => ⟨h.2, by rw [h.1, g5]; rfl⟩)),
                fun wx hx => Ob.op rfl (O.fieldAddr Tryz.runUnderlying32 rfl Tryz.sizeOf4 rfl ⟨Keep.refl _ _, rfl⟩),
                fun wx hx => Ob.op rfl (O.load Tryz.isAgg4 rfl ((hS22.ext hx).cell (v := .bool true) (by simp [stCells, hcl])) ⟨Keep.refl _ _, rfl⟩),
                fun wx hx => Ob.op rfl (O.not rfl ⟨Keep.refl _ _, rfl⟩),
                fun wx hx => Ob.op rfl (O.move rfl ⟨Keep.refl _ _, rfl⟩),
                fun wx hx => Ob.op rfl (O.move rfl ⟨Keep.refl _ _, rfl⟩),
                fun wx hx => Ob.op rfl (O.not rfl ⟨Keep.refl _ _, rfl⟩),
                fun wx hx => Ob.op rfl (O.pick_false rfl rfl ⟨Keep.refl _ _, rfl⟩),
                fun wx hx => Ob.op rfl (O.move rfl ⟨Keep.refl _ _, rfl⟩),
                fun wx hx => Ob.op rfl (O.fieldAddr Tryz.runUnderlying39 rfl Tryz.sizeOf4 rfl ⟨Keep.refl _ _, rfl⟩),
                fun wx hx => Ob.op rfl (O.load Tryz.isAgg4 rfl ((hX22.ext hx).cell (v := .bool false) (by simp [It.cells, hwd])) ⟨Keep.refl _ _, rfl⟩),
                fun wx hx => Ob.op rfl (O.pick_false rfl rfl ⟨Keep.refl _ _, rfl⟩),
                fun wx hx => Ob.op rfl (O.move rfl ⟨Keep.refl _ _, rfl⟩),
                fun wx hx => Ob.op rfl (O.fieldAddr Tryz.runUnderlying39 rfl Tryz.sizeOf4 rfl ⟨Keep.refl _ _, rfl⟩),
                fun wx hx => Ob.op rfl (O.load Tryz.isAgg4 rfl ((hX22.ext hx).cell (v := .bool true) (by simp [It.cells, hop])) ⟨Keep.refl _ _, rfl⟩),
                fun wx hx => Ob.op rfl (O.pick_false rfl rfl ⟨Keep.refl _ _, rfl⟩),
                fun wx hx => Ob.op rfl (O.move rfl ⟨Keep.refl _ _, rfl⟩),
                fun wx hx => Ob.pass rfl rfl,
                fun wx hx => Ob.pass rfl rfl,
                fun wx hx => Ob.pass rfl rfl,
                trivial⟩ (fun w26 he26 => ?_)
            refine L.pass rfl rfl (L.op rfl rfl (O.pick_true rfl rfl (L.op rfl rfl (O.neq_bool_f Tryz.runUnderlying4 rfl rfl rfl (L.nil (T.cond_false rfl (T.skip (T.blk (T.region (L.op rfl rfl (O.add64 rfl rfl (by (try dsimp only); omega) (L.op rfl rfl (O.move rfl (L.nil (T.again (j + 1) (by omega) ⟨rfl, rfl, rfl, rfl, rfl, rfl, rfl, trivial⟩ ⟨hjl, (he1017.trans (he21.trans he2122)).trans he26⟩)))))))))))))))
          · refine T.seq (T.region (L.op rfl rfl (O.fieldAddr Tryz.runUnderlying39 rfl Tryz.sizeOf9 rfl (L.op rfl rfl (O.load Tryz.isAgg9 rfl (hX17.cell rfl) (L.op rfl rfl (O.move rfl (L.op rfl rfl (O.eql_str_f Tryz.runUnderlying9 rfl rfl how (?_))))))))))
            have g2 : decide ((appR xs (xRev nm x.nm)).2 = 8) = true := by rw [f2, hwd, decide_eq_false how]; rfl
            have g3 : decide ((appR xs (xWit nm x.nm)).2 = 8) = true := by rw [f3, hwd, hop, decide_eq_false how]; rfl
            have g5 : decide ((appR xs (xOpe nm x.nm)).2 = 8) = true := by rw [f5, hwd, hop, decide_eq_false how]; first | rfl | simp
            refine L.op rfl rfl (O.assign rfl (L.nil (T.seq (T.seq (?_)))))
            refine T.anyE mixed 20 [12, 15, 8, 17, 14, 16] rfl [.is _, .is _, .is (.bool true), .is _, .is _, .is _, .is undef, .is undef, .is _, .is _, .is undef, .is undef, .is _, .is _, .is _, .is _, .is _, .is (.bool true), .is _, .is _] [[], [], [0, 1], [], [3], [4], [5], [6, 5], [5, 7], [8], [9], [10, 9], [9, 11], [2, 12], [13], [14], [14], [15, 16, 14], [14], [18, 14]] [[], [], [0, 1], [], [3], [0, 1, 2, 3, 4], [0, 1, 2, 3, 4, 5], [0, 1, 2, 3, 4, 5, 6], [0, 1, 2, 3, 4, 5, 6, 7], [0, 1, 2, 3, 4, 5, 6, 7, 8], [0, 1, 2, 3, 4, 5, 6, 7, 8, 9], [0, 1, 2, 3, 4, 5, 6, 7, 8, 9, 10], [0, 1, 2, 3, 4, 5, 6, 7, 8, 9, 10, 11], [0, 1, 2, 3, 4, 5, 6, 7, 8, 9, 10, 11, 12], [0, 1, 2, 3, 4, 5, 6, 7, 8, 9, 10, 11, 12, 13], [0, 1, 2, 3, 4, 5, 6, 7, 8, 9, 10, 11, 12, 13, 14], [0, 1, 2, 3, 4, 5, 6, 7, 8, 9, 10, 11, 12, 13, 14], [0, 1, 2, 3, 4, 5, 6, 7, 8, 9, 10, 11, 12, 13, 14, 15, 16], [0, 1, 2, 3, 4, 5, 6, 7, 8, 9, 10, 11, 12, 13, 14], [0, 1, 2, 3, 4, 5, 6, 7, 8, 9, 10, 11, 12, 13, 14, 18], [0, 1, 2, 3, 4, 5, 6, 7, 8, 9, 10, 11, 12, 13, 14, 15, 16, 17, 18, 19], [0, 1, 2, 3, 4, 5, 6, 7, 8, 9, 10, 11, 12, 13, 14, 15, 16, 17, 18, 19, 20], [0, 1, 2, 3, 4, 5, 6, 7, 8, 9, 10, 11, 12, 13, 14, 15, 16, 17, 18, 19, 20, 21], [0, 1, 2, 3, 4, 5, 6, 7, 8, 9, 10, 11, 12, 13, 14, 15, 16, 17, 18, 19, 20, 21, 22], [0, 1, 2, 3, 4, 5, 6, 7, 8, 9, 10, 11, 12, 13, 14, 15, 16, 17, 18, 19, 20, 21, 22, 23], [0, 1, 2, 3, 4, 5, 6, 7, 8, 9, 10, 11, 12, 13, 14, 15, 16, 17, 18, 19, 20, 21, 22, 23, 24], [0, 1, 2, 3, 4, 5, 6, 7, 8, 9, 10, 11, 12, 13, 14, 15, 16, 17, 18, 19, 20, 21, 22, 23, 24, 25], [0, 1, 2, 3, 4, 5, 6, 7, 8, 9, 10, 11, 12, 13, 14, 15, 16, 17, 18, 19, 20, 21, 22, 23, 24, 25, 26], [0, 1, 2, 3, 4, 5, 6, 7, 8, 9, 10, 11, 12, 13, 14, 15, 16, 17, 18, 19, 20, 21, 22, 23, 24, 25, 26, 27], [0, 1, 2, 3, 4, 5, 6, 7, 8, 9, 10, 11, 12, 13, 14, 15, 16, 17, 18, 19, 20, 21, 22, 23, 24, 25, 26, 27, 28]] (by kernel_rfl) (by kernel_rfl) rfl (by kernel_rfl) trivial ⟨fun wx hx => Ob.op rfl (O.move rfl ⟨Keep.refl _ _, rfl⟩),
                fun wx hx => Ob.op rfl (O.loadAgg Tryz.isAgg42 Tryz.sizeOf42 rfl rfl ((hR17.ext hx).row) ⟨Keep.refl _ _, rfl⟩),
                fun wx hx => Ob.op rfl (O.call (xs := [.tmp 85]) Tryz.call16 rfl rfl (refused_calls b7 (.slice oh xs.length caph) xs (xRev nm x.nm) wx (hH17.ext hx) (hE17.ext hx) hok o2 (hL17.ext hx)) (fun v wy h => ⟨h.2, by rw [h.1, g2]; rfl⟩)),
                fun wx hx => Ob.op rfl (O.fieldAddr Tryz.runUnderlying32 rfl Tryz.sizeOf4 rfl ⟨Keep.refl _ _, rfl⟩),
                fun wx hx => Ob.op rfl (O.load Tryz.isAgg4 rfl ((hS17.ext hx).cell (v := .bool true) (by simp [stCells, hcl])) ⟨Keep.refl _ _, rfl⟩),
                fun wx hx => Ob.op rfl (O.move rfl ⟨Keep.refl _ _, rfl⟩),
                fun wx hx => Ob.pass rfl rfl,
                fun wx hx => Ob.pass rfl rfl,
                fun wx hx => Ob.op rfl (O.pick_true rfl rfl ⟨Keep.refl _ _, rfl⟩),
                fun wx hx => Ob.op rfl (O.move rfl ⟨Keep.refl _ _, rfl⟩),
                fun wx hx => Ob.pass rfl rfl,
                fun wx hx => Ob.pass rfl rfl,
                fun wx hx => Ob.op rfl (O.pick_true rfl rfl ⟨Keep.refl _ _, rfl⟩),
                fun wx hx => Ob.op rfl (O.neq_bool_f Tryz.runUnderlying4 rfl rfl rfl ⟨Keep.refl _ _, rfl⟩),
                fun wx hx => Ob.op rfl (O.move rfl ⟨Keep.refl _ _, rfl⟩),
                fun wx hx => Ob.op rfl (O.move rfl ⟨Keep.refl _ _, rfl⟩),
                fun wx hx => Ob.op rfl (O.loadAgg Tryz.isAgg42 Tryz.sizeOf42 rfl rfl ((hW17.ext hx).row) ⟨Keep.refl _ _, rfl⟩),
                fun wx hx => Ob.op rfl (O.call (xs := [.tmp 100]) Tryz.call16 rfl rfl (refused_calls b7 (.slice oh xs.length caph) xs (xWit nm x.nm) wx (hH17.ext hx) (hE17.ext hx) hok o3 (hL17.ext hx)) (fun v wy h => ⟨h.2, by rw [h.1, g3]; rfl⟩)),
                fun wx hx => Ob.op rfl (O.move rfl ⟨Keep.refl _ _, rfl⟩),
                fun wx hx => Ob.op rfl (O.not rfl ⟨Keep.refl _ _, rfl⟩),
                trivial⟩ (fun w21 he21 => ?_)
            refine L.op rfl rfl (O.move rfl (L.pass rfl rfl (L.pass rfl rfl (L.op rfl rfl (O.pick_true rfl rfl (L.op rfl rfl (O.move rfl (L.pass rfl rfl (L.pass rfl rfl (L.op rfl rfl (O.pick_true rfl rfl (L.op rfl rfl (O.neq_bool_f Tryz.runUnderlying4 rfl rfl rfl (?_))))))))))))))
            have hH21 := hH17.ext he21
            have hE21 := hE17.ext he21
            have hL21 := hL17.ext he21
            have hX21 := hX17.ext he21
            have hS21 := hS17.ext he21
            refine L.op rfl rfl (O.pick_false rfl rfl (L.nil (T.cond_false rfl (T.skip (T.seq (T.seq (T.region (L.op rfl rfl (O.move rfl (L.op rfl rfl (O.move rfl (L.op rfl rfl (O.fieldAddr Tryz.runUnderlying39 rfl Tryz.sizeOf9 rfl (L.op rfl rfl (O.load Tryz.isAgg9 rfl (hX21.cell rfl) (L.op rfl rfl (O.build (v := (xSub nm x.nm).val) (parts := [(0, .const (.int .i64 1)), (1, .tmp 115), (2, .tmp 117)]) (vs := [(0, _), (1, _), (2, _)]) rfl (fun w => by kernel_rfl) (L.op rfl rfl (O.call (xs := [.tmp 118]) Tryz.call16 rfl rfl (refused_calls b7 (.slice oh xs.length caph) xs (xSub nm x.nm) w21 hH21 hE21 hok o6 hL21) (fun v119 w119 hq => ?_))))))))))))))))))))
            obtain ⟨hv119, he119⟩ := hq
            rw [f1] at hv119
            subst hv119
            refine L.op rfl rfl (O.not rfl (L.nil (T.cond_false rfl (T.skip (T.seq (T.region (L.op rfl rfl (O.move rfl (L.op rfl rfl (O.fieldAddr Tryz.runUnderlying39 rfl Tryz.sizeOf9 rfl (L.op rfl rfl (O.load Tryz.isAgg9 rfl ((hX21.ext he119).cell rfl) (L.op rfl rfl (O.build (v := (xOpe nm x.nm).val) (parts := [(0, .const (.int .i64 5)), (1, .tmp 121), (2, .tmp 123), (4, _), (5, _)]) (vs := [(0, _), (1, _), (2, _), (4, _), (5, _)]) rfl (fun w => by kernel_rfl) (L.op rfl rfl (O.alloc Tryz.zeroValue42 (fun b18 w18 hb18 hz18 he18 hB18 => ?_)))))))))))))))))
            refine L.op rfl rfl (O.storeAgg Tryz.sizeOf42 rfl rfl rfl hB18 (Nat.le_refl _) (En.one (xOpe nm x.nm)) (fun w22 hu22 hB22 => ?_))
            have hu22 : Upd b18 _ _ := hu22
            have hO22' : Blk w22 b18 (xOpe nm x.nm).cells 42 := hB22
            have he2122 := he119.trans (he18.upd hu22 (.inr (by omega)))
            have hH22 := hH21.ext he2122
            have hE22 := hE21.ext he2122
            have hL22 := hL21.ext he2122
            have hX22 := hX21.ext he2122
            have hS22 := hS21.ext he2122
            refine L.nil (T.seq (?_))
            refine T.anyE mixed 22 [12, 18, 8, 17, 14] rfl [.is _, .is _, .is (.bool true), .is _, .is _, .is _, .is _, .is _, .is _, .is _, .is _, .is undef, .is undef, .is _, .is _, .is undef, .is undef, .is _, .is _, .is undef, .is undef, .is undef] [[], [], [0, 1], [], [3], [4], [5], [6], [7, 6], [6, 8], [9], [10], [11, 10], [10, 12], [13], [14], [15, 14], [14, 16], [17], [18], [19, 18], [18]] [[], [], [0, 1], [], [3], [3, 4], [0, 1, 2, 3, 4, 5], [0, 1, 2, 3, 4, 5, 6], [0, 1, 2, 3, 4, 5, 6, 7], [0, 1, 2, 3, 4, 5, 6, 7, 8], [0, 1, 2, 3, 4, 5, 6, 7, 8, 9], [0, 1, 2, 3, 4, 5, 6, 7, 8, 9, 10], [0, 1, 2, 3, 4, 5, 6, 7, 8, 9, 10, 11], [0, 1, 2, 3, 4, 5, 6, 7, 8, 9, 10, 11, 12], [0, 1, 2, 3, 4, 5, 6, 7, 8, 9, 10, 11, 12, 13], [0, 1, 2, 3, 4, 5, 6, 7, 8, 9, 10, 11, 12, 13, 14], [0, 1, 2, 3, 4, 5, 6, 7, 8, 9, 10, 11, 12, 13, 14, 15], [0, 1, 2, 3, 4, 5, 6, 7, 8, 9, 10, 11, 12, 13, 14, 15, 16], [0, 1, 2, 3, 4, 5, 6, 7, 8, 9, 10, 11, 12, 13, 14, 15, 16, 17], [0, 1, 2, 3, 4, 5, 6, 7, 8, 9, 10, 11, 12, 13, 14, 15, 16, 17, 18], [0, 1, 2, 3, 4, 5, 6, 7, 8, 9, 10, 11, 12, 13, 14, 15, 16, 17, 18, 19], [0, 1, 2, 3, 4, 5, 6, 7, 8, 9, 10, 11, 12, 13, 14, 15, 16, 17, 18], [0, 1, 2, 3, 4, 5, 6, 7, 8, 9, 10, 11, 12, 13, 14, 15, 16, 17, 18, 19, 20, 21], [0, 1, 2, 3, 4, 5, 6, 7, 8, 9, 10, 11, 12, 13, 14, 15, 16, 17, 18, 19, 20, 21, 22], [0, 1, 2, 3, 4, 5, 6, 7, 8, 9, 10, 11, 12, 13, 14, 15, 16, 17, 18, 19, 20, 21, 22, 23]] (by kernel_rfl) (by kernel_rfl) rfl (by kernel_rfl) trivial ⟨fun wx hx => Ob.op rfl (O.move rfl ⟨Keep.refl _ _, rfl⟩),
                fun wx hx => Ob.op rfl (O.loadAgg Tryz.isAgg42 Tryz.sizeOf42 rfl rfl ((hO22'.ext hx).row) ⟨Keep.refl _ _, rfl⟩),
                fun wx hx => Ob.op rfl (O.call (xs := [.tmp 126]) Tryz.call16 rfl rfl (refused_calls b7 (.slice oh xs.length caph) xs (xOpe nm x.nm) wx (hH22.ext hx) (hE22.ext hx) hok o5 (hL22.ext hx)) (fun v wy h => ⟨h.2, by rw [h.1, g5]; rfl⟩)),
                fun wx hx => Ob.op rfl (O.fieldAddr Tryz.runUnderlying32 rfl Tryz.sizeOf4 rfl ⟨Keep.refl _ _, rfl⟩),
                fun wx hx => Ob.op rfl (O.load Tryz.isAgg4 rfl ((hS22.ext hx).cell (v := .bool true) (by simp [stCells, hcl])) ⟨Keep.refl _ _, rfl⟩),
                fun wx hx => Ob.op rfl (O.not rfl ⟨Keep.refl _ _, rfl⟩),
                fun wx hx => Ob.op rfl (O.move rfl ⟨Keep.refl _ _, rfl⟩),
                fun wx hx => Ob.op rfl (O.move rfl ⟨Keep.refl _ _, rfl⟩),
                fun wx hx => Ob.op rfl (O.not rfl ⟨Keep.refl _ _, rfl⟩),
                fun wx hx => Ob.op rfl (O.pick_false rfl rfl ⟨Keep.refl _ _, rfl⟩),
                fun wx hx => Ob.op rfl (O.move rfl ⟨Keep.refl _ _, rfl⟩),
                fun wx hx => Ob.pass rfl rfl,
                fun wx hx => Ob.pass rfl rfl,
                fun wx hx => Ob.op rfl (O.pick_true rfl rfl ⟨Keep.refl _ _, rfl⟩),
                fun wx hx => Ob.op rfl (O.move rfl ⟨Keep.refl _ _, rfl⟩),
                fun wx hx => Ob.pass rfl rfl,
                fun wx hx => Ob.pass rfl rfl,
                fun wx hx => Ob.op rfl (O.pick_true rfl rfl ⟨Keep.refl _ _, rfl⟩),
                fun wx hx => Ob.op rfl (O.move rfl ⟨Keep.refl _ _, rfl⟩),
                fun wx hx => Ob.pass rfl rfl,
                fun wx hx => Ob.pass rfl rfl,
                fun wx hx => Ob.pass rfl rfl,
                trivial⟩ (fun w26 he26 => ?_)
            refine L.pass rfl rfl (L.op rfl rfl (O.pick_true rfl rfl (L.op rfl rfl (O.neq_bool_f Tryz.runUnderlying4 rfl rfl rfl (L.nil (T.cond_false rfl (T.skip (T.blk (T.region (L.op rfl rfl (O.add64 rfl rfl (by (try dsimp only); omega) (L.op rfl rfl (O.move rfl (L.nil (T.again (j + 1) (by omega) ⟨rfl, rfl, rfl, rfl, rfl, rfl, rfl, trivial⟩ ⟨hjl, (he1017.trans (he21.trans he2122)).trans he26⟩)))))))))))))))
      · refine L.nil (?_)
        rcases hop : x.op with _ | _
        · by_cases how : x.ow = nm
          · refine T.seq (T.region (L.op rfl rfl (O.fieldAddr Tryz.runUnderlying39 rfl Tryz.sizeOf9 rfl (L.op rfl rfl (O.load Tryz.isAgg9 rfl (hX17.cell rfl) (L.op rfl rfl (O.move rfl (L.op rfl rfl (O.eql_str_t Tryz.runUnderlying9 rfl rfl how (?_))))))))))
            have g2 : decide ((appR xs (xRev nm x.nm)).2 = 8) = true := by rw [f2, hwd, decide_eq_true how]; rfl
            have g3 : decide ((appR xs (xWit nm x.nm)).2 = 8) = true := by rw [f3, hwd, hop, decide_eq_true how]; rfl
            have g5 : decide ((appR xs (xOpe nm x.nm)).2 = 8) = true := by rw [f5, hwd, hop, decide_eq_true how]; first | rfl | simp
            refine L.op rfl rfl (O.assign rfl (L.nil (T.seq (T.seq (?_)))))
            refine T.anyE mixed 20 [12, 15, 8, 17, 14, 16] rfl [.is _, .is _, .is (.bool true), .is _, .is _, .is _, .is undef, .is undef, .is _, .is _, .is undef, .is undef, .is _, .is _, .is _, .is _, .is _, .is (.bool true), .is _, .is _] [[], [], [0, 1], [], [3], [4], [5], [6, 5], [5, 7], [8], [9], [10, 9], [9, 11], [2, 12], [13], [14], [14], [15, 16, 14], [14], [18, 14]] [[], [], [0, 1], [], [3], [0, 1, 2, 3, 4], [0, 1, 2, 3, 4, 5], [0, 1, 2, 3, 4, 5, 6], [0, 1, 2, 3, 4, 5, 6, 7], [0, 1, 2, 3, 4, 5, 6, 7, 8], [0, 1, 2, 3, 4, 5, 6, 7, 8, 9], [0, 1, 2, 3, 4, 5, 6, 7, 8, 9, 10], [0, 1, 2, 3, 4, 5, 6, 7, 8, 9, 10, 11], [0, 1, 2, 3, 4, 5, 6, 7, 8, 9, 10, 11, 12], [0, 1, 2, 3, 4, 5, 6, 7, 8, 9, 10, 11, 12, 13], [0, 1, 2, 3, 4, 5, 6, 7, 8, 9, 10, 11, 12, 13, 14], [0, 1, 2, 3, 4, 5, 6, 7, 8, 9, 10, 11, 12, 13, 14], [0, 1, 2, 3, 4, 5, 6, 7, 8, 9, 10, 11, 12, 13, 14, 15, 16], [0, 1, 2, 3, 4, 5, 6, 7, 8, 9, 10, 11, 12, 13, 14], [0, 1, 2, 3, 4, 5, 6, 7, 8, 9, 10, 11, 12, 13, 14, 18], [0, 1, 2, 3, 4, 5, 6, 7, 8, 9, 10, 11, 12, 13, 14, 15, 16, 17, 18, 19], [0, 1, 2, 3, 4, 5, 6, 7, 8, 9, 10, 11, 12, 13, 14, 15, 16, 17, 18, 19, 20], [0, 1, 2, 3, 4, 5, 6, 7, 8, 9, 10, 11, 12, 13, 14, 15, 16, 17, 18, 19, 20, 21], [0, 1, 2, 3, 4, 5, 6, 7, 8, 9, 10, 11, 12, 13, 14, 15, 16, 17, 18, 19, 20, 21, 22], [0, 1, 2, 3, 4, 5, 6, 7, 8, 9, 10, 11, 12, 13, 14, 15, 16, 17, 18, 19, 20, 21, 22, 23], [0, 1, 2, 3, 4, 5, 6, 7, 8, 9, 10, 11, 12, 13, 14, 15, 16, 17, 18, 19, 20, 21, 22, 23, 24], [0, 1, 2, 3, 4, 5, 6, 7, 8, 9, 10, 11, 12, 13, 14, 15, 16, 17, 18, 19, 20, 21, 22, 23, 24, 25], [0, 1, 2, 3, 4, 5, 6, 7, 8, 9, 10, 11, 12, 13, 14, 15, 16, 17, 18, 19, 20, 21, 22, 23, 24, 25, 26], [0, 1, 2, 3, 4, 5, 6, 7, 8, 9, 10, 11, 12, 13, 14, 15, 16, 17, 18, 19, 20, 21, 22, 23, 24, 25, 26, 27], [0, 1, 2, 3, 4, 5, 6, 7, 8, 9, 10, 11, 12, 13, 14, 15, 16, 17, 18, 19, 20, 21, 22, 23, 24, 25, 26, 27, 28]] (by kernel_rfl) (by kernel_rfl) rfl (by kernel_rfl) trivial ⟨fun wx hx => Ob.op rfl (O.move rfl ⟨Keep.refl _ _, rfl⟩),
                fun wx hx => Ob.op rfl (O.loadAgg Tryz.isAgg42 Tryz.sizeOf42 rfl rfl ((hR17.ext hx).row) ⟨Keep.refl _ _, rfl⟩),
                fun wx hx => Ob.op rfl (O.call (xs := [.tmp 85]) Tryz.call16 rfl rfl (refused_calls b7 (.slice oh xs.length caph) xs (xRev nm x.nm) wx (hH17.ext hx) (hE17.ext hx) hok o2 (hL17.ext hx)) (fun v wy h => ⟨h.2, by rw [h.1, g2]; rfl⟩)),
                fun wx hx => Ob.op rfl (O.fieldAddr Tryz.runUnderlying32 rfl Tryz.sizeOf4 rfl ⟨Keep.refl _ _, rfl⟩),
                fun wx hx => Ob.op rfl (O.load Tryz.isAgg4 rfl ((hS17.ext hx).cell (v := .bool true) (by simp [stCells, hcl])) ⟨Keep.refl _ _, rfl⟩),
                fun wx hx => Ob.op rfl (O.move rfl ⟨Keep.refl _ _, rfl⟩),
                fun wx hx => Ob.pass rfl rfl,
                fun wx hx => Ob.pass rfl rfl,
                fun wx hx => Ob.op rfl (O.pick_true rfl rfl ⟨Keep.refl _ _, rfl⟩),
                fun wx hx => Ob.op rfl (O.move rfl ⟨Keep.refl _ _, rfl⟩),
                fun wx hx => Ob.pass rfl rfl,
                fun wx hx => Ob.pass rfl rfl,
                fun wx hx => Ob.op rfl (O.pick_true rfl rfl ⟨Keep.refl _ _, rfl⟩),
                fun wx hx => Ob.op rfl (O.neq_bool_f Tryz.runUnderlying4 rfl rfl rfl ⟨Keep.refl _ _, rfl⟩),
                fun wx hx => Ob.op rfl (O.move rfl ⟨Keep.refl _ _, rfl⟩),
                fun wx hx => Ob.op rfl (O.move rfl ⟨Keep.refl _ _, rfl⟩),
                fun wx hx => Ob.op rfl (O.loadAgg Tryz.isAgg42 Tryz.sizeOf42 rfl rfl ((hW17.ext hx).row) ⟨Keep.refl _ _, rfl⟩),
                fun wx hx => Ob.op rfl (O.call (xs := [.tmp 100]) Tryz.call16 rfl rfl (refused_calls b7 (.slice oh xs.length caph) xs (xWit nm x.nm) wx (hH17.ext hx) (hE17.ext hx) hok o3 (hL17.ext hx)) (fun v wy h => ⟨h.2, by rw [h.1, g3]; rfl⟩)),
                fun wx hx => Ob.op rfl (O.move rfl ⟨Keep.refl _ _, rfl⟩),
                fun wx hx => Ob.op rfl (O.not rfl ⟨Keep.refl _ _, rfl⟩),
                trivial⟩ (fun w21 he21 => ?_)
            refine L.op rfl rfl (O.move rfl (L.op rfl rfl (O.fieldAddr Tryz.runUnderlying39 rfl Tryz.sizeOf4 rfl (L.op rfl rfl (O.load Tryz.isAgg4 rfl ((hX17.ext he21).cell (v := .bool true) (by simp [It.cells, hwd])) (L.op rfl rfl (O.pick_false rfl rfl (L.op rfl rfl (O.move rfl (L.pass rfl rfl (L.pass rfl rfl (L.op rfl rfl (O.pick_true rfl rfl (L.op rfl rfl (O.neq_bool_f Tryz.runUnderlying4 rfl rfl rfl (?_))))))))))))))))
            have hH21 := hH17.ext he21
            have hE21 := hE17.ext he21
            have hL21 := hL17.ext he21
            have hX21 := hX17.ext he21
            have hS21 := hS17.ext he21
            refine L.op rfl rfl (O.pick_false rfl rfl (L.nil (T.cond_false rfl (T.skip (T.seq (T.seq (T.region (L.op rfl rfl (O.move rfl (L.op rfl rfl (O.move rfl (L.op rfl rfl (O.fieldAddr Tryz.runUnderlying39 rfl Tryz.sizeOf9 rfl (L.op rfl rfl (O.load Tryz.isAgg9 rfl (hX21.cell rfl) (L.op rfl rfl (O.build (v := (xSub nm x.nm).val) (parts := [(0, .const (.int .i64 1)), (1, .tmp 115), (2, .tmp 117)]) (vs := [(0, _), (1, _), (2, _)]) rfl (fun w => by kernel_rfl) (L.op rfl rfl (O.call (xs := [.tmp 118]) Tryz.call16 rfl rfl (refused_calls b7 (.slice oh xs.length caph) xs (xSub nm x.nm) w21 hH21 hE21 hok o6 hL21) (fun v119 w119 hq => ?_))))))))))))))))))))
            obtain ⟨hv119, he119⟩ := hq
            rw [f1] at hv119
            subst hv119
            refine L.op rfl rfl (O.not rfl (L.nil (T.cond_false rfl (T.skip (T.seq (T.region (L.op rfl rfl (O.move rfl (L.op rfl rfl (O.fieldAddr Tryz.runUnderlying39 rfl Tryz.sizeOf9 rfl (L.op rfl rfl (O.load Tryz.isAgg9 rfl ((hX21.ext he119).cell rfl) (L.op rfl rfl (O.build (v := (xOpe nm x.nm).val) (parts := [(0, .const (.int .i64 5)), (1, .tmp 121), (2, .tmp 123), (4, _), (5, _)]) (vs := [(0, _), (1, _), (2, _), (4, _), (5, _)]) rfl (fun w => by kernel_rfl) (L.op rfl rfl (O.alloc Tryz.zeroValue42 (fun b18 w18 hb18 hz18 he18 hB18 => ?_)))))))))))))))))
            refine L.op rfl rfl (O.storeAgg Tryz.sizeOf42 rfl rfl rfl hB18 (Nat.le_refl _) (En.one (xOpe nm x.nm)) (fun w22 hu22 hB22 => ?_))
            have hu22 : Upd b18 _ _ := hu22
            have hO22' : Blk w22 b18 (xOpe nm x.nm).cells 42 := hB22
            have he2122 := he119.trans (he18.upd hu22 (.inr (by omega)))
            have hH22 := hH21.ext he2122
            have hE22 := hE21.ext he2122
            have hL22 := hL21.ext he2122
            have hX22 := hX21.ext he2122
            have hS22 := hS21.ext he2122
            refine L.nil (T.seq (?_))
            refine T.anyE mixed 22 [12, 18, 8, 17, 14] rfl [.is _, .is _, .is (.bool true), .is _, .is _, .is _, .is _, .is _, .is _, .is _, .is _, .is _, .is _, .is _, .is _, .is undef, .is undef, .is _, .is _, .is undef, .is undef, .is undef] [[], [], [0, 1], [], [3], [4], [5], [6], [7, 6], [6, 8], [9], [10], [11, 10], [10, 12], [13], [14], [15, 14], [14, 16], [17], [18], [19, 18], [18]] [[], [], [0, 1], [], [3], [3, 4], [0, 1, 2, 3, 4, 5], [0, 1, 2, 3, 4, 5, 6], [0, 1, 2, 3, 4, 5, 6, 7], [0, 1, 2, 3, 4, 5, 6, 7, 8], [0, 1, 2, 3, 4, 5, 6, 7, 8, 9], [0, 1, 2, 3, 4, 5, 6, 7, 8, 9, 10], [0, 1, 2, 3, 4, 5, 6, 7, 8, 9, 10, 11], [0, 1, 2, 3, 4, 5, 6, 7, 8, 9, 10, 11, 12], [0, 1, 2, 3, 4, 5, 6, 7, 8, 9, 10, 11, 12, 13], [0, 1, 2, 3, 4, 5, 6, 7, 8, 9, 10, 11, 12, 13, 14], [0, 1, 2, 3, 4, 5, 6, 7, 8, 9, 10, 11, 12, 13, 14, 15], [0, 1, 2, 3, 4, 5, 6, 7, 8, 9, 10, 11, 12, 13, 14, 15, 16], [0, 1, 2, 3, 4, 5, 6, 7, 8, 9, 10, 11, 12, 13, 14, 15, 16, 17], [0, 1, 2, 3, 4, 5, 6, 7, 8, 9, 10, 11, 12, 13, 14, 15, 16, 17, 18], [0, 1, 2, 3, 4, 5, 6, 7, 8, 9, 10, 11, 12, 13, 14, 15, 16, 17, 18, 19], [0, 1, 2, 3, 4, 5, 6, 7, 8, 9, 10, 11, 12, 13, 14, 15, 16, 17, 18], [0, 1, 2, 3, 4, 5, 6, 7, 8, 9, 10, 11, 12, 13, 14, 15, 16, 17, 18, 19, 20, 21], [0, 1, 2, 3, 4, 5, 6, 7, 8, 9, 10, 11, 12, 13, 14, 15, 16, 17, 18, 19, 20, 21, 22], [0, 1, 2, 3, 4, 5, 6, 7, 8, 9, 10, 11, 12, 13, 14, 15, 16, 17, 18, 19, 20, 21, 22, 23]] (by kernel_rfl) (by kernel_rfl) rfl (by kernel_rfl) trivial ⟨fun wx hx => Ob.op rfl (O.move rfl ⟨Keep.refl _ _, rfl⟩),
                fun wx hx => Ob.op rfl (O.loadAgg Tryz.isAgg42 Tryz.sizeOf42 rfl rfl ((hO22'.ext hx).row) ⟨Keep.refl _ _, rfl⟩),
                fun wx hx => Ob.op rfl (O.call (xs := [.tmp 126]) Tryz.call16 rfl rfl (refused_calls b7 (.slice oh xs.length caph) xs (xOpe nm x.nm) wx (hH22.ext hx) (hE22.ext hx) hok o5 (hL22.ext hx)) (fun v wy h => ⟨h.2, by rw [h.1, g5]; rfl⟩)),
                fun wx hx => Ob.op rfl (O.fieldAddr Tryz.runUnderlying32 rfl Tryz.sizeOf4 rfl ⟨Keep.refl _ _, rfl⟩),
                fun wx hx => Ob.op rfl (O.load Tryz.isAgg4 rfl ((hS22.ext hx).cell (v := .bool true) (by simp [stCells, hcl])) ⟨Keep.refl _ _, rfl⟩),
                fun wx hx => Ob.op rfl (O.not rfl ⟨Keep.refl _ _, rfl⟩),
                fun wx hx => Ob.op rfl (O.move rfl ⟨Keep.refl _ _, rfl⟩),
                fun wx hx => Ob.op rfl (O.move rfl ⟨Keep.refl _ _, rfl⟩),
                fun wx hx => Ob.op rfl (O.not rfl ⟨Keep.refl _ _, rfl⟩),
                fun wx hx => Ob.op rfl (O.pick_false rfl rfl ⟨Keep.refl _ _, rfl⟩),
                fun wx hx => Ob.op rfl (O.move rfl ⟨Keep.refl _ _, rfl⟩),
                fun wx hx => Ob.op rfl (O.fieldAddr Tryz.runUnderlying39 rfl Tryz.sizeOf4 rfl ⟨Keep.refl _ _, rfl⟩),
                fun wx hx => Ob.op rfl (O.load Tryz.isAgg4 rfl ((hX22.ext hx).cell (v := .bool true) (by simp [It.cells, hwd])) ⟨Keep.refl _ _, rfl⟩),
                fun wx hx => Ob.op rfl (O.pick_false rfl rfl ⟨Keep.refl _ _, rfl⟩),
                fun wx hx => Ob.op rfl (O.move rfl ⟨Keep.refl _ _, rfl⟩),
                fun wx hx => Ob.pass rfl rfl,
                fun wx hx => Ob.pass rfl rfl,
                fun wx hx => Ob.op rfl (O.pick_true rfl rfl ⟨Keep.refl _ _, rfl⟩),
                fun wx hx => Ob.op rfl (O.move rfl ⟨Keep.refl _ _, rfl⟩),
                fun wx hx => Ob.pass rfl rfl,
                fun wx hx => Ob.pass rfl rfl,
                fun wx hx => Ob.pass rfl rfl,
                trivial⟩ (fun w26 he26 => ?_)
            refine L.pass rfl rfl (L.op rfl rfl (O.pick_true rfl rfl (L.op rfl rfl (O.neq_bool_f Tryz.runUnderlying4 rfl rfl rfl (L.nil (T.cond_false rfl (T.skip (T.blk (T.region (L.op rfl rfl (O.add64 rfl rfl (by (try dsimp only); omega) (L.op rfl rfl (O.move rfl (L.nil (T.again (j + 1) (by omega) ⟨rfl, rfl, rfl, rfl, rfl, rfl, rfl, trivial⟩ ⟨hjl, (he1017.trans (he21.trans he2122)).trans he26⟩)))))))))))))))
          · refine T.seq (T.region (L.op rfl rfl (O.fieldAddr Tryz.runUnderlying39 rfl Tryz.sizeOf9 rfl (L.op rfl rfl (O.load Tryz.isAgg9 rfl (hX17.cell rfl) (L.op rfl rfl (O.move rfl (L.op rfl rfl (O.eql_str_f Tryz.runUnderlying9 rfl rfl how (?_))))))))))
            have g2 : decide ((appR xs (xRev nm x.nm)).2 = 8) = true := by rw [f2, hwd, decide_eq_false how]; rfl
            have g3 : decide ((appR xs (xWit nm x.nm)).2 = 8) = true := by rw [f3, hwd, hop, decide_eq_false how]; rfl
            have g5 : decide ((appR xs (xOpe nm x.nm)).2 = 8) = true := by rw [f5, hwd, hop, decide_eq_false how]; first | rfl | simp
            refine L.op rfl rfl (O.assign rfl (L.nil (T.seq (T.seq (?_)))))
            refine T.anyE mixed 20 [12, 15, 8, 17, 14, 16] rfl [.is _, .is _, .is (.bool true), .is _, .is _, .is _, .is undef, .is undef, .is _, .is _, .is undef, .is undef, .is _, .is _, .is _, .is _, .is _, .is (.bool true), .is _, .is _] [[], [], [0, 1], [], [3], [4], [5], [6, 5], [5, 7], [8], [9], [10, 9], [9, 11], [2, 12], [13], [14], [14], [15, 16, 14], [14], [18, 14]] [[], [], [0, 1], [], [3], [0, 1, 2, 3, 4], [0, 1, 2, 3, 4, 5], [0, 1, 2, 3, 4, 5, 6], [0, 1, 2, 3, 4, 5, 6, 7], [0, 1, 2, 3, 4, 5, 6, 7, 8], [0, 1, 2, 3, 4, 5, 6, 7, 8, 9], [0, 1, 2, 3, 4, 5, 6, 7, 8, 9, 10], [0, 1, 2, 3, 4, 5, 6, 7, 8, 9, 10, 11], [0, 1, 2, 3, 4, 5, 6, 7, 8, 9, 10, 11, 12], [0, 1, 2, 3, 4, 5, 6, 7, 8, 9, 10, 11, 12, 13], [0, 1, 2, 3, 4, 5, 6, 7, 8, 9, 10, 11, 12, 13, 14], [0, 1, 2, 3, 4, 5, 6, 7, 8, 9, 10, 11, 12, 13, 14], [0, 1, 2, 3, 4, 5, 6, 7, 8, 9, 10, 11, 12, 13, 14, 15, 16], [0, 1, 2, 3, 4, 5, 6, 7, 8, 9, 10, 11, 12, 13, 14], [0, 1, 2, 3, 4, 5, 6, 7, 8, 9, 10, 11, 12, 13, 14, 18], [0, 1, 2, 3, 4, 5, 6, 7, 8, 9, 10, 11, 12, 13, 14, 15, 16, 17, 18, 19], [0, 1, 2, 3, 4, 5, 6, 7, 8, 9, 10, 11, 12, 13, 14, 15, 16, 17, 18, 19, 20], [0, 1, 2, 3, 4, 5, 6, 7, 8, 9, 10, 11, 12, 13, 14, 15, 16, 17, 18, 19, 20, 21], [0, 1, 2, 3, 4, 5, 6, 7, 8, 9, 10, 11, 12, 13, 14, 15, 16, 17, 18, 19, 20, 21, 22], [0, 1, 2, 3, 4, 5, 6, 7, 8, 9, 10, 11, 12, 13, 14, 15, 16, 17, 18, 19, 20, 21, 22, 23], [0, 1, 2, 3, 4, 5, 6, 7, 8, 9, 10, 11, 12, 13, 14, 15, 16, 17, 18, 19, 20, 21, 22, 23, 24], [0, 1, 2, 3, 4, 5, 6, 7, 8, 9, 10, 11, 12, 13, 14, 15, 16, 17, 18, 19, 20, 21, 22, 23, 24, 25], [0, 1, 2, 3, 4, 5, 6, 7, 8, 9, 10, 11, 12, 13, 14, 15, 16, 17, 18, 19, 20, 21, 22, 23, 24, 25, 26], [0, 1, 2, 3, 4, 5, 6, 7, 8, 9, 10, 11, 12, 13, 14, 15, 16, 17, 18, 19, 20, 21, 22, 23, 24, 25, 26, 27], [0, 1, 2, 3, 4, 5, 6, 7, 8, 9, 10, 11, 12, 13, 14, 15, 16, 17, 18, 19, 20, 21, 22, 23, 24, 25, 26, 27, 28]] (by kernel_rfl) (by kernel_rfl) rfl (by kernel_rfl) trivial ⟨fun wx hx => Ob.op rfl (O.move rfl ⟨Keep.refl _ _, rfl⟩),
                fun wx hx => Ob.op rfl (O.loadAgg Tryz.isAgg42 Tryz.sizeOf42 rfl rfl ((hR17.ext hx).row) ⟨Keep.refl _ _, rfl⟩),
                fun wx hx => Ob.op rfl (O.call (xs := [.tmp 85]) Tryz.call16 rfl rfl (refused_calls b7 (.slice oh xs.length caph) xs (xRev nm x.nm) wx (hH17.ext hx) (hE17.ext hx) hok o2 (hL17.ext hx)) (fun v wy h => ⟨h.2, by rw [h.1, g2]; rfl⟩)),
                fun wx hx => Ob.op rfl (O.fieldAddr Tryz.runUnderlying32 rfl Tryz.sizeOf4 rfl ⟨Keep.refl _ _, rfl⟩),
                fun wx hx => Ob.op rfl (O.load Tryz.isAgg4 rfl ((hS17.ext hx).cell (v := .bool true) (by simp [stCells, hcl])) ⟨Keep.refl _ _, rfl⟩),
                fun wx hx => Ob.op rfl (O.move rfl ⟨Keep.refl _ _, rfl⟩),
                fun wx hx => Ob.pass rfl rfl,
                fun wx hx => Ob.pass rfl rfl,
                fun wx hx => Ob.op rfl (O.pick_true rfl rfl ⟨Keep.refl _ _, rfl⟩),
                fun wx hx => Ob.op rfl (O.move rfl ⟨Keep.refl _ _, rfl⟩),
                fun wx hx => Ob.pass rfl rfl,
                fun wx hx => Ob.pass rfl rfl,
                fun wx hx => Ob.op rfl (O.pick_true rfl rfl ⟨Keep.refl _ _, rfl⟩),
                fun wx hx => Ob.op rfl (O.neq_bool_f Tryz.runUnderlying4 rfl rfl rfl ⟨Keep.refl _ _, rfl⟩),
                fun wx hx => Ob.op rfl (O.move rfl ⟨Keep.refl _ _, rfl⟩),
                fun wx hx => Ob.op rfl (O.move rfl ⟨Keep.refl _ _, rfl⟩),
                fun wx hx => Ob.op rfl (O.loadAgg Tryz.isAgg42 Tryz.sizeOf42 rfl rfl ((hW17.ext hx).row) ⟨Keep.refl _ _, rfl⟩),
                fun wx hx => Ob.op rfl (O.call (xs := [.tmp 100]) Tryz.call16 rfl rfl (refused_calls b7 (.slice oh xs.length caph) xs (xWit nm x.nm) wx (hH17.ext hx) (hE17.ext hx) hok o3 (hL17.ext hx)) (fun v wy h => ⟨h.2, by rw [h.1, g3]; rfl⟩)),
                fun wx hx => Ob.op rfl (O.move rfl ⟨Keep.refl _ _, rfl⟩),
                fun wx hx => Ob.op rfl (O.not rfl ⟨Keep.refl _ _, rfl⟩),
                trivial⟩ (fun w21 he21 => ?_)
            refine L.op rfl rfl (O.move rfl (L.pass rfl rfl (L.pass rfl rfl (L.op rfl rfl (O.pick_true rfl rfl (L.op rfl rfl (O.move rfl (L.pass rfl rfl (L.pass rfl rfl (L.op rfl rfl (O.pick_true rfl rfl (L.op rfl rfl (O.neq_bool_f Tryz.runUnderlying4 rfl rfl rfl (?_))))))))))))))
            have hH21 := hH17.ext he21
            have hE21 := hE17.ext he21
            have hL21 := hL17.ext he21
            have hX21 := hX17.ext he21
            have hS21 := hS17.ext he21
            refine L.op rfl rfl (O.pick_false rfl rfl (L.nil (T.cond_false rfl (T.skip (T.seq (T.seq (T.region (L.op rfl rfl (O.move rfl (L.op rfl rfl (O.move rfl (L.op rfl rfl (O.fieldAddr Tryz.runUnderlying39 rfl Tryz.sizeOf9 rfl (L.op rfl rfl (O.load Tryz.isAgg9 rfl (hX21.cell rfl) (L.op rfl rfl (O.build (v := (xSub nm x.nm).val) (parts := [(0, .const (.int .i64 1)), (1, .tmp 115), (2, .tmp 117)]) (vs := [(0, _), (1, _), (2, _)]) rfl (fun w => by kernel_rfl) (L.op rfl rfl (O.call (xs := [.tmp 118]) Tryz.call16 rfl rfl (refused_calls b7 (.slice oh xs.length caph) xs (xSub nm x.nm) w21 hH21 hE21 hok o6 hL21) (fun v119 w119 hq => ?_))))))))))))))))))))
            obtain ⟨hv119, he119⟩ := hq
            rw [f1] at hv119
            subst hv119
            refine L.op rfl rfl (O.not rfl (L.nil (T.cond_false rfl (T.skip (T.seq (T.region (L.op rfl rfl (O.move rfl (L.op rfl rfl (O.fieldAddr Tryz.runUnderlying39 rfl Tryz.sizeOf9 rfl (L.op rfl rfl (O.load Tryz.isAgg9 rfl ((hX21.ext he119).cell rfl) (L.op rfl rfl (O.build (v := (xOpe nm x.nm).val) (parts := [(0, .const (.int .i64 5)), (1, .tmp 121), (2, .tmp 123), (4, _), (5, _)]) (vs := [(0, _), (1, _), (2, _), (4, _), (5, _)]) rfl (fun w => by kernel_rfl) (L.op rfl rfl (O.alloc Tryz.zeroValue42 (fun b18 w18 hb18 hz18 he18 hB18 => ?_)))))))))))))))))
            refine L.op rfl rfl (O.storeAgg Tryz.sizeOf42 rfl rfl rfl hB18 (Nat.le_refl _) (En.one (xOpe nm x.nm)) (fun w22 hu22 hB22 => ?_))
            have hu22 : Upd b18 _ _ := hu22
            have hO22' : Blk w22 b18 (xOpe nm x.nm).cells 42 := hB22
            have he2122 := he119.trans (he18.upd hu22 (.inr (by omega)))
            have hH22 := hH21.ext he2122
            have hE22 := hE21.ext he2122
            have hL22 := hL21.ext he2122
            have hX22 := hX21.ext he2122
            have hS22 := hS21.ext he2122
            refine L.nil (T.seq (?_))
            refine T.anyE mixed 22 [12, 18, 8, 17, 14] rfl [.is _, .is _, .is (.bool true), .is _, .is _, .is _, .is _, .is _, .is _, .is _, .is _, .is undef, .is undef, .is _, .is _, .is undef, .is undef, .is _, .is _, .is undef, .is undef, .is undef] [[], [], [0, 1], [], [3], [4], [5], [6], [7, 6], [6, 8], [9], [10], [11, 10], [10, 12], [13], [14], [15, 14], [14, 16], [17], [18], [19, 18], [18]] [[], [], [0, 1], [], [3], [3, 4], [0, 1, 2, 3, 4, 5], [0, 1, 2, 3, 4, 5, 6], [0, 1, 2, 3, 4, 5, 6, 7], [0, 1, 2, 3, 4, 5, 6, 7, 8], [0, 1, 2, 3, 4, 5, 6, 7, 8, 9], [0, 1, 2, 3, 4, 5, 6, 7, 8, 9, 10], [0, 1, 2, 3, 4, 5, 6, 7, 8, 9, 10, 11], [0, 1, 2, 3, 4, 5, 6, 7, 8, 9, 10, 11, 12], [0, 1, 2, 3, 4, 5, 6, 7, 8, 9, 10, 11, 12, 13], [0, 1, 2, 3, 4, 5, 6, 7, 8, 9, 10, 11, 12, 13, 14], [0, 1, 2, 3, 4, 5, 6, 7, 8, 9, 10, 11, 12, 13, 14, 15], [0, 1, 2, 3, 4, 5, 6, 7, 8, 9, 10, 11, 12, 13, 14, 15, 16], [0, 1, 2, 3, 4, 5, 6, 7, 8, 9, 10, 11, 12, 13, 14, 15, 16, 17], [0, 1, 2, 3, 4, 5, 6, 7, 8, 9, 10, 11, 12, 13, 14, 15, 16, 17, 18], [0, 1, 2, 3, 4, 5, 6, 7, 8, 9, 10, 11, 12, 13, 14, 15, 16, 17, 18, 19], [0, 1, 2, 3, 4, 5, 6, 7, 8, 9, 10, 11, 12, 13, 14, 15, 16, 17, 18], [0, 1, 2, 3, 4, 5, 6, 7, 8, 9, 10, 11, 12, 13, 14, 15, 16, 17, 18, 19, 20, 21], [0, 1, 2, 3, 4, 5, 6, 7, 8, 9, 10, 11, 12, 13, 14, 15, 16, 17, 18, 19, 20, 21, 22], [0, 1, 2, 3, 4, 5, 6, 7, 8, 9, 10, 11, 12, 13, 14, 15, 16, 17, 18, 19, 20, 21, 22, 23]] (by kernel_rfl) (by kernel_rfl) rfl (by kernel_rfl) trivial ⟨fun wx hx => Ob.op rfl (O.move rfl ⟨Keep.refl _ _, rfl⟩),
                fun wx hx => Ob.op rfl (O.loadAgg Tryz.isAgg42 Tryz.sizeOf42 rfl rfl ((hO22'.ext hx).row) ⟨Keep.refl _ _, rfl⟩),
                fun wx hx => Ob.op rfl (O.call (xs := [.tmp 126]) Tryz.call16 rfl rfl (refused_calls b7 (.slice oh xs.length caph) xs (xOpe nm x.nm) wx (hH22.ext hx) (hE22.ext hx) hok o5 (hL22.ext hx)) (fun v wy h => ⟨h.2, by rw [h.1, g5]; rfl⟩)),
                fun wx hx => Ob.op rfl (O.fieldAddr Tryz.runUnderlying32 rfl Tryz.sizeOf4 rfl ⟨Keep.refl _ _, rfl⟩),
                fun wx hx => Ob.op rfl (O.load Tryz.isAgg4 rfl ((hS22.ext hx).cell (v := .bool true) (by simp [stCells, hcl])) ⟨Keep.refl _ _, rfl⟩),
                fun wx hx => Ob.op rfl (O.not rfl ⟨Keep.refl _ _, rfl⟩),
                fun wx hx => Ob.op rfl (O.move rfl ⟨Keep.refl _ _, rfl⟩),
                fun wx hx => Ob.op rfl (O.move rfl ⟨Keep.refl _ _, rfl⟩),
                fun wx hx => Ob.op rfl (O.not rfl ⟨Keep.refl _ _, rfl⟩),
                fun wx hx => Ob.op rfl (O.pick_false rfl rfl ⟨Keep.refl _ _, rfl⟩),
                fun wx hx => Ob.op rfl (O.move rfl ⟨Keep.refl _ _, rfl⟩),
                fun wx hx => Ob.pass rfl rfl,
                fun wx hx => Ob.pass rfl rfl,
                fun wx hx => Ob.op rfl (O.pick_true rfl rfl ⟨Keep.refl _ _, rfl⟩),
                fun wx hx => Ob.op rfl (O.move rfl ⟨Keep.refl _ _, rfl⟩),
                fun wx hx => Ob.pass rfl rfl,
                fun wx hx => Ob.pass rfl rfl,
                fun wx hx => Ob.op rfl (O.pick_true rfl rfl ⟨Keep.refl _ _, rfl⟩),
                fun wx hx => Ob.op rfl (O.move rfl ⟨Keep.refl _ _, rfl⟩),
                fun wx hx => Ob.pass rfl rfl,
                fun wx hx => Ob.pass rfl rfl,
                fun wx hx => Ob.pass rfl rfl,
                trivial⟩ (fun w26 he26 => ?_)
            refine L.pass rfl rfl (L.op rfl rfl (O.pick_true rfl rfl (L.op rfl rfl (O.neq_bool_f Tryz.runUnderlying4 rfl rfl rfl (L.nil (T.cond_false rfl (T.skip (T.blk (T.region (L.op rfl rfl (O.add64 rfl rfl (by (try dsimp only); omega) (L.op rfl rfl (O.move rfl (L.nil (T.again (j + 1) (by omega) ⟨rfl, rfl, rfl, rfl, rfl, rfl, rfl, trivial⟩ ⟨hjl, (he1017.trans (he21.trans he2122)).trans he26⟩)))))))))))))))
        · by_cases how : x.ow = nm
          · refine T.seq (T.region (L.op rfl rfl (O.fieldAddr Tryz.runUnderlying39 rfl Tryz.sizeOf9 rfl (L.op rfl rfl (O.load Tryz.isAgg9 rfl (hX17.cell rfl) (L.op rfl rfl (O.move rfl (L.op rfl rfl (O.eql_str_t Tryz.runUnderlying9 rfl rfl how (?_))))))))))
            have g2 : decide ((appR xs (xRev nm x.nm)).2 = 8) = true := by rw [f2, hwd, decide_eq_true how]; rfl
            have g3 : decide ((appR xs (xWit nm x.nm)).2 = 8) = true := by rw [f3, hwd, hop, decide_eq_true how]; rfl
            have g5 : decide ((appR xs (xOpe nm x.nm)).2 = 8) = true := by rw [f5, hwd, hop, decide_eq_true how]; first | rfl | simp
            refine L.op rfl rfl (O.assign rfl (L.nil (T.seq (T.seq (?_)))))
            refine T.anyE mixed 20 [12, 15, 8, 17, 14, 16] rfl [.is _, .is _, .is (.bool true), .is _, .is _, .is _, .is undef, .is undef, .is _, .is _, .is undef, .is undef, .is _, .is _, .is _, .is _, .is _, .is (.bool true), .is _, .is _] [[], [], [0, 1], [], [3], [4], [5], [6, 5], [5, 7], [8], [9], [10, 9], [9, 11], [2, 12], [13], [14], [14], [15, 16, 14], [14], [18, 14]] [[], [], [0, 1], [], [3], [0, 1, 2, 3, 4], [0, 1, 2, 3, 4, 5], [0, 1, 2, 3, 4, 5, 6], [0, 1, 2, 3, 4, 5, 6, 7], [0, 1, 2, 3, 4, 5, 6, 7, 8], [0, 1, 2, 3, 4, 5, 6, 7, 8, 9], [0, 1, 2, 3, 4, 5, 6, 7, 8, 9, 10], [0, 1, 2, 3, 4, 5, 6, 7, 8, 9, 10, 11], [0, 1, 2, 3, 4, 5, 6, 7, 8, 9, 10, 11, 12], [0, 1, 2, 3, 4, 5, 6, 7, 8, 9, 10, 11, 12, 13], [0, 1, 2, 3, 4, 5, 6, 7, 8, 9, 10, 11, 12, 13, 14], [0, 1, 2, 3, 4, 5, 6, 7, 8, 9, 10, 11, 12, 13, 14], [0, 1, 2, 3, 4, 5, 6, 7, 8, 9, 10, 11, 12, 13, 14, 15, 16], [0, 1, 2, 3, 4, 5, 6, 7, 8, 9, 10, 11, 12, 13, 14], [0, 1, 2, 3, 4, 5, 6, 7, 8, 9, 10, 11, 12, 13, 14, 18], [0, 1, 2, 3, 4, 5, 6, 7, 8, 9, 10, 11, 12, 13, 14, 15, 16, 17, 18, 19], [0, 1, 2, 3, 4, 5, 6, 7, 8, 9, 10, 11, 12, 13, 14, 15, 16, 17, 18, 19, 20], [0, 1, 2, 3, 4, 5, 6, 7, 8, 9, 10, 11, 12, 13, 14, 15, 16, 17, 18, 19, 20, 21], [0, 1, 2, 3, 4, 5, 6, 7, 8, 9, 10, 11, 12, 13, 14, 15, 16, 17, 18, 19, 20, 21, 22], [0, 1, 2, 3, 4, 5, 6, 7, 8, 9, 10, 11, 12, 13, 14, 15, 16, 17, 18, 19, 20, 21, 22, 23], [0, 1, 2, 3, 4, 5, 6, 7, 8, 9, 10, 11, 12, 13, 14, 15, 16, 17, 18, 19, 20, 21, 22, 23, 24], [0, 1, 2, 3, 4, 5, 6, 7, 8, 9, 10, 11, 12, 13, 14, 15, 16, 17, 18, 19, 20, 21, 22, 23, 24, 25], [0, 1, 2, 3, 4, 5, 6, 7, 8, 9, 10, 11, 12, 13, 14, 15, 16, 17, 18, 19, 20, 21, 22, 23, 24, 25, 26], [0, 1, 2, 3, 4, 5, 6, 7, 8, 9, 10, 11, 12, 13, 14, 15, 16, 17, 18, 19, 20, 21, 22, 23, 24, 25, 26, 27], [0, 1, 2, 3, 4, 5, 6, 7, 8, 9, 10, 11, 12, 13, 14, 15, 16, 17, 18, 19, 20, 21, 22, 23, 24, 25, 26, 27, 28]] (by kernel_rfl) (by kernel_rfl) rfl (by kernel_rfl) trivial ⟨fun wx hx => Ob.op rfl (O.move rfl ⟨Keep.refl _ _, rfl⟩),
                fun wx hx => Ob.op rfl (O.loadAgg Tryz.isAgg42 Tryz.sizeOf42 rfl rfl ((hR17.ext hx).row) ⟨Keep.refl _ _, rfl⟩),
                fun wx hx => Ob.op rfl (O.call (xs := [.tmp 85]) Tryz.call16 rfl rfl (refused_calls b7 (.slice oh xs.length caph) xs (xRev nm x.nm) wx (hH17.ext hx) (hE17.ext hx) hok o2 (hL17.ext hx)) (fun v wy h => ⟨h.2, by rw [h.1, g2]; rfl⟩)),
                fun wx hx => Ob.op rfl (O.fieldAddr Tryz.runUnderlying32 rfl Tryz.sizeOf4 rfl ⟨Keep.refl _ _, rfl⟩),
                fun wx hx => Ob.op rfl (O.load Tryz.isAgg4 rfl ((hS17.ext hx).cell (v := .bool true) (by simp [stCells, hcl])) ⟨Keep.refl _ _, rfl⟩),
                fun wx hx => Ob.op rfl (O.move rfl ⟨Keep.refl _ _, rfl⟩),
                fun wx hx => Ob.pass rfl rfl,
                fun wx hx => Ob.pass rfl rfl,
                fun wx hx => Ob.op rfl (O.pick_true rfl rfl ⟨Keep.refl _ _, rfl⟩),
                fun wx hx => Ob.op rfl (O.move rfl ⟨Keep.refl _ _, rfl⟩),
                fun wx hx => Ob.pass rfl rfl,
                fun wx hx => Ob.pass rfl rfl,
                fun wx hx => Ob.op rfl (O.pick_true rfl rfl ⟨Keep.refl _ _, rfl⟩),
                fun wx hx => Ob.op rfl (O.neq_bool_f Tryz.runUnderlying4 rfl rfl rfl ⟨Keep.refl _ _, rfl⟩),
                fun wx hx => Ob.op rfl (O.move rfl ⟨Keep.refl _ _, rfl⟩),
                fun wx hx => Ob.op rfl (O.move rfl ⟨Keep.refl _ _, rfl⟩),
                fun wx hx => Ob.op rfl (O.loadAgg Tryz.isAgg42 Tryz.sizeOf42 rfl rfl ((hW17.ext hx).row) ⟨Keep.refl _ _, rfl⟩),
                fun wx hx => Ob.op rfl (O.call (xs := [.tmp 100]) Tryz.call16 rfl rfl (refused_calls b7 (.slice oh xs.length caph) xs (xWit nm x.nm) wx (hH17.ext hx) (hE17.ext hx) hok o3 (hL17.ext hx)) (fun v wy h => ⟨h.2, by rw [h.1, g3]; rfl⟩)),
                fun wx hx => Ob.op rfl (O.move rfl ⟨Keep.refl _ _, rfl⟩),
                fun wx hx => Ob.op rfl (O.not rfl ⟨Keep.refl _ _, rfl⟩),
                trivial⟩ (fun w21 he21 => ?_)
            refine L.op rfl rfl (O.move rfl (L.op rfl rfl (O.fieldAddr Tryz.runUnderlying39 rfl Tryz.sizeOf4 rfl (L.op rfl rfl (O.load Tryz.isAgg4 rfl ((hX17.ext he21).cell (v := .bool true) (by simp [It.cells, hwd])) (L.op rfl rfl (O.pick_false rfl rfl (L.op rfl rfl (O.move rfl (L.pass rfl rfl (L.pass rfl rfl (L.op rfl rfl (O.pick_true rfl rfl (L.op rfl rfl (O.neq_bool_f Tryz.runUnderlying4 rfl rfl rfl (?_))))))))))))))))
            have hH21 := hH17.ext he21
            have hE21 := hE17.ext he21
            have hL21 := hL17.ext he21
            have hX21 := hX17.ext he21
            have hS21 := hS17.ext he21
            refine L.op rfl rfl (O.pick_false rfl rfl (L.nil (T.cond_false rfl (T.skip (T.seq (T.seq (T.region (L.op rfl rfl (O.move rfl (L.op rfl rfl (O.move rfl (L.op rfl rfl (O.fieldAddr Tryz.runUnderlying39 rfl Tryz.sizeOf9 rfl (L.op rfl rfl (O.load Tryz.isAgg9 rfl (hX21.cell rfl) (L.op rfl rfl (O.build (v := (xSub nm x.nm).val) (parts := [(0, .const (.int .i64 1)), (1, .tmp 115), (2, .tmp 117)]) (vs := [(0, _), (1, _), (2, _)]) rfl (fun w => by kernel_rfl) (L.op rfl rfl (O.call (xs := [.tmp 118]) Tryz.call16 rfl rfl (refused_calls b7 (.slice oh xs.length caph) xs (xSub nm x.nm) w21 hH21 hE21 hok o6 hL21) (fun v119 w119 hq => ?_))))))))))))))))))))
            obtain ⟨hv119, he119⟩ := hq
            rw [f1] at hv119
            subst hv119
            refine L.op rfl rfl (O.not rfl (L.nil (T.cond_false rfl (T.skip (T.seq (T.region (L.op rfl rfl (O.move rfl (L.op rfl rfl (O.fieldAddr Tryz.runUnderlying39 rfl Tryz.sizeOf9 rfl (L.op rfl rfl (O.load Tryz.isAgg9 rfl ((hX21.ext he119).cell rfl) (L.op rfl rfl (O.build (v := (xOpe nm x.nm).val) (parts := [(0, .const (.int .i64 5)), (1, .tmp 121), (2, .tmp 123), (4, _), (5, _)]) (vs := [(0, _), (1, _), (2, _), (4, _), (5, _)]) rfl (fun w => by kernel_rfl) (L.op rfl rfl (O.alloc Tryz.zeroValue42 (fun b18 w18 hb18 hz18 he18 hB18 => ?_)))))))))))))))))
            refine L.op rfl rfl (O.storeAgg Tryz.sizeOf42 rfl rfl rfl hB18 (Nat.le_refl _) (En.one (xOpe nm x.nm)) (fun w22 hu22 hB22 => ?_))
            have hu22 : Upd b18 _ _ := hu22
            have hO22' : Blk w22 b18 (xOpe nm x.nm).cells 42 := hB22
            have he2122 := he119.trans (he18.upd hu22 (.inr (by omega)))
            have hH22 := hH21.ext he2122
            have hE22 := hE21.ext he2122
            have hL22 := hL21.ext he2122
            have hX22 := hX21.ext he2122
            have hS22 := hS21.ext he2122
            refine L.nil (T.seq (?_))
            refine T.anyE mixed 22 [12, 18, 8, 17, 14] rfl [.is _, .is _, .is (.bool true), .is _, .is _, .is _, .is _, .is _, .is _, .is _, .is _, .is _, .is _, .is _, .is _, .is undef, .is undef, .is _, .is _, .is undef, .is undef, .is undef] [[], [], [0, 1], [], [3], [4], [5], [6], [7, 6], [6, 8], [9], [10], [11, 10], [10, 12], [13], [14], [15, 14], [14, 16], [17], [18], [19, 18], [18]] [[], [], [0, 1], [], [3], [3, 4], [0, 1, 2, 3, 4, 5], [0, 1, 2, 3, 4, 5, 6], [0, 1, 2, 3, 4, 5, 6, 7], [0, 1, 2, 3, 4, 5, 6, 7, 8], [0, 1, 2, 3, 4, 5, 6, 7, 8, 9], [0, 1, 2, 3, 4, 5, 6, 7, 8, 9, 10], [0, 1, 2, 3, 4, 5, 6, 7, 8, 9, 10, 11], [0, 1, 2, 3, 4, 5, 6, 7, 8, 9, 10, 11, 12], [0, 1, 2, 3, 4, 5, 6, 7, 8, 9, 10, 11, 12, 13], [0, 1, 2, 3, 4, 5, 6, 7, 8, 9, 10, 11, 12, 13, 14], [0, 1, 2, 3, 4, 5, 6, 7, 8, 9, 10, 11, 12, 13, 14, 15], [0, 1, 2, 3, 4, 5, 6, 7, 8, 9, 10, 11, 12, 13, 14, 15, 16], [0, 1, 2, 3, 4, 5, 6, 7, 8, 9, 10, 11, 12, 13, 14, 15, 16, 17], [0, 1, 2, 3, 4, 5, 6, 7, 8, 9, 10, 11, 12, 13, 14, 15, 16, 17, 18], [0, 1, 2, 3, 4, 5, 6, 7, 8, 9, 10, 11, 12, 13, 14, 15, 16, 17, 18, 19], [0, 1, 2, 3, 4, 5, 6, 7, 8, 9, 10, 11, 12, 13, 14, 15, 16, 17, 18], [0, 1, 2, 3, 4, 5, 6, 7, 8, 9, 10, 11, 12, 13, 14, 15, 16, 17, 18, 19, 20, 21], [0, 1, 2, 3, 4, 5, 6, 7, 8, 9, 10, 11, 12, 13, 14, 15, 16, 17, 18, 19, 20, 21, 22], [0, 1, 2, 3, 4, 5, 6, 7, 8, 9, 10, 11, 12, 13, 14, 15, 16, 17, 18, 19, 20, 21, 22, 23]] (by kernel_rfl) (by kernel_rfl) rfl (by kernel_rfl) trivial ⟨fun wx hx => Ob.op rfl (O.move rfl ⟨Keep.refl _ _, rfl⟩),
                fun wx hx => Ob.op rfl (O.loadAgg Tryz.isAgg42 Tryz.sizeOf42 rfl rfl ((hO22'.ext hx).row) ⟨Keep.refl _ _, rfl⟩),
                fun wx hx => Ob.op rfl (O.call (xs := [.tmp 126]) Tryz.call16 rfl rfl (refused_calls b7 (.slice oh xs.length caph) xs (xOpe nm x.nm) wx (hH22.ext hx) (hE22.ext hx) hok o5 (hL22.ext hx)) (fun v wy h => ⟨h.2, by rw [h.1, g5]; rfl⟩)),
                fun wx hx => Ob.op rfl (O.fieldAddr Tryz.runUnderlying32 rfl Tryz.sizeOf4 rfl ⟨Keep.refl _ _, rfl⟩),
                fun wx hx => Ob.op rfl (O.load Tryz.isAgg4 rfl ((hS22.ext hx).cell (v := .bool true) (by simp [stCells, hcl])) ⟨Keep.refl _ _, rfl⟩),
                fun wx hx => Ob.op rfl (O.not rfl ⟨Keep.refl _ _, rfl⟩),
                fun wx hx => Ob.op rfl (O.move rfl ⟨Keep.refl _ _, rfl⟩),
                fun wx hx => Ob.op rfl (O.move rfl ⟨Keep.refl _ _, rfl⟩),
                fun wx hx => Ob.op rfl (O.not rfl ⟨Keep.refl _ _, rfl⟩),
                fun wx hx => Ob.op rfl (O.pick_false rfl rfl ⟨Keep.refl _ _, rfl⟩),
                fun wx hx => Ob.op rfl (O.move rfl ⟨Keep.refl _ _, rfl⟩),
                fun wx hx => Ob.op rfl (O.fieldAddr Tryz.runUnderlying39 rfl Tryz.sizeOf4 rfl ⟨Keep.refl _ _, rfl⟩),
                fun wx hx => Ob.op rfl (O.load Tryz.isAgg4 rfl ((hX22.ext hx).cell (v := .bool true) (by simp [It.cells, hwd])) ⟨Keep.refl _ _, rfl⟩),
                fun wx hx => Ob.op rfl (O.pick_false rfl rfl ⟨Keep.refl _ _, rfl⟩),
                fun wx hx => Ob.op rfl (O.move rfl ⟨Keep.refl _ _, rfl⟩),
                fun wx hx => Ob.pass rfl rfl,
                fun wx hx => Ob.pass rfl rfl,
                fun wx hx => Ob.op rfl (O.pick_true rfl rfl ⟨Keep.refl _ _, rfl⟩),
                fun wx hx => Ob.op rfl (O.move rfl ⟨Keep.refl _ _, rfl⟩),
                fun wx hx => Ob.pass rfl rfl,
                fun wx hx => Ob.pass rfl rfl,
                fun wx hx => Ob.pass rfl rfl,
                trivial⟩ (fun w26 he26 => ?_)
            refine L.pass rfl rfl (L.op rfl rfl (O.pick_true rfl rfl (L.op rfl rfl (O.neq_bool_f Tryz.runUnderlying4 rfl rfl rfl (L.nil (T.cond_false rfl (T.skip (T.blk (T.region (L.op rfl rfl (O.add64 rfl rfl (by (try dsimp only); omega) (L.op rfl rfl (O.move rfl (L.nil (T.again (j + 1) (by omega) ⟨rfl, rfl, rfl, rfl, rfl, rfl, rfl, trivial⟩ ⟨hjl, (he1017.trans (he21.trans he2122)).trans he26⟩)))))))))))))))
          · refine T.seq (T.region (L.op rfl rfl (O.fieldAddr Tryz.runUnderlying39 rfl Tryz.sizeOf9 rfl (L.op rfl rfl (O.load Tryz.isAgg9 rfl (hX17.cell rfl) (L.op rfl rfl (O.move rfl (L.op rfl rfl (O.eql_str_f Tryz.runUnderlying9 rfl rfl how (?_))))))))))
            have g2 : decide ((appR xs (xRev nm x.nm)).2 = 8) = true := by rw [f2, hwd, decide_eq_false how]; rfl
            have g3 : decide ((appR xs (xWit nm x.nm)).2 = 8) = true := by rw [f3, hwd, hop, decide_eq_false how]; rfl
            have g5 : decide ((appR xs (xOpe nm x.nm)).2 = 8) = true := by rw [f5, hwd, hop, decide_eq_false how]; first | rfl | simp
            refine L.op rfl rfl (O.assign rfl (L.nil (T.seq (T.seq (?_)))))
            refine T.anyE mixed 20 [12, 15, 8, 17, 14, 16] rfl [.is _, .is _, .is (.bool true), .is _, .is _, .is _, .is undef, .is undef, .is _, .is _, .is undef, .is undef, .is _, .is _, .is _, .is _, .is _, .is (.bool true), .is _, .is _] [[], [], [0, 1], [], [3], [4], [5], [6, 5], [5, 7], [8], [9], [10, 9], [9, 11], [2, 12], [13], [14], [14], [15, 16, 14], [14], [18, 14]] [[], [], [0, 1], [], [3], [0, 1, 2, 3, 4], [0, 1, 2, 3, 4, 5], [0, 1, 2, 3, 4, 5, 6], [0, 1, 2, 3, 4, 5, 6, 7], [0, 1, 2, 3, 4, 5, 6, 7, 8], [0, 1, 2, 3, 4, 5, 6, 7, 8, 9], [0, 1, 2, 3, 4, 5, 6, 7, 8, 9, 10], [0, 1, 2, 3, 4, 5, 6, 7, 8, 9, 10, 11], [0, 1, 2, 3, 4, 5, 6, 7, 8, 9, 10, 11, 12], [0, 1, 2, 3, 4, 5, 6, 7, 8, 9, 10, 11, 12, 13], [0, 1, 2, 3, 4, 5, 6, 7, 8, 9, 10, 11, 12, 13, 14], [0, 1, 2, 3, 4, 5, 6, 7, 8, 9, 10, 11, 12, 13, 14], [0, 1, 2, 3, 4, 5, 6, 7, 8, 9, 10, 11, 12, 13, 14, 15, 16], [0, 1, 2, 3, 4, 5, 6, 7, 8, 9, 10, 11, 12, 13, 14], [0, 1, 2, 3, 4, 5, 6, 7, 8, 9, 10, 11, 12, 13, 14, 18], [0, 1, 2, 3, 4, 5, 6, 7, 8, 9, 10, 11, 12, 13, 14, 15, 16, 17, 18, 19], [0, 1, 2, 3, 4, 5, 6, 7, 8, 9, 10, 11, 12, 13, 14, 15, 16, 17, 18, 19, 20], [0, 1, 2, 3, 4, 5, 6, 7, 8, 9, 10, 11, 12, 13, 14, 15, 16, 17, 18, 19, 20, 21], [0, 1, 2, 3, 4, 5, 6, 7, 8, 9, 10, 11, 12, 13, 14, 15, 16, 17, 18, 19, 20, 21, 22], [0, 1, 2, 3, 4, 5, 6, 7, 8, 9, 10, 11, 12, 13, 14, 15, 16, 17, 18, 19, 20, 21, 22, 23], [0, 1, 2, 3, 4, 5, 6, 7, 8, 9, 10, 11, 12, 13, 14, 15, 16, 17, 18, 19, 20, 21, 22, 23, 24], [0, 1, 2, 3, 4, 5, 6, 7, 8, 9, 10, 11, 12, 13, 14, 15, 16, 17, 18, 19, 20, 21, 22, 23, 24, 25], [0, 1, 2, 3, 4, 5, 6, 7, 8, 9, 10, 11, 12, 13, 14, 15, 16, 17, 18, 19, 20, 21, 22, 23, 24, 25, 26], [0, 1, 2, 3, 4, 5, 6, 7, 8, 9, 10, 11, 12, 13, 14, 15, 16, 17, 18, 19, 20, 21, 22, 23, 24, 25, 26, 27], [0, 1, 2, 3, 4, 5, 6, 7, 8, 9, 10, 11, 12, 13, 14, 15, 16, 17, 18, 19, 20, 21, 22, 23, 24, 25, 26, 27, 28]] (by kernel_rfl) (by kernel_rfl) rfl (by kernel_rfl) trivial ⟨fun wx hx => Ob.op rfl (O.move rfl ⟨Keep.refl _ _, rfl⟩),
                fun wx hx => Ob.op rfl (O.loadAgg Tryz.isAgg42 Tryz.sizeOf42 rfl rfl ((hR17.ext hx).row) ⟨Keep.refl _ _, rfl⟩),
                fun wx hx => Ob.op rfl (O.call (xs := [.tmp 85]) Tryz.call16 rfl rfl (refused_calls b7 (.slice oh xs.length caph) xs (xRev nm x.nm) wx (hH17.ext hx) (hE17.ext hx) hok o2 (hL17.ext hx)) (fun v wy h => ⟨h.2, by rw [h.1, g2]; rfl⟩)),
                fun wx hx => Ob.op rfl (O.fieldAddr Tryz.runUnderlying32 rfl Tryz.sizeOf4 rfl ⟨Keep.refl _ _, rfl⟩),
                fun wx hx => Ob.op rfl (O.load Tryz.isAgg4 rfl ((hS17.ext hx).cell (v := .bool true) (by simp [stCells, hcl])) ⟨Keep.refl _ _, rfl⟩),
                fun wx hx => Ob.op rfl (O.move rfl ⟨Keep.refl _ _, rfl⟩),
                fun wx hx => Ob.pass rfl rfl,
                fun wx hx => Ob.pass rfl rfl,
                fun wx hx => Ob.op rfl (O.pick_true rfl rfl ⟨Keep.refl _ _, rfl⟩),
                fun wx hx => Ob.op rfl (O.move rfl ⟨Keep.refl _ _, rfl⟩),
                fun wx hx => Ob.pass rfl rfl,
                fun wx hx => Ob.pass rfl rfl,
                fun wx hx => Ob.op rfl (O.pick_true rfl rfl ⟨Keep.refl _ _, rfl⟩),
                fun wx hx => Ob.op rfl (O.neq_bool_f Tryz.runUnderlying4 rfl rfl rfl ⟨Keep.refl _ _, rfl⟩),
                fun wx hx => Ob.op rfl (O.move rfl ⟨Keep.refl _ _, rfl⟩),
                fun wx hx => Ob.op rfl (O.move rfl ⟨Keep.refl _ _, rfl⟩),
                fun wx hx => Ob.op rfl (O.loadAgg Tryz.isAgg42 Tryz.sizeOf42 rfl rfl ((hW17.ext hx).row) ⟨Keep.refl _ _, rfl⟩),
                fun wx hx => Ob.op rfl (O.call (xs := [.tmp 100]) Tryz.call16 rfl rfl (refused_calls b7 (.slice oh xs.length caph) xs (xWit nm x.nm) wx (hH17.ext hx) (hE17.ext hx) hok o3 (hL17.ext hx)) (fun v wy h => ⟨h.2, by rw [h.1, g3]; rfl⟩)),
                fun wx hx => Ob.op rfl (O.move rfl ⟨Keep.refl _ _, rfl⟩),
                fun wx hx => Ob.op rfl (O.not rfl ⟨Keep.refl _ _, rfl⟩),
                trivial⟩ (fun w21 he21 => ?_)
            refine L.op rfl rfl (O.move rfl (L.pass rfl rfl (L.pass rfl rfl (L.op rfl rfl (O.pick_true rfl rfl (L.op rfl rfl (O.move rfl (L.pass rfl rfl (L.pass rfl rfl (L.op rfl rfl (O.pick_true rfl rfl (L.op rfl rfl (O.neq_bool_f Tryz.runUnderlying4 rfl rfl rfl (?_))))))))))))))
            have hH21 := hH17.ext he21
            have hE21 := hE17.ext he21
            have hL21 := hL17.ext he21
            have hX21 := hX17.ext he21
            have hS21 := hS17.ext he21
            refine L.op rfl rfl (O.pick_false rfl rfl (L.nil (T.cond_false rfl (T.skip (T.seq (T.seq (T.region (L.op rfl rfl (O.move rfl (L.op rfl rfl (O.move rfl (L.op rfl rfl (O.fieldAddr Tryz.runUnderlying39 rfl Tryz.sizeOf9 rfl (L.op rfl rfl (O.load Tryz.isAgg9 rfl (hX21.cell rfl) (L.op rfl rfl (O.build (v := (xSub nm x.nm).val) (parts := [(0, .const (.int .i64 1)), (1, .tmp 115), (2, .tmp 117)]) (vs := [(0, _), (1, _), (2, _)]) rfl (fun w => by kernel_rfl) (L.op rfl rfl (O.call (xs := [.tmp 118]) Tryz.call16 rfl rfl (refused_calls b7 (.slice oh xs.length caph) xs (xSub nm x.nm) w21 hH21 hE21 hok o6 hL21) (fun v119 w119 hq => ?_))))))))))))))))))))
            obtain ⟨hv119, he119⟩ := hq
            rw [f1] at hv119
            subst hv119
            refine L.op rfl rfl (O.not rfl (L.nil (T.cond_false rfl (T.skip (T.seq (T.region (L.op rfl rfl (O.move rfl (L.op rfl rfl (O.fieldAddr Tryz.runUnderlying39 rfl Tryz.sizeOf9 rfl (L.op rfl rfl (O.load Tryz.isAgg9 rfl ((hX21.ext he119).cell rfl) (L.op rfl rfl (O.build (v := (xOpe nm x.nm).val) (parts := [(0, .const (.int .i64 5)), (1, .tmp 121), (2, .tmp 123), (4, _), (5, _)]) (vs := [(0, _), (1, _), (2, _), (4, _), (5, _)]) rfl (fun w => by kernel_rfl) (L.op rfl rfl (O.alloc Tryz.zeroValue42 (fun b18 w18 hb18 hz18 he18 hB18 => ?_)))))))))))))))))
            refine L.op rfl rfl (O.storeAgg Tryz.sizeOf42 rfl rfl rfl hB18 (Nat.le_refl _) (En.one (xOpe nm x.nm)) (fun w22 hu22 hB22 => ?_))
            have hu22 : Upd b18 _ _ := hu22
            have hO22' : Blk w22 b18 (xOpe nm x.nm).cells 42 := hB22
            have he2122 := he119.trans (he18.upd hu22 (.inr (by omega)))
            have hH22 := hH21.ext he2122
            have hE22 := hE21.ext he2122
            have hL22 := hL21.ext he2122
            have hX22 := hX21.ext he2122
            have hS22 := hS21.ext he2122
            refine L.nil (T.seq (?_))
            refine T.anyE mixed 22 [12, 18, 8, 17, 14] rfl [.is _, .is _, .is (.bool true), .is _, .is _, .is _, .is _, .is _, .is _, .is _, .is _, .is undef, .is undef, .is _, .is _, .is undef, .is undef, .is _, .is _, .is undef, .is undef, .is undef] [[], [], [0, 1], [], [3], [4], [5], [6], [7, 6], [6, 8], [9], [10], [11, 10], [10, 12], [13], [14], [15, 14], [14, 16], [17], [18], [19, 18], [18]] [[], [], [0, 1], [], [3], [3, 4], [0, 1, 2, 3, 4, 5], [0, 1, 2, 3, 4, 5, 6], [0, 1, 2, 3, 4, 5, 6, 7], [0, 1, 2, 3, 4, 5, 6, 7, 8], [0, 1, 2, 3, 4, 5, 6, 7, 8, 9], [0, 1, 2, 3, 4, 5, 6, 7, 8, 9, 10], [0, 1, 2, 3, 4, 5, 6, 7, 8, 9, 10, 11], [0, 1, 2, 3, 4, 5, 6, 7, 8, 9, 10, 11, 12], [0, 1, 2, 3, 4, 5, 6, 7, 8, 9, 10, 11, 12, 13], [0, 1, 2, 3, 4, 5, 6, 7, 8, 9, 10, 11, 12, 13, 14], [0, 1, 2, 3, 4, 5, 6, 7, 8, 9, 10, 11, 12, 13, 14, 15], [0, 1, 2, 3, 4, 5, 6, 7, 8, 9, 10, 11, 12, 13, 14, 15, 16], [0, 1, 2, 3, 4, 5, 6, 7, 8, 9, 10, 11, 12, 13, 14, 15, 16, 17], [0, 1, 2, 3, 4, 5, 6, 7, 8, 9, 10, 11, 12, 13, 14, 15, 16, 17, 18], [0, 1, 2, 3, 4, 5, 6, 7, 8, 9, 10, 11, 12, 13, 14, 15, 16, 17, 18, 19], [0, 1, 2, 3, 4, 5, 6, 7, 8, 9, 10, 11, 12, 13, 14, 15, 16, 17, 18], [0, 1, 2, 3, 4, 5, 6, 7, 8, 9, 10, 11, 12, 13, 14, 15, 16, 17, 18, 19, 20, 21], [0, 1, 2, 3, 4, 5, 6, 7, 8, 9, 10, 11, 12, 13, 14, 15, 16, 17, 18, 19, 20, 21, 22], [0, 1, 2, 3, 4, 5, 6, 7, 8, 9, 10, 11, 12, 13, 14, 15, 16, 17, 18, 19, 20, 21, 22, 23]] (by kernel_rfl) (by kernel_rfl) rfl (by kernel_rfl) trivial ⟨fun wx hx => Ob.op rfl (O.move rfl ⟨Keep.refl _ _, rfl⟩),
                fun wx hx => Ob.op rfl (O.loadAgg Tryz.isAgg42 Tryz.sizeOf42 rfl rfl ((hO22'.ext hx).row) ⟨Keep.refl _ _, rfl⟩),
                fun wx hx => Ob.op rfl (O.call (xs := [.tmp 126]) Tryz.call16 rfl rfl (refused_calls b7 (.slice oh xs.length caph) xs (xOpe nm x.nm) wx (hH22.ext hx) (hE22.ext hx) hok o5 (hL22.ext hx)) (fun v wy h => ⟨h.2, by rw [h.1, g5]; rfl⟩)),
                fun wx hx => Ob.op rfl (O.fieldAddr Tryz.runUnderlying32 rfl Tryz.sizeOf4 rfl ⟨Keep.refl _ _, rfl⟩),
                fun wx hx => Ob.op rfl (O.load Tryz.isAgg4 rfl ((hS22.ext hx).cell (v := .bool true) (by simp [stCells, hcl])) ⟨Keep.refl _ _, rfl⟩),
                fun wx hx => Ob.op rfl (O.not rfl ⟨Keep.refl _ _, rfl⟩),
                fun wx hx => Ob.op rfl (O.move rfl ⟨Keep.refl _ _, rfl⟩),
                fun wx hx => Ob.op rfl (O.move rfl ⟨Keep.refl _ _, rfl⟩),
                fun wx hx => Ob.op rfl (O.not rfl ⟨Keep.refl _ _, rfl⟩),
                fun wx hx => Ob.op rfl (O.pick_false rfl rfl ⟨Keep.refl _ _, rfl⟩),
                fun wx hx => Ob.op rfl (O.move rfl ⟨Keep.refl _ _, rfl⟩),
                fun wx hx => Ob.pass rfl rfl,
                fun wx hx => Ob.pass rfl rfl,
                fun wx hx => Ob.op rfl (O.pick_true rfl rfl ⟨Keep.refl _ _, rfl⟩),
                fun wx hx => Ob.op rfl (O.move rfl ⟨Keep.refl _ _, rfl⟩),
                fun wx hx => Ob.pass rfl rfl,
                fun wx hx => Ob.pass rfl rfl,
                fun wx hx => Ob.op rfl (O.pick_true rfl rfl ⟨Keep.refl _ _, rfl⟩),
                fun wx hx => Ob.op rfl (O.move rfl ⟨Keep.refl _ _, rfl⟩),
                fun wx hx => Ob.pass rfl rfl,
                fun wx hx => Ob.pass rfl rfl,
                fun wx hx => Ob.pass rfl rfl,
                trivial⟩ (fun w26 he26 => ?_)
            refine L.pass rfl rfl (L.op rfl rfl (O.pick_true rfl rfl (L.op rfl rfl (O.neq_bool_f Tryz.runUnderlying4 rfl rfl rfl (L.nil (T.cond_false rfl (T.skip (T.blk (T.region (L.op rfl rfl (O.add64 rfl rfl (by (try dsimp only); omega) (L.op rfl rfl (O.move rfl (L.nil (T.again (j + 1) (by omega) ⟨rfl, rfl, rfl, rfl, rfl, rfl, rfl, trivial⟩ ⟨hjl, (he1017.trans (he21.trans he2122)).trans he26⟩)))))))))))))))
    · refine L.nil (T.seq (T.cond_false rfl (T.exit rfl (T.seq (T.region (L.op rfl rfl (O.assign rfl (L.nil (T.ret1 Tryz.results4 rfl ⟨rfl, he050⟩)))))))))

end Go.Proofs.YtmnihgcffdmodaaGreatDoor
set_option linter.unusedVariables false
set_option linter.unusedSimpArgs false
set_option maxRecDepth 20000
namespace Go.Proofs.YtmnihgcffdmodaaGreatDoor
open Go Go.E RowKit ChangeShapes WideShapes
attribute [local irreducible] Go.E.T Go.E.L Go.E.O Go.E.Ob

set_option maxRecDepth 100000 in
theorem historyRules_lifted (os : Os) (started : os.Started) (H : Type) (enc : TypeId × Value → H) :
    ReturnsInHanded {} Tryz.checked os 4 .any (fun w args => (Rows.historyRulesSpec.pre enc Tryz.prog Tryz.f4 [] false w args ∧ laidMetH Tryz.prog laidL w) ∧ sizedMet enc Tryz.prog Tryz.f4 (OpenSpec.ofChange Rows.historyRulesSpec) false w args)
      (Rows.historyRulesSpec.post enc Tryz.prog Tryz.f4 false true false false) := by
  refine law_liftedS (C := Tryz.checked) (X := fun w _ => laidMetH Tryz.prog laidL w) (tb := 4) (ts := [24, 5, 9]) (fun _ _ _ hh h => h.of_heap hh) own started (by kernel_rfl) Tryz.func4
    rfl Tryz.params4 (fun ds h => ?_) (by kernel_rfl) Tryz.underlying4 laidOut (by kernel_rfl)
    (ChangeSpec.witness_at (enc := enc) (C := Tryz.checked) (os := os) (X := fun w _ => laidMetH Tryz.prog laidL w) false (laidWorld os) #[.agg #[.slice none 0 0, .bool false], .int .u8 0, .string ⟨#[]⟩] 8 (World.laidAll_os _ _ _) (by kernel_rfl) (by kernel_rfl) (by kernel_rfl) (by kernel_rfl) (by kernel_rfl) (laidWorld_met os _)) ?_
  · obtain ⟨a0, a1, a2, rfl⟩ := three h
    rfl
  · intro W vs hl ha hz hX hsh
    have hL := lib_of_laid hX hsh
    obtain ⟨a0, a1, a2, rfl⟩ := three hl
    obtain ⟨ad, rs, cd, fd, rfl, hd⟩ := draft_of (ha 0 _ _ rfl rfl)
    obtain ⟨x1, rfl, hx1⟩ := (ha 1 _ _ rfl rfl).int Tryz.underlying5
    obtain ⟨m1, rfl, l1⟩ := wf_u8 hx1
    obtain ⟨s2, rfl, hs2⟩ := (ha 2 _ _ rfl rfl).string Tryz.underlying9
    obtain ⟨con, e2, _, _⟩ := str_of_val s2 hs2
    rw [e2]
    exact HistoryRules_calls 0 cd ad fd rs m1 con W hL hd l1
theorem historyRules_over : Rows.HistoryRulesSaid :=
  OpenClaim.holds_of_wide 4 Tryz.f4 rfl rfl rfl rfl rfl rfl rfl ⟨rfl, rfl, rfl, rfl, rfl⟩ rfl rfl rfl rfl rfl (by kernel_rfl) Tryz.func4 (by kernel_rfl)
    (of_decide_eq_true (by kernel_rfl)) (by unfold Func.isWrapper; first | (rw [if_pos (by decide +kernel)]; kernel_rfl) | (rw [if_neg (by decide +kernel)]; exact ⟨rfl, rfl⟩))
    (fun os started H enc _ => historyRules_lifted os started H enc)
theorem historyRules_holds : Rows.HistoryRulesCardSaid :=
  Claim7.holds_tied_plain_at .later [] [.data, .data, .data, .data, .sentinel, .sentinel, .pinned] true (true, "aaf5ffa92cad1a37786ee6b649a4a6dda330fa9512e5f093092dbdd098bd3f5a") true
    historyRules_over (fun _ h => by cases h) (by kernel_rfl) (fun _ h => by cases h) historyRules_row_tie rfl ⟨rfl, rfl⟩ (by kernel_rfl) rfl
    (fun f fn hf hfn => by
      obtain rfl : f = 4 := Option.some.inj ((show Tryz.prog.funcNamed Rows.historyRulesRow.func = some 4 by kernel_rfl).symm.trans hf) |>.symm
      obtain rfl : fn = Tryz.f4 := (Option.some.inj (Tryz.func4.symm.trans hfn)).symm
      exact ⟨by kernel_rfl, fun j t ht => by
        rw [Tryz.params4] at ht
        have hall : (([24, 5, 9] : List TypeId).all fun t => !Tryz.prog.wantsStandIn t) = true := by kernel_rfl
        have := List.all_eq_true.1 hall t (List.mem_of_getElem? (i := j) (by simpa using ht))
        have h2 : Tryz.prog.wantsStandIn t = false := by simpa using this
        exact h2⟩)
    (by kernel_rfl)
#print axioms historyRules_holds
end Go.Proofs.YtmnihgcffdmodaaGreatDoor
