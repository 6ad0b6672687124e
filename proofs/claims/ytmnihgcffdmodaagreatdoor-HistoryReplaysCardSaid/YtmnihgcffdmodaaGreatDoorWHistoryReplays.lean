/-
  HistoryReplays returns true for every input, and each argument reads behind the call as it read before. Conditions: the listed variables read as the program's text lays them (tied by the card).
-/
import Derived.Test.YtmnihgcffdmodaaGreatDoorMh
import Derived.Test.YtmnihgcffdmodaaGreatDoorCards
set_option linter.unusedVariables false
set_option linter.unusedSimpArgs false
set_option maxRecDepth 20000
namespace Go.Proofs.YtmnihgcffdmodaaGreatDoor
open Go Go.E RowKit ChangeShapes WideShapes
attribute [local irreducible] Go.E.T Go.E.L Go.E.O Go.E.Ob

set_option maxRecDepth 100000 in
theorem historyReplays_lifted (os : Os) (started : os.Started) (H : Type) (enc : TypeId × Value → H) :
    ReturnsInHanded {} Tryz.checked os 7 .any (fun w args => (Rows.historyReplaysSpec.pre enc Tryz.prog Tryz.f7 [] false w args ∧ laidMetH Tryz.prog laidL w) ∧ sizedMet enc Tryz.prog Tryz.f7 (OpenSpec.ofChange Rows.historyReplaysSpec) false w args)
      (Rows.historyReplaysSpec.post enc Tryz.prog Tryz.f7 false true false false) := by
  refine law_liftedS (C := Tryz.checked) (X := fun w _ => laidMetH Tryz.prog laidL w) (tb := 4) (ts := [24, 24, 52, 27, 9, 9]) (fun _ _ _ hh h => h.of_heap hh) own started (by kernel_rfl) Tryz.func7
    rfl Tryz.params7 (fun ds h => ?_) (by kernel_rfl) Tryz.underlying4 laidOut (by kernel_rfl)
    (ChangeSpec.witness_at (enc := enc) (C := Tryz.checked) (os := os) (X := fun w _ => laidMetH Tryz.prog laidL w) false (laidWorld os) #[.agg #[.slice none 0 0, .bool false], .agg #[.slice none 0 0, .bool false], .agg #[.int .u8 0, .int .u8 0, .int .i64 0, .string ⟨#[]⟩], .slice none 0 0, .string ⟨#[]⟩, .string ⟨#[]⟩] 8 (World.laidAll_os _ _ _) (by kernel_rfl) (by kernel_rfl) (by kernel_rfl) (by kernel_rfl) (by kernel_rfl) (laidWorld_met os _)) ?_
  · obtain ⟨a0, a1, a2, a3, a4, a5, rfl⟩ := six_of h
    rfl
  · intro W vs hl ha hz hX hsh
    have hL := lib_of_laid hX hsh
    obtain ⟨a0, a1, a2, a3, a4, a5, rfl⟩ := six_of hl
    obtain ⟨ad, rs, cd, fd, rfl, hd⟩ := draft_of (ha 0 _ _ rfl rfl)
    obtain ⟨ac, qs, cc, fc, rfl, hc⟩ := draft_of (ha 1 _ _ rfl rfl)
    obtain ⟨b, rfl, hb⟩ := bend_of (ha 2 _ _ rfl rfl)
    obtain ⟨oa, xs, cap, rfl, hxs, hp⟩ := ens_of (ha 3 _ _ rfl rfl)
    obtain ⟨s4, rfl, hs4⟩ := (ha 4 _ _ rfl rfl).string Tryz.underlying9
    have z4 := hz 4 _ s4 rfl rfl Tryz.underlying9
    obtain ⟨who, e4, l4, _⟩ := str_of_val s4 hs4
    rw [e4]
    obtain ⟨s5, rfl, hs5⟩ := (ha 5 _ _ rfl rfl).string Tryz.underlying9
    have z5 := hz 5 _ s5 rfl rfl Tryz.underlying9
    obtain ⟨con, e5, l5, _⟩ := str_of_val s5 hs5
    rw [e5]
    exact HistoryReplays_calls 0 cd cc cap ad ac oa fd fc rs qs b xs who con W hL hd hc hb hp hxs (by omega) (by omega)
theorem historyReplays_over : Rows.HistoryReplaysSaid :=
  OpenClaim.holds_of_wide 7 Tryz.f7 rfl rfl rfl rfl rfl rfl rfl ⟨rfl, rfl, rfl, rfl, rfl⟩ rfl rfl rfl rfl rfl (by kernel_rfl) Tryz.func7 (by kernel_rfl)
    (of_decide_eq_true (by kernel_rfl)) (by unfold Func.isWrapper; first | (rw [if_pos (by decide +kernel)]; kernel_rfl) | (rw [if_neg (by decide +kernel)]; exact ⟨rfl, rfl⟩))
    (fun os started H enc _ => historyReplays_lifted os started H enc)
theorem historyReplays_holds : Rows.HistoryReplaysCardSaid :=
  Claim7.holds_tied_plain_at .later [] [.data, .data, .data, .data, .sentinel, .sentinel, .pinned] true (true, "aaf5ffa92cad1a37786ee6b649a4a6dda330fa9512e5f093092dbdd098bd3f5a") true
    historyReplays_over (fun _ h => by cases h) (by kernel_rfl) (fun _ h => by cases h) historyReplays_row_tie rfl ⟨rfl, rfl⟩ (by kernel_rfl) rfl
    (fun f fn hf hfn => by
      obtain rfl : f = 7 := Option.some.inj ((show Tryz.prog.funcNamed Rows.historyReplaysRow.func = some 7 by kernel_rfl).symm.trans hf) |>.symm
      obtain rfl : fn = Tryz.f7 := (Option.some.inj (Tryz.func7.symm.trans hfn)).symm
      exact ⟨by kernel_rfl, fun j t ht => by
        rw [Tryz.params7] at ht
        have hall : (([24, 24, 52, 27, 9, 9] : List TypeId).all fun t => !Tryz.prog.wantsStandIn t) = true := by kernel_rfl
        have := List.all_eq_true.1 hall t (List.mem_of_getElem? (i := j) (by simpa using ht))
        have h2 : Tryz.prog.wantsStandIn t = false := by simpa using this
        exact h2⟩)
    (by kernel_rfl)
#print axioms historyReplays_holds
end Go.Proofs.YtmnihgcffdmodaaGreatDoor
