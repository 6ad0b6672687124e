/-
  UnitsChecks, part 15 of its proof: that it returns true for every input, and each argument reads behind the call as it read before. Conditions: the listed variables read as the program's text lays them (tied by the card).
-/
import Derived.Test.YtnlonpcbgjbbaaaGreatDoorWUnitsChecks14
import Derived.Test.YtnlonpcbgjbbaaaGreatDoorCards
set_option linter.unusedVariables false
set_option linter.unusedSimpArgs false
set_option maxRecDepth 20000
set_option linter.unusedVariables false
set_option linter.unusedSimpArgs false
set_option maxRecDepth 20000
namespace Go.Proofs.YtnlonpcbgjbbaaaGreatDoor
open Go.Proofs.Tryz (func5)
open Go Go.E RowKit ChangeShapes WideShapes
attribute [local irreducible] Go.E.T Go.E.L Go.E.O Go.E.Ob

set_option maxRecDepth 100000 in
theorem unitsChecks_lifted (os:Os) (started:os.Started) (H:Type) (enc:TypeId × Value→H) :
  ReturnsInHanded {} Tryz.checked os 5 .any (fun w args=>(Rows.unitsChecksSpec.pre enc Tryz.prog Tryz.f5 [] false w args∧laidMetH Tryz.prog laidL w)∧sizedMet enc Tryz.prog Tryz.f5 (OpenSpec.ofChange Rows.unitsChecksSpec) false w args)
   (Rows.unitsChecksSpec.post enc Tryz.prog Tryz.f5 false true false false):=by
 refine law_lifted (C:=Tryz.checked) (X:=fun w _=>laidMetH Tryz.prog laidL w) (tb:=4) (ts:=[59,77,25,5]) (fun _ _ _ hh h=>h.of_heap hh) own started (by kernel_rfl) func5
  rfl Tryz.params5 (fun ds h=>?_) (by kernel_rfl) Tryz.underlying4 laidOut (by kernel_rfl)
  (ChangeSpec.witness_at (enc:=enc) (C:=Tryz.checked) (os:=os) (X:=fun w _=>laidMetH Tryz.prog laidL w) false (laidWorld os) #[.agg #[.int .u8 0,.int .u8 0,.slice none 0 0,.slice none 0 0,.bool false,.int .u8 0,.int .u8 0,.int .u8 0,.slice none 0 0,.int .u8 0],.agg #[.int .u8 0,.int .u8 0,.int .u8 0,.int .i64 0,.string ⟨#[]⟩,.int .u8 0,.int .u8 0,.int .u8 0,.int .i64 0,.string ⟨#[]⟩],.agg #[.int .i64 0,.int .i64 0,.int .i64 0,.slice none 0 0],.int .u8 0] 8 rfl (by kernel_rfl) (by kernel_rfl) (by kernel_rfl) (by kernel_rfl) (by kernel_rfl) (laidWorld_met os _)) ?_
 ·obtain ⟨a0,a1,a2,a3,rfl⟩:=four_of h
  rfl
 ·intro W vs hl ha hL
  obtain ⟨a0,a1,a2,a3,rfl⟩:=four_of hl
  obtain ⟨d,rfl,hd⟩:=draft_of (ha 0 _ _ rfl rfl)
  obtain ⟨b,c,rfl,hb,hc⟩:=bends_of (ha 1 _ _ rfl rfl)
  obtain ⟨r,rfl,hr⟩:=rollArg_of (ha 2 _ _ rfl rfl)
  obtain ⟨x,rfl,hx⟩:=(ha 3 _ _ rfl rfl).int Tryz.underlying5
  exact UnitsChecks_calls 0 d b c r x W hd hb hc hr (wf_u8 hx)
theorem unitsChecks_over:Rows.UnitsChecksSaid :=
 OpenClaim.holds_of_wide 5 Tryz.f5 rfl rfl rfl rfl rfl rfl rfl ⟨rfl,rfl,rfl,rfl,rfl⟩ rfl rfl rfl rfl rfl (by kernel_rfl) func5 (by kernel_rfl)
  (of_decide_eq_true (by kernel_rfl)) (by unfold Func.isWrapper;first|(rw [if_pos (by decide +kernel)];kernel_rfl)|(rw [if_neg (by decide +kernel)];exact ⟨rfl,rfl⟩))
  (fun os started H enc _=>unitsChecks_lifted os started H enc)
theorem unitsChecks_holds:Rows.UnitsChecksCardSaid :=
 Claim7.holds_tied_plain_at .later [] [.data, .pinned] true (true, "849563bfc0b6bf2ff6a248124b263b5fb7ede1952df6ea2046a50e50889bd220") true
  unitsChecks_over (fun _ h=>by cases h) (by kernel_rfl) (fun _ h=>by cases h) unitsChecks_row_tie rfl ⟨rfl,rfl⟩ (by kernel_rfl) rfl
  (fun f fn hf hfn=>by
   obtain rfl:f=5:=Option.some.inj ((show Tryz.prog.funcNamed Rows.unitsChecksRow.func=some 5 by kernel_rfl).symm.trans hf) |>.symm
   obtain rfl:fn=Tryz.f5:=(Option.some.inj (func5.symm.trans hfn)).symm
   exact ⟨by kernel_rfl,fun j t ht=>by
    rw [Tryz.params5] at ht
    have hall:(([59,77,25,5]:List TypeId).all fun t=>!Tryz.prog.wantsStandIn t)=true:=by kernel_rfl
    have:=List.all_eq_true.1 hall t (List.mem_of_getElem? (i:=j) (by simpa using ht))
    have h2:Tryz.prog.wantsStandIn t=false:=by simpa using this
    exact h2⟩)
  (by kernel_rfl)
#print axioms unitsChecks_holds
end Go.Proofs.YtnlonpcbgjbbaaaGreatDoor
