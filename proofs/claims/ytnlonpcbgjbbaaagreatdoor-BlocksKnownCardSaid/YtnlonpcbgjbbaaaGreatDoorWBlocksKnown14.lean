/-
  BlocksKnown, part 14 of its proof: that it returns true for every input, and each argument reads behind the call as it read before. Conditions: the listed variables read as the program's text lays them (tied by the card).
-/
import Derived.Test.YtnlonpcbgjbbaaaGreatDoorWBlocksKnown13
import Derived.Test.YtnlonpcbgjbbaaaGreatDoorWBlocksKnown3
import Derived.Test.YtnlonpcbgjbbaaaGreatDoorRows
import Derived.Test.YtnlonpcbgjbbaaaGreatDoorTie
import Derived.Lay
set_option linter.unusedVariables false
set_option linter.unusedSimpArgs false
set_option maxRecDepth 20000
set_option linter.unusedVariables false
set_option linter.unusedSimpArgs false
set_option maxRecDepth 20000
namespace Go.Proofs.YtnlonpcbgjbbaaaGreatDoor
open Go Go.E RowKit ChangeShapes WideShapes
attribute [local irreducible] Go.E.T Go.E.L Go.E.O Go.E.Ob

attribute [local irreducible] Go.E.ObX Go.E.ObK Go.E.ObKP
abbrev laidV:List (String × DataW Unit):=Rows.blocksKnownRow.laid
theorem own:ownKnob Tryz.prog.godebug=none:=by kernel_rfl
theorem laidOut:laidOutB Tryz.prog=true:=by kernel_rfl
noncomputable abbrev laidWorld (os:Os):World:=World.laidAll Tryz.prog os laidV
theorem laidWorld_met (os:Os) (args:Array Value):laidMet Tryz.prog laidV ((laidWorld os).forCall (fun _ _=>0) ⟨#[],args,[]⟩).memory :=
 laidMet_laidAll args (by kernel_rfl) (by kernel_rfl)
theorem laid_pow:(Rows.laid_internal_strconv_uint64pow10:DataW Unit)=Lib.tabData .u64 Lib.pow10Tab:=by kernel_rfl
theorem lib_of_laid {W:World} (h:laidMet Tryz.prog laidV W) (hs:W.ShapedOpen Tryz.prog):LibM W:=by
 obtain ⟨ps,⟨g0,t0,c0,f0,p0,q0,hg0,ht0,hv0,hd0,⟨g1,t1,c1,f1,p1,q1,hg1,ht1,hv1,hd1,⟨g2,t2,c2,f2,p2,q2,hg2,ht2,hv2,hd2,⟨g3,t3,c3,f3,p3,q3,hg3,ht3,hv3,hd3,⟨g4,t4,c4,f4,p4,q4,hg4,ht4,hv4,hd4,⟨g5,t5,c5,f5,p5,q5,hg5,ht5,hv5,hd5,_⟩,_⟩,_⟩,_⟩,_⟩,_⟩,_⟩:=h
 rw [laid_pow] at hd2
 obtain ⟨gp, hgp⟩ : ∃ g, Tryz.prog.globalNamed "internal/strconv.uint64pow10" = some g := ⟨_, hg2⟩
 obtain rfl:=Option.some.inj (ht2.symm.trans (show (Tryz.prog.globals[g2]?).map (·.type)=some 298 by
  obtain rfl := Option.some.inj (hg2.symm.trans (show Tryz.prog.globalNamed "internal/strconv.uint64pow10" = some 3 by kernel_rfl))
  kernel_rfl))
 have e2:=Lib.cells_of_tab (n:=20) (e:=151) (k:=.u64) (by kernel_rfl) (by kernel_rfl) (by kernel_rfl) (by kernel_rfl) hd2
 have hpow : Lib.TabIs Tryz.prog W "internal/strconv.uint64pow10" .u64 Lib.pow10Tab := by unfold Lib.TabIs; rw [hv2, ← e2]
 obtain rfl := Option.some.inj (hg4.symm.trans (show Tryz.prog.globalNamed "strconv.ErrRange" = some 5 by kernel_rfl))
 obtain rfl := Option.some.inj (hg5.symm.trans (show Tryz.prog.globalNamed "strconv.ErrSyntax" = some 4 by kernel_rfl))
 obtain rfl:=Option.some.inj (ht4.symm.trans (show (Tryz.prog.globals[5]?).map (·.type)=some 67 by kernel_rfl))
 obtain rfl:=Option.some.inj (ht5.symm.trans (show (Tryz.prog.globals[4]?).map (·.type)=some 67 by kernel_rfl))
 obtain ⟨ms,hms⟩:∃ ms,Tryz.prog.underlying 67=some (.interface ms):=⟨_,Tryz.underlying67⟩
 obtain ⟨_,u4,v4,h4,_,_⟩:=iface_of_trod hms hd4
 obtain ⟨_,u5,v5,h5,_,_⟩:=iface_of_trod hms hd5
 refine ⟨hpow,?_,⟨u5,v5,?_⟩,⟨u4,v4,?_⟩⟩
 ·exact cell_of_shapedOpen_int (t:=3) (zero:=#[.int .i64 0]) hs (of_decide_eq_true (by kernel_rfl)) (by kernel_rfl) rfl (by kernel_rfl) (by kernel_rfl) (by kernel_rfl)
 ·rw [hv5];exact congrArg some (by apply Array.ext';rw [h5])
 ·rw [hv4];exact congrArg some (by apply Array.ext';rw [h4])
theorem nil_of {α:Type} {l:List α} (h:l.length=0):l = []:=List.eq_nil_of_length_eq_zero h
theorem ks:Tryz.prog.cellsOf 9=1:=by kernel_rfl
theorem kR:Tryz.prog.cellsOf 25=4:=by kernel_rfl
end Go.Proofs.YtnlonpcbgjbbaaaGreatDoor
