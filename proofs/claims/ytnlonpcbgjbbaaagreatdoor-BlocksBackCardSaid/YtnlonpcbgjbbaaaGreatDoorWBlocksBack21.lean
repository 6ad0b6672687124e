/-
  BlocksBack, part 21 of its proof: that it returns true for every input, and each argument reads behind the call as it read before. Conditions: the listed variables read as the program's text lays them (tied by the card).
-/
import Derived.Test.YtnlonpcbgjbbaaaGreatDoorWBlocksBack20
import Derived.Test.YtnlonpcbgjbbaaaGreatDoorWBlocksBack19
import Derived.Test.YtnlonpcbgjbbaaaGreatDoorWBlocksBack3
import Derived.Test.YtnlonpcbgjbbaaaGreatDoorRows
import Derived.Test.YtnlonpcbgjbbaaaGreatDoorTie
import Derived.Lay
set_option linter.unusedVariables false
set_option linter.unusedSimpArgs false
set_option maxRecDepth 20000
set_option linter.unusedVariables false
set_option linter.unusedSimpArgs false
set_option maxRecDepth 20000
namespace Go.Proofs.YtnlonpcbgjbbaaaGreatDoor
open Go Go.E RowKit ChangeShapes WideShapes
attribute [local irreducible] Go.E.T Go.E.L Go.E.O Go.E.Ob
attribute [local irreducible] Go.E.ObX Go.E.ObK Go.E.wP
abbrev O4:List (String × DataW Unit):=Rows.blocksKnownRow.laid
theorem own:ownKnob Tryz.prog.godebug=none:=by kernel_rfl
theorem laidOut:laidOutB Tryz.prog=true:=by kernel_rfl
noncomputable abbrev laidWorld (os:Os):World:=World.laidAll Tryz.prog os O4
theorem laidWorld_met (os:Os) (args:Array Value):laidMet Tryz.prog O4 ((laidWorld os).forCall (fun _ _=>0) ⟨#[],args,[]⟩).memory :=
 laidMet_laidAll args (by kernel_rfl) (by kernel_rfl)
theorem Xm:(Rows.laid_internal_strconv_uint64pow10:DataW Unit)=Lib.tabData .u64 Lib.pow10Tab:=by kernel_rfl
theorem KA {W:World} (h:laidMet Tryz.prog O4 W) (hs:W.ShapedOpen Tryz.prog):jc W:=by
 obtain ⟨ps,⟨g0,t0,c0,f0,p0,q0,hg0,ht0,hv0,hd0,⟨g1,t1,c1,f1,p1,q1,hg1,ht1,hv1,hd1,⟨g2,t2,c2,f2,p2,q2,hg2,ht2,hv2,hd2,⟨g3,t3,c3,f3,p3,q3,hg3,ht3,hv3,hd3,⟨g4,t4,c4,f4,p4,q4,hg4,ht4,hv4,hd4,⟨g5,t5,c5,f5,p5,q5,hg5,ht5,hv5,hd5,_⟩,_⟩,_⟩,_⟩,_⟩,_⟩,_⟩:=h
 rw [Xm] at hd2
 obtain ⟨gp, hgp⟩ : ∃ g, Tryz.prog.globalNamed "internal/strconv.uint64pow10" = some g := ⟨_, hg2⟩
 obtain rfl:=Option.some.inj (ht2.symm.trans (show (Tryz.prog.globals[g2]?).map (·.type)=some 298 by
  obtain rfl := Option.some.inj (hg2.symm.trans (show Tryz.prog.globalNamed "internal/strconv.uint64pow10" = some 3 by kernel_rfl))
  kernel_rfl))
 have e2:=Lib.cells_of_tab (n:=20) (e:=151) (k:=.u64) (by kernel_rfl) (by kernel_rfl) (by kernel_rfl) (by kernel_rfl) hd2
 have amb : Lib.TabIs Tryz.prog W "internal/strconv.uint64pow10" .u64 Lib.pow10Tab := by unfold Lib.TabIs; rw [hv2, ← e2]
 obtain rfl := Option.some.inj (hg4.symm.trans (show Tryz.prog.globalNamed "strconv.ErrRange" = some 5 by kernel_rfl))
 obtain rfl := Option.some.inj (hg5.symm.trans (show Tryz.prog.globalNamed "strconv.ErrSyntax" = some 4 by kernel_rfl))
 obtain rfl:=Option.some.inj (ht4.symm.trans (show (Tryz.prog.globals[5]?).map (·.type)=some 67 by kernel_rfl))
 obtain rfl:=Option.some.inj (ht5.symm.trans (show (Tryz.prog.globals[4]?).map (·.type)=some 67 by kernel_rfl))
 obtain ⟨ms,hms⟩:∃ ms,Tryz.prog.underlying 67=some (.interface ms):=⟨_,Tryz.underlying67⟩
 obtain ⟨_,u4,v4,h4,_,_⟩:=iface_of_trod hms hd4
 obtain ⟨_,u5,v5,h5,_,_⟩:=iface_of_trod hms hd5
 refine ⟨amb,?_,⟨u5,v5,?_⟩,⟨u4,v4,?_⟩⟩
 ·exact cell_of_shapedOpen_int (t:=3) (zero:=#[.int .i64 0]) hs (of_decide_eq_true (by kernel_rfl)) (by kernel_rfl) rfl (by kernel_rfl) (by kernel_rfl) (by kernel_rfl)
 ·rw [hv5];exact congrArg some (by apply Array.ext';rw [h5])
 rw [hv4];exact congrArg some (by apply Array.ext';rw [h4])
theorem three {α:Type} {l:List α} (h:l.length=3):∃ a b c,l = [a,b,c]:=by
 match l,h with
 | [a,b,c],_=>exact ⟨a,b,c,rfl⟩
theorem ac2 {α:Type} {l:List α} (h:l.length=10):∃ a b c d e f g i j k,l = [a,b,c,d,e,f,g,i,j,k]:=by
 match l,h with
 | [a,b,c,d,e,f,g,i,j,k],_=>exact ⟨a,b,c,d,e,f,g,i,j,k,rfl⟩
theorem wf_u8 {n:Int} (h:(Lit.int .u8 n).wf=true):0≤n∧n≤255:=by
 simp [Lit.wf,IntKind.min,IntKind.max,IntKind.signed,IntKind.bits] at h;omega
theorem wf_u16 {n:Int} (h:(Lit.int .u16 n).wf=true):0≤n∧n≤65535:=by
 simp [Lit.wf,IntKind.min,IntKind.max,IntKind.signed,IntKind.bits] at h;omega
theorem k8:Tryz.prog.cellsOf 5=1:=by kernel_rfl
theorem k16:Tryz.prog.cellsOf 87=1:=by kernel_rfl
theorem kb:Tryz.prog.cellsOf 4=1:=by kernel_rfl
theorem ks:Tryz.prog.cellsOf 9=1:=by kernel_rfl
theorem ku8:Tryz.prog.cellsOf 54=1:=by kernel_rfl
theorem amc:Tryz.prog.cellsOf 57=1:=by kernel_rfl
theorem kD:Tryz.prog.cellsOf 59=10:=by kernel_rfl
theorem kS:Tryz.prog.cellsOf 56=5:=by kernel_rfl
theorem Us {W:World} {c:Value} (h:Rok Tryz.prog W 54 [c]):∃ xs,Ints .u8 0 W c xs∧∀ j,j<xs.length→qH (xs.getD j 0):=by
 obtain ⟨v,css,h1,h2,h3⟩:=h.slice Tryz.underlying54
 cases h1
 obtain ⟨xs,h4,h5⟩:=IL Tryz.underlying5 k8 h2 h3
 exact ⟨xs,h4,fun j hj=>by rw [au hj];exact wf_u8 (h5 _ (List.getElem_mem hj))⟩
theorem Xn {W:World} {c:Value} (h:Rok Tryz.prog W 57 [c]):∃ xs,Ints .u16 0 W c xs∧∀ j,j<xs.length→0≤xs.getD j 0∧xs.getD j 0≤65535:=by
 obtain ⟨v,css,h1,h2,h3⟩:=h.slice Tryz.underlying57
 cases h1
 obtain ⟨xs,h4,h5⟩:=IL Tryz.underlying87 k16 h2 h3
 exact ⟨xs,h4,fun j hj=>by rw [au hj];exact wf_u16 (h5 _ (List.getElem_mem hj))⟩
theorem Xo {W:World} {v:Value} (h:Arg Tryz.prog W 59 v):∃ d:Dr,v=d.val∧d.ok 0 W:=by
 obtain ⟨cs,rfl,hl,hr⟩:=h.struct Tryz.underlying59
 rw [kD] at hl
 obtain ⟨a,b,c,d,e,f,g,i,j,k,rfl⟩:=ac2 hl
 have F:=fun q ft off n hf hc=>hr.fld Tryz.underlying59 q ft off n hf hc
 have s0:=F 0 56 0 5 rfl kS
 have F2:=fun q ft off n hf hc=>s0.fld Tryz.underlying56 q ft off n hf hc
 obtain ⟨x0,e0,w0⟩:=Rok.int (F2 0 5 0 1 rfl k8) Tryz.underlying5
 obtain ⟨x1,e1,w1⟩:=Rok.int (F2 1 5 1 1 rfl k8) Tryz.underlying5
 obtain ⟨cs,c1,c2⟩:=Us (F2 2 54 2 1 rfl ku8)
 obtain ⟨ss,s1,s2⟩:=Us (F2 3 54 3 1 rfl ku8)
 obtain ⟨bo,e4⟩:=Rok.bool (F2 4 4 4 1 rfl kb) Tryz.underlying4
 obtain ⟨x5,e5,w5⟩:=Rok.int (F 1 5 5 1 rfl k8) Tryz.underlying5
 obtain ⟨x6,e6,w6⟩:=Rok.int (F 2 5 6 1 rfl k8) Tryz.underlying5
 obtain ⟨x7,e7,w7⟩:=Rok.int (F 3 5 7 1 rfl k8) Tryz.underlying5
 obtain ⟨ns,n1,n2⟩:=Xn (F 4 57 8 1 rfl amc)
 obtain ⟨x9,e9,w9⟩:=Rok.int (F 5 5 9 1 rfl k8) Tryz.underlying5
 simp at e0 e1 e4 e5 e6 e7 e9
 subst e0 e1 e4 e5 e6 e7 e9
 exact ⟨⟨x0,x1,c,cs,d,ss,bo,x5,x6,x7,j,ns,x9⟩,rfl,⟨c1,s1,n1,c2,s2,n2,wf_u8 w0,wf_u8 w1,wf_u8 w5,wf_u8 w6,wf_u8 w7,wf_u8 w9⟩⟩
theorem kR:Tryz.prog.cellsOf 25=4:=by kernel_rfl
open Go Go.E RowKit ChangeShapes WideShapes
theorem ac3 {W:World} {v:Value} (h:Arg Tryz.prog W 54 v):∃ xs,Ints .u8 0 W v xs∧∀ j,j<xs.length→qH (xs.getD j 0):=by
 obtain ⟨css,h2,h3⟩:=h.slice Tryz.underlying54
 obtain ⟨xs,h4,h5⟩:=IL Tryz.underlying5 k8 h2 h3
 exact ⟨xs,h4,fun j hj=>by rw [au hj];exact wf_u8 (h5 _ (List.getElem_mem hj))⟩
theorem Z4 {W:World} {v:Value} (h:Arg Tryz.prog W 5 v):∃ m:Nat,v = .int .u8 m∧m<256:=by
 obtain ⟨x,rfl,hx⟩:=h.int Tryz.underlying5
 have:=wf_u8 hx
 exact ⟨x.toNat,by rw [Int.toNat_of_nonneg this.1],by omega⟩
end Go.Proofs.YtnlonpcbgjbbaaaGreatDoor
