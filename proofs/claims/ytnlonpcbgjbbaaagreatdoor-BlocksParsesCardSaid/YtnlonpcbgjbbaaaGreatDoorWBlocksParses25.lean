/-
  BlocksParses, part 25 of its proof: that it returns true for every input, and each argument reads behind the call as it read before. Conditions: the listed variables read as the program's text lays them (tied by the card).
-/
import Derived.Test.YtnlonpcbgjbbaaaGreatDoorWBlocksParses24
import Derived.Test.YtnlonpcbgjbbaaaGreatDoorWBlocksParses22
import Derived.Test.YtnlonpcbgjbbaaaGreatDoorWBlocksParses3
import Derived.Test.YtnlonpcbgjbbaaaGreatDoorRows
import Derived.Test.YtnlonpcbgjbbaaaGreatDoorTie
import Derived.Lay
set_option linter.unusedVariables false
set_option linter.unusedSimpArgs false
set_option maxRecDepth 20000
namespace Go.Proofs.YtnlonpcbgjbbaaaGreatDoor
open Go Go.E RowKit ChangeShapes WideShapes
attribute [local irreducible] Go.E.T Go.E.L Go.E.O Go.E.Ob
attribute [local irreducible] Go.E.ObX Go.E.ObK Go.E.Gi
variable {W:World}
abbrev UW:List (String × DataW Unit):=Rows.blocksKnownRow.laid
theorem own:ownKnob Tryz.prog.godebug=none:=by kernel_rfl
theorem laidOut:laidOutB Tryz.prog=true:=by kernel_rfl
noncomputable abbrev laidWorld (os:Os):World:=World.laidAll Tryz.prog os UW
theorem laidWorld_met (os:Os) (args:Array Value):laidMet Tryz.prog UW ((laidWorld os).forCall (fun _ _=>0) ⟨#[],args,[]⟩).memory :=
 laidMet_laidAll args krX krX
theorem aaK:(Rows.laid_internal_strconv_uint64pow10:DataW Unit)=Lib.tabData .u64 Lib.pow10Tab:=by kernel_rfl
theorem Qz (h:laidMet Tryz.prog UW W) (hs:W.ShapedOpen Tryz.prog):sF W:=by
 obtain ⟨ps,⟨g0,t0,c0,f0,p0,q0,u,v,w,x,⟨g1,t1,c1,f1,M,q1,y,z,A,B,⟨g2,t2,c2,N,O,q2,a,d,f,b,⟨g3,t3,c3,P,p3,q3,C,D,E,F,⟨g4,t4,c4,Q,R,q4,i,j,l,m,⟨g5,t5,c5,S,T,q5,o,p,q,r,_⟩,_⟩,_⟩,_⟩,_⟩,_⟩,_⟩:=h
 rw [aaK] at b
 obtain ⟨gp, G⟩ : ∃ g, Tryz.prog.globalNamed "internal/strconv.uint64pow10" = some g := ⟨_, a⟩
 obtain rfl:=Option.some.inj (d.symm.trans (show (Tryz.prog.globals[g2]?).map (·.type)=some 298 by
  obtain rfl := Option.some.inj (a.symm.trans (show Tryz.prog.globalNamed "internal/strconv.uint64pow10" = some 3 by kernel_rfl))
  kernel_rfl))
 have H:=Lib.cells_of_tab (n:=20) (e:=151) (k:=.u64) krX krX krX krX b
 have s : Lib.TabIs Tryz.prog W "internal/strconv.uint64pow10" .u64 Lib.pow10Tab := by unfold Lib.TabIs; rw [f, ← H]
 obtain rfl := Option.some.inj (i.symm.trans (show Tryz.prog.globalNamed "strconv.ErrRange" = some 5 by kernel_rfl))
 obtain rfl := Option.some.inj (o.symm.trans (show Tryz.prog.globalNamed "strconv.ErrSyntax" = some 4 by kernel_rfl))
 obtain rfl:=Option.some.inj (j.symm.trans (show (Tryz.prog.globals[5]?).map (·.type)=some 67 by kernel_rfl))
 obtain rfl:=Option.some.inj (p.symm.trans (show (Tryz.prog.globals[4]?).map (·.type)=some 67 by kernel_rfl))
 obtain ⟨ms,c⟩:∃ ms,Tryz.prog.underlying 67=some (.interface ms):=⟨_,Tryz.underlying67⟩
 obtain ⟨_,I,v4,J,_,_⟩:=iface_of_trod c m
 obtain ⟨_,K,v5,L,_,_⟩:=iface_of_trod c r
 refine ⟨s,?_,⟨K,v5,?_⟩,⟨I,v4,?_⟩⟩
 ·exact cell_of_shapedOpen_int (t:=3) (zero:=#[.int .i64 0]) hs (of_decide_eq_true krX) krX rfl krX krX krX
 ·rw [q];exact congrArg some (by apply Array.ext';rw [L])
 rw [l];exact congrArg some (by apply Array.ext';rw [J])
theorem Yr {α:Type} {l:List α} (h:l.length=4):∃ a b c d,l = [a,b,c,d]:=by
 match l,h with
 | [a,b,c,d],_=>exact ⟨a,b,c,d,rfl⟩
theorem agQ {α:Type} {l:List α} (h:l.length=10):∃ a b c d e f g i j k,l = [a,b,c,d,e,f,g,i,j,k]:=by
 match l,h with
 | [a,b,c,d,e,f,g,i,j,k],_=>exact ⟨a,b,c,d,e,f,g,i,j,k,rfl⟩
theorem wf_u8 {n:Int} (h:(Lit.int .u8 n).wf=true):0≤n∧n≤255:=by
 simp [Lit.wf,IntKind.min,IntKind.max,IntKind.signed,IntKind.bits] at h;omega
theorem wf_u16 {n:Int} (h:(Lit.int .u16 n).wf=true):0≤n∧n≤65535:=by
 simp [Lit.wf,IntKind.min,IntKind.max,IntKind.signed,IntKind.bits] at h;omega
theorem k8:Tryz.prog.cellsOf 5=1:=by kernel_rfl
theorem k16:Tryz.prog.cellsOf 87=1:=by kernel_rfl
theorem kb:Tryz.prog.cellsOf 4=1:=by kernel_rfl
theorem ks:Tryz.prog.cellsOf 9=1:=by kernel_rfl
theorem ku8:Tryz.prog.cellsOf 54=1:=by kernel_rfl
theorem as6:Tryz.prog.cellsOf 57=1:=by kernel_rfl
theorem kD:Tryz.prog.cellsOf 59=10:=by kernel_rfl
theorem kS:Tryz.prog.cellsOf 56=5:=by kernel_rfl
theorem Yt {c:Value} (h:Rok Tryz.prog W 54 [c]):∃ xs,Ints .u8 0 W c xs∧∀ j,j<xs.length→QG (xs.getD j 0):=by
 obtain ⟨v,css,b,d,e⟩:=h.slice Tryz.underlying54
 cases b
 obtain ⟨xs,f,g⟩:=Vf Tryz.underlying5 k8 d e
 exact ⟨xs,f,fun j a=>by rw [aX a];exact wf_u8 (g _ (List.getElem_mem a))⟩
theorem aaL {c:Value} (h:Rok Tryz.prog W 57 [c]):∃ xs,Ints .u16 0 W c xs∧∀ j,j<xs.length→0≤xs.getD j 0∧xs.getD j 0≤65535:=by
 obtain ⟨v,css,b,d,e⟩:=h.slice Tryz.underlying57
 cases b
 obtain ⟨xs,f,g⟩:=Vf Tryz.underlying87 k16 d e
 exact ⟨xs,f,fun j a=>by rw [aX a];exact wf_u16 (g _ (List.getElem_mem a))⟩
theorem SB {v:Value} (h:Arg Tryz.prog W 59 v):∃ d:Dr,v=d.val∧d.ok 0 W:=by
 obtain ⟨cs,rfl,m,w⟩:=h.struct Tryz.underlying59
 rw [kD] at m
 obtain ⟨a,b,c,d,e,f,g,i,j,k,rfl⟩:=agQ m
 have F:=fun q ft off n hf l=>w.fld Tryz.underlying59 q ft off n hf l
 have x:=F 0 56 0 5 rfl kS
 have F2:=fun q ft off n hf l=>x.fld Tryz.underlying56 q ft off n hf l
 obtain ⟨x0,o,w0⟩:=Rok.int (F2 0 5 0 1 rfl k8) Tryz.underlying5
 obtain ⟨x1,e1,w1⟩:=Rok.int (F2 1 5 1 1 rfl k8) Tryz.underlying5
 obtain ⟨cs,c1,c2⟩:=Yt (F2 2 54 2 1 rfl ku8)
 obtain ⟨ss,y,z⟩:=Yt (F2 3 54 3 1 rfl ku8)
 obtain ⟨bo,p⟩:=Rok.bool (F2 4 4 4 1 rfl kb) Tryz.underlying4
 obtain ⟨A,r,B⟩:=Rok.int (F 1 5 5 1 rfl k8) Tryz.underlying5
 obtain ⟨C,s,D⟩:=Rok.int (F 2 5 6 1 rfl k8) Tryz.underlying5
 obtain ⟨E,t,w7⟩:=Rok.int (F 3 5 7 1 rfl k8) Tryz.underlying5
 obtain ⟨ns,n1,n2⟩:=aaL (F 4 57 8 1 rfl as6)
 obtain ⟨G,u,H⟩:=Rok.int (F 5 5 9 1 rfl k8) Tryz.underlying5
 simp at o e1 p r s t u
 subst o e1 p r s t u
 exact ⟨⟨x0,x1,c,cs,d,ss,bo,A,C,E,j,ns,G⟩,rfl,⟨c1,y,n1,c2,z,n2,wf_u8 w0,wf_u8 w1,wf_u8 B,wf_u8 D,wf_u8 w7,wf_u8 H⟩⟩
theorem Ib (s:ByteArray) (h:s.size≤maxLen):∃ t:Str,Value.string s=str t∧t.length≤9223372036854775807:=⟨s.data.toList,rfl,by unfold maxLen at h;simp only [Array.length_toList];exact h⟩
theorem Yu {v:Value} (h:Arg Tryz.prog W 9 v):∃ t:Str,v=str t∧t.length≤9223372036854775807:=by
 obtain ⟨s,rfl,hs⟩:=h.string Tryz.underlying9
 exact Ib s hs
theorem alE {α:Type} {l:List α} (h:l.length=4):∃ a b c d,l = [a,b,c,d]:=by
 match l,h with
 | [a,b,c,d],_=>exact ⟨a,b,c,d,rfl⟩
theorem kEd:Tryz.prog.cellsOf 89=4:=by kernel_rfl
theorem Yv {cs:List Value} (e:cs.length=4) (h:Rok Tryz.prog W 89 cs):∃ x:EdV,cs=x.cells∧x.ok:=by
 obtain ⟨a,b,c,d,rfl⟩:=alE e
 have F:=fun q ft off n hf j=>h.fld Tryz.underlying89 q ft off n hf j
 obtain ⟨x0,f,w0⟩:=Rok.int (F 0 87 0 1 rfl k16) Tryz.underlying87
 obtain ⟨x1,e1,w1⟩:=Rok.int (F 1 5 1 1 rfl k8) Tryz.underlying5
 obtain ⟨s,g,hs⟩:=Rok.string (F 2 9 2 1 rfl ks) Tryz.underlying9
 obtain ⟨bo,i⟩:=Rok.bool (F 3 4 3 1 rfl kb) Tryz.underlying4
 simp at f e1 g i
 subst f e1 g i
 obtain ⟨t,k,e⟩:=Ib s hs
 exact ⟨⟨x0,x1,t,bo⟩,by rw [k];rfl,⟨wf_u16 w0,wf_u8 w1,e⟩⟩
theorem adP {v:Value} (h:Arg Tryz.prog W 99 v):∃ x y z:EdV,v = .agg (x.cells++y.cells++z.cells).toArray∧x.ok∧y.ok∧z.ok:=by
 obtain ⟨cs,rfl,a,d⟩:=h.array Tryz.underlying99
 have a:cs.length=12:=a.trans krX
 obtain ⟨_,ha⟩:=d.array Tryz.underlying99
 have h0:=ha 0 dcX
 have b:=ha 1 dcX
 have c:=ha 2 dcX
 rw [kEd] at h0 b c
 obtain ⟨x,e1,o1⟩:=Yv (by simp [a]) h0
 obtain ⟨y,f,o2⟩:=Yv (by simp [a]) b
 obtain ⟨z,g,o3⟩:=Yv (by simp [a]) c
 refine ⟨x,y,z,?_,o1,o2,o3⟩
 rw [← e1,← f,← g]
 congr 2
 rw [Nat.zero_mul,Nat.one_mul,List.drop_zero,List.take_of_length_le (l:=cs.drop (2*4)) (by simp [a])]
 have e:cs.drop (2*4)=(cs.drop 4).drop 4:=by rw [List.drop_drop]
 rw [e,List.append_assoc,List.take_append_drop,List.take_append_drop]
end Go.Proofs.YtnlonpcbgjbbaaaGreatDoor
