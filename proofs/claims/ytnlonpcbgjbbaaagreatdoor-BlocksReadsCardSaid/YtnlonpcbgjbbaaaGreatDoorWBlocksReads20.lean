/-
  BlocksReads, part 20 of its proof: that it returns true for every input, and each argument reads behind the call as it read before. Conditions: the listed variables read as the program's text lays them (tied by the card).
-/
import Derived.Test.YtnlonpcbgjbbaaaGreatDoorWBlocksReads19
import Derived.Test.YtnlonpcbgjbbaaaGreatDoorWBlocksReads18
import Derived.Test.YtnlonpcbgjbbaaaGreatDoorWBlocksReads3
import Derived.Test.YtnlonpcbgjbbaaaGreatDoorRows
import Derived.Test.YtnlonpcbgjbbaaaGreatDoorTie
import Derived.Lay
set_option linter.unusedVariables false
set_option linter.unusedSimpArgs false
set_option maxRecDepth 20000
set_option linter.unusedVariables false
set_option linter.unusedSimpArgs false
set_option maxRecDepth 20000
namespace Go.Proofs.YtnlonpcbgjbbaaaGreatDoor
open Go Go.E RowKit ChangeShapes WideShapes
attribute [local irreducible] Go.E.T Go.E.L Go.E.O Go.E.Ob
attribute [local irreducible] Go.E.ObX Go.E.ObK Go.E.vZ
abbrev Na:List (String × DataW Unit):=Rows.blocksKnownRow.laid
theorem own:ownKnob Tryz.prog.godebug=none:=by kernel_rfl
theorem laidOut:laidOutB Tryz.prog=true:=by kernel_rfl
noncomputable abbrev laidWorld (os:Os):World:=World.laidAll Tryz.prog os Na
theorem laidWorld_met (os:Os) (args:Array Value):laidMet Tryz.prog Na ((laidWorld os).forCall (fun _ _=>0) ⟨#[],args,[]⟩).memory :=
 laidMet_laidAll args (by kernel_rfl) (by kernel_rfl)
theorem UC:(Rows.laid_internal_strconv_uint64pow10:DataW Unit)=Lib.tabData .u64 Lib.pow10Tab:=by kernel_rfl
theorem Jp {W:World} (h:laidMet Tryz.prog Na W) (hs:W.ShapedOpen Tryz.prog):ji W:=by
 obtain ⟨ps,⟨g0,t0,c0,f0,p0,q0,hg0,ht0,hv0,hd0,⟨g1,t1,c1,f1,p1,q1,hg1,ht1,hv1,hd1,⟨g2,t2,c2,f2,p2,q2,hg2,ht2,hv2,hd2,⟨g3,t3,c3,f3,p3,q3,hg3,ht3,hv3,hd3,⟨g4,t4,c4,f4,p4,q4,hg4,ht4,hv4,hd4,⟨g5,t5,c5,f5,p5,q5,hg5,ht5,hv5,hd5,_⟩,_⟩,_⟩,_⟩,_⟩,_⟩,_⟩:=h
 rw [UC] at hd2
 obtain ⟨gp, hgp⟩ : ∃ g, Tryz.prog.globalNamed "internal/strconv.uint64pow10" = some g := ⟨_, hg2⟩
 obtain rfl:=Option.some.inj (ht2.symm.trans (show (Tryz.prog.globals[g2]?).map (·.type)=some 298 by
  obtain rfl := Option.some.inj (hg2.symm.trans (show Tryz.prog.globalNamed "internal/strconv.uint64pow10" = some 3 by kernel_rfl))
  kernel_rfl))
 have e2:=Lib.cells_of_tab (n:=20) (e:=151) (k:=.u64) (by kernel_rfl) (by kernel_rfl) (by kernel_rfl) (by kernel_rfl) hd2
 have ajS : Lib.TabIs Tryz.prog W "internal/strconv.uint64pow10" .u64 Lib.pow10Tab := by unfold Lib.TabIs; rw [hv2, ← e2]
 obtain rfl := Option.some.inj (hg4.symm.trans (show Tryz.prog.globalNamed "strconv.ErrRange" = some 5 by kernel_rfl))
 obtain rfl := Option.some.inj (hg5.symm.trans (show Tryz.prog.globalNamed "strconv.ErrSyntax" = some 4 by kernel_rfl))
 obtain rfl:=Option.some.inj (ht4.symm.trans (show (Tryz.prog.globals[5]?).map (·.type)=some 67 by kernel_rfl))
 obtain rfl:=Option.some.inj (ht5.symm.trans (show (Tryz.prog.globals[4]?).map (·.type)=some 67 by kernel_rfl))
 obtain ⟨ms,hms⟩:∃ ms,Tryz.prog.underlying 67=some (.interface ms):=⟨_,Tryz.underlying67⟩
 obtain ⟨_,u4,v4,h4,_,_⟩:=iface_of_trod hms hd4
 obtain ⟨_,u5,v5,h5,_,_⟩:=iface_of_trod hms hd5
 refine ⟨ajS,?_,⟨u5,v5,?_⟩,⟨u4,v4,?_⟩⟩
 ·exact cell_of_shapedOpen_int (t:=3) (zero:=#[.int .i64 0]) hs (of_decide_eq_true (by kernel_rfl)) (by kernel_rfl) rfl (by kernel_rfl) (by kernel_rfl) (by kernel_rfl)
 ·rw [hv5];exact congrArg some (by apply Array.ext';rw [h5])
 rw [hv4];exact congrArg some (by apply Array.ext';rw [h4])
theorem XH {α:Type} {l:List α} (h:l.length=4):∃ a b c d,l = [a,b,c,d]:=by
 match l,h with
 | [a,b,c,d],_=>exact ⟨a,b,c,d,rfl⟩
theorem aau {α:Type} {l:List α} (h:l.length=10):∃ a b c d e f g i j k,l = [a,b,c,d,e,f,g,i,j,k]:=by
 match l,h with
 | [a,b,c,d,e,f,g,i,j,k],_=>exact ⟨a,b,c,d,e,f,g,i,j,k,rfl⟩
theorem wf_u8 {n:Int} (h:(Lit.int .u8 n).wf=true):0≤n∧n≤255:=by
 simp [Lit.wf,IntKind.min,IntKind.max,IntKind.signed,IntKind.bits] at h;omega
theorem wf_u16 {n:Int} (h:(Lit.int .u16 n).wf=true):0≤n∧n≤65535:=by
 simp [Lit.wf,IntKind.min,IntKind.max,IntKind.signed,IntKind.bits] at h;omega
theorem k8:Tryz.prog.cellsOf 5=1:=by kernel_rfl
theorem k16:Tryz.prog.cellsOf 87=1:=by kernel_rfl
theorem ki:Tryz.prog.cellsOf 3=1:=by kernel_rfl
theorem kb:Tryz.prog.cellsOf 4=1:=by kernel_rfl
theorem ks:Tryz.prog.cellsOf 9=1:=by kernel_rfl
theorem ku8:Tryz.prog.cellsOf 54=1:=by kernel_rfl
theorem ajT:Tryz.prog.cellsOf 57=1:=by kernel_rfl
theorem kD:Tryz.prog.cellsOf 59=10:=by kernel_rfl
theorem kS:Tryz.prog.cellsOf 56=5:=by kernel_rfl
theorem QV {W:World} {c:Value} (h:Rok Tryz.prog W 54 [c]):∃ xs,Ints .u8 0 W c xs∧∀ j,j<xs.length→qE (xs.getD j 0):=by
 obtain ⟨v,css,h1,h2,h3⟩:=h.slice Tryz.underlying54
 cases h1
 obtain ⟨xs,h4,h5⟩:=wP Tryz.underlying5 k8 h2 h3
 exact ⟨xs,h4,fun j hj=>by rw [au hj];exact wf_u8 (h5 _ (List.getElem_mem hj))⟩
theorem UD {W:World} {c:Value} (h:Rok Tryz.prog W 57 [c]):∃ xs,Ints .u16 0 W c xs∧∀ j,j<xs.length→0≤xs.getD j 0∧xs.getD j 0≤65535:=by
 obtain ⟨v,css,h1,h2,h3⟩:=h.slice Tryz.underlying57
 cases h1
 obtain ⟨xs,h4,h5⟩:=wP Tryz.underlying87 k16 h2 h3
 exact ⟨xs,h4,fun j hj=>by rw [au hj];exact wf_u16 (h5 _ (List.getElem_mem hj))⟩
theorem UE {W:World} {v:Value} (h:Arg Tryz.prog W 59 v):∃ d:Dr,v=d.val∧d.ok 0 W:=by
 obtain ⟨cs,rfl,hl,hr⟩:=h.struct Tryz.underlying59
 rw [kD] at hl
 obtain ⟨a,b,c,d,e,f,g,i,j,k,rfl⟩:=aau hl
 have F:=fun q ft off n hf hc=>hr.fld Tryz.underlying59 q ft off n hf hc
 have s0:=F 0 56 0 5 rfl kS
 have F2:=fun q ft off n hf hc=>s0.fld Tryz.underlying56 q ft off n hf hc
 obtain ⟨x0,e0,w0⟩:=Rok.int (F2 0 5 0 1 rfl k8) Tryz.underlying5
 obtain ⟨x1,e1,w1⟩:=Rok.int (F2 1 5 1 1 rfl k8) Tryz.underlying5
 obtain ⟨cs,c1,c2⟩:=QV (F2 2 54 2 1 rfl ku8)
 obtain ⟨ss,s1,s2⟩:=QV (F2 3 54 3 1 rfl ku8)
 obtain ⟨bo,e4⟩:=Rok.bool (F2 4 4 4 1 rfl kb) Tryz.underlying4
 obtain ⟨x5,e5,w5⟩:=Rok.int (F 1 5 5 1 rfl k8) Tryz.underlying5
 obtain ⟨x6,e6,w6⟩:=Rok.int (F 2 5 6 1 rfl k8) Tryz.underlying5
 obtain ⟨x7,e7,w7⟩:=Rok.int (F 3 5 7 1 rfl k8) Tryz.underlying5
 obtain ⟨ns,n1,n2⟩:=UD (F 4 57 8 1 rfl ajT)
 obtain ⟨x9,e9,w9⟩:=Rok.int (F 5 5 9 1 rfl k8) Tryz.underlying5
 simp at e0 e1 e4 e5 e6 e7 e9
 subst e0 e1 e4 e5 e6 e7 e9
 exact ⟨⟨x0,x1,c,cs,d,ss,bo,x5,x6,x7,j,ns,x9⟩,rfl,⟨c1,s1,n1,c2,s2,n2,wf_u8 w0,wf_u8 w1,wf_u8 w5,wf_u8 w6,wf_u8 w7,wf_u8 w9⟩⟩
theorem uw (s:ByteArray) (h:s.size≤maxLen):∃ t:Str,Value.string s=str t∧t.length≤9223372036854775807:=⟨s.data.toList,rfl,by unfold maxLen at h;simp only [Array.length_toList];exact h⟩
theorem aav {α:Type} {l:List α} (h:l.length=6):∃ a b c d e f,l = [a,b,c,d,e,f]:=by
 match l,h with
 | [a,b,c,d,e,f],_=>exact ⟨a,b,c,d,e,f,rfl⟩
theorem kis:Tryz.prog.cellsOf 30=1:=by kernel_rfl
theorem kU:Tryz.prog.cellsOf 51=6:=by kernel_rfl
theorem kR:Tryz.prog.cellsOf 25=4:=by kernel_rfl
theorem kus:Tryz.prog.cellsOf 23=1:=by kernel_rfl
theorem DV {W:World} {c:Value} (h:Rok Tryz.prog W 30 [c]):∃ xs,Ints .i64 0 W c xs:=by
 obtain ⟨v,css,h1,h2,h3⟩:=h.slice Tryz.underlying30
 cases h1
 obtain ⟨xs,h4,_⟩:=wP Tryz.underlying3 ki h2 h3
 exact ⟨xs,h4⟩
theorem Nb {W:World} {x:List Value} (hl:x.length=6) (h:Rok Tryz.prog W 51 x):∃ u:UnV,x=u.cells∧u.ok 0 W:=by
 obtain ⟨a,b,c,d,e,f,rfl⟩:=aav hl
 have F:=fun q ft off n hf hc=>h.fld Tryz.underlying51 q ft off n hf hc
 obtain ⟨s,e0,hs⟩:=Rok.string (F 0 9 0 1 rfl ks) Tryz.underlying9
 obtain ⟨p,e1,_⟩:=Rok.int (F 1 3 1 1 rfl ki) Tryz.underlying3
 obtain ⟨gs,hg⟩:=DV (F 2 30 2 1 rfl kis)
 obtain ⟨vs,hv⟩:=DV (F 3 30 3 1 rfl kis)
 obtain ⟨ps,hp⟩:=DV (F 4 30 4 1 rfl kis)
 obtain ⟨w,e5⟩:=Rok.bool (F 5 4 5 1 rfl kb) Tryz.underlying4
 simp at e0 e1 e5
 subst e0 e1 e5
 obtain ⟨t,ht,htl⟩:=uw s hs
 exact ⟨⟨t,p,c,gs,d,vs,e,ps,w⟩,by rw [ht];rfl,⟨hg,hv,hp,htl⟩⟩
theorem yV {W:World} : ∀ (css:List (List Value)),(∀ x∈css,x.length=6∧Rok Tryz.prog W 51 x)→∃ us:List UnV,css=us.map UnV.cells∧∀ u∈us,u.ok 0 W
 | [],_=>⟨[],rfl,fun _ h=>by cases h⟩
 | x::r,h=>by
  obtain ⟨us,h1,h2⟩:=yV r (fun y hy=>h y (List.mem_cons_of_mem _ hy))
  obtain ⟨u,h3,h4⟩:=Nb (h x (List.mem_cons_self ..)).1 (h x (List.mem_cons_self ..)).2
  exact ⟨u::us,by rw [h1,h3];rfl,fun y hy=>by rcases List.mem_cons.1 hy with rfl|hy;exact h4;exact h2 y hy⟩
theorem Nc {W:World} {v:Value} (h:Arg Tryz.prog W 25 v):∃ r:RoV,v=r.val∧r.ok 0 W:=by
 obtain ⟨cs,rfl,hl,hr⟩:=h.struct Tryz.underlying25
 rw [kR] at hl
 obtain ⟨a,b,c,d,rfl⟩:=XH hl
 have F:=fun q ft off n hf hc=>hr.fld Tryz.underlying25 q ft off n hf hc
 obtain ⟨x0,e0,_⟩:=Rok.int (F 0 3 0 1 rfl ki) Tryz.underlying3
 obtain ⟨x1,e1,_⟩:=Rok.int (F 1 3 1 1 rfl ki) Tryz.underlying3
 obtain ⟨x2,e2,_⟩:=Rok.int (F 2 3 2 1 rfl ki) Tryz.underlying3
 obtain ⟨v,css,e3,h4,h5⟩:=(F 3 23 3 1 rfl kus).slice Tryz.underlying23
 simp at e0 e1 e2 e3
 subst e0 e1 e2 e3
 rw [kU] at h4
 obtain ⟨us,h6,h7⟩:=yV css (fun x hx=>by have:=h5 x hx;rw [kU] at this;exact this)
 subst h6
 rw [List.length_map] at h4
 exact ⟨⟨x0,x1,x2,d,us⟩,rfl,⟨h4,h7⟩⟩
open Go Go.E RowKit ChangeShapes WideShapes
theorem aaw {W:World} {v:Value} (h:Arg Tryz.prog W 54 v):∃ xs,Ints .u8 0 W v xs∧∀ j,j<xs.length→qE (xs.getD j 0):=by
 obtain ⟨css,h2,h3⟩:=h.slice Tryz.underlying54
 obtain ⟨xs,h4,h5⟩:=wP Tryz.underlying5 k8 h2 h3
 exact ⟨xs,h4,fun j hj=>by rw [au hj];exact wf_u8 (h5 _ (List.getElem_mem hj))⟩
theorem XI {W:World} {v:Value} (h:Arg Tryz.prog W 5 v):∃ m:Nat,v = .int .u8 m∧m<256:=by
 obtain ⟨x,rfl,hx⟩:=h.int Tryz.underlying5
 have:=wf_u8 hx
 exact ⟨x.toNat,by rw [Int.toNat_of_nonneg this.1],by omega⟩
theorem XJ {W:World} {v:Value} (h:Arg Tryz.prog W 31 v):∃ xs,Ints .i64 0 W v xs:=by
 obtain ⟨css,h2,h3⟩:=h.slice Tryz.underlying31
 obtain ⟨xs,h4,h5⟩:=wP Tryz.underlying3 ki h2 h3
 exact ⟨xs,h4⟩
theorem QW {W:World} {v:Value} (h:Arg Tryz.prog W 9 v):∃ t:Str,v=str t∧t.length≤9223372036854775807:=by
 obtain ⟨s,rfl,hs⟩:=h.string Tryz.underlying9
 exact uw s hs
open Go Go.E RowKit ChangeShapes WideShapes
theorem aem {α:Type} {l:List α} (h:l.length=4):∃ a b c d,l = [a,b,c,d]:=by
 match l,h with
 | [a,b,c,d],_=>exact ⟨a,b,c,d,rfl⟩
theorem Kz {α:Type} {l:List α} (h:l.length=8):∃ a b c d e f g i,l = [a,b,c,d,e,f,g,i]:=by
 match l,h with
 | [a,b,c,d,e,f,g,i],_=>exact ⟨a,b,c,d,e,f,g,i,rfl⟩
theorem kEd:Tryz.prog.cellsOf 89=4:=by kernel_rfl
theorem Vf {W:World} {cs:List Value} (hl:cs.length=4) (h:Rok Tryz.prog W 89 cs):∃ x:EdV,cs=x.cells∧x.ok:=by
 obtain ⟨a,b,c,d,rfl⟩:=aem hl
 have F:=fun q ft off n hf hc=>h.fld Tryz.underlying89 q ft off n hf hc
 obtain ⟨x0,e0,w0⟩:=Rok.int (F 0 87 0 1 rfl k16) Tryz.underlying87
 obtain ⟨x1,e1,w1⟩:=Rok.int (F 1 5 1 1 rfl k8) Tryz.underlying5
 obtain ⟨s,e2,hs⟩:=Rok.string (F 2 9 2 1 rfl ks) Tryz.underlying9
 obtain ⟨bo,e3⟩:=Rok.bool (F 3 4 3 1 rfl kb) Tryz.underlying4
 simp at e0 e1 e2 e3
 subst e0 e1 e2 e3
 obtain ⟨t,ht,hl⟩:=uw s hs
 exact ⟨⟨x0,x1,t,bo⟩,by rw [ht];rfl,⟨wf_u16 w0,wf_u8 w1,hl⟩⟩
theorem XK {W:World} {v:Value} (h:Arg Tryz.prog W 90 v):∃ x y:EdV,v = .agg (x.cells++y.cells).toArray∧x.ok∧y.ok:=by
 obtain ⟨cs,rfl,hl,hr⟩:=h.array Tryz.underlying90
 have hl:cs.length=8:=hl.trans (by kernel_rfl)
 obtain ⟨_,ha⟩:=hr.array Tryz.underlying90
 have h0:=ha 0 (by decide)
 have h1:=ha 1 (by decide)
 rw [kEd] at h0 h1
 obtain ⟨x,e1,o1⟩:=Vf (by simp [hl]) h0
 obtain ⟨y,e2,o2⟩:=Vf (by simp [hl]) h1
 refine ⟨x,y,?_,o1,o2⟩
 rw [← e1,← e2]
 congr 2
 rw [Nat.zero_mul,Nat.one_mul,List.drop_zero,List.take_of_length_le (l:=cs.drop 4) (by simp [hl]),List.take_append_drop]
end Go.Proofs.YtnlonpcbgjbbaaaGreatDoor
