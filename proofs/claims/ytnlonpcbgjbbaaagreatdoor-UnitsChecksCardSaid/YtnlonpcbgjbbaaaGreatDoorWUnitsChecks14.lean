/-
  UnitsChecks, part 14 of its proof: that it returns true for every input, and each argument reads behind the call as it read before. Conditions: the listed variables read as the program's text lays them (tied by the card).
-/
import Derived.Test.YtnlonpcbgjbbaaaGreatDoorWUnitsChecks13
import Derived.Test.YtnlonpcbgjbbaaaGreatDoorWUnitsChecks2
import Derived.Test.YtnlonpcbgjbbaaaGreatDoorRows
import Derived.Test.YtnlonpcbgjbbaaaGreatDoorTie
set_option linter.unusedVariables false
set_option linter.unusedSimpArgs false
set_option maxRecDepth 20000
set_option linter.unusedVariables false
set_option linter.unusedSimpArgs false
set_option maxRecDepth 20000
namespace Go.Proofs.YtnlonpcbgjbbaaaGreatDoor
open Go Go.E RowKit ChangeShapes WideShapes
attribute [local irreducible] Go.E.T Go.E.L Go.E.O Go.E.Ob

abbrev laidL:List (String × DataW Unit):=Rows.unitsChecksRow.laid
theorem own:ownKnob Tryz.prog.godebug=none:=by kernel_rfl
theorem laidOut:laidOutB Tryz.prog=true:=by kernel_rfl
def flatD:Nat→DataW Unit→List Value
 | 0,_=>[]
 | _,.lit (.int k n)=>[.int k n]
 | n+1,.agg ds=>ds.flatMap (flatD n)
 | _,_=>[]
noncomputable def layOne (p:String × DataW Unit) (h:Array Obj):Array Obj:=match Tryz.prog.globalNamed p.1 with
 | some g=>h.modify g fun
   | .cells _ t frozen=>.cells (flatD 4 p.2).toArray t frozen
   | o=>o
 | none=>h
noncomputable def laidWorld (os:Os):World :=
 { World.holding Tryz.prog os ⟨#[],#[],[]⟩ with heap:=laidL.foldr layOne (World.holding Tryz.prog os ⟨#[],#[],[]⟩).heap }
theorem laidWorld_met (os:Os) (args:Array Value):laidMet Tryz.prog laidL ((laidWorld os).forCall (fun _ _=>0) ⟨#[],args,[]⟩).memory :=
 laidMet_of_run' 8 (by kernel_rfl) (by kernel_rfl)
theorem four_of {α:Type} {l:List α} (h:l.length=4):∃ a b c d,l = [a,b,c,d]:=by
 match l,h with
 | [a,b,c,d],_=>exact ⟨a,b,c,d,rfl⟩
theorem ten_of {α:Type} {l:List α} (h:l.length=10):∃ a b c d e f g i j k,l = [a,b,c,d,e,f,g,i,j,k]:=by
 match l,h with
 | [a,b,c,d,e,f,g,i,j,k],_=>exact ⟨a,b,c,d,e,f,g,i,j,k,rfl⟩
theorem wf_u8 {n:Int} (h:(Lit.int .u8 n).wf=true):0≤n∧n≤255:=by
 simp [Lit.wf,IntKind.min,IntKind.max,IntKind.signed,IntKind.bits] at h;omega
theorem wf_u16 {n:Int} (h:(Lit.int .u16 n).wf=true):0≤n∧n≤65535:=by
 simp [Lit.wf,IntKind.min,IntKind.max,IntKind.signed,IntKind.bits] at h;omega
theorem k8:Tryz.prog.cellsOf 5=1:=by kernel_rfl
theorem k16:Tryz.prog.cellsOf 87=1:=by kernel_rfl
theorem ki:Tryz.prog.cellsOf 3=1:=by kernel_rfl
theorem kb:Tryz.prog.cellsOf 4=1:=by kernel_rfl
theorem ks:Tryz.prog.cellsOf 9=1:=by kernel_rfl
theorem ku8:Tryz.prog.cellsOf 54=1:=by kernel_rfl
theorem ku16:Tryz.prog.cellsOf 57=1:=by kernel_rfl
theorem kD:Tryz.prog.cellsOf 59=10:=by kernel_rfl
theorem kS:Tryz.prog.cellsOf 56=5:=by kernel_rfl
theorem kB:Tryz.prog.cellsOf 76=5:=by kernel_rfl
theorem k2B:Tryz.prog.cellsOf 77=10:=by kernel_rfl
theorem rok_u8s {W:World} {c:Value} (h:Rok Tryz.prog W 54 [c]):∃ xs,Ints .u8 0 W c xs∧∀ j,j<xs.length→Low8 (xs.getD j 0):=by
 obtain ⟨v,css,h1,h2,h3⟩:=h.slice Tryz.underlying54
 cases h1
 obtain ⟨xs,h4,h5⟩:=sl_ints Tryz.underlying5 k8 h2 h3
 exact ⟨xs,h4,fun j hj=>by rw [getD_get hj];exact wf_u8 (h5 _ (List.getElem_mem hj))⟩
theorem rok_u16s {W:World} {c:Value} (h:Rok Tryz.prog W 57 [c]):∃ xs,Ints .u16 0 W c xs∧∀ j,j<xs.length→0≤xs.getD j 0∧xs.getD j 0≤65535:=by
 obtain ⟨v,css,h1,h2,h3⟩:=h.slice Tryz.underlying57
 cases h1
 obtain ⟨xs,h4,h5⟩:=sl_ints Tryz.underlying87 k16 h2 h3
 exact ⟨xs,h4,fun j hj=>by rw [getD_get hj];exact wf_u16 (h5 _ (List.getElem_mem hj))⟩
theorem draft_of {W:World} {v:Value} (h:Arg Tryz.prog W 59 v):∃ d:Dr,v=d.val∧d.ok 0 W:=by
 obtain ⟨cs,rfl,hl,hr⟩:=h.struct Tryz.underlying59
 rw [kD] at hl
 obtain ⟨a,b,c,d,e,f,g,i,j,k,rfl⟩:=ten_of hl
 have F:=fun q ft off n hf hc=>hr.fld Tryz.underlying59 q ft off n hf hc
 have s0:=F 0 56 0 5 rfl kS
 have F2:=fun q ft off n hf hc=>s0.fld Tryz.underlying56 q ft off n hf hc
 obtain ⟨x0,e0,w0⟩:=Rok.int (F2 0 5 0 1 rfl k8) Tryz.underlying5
 obtain ⟨x1,e1,w1⟩:=Rok.int (F2 1 5 1 1 rfl k8) Tryz.underlying5
 obtain ⟨cs,c1,c2⟩:=rok_u8s (F2 2 54 2 1 rfl ku8)
 obtain ⟨ss,s1,s2⟩:=rok_u8s (F2 3 54 3 1 rfl ku8)
 obtain ⟨bo,e4⟩:=Rok.bool (F2 4 4 4 1 rfl kb) Tryz.underlying4
 obtain ⟨x5,e5,w5⟩:=Rok.int (F 1 5 5 1 rfl k8) Tryz.underlying5
 obtain ⟨x6,e6,w6⟩:=Rok.int (F 2 5 6 1 rfl k8) Tryz.underlying5
 obtain ⟨x7,e7,w7⟩:=Rok.int (F 3 5 7 1 rfl k8) Tryz.underlying5
 obtain ⟨ns,n1,n2⟩:=rok_u16s (F 4 57 8 1 rfl ku16)
 obtain ⟨x9,e9,w9⟩:=Rok.int (F 5 5 9 1 rfl k8) Tryz.underlying5
 simp at e0 e1 e4 e5 e6 e7 e9
 subst e0 e1 e4 e5 e6 e7 e9
 exact ⟨⟨x0,x1,c,cs,d,ss,bo,x5,x6,x7,j,ns,x9⟩,rfl,⟨c1,s1,n1,c2,s2,n2,wf_u8 w0,wf_u8 w1,wf_u8 w5,wf_u8 w6,wf_u8 w7,wf_u8 w9⟩⟩
theorem str_of_val (s:ByteArray) (h:s.size≤maxLen):∃ t:Str,Value.string s=str t∧t.length≤9223372036854775807:=⟨s.data.toList,rfl,by unfold maxLen at h;simp only [Array.length_toList];exact h⟩
theorem bend_rok {W:World} {a b c d e:Value} (h:Rok Tryz.prog W 76 [a,b,c,d,e]):∃ x:Bd,[a,b,c,d,e]=x.cells∧x.ok:=by
 have F:=fun q ft off n hf hc=>h.fld Tryz.underlying76 q ft off n hf hc
 obtain ⟨x0,e0,w0⟩:=Rok.int (F 0 5 0 1 rfl k8) Tryz.underlying5
 obtain ⟨x1,e1,w1⟩:=Rok.int (F 1 5 1 1 rfl k8) Tryz.underlying5
 obtain ⟨x2,e2,w2⟩:=Rok.int (F 2 5 2 1 rfl k8) Tryz.underlying5
 obtain ⟨x3,e3,_⟩:=Rok.int (F 3 3 3 1 rfl ki) Tryz.underlying3
 obtain ⟨s,e4,hs⟩:=Rok.string (F 4 9 4 1 rfl ks) Tryz.underlying9
 simp at e0 e1 e2 e3 e4
 subst e0 e1 e2 e3 e4
 obtain ⟨t,ht,hl⟩:=str_of_val s hs
 exact ⟨⟨x0,x1,x2,x3,t⟩,by rw [ht];rfl,⟨wf_u8 w0,wf_u8 w1,wf_u8 w2,hl⟩⟩
theorem bends_of {W:World} {v:Value} (h:Arg Tryz.prog W 77 v):∃ b c:Bd,v=bends b c∧b.ok∧c.ok:=by
 obtain ⟨cs,rfl,hl,hr⟩:=h.array Tryz.underlying77
 rw [k2B] at hl
 obtain ⟨a,b,c,d,e,f,g,i,j,k,rfl⟩:=ten_of hl
 obtain ⟨_,ha⟩:=hr.array Tryz.underlying77
 have h0:=ha 0 (by decide)
 have h1:=ha 1 (by decide)
 rw [kB] at h0 h1
 obtain ⟨x,e1,o1⟩:=bend_rok h0
 obtain ⟨y,e2,o2⟩:=bend_rok h1
 exact ⟨x,y,by rw [bends,← e1,← e2];rfl,o1,o2⟩
theorem six_of {α:Type} {l:List α} (h:l.length=6):∃ a b c d e f,l = [a,b,c,d,e,f]:=by
 match l,h with
 | [a,b,c,d,e,f],_=>exact ⟨a,b,c,d,e,f,rfl⟩
theorem kis:Tryz.prog.cellsOf 30=1:=by kernel_rfl
theorem kU:Tryz.prog.cellsOf 51=6:=by kernel_rfl
theorem kR:Tryz.prog.cellsOf 25=4:=by kernel_rfl
theorem kus:Tryz.prog.cellsOf 23=1:=by kernel_rfl
theorem rok_ints {W:World} {c:Value} (h:Rok Tryz.prog W 30 [c]):∃ xs,Ints .i64 0 W c xs:=by
 obtain ⟨v,css,h1,h2,h3⟩:=h.slice Tryz.underlying30
 cases h1
 obtain ⟨xs,h4,_⟩:=sl_ints Tryz.underlying3 ki h2 h3
 exact ⟨xs,h4⟩
theorem unitArg_of {W:World} {x:List Value} (hl:x.length=6) (h:Rok Tryz.prog W 51 x):∃ u:UnV,x=u.cells∧u.ok 0 W:=by
 obtain ⟨a,b,c,d,e,f,rfl⟩:=six_of hl
 have F:=fun q ft off n hf hc=>h.fld Tryz.underlying51 q ft off n hf hc
 obtain ⟨s,e0,hs⟩:=Rok.string (F 0 9 0 1 rfl ks) Tryz.underlying9
 obtain ⟨p,e1,_⟩:=Rok.int (F 1 3 1 1 rfl ki) Tryz.underlying3
 obtain ⟨gs,hg⟩:=rok_ints (F 2 30 2 1 rfl kis)
 obtain ⟨vs,hv⟩:=rok_ints (F 3 30 3 1 rfl kis)
 obtain ⟨ps,hp⟩:=rok_ints (F 4 30 4 1 rfl kis)
 obtain ⟨w,e5⟩:=Rok.bool (F 5 4 5 1 rfl kb) Tryz.underlying4
 simp at e0 e1 e5
 subst e0 e1 e5
 obtain ⟨t,ht,htl⟩:=str_of_val s hs
 exact ⟨⟨t,p,c,gs,d,vs,e,ps,w⟩,by rw [ht];rfl,⟨hg,hv,hp,htl⟩⟩
theorem unitsArg_of {W:World} : ∀ (css:List (List Value)),(∀ x∈css,x.length=6∧Rok Tryz.prog W 51 x)→∃ us:List UnV,css=us.map UnV.cells∧∀ u∈us,u.ok 0 W
 | [],_=>⟨[],rfl,fun _ h=>by cases h⟩
 | x::r,h=>by
  obtain ⟨us,h1,h2⟩:=unitsArg_of r (fun y hy=>h y (List.mem_cons_of_mem _ hy))
  obtain ⟨u,h3,h4⟩:=unitArg_of (h x (List.mem_cons_self ..)).1 (h x (List.mem_cons_self ..)).2
  exact ⟨u::us,by rw [h1,h3];rfl,fun y hy=>by rcases List.mem_cons.1 hy with rfl|hy;exact h4;exact h2 y hy⟩
theorem rollArg_of {W:World} {v:Value} (h:Arg Tryz.prog W 25 v):∃ r:RoV,v=r.val∧r.ok 0 W:=by
 obtain ⟨cs,rfl,hl,hr⟩:=h.struct Tryz.underlying25
 rw [kR] at hl
 obtain ⟨a,b,c,d,rfl⟩:=four_of hl
 have F:=fun q ft off n hf hc=>hr.fld Tryz.underlying25 q ft off n hf hc
 obtain ⟨x0,e0,_⟩:=Rok.int (F 0 3 0 1 rfl ki) Tryz.underlying3
 obtain ⟨x1,e1,_⟩:=Rok.int (F 1 3 1 1 rfl ki) Tryz.underlying3
 obtain ⟨x2,e2,_⟩:=Rok.int (F 2 3 2 1 rfl ki) Tryz.underlying3
 obtain ⟨v,css,e3,h4,h5⟩:=(F 3 23 3 1 rfl kus).slice Tryz.underlying23
 simp at e0 e1 e2 e3
 subst e0 e1 e2 e3
 rw [kU] at h4
 obtain ⟨us,h6,h7⟩:=unitsArg_of css (fun x hx=>by have:=h5 x hx;rw [kU] at this;exact this)
 subst h6
 rw [List.length_map] at h4
 exact ⟨⟨x0,x1,x2,d,us⟩,rfl,⟨h4,h7⟩⟩
end Go.Proofs.YtnlonpcbgjbbaaaGreatDoor
