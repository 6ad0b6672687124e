/-
  BlocksParses, part 11 of its proof: that it returns true for every input, and each argument reads behind the call as it read before. Conditions: the listed variables read as the program's text lays them (tied by the card).
-/
import Derived.Test.YtnlonpcbgjbbaaaGreatDoorWBlocksParses10
set_option linter.unusedVariables false
set_option linter.unusedSimpArgs false
set_option maxRecDepth 20000
namespace Go.Proofs.YtnlonpcbgjbbaaaGreatDoor
open Go Go.E
attribute [local irreducible] Go.E.T Go.E.L Go.E.O Go.E.Ob
namespace Geo
def Kq (a b c d:Pt):Int:=if a.1=b.1 then mx (mn a.2 b.2) (mn c.2 d.2)-mn (mx a.2 b.2) (mx c.2 d.2) else mx (mn a.1 b.1) (mn c.1 d.1)-mn (mx a.1 b.1) (mx c.1 d.1)
def xA (a b c d:Pt):Int :=
 if sgn (dA a b c)=0∧sgn (dA a b d)=0 then (if 0<Kq a b c d then 0 else if Kq a b c d=0 then 1 else 3)
 else if sgn (dA a b c)*sgn (dA a b d)<0∧sgn (dA c d a)*sgn (dA c d b)<0 then 2
 else if onE a b c∨onE a b d∨onE c d a∨onE c d b then 1 else 0
def UZ (a b p:Pt):Bool:=(decide (p.2<a.2) != decide (p.2<b.2)) && (decide (0<dA a b p) == decide (a.2<b.2))
def wR (r:List Pt) (p:Pt):Nat→Bool
 | 0=>false
 | i+1=>wR r p i ^^ UZ (rA r i) (rB r i) p
def lN (r:List Pt) (p:Pt):Int:=if ∃ i,i<r.length∧onE (rA r i) (rB r i) p then 1 else if wR r p r.length=true then 2 else 0
section
end
def ix (n i k:Nat):Nat:=(n+1)*k+i
inductive Fk|q|u|s|t
deriving DecidableEq
structure Fc where
 kd:Fk
 i:Nat
 k:Nat
def Fc.vs (f:Fc):List (Nat × Nat):=match f.kd with
 | .q=>[(f.i,f.k),(f.i+1,f.k),(f.i+1,f.k+1),(f.i,f.k+1)]
 | .u=>[(f.i+1,f.k+1),(f.i,f.k+1),(f.i,f.k),(f.i+1,f.k)]
 | .s=>[(f.i,f.k),(f.i+1,f.k),(f.i+1,f.k+1)]
 | .t=>[(f.i,f.k),(f.i+1,f.k+1),(f.i,f.k+1)]
def Fc.ring (n:Nat) (f:Fc):List Int:=f.vs.map fun v=>((ix n v.1 v.2:Nat):Int)
section
end
section
end
structure Match (fs:List FaV) (gs:List Fc) (n:Nat):Prop where
 len:fs.length=gs.length
 at':∀ j,j<gs.length→(fs.getD j f0).o.xs=(gs.getD j ⟨.q,0,0⟩).ring n∧(fs.getD j f0).hs = []
section
end
structure RR (r:List Pt):Prop where
 l3:3≤r.length
 l40:r.length≤40
 far:∀ i,i<r.length→rE (rA r i)=false
 still:∀ i,i<r.length→rA r i≠rB r i
 L8:∀ i,i<r.length→¬ uF r i
 how:∀ i j,i<r.length→j+1<i→¬ (j=0∧i+1=r.length)→xA (rA r j) (rA r (j+1)) (rA r i) (rB r i)=0
def lX (ps:List Pt) (s t:St):Bool :=
 if s.a=t.a∧s.b=t.b∨s.a=t.b∧s.b=t.a then false
 else if xA (gP ps s.a) (gP ps s.b) (gP ps t.a) (gP ps t.b)=1 then decide (s.a≠t.a∧s.a≠t.b∧s.b≠t.a∧s.b≠t.b)
 else decide (xA (gP ps s.a) (gP ps s.b) (gP ps t.a) (gP ps t.b)≠0)
def yj (ps:List Pt) (t:Int) (p:Pt) (r:Nat) (l:List Int):Bool:=decide (r=0∧lN (cor ps t l) p≠2∨0<r∧lN (cor ps t l) p≠0)
structure RG (c:CxV):Prop where
 p3:3≤c.ps.length
 ad7:c.ps.length≤120
 f1:1≤c.fs.length
 f64:c.fs.length≤64
 far:∀ i,i<c.ps.length→rE (gP c.ps i)=false
 twin:∀ i k,i<c.ps.length→k<i→gP c.ps i≠gP c.ps k
 holes:∀ j,j<c.fs.length→(c.fs.getD j f0).hs.length≤8
 idx:∀ j r,j<c.fs.length→r<(c.fs.getD j f0).ri.length→(3≤((c.fs.getD j f0).ri.getD r r0).xs.length∧((c.fs.getD j f0).ri.getD r r0).xs.length≤40)∧∀ x∈((c.fs.getD j f0).ri.getD r r0).xs,0≤x∧x<(c.ps.length:Int)
 ring:∀ j r,j<c.fs.length→r<(c.fs.getD j f0).ri.length→RR (cor c.ps 1 ((c.fs.getD j f0).ri.getD r r0).xs)
 turn:∀ j r,j<c.fs.length→r<(c.fs.getD j f0).ri.length→¬ (r=0∧jd (cor c.ps 1 ((c.fs.getD j f0).ri.getD r r0).xs) (cor c.ps 1 ((c.fs.getD j f0).ri.getD r r0).xs).length<0∨0<r∧0<jd (cor c.ps 1 ((c.fs.getD j f0).ri.getD r r0).xs) (cor c.ps 1 ((c.fs.getD j f0).ri.getD r r0).xs).length)
 twice:∀ i k,i<(stL c.fs).length→k<i→¬ (((stL c.fs).getD i st0).a=((stL c.fs).getD k st0).a∧((stL c.fs).getD i st0).b=((stL c.fs).getD k st0).b)
 clash:∀ i k,i<(stL c.fs).length→k<i→lX c.ps ((stL c.fs).getD i st0) ((stL c.fs).getD k st0)=false
 hole:∀ s∈stL c.fs,s.r≠0→∀ r,r<(c.fs.getD s.f f0).ri.length→r≠s.r→yj c.ps 2 (qx c.ps s) r ((c.fs.getD s.f f0).ri.getD r r0).xs=false
 over:∀ s∈stL c.fs,∀ j,j<c.fs.length→j≠s.f→∃ r,r<(c.fs.getD j f0).ri.length∧yj c.ps 2 (qx c.ps s) r ((c.fs.getD j f0).ri.getD r r0).xs=true
section
end
section
end
section
end
section
variable {x0 x1 x2 x3 y0 y1 y2 y3:Int} (hx:x0<x1∧x1<x2∧x2<x3) (hy:y0<y1∧y1<y2∧y2<y3)
include hx hy
end
def acu:List Int:=[0,1,2,3,7,11,15,14,13,12,8,4]
def aa5:List Int:=[5,9,10,6]
def ahm:List Int:=[5,6,10,9]
def QX (fs:List FaV):Prop:=∃ va vh hv,fs = [⟨⟨va,acu⟩,hv,[⟨vh,aa5⟩]⟩]∨∃ vb hw,fs = [⟨⟨va,acu⟩,hv,[⟨vh,aa5⟩]⟩,⟨⟨vb,ahm⟩,hw,[]⟩]
section
end
def xAt (ss:List Int):Nat→Int
 | 0=>0
 | i+1=>xAt ss i+1+Fq ss i % 5
def yAt (ss:List Int):Nat→Int
 | 0=>0
 | k+1=>yAt ss k+1+Fq ss (7+k) % 5
def rowP (ss:List Int) (k:Nat):Nat→List Pt
 | 0=>[]
 | i+1=>rowP ss k i ++ [(xAt ss i,yAt ss k)]
def BM (ss:List Int) (W:Nat):Nat→List Pt
 | 0=>[]
 | k+1=>BM ss W k++rowP ss k (W+1)
def tH (cs:List Int) (W k i:Nat) (gs:List Fc):List Fc :=
 if Fq cs (k*W+i) % 8=0 then gs ++ [⟨.s,i,k⟩,⟨.t,i,k⟩] else if Fq cs (k*W+i) % 8=1 then (if gs = [] then [⟨.u,i,k⟩] else gs) else gs ++ [⟨.q,i,k⟩]
def Kr (cs:List Int) (W k:Nat) (gs:List Fc):Nat→List Fc
 | 0=>gs
 | i+1=>tH cs W k i (Kr cs W k gs i)
def Kt (cs:List Int) (W:Nat):Nat→List Fc
 | 0=>[]
 | k+1=>Kr cs W k (Kt cs W k) W
theorem V6 (ss:List Int):∀ i,0≤xAt ss i∧xAt ss i≤5*i
 | 0=>⟨Int.le_refl _,by simp [xAt]⟩
 | i+1=>by
  have:=V6 ss i
  have:=Int.emod_nonneg (Fq ss i) (show (5:Int)≠0 by decide)
  have:=Int.emod_lt_of_pos (Fq ss i) (show (0:Int)<5 by decide)
  rw [xAt];omega
theorem V7 (ss:List Int):∀ i,0≤yAt ss i∧yAt ss i≤5*i
 | 0=>⟨Int.le_refl _,by simp [yAt]⟩
 | i+1=>by
  have:=V7 ss i
  have:=Int.emod_nonneg (Fq ss (7+i)) (show (5:Int)≠0 by decide)
  have:=Int.emod_lt_of_pos (Fq ss (7+i)) (show (0:Int)<5 by decide)
  rw [yAt];omega
theorem I4 (ss:List Int) (k:Nat):∀ i,(rowP ss k i).length=i
 | 0=>rfl
 | i+1=>by rw [rowP,List.length_append,I4 ss k i];rfl
theorem QY (ss:List Int) (W:Nat):∀ k,(BM ss W k).length=(W+1)*k
 | 0=>rfl
 | k+1=>by rw [BM,List.length_append,QY ss W k,I4,Nat.mul_succ]
theorem V8 (cs:List Int) (W k i:Nat) (gs:List Fc):1≤(tH cs W k i gs).length∧(tH cs W k i gs).length≤gs.length+2∧gs.length≤(tH cs W k i gs).length:=by
 unfold tH
 split
 ·simp
 split
 ·split
  ·rename_i h;subst h;simp
  rename_i h
  have:0<gs.length:=List.length_pos_iff.2 h
  omega
 simp
theorem I5 (cs:List Int) (W k:Nat) (gs:List Fc):∀ i,(0<i→1≤(Kr cs W k gs i).length)∧(Kr cs W k gs i).length≤gs.length+2*i∧gs.length≤(Kr cs W k gs i).length
 | 0=>⟨fun h=>absurd h dcX,by simp [Kr],by simp [Kr]⟩
 | i+1=>by
  have a:=I5 cs W k gs i
  have b:=V8 cs W k i (Kr cs W k gs i)
  rw [Kr];omega
theorem BN (cs:List Int) (W:Nat) (hW:0<W):∀ k,(0<k→1≤(Kt cs W k).length)∧(Kt cs W k).length≤2*W*k
 | 0=>⟨fun h=>absurd h dcX,by simp [Kt]⟩
 | k+1=>by
  have b:=BN cs W hW k
  have a:=I5 cs W k (Kt cs W k) W
  rw [Kt,Nat.mul_succ]
  exact ⟨fun _=>a.1 hW,omX⟩
def DC (c:CxV) (W H:Nat) (ho:Bool) (ss cs:List Int):Prop:=c.ps=BM ss W (H+1)∧(ho=true∧W=3∧H=3∧QX c.fs∨ho=false∧Match c.fs (Kt cs W H) W)
end Geo
end Go.Proofs.YtnlonpcbgjbbaaaGreatDoor
