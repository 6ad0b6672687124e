/-
  BlocksBack, part 11 of its proof: that it returns true for every input, and each argument reads behind the call as it read before. Conditions: the listed variables read as the program's text lays them (tied by the card).
-/
import Derived.Test.YtnlonpcbgjbbaaaGreatDoorWBlocksBack10
set_option linter.unusedVariables false
set_option linter.unusedSimpArgs false
set_option maxRecDepth 20000
set_option linter.unusedVariables false
set_option linter.unusedSimpArgs false
set_option maxRecDepth 20000
namespace Go.Proofs.YtnlonpcbgjbbaaaGreatDoor
open Go Go.E
attribute [local irreducible] Go.E.T Go.E.L Go.E.O Go.E.Ob
namespace Geo
def Jv (a b c d:Pt):Int:=if a.1=b.1 then mx (mn a.2 b.2) (mn c.2 d.2)-mn (mx a.2 b.2) (mx c.2 d.2) else mx (mn a.1 b.1) (mn c.1 d.1)-mn (mx a.1 b.1) (mx c.1 d.1)
def YN (a b c d:Pt):Int :=
 if sgn (aB a b c)=0∧sgn (aB a b d)=0 then (if 0<Jv a b c d then 0 else if Jv a b c d=0 then 1 else 3)
 else if sgn (aB a b c)*sgn (aB a b d)<0∧sgn (aB c d a)*sgn (aB c d b)<0 then 2
 else if onE a b c∨onE a b d∨onE c d a∨onE c d b then 1 else 0
def adI (a b p:Pt):Bool:=(decide (p.2<a.2) != decide (p.2<b.2)) && (decide (0<aB a b p) == decide (a.2<b.2))
def Vr (r:List Pt) (p:Pt):Nat→Bool
 | 0=>false
 | i+1=>Vr r p i ^^ adI (rA r i) (rB r i) p
def mY (r:List Pt) (p:Pt):Int:=if ∃ i,i<r.length∧onE (rA r i) (rB r i) p then 1 else if Vr r p r.length=true then 2 else 0
theorem eF {a b:Int} (ha:0<a) (h:0≤a*b):0≤b:=Int.nonneg_of_mul_nonneg_right h ha
theorem Lj {a b:Pt} (h:Xx a b≤0):a.1<b.1∨a.1=b.1∧a.2≤b.2:=by
 unfold Xx Fz at h
 repeat' split at h
 all_goals first|omega|(simp_all;done)|skip
theorem qQ (a b p:Pt):aB b a p = - aB a b p:=by unfold aB;grind
theorem QY {u v p:Pt} (h0:aB u v p=0) (h1:u.1<p.1∨u.1=p.1∧u.2≤p.2) (h2:p.1<v.1∨p.1=v.1∧p.2≤v.2):(u.1≤p.1∧p.1≤v.1)∧(u.2≤p.2∧p.2≤v.2∨v.2≤p.2∧p.2≤u.2):=by
 refine ⟨by omega,?_⟩
 unfold aB at h0
 by_cases he:u.1=v.1
 ·left;omega
 have hlt:u.1<v.1:=by omega
 have e1:(v.1-u.1)*(p.2-u.2)=(v.2-u.2)*(p.1-u.1):=by omega
 have e2:(v.1-u.1)*(v.2-p.2)=(v.2-u.2)*(v.1-p.1):=by grind
 have e3:(v.1-u.1)*(u.2-p.2)=(u.2-v.2)*(p.1-u.1):=by grind
 have e4:(v.1-u.1)*(p.2-v.2)=(u.2-v.2)*(v.1-p.1):=by grind
 rcases Int.le_total u.2 v.2 with h|h
 ·left
  have q1:=eF (a:=v.1-u.1) (b:=p.2-u.2) (by omega) (by rw [e1];exact Int.mul_nonneg (by omega) (by omega))
  have q2:=eF (a:=v.1-u.1) (b:=v.2-p.2) (by omega) (by rw [e2];exact Int.mul_nonneg (by omega) (by omega))
  omega
 right
 have q1:=eF (a:=v.1-u.1) (b:=u.2-p.2) (by omega) (by rw [e3];exact Int.mul_nonneg (by omega) (by omega))
 have q2:=eF (a:=v.1-u.1) (b:=p.2-v.2) (by omega) (by rw [e4];exact Int.mul_nonneg (by omega) (by omega))
 omega
theorem qR {a b p:Pt} (h:hasB a b p=true):aB a b p=0∧(a.1≤p.1∧p.1≤b.1∨b.1≤p.1∧p.1≤a.1)∧(a.2≤p.2∧p.2≤b.2∨b.2≤p.2∧p.2≤a.2):=by
 unfold hasB at h
 split at h
 ·cases h
 rename_i h0
 have h0:aB a b p=0:=Classical.not_not.1 h0
 refine ⟨h0,?_⟩
 split at h
 ·rw [Bool.and_eq_true] at h
  have:=QY (u:=b) (v:=a) (by rw [qQ,h0];rfl) (Lj (of_decide_eq_true h.1)) (Lj (of_decide_eq_true h.2))
  omega
 rw [Bool.and_eq_true] at h
 have:=QY h0 (Lj (of_decide_eq_true h.1)) (Lj (of_decide_eq_true h.2))
 omega
theorem QZ {x y:Int} (h:sgn x*sgn y<0):x<0∧0<y∨0<x∧y<0:=by
 unfold sgn at h
 repeat' split at h
 all_goals omega
theorem weights {S T p q A B C D:Int} (hS:0<S) (hT:T<0) (hp:p<0) (hq:0<q) (hA:0≤A) (hB:0≤B) (hC:0≤C) (hD:0≤D) (h:(-T)*A+S*B+q*C+(-p)*D=0):A=0∧B=0∧C=0∧D=0:=by
 have h1:0≤(-T)*A:=Int.mul_nonneg (by omega) hA
 have h2:0≤S*B:=Int.mul_nonneg (by omega) hB
 have h3:0≤q*C:=Int.mul_nonneg (by omega) hC
 have h4:0≤(-p)*D:=Int.mul_nonneg (by omega) hD
 have z:∀ {x y:Int},0<x→x*y=0→y=0:=fun hx hy=>by
  rcases Int.mul_eq_zero.1 hy with h|h
  ·omega
  exact h
 exact ⟨z (x:=-T) (by omega) (by omega),z hS (by omega),z hq (by omega),z (x:=-p) (by omega) (by omega)⟩
theorem Vs (a b c d:Pt):aB c d b-aB c d a+aB a b d-aB a b c=0:=by unfold aB;grind
theorem abz (a b c d:Pt) (m:Int):(-aB c d b)*(m-a.1)+aB c d a*(m-b.1)+aB a b d*(c.1-m)+(-aB a b c)*(d.1-m)=0:=by unfold aB;grind
theorem abA (a b c d:Pt) (m:Int):(-aB c d b)*(m-a.2)+aB c d a*(m-b.2)+aB a b d*(c.2-m)+(-aB a b c)*(d.2-m)=0:=by unfold aB;grind
def Gj (a b c d:Pt):Prop:=sgn (aB a b c)*sgn (aB a b d)<0∧sgn (aB c d a)*sgn (aB c d b)<0
theorem Ll {a b c d:Pt} {A B C D:Int} (hA:0≤A) (hB:0≤B) (hC:0≤C) (hD:0≤D) (h:(-aB c d b)*A+aB c d a*B+aB a b d*C+(-aB a b c)*D=0) (hz:A=0→B=0→C=0→D=0→aB a b c=0):¬ Gj a b c d:=by
 rintro ⟨h1,h2⟩
 have hs:=Vs a b c d
 rcases QZ h1 with h3|h3 <;> rcases QZ h2 with h4|h4
 ·omega
 ·obtain ⟨a1,a2,a3,a4⟩:=weights h4.1 h4.2 h3.1 h3.2 hA hB hC hD h
  have:=hz a1 a2 a3 a4
  omega
 ·obtain ⟨a1,a2,a3,a4⟩:=weights (S:=-aB c d a) (T:=-aB c d b) (p:=-aB a b c) (q:=-aB a b d) (by omega) (by omega) (by omega) (by omega) hA hB hC hD (by rw [← Int.neg_eq_zero] at h;rw [← h];grind)
  have:=hz a1 a2 a3 a4
  omega
 omega
theorem oz {a b c d:Pt} {m:Int} (ha:a.1≤m) (hb:b.1≤m) (hc:m≤c.1) (hd:m≤d.1):¬ Gj a b c d :=
 Ll (A:=m-a.1) (B:=m-b.1) (C:=c.1-m) (D:=d.1-m) (by omega) (by omega) (by omega) (by omega) (abz a b c d m) fun h1 h2 h3 h4=>by
  unfold aB
  rw [show b.1-a.1=0 by omega,show c.1-a.1=0 by omega];simp
theorem oC {a b c d:Pt} {m:Int} (ha:a.2≤m) (hb:b.2≤m) (hc:m≤c.2) (hd:m≤d.2):¬ Gj a b c d :=
 Ll (A:=m-a.2) (B:=m-b.2) (C:=c.2-m) (D:=d.2-m) (by omega) (by omega) (by omega) (by omega) (abA a b c d m) fun h1 h2 h3 h4=>by
  unfold aB
  rw [show c.2-a.2=0 by omega,show b.2-a.2=0 by omega];simp
theorem oD {a b c d:Pt} (h:Gj a b c d):Gj c d a b:=⟨h.2,h.1⟩
theorem Q5 {a b c d e:Pt} : ∀ (l:List Pt) (kvs:List (Pt × Bool)),(∀ x∈l,comB a b c d x=true→x=e)→(kvs = []∨kvs = [(e,true)])→Jg a b c d l kvs = []∨Jg a b c d l kvs = [(e,true)]
 | [],kvs,_,hk=>hk
 | x::r,kvs,hl,hk=>by
  rw [Jg]
  refine Q5 r _ (fun y hy=>hl y (List.mem_cons_of_mem _ hy)) ?_
  split
  ·rename_i hc
   have hx:=hl x (List.mem_cons_self ..) hc
   subst hx
   right
   rcases hk with rfl|rfl <;> simp [vT,dQ]
  exact hk
theorem Lm {a b c d:Pt} : ∀ (l:List Pt),(∀ x∈l,comB a b c d x=false)→Jg a b c d l [] = []
 | [],_=>rfl
 | x::r,hl=>by
  rw [Jg,hl x (List.mem_cons_self ..)]
  exact Lm r (fun y hy=>hl y (List.mem_cons_of_mem _ hy))
theorem Vt {a b c d e:Pt} (hx:¬ Gj a b c d) (hl:∀ x ∈ [a,b,c,d],comB a b c d x=true→x=e):iY a b c d=0∨iY a b c d=1:=by
 unfold iY
 have hx':¬ (sgn (aB a b c)*sgn (aB a b d)<0∧sgn (aB c d a)*sgn (aB c d b)<0):=hx
 rcases Q5 [a,b,c,d] [] hl (.inl rfl) with h|h
 ·rw [h,if_neg (by simp),if_neg (by simp),if_neg hx'];exact .inl rfl
 rw [h,if_neg (by simp),if_pos (by simp)];exact .inr rfl
theorem yg {a b c d:Pt} (hx:¬ Gj a b c d) (hl:∀ x ∈ [a,b,c,d],comB a b c d x=false):iY a b c d=0:=by
 unfold iY
 have hx':¬ (sgn (aB a b c)*sgn (aB a b d)<0∧sgn (aB c d a)*sgn (aB c d b)<0):=hx
 rw [Lm _ hl,if_neg (by simp),if_neg (by simp),if_neg hx']
structure Inc (X:Nat→Int) (n:Nat):Prop where
 lt:∀ i j,i<j→j≤n→X i<X j
theorem Inc.le {X:Nat→Int} {n:Nat} (h:Inc X n) {i j:Nat} (hij:i≤j) (hj:j≤n):X i≤X j:=by
 rcases Nat.lt_or_eq_of_le hij with h1|rfl
 ·exact Int.le_of_lt (h.lt i j h1 hj)
 exact Int.le_refl _
theorem Inc.of_le {X:Nat→Int} {n:Nat} (h:Inc X n) {i j:Nat} (hi:i≤n) (hij:X i≤X j):i≤j:=by
 rcases Nat.lt_or_ge j i with h1|h1
 ·have:=h.lt j i h1 hi;omega
 exact h1
structure Ge where
 i:Nat
 k:Nat
 di:Nat
 dk:Nat
deriving DecidableEq
structure Ge.ok (e:Ge) (n m:Nat):Prop where
 i:e.i+e.di≤n
 k:e.k+e.dk≤m
 d:e.di≤1∧e.dk≤1∧1≤e.di+e.dk
def gv (X Y:Nat→Int) (i k:Nat):Pt:=(X i,Y k)
def Ge.lo (X Y:Nat→Int) (e:Ge):Pt:=gv X Y e.i e.k
def Ge.hi (X Y:Nat→Int) (e:Ge):Pt:=gv X Y (e.i+e.di) (e.k+e.dk)
section
variable {X Y:Nat→Int} {n m:Nat} (hX:Inc X n) (hY:Inc Y m)
include hX hY
theorem Gl {e:Ge} (he:e.ok n m) {j l:Nat} (hj:j≤n) (hl:l≤m) {a b:Pt} (hab:a=e.lo X Y∧b=e.hi X Y∨a=e.hi X Y∧b=e.lo X Y) (h:aB a b (gv X Y j l)=0∧(a.1≤(gv X Y j l).1∧(gv X Y j l).1≤b.1∨b.1≤(gv X Y j l).1∧(gv X Y j l).1≤a.1)∧(a.2≤(gv X Y j l).2∧(gv X Y j l).2≤b.2∨b.2≤(gv X Y j l).2∧(gv X Y j l).2≤a.2)):j=e.i∧l=e.k∨j=e.i+e.di∧l=e.k+e.dk:=by
 obtain ⟨h0,h1,h2⟩:=h
 obtain ⟨e1,e2,e3,e4,e5⟩:=he
 have hx:X e.i≤X j∧X j≤X (e.i+e.di):=by
  have:=hX.le (show e.i≤e.i+e.di by omega) e1
  rcases hab with ⟨rfl,rfl⟩|⟨rfl,rfl⟩ <;> simp only [Ge.lo,Ge.hi,gv] at h1 <;> omega
 have hy:Y e.k≤Y l∧Y l≤Y (e.k+e.dk):=by
  have:=hY.le (show e.k≤e.k+e.dk by omega) e2
  rcases hab with ⟨rfl,rfl⟩|⟨rfl,rfl⟩ <;> simp only [Ge.lo,Ge.hi,gv] at h2 <;> omega
 have j1:=hX.of_le (show e.i≤n by omega) hx.1
 have j2:=hX.of_le hj hx.2
 have l1:=hY.of_le (show e.k≤m by omega) hy.1
 have l2:=hY.of_le hl hy.2
 have ht:aB (e.lo X Y) (e.hi X Y) (gv X Y j l)=0:=by
  rcases hab with ⟨rfl,rfl⟩|⟨rfl,rfl⟩
  ·exact h0
  rw [qQ] at h0;omega
 rcases (show e.di=0∨e.dk=0∨(e.di=1∧e.dk=1) by omega) with hd|hd|⟨hd1,hd2⟩
 ·omega
 ·omega
 have x1:=hX.lt e.i (e.i+1) (by omega) (by omega)
 have y1:=hY.lt e.k (e.k+1) (by omega) (by omega)
 simp only [aB,Ge.lo,Ge.hi,gv,hd1,hd2] at ht
 rcases (show j=e.i∨j=e.i+1 by omega) with rfl|rfl <;> rcases (show l=e.k∨l=e.k+1 by omega) with rfl|rfl
 ·exact .inl ⟨rfl,rfl⟩
 ·exfalso
  have:0<(X (e.i+1)-X e.i)*(Y (e.k+1)-Y e.k):=Int.mul_pos (by omega) (by omega)
  rw [Int.sub_self,Int.mul_zero,Int.sub_zero] at ht
  omega
 ·exfalso
  have:0<(Y (e.k+1)-Y e.k)*(X (e.i+1)-X e.i):=Int.mul_pos (by omega) (by omega)
  rw [Int.sub_self,Int.mul_zero,Int.zero_sub] at ht
  omega
 exact .inr ⟨by omega,by omega⟩
theorem Q7 {e:Ge} (he:e.ok n m) {j l:Nat} (hj:j≤n) (hl:l≤m) {a b:Pt} (hab:a=e.lo X Y∧b=e.hi X Y∨a=e.hi X Y∧b=e.lo X Y) (h:hasB a b (gv X Y j l)=true):j=e.i∧l=e.k∨j=e.i+e.di∧l=e.k+e.dk:=Gl hX hY he hj hl hab (qR h)
theorem Lp {e f:Ge} (he:e.ok n m) (hf:f.ok n m) (hne:e≠f) {a b c d:Pt} (hab:a=e.lo X Y∧b=e.hi X Y∨a=e.hi X Y∧b=e.lo X Y) (hcd:c=f.lo X Y∧d=f.hi X Y∨c=f.hi X Y∧d=f.lo X Y):¬ Gj a b c d:=by
 obtain ⟨e1,e2,e3,e4,e5⟩:=he
 obtain ⟨f1,f2,f3,f4,f5⟩:=hf
 have sep:e.i+e.di≤f.i∨f.i+f.di≤e.i∨e.k+e.dk≤f.k∨f.k+f.dk≤e.k:=by
  rcases Classical.em (e.i+e.di≤f.i∨f.i+f.di≤e.i∨e.k+e.dk≤f.k∨f.k+f.dk≤e.k) with h|h
  ·exact h
  exfalso;apply hne
  obtain ⟨i,k,di,dk⟩:=e
  obtain ⟨i',k',di',dk'⟩:=f
  simp only at *
  have:i=i'∧k=k'∧di=di'∧dk=dk':=by omega
  obtain ⟨rfl,rfl,rfl,rfl⟩:=this;rfl
 have ex:=hX.le (show e.i≤e.i+e.di by omega) e1
 have ey:=hY.le (show e.k≤e.k+e.dk by omega) e2
 have fx:=hX.le (show f.i≤f.i+f.di by omega) f1
 have fy:=hY.le (show f.k≤f.k+f.dk by omega) f2
 rcases sep with h|h|h|h
 ·have:=hX.le h (by omega)
  refine oz (m:=X f.i) ?_ ?_ ?_ ?_ <;> rcases hab with ⟨rfl,rfl⟩|⟨rfl,rfl⟩ <;> rcases hcd with ⟨rfl,rfl⟩|⟨rfl,rfl⟩ <;> simp only [Ge.lo,Ge.hi,gv] <;> omega
 ·have:=hX.le h (by omega)
  intro hc
  refine oz (m:=X e.i) ?_ ?_ ?_ ?_ (oD hc) <;> rcases hab with ⟨rfl,rfl⟩|⟨rfl,rfl⟩ <;> rcases hcd with ⟨rfl,rfl⟩|⟨rfl,rfl⟩ <;> simp only [Ge.lo,Ge.hi,gv] <;> omega
 ·have:=hY.le h (by omega)
  refine oC (m:=Y f.k) ?_ ?_ ?_ ?_ <;> rcases hab with ⟨rfl,rfl⟩|⟨rfl,rfl⟩ <;> rcases hcd with ⟨rfl,rfl⟩|⟨rfl,rfl⟩ <;> simp only [Ge.lo,Ge.hi,gv] <;> omega
 have:=hY.le h (by omega)
 intro hc
 refine oC (m:=Y e.k) ?_ ?_ ?_ ?_ (oD hc) <;> rcases hab with ⟨rfl,rfl⟩|⟨rfl,rfl⟩ <;> rcases hcd with ⟨rfl,rfl⟩|⟨rfl,rfl⟩ <;> simp only [Ge.lo,Ge.hi,gv] <;> omega
theorem Gm {e f:Ge} (he:e.ok n m) (hf:f.ok n m) {a b c d x:Pt} (hab:a=e.lo X Y∧b=e.hi X Y∨a=e.hi X Y∧b=e.lo X Y) (hcd:c=f.lo X Y∧d=f.hi X Y∨c=f.hi X Y∧d=f.lo X Y) (hx:x ∈ [a,b,c,d]) (hc:comB a b c d x=true) :
  ∃ j l,x=gv X Y j l∧(j=e.i∧l=e.k∨j=e.i+e.di∧l=e.k+e.dk)∧(j=f.i∧l=f.k∨j=f.i+f.di∧l=f.k+f.dk):=by
 have hg:∃ j l,x=gv X Y j l∧j≤n∧l≤m:=by
  have e1:=he.i;have e2:=he.k;have f1:=hf.i;have f2:=hf.k
  simp only [List.mem_cons,List.mem_nil_iff,or_false] at hx
  rcases hab with ⟨rfl,rfl⟩|⟨rfl,rfl⟩ <;> rcases hcd with ⟨rfl,rfl⟩|⟨rfl,rfl⟩ <;> rcases hx with rfl|rfl|rfl|rfl <;> exact ⟨_,_,rfl,by omega,by omega⟩
 obtain ⟨j,l,rfl,hj,hl⟩:=hg
 rw [comB,Bool.and_eq_true] at hc
 exact ⟨j,l,rfl,Q7 hX hY he hj hl hab hc.1,Q7 hX hY hf hj hl hcd hc.2⟩
theorem Q8 {e f:Ge} (he:e.ok n m) (hf:f.ok n m) (hne:e≠f) {a b c d:Pt} (hab:a=e.lo X Y∧b=e.hi X Y∨a=e.hi X Y∧b=e.lo X Y) (hcd:c=f.lo X Y∧d=f.hi X Y∨c=f.hi X Y∧d=f.lo X Y) :
  iY a b c d=0∨iY a b c d=1∧∃ j l,(j=e.i∧l=e.k∨j=e.i+e.di∧l=e.k+e.dk)∧(j=f.i∧l=f.k∨j=f.i+f.di∧l=f.k+f.dk):=by
 have hx:=Lp hX hY he hf hne hab hcd
 by_cases hs:∃ j l,(j=e.i∧l=e.k∨j=e.i+e.di∧l=e.k+e.dk)∧(j=f.i∧l=f.k∨j=f.i+f.di∧l=f.k+f.dk)
 ·obtain ⟨j,l,h1,h2⟩:=hs
  rcases Vt (e:=gv X Y j l) hx (fun x hm hc=>by
   obtain ⟨j',l',rfl,q1,q2⟩:=Gm hX hY he hf hab hcd hm hc
   have e5:=he.d;have f5:=hf.d
   have:j'=j∧l'=l:=by
    rcases Classical.em (j'=j∧l'=l) with h|h
    ·exact h
    exfalso;apply hne
    obtain ⟨i,k,di,dk⟩:=e
    obtain ⟨i',k',di',dk'⟩:=f
    simp only at *
    have:i=i'∧k=k'∧di=di'∧dk=dk':=by omega
    obtain ⟨rfl,rfl,rfl,rfl⟩:=this;rfl
   rw [this.1,this.2]) with h|h
  ·exact .inl h
  exact .inr ⟨h,j,l,h1,h2⟩
 left
 exact yg hx fun x hm=>by
  rw [← Bool.not_eq_true]
  intro hc
  obtain ⟨j,l,_,q1,q2⟩:=Gm hX hY he hf hab hcd hm hc
  exact hs ⟨j,l,q1,q2⟩
end
theorem qU {r:List Pt} {p:Pt} (h:iZ r p=2):(∀ i,i<r.length→¬ onE (rA r i) (rB r i) p)∧dJ r p r.length≠0:=by
 unfold iZ at h
 split at h
 ·cases h
 rename_i h1
 split at h
 ·cases h
 rename_i h2
 exact ⟨fun i hi ho=>h1 ⟨i,hi,ho⟩,h2⟩
theorem Vu {r:List Pt} {p:Pt} {i:Nat} (hi:i<r.length) (h:onE (rA r i) (rB r i) p):iZ r p=1:=by
 unfold iZ;rw [if_pos ⟨i,hi,h⟩]
theorem Lr {r:List Pt} {p:Pt} (h:∀ i,i<r.length→¬ onE (rA r i) (rB r i) p) (hw:dJ r p r.length≠0):iZ r p=2:=by
 unfold iZ
 rw [if_neg (by rintro ⟨i,hi,ho⟩;exact h i hi ho),if_neg hw]
theorem lV {a b p:Pt} (h:a.2=b.2):stepW a b p=0:=by
 unfold stepW;rw [if_neg (by omega),if_neg (by omega)]
theorem Ls {x y y':Int} {p:Pt} : aB (x,y) (x,y') p=(y'-y)*(x-p.1):=by unfold aB;grind
theorem step_up {x y y':Int} {p:Pt} (h:y<y'):stepW (x,y) (x,y') p=if y≤p.2∧p.2<y'∧p.1<x then 1 else 0:=by
 unfold stepW
 have e:0<aB (x,y) (x,y') p↔p.1<x:=by
  rw [Ls]
  constructor
  ·intro h1
   have:=Int.pos_of_mul_pos_right h1 (by omega:0<y'-y) 
   omega
  intro h1;exact Int.mul_pos (by omega) (by omega)
 simp only [e]
 split
 ·rfl
 rw [if_neg (by omega)]
theorem tu {x y y':Int} {p:Pt} (h:y'<y):stepW (x,y) (x,y') p=if y'≤p.2∧p.2<y∧p.1<x then -1 else 0:=by
 unfold stepW
 have e:aB (x,y) (x,y') p<0↔p.1<x:=by
  have e1:aB (x,y) (x,y') p = -((y-y')*(x-p.1)):=by rw [Ls];grind
  rw [e1]
  constructor
  ·intro h1
   have h2:0<(y-y')*(x-p.1):=by omega
   have:=Int.pos_of_mul_pos_right h2 (by omega:0<y-y')
   omega
  intro h1
  have:0<(y-y')*(x-p.1):=Int.mul_pos (by omega) (by omega)
  omega
 simp only [e]
 rw [if_neg (by omega)]
 by_cases hc:y'≤p.2∧p.2<y∧p.1<x
 ·rw [if_pos (by omega),if_pos hc]
 rw [if_neg (by omega),if_neg hc]
theorem abB {x y y':Int} {p:Pt} (h:y≤y') (h1:p.1=x) (h2:y≤p.2) (h3:p.2≤y'):onE (x,y) (x,y') p∧onE (x,y') (x,y) p:=by
 refine ⟨⟨by rw [Ls,h1,Int.sub_self,Int.mul_zero],?_,?_,?_,?_⟩,⟨by rw [Ls,h1,Int.sub_self,Int.mul_zero],?_,?_,?_,?_⟩⟩ <;> simp only [mn,mx] <;> (try split) <;> omega
theorem abC {x x' y:Int} {p:Pt} (h:x≤x') (h1:p.2=y) (h2:x≤p.1) (h3:p.1≤x'):onE (x,y) (x',y) p∧onE (x',y) (x,y) p:=by
 have t:∀ a b:Int,aB (a,y) (b,y) p=0:=fun a b=>by unfold aB;simp only [h1,Int.sub_self];simp
 refine ⟨⟨t _ _,?_,?_,?_,?_⟩,⟨t _ _,?_,?_,?_,?_⟩⟩ <;> simp only [mn,mx] <;> (try split) <;> omega
def Inn (x x' y y':Int) (p:Pt):Prop:=(x<p.1∧p.1<x')∧y<p.2∧p.2<y'
theorem abD (a b c d p:Pt):dJ [a,b,c,d] p 4=stepW a b p+stepW b c p+stepW c d p+stepW d a p:=by simp [dJ,rA,rB]
theorem abE (a b c p:Pt):dJ [a,b,c] p 3=stepW a b p+stepW b c p+stepW c a p:=by simp [dJ,rA,rB]
theorem Q9 {a b c d p:Pt} (h:∀ i,i < [a,b,c,d].length→¬ onE (rA [a,b,c,d] i) (rB [a,b,c,d] i) p):¬ onE a b p∧¬ onE b c p∧¬ onE c d p∧¬ onE d a p :=
 ⟨by simpa [rA,rB] using h 0 (by simp),by simpa [rA,rB] using h 1 (by simp),by simpa [rA,rB] using h 2 (by simp),by simpa [rA,rB] using h 3 (by simp)⟩
theorem Rf {a b c p:Pt} (h:∀ i,i < [a,b,c].length→¬ onE (rA [a,b,c] i) (rB [a,b,c] i) p):¬ onE a b p∧¬ onE b c p∧¬ onE c a p :=
 ⟨by simpa [rA,rB] using h 0 (by simp),by simpa [rA,rB] using h 1 (by simp),by simpa [rA,rB] using h 2 (by simp)⟩
theorem YO {x x' y y':Int} {p:Pt} (hx:x<x') (hy:y<y') (h:iZ [(x,y),(x',y),(x',y'),(x,y')] p=2):Inn x x' y y' p:=by
 obtain ⟨h1,h2⟩:=qU h
 have h2:dJ [(x,y),(x',y),(x',y'),(x,y')] p 4≠0:=h2
 rw [abD,lV (by rfl),step_up hy,lV (by rfl),tu hy] at h2
 obtain ⟨n1,n2,n3,n4⟩:=Q9 h1
 have hb:y≤p.2∧p.2<y'∧x≤p.1∧p.1<x':=by
  split at h2 <;> split at h2 <;> omega
 have ny:p.2≠y:=fun e=>n1 (abC (by omega) e hb.2.2.1 (by omega)).1
 have nx:p.1≠x:=fun e=>n4 (abB (by omega) e hb.1 (by omega)).2
 exact ⟨⟨by omega,hb.2.2.2⟩,by omega,hb.2.1⟩
theorem Vw {x x' y y':Int} {p:Pt} (hx:x<x') (hy:y<y') (h:iZ [(x',y'),(x,y'),(x,y),(x',y)] p=2):Inn x x' y y' p:=by
 obtain ⟨h1,h2⟩:=qU h
 have h2:dJ [(x',y'),(x,y'),(x,y),(x',y)] p 4≠0:=h2
 rw [abD,lV (by rfl),tu hy,lV (by rfl),step_up hy] at h2
 obtain ⟨n1,n2,n3,n4⟩:=Q9 h1
 have hb:y≤p.2∧p.2<y'∧x≤p.1∧p.1<x':=by
  split at h2 <;> split at h2 <;> omega
 have ny:p.2≠y:=fun e=>n3 (abC (by omega) e hb.2.2.1 (by omega)).1
 have nx:p.1≠x:=fun e=>n2 (abB (by omega) e hb.1 (by omega)).2
 exact ⟨⟨by omega,hb.2.2.2⟩,by omega,hb.2.1⟩
theorem YP {x x' y y':Int} {p:Pt} (hx:x<x') (hy:y<y') (h:iZ [(x,y),(x',y),(x',y')] p=2):Inn x x' y y' p∧aB (x,y) (x',y') p≠0:=by
 obtain ⟨h1,h2⟩:=qU h
 have h2:dJ [(x,y),(x',y),(x',y')] p 3≠0:=h2
 obtain ⟨n1,n2,n3⟩:=Rf h1
 rw [abE,lV (by rfl),step_up hy] at h2
 unfold stepW at h2
 simp only at h2
 have et:aB (x',y') (x,y) p=(x'-x)*(y'-p.2)-(y'-y)*(x'-p.1):=by unfold aB;grind
 have es:aB (x',y') (x,y) p = - aB (x,y) (x',y') p:=qQ _ _ _
 have hyr:y≤p.2∧p.2<y':=by
  split at h2 <;> split at h2 <;> (try split at h2) <;> omega
 have hpx:p.1<x':=by
  rcases Int.lt_or_le p.1 x' with h|h
  ·exact h
  exfalso
  have q1:0<(x'-x)*(y'-p.2):=Int.mul_pos (by omega) (by omega)
  have q2:0≤(y'-y)*(p.1-x'):=Int.mul_nonneg (by omega) (by omega)
  have q3:(y'-y)*(x'-p.1) = -((y'-y)*(p.1-x')):=by grind
  have:0<aB (x',y') (x,y) p:=by rw [et];omega
  rw [if_neg (by omega),if_neg (by omega),if_neg (by omega)] at h2
  omega
 have htn:0≤aB (x',y') (x,y) p:=by
  rcases Int.lt_or_le (aB (x',y') (x,y) p) 0 with h|h
  ·exfalso
   rw [if_pos (by omega),if_neg (by omega),if_pos (by omega)] at h2
   omega
  exact h
 have ahu:x≤p.1:=by
  rcases Int.lt_or_le p.1 x with h|h
  ·exfalso
   have q1:(x'-x)*(y'-p.2)≤(x'-x)*(y'-y):=Int.mul_le_mul_of_nonneg_left (by omega) (by omega)
   have q2:(y'-y)*(x'-x)<(y'-y)*(x'-p.1):=Int.mul_lt_mul_of_pos_left (by omega) (by omega)
   have q3:(x'-x)*(y'-y)=(y'-y)*(x'-x):=Int.mul_comm _ _
   rw [et] at htn;omega
  exact h
 have ht0:aB (x,y) (x',y') p≠0:=fun e=>n3 (by
  refine ⟨by rw [es,e];rfl,?_,?_,?_,?_⟩ <;> simp only [mn,mx] <;> (try split) <;> omega)
 have ny:p.2≠y:=fun e=>n1 (abC (by omega) e ahu (by omega)).1
 have nx:p.1≠x:=fun e=>by
  have q1:(x'-x)*(y'-p.2)<(x'-x)*(y'-y):=Int.mul_lt_mul_of_pos_left (by omega) (by omega)
  have q3:(x'-x)*(y'-y)=(y'-y)*(x'-x):=Int.mul_comm _ _
  rw [et,e] at htn;omega
 exact ⟨⟨⟨by omega,hpx⟩,by omega,hyr.2⟩,ht0⟩
theorem YQ {x x' y y':Int} {p:Pt} (hx:x<x') (hy:y<y') (h:iZ [(x,y),(x',y'),(x,y')] p=2):Inn x x' y y' p∧aB (x,y) (x',y') p≠0:=by
 obtain ⟨h1,h2⟩:=qU h
 have h2:dJ [(x,y),(x',y'),(x,y')] p 3≠0:=h2
 obtain ⟨n1,n2,n3⟩:=Rf h1
 rw [abE,lV (a:=(x',y')) (by rfl),tu hy] at h2
 unfold stepW at h2
 simp only at h2
 have et:aB (x,y) (x',y') p=(x'-x)*(p.2-y)-(y'-y)*(p.1-x):=rfl
 have hyr:y≤p.2∧p.2<y':=by
  split at h2 <;> split at h2 <;> (try split at h2) <;> omega
 have ahu:x≤p.1:=by
  rcases Int.lt_or_le p.1 x with h|h
  ·exfalso
   have q1:0≤(x'-x)*(p.2-y):=Int.mul_nonneg (by omega) (by omega)
   have q2:0<(y'-y)*(x-p.1):=Int.mul_pos (by omega) (by omega)
   have q3:(y'-y)*(p.1-x) = -((y'-y)*(x-p.1)):=by grind
   have:0<aB (x,y) (x',y') p:=by rw [et];omega
   rw [if_pos (by omega),if_pos (by omega)] at h2
   omega
  exact h
 have htp:0<aB (x,y) (x',y') p:=by
  rcases Int.lt_or_le 0 (aB (x,y) (x',y') p) with h|h
  ·exact h
  exfalso
  rw [if_neg (by omega),if_neg (by omega),if_neg (by omega)] at h2
  omega
 have hpx:p.1<x':=by
  rcases Int.lt_or_le p.1 x' with h|h
  ·exact h
  exfalso
  have q1:(x'-x)*(p.2-y)<(x'-x)*(y'-y):=Int.mul_lt_mul_of_pos_left (by omega) (by omega)
  have q2:(y'-y)*(x'-x)≤(y'-y)*(p.1-x):=Int.mul_le_mul_of_nonneg_left (by omega) (by omega)
  have q3:(x'-x)*(y'-y)=(y'-y)*(x'-x):=Int.mul_comm _ _
  rw [et] at htp;omega
 have nx:p.1≠x:=fun e=>n3 (abB (by omega) e hyr.1 (by omega)).2
 have ny:p.2≠y:=fun e=>by
  have q2:0≤(y'-y)*(p.1-x):=Int.mul_nonneg (by omega) (by omega)
  rw [et,e,Int.sub_self,Int.mul_zero] at htp;omega
 exact ⟨⟨⟨by omega,hpx⟩,by omega,hyr.2⟩,by omega⟩
def ix (n i k:Nat):Nat:=(n+1)*k+i
theorem XG {n i k j l:Nat} (hi:i≤n) (hj:j≤n) (h:ix n i k=ix n j l):i=j∧k=l:=by
 unfold ix at h
 have h1:=congrArg (· / (n+1)) h
 simp only [Nat.mul_add_div (show n+1 > 0 by omega),Nat.div_eq_of_lt (show i<n+1 by omega),Nat.div_eq_of_lt (show j<n+1 by omega)] at h1
 have:k=l:=by omega
 subst this
 exact ⟨by omega,rfl⟩
theorem YR {n m i k:Nat} (hi:i≤n) (hk:k≤m):ix n i k<(n+1)*(m+1):=by
 unfold ix
 have h1:(n+1)*k≤(n+1)*m:=Nat.mul_le_mul_left _ hk
 have h2:(n+1)*(m+1)=(n+1)*m+(n+1):=Nat.mul_succ _ _
 omega
structure Tab (ps:List Pt) (X Y:Nat→Int) (n m:Nat):Prop where
 x:Inc X n
 y:Inc Y m
 len:ps.length=(n+1)*(m+1)
 at':∀ i k,i≤n→k≤m→gP ps (ix n i k)=gv X Y i k
inductive Fk|q|u|s|t
deriving DecidableEq
structure Fc where
 kd:Fk
 i:Nat
 k:Nat
def Fc.vs (f:Fc):List (Nat × Nat):=match f.kd with
 | .q=>[(f.i,f.k),(f.i+1,f.k),(f.i+1,f.k+1),(f.i,f.k+1)]
 | .u=>[(f.i+1,f.k+1),(f.i,f.k+1),(f.i,f.k),(f.i+1,f.k)]
 | .s=>[(f.i,f.k),(f.i+1,f.k),(f.i+1,f.k+1)]
 | .t=>[(f.i,f.k),(f.i+1,f.k+1),(f.i,f.k+1)]
def Fc.va (f:Fc) (p:Nat):Nat × Nat:=f.vs.getD p (0,0)
def Fc.vb (f:Fc) (p:Nat):Nat × Nat:=f.vs.getD ((p+1) % f.vs.length) (0,0)
def Fc.ring (n:Nat) (f:Fc):List Int:=f.vs.map fun v=>((ix n v.1 v.2:Nat):Int)
structure Fc.ok (f:Fc) (n m:Nat):Prop where
 i:f.i+1≤n
 k:f.k+1≤m
def UE (a b:Fk):Prop:=¬ (a = .s∧b = .t∨a = .t∧b = .s)
theorem Fc.len (f:Fc):f.vs.length=3∨f.vs.length=4:=by
 obtain ⟨kd,i,k⟩:=f
 cases kd <;> simp [Fc.vs]
theorem Fc.adJ {f:Fc} {p:Nat} (hp:p<f.vs.length):p=0∨p=1∨p=2∨p=3:=by
 have:=f.len;omega
theorem Fc.bnd {f:Fc} {n m p:Nat} (h:f.ok n m):(f.va p).1≤n∧(f.va p).2≤m:=by
 obtain ⟨h1,h2⟩:=h
 obtain ⟨kd,i,k⟩:=f
 simp only at h1 h2
 rcases Nat.lt_or_ge p 4 with hp|hp
 ·rcases (show p=0∨p=1∨p=2∨p=3 by omega) with rfl|rfl|rfl|rfl <;> cases kd <;> simp [Fc.va,Fc.vs] <;> omega
 have:(⟨kd,i,k⟩:Fc).va p=(0,0):=by
  unfold Fc.va
  have:=(⟨kd,i,k⟩:Fc).len
  rw [List.getD_eq_getElem?_getD,List.getElem?_eq_none (by omega)];rfl
 rw [this];simp
theorem Fc.ae8 (f:Fc) (p:Nat):f.vb p=f.va ((p+1) % f.vs.length):=rfl
theorem Fc.edge {f:Fc} {n m p:Nat} (h:f.ok n m) (hp:p<f.vs.length):∃ e:Ge,e.ok n m∧(f.va p=(e.i,e.k)∧f.vb p=(e.i+e.di,e.k+e.dk)∨f.va p=(e.i+e.di,e.k+e.dk)∧f.vb p=(e.i,e.k))∧(e.di=1→e.dk=1→e.i=f.i∧e.k=f.k∧(f.kd = .s∨f.kd = .t)):=by
 obtain ⟨h1,h2⟩:=h
 obtain ⟨kd,i,k⟩:=f
 simp only at h1 h2
 have B:(⟨⟨i,k,1,0⟩,(⟨by simp only;omega,by simp only;omega,by simp⟩:(⟨i,k,1,0⟩:Ge).ok n m)⟩ : { e:Ge // e.ok n m }).1=⟨i,k,1,0⟩:=rfl
 have b:(⟨i,k,1,0⟩:Ge).ok n m:=⟨by simp only;omega,by simp only;omega,by simp⟩
 have r:(⟨i+1,k,0,1⟩:Ge).ok n m:=⟨by simp only;omega,by simp only;omega,by simp⟩
 have t:(⟨i,k+1,1,0⟩:Ge).ok n m:=⟨by simp only;omega,by simp only;omega,by simp⟩
 have l:(⟨i,k,0,1⟩:Ge).ok n m:=⟨by simp only;omega,by simp only;omega,by simp⟩
 have d:(⟨i,k,1,1⟩:Ge).ok n m:=⟨by simp only;omega,by simp only;omega,by simp⟩
 cases kd
 ·simp only [Fc.vs,List.length_cons,List.length_nil] at hp
  rcases (show p=0∨p=1∨p=2∨p=3 by omega) with rfl|rfl|rfl|rfl
  ·exact ⟨_,b,.inl ⟨rfl,rfl⟩,by simp⟩
  ·exact ⟨_,r,.inl ⟨rfl,rfl⟩,by simp⟩
  ·exact ⟨_,t,.inr ⟨rfl,rfl⟩,by simp⟩
  exact ⟨_,l,.inr ⟨rfl,by simp [Fc.vb,Fc.vs]⟩,by simp⟩
 ·simp only [Fc.vs,List.length_cons,List.length_nil] at hp
  rcases (show p=0∨p=1∨p=2∨p=3 by omega) with rfl|rfl|rfl|rfl
  ·exact ⟨_,t,.inr ⟨rfl,rfl⟩,by simp⟩
  ·exact ⟨_,l,.inr ⟨rfl,rfl⟩,by simp⟩
  ·exact ⟨_,b,.inl ⟨rfl,rfl⟩,by simp⟩
  exact ⟨_,r,.inl ⟨rfl,by simp [Fc.vb,Fc.vs]⟩,by simp⟩
 ·simp only [Fc.vs,List.length_cons,List.length_nil] at hp
  rcases (show p=0∨p=1∨p=2 by omega) with rfl|rfl|rfl
  ·exact ⟨_,b,.inl ⟨rfl,rfl⟩,by simp⟩
  ·exact ⟨_,r,.inl ⟨rfl,rfl⟩,by simp⟩
  exact ⟨_,d,.inr ⟨rfl,by simp [Fc.vb,Fc.vs]⟩,by simp⟩
 simp only [Fc.vs,List.length_cons,List.length_nil] at hp
 rcases (show p=0∨p=1∨p=2 by omega) with rfl|rfl|rfl
 ·exact ⟨_,d,.inl ⟨rfl,rfl⟩,by simp⟩
 ·exact ⟨_,t,.inr ⟨rfl,rfl⟩,by simp⟩
 exact ⟨_,l,.inr ⟨rfl,by simp [Fc.vb,Fc.vs]⟩,by simp⟩
theorem Fc.share {f g:Fc} {p q:Nat} (hp:p<f.vs.length) (hq:q<g.vs.length) (h1:f.va p=g.va q) (h2:f.vb p=g.vb q):f.i=g.i∧f.k=g.k∧UE f.kd g.kd:=by
 obtain ⟨kd,i,k⟩:=f
 obtain ⟨kd',i',k'⟩:=g
 have hp4:=Fc.adJ hp
 have hq4:=Fc.adJ hq
 cases kd <;> cases kd' <;> rcases hp4 with rfl|rfl|rfl|rfl <;> rcases hq4 with rfl|rfl|rfl|rfl <;>
  first
  | (exfalso;simp [Fc.vs] at hp;done)
  | (exfalso;simp [Fc.vs] at hq;done)
  | (simp [Fc.va,Fc.vb,Fc.vs,UE] at h1 h2 ⊢;omega)
theorem Fc.inj {f:Fc} {p q:Nat} (hp:p<f.vs.length) (hq:q<f.vs.length) (h1:f.va p=f.va q):p=q:=by
 obtain ⟨kd,i,k⟩:=f
 have hp4:=Fc.adJ hp
 have hq4:=Fc.adJ hq
 cases kd <;> rcases hp4 with rfl|rfl|rfl|rfl <;> rcases hq4 with rfl|rfl|rfl|rfl <;>
  first
  | rfl
  | (exfalso;simp [Fc.vs] at hp;done)
  | (exfalso;simp [Fc.vs] at hq;done)
  | (exfalso;simp [Fc.va,Fc.vs] at h1;done)
  | (exfalso;simp [Fc.va,Fc.vs] at h1;omega)
theorem Fc.Rh {f:Fc} {n m:Nat} (h:f.ok n m):∀ v∈f.vs,v.1≤n∧v.2≤m:=by
 obtain ⟨h1,h2⟩:=h
 obtain ⟨kd,i,k⟩:=f
 simp only at h1 h2
 intro v hv
 cases kd <;> simp only [Fc.vs,List.mem_cons,List.mem_nil_iff,or_false] at hv <;> rcases hv with rfl|rfl|rfl|rfl <;> simp only <;> omega
section
variable {ps:List Pt} {X Y:Nat→Int} {n m:Nat} (hT:Tab ps X Y n m)
include hT
theorem Dw {f:Fc} (hf:f.ok n m) (t:Int):cor ps t (f.ring n)=f.vs.map fun v=>(t*X v.1,t*Y v.2):=by
 unfold cor Fc.ring
 rw [List.map_map]
 refine List.map_congr_left fun v hv=>?_
 obtain ⟨h1,h2⟩:=Fc.Rh hf v hv
 have h3:=hT.at' v.1 v.2 h1 h2
 unfold gP at h3
 simp only [Function.comp_apply,Ip,Int.toNat_natCast,h3,gv]
theorem Ri {f:Fc} (hf:f.ok n m) {p:Pt} (h:iZ (cor ps 2 (f.ring n)) p=2):Inn (2*X f.i) (2*X (f.i+1)) (2*Y f.k) (2*Y (f.k+1)) p∧(f.kd = .s∨f.kd = .t→aB (2*X f.i,2*Y f.k) (2*X (f.i+1),2*Y (f.k+1)) p≠0):=by
 rw [Dw hT hf] at h
 have hx:=hT.x.lt f.i (f.i+1) (by omega) hf.i
 have hy:=hT.y.lt f.k (f.k+1) (by omega) hf.k
 obtain ⟨kd,i,k⟩:=f
 simp only at hx hy
 cases kd
 ·exact ⟨YO (by simp only;omega) (by simp only;omega) h,by simp⟩
 ·exact ⟨Vw (by simp only;omega) (by simp only;omega) h,by simp⟩
 ·have:=YP (by simp only;omega) (by simp only;omega) h
  exact ⟨this.1,fun _=>this.2⟩
 have:=YQ (by simp only;omega) (by simp only;omega) h
 exact ⟨this.1,fun _=>this.2⟩
theorem abG {e:Ge} (he:e.ok n m) {i k:Nat} (hi:i+1≤n) (hk:k+1≤m) (h:Inn (2*X i) (2*X (i+1)) (2*Y k) (2*Y (k+1)) (X e.i+X (e.i+e.di),Y e.k+Y (e.k+e.dk))):e.i=i∧e.k=k∧e.di=1∧e.dk=1:=by
 obtain ⟨⟨a1,a2⟩,b1,b2⟩:=h
 simp only at a1 a2 b1 b2
 obtain ⟨e1,e2,e3,e4,e5⟩:=he
 have key:∀ {Z:Nat→Int} {N:Nat},Inc Z N→∀ {a d c:Nat},a+d≤N→d≤1→c+1≤N→2*Z c<Z a+Z (a+d)→Z a+Z (a+d)<2*Z (c+1)→a=c∧d=1:=by
  intro Z N hZ a d c h1 h2 h3 h4 h5
  rcases Nat.lt_trichotomy a c with h|h|h
  ·have q1:=hZ.le (show a≤c by omega) (by omega)
   have q2:=hZ.le (show a+d≤c by omega) (by omega)
   omega
  ·subst h
   rcases (show d=0∨d=1 by omega) with rfl|rfl
   ·rw [Nat.add_zero] at h4;omega
   exact ⟨rfl,rfl⟩
  have q1:=hZ.le (show c+1≤a by omega) (by omega)
  have q2:=hZ.le (show c+1≤a+d by omega) (by omega)
  omega
 have h1:=key hT.x e1 e3 hi a1 a2
 have h2:=key hT.y e2 e4 hk b1 b2
 exact ⟨h1.1,h2.1,h1.2,h2.2⟩
end
theorem Lu (a b c d:Int):aB (2*a,2*b) (2*c,2*d) (a+c,b+d)=0:=by unfold aB;simp only;grind
structure vX (gs:List Fc) (n m:Nat):Prop where
 ok:∀ g∈gs,g.ok n m
 apart:∀ j j',j<gs.length→j'<gs.length→j≠j'→¬ ((gs.getD j ⟨.q,0,0⟩).i=(gs.getD j' ⟨.q,0,0⟩).i∧(gs.getD j ⟨.q,0,0⟩).k=(gs.getD j' ⟨.q,0,0⟩).k∧UE (gs.getD j ⟨.q,0,0⟩).kd (gs.getD j' ⟨.q,0,0⟩).kd)
theorem vX.get {gs:List Fc} {n m j:Nat} (h:vX gs n m) (hj:j<gs.length):(gs.getD j ⟨.q,0,0⟩).ok n m:=by
 rw [List.getD_eq_getElem?_getD,List.getElem?_eq_getElem hj]
 exact h.ok _ (List.getElem_mem hj)
theorem yh {α β:Type} {l:List α} {g:α→β} {i:Nat} {d:α} {e:β} (h:i<l.length):(l.map g).getD i e=g (l.getD i d):=by
 rw [List.getD_eq_getElem?_getD,List.getElem?_map,List.getElem?_eq_getElem h,List.getD_eq_getElem?_getD,List.getElem?_eq_getElem h];rfl
theorem Vx {ps:List Pt} {X Y:Nat→Int} {n m:Nat} (hT:Tab ps X Y n m) {f:Fc} (hf:f.ok n m) {p j r:Nat} (hp:p<f.vs.length):∃ e:Ge,e.ok n m∧oQ ps ⟨ix n (f.va p).1 (f.va p).2,ix n (f.vb p).1 (f.vb p).2,j,r⟩=(X e.i+X (e.i+e.di),Y e.k+Y (e.k+e.dk))∧(e.di=1→e.dk=1→e.i=f.i∧e.k=f.k∧(f.kd = .s∨f.kd = .t)):=by
 obtain ⟨e,he,hv,hd⟩:=Fc.edge hf hp
 refine ⟨e,he,?_,hd⟩
 have q1:=hT.at' e.i e.k (by have:=he.i;omega) (by have:=he.k;omega)
 have q2:=hT.at' (e.i+e.di) (e.k+e.dk) he.i he.k
 unfold oQ
 rcases hv with ⟨h1,h2⟩|⟨h1,h2⟩ <;> simp only [h1,h2,q1,q2,gv]
 rw [Int.add_comm (X (e.i+e.di)),Int.add_comm (Y (e.k+e.dk))]
theorem Rj {ps:List Pt} {X Y:Nat→Int} {n m:Nat} (hT:Tab ps X Y n m) {gs:List Fc} (hG:vX gs n m) {j j' p r:Nat} (hj:j<gs.length) (hj':j'<gs.length) (hne:j'≠j) (hp:p<(gs.getD j ⟨.q,0,0⟩).vs.length) :
  iZ (cor ps 2 ((gs.getD j' ⟨.q,0,0⟩).ring n)) (oQ ps ⟨ix n ((gs.getD j ⟨.q,0,0⟩).va p).1 ((gs.getD j ⟨.q,0,0⟩).va p).2,ix n ((gs.getD j ⟨.q,0,0⟩).vb p).1 ((gs.getD j ⟨.q,0,0⟩).vb p).2,j,r⟩)≠2:=by
 intro h
 obtain ⟨e,he,hm,hd⟩:=Vx hT (hG.get hj) (j:=j) (r:=r) hp
 rw [hm] at h
 have hg':=hG.get hj'
 obtain ⟨h1,h2⟩:=Ri hT hg' h
 obtain ⟨a1,a2,a3,a4⟩:=abG hT he hg'.i hg'.k h1
 obtain ⟨b1,b2,b3⟩:=hd a3 a4
 rcases hk:(gs.getD j' ⟨.q,0,0⟩).kd with _|_|_|_
 ·refine hG.apart j' j hj' hj hne ⟨by omega,by omega,?_⟩
  rw [hk];unfold UE;simp
 ·refine hG.apart j' j hj' hj hne ⟨by omega,by omega,?_⟩
  rw [hk];unfold UE;simp
 ·refine h2 (.inl hk) ?_
  rw [a3,a4,a1,a2];exact Lu _ _ _ _
 refine h2 (.inr hk) ?_
 rw [a3,a4,a1,a2];exact Lu _ _ _ _
theorem abH (a b c:Pt):bW [a,b,c] 3=(a.1*b.2-a.2*b.1)+(b.1*c.2-b.2*c.1)+(c.1*a.2-c.2*a.1):=by simp [bW,rA,rB]
theorem abI (a b c d:Pt):bW [a,b,c,d] 4=(a.1*b.2-a.2*b.1)+(b.1*c.2-b.2*c.1)+(c.1*d.2-c.2*d.1)+(d.1*a.2-d.2*a.1):=by simp [bW,rA,rB]
theorem Vy {x x' y y':Int} (hx:x<x') (hy:y<y'):0≤bW [(x,y),(x',y),(x',y')] 3∧0≤bW [(x,y),(x',y'),(x,y')] 3∧0≤bW [(x,y),(x',y),(x',y'),(x,y')] 4∧0≤bW [(x',y'),(x,y'),(x,y),(x',y)] 4:=by
 have h:0≤(x'-x)*(y'-y):=Int.mul_nonneg (by omega) (by omega)
 have h2:0≤2*((x'-x)*(y'-y)):=by omega
 have e1:bW [(x,y),(x',y),(x',y')] 3=(x'-x)*(y'-y):=by rw [abH];simp only;grind
 have e2:bW [(x,y),(x',y'),(x,y')] 3=(x'-x)*(y'-y):=by rw [abH];simp only;grind
 have e3:bW [(x,y),(x',y),(x',y'),(x,y')] 4=2*((x'-x)*(y'-y)):=by rw [abI];simp only;grind
 have e4:bW [(x',y'),(x,y'),(x,y),(x',y)] 4=2*((x'-x)*(y'-y)):=by rw [abI];simp only;grind
 rw [e1,e2,e3,e4]
 exact ⟨h,h,h2,h2⟩
theorem YS {x x' y y':Int} (hx:x<x') (hy:y<y'):0<(x'-x)*(y'-y):=Int.mul_pos (by omega) (by omega)
theorem ring3 {a b c : Pt} (h : aB a b c ≠ 0) : iJ [a, b, c] = 0 := by
  have h2 : aB b c a ≠ 0 := by have : aB b c a = aB a b c := by unfold aB; grind
                               rw [this]; exact h
  have h3 : aB c a b ≠ 0 := by have : aB c a b = aB a b c := by unfold aB; grind
                               rw [this]; exact h
  have nab : a ≠ b := fun e => h (by subst e; unfold aB; grind)
  have nbc : b ≠ c := fun e => h (by subst e; unfold aB; grind)
  have nca : c ≠ a := fun e => h (by subst e; unfold aB; grind)
  have h4 : aB c a b ≠ 0 ∧ aB a b c ≠ 0 ∧ aB b c a ≠ 0 := ⟨h3, h, h2⟩
  unfold iJ
  rw [if_neg (by simp), if_neg ?_, if_neg ?_, if_neg ?_]
  · rintro ⟨i, hi, j, hj, h5, h6, _⟩
    simp only [List.length_cons, List.length_nil] at hi hj h6
    omega
  · rintro ⟨i, hi, h5, _⟩
    simp only [List.length_cons, List.length_nil] at hi
    rcases (show i = 0 ∨ i = 1 ∨ i = 2 by omega) with rfl | rfl | rfl
    · exact h3 (by simpa [rA, rB, rP] using h5)
    · exact h (by simpa [rA, rB, rP] using h5)
    exact h2 (by simpa [rA, rB, rP] using h5)
  rintro ⟨i, hi, h5⟩
  simp only [List.length_cons, List.length_nil] at hi
  rcases (show i = 0 ∨ i = 1 ∨ i = 2 by omega) with rfl | rfl | rfl
  · exact nab (by simpa [jB, rA, rB] using h5)
  · exact nbc (by simpa [jB, rA, rB] using h5)
  exact nca (by simpa [jB, rA, rB] using h5)
theorem abJ {a b c d:Pt} (h1:aB d a b≠0) (h2:aB a b c≠0) (h3:aB b c d≠0) (h4:aB c d a≠0) (m1:iY c d a b=0) (m2:iY d a b c=0):iJ [a,b,c,d]=0:=by
 have nab:a≠b:=fun e=>h2 (by subst e;unfold aB;grind)
 have nbc:b≠c:=fun e=>h2 (by subst e;unfold aB;grind)
 have ncd:c≠d:=fun e=>h3 (by subst e;unfold aB;grind)
 have nda:d≠a:=fun e=>h1 (by subst e;unfold aB;grind)
 unfold iJ
 rw [if_neg (by simp),if_neg ?_,if_neg ?_,if_neg ?_]
 ·rintro ⟨i,hi,j,hj,h5,h6,h7⟩
  simp only [List.length_cons,List.length_nil] at hi hj h6
  rcases (show (i=2∧j=0)∨(i=3∧j=1) by omega) with ⟨rfl,rfl⟩|⟨rfl,rfl⟩
  ·exact h7 (by simpa [rA,rB] using m1)
  exact h7 (by simpa [rA,rB] using m2)
 ·rintro ⟨i,hi,h5,_⟩
  simp only [List.length_cons,List.length_nil] at hi
  rcases (show i=0∨i=1∨i=2∨i=3 by omega) with rfl|rfl|rfl|rfl
  ·exact h1 (by simpa [rA,rB,rP] using h5)
  ·exact h2 (by simpa [rA,rB,rP] using h5)
  ·exact h3 (by simpa [rA,rB,rP] using h5)
  exact h4 (by simpa [rA,rB,rP] using h5)
 rintro ⟨i,hi,h5⟩
 simp only [List.length_cons,List.length_nil] at hi
 rcases (show i=0∨i=1∨i=2∨i=3 by omega) with rfl|rfl|rfl|rfl
 ·exact nab (by simpa [jB,rA,rB] using h5)
 ·exact nbc (by simpa [jB,rA,rB] using h5)
 ·exact ncd (by simpa [jB,rA,rB] using h5)
 exact nda (by simpa [jB,rA,rB] using h5)
theorem uU {a b c d:Pt} (h:(a.2<c.2∧a.2<d.2∧b.2<c.2∧b.2<d.2)∨(c.2<a.2∧d.2<a.2∧c.2<b.2∧d.2<b.2)):iY a b c d=0:=by
 refine yg ?_ fun x hx=>?_
 ·rcases h with ⟨h1,h2,h3,h4⟩|⟨h1,h2,h3,h4⟩
  ·exact oC (m:=mx a.2 b.2) (by unfold mx;split <;> omega) (by unfold mx;split <;> omega) (by unfold mx;split <;> omega) (by unfold mx;split <;> omega)
  exact fun hc=>oC (m:=mx c.2 d.2) (by unfold mx;split <;> omega) (by unfold mx;split <;> omega) (by unfold mx;split <;> omega) (by unfold mx;split <;> omega) (oD hc)
 rw [← Bool.not_eq_true]
 intro hc
 rw [comB,Bool.and_eq_true] at hc
 have q1:=(qR hc.1).2.2
 have q2:=(qR hc.2).2.2
 omega
theorem uV {a b c d:Pt} (h:(a.1<c.1∧a.1<d.1∧b.1<c.1∧b.1<d.1)∨(c.1<a.1∧d.1<a.1∧c.1<b.1∧d.1<b.1)):iY a b c d=0:=by
 refine yg ?_ fun x hx=>?_
 ·rcases h with ⟨h1,h2,h3,h4⟩|⟨h1,h2,h3,h4⟩
  ·exact oz (m:=mx a.1 b.1) (by unfold mx;split <;> omega) (by unfold mx;split <;> omega) (by unfold mx;split <;> omega) (by unfold mx;split <;> omega)
  exact fun hc=>oz (m:=mx c.1 d.1) (by unfold mx;split <;> omega) (by unfold mx;split <;> omega) (by unfold mx;split <;> omega) (by unfold mx;split <;> omega) (oD hc)
 rw [← Bool.not_eq_true]
 intro hc
 rw [comB,Bool.and_eq_true] at hc
 have q1:=(qR hc.1).2.1
 have q2:=(qR hc.2).2.1
 omega
theorem NV {x x' y y':Int} (hx:x<x') (hy:y<y'):iJ [(x,y),(x',y),(x',y')]=0∧iJ [(x,y),(x',y'),(x,y')]=0∧iJ [(x,y),(x',y),(x',y'),(x,y')]=0∧iJ [(x',y'),(x,y'),(x,y),(x',y)]=0:=by
 have h:=YS hx hy
 have T:∀ {a b c:Pt},aB a b c=(x'-x)*(y'-y)→aB a b c≠0:=fun e=>by rw [e];omega
 refine ⟨ring3 (T (by unfold aB;simp only;grind)),ring3 (T (by unfold aB;simp only;grind)),?_,?_⟩
 ·refine abJ (T (by unfold aB;simp only;grind)) (T (by unfold aB;simp only;grind)) (T (by unfold aB;simp only;grind)) (T (by unfold aB;simp only;grind)) (uU ?_) (uV ?_) <;> simp only <;> omega
 refine abJ (T (by unfold aB;simp only;grind)) (T (by unfold aB;simp only;grind)) (T (by unfold aB;simp only;grind)) (T (by unfold aB;simp only;grind)) (uU ?_) (uV ?_) <;> simp only <;> omega
section
variable {ps:List Pt} {X Y:Nat→Int} {n m:Nat} (hT:Tab ps X Y n m)
include hT
theorem Gn {f:Fc} (hf:f.ok n m):jW ps (f.ring n)=false:=by
 have hx:=hT.x.lt f.i (f.i+1) (by omega) hf.i
 have hy:=hT.y.lt f.k (f.k+1) (by omega) hf.k
 have hr:=NV hx hy
 have e:iJ (cor ps 1 (f.ring n))=0:=by
  rw [Dw hT hf]
  obtain ⟨kd,i,k⟩:=f
  cases kd <;> simp only [Fc.vs,List.map_cons,List.map_nil,Int.one_mul]
  ·exact hr.2.2.1
  ·exact hr.2.2.2
  ·exact hr.1
  exact hr.2.1
 rw [jW,e];rfl
theorem Gp {f:Fc} (hf:f.ok n m):iK ps 0 (f.ring n)=false:=by
 have hx:=hT.x.lt f.i (f.i+1) (by omega) hf.i
 have hy:=hT.y.lt f.k (f.k+1) (by omega) hf.k
 have hr:=Vy hx hy
 have e:0≤bW (cor ps 1 (f.ring n)) (cor ps 1 (f.ring n)).length:=by
  rw [Dw hT hf]
  obtain ⟨kd,i,k⟩:=f
  cases kd <;> simp only [Fc.vs,List.map_cons,List.map_nil,Int.one_mul]
  ·exact hr.2.2.1
  ·exact hr.2.2.2
  ·exact hr.1
  exact hr.2.1
 rw [iK,decide_eq_false (by omega)];rfl
end
theorem Rk {P:Int→Prop} (hm:∀ a b,P a→P b→P (mn a b)) {l:List Int} (hp:∀ x∈l,P x):∀ i,i<l.length→P (Pg l i)
 | 0,h=>by rw [Pg,List.getD_eq_getElem?_getD,List.getElem?_eq_getElem h];exact hp _ (List.getElem_mem h)
 | i+1,h=>by
  rw [Pg]
  refine hm _ _ (Rk hm hp i (by omega)) ?_
  rw [List.getD_eq_getElem?_getD,List.getElem?_eq_getElem h];exact hp _ (List.getElem_mem h)
theorem Rl {P:Int→Prop} (hm:∀ a b,P a→P b→P (mx a b)) {l:List Int} (hp:∀ x∈l,P x):∀ i,i<l.length→P (Uy l i)
 | 0,h=>by rw [Uy,List.getD_eq_getElem?_getD,List.getElem?_eq_getElem h];exact hp _ (List.getElem_mem h)
 | i+1,h=>by
  rw [Uy]
  refine hm _ _ (Rl hm hp i (by omega)) ?_
  rw [List.getD_eq_getElem?_getD,List.getElem?_eq_getElem h];exact hp _ (List.getElem_mem h)
theorem qN {N:Nat} {r:Int} {l:List Int} (h3:3≤l.length) (h40:l.length≤40) (hp:∀ x∈l,0≤x∧x<N):mW N r l=false:=by
 have h1:=Rk (P:=fun x=>0≤x) (fun a b ha hb=>by unfold mn;split <;> omega) (l:=l) (fun x hx=>(hp x hx).1) (l.length-1) (by omega)
 have h2:=Rl (P:=fun x=>x<(N:Int)) (fun a b ha hb=>by unfold mx;split <;> omega) (l:=l) (fun x hx=>(hp x hx).2) (l.length-1) (by omega)
 rw [mW,decide_eq_false (by omega),decide_eq_false (by omega),decide_eq_false (by omega),decide_eq_false (by omega)];rfl
theorem Vz {f:Fc} {n m:Nat} (hf:f.ok n m):∀ x∈f.ring n,0≤x∧x<(((n+1)*(m+1):Nat):Int):=by
 intro x hx
 unfold Fc.ring at hx
 obtain ⟨v,hv,rfl⟩:=List.mem_map.1 hx
 obtain ⟨h1,h2⟩:=Fc.Rh hf v hv
 have:=YR h1 h2
 exact ⟨Int.natCast_nonneg _,by exact_mod_cast this⟩
theorem tC {α:Type} {g:Nat→List α} {k:Nat} {x:α} : x∈pre g k↔∃ i,i<k∧x∈g i:=by
 unfold pre
 rw [List.mem_flatMap]
 constructor
 ·rintro ⟨i,hi,hx⟩;exact ⟨i,by simpa using hi,hx⟩
 rintro ⟨i,hi,hx⟩;exact ⟨i,by simpa using hi,hx⟩
theorem Gq {α β:Type} {g:Nat→List α} {h:α→β} : ∀ {k:Nat},(∀ i,i<k→((g i).map h).Nodup)→(∀ i j,i<j→j<k→∀ x∈g i,∀ y∈g j,h x≠h y)→((pre g k).map h).Nodup
 | 0,_,_=>by simp [pre]
 | k+1,h1,h2=>by
  have ih:=Gq (k:=k) (fun i hi=>h1 i (by omega)) (fun i j hij hj=>h2 i j hij (by omega))
  have e:pre g (k+1)=pre g k++g k:=by simp [pre,List.range_succ]
  rw [e,List.map_append,List.nodup_append]
  refine ⟨ih,h1 k (by omega),fun a ha b hb hab=>?_⟩
  obtain ⟨x,hx,rfl⟩:=List.mem_map.1 ha
  obtain ⟨y,hy,rfl⟩:=List.mem_map.1 hb
  obtain ⟨i,hi,hxi⟩:=tC.1 hx
  exact h2 i k hi (by omega) x hxi y hy hab
theorem mZ {β:Type} {h:Nat→β} : ∀ {k:Nat},(∀ i j,i<j→j<k→h i≠h j)→((List.range k).map h).Nodup
 | 0,_=>by simp
 | k+1,h2=>by
  rw [List.range_succ,List.map_append,List.nodup_append]
  refine ⟨mZ fun i j hij hj=>h2 i j hij (by omega),by simp,fun a ha b hb hab=>?_⟩
  obtain ⟨i,hi,rfl⟩:=List.mem_map.1 ha
  simp only [List.map_cons,List.map_nil,List.mem_cons,List.mem_nil_iff,or_false] at hb
  subst hb
  exact h2 i k (by simpa using hi) (by omega) hab
theorem tH {n:Nat} {f:Fc} {p:Nat} (hp:p<f.vs.length):nI (f.ring n) p=ix n (f.va p).1 (f.va p).2:=by
 unfold nI Fc.ring
 rw [yh (d:=(0,0)) hp,Int.toNat_natCast];rfl
structure Match (fs:List FaV) (gs:List Fc) (n:Nat):Prop where
 len:fs.length=gs.length
 at':∀ j,j<gs.length→(fs.getD j f0).o.xs=(gs.getD j ⟨.q,0,0⟩).ring n∧(fs.getD j f0).hs = []
theorem Match.ri {fs:List FaV} {gs:List Fc} {n j:Nat} (h:Match fs gs n) (hj:j<gs.length):(fs.getD j f0).ri = [(fs.getD j f0).o]:=by
 rw [FaV.ri,(h.at' j hj).2]
theorem wU (n:Nat) (f:Fc):(f.ring n).length=f.vs.length:=by unfold Fc.ring;rw [List.length_map]
theorem LC {fs:List FaV} {gs:List Fc} {n:Nat} (h:Match fs gs n) {j:Nat} (hj:j<gs.length) {s:St} (hs:s∈gF fs j):∃ p,p<(gs.getD j ⟨.q,0,0⟩).vs.length∧s=⟨ix n ((gs.getD j ⟨.q,0,0⟩).va p).1 ((gs.getD j ⟨.q,0,0⟩).va p).2,ix n ((gs.getD j ⟨.q,0,0⟩).vb p).1 ((gs.getD j ⟨.q,0,0⟩).vb p).2,j,0⟩:=by
 unfold gF stF at hs
 rw [h.ri hj] at hs
 obtain ⟨r,hr,hs⟩:=tC.1 hs
 simp only [List.length_cons,List.length_nil] at hr
 obtain rfl:r=0:=by omega
 unfold gR stR at hs
 simp only [List.getD_cons_zero] at hs
 rw [(h.at' j hj).1,wU] at hs
 obtain ⟨p,hp,rfl⟩:=List.mem_map.1 hs
 have hp':p<(gs.getD j ⟨.q,0,0⟩).vs.length:=by simpa using hp
 have hq:(p+1) % (gs.getD j ⟨.q,0,0⟩).vs.length<(gs.getD j ⟨.q,0,0⟩).vs.length:=Nat.mod_lt _ (by omega)
 exact ⟨p,hp',by rw [tH hp',tH hq];rfl⟩
theorem Bj {fs:List FaV} {gs:List Fc} {n m:Nat} (hM:Match fs gs n) (hG:vX gs n m):((stL fs).map keyS).Nodup:=by
 unfold stL
 have K:∀ {j:Nat},j<gs.length→∀ {p:Nat},p<(gs.getD j ⟨.q,0,0⟩).vs.length→((gs.getD j ⟨.q,0,0⟩).va p).1≤n∧((gs.getD j ⟨.q,0,0⟩).vb p).1≤n:=fun hj p hp =>
  ⟨(Fc.bnd (hG.get hj)).1,by rw [Fc.ae8];exact (Fc.bnd (hG.get hj)).1⟩
 have E:∀ {a b c d:Nat × Nat},a.1≤n→b.1≤n→c.1≤n→d.1≤n→∀ {f r f' r':Nat},keyS ⟨ix n a.1 a.2,ix n b.1 b.2,f,r⟩=keyS ⟨ix n c.1 c.2,ix n d.1 d.2,f',r'⟩→a=c∧b=d:=by
  intro a b c d ha hb hc hd f r f' r' h
  simp only [keyS,Prod.mk.injEq] at h
  have h1:=XG ha hc (by exact_mod_cast h.1)
  have h2:=XG hb hd (by exact_mod_cast h.2)
  exact ⟨Prod.ext h1.1 h1.2,Prod.ext h2.1 h2.2⟩
 refine Gq (fun j hj=>?_) (fun j j' hjj hj' x hx y hy hxy=>?_)
 ·rw [hM.len] at hj
  unfold gF stF
  rw [hM.ri hj]
  have e:pre (gR j [(fs.getD j f0).o]) [(fs.getD j f0).o].length=stR j 0 (fs.getD j f0).o.xs:=by simp [pre,gR]
  rw [e,(hM.at' j hj).1]
  unfold stR
  rw [wU,List.map_map]
  refine mZ fun p q hpq hq hk=>?_
  have hp1:p<(gs.getD j ⟨.q,0,0⟩).vs.length:=by omega
  have m1:(p+1) % (gs.getD j ⟨.q,0,0⟩).vs.length<(gs.getD j ⟨.q,0,0⟩).vs.length:=Nat.mod_lt _ (by omega)
  have m2:(q+1) % (gs.getD j ⟨.q,0,0⟩).vs.length<(gs.getD j ⟨.q,0,0⟩).vs.length:=Nat.mod_lt _ (by omega)
  simp only [Function.comp_apply] at hk
  rw [tH hp1,tH hq,tH m1,tH m2] at hk
  have:=E (K hj hp1).1 (K hj m1).1 (K hj hq).1 (K hj m2).1 hk
  have:=Fc.inj hp1 hq this.1
  omega
 rw [hM.len] at hj'
 obtain ⟨p,hp,rfl⟩:=LC hM (show j<gs.length by omega) hx
 obtain ⟨q,hq,rfl⟩:=LC hM hj' hy
 have hj:j<gs.length:=by omega
 obtain ⟨h1,h2⟩:=E (K hj hp).1 (K hj hp).2 (K hj' hq).1 (K hj' hq).2 hxy
 exact hG.apart j j' hj hj' (by omega) (Fc.share hp hq h1 h2)
theorem Dx {X Y:Nat→Int} {ps:List Pt} {n m:Nat} (hT:Tab ps X Y n m) {e:Ge} (he:e.ok n m) {v w:Nat × Nat} (hv:v=(e.i,e.k)∧w=(e.i+e.di,e.k+e.dk)∨v=(e.i+e.di,e.k+e.dk)∧w=(e.i,e.k)) :
  gP ps (ix n v.1 v.2)=e.lo X Y∧gP ps (ix n w.1 w.2)=e.hi X Y∨gP ps (ix n v.1 v.2)=e.hi X Y∧gP ps (ix n w.1 w.2)=e.lo X Y:=by
 have q1:=hT.at' e.i e.k (by have:=he.i;omega) (by have:=he.k;omega)
 have q2:=hT.at' (e.i+e.di) (e.k+e.dk) he.i he.k
 rcases hv with ⟨rfl,rfl⟩|⟨rfl,rfl⟩
 ·exact .inl ⟨q1,q2⟩
 exact .inr ⟨q2,q1⟩
theorem LD {X Y:Nat→Int} {ps:List Pt} {n m:Nat} (hT:Tab ps X Y n m) {e f:Ge} (he:e.ok n m) (hf:f.ok n m) {v w v' w':Nat × Nat} (hv:v=(e.i,e.k)∧w=(e.i+e.di,e.k+e.dk)∨v=(e.i+e.di,e.k+e.dk)∧w=(e.i,e.k)) (hv':v'=(f.i,f.k)∧w'=(f.i+f.di,f.k+f.dk)∨v'=(f.i+f.di,f.k+f.dk)∧w'=(f.i,f.k)) {a b c d:Nat} :
  iT ps ⟨ix n v.1 v.2,ix n w.1 w.2,a,b⟩ ⟨ix n v'.1 v'.2,ix n w'.1 w'.2,c,d⟩=false:=by
 unfold iT
 by_cases hef:e=f
 ·subst hef
  rw [if_pos ?_]
  simp only
  rcases hv with ⟨rfl,rfl⟩|⟨rfl,rfl⟩ <;> rcases hv' with ⟨rfl,rfl⟩|⟨rfl,rfl⟩ <;> simp
 split
 ·rfl
 rcases Q8 hT.x hT.y he hf hef (Dx hT he hv) (Dx hT hf hv') with h|⟨h,j,l,h1,h2⟩
 ·rw [if_pos h]
 simp only
 rw [h,if_neg (by decide),if_pos rfl]
 apply decide_eq_false
 rintro ⟨n1,n2,n3,n4⟩
 rcases hv with ⟨rfl,rfl⟩|⟨rfl,rfl⟩ <;> rcases hv' with ⟨rfl,rfl⟩|⟨rfl,rfl⟩ <;> rcases h1 with ⟨rfl,rfl⟩|⟨rfl,rfl⟩ <;> rcases h2 with ⟨g1,g2⟩|⟨g1,g2⟩ <;> simp only [g1,g2] at n1 n2 n3 n4 <;> simp at n1 n2 n3 n4
theorem NW {X Y:Nat→Int} {ps:List Pt} {n m:Nat} (hT:Tab ps X Y n m) {fs:List FaV} {gs:List Fc} (hM:Match fs gs n) (hG:vX gs n m):bV ps fs=false:=by
 have S:∀ s∈stL fs,∃ j p,j<gs.length∧p<(gs.getD j ⟨.q,0,0⟩).vs.length∧s=⟨ix n ((gs.getD j ⟨.q,0,0⟩).va p).1 ((gs.getD j ⟨.q,0,0⟩).va p).2,ix n ((gs.getD j ⟨.q,0,0⟩).vb p).1 ((gs.getD j ⟨.q,0,0⟩).vb p).2,j,0⟩:=fun s hs=>by
  obtain ⟨j,hj,hs⟩:=tC.1 hs
  rw [hM.len] at hj
  obtain ⟨p,hp,rfl⟩:=LC hM hj hs
  exact ⟨j,p,hj,hp,rfl⟩
 have C:∀ s∈stL fs,∀ t∈stL fs,iT ps s t=false:=fun s hs t ht=>by
  obtain ⟨j,p,hj,hp,rfl⟩:=S s hs
  obtain ⟨j',p',hj',hp',rfl⟩:=S t ht
  obtain ⟨e,he,hv,_⟩:=Fc.edge (hG.get hj) hp
  obtain ⟨f,hf,hv',_⟩:=Fc.edge (hG.get hj') hp'
  exact LD hT he hf hv hv'
 have z1:((List.range (stL fs).length).any (ig ps (stL fs)))=false:=by
  rw [List.any_eq_false]
  intro i hi
  have hi':i<(stL fs).length:=by simpa using hi
  rw [Bool.not_eq_true,ig,List.any_eq_false]
  intro t ht
  rw [List.getD_eq_getElem?_getD,List.getElem?_eq_getElem hi',Bool.not_eq_true]
  exact C _ (List.getElem_mem hi') t (List.mem_of_mem_take ht)
 have z2:(stL fs).any (dM ps fs)=false:=by
  rw [List.any_eq_false]
  intro s hs
  obtain ⟨j,p,hj,hp,rfl⟩:=S s hs
  simp [dM]
 have z3:(stL fs).any (fV ps fs)=false:=by
  rw [List.any_eq_false]
  intro s hs
  obtain ⟨j,p,hj,hp,rfl⟩:=S s hs
  rw [Bool.not_eq_true,fV,List.any_eq_false]
  intro i hi
  have hi':i<gs.length:=by rw [← hM.len];simpa using hi
  rw [jC,dF,(hM.at' i hi').1]
  by_cases hij:i=j
  ·simp [hij]
  rw [decide_eq_false (Rj hT hG hj hi' hij (r:=0) hp)];simp
 rw [bV,decide_eq_true (Bj hM hG),z1,z2,z3];rfl
theorem yj {X Y:Nat→Int} {n m:Nat} {c:CxV} {gs:List Fc} (hT:Tab c.ps X Y n m) (hM:Match c.fs gs n) (hG:vX gs n m) (h3:3≤c.ps.length) (adH:c.ps.length≤120) (h1:1≤gs.length) (h64:gs.length≤64) (Jw:c.ps.any og=false) (hnd:c.ps.Nodup):cu c=false:=by
 have hl:=hM.len
 have G:∀ f∈c.fs,∃ g:Fc,g.ok n m∧f.o.xs=g.ring n∧f.hs = []:=fun f hf=>by
  obtain ⟨j,hj,rfl⟩:=List.getElem_of_mem hf
  have hj':j<gs.length:=by omega
  have:=hM.at' j hj'
  rw [List.getD_eq_getElem?_getD,List.getElem?_eq_getElem hj] at this
  exact ⟨_,hG.get hj',this.1,this.2⟩
 have one:∀ f∈c.fs,∀ bad:Int→List Int→Bool,(∀ g:Fc,g.ok n m→bad 0 (g.ring n)=false)→rW f.ri bad=false:=fun f hf bad hb=>by
  obtain ⟨g,hg,e1,e2⟩:=G f hf
  rw [rW,FaV.ri,e2]
  apply decide_eq_false
  rintro ⟨k,hk,h⟩
  simp only [List.length_cons,List.length_nil] at hk
  obtain rfl:k=0:=by omega
  simp only [List.getD_cons_zero,e1] at h
  have:=hb g hg
  rw [show ((0:Nat):Int)=0 from rfl,this] at h
  cases h
 have z1:c.fs.any (dU c.ps.length)=false:=by
  rw [List.any_eq_false]
  intro f hf
  have h8:¬ 8<f.hs.length:=by obtain ⟨_,_,_,e2⟩:=G f hf;rw [e2];simp
  rw [dU,one f hf _ (fun g hg=>qN (by rw [wU];have:=g.len;omega) (by rw [wU];have:=g.len;omega) (by rw [hT.len];exact Vz hg)),decide_eq_false h8];simp
 have z2:c.fs.any (fun f=>rW f.ri (badR c.ps))=false:=by
  rw [List.any_eq_false]
  intro f hf
  rw [one f hf _ (fun g hg=>Gn hT hg)];simp
 have z3:c.fs.any (fun f=>rW f.ri (iK c.ps))=false:=by
  rw [List.any_eq_false]
  intro f hf
  rw [one f hf _ (fun g hg=>Gp hT hg)];simp
 have z0:jM c=false:=by rw [jM,decide_eq_false (by omega),decide_eq_false (by omega),decide_eq_false (by omega),decide_eq_false (by omega)];rfl
 rw [cu,z0,Jw,z1,z2,z3,NW hT hM hG,decide_eq_true hnd];rfl
theorem wS {x:Int} (h:sgn x=0):x=0:=by
 unfold sgn at h
 repeat' split at h
 all_goals omega
theorem yt {a b p:Pt} (h:onE a b p):aB a b p=0∧(a.1≤p.1∧p.1≤b.1∨b.1≤p.1∧p.1≤a.1)∧(a.2≤p.2∧p.2≤b.2∨b.2≤p.2∧p.2≤a.2):=by
 obtain ⟨h0,h1,h2,h3,h4⟩:=h
 refine ⟨h0,?_,?_⟩
 ·simp only [mn,mx] at h1 h2
  split at h1 <;> split at h2 <;> omega
 simp only [mn,mx] at h3 h4
 split at h3 <;> split at h4 <;> omega
theorem fH {a b:Int} (ha:0<a) (h:a*b=0):b=0:=by
 rcases Int.mul_eq_zero.1 h with h|h
 ·omega
 exact h
theorem Dy (a b:Int):mn a b=mn b a:=by unfold mn;split <;> split <;> omega
theorem Dz (a b:Int):mx a b=mx b a:=by unfold mx;split <;> split <;> omega
theorem abK (a b c d:Pt):Jv a b d c=Jv a b c d:=by unfold Jv;rw [Dy d.2,Dz d.2,Dy d.1,Dz d.1]
theorem abL (a b c d:Pt):Jv b a c d=Jv a b c d:=by
 unfold Jv;rw [Dy b.2,Dz b.2,Dy b.1,Dz b.1]
 by_cases h:a.1=b.1
 ·rw [if_pos h,if_pos h.symm]
 rw [if_neg h,if_neg (fun q=>h q.symm)]
section
variable {X Y:Nat→Int} {n m:Nat} (hX:Inc X n) (hY:Inc Y m)
include hX hY
omit hX hY in
theorem DF {e:Ge} {a b p:Pt} (hab:a=e.lo X Y∧b=e.hi X Y∨a=e.hi X Y∧b=e.lo X Y) (h:aB a b p=0):aB (e.lo X Y) (e.hi X Y) p=0:=by
 rcases hab with ⟨rfl,rfl⟩|⟨rfl,rfl⟩
 ·exact h
 rw [qQ] at h;omega
def Shr (e f:Ge):Prop:=∃ j l,(j=e.i∧l=e.k∨j=e.i+e.di∧l=e.k+e.dk)∧(j=f.i∧l=f.k∨j=f.i+f.di∧l=f.k+f.dk)
theorem VA {e f:Ge} (he:e.ok n m) (hf:f.ok n m) (hne:e≠f) {a b c d:Pt} (hab:a=e.lo X Y∧b=e.hi X Y∨a=e.hi X Y∧b=e.lo X Y) (hcd:c=f.lo X Y∧d=f.hi X Y∨c=f.hi X Y∧d=f.lo X Y) (h1:aB a b c=0) (h2:aB a b d=0) :
  0<Jv a b c d∨Jv a b c d=0∧Shr e f:=by
 have t1:aB (e.lo X Y) (e.hi X Y) (f.lo X Y)=0:=by
  rcases hcd with ⟨rfl,rfl⟩|⟨rfl,rfl⟩
  ·exact DF hab h1
  exact DF hab h2
 have t2:aB (e.lo X Y) (e.hi X Y) (f.hi X Y)=0:=by
  rcases hcd with ⟨rfl,rfl⟩|⟨rfl,rfl⟩
  ·exact DF hab h2
  exact DF hab h1
 have low:Jv a b c d=Jv (e.lo X Y) (e.hi X Y) (f.lo X Y) (f.hi X Y):=by
  rcases hab with ⟨rfl,rfl⟩|⟨rfl,rfl⟩ <;> rcases hcd with ⟨rfl,rfl⟩|⟨rfl,rfl⟩
  ·rfl
  ·exact abK _ _ _ _
  ·exact abL _ _ _ _
  rw [abL,abK]
 rw [low]
 obtain ⟨e1,e2,e3,e4,e5⟩:=he
 obtain ⟨f1,f2,f3,f4,f5⟩:=hf
 obtain ⟨i,k,di,dk⟩:=e
 obtain ⟨j,l,dj,dl⟩:=f
 simp only [Ge.lo,Ge.hi,gv,aB] at *
 have exl:=hX.le (show i≤i+di by omega) e1
 have eyl:=hY.le (show k≤k+dk by omega) e2
 have fxl:=hX.le (show j≤j+dj by omega) f1
 have fyl:=hY.le (show l≤l+dl by omega) f2
 rcases (show (di=1∧dk=0)∨(di=0∧dk=1)∨(di=1∧dk=1) by omega) with ⟨rfl,rfl⟩|⟨rfl,rfl⟩|⟨rfl,rfl⟩
 ·have hx:=hX.lt i (i+1) (by omega) e1
  simp only [Nat.add_zero,Int.sub_self,Int.zero_mul,Int.sub_zero] at t1 t2
  have y1:=fH (by omega) t1
  have y2:=fH (by omega) t2
  have l1:l=k:=by
   rcases Nat.lt_trichotomy l k with h|h|h
   ·have:=hY.lt l k h (by omega);omega
   ·exact h
   have:=hY.lt k l h (by omega);omega
  have l2:dl=0:=by
   rcases (show dl=0∨dl=1 by omega) with h|h
   ·exact h
   subst h;have:=hY.lt l (l+1) (by omega) f2;omega
  subst l1 l2
  have:dj=1:=by omega
  subst this
  have hij:i≠j:=fun q=>hne (by subst q;rfl)
  unfold Jv
  rw [if_neg (by simp only;omega)]
  rcases Nat.lt_or_gt_of_ne hij with h|h
  ·have q1:=hX.le (show i+1≤j by omega) (by omega)
   have q2:=hX.lt j (j+1) (by omega) f1
   have e0:mx (mn (X i) (X (i+1))) (mn (X j) (X (j+1)))-mn (mx (X i) (X (i+1))) (mx (X j) (X (j+1)))=X j-X (i+1):=by
    simp only [mn,mx];repeat' split
    all_goals omega
   simp only [e0]
   rcases Nat.lt_or_eq_of_le (show i+1≤j by omega) with h' | h'
   ·have:=hX.lt (i+1) j h' (by omega);left;omega
   right;subst h';exact ⟨by omega,i+1,l,.inr ⟨rfl,rfl⟩,.inl ⟨rfl,rfl⟩⟩
  have q1:=hX.le (show j+1≤i by omega) (by omega)
  have q2:=hX.lt j (j+1) (by omega) f1
  have e0:mx (mn (X i) (X (i+1))) (mn (X j) (X (j+1)))-mn (mx (X i) (X (i+1))) (mx (X j) (X (j+1)))=X i-X (j+1):=by
   simp only [mn,mx];repeat' split
   all_goals omega
  simp only [e0]
  rcases Nat.lt_or_eq_of_le (show j+1≤i by omega) with h' | h'
  ·have:=hX.lt (j+1) i h' (by omega);left;omega
  right;subst h';exact ⟨by omega,j+1,l,.inl ⟨rfl,rfl⟩,.inr ⟨rfl,rfl⟩⟩
 ·have hy:=hY.lt k (k+1) (by omega) e2
  simp only [Nat.add_zero,Int.sub_self,Int.zero_mul,Int.zero_sub] at t1 t2
  have x1:=fH (a:=Y (k+1)-Y k) (b:=X j-X i) (by omega) (by omega)
  have x2:=fH (a:=Y (k+1)-Y k) (b:=X (j+dj)-X i) (by omega) (by omega)
  have l1:j=i:=by
   rcases Nat.lt_trichotomy j i with h|h|h
   ·have:=hX.lt j i h (by omega);omega
   ·exact h
   have:=hX.lt i j h (by omega);omega
  have l2:dj=0:=by
   rcases (show dj=0∨dj=1 by omega) with h|h
   ·exact h
   subst h;have:=hX.lt j (j+1) (by omega) f1;omega
  subst l1 l2
  have:dl=1:=by omega
  subst this
  have hkl:k≠l:=fun q=>hne (by subst q;rfl)
  unfold Jv
  rw [if_pos (by simp only [Nat.add_zero])]
  rcases Nat.lt_or_gt_of_ne hkl with h|h
  ·have q1:=hY.le (show k+1≤l by omega) (by omega)
   have q2:=hY.lt l (l+1) (by omega) f2
   have e0:mx (mn (Y k) (Y (k+1))) (mn (Y l) (Y (l+1)))-mn (mx (Y k) (Y (k+1))) (mx (Y l) (Y (l+1)))=Y l-Y (k+1):=by
    simp only [mn,mx];repeat' split
    all_goals omega
   simp only [e0]
   rcases Nat.lt_or_eq_of_le (show k+1≤l by omega) with h' | h'
   ·have:=hY.lt (k+1) l h' (by omega);left;omega
   right;subst h';exact ⟨by omega,j,k+1,.inr ⟨rfl,rfl⟩,.inl ⟨rfl,rfl⟩⟩
  have q1:=hY.le (show l+1≤k by omega) (by omega)
  have q2:=hY.lt l (l+1) (by omega) f2
  have e0:mx (mn (Y k) (Y (k+1))) (mn (Y l) (Y (l+1)))-mn (mx (Y k) (Y (k+1))) (mx (Y l) (Y (l+1)))=Y k-Y (l+1):=by
   simp only [mn,mx];repeat' split
   all_goals omega
  simp only [e0]
  rcases Nat.lt_or_eq_of_le (show l+1≤k by omega) with h' | h'
  ·have:=hY.lt (l+1) k h' (by omega);left;omega
  right;subst h';exact ⟨by omega,j,l+1,.inl ⟨rfl,rfl⟩,.inr ⟨rfl,rfl⟩⟩
 have hx:=hX.lt i (i+1) (by omega) e1
 have hy:=hY.lt k (k+1) (by omega) e2
 have dxy:(X (i+1)-X i)*(Y (l+dl)-Y l)=(Y (k+1)-Y k)*(X (j+dj)-X j):=by grind
 rcases (show (dj=1∧dl=0)∨(dj=0∧dl=1)∨(dj=1∧dl=1) by omega) with ⟨rfl,rfl⟩|⟨rfl,rfl⟩|⟨rfl,rfl⟩
 ·exfalso
  have hfx:=hX.lt j (j+1) (by omega) f1
  simp only [Nat.add_zero,Int.sub_self,Int.mul_zero] at dxy
  have:=Int.mul_pos (a:=Y (k+1)-Y k) (b:=X (j+1)-X j) (by omega) (by omega)
  omega
 ·exfalso
  have hfy:=hY.lt l (l+1) (by omega) f2
  simp only [Nat.add_zero,Int.sub_self,Int.mul_zero] at dxy
  have:=Int.mul_pos (a:=X (i+1)-X i) (b:=Y (l+1)-Y l) (by omega) (by omega)
  omega
 have hfx:=hX.lt j (j+1) (by omega) f1
 have hij:i≠j:=fun q=>by
  subst q
  rw [Int.sub_self,Int.mul_zero,Int.sub_zero] at t1
  have:=fH (by omega) t1
  have:l=k:=by
   rcases Nat.lt_trichotomy l k with h|h|h
   ·have:=hY.lt l k h (by omega);omega
   ·exact h
   have:=hY.lt k l h (by omega);omega
  subst this
  exact hne rfl
 unfold Jv
 rw [if_neg (by simp only;omega)]
 rcases Nat.lt_or_gt_of_ne hij with h|h
 ·have q1:=hX.le (show i+1≤j by omega) (by omega)
  have e0:mx (mn (X i) (X (i+1))) (mn (X j) (X (j+1)))-mn (mx (X i) (X (i+1))) (mx (X j) (X (j+1)))=X j-X (i+1):=by
   simp only [mn,mx];repeat' split
   all_goals omega
  simp only [e0]
  rcases Nat.lt_or_eq_of_le (show i+1≤j by omega) with h' | h'
  ·have:=hX.lt (i+1) j h' (by omega);left;omega
  right
  subst h'
  have q3:(X (i+1)-X i)*(Y l-Y (k+1))=0:=by grind
  have q4:=fH (by omega) q3
  have:l=k+1:=by
   rcases Nat.lt_trichotomy l (k+1) with h|h|h
   ·have:=hY.lt l (k+1) h (by omega);omega
   ·exact h
   have:=hY.lt (k+1) l h (by omega);omega
  subst this
  exact ⟨by omega,i+1,k+1,.inr ⟨rfl,rfl⟩,.inl ⟨rfl,rfl⟩⟩
 have q1:=hX.le (show j+1≤i by omega) (by omega)
 have e0:mx (mn (X i) (X (i+1))) (mn (X j) (X (j+1)))-mn (mx (X i) (X (i+1))) (mx (X j) (X (j+1)))=X i-X (j+1):=by
  simp only [mn,mx];repeat' split
  all_goals omega
 simp only [e0]
 rcases Nat.lt_or_eq_of_le (show j+1≤i by omega) with h' | h'
 ·have:=hX.lt (j+1) i h' (by omega);left;omega
 right
 subst h'
 rw [Int.sub_self,Int.mul_zero,Int.sub_zero] at t2
 have q4:=fH (by omega) t2
 have:l+1=k:=by
  rcases Nat.lt_trichotomy (l+1) k with h|h|h
  ·have:=hY.lt (l+1) k h (by omega);omega
  ·exact h
  have:=hY.lt k (l+1) h (by omega);omega
 subst this
 exact ⟨by omega,j+1,l+1,.inl ⟨rfl,rfl⟩,.inr ⟨rfl,rfl⟩⟩
theorem XH {e f:Ge} (he:e.ok n m) (hf:f.ok n m) (hne:e≠f) {a b c d:Pt} (hab:a=e.lo X Y∧b=e.hi X Y∨a=e.hi X Y∧b=e.lo X Y) (hcd:c=f.lo X Y∧d=f.hi X Y∨c=f.hi X Y∧d=f.lo X Y) :
  YN a b c d=0∨YN a b c d=1∧Shr e f:=by
 unfold YN
 by_cases hl:sgn (aB a b c)=0∧sgn (aB a b d)=0
 ·rw [if_pos hl]
  rcases VA hX hY he hf hne hab hcd (wS hl.1) (wS hl.2) with h|⟨h,hs⟩
  ·rw [if_pos h];exact .inl rfl
  rw [if_neg (by omega),if_pos h];exact .inr ⟨rfl,hs⟩
 have hx:¬ (sgn (aB a b c)*sgn (aB a b d)<0∧sgn (aB c d a)*sgn (aB c d b)<0):=Lp hX hY he hf hne hab hcd
 rw [if_neg hl,if_neg hx]
 by_cases hb:onE a b c∨onE a b d∨onE c d a∨onE c d b
 ·rw [if_pos hb]
  right
  refine ⟨rfl,?_⟩
  have e1:=he.i;have e2:=he.k;have f1:=hf.i;have f2:=hf.k
  have A:∀ {p:Pt},(p=f.lo X Y∨p=f.hi X Y)→onE a b p→Shr e f:=by
   rintro p (rfl|rfl) ho
   ·exact ⟨f.i,f.k,Gl hX hY he (by omega) (by omega) hab (yt ho),.inl ⟨rfl,rfl⟩⟩
   exact ⟨f.i+f.di,f.k+f.dk,Gl hX hY he (by omega) (by omega) hab (yt ho),.inr ⟨rfl,rfl⟩⟩
  have B:∀ {p:Pt},(p=e.lo X Y∨p=e.hi X Y)→onE c d p→Shr e f:=by
   rintro p (rfl|rfl) ho
   ·exact ⟨e.i,e.k,.inl ⟨rfl,rfl⟩,Gl hX hY hf (by omega) (by omega) hcd (yt ho)⟩
   exact ⟨e.i+e.di,e.k+e.dk,.inr ⟨rfl,rfl⟩,Gl hX hY hf (by omega) (by omega) hcd (yt ho)⟩
  rcases hb with h|h|h|h
  ·exact A (by rcases hcd with ⟨rfl,rfl⟩|⟨rfl,rfl⟩ <;> simp) h
  ·exact A (by rcases hcd with ⟨rfl,rfl⟩|⟨rfl,rfl⟩ <;> simp) h
  ·exact B (by rcases hab with ⟨rfl,rfl⟩|⟨rfl,rfl⟩ <;> simp) h
  exact B (by rcases hab with ⟨rfl,rfl⟩|⟨rfl,rfl⟩ <;> simp) h
 rw [if_neg hb];exact .inl rfl
end
structure RR (r:List Pt):Prop where
 l3:3≤r.length
 l40:r.length≤40
 far:∀ i,i<r.length→og (rA r i)=false
 still:∀ i,i<r.length→rA r i≠rB r i
 ajB:∀ i,i<r.length→¬ dR r i
 how:∀ i j,i<r.length→j+1<i→¬ (j=0∧i+1=r.length)→YN (rA r j) (rA r (j+1)) (rA r i) (rB r i)=0
def LG (ps:List Pt) (s t:St):Bool :=
 if s.a=t.a∧s.b=t.b∨s.a=t.b∧s.b=t.a then false
 else if YN (gP ps s.a) (gP ps s.b) (gP ps t.a) (gP ps t.b)=1 then decide (s.a≠t.a∧s.a≠t.b∧s.b≠t.a∧s.b≠t.b)
 else decide (YN (gP ps s.a) (gP ps s.b) (gP ps t.a) (gP ps t.b)≠0)
def YT (ps:List Pt) (t:Int) (p:Pt) (r:Nat) (l:List Int):Bool:=decide (r=0∧mY (cor ps t l) p≠2∨0<r∧mY (cor ps t l) p≠0)
structure RG (c:CxV):Prop where
 p3:3≤c.ps.length
 amz:c.ps.length≤120
 f1:1≤c.fs.length
 f64:c.fs.length≤64
 far:∀ i,i<c.ps.length→og (gP c.ps i)=false
 twin:∀ i k,i<c.ps.length→k<i→gP c.ps i≠gP c.ps k
 holes:∀ j,j<c.fs.length→(c.fs.getD j f0).hs.length≤8
 idx:∀ j r,j<c.fs.length→r<(c.fs.getD j f0).ri.length→(3≤((c.fs.getD j f0).ri.getD r r0).xs.length∧((c.fs.getD j f0).ri.getD r r0).xs.length≤40)∧∀ x∈((c.fs.getD j f0).ri.getD r r0).xs,0≤x∧x<(c.ps.length:Int)
 ring:∀ j r,j<c.fs.length→r<(c.fs.getD j f0).ri.length→RR (cor c.ps 1 ((c.fs.getD j f0).ri.getD r r0).xs)
 turn:∀ j r,j<c.fs.length→r<(c.fs.getD j f0).ri.length→¬ (r=0∧bW (cor c.ps 1 ((c.fs.getD j f0).ri.getD r r0).xs) (cor c.ps 1 ((c.fs.getD j f0).ri.getD r r0).xs).length<0∨0<r∧0<bW (cor c.ps 1 ((c.fs.getD j f0).ri.getD r r0).xs) (cor c.ps 1 ((c.fs.getD j f0).ri.getD r r0).xs).length)
 twice:∀ i k,i<(stL c.fs).length→k<i→¬ (((stL c.fs).getD i st0).a=((stL c.fs).getD k st0).a∧((stL c.fs).getD i st0).b=((stL c.fs).getD k st0).b)
 clash:∀ i k,i<(stL c.fs).length→k<i→LG c.ps ((stL c.fs).getD i st0) ((stL c.fs).getD k st0)=false
 hole:∀ s∈stL c.fs,s.r≠0→∀ r,r<(c.fs.getD s.f f0).ri.length→r≠s.r→YT c.ps 2 (oQ c.ps s) r ((c.fs.getD s.f f0).ri.getD r r0).xs=false
 over:∀ s∈stL c.fs,∀ j,j<c.fs.length→j≠s.f→∃ r,r<(c.fs.getD j f0).ri.length∧YT c.ps 2 (oQ c.ps s) r ((c.fs.getD j f0).ri.getD r r0).xs=true
theorem YU {a b p:Pt} (h0:aB a b p=0) (h:a.2≤p.2∧p.2<b.2∨b.2≤p.2∧p.2<a.2):onE a b p:=by
 have e1:(a.2-b.2)*(p.1-a.1)=(b.1-a.1)*(a.2-p.2):=by unfold aB at h0;grind
 have e2:(a.2-b.2)*(p.1-b.1)=(a.1-b.1)*(p.2-b.2):=by unfold aB at h0;grind
 have e3:(b.2-a.2)*(p.1-a.1)=(b.1-a.1)*(p.2-a.2):=by unfold aB at h0;grind
 have e4:(b.2-a.2)*(p.1-b.1)=(a.1-b.1)*(b.2-p.2):=by unfold aB at h0;grind
 have key:∀ {d x y z:Int},0<d→d*x=y*z→0≤z→(0≤y→0≤x)∧(y≤0→x≤0):=by
  intro d x y z hd he hz
  constructor
  ·intro hy
   exact eF hd (by rw [he];exact Int.mul_nonneg hy hz)
  intro hy
  have:0 ≤ -x:=eF hd (by
   have q:=Int.mul_nonneg (show 0 ≤ -y by omega) hz
   have e5:d * -x = -y*z:=by grind
   rw [e5];exact q)
  omega
 refine ⟨h0,?_⟩
 rcases h with ⟨h1,h2⟩|⟨h1,h2⟩
 ·have q1:=key (show 0<b.2-a.2 by omega) e3 (by omega)
  have q2:=key (show 0<b.2-a.2 by omega) e4 (by omega)
  rcases Int.le_total a.1 b.1 with h|h
  ·have:=q1.1 (by omega);have:=q2.2 (by omega)
   refine ⟨?_,?_,?_,?_⟩ <;> simp only [mn,mx] <;> split <;> omega
  have:=q1.2 (by omega);have:=q2.1 (by omega)
  refine ⟨?_,?_,?_,?_⟩ <;> simp only [mn,mx] <;> split <;> omega
 have q1:=key (show 0<a.2-b.2 by omega) e1 (by omega)
 have q2:=key (show 0<a.2-b.2 by omega) e2 (by omega)
 rcases Int.le_total a.1 b.1 with h|h
 ·have:=q1.1 (by omega);have:=q2.2 (by omega)
  refine ⟨?_,?_,?_,?_⟩ <;> simp only [mn,mx] <;> split <;> omega
 have:=q1.2 (by omega);have:=q2.1 (by omega)
 refine ⟨?_,?_,?_,?_⟩ <;> simp only [mn,mx] <;> split <;> omega
theorem VB {a b p : Pt} (h : ¬ onE a b p) : (adI a b p = true ↔ stepW a b p ≠ 0) ∧ (stepW a b p = 0 ∨ stepW a b p = 1 ∨ stepW a b p = -1) := by
  refine ⟨?_, by unfold stepW; split; · exact .inr (.inl rfl)
                 split; · exact .inr (.inr rfl)
                 exact .inl rfl⟩
  unfold adI stepW
  by_cases h1 : a.2 ≤ p.2 ∧ p.2 < b.2
  · rw [decide_eq_false (show ¬ p.2 < a.2 by omega), decide_eq_true h1.2, decide_eq_true (show a.2 < b.2 by omega)]
    rw [if_neg (show ¬ (p.2 < a.2 ∧ b.2 ≤ p.2 ∧ aB a b p < 0) by omega)]
    by_cases h2 : 0 < aB a b p
    · rw [if_pos ⟨h1.1, h1.2, h2⟩, decide_eq_true h2]; decide
    rw [if_neg (by omega), decide_eq_false h2]; decide
  rw [if_neg (by omega)]
  by_cases h3 : b.2 ≤ p.2 ∧ p.2 < a.2
  · rw [decide_eq_true h3.2, decide_eq_false (show ¬ p.2 < b.2 by omega), decide_eq_false (show ¬ a.2 < b.2 by omega)]
    have h0 : aB a b p ≠ 0 := fun e => h (YU e (.inr h3))
    by_cases h2 : aB a b p < 0
    · rw [if_pos ⟨h3.2, h3.1, h2⟩, decide_eq_false (by omega)]; decide
    rw [if_neg (by omega), decide_eq_true (by omega)]; decide
  rw [if_neg (by omega)]
  have e : decide (p.2 < a.2) = decide (p.2 < b.2) := by rw [Bool.eq_iff_iff, decide_eq_true_iff, decide_eq_true_iff]; omega
  rw [e]; simp
theorem DI {r:List Pt} {p:Pt} : ∀ {i:Nat},(∀ k,k<i→¬ onE (rA r k) (rB r k) p)→Vr r p i=decide (dJ r p i % 2≠0)
 | 0,_=>rfl
 | i+1,h=>by
  have ih:=DI (r:=r) (p:=p) (i:=i) fun k hk=>h k (by omega)
  obtain ⟨c1,c2⟩:=VB (h i (by omega))
  rw [Vr,dJ,ih]
  cases hc:adI (rA r i) (rB r i) p
  ·have:stepW (rA r i) (rB r i) p=0:=by
    rcases c2 with h|h|h
    ·exact h
    ·have:=c1.2 (by omega);rw [hc] at this;cases this
    have:=c1.2 (by omega);rw [hc] at this;cases this
   rw [this];simp
  have hs:=c1.1 hc
  rw [Bool.xor_true,Bool.eq_iff_iff,Bool.not_eq_true',decide_eq_false_iff_not,decide_eq_true_iff]
  omega
theorem tJ {r:List Pt} {p:Pt} (h:mY r p=2):iZ r p=2:=by
 unfold mY at h
 split at h
 ·cases h
 rename_i h1
 split at h
 ·rename_i h2
  refine Lr (fun i hi ho=>h1 ⟨i,hi,ho⟩) fun h0=>?_
  rw [DI (fun k hk ho=>h1 ⟨k,hk,ho⟩),h0] at h2
  simp at h2
 cases h
theorem VD {r:List Pt} {p:Pt} {i:Nat} (hi:i<r.length) (h:onE (rA r i) (rB r i) p):mY r p=1:=by
 unfold mY;rw [if_pos ⟨i,hi,h⟩]
theorem VE {r:List Pt} {p:Pt} (h:∀ i,i<r.length→¬ onE (rA r i) (rB r i) p) (hw:dJ r p r.length % 2≠0):mY r p=2:=by
 unfold mY
 rw [if_neg (by rintro ⟨i,hi,ho⟩;exact h i hi ho),DI h,if_pos (decide_eq_true hw)]
theorem Bl {r:List Pt} (h:iJ r=0):(3≤r.length∧r.length≤40)∧(∀ i,i<r.length→¬ jB r i)∧(∀ i,i<r.length→¬ dR r i)∧∀ i j,i<r.length→j<r.length→¬ mO r i j:=by
 unfold iJ at h
 split at h
 ·cases h
 split at h
 ·cases h
 split at h
 ·cases h
 split at h
 ·cases h
 rename_i h1 h2 h3 h4
 exact ⟨by omega,fun i hi hs=>h2 ⟨i,hi,hs⟩,fun i hi hs=>h3 ⟨i,hi,hs⟩,fun i j hi hj hc=>h4 ⟨i,hi,j,hj,hc⟩⟩
structure yu (vs:List (Nat × Nat)) (n m:Nat):Prop where
 edge:∀ p,p<vs.length→∃ e:Ge,e.ok n m∧(vs.getD p (0,0)=(e.i,e.k)∧vs.getD ((p+1) % vs.length) (0,0)=(e.i+e.di,e.k+e.dk)∨vs.getD p (0,0)=(e.i+e.di,e.k+e.dk)∧vs.getD ((p+1) % vs.length) (0,0)=(e.i,e.k))
 inj:∀ p q,p<vs.length→q<vs.length→vs.getD p (0,0)=vs.getD q (0,0)→p=q
theorem yu.bnd {vs:List (Nat × Nat)} {n m p:Nat} (h:yu vs n m) (hp:p<vs.length):(vs.getD p (0,0)).1≤n∧(vs.getD p (0,0)).2≤m:=by
 obtain ⟨e,he,hv⟩:=h.edge p hp
 have:=he.i;have:=he.k
 rcases hv with ⟨h1,_⟩|⟨h1,_⟩ <;> rw [h1] <;> simp only <;> omega
def ixs (n:Nat) (vs:List (Nat × Nat)):List Int:=vs.map fun v=>((ix n v.1 v.2:Nat):Int)
section
variable {ps:List Pt} {X Y:Nat→Int} {n m:Nat} (hT:Tab ps X Y n m)
include hT
theorem YV {vs:List (Nat × Nat)} (hg:yu vs n m) (t:Int):cor ps t (ixs n vs)=vs.map fun v=>(t*X v.1,t*Y v.2):=by
 unfold cor ixs
 rw [List.map_map]
 refine List.map_congr_left fun v hv=>?_
 obtain ⟨j,hj,rfl⟩:=List.getElem_of_mem hv
 have hb:=hg.bnd hj
 rw [List.getD_eq_getElem?_getD,List.getElem?_eq_getElem hj] at hb
 have h3:=hT.at' _ _ hb.1 hb.2
 unfold gP at h3
 simp only [Function.comp_apply,Ip,Int.toNat_natCast,Option.getD_some] at h3 ⊢
 rw [h3];rfl
theorem abM {vs:List (Nat × Nat)} (hg:yu vs n m) {p:Nat} (hp:p<vs.length):rA (cor ps 1 (ixs n vs)) p=gv X Y (vs.getD p (0,0)).1 (vs.getD p (0,0)).2:=by
 rw [YV hT hg,rA,yh (d:=(0,0)) hp];simp [gv]
omit hT in
theorem YW {vs:List (Nat × Nat)} (t:Int):(cor ps t (ixs n vs)).length=vs.length:=by unfold cor ixs;rw [List.length_map,List.length_map]
theorem Rn {vs:List (Nat × Nat)} (hg:yu vs n m) {p:Nat} (hp:p<vs.length):rB (cor ps 1 (ixs n vs)) p=gv X Y (vs.getD ((p+1) % vs.length) (0,0)).1 (vs.getD ((p+1) % vs.length) (0,0)).2:=by
 rw [rB,YW,← rA,abM hT hg (Nat.mod_lt _ (by omega))]
theorem Ro {vs:List (Nat × Nat)} (hg:yu vs n m) {i j:Nat} (hi:i<vs.length) (hj:j+1<i) (hne:¬ (j=0∧i+1=vs.length)):YN (rA (cor ps 1 (ixs n vs)) j) (rB (cor ps 1 (ixs n vs)) j) (rA (cor ps 1 (ixs n vs)) i) (rB (cor ps 1 (ixs n vs)) i)=0∧iY (rA (cor ps 1 (ixs n vs)) i) (rB (cor ps 1 (ixs n vs)) i) (rA (cor ps 1 (ixs n vs)) j) (rB (cor ps 1 (ixs n vs)) j)=0:=by
 have hj':j<vs.length:=by omega
 obtain ⟨e,he,hv⟩:=hg.edge j hj'
 obtain ⟨f,hf,hw⟩:=hg.edge i hi
 have hns:¬ Shr e f:=by
  rintro ⟨a,b,h1,h2⟩
  have A:∃ p,(p=j∨p=(j+1) % vs.length)∧vs.getD p (0,0)=(a,b):=by
   rcases hv with ⟨v1,v2⟩|⟨v1,v2⟩ <;> rcases h1 with ⟨rfl,rfl⟩|⟨rfl,rfl⟩
   ·exact ⟨_,.inl rfl,v1⟩
   ·exact ⟨_,.inr rfl,v2⟩
   ·exact ⟨_,.inr rfl,v2⟩
   exact ⟨_,.inl rfl,v1⟩
  have B:∃ p,(p=i∨p=(i+1) % vs.length)∧vs.getD p (0,0)=(a,b):=by
   rcases hw with ⟨v1,v2⟩|⟨v1,v2⟩ <;> rcases h2 with ⟨rfl,rfl⟩|⟨rfl,rfl⟩
   ·exact ⟨_,.inl rfl,v1⟩
   ·exact ⟨_,.inr rfl,v2⟩
   ·exact ⟨_,.inr rfl,v2⟩
   exact ⟨_,.inl rfl,v1⟩
  obtain ⟨p,hp,hpv⟩:=A
  obtain ⟨q,hq,hqv⟩:=B
  have m1:(j+1) % vs.length=j+1:=Nat.mod_eq_of_lt (by omega)
  have m2:(i+1) % vs.length=i+1∨i+1=vs.length∧(i+1) % vs.length=0:=by
   rcases Nat.lt_or_ge (i+1) vs.length with h|h
   ·exact .inl (Nat.mod_eq_of_lt h)
   right
   have:i+1=vs.length:=by omega
   exact ⟨this,by rw [this,Nat.mod_self]⟩
  rw [m1] at hp
  have hp2:p<vs.length:=by omega
  have hq2:q<vs.length:=by
   rcases m2 with h|⟨h,h'⟩
   ·rcases hq with rfl|rfl
    ·exact hi
    exact Nat.mod_lt _ (by omega)
   rcases hq with rfl|rfl
   ·exact hi
   exact Nat.mod_lt _ (by omega)
  have hpq:=hg.inj p q hp2 hq2 (by rw [hpv,hqv])
  subst hpq
  rcases m2 with h|⟨h,h'⟩
  ·rw [h] at hq;omega
  rw [h'] at hq;omega
 have hne':e≠f:=fun q=>hns (by subst q;exact ⟨e.i,e.k,.inl ⟨rfl,rfl⟩,.inl ⟨rfl,rfl⟩⟩)
 have hab:rA (cor ps 1 (ixs n vs)) j=e.lo X Y∧rB (cor ps 1 (ixs n vs)) j=e.hi X Y∨rA (cor ps 1 (ixs n vs)) j=e.hi X Y∧rB (cor ps 1 (ixs n vs)) j=e.lo X Y:=by
  rw [abM hT hg hj',Rn hT hg hj']
  rcases hv with ⟨v1,v2⟩|⟨v1,v2⟩ <;> rw [v1,v2]
  ·exact .inl ⟨rfl,rfl⟩
  exact .inr ⟨rfl,rfl⟩
 have hcd:rA (cor ps 1 (ixs n vs)) i=f.lo X Y∧rB (cor ps 1 (ixs n vs)) i=f.hi X Y∨rA (cor ps 1 (ixs n vs)) i=f.hi X Y∧rB (cor ps 1 (ixs n vs)) i=f.lo X Y:=by
  rw [abM hT hg hi,Rn hT hg hi]
  rcases hw with ⟨v1,v2⟩|⟨v1,v2⟩ <;> rw [v1,v2]
  ·exact .inl ⟨rfl,rfl⟩
  exact .inr ⟨rfl,rfl⟩
 constructor
 ·rcases XH hT.x hT.y he hf hne' hab hcd with h|⟨_,h⟩
  ·exact h
  exact absurd h hns
 rcases Q8 hT.x hT.y hf he (fun q=>hne' q.symm) hcd hab with h|⟨_,a,b,h1,h2⟩
 ·exact h
 exact absurd ⟨a,b,h2,h1⟩ hns
end
def GR (ps:List Pt) (n m r:Nat) (xs:List Int):Prop:=∃ vs,xs=ixs n vs∧yu vs n m∧iJ (cor ps 1 xs)=0∧(r=0→0≤bW (cor ps 1 xs) (cor ps 1 xs).length)∧(0<r→bW (cor ps 1 xs) (cor ps 1 xs).length<0)
theorem XI {n:Nat} {vs:List (Nat × Nat)} {p:Nat} (hp:p<vs.length):nI (ixs n vs) p=ix n (vs.getD p (0,0)).1 (vs.getD p (0,0)).2:=by
 unfold nI ixs
 rw [yh (d:=(0,0)) hp,Int.toNat_natCast]
theorem Rq (n:Nat) (vs:List (Nat × Nat)):(ixs n vs).length=vs.length:=by unfold ixs;rw [List.length_map]
theorem lJ (ps:List Pt) (t:Int) (l:List Int):(cor ps t l).length=l.length:=by unfold cor;rw [List.length_map]
theorem Rt {X Y:Nat→Int} {ps:List Pt} {n m:Nat} (hT:Tab ps X Y n m) {e f:Ge} (he:e.ok n m) (hf:f.ok n m) {v w v' w':Nat × Nat} (hv:v=(e.i,e.k)∧w=(e.i+e.di,e.k+e.dk)∨v=(e.i+e.di,e.k+e.dk)∧w=(e.i,e.k)) (hv':v'=(f.i,f.k)∧w'=(f.i+f.di,f.k+f.dk)∨v'=(f.i+f.di,f.k+f.dk)∧w'=(f.i,f.k)) {a b c d:Nat} :
  LG ps ⟨ix n v.1 v.2,ix n w.1 w.2,a,b⟩ ⟨ix n v'.1 v'.2,ix n w'.1 w'.2,c,d⟩=false:=by
 unfold LG
 by_cases hef:e=f
 ·subst hef
  rw [if_pos ?_]
  simp only
  rcases hv with ⟨rfl,rfl⟩|⟨rfl,rfl⟩ <;> rcases hv' with ⟨rfl,rfl⟩|⟨rfl,rfl⟩ <;> simp
 split
 ·rfl
 rcases XH hT.x hT.y he hf hef (Dx hT he hv) (Dx hT hf hv') with h|⟨h,j,l,h1,h2⟩
 ·simp only [h];rw [if_neg (by decide)];rfl
 simp only
 rw [h,if_pos rfl]
 apply decide_eq_false
 rintro ⟨n1,n2,n3,n4⟩
 rcases hv with ⟨rfl,rfl⟩|⟨rfl,rfl⟩ <;> rcases hv' with ⟨rfl,rfl⟩|⟨rfl,rfl⟩ <;> rcases h1 with ⟨rfl,rfl⟩|⟨rfl,rfl⟩ <;> rcases h2 with ⟨g1,g2⟩|⟨g1,g2⟩ <;> simp only [g1,g2] at n1 n2 n3 n4 <;> simp at n1 n2 n3 n4
theorem Jr {fs:List FaV} {s:St} (hs:s∈stL fs):∃ j r p,j<fs.length∧r<(fs.getD j f0).ri.length∧p<((fs.getD j f0).ri.getD r r0).xs.length∧s=⟨nI ((fs.getD j f0).ri.getD r r0).xs p,nI ((fs.getD j f0).ri.getD r r0).xs ((p+1) % ((fs.getD j f0).ri.getD r r0).xs.length),j,r⟩:=by
 obtain ⟨j,hj,hs⟩:=tC.1 hs
 obtain ⟨r,hr,hs⟩:=tC.1 hs
 unfold gR stR at hs
 obtain ⟨p,hp,rfl⟩:=List.mem_map.1 hs
 exact ⟨j,r,p,hj,hr,by simpa using hp,rfl⟩
theorem Ru {n m q:Nat} (hq:q<(n+1)*(m+1)):q % (n+1)≤n∧q / (n+1)≤m∧ix n (q % (n+1)) (q / (n+1))=q:=by
 refine ⟨by have:=Nat.mod_lt q (show 0<n+1 by omega);omega,?_,Nat.div_add_mod q (n+1)⟩
 have:=Nat.div_lt_of_lt_mul hq
 omega
theorem Inc.inj {X:Nat→Int} {n:Nat} (h:Inc X n) {i j:Nat} (hi:i≤n) (hj:j≤n) (he:X i=X j):i=j:=by
 rcases Nat.lt_trichotomy i j with h1|h1|h1
 ·have:=h.lt i j h1 hj;omega
 ·exact h1
 have:=h.lt j i h1 hi;omega
section
variable {ps:List Pt} {X Y:Nat→Int} {n m:Nat} (hT:Tab ps X Y n m)
include hT
theorem LH {i k:Nat} (hi:i<ps.length) (hk:k<ps.length) (h:gP ps i=gP ps k):i=k:=by
 rw [hT.len] at hi hk
 obtain ⟨a1,a2,a3⟩:=Ru hi
 obtain ⟨b1,b2,b3⟩:=Ru hk
 have e1:=hT.at' _ _ a1 a2
 have e2:=hT.at' _ _ b1 b2
 rw [a3] at e1
 rw [b3] at e2
 rw [e1,e2] at h
 simp only [gv,Prod.mk.injEq] at h
 have c1:=hT.x.inj a1 b1 h.1
 have c2:=hT.y.inj a2 b2 h.2
 rw [← a3,← b3,c1,c2]
theorem Gs:ps.Nodup:=by
 rw [List.nodup_iff_pairwise_ne,List.pairwise_iff_getElem]
 intro i j hi hj hij h
 have:=LH hT hi hj (by unfold gP;rw [List.getD_eq_getElem?_getD,List.getD_eq_getElem?_getD,List.getElem?_eq_getElem hi,List.getElem?_eq_getElem hj,h])
 omega
theorem ae9 {r:Nat} {xs:List Int} (h:GR ps n m r xs) (Jw:∀ i,i<ps.length→og (gP ps i)=false):RR (cor ps 1 xs):=by
 obtain ⟨vs,rfl,hg,hk,-,-⟩:=h
 obtain ⟨⟨z1,z2⟩,z3,z4,z5⟩:=Bl hk
 have L:=YW (ps:=ps) (n:=n) (vs:=vs) 1
 refine ⟨z1,z2,fun i hi=>?_,z3,z4,fun i j hi hj hne=>?_⟩
 ·rw [L] at hi
  have hb:=hg.bnd hi
  rw [abM hT hg hi,← hT.at' _ _ hb.1 hb.2]
  exact Jw _ (by rw [hT.len];exact YR hb.1 hb.2)
 have hi':=hi
 rw [L] at hi'
 have e:rA (cor ps 1 (ixs n vs)) (j+1)=rB (cor ps 1 (ixs n vs)) j:=by
  rw [rB,Nat.mod_eq_of_lt (by omega)];rfl
 rw [e]
 exact (Ro hT hg hi' hj (by rw [← L];exact hne)).1
theorem XJ {r:Nat} {xs:List Int} (h:GR ps n m r xs):(3≤xs.length∧xs.length≤40)∧∀ x∈xs,0≤x∧x<(ps.length:Int):=by
 obtain ⟨vs,rfl,hg,hk,-,-⟩:=h
 obtain ⟨⟨z1,z2⟩,-,-,-⟩:=Bl hk
 rw [lJ] at z1 z2
 refine ⟨⟨z1,z2⟩,fun x hx=>?_⟩
 obtain ⟨v,hv,rfl⟩:=List.mem_map.1 hx
 obtain ⟨j,hj,rfl⟩:=List.getElem_of_mem hv
 have hb:=hg.bnd hj
 rw [List.getD_eq_getElem?_getD,List.getElem?_eq_getElem hj] at hb
 have:=YR hb.1 hb.2
 rw [hT.len]
 exact ⟨Int.natCast_nonneg _,by exact_mod_cast this⟩
end
def GRs (c:CxV) (n m:Nat):Prop:=∀ j r,j<c.fs.length→r<(c.fs.getD j f0).ri.length→GR c.ps n m r ((c.fs.getD j f0).ri.getD r r0).xs
section
variable {c:CxV} {X Y:Nat→Int} {n m:Nat} (hT:Tab c.ps X Y n m) (hG:GRs c n m)
include hT hG
omit hT in
theorem Rw {s:St} (hs:s∈stL c.fs):∃ (e:Ge) (v w:Nat × Nat),e.ok n m∧(v=(e.i,e.k)∧w=(e.i+e.di,e.k+e.dk)∨v=(e.i+e.di,e.k+e.dk)∧w=(e.i,e.k))∧s=⟨ix n v.1 v.2,ix n w.1 w.2,s.f,s.r⟩:=by
 obtain ⟨j,r,p,hj,hr,hp,rfl⟩:=Jr hs
 obtain ⟨vs,hx,hg,-,-,-⟩:=hG j r hj hr
 rw [hx,Rq] at hp
 obtain ⟨e,he,hv⟩:=hg.edge p hp
 refine ⟨e,_,_,he,hv,?_⟩
 rw [hx,Rq,XI hp,XI (Nat.mod_lt _ (by omega))]
theorem LK {s t:St} (hs:s∈stL c.fs) (ht:t∈stL c.fs):iT c.ps s t=false∧LG c.ps s t=false:=by
 obtain ⟨e,v,w,he,hv,h1⟩:=Rw hG hs
 obtain ⟨f,v',w',hf,hv',h2⟩:=Rw hG ht
 rw [h1,h2]
 exact ⟨LD hT he hf hv hv',Rt hT he hf hv hv'⟩
theorem Gt (hc:(3≤c.ps.length∧c.ps.length≤120)∧1≤c.fs.length∧c.fs.length≤64) (hh:∀ f∈c.fs,f.hs.length≤8) (Jw:c.ps.any og=false) (hk:((stL c.fs).map keyS).Nodup) (hb:(stL c.fs).any (dM c.ps c.fs)=false) (ho:(stL c.fs).any (fV c.ps c.fs)=false):cu c=false:=by
 have G:∀ f∈c.fs,∀ r,r<f.ri.length→GR c.ps n m r (f.ri.getD r r0).xs:=fun f hf r hr=>by
  obtain ⟨j,hj,rfl⟩:=List.getElem_of_mem hf
  have:=hG j r hj
  rw [List.getD_eq_getElem?_getD,List.getElem?_eq_getElem hj] at this
  exact this hr
 have one:∀ f∈c.fs,∀ bad:Int→List Int→Bool,(∀ (r:Nat) xs,GR c.ps n m r xs→bad r xs=false)→rW f.ri bad=false:=fun f hf bad hb=>by
  rw [rW]
  apply decide_eq_false
  rintro ⟨k,hk,h⟩
  rw [hb k _ (G f hf k hk)] at h
  cases h
 have z0:jM c=false:=by rw [jM,decide_eq_false (by omega),decide_eq_false (by omega),decide_eq_false (by omega),decide_eq_false (by omega)];rfl
 have z1:c.fs.any (dU c.ps.length)=false:=by
  rw [List.any_eq_false]
  intro f hf
  have h8:¬ 8<f.hs.length:=by have:=hh f hf;omega
  rw [dU,one f hf _ (fun r xs hg=>by obtain ⟨⟨a,b⟩,d⟩:=XJ hT hg;exact qN a b d),decide_eq_false h8];simp
 have z2:c.fs.any (fun f=>rW f.ri (badR c.ps))=false:=by
  rw [List.any_eq_false]
  intro f hf
  rw [one f hf _ (fun r xs hg=>by obtain ⟨vs,-,-,hk,-,-⟩:=hg;rw [badR,jW,hk];rfl)];simp
 have z3:c.fs.any (fun f=>rW f.ri (iK c.ps))=false:=by
  rw [List.any_eq_false]
  intro f hf
  rw [one f hf _ (fun r xs hg=>by
   obtain ⟨vs,-,-,-,h0,h1⟩:=hg
   rw [iK]
   rcases Nat.eq_zero_or_pos r with h|h
   ·rw [decide_eq_false (by have:=h0 h;omega),decide_eq_true (by omega)];rfl
   rw [decide_eq_true (by have:=h1 h;omega),decide_eq_false (by omega)];rfl)];simp
 have z4:((List.range (stL c.fs).length).any (ig c.ps (stL c.fs)))=false:=by
  rw [List.any_eq_false]
  intro i hi
  have hi':i<(stL c.fs).length:=by simpa using hi
  rw [Bool.not_eq_true,ig,List.any_eq_false]
  intro t ht
  rw [List.getD_eq_getElem?_getD,List.getElem?_eq_getElem hi',Bool.not_eq_true]
  exact (LK hT hG (List.getElem_mem hi') (List.mem_of_mem_take ht)).1
 rw [cu,z0,Jw,z1,z2,z3,bV,decide_eq_true hk,z4,hb,ho,decide_eq_true (Gs hT)];rfl
theorem DJ (hc:(3≤c.ps.length∧c.ps.length≤120)∧1≤c.fs.length∧c.fs.length≤64) (hh:∀ f∈c.fs,f.hs.length≤8) (Jw:c.ps.any og=false) (hk:((stL c.fs).map keyS).Nodup)
  (hb:∀ s∈stL c.fs,s.r≠0→∀ r,r<(c.fs.getD s.f f0).ri.length→r≠s.r→YT c.ps 2 (oQ c.ps s) r ((c.fs.getD s.f f0).ri.getD r r0).xs=false)
  (ho:∀ s∈stL c.fs,∀ j,j<c.fs.length→j≠s.f→∃ r,r<(c.fs.getD j f0).ri.length∧YT c.ps 2 (oQ c.ps s) r ((c.fs.getD j f0).ri.getD r r0).xs=true):RG c:=by
 have hf':∀ i,i<c.ps.length→og (gP c.ps i)=false:=fun i hi=>by
  rw [List.any_eq_false] at Jw
  have:=Jw _ (List.getElem_mem hi)
  unfold gP
  rw [List.getD_eq_getElem?_getD,List.getElem?_eq_getElem hi]
  simpa using this
 have M:∀ i,i<(stL c.fs).length→(stL c.fs).getD i st0∈stL c.fs:=fun i hi=>by
  rw [List.getD_eq_getElem?_getD,List.getElem?_eq_getElem hi];exact List.getElem_mem hi
 refine ⟨hc.1.1,hc.1.2,hc.2.1,hc.2.2,hf',fun i k hi hk h=>?_,fun j hj=>?_,fun j r hj hr=>XJ hT (hG j r hj hr),fun j r hj hr=>ae9 hT (hG j r hj hr) hf',fun j r hj hr=>?_,fun i k hi hk' h=>?_,fun i k hi hk'=>?_,hb,ho⟩
 ·have:=LH hT hi (by omega) h;omega
 ·rw [List.getD_eq_getElem?_getD,List.getElem?_eq_getElem hj];exact hh _ (List.getElem_mem hj)
 ·obtain ⟨vs,-,-,-,h0,h1⟩:=hG j r hj hr
  rintro (⟨a,b⟩|⟨a,b⟩)
  ·have:=h0 a;omega
  have:=h1 a;omega
 ·rw [List.nodup_iff_pairwise_ne,List.pairwise_iff_getElem] at hk
  have hi2:i<((stL c.fs).map keyS).length:=by rw [List.length_map];exact hi
  have hk2:k<((stL c.fs).map keyS).length:=by rw [List.length_map];omega
  refine hk k i hk2 hi2 hk' ?_
  rw [List.getElem_map,List.getElem_map]
  rw [List.getD_eq_getElem?_getD,List.getElem?_eq_getElem hi,List.getD_eq_getElem?_getD,List.getElem?_eq_getElem (show k<(stL c.fs).length by omega)] at h
  simp only [Option.getD_some] at h
  simp only [keyS,h.1,h.2]
 exact (LK hT hG (M i hi) (M k (by omega))).2
end
theorem Rx {ps:List Pt} {X Y:Nat→Int} {n m:Nat} (hT:Tab ps X Y n m) {f:Fc} (hf:f.ok n m):GR ps n m 0 (f.ring n):=by
 have h1:=Gn hT hf
 have h2:=Gp hT hf
 refine ⟨f.vs,rfl,⟨fun p hp=>?_,fun p q hp hq h=>Fc.inj hp hq h⟩,?_,fun _=>?_,fun h=>absurd h (by decide)⟩
 ·obtain ⟨e,he,hv,-⟩:=Fc.edge hf hp
  exact ⟨e,he,hv⟩
 ·unfold jW at h1
  have h1:=of_decide_eq_false h1
  unfold iJ at h1 ⊢
  repeat' split at h1
  all_goals first|omega|skip
  rename_i a b c d
  rw [if_neg a,if_neg b,if_neg c,if_neg d]
 unfold iK at h2
 rcases Int.lt_or_le (bW (cor ps 1 (f.ring n)) (cor ps 1 (f.ring n)).length) 0 with h|h
 ·rw [decide_eq_true h] at h2;cases h2
 exact h
theorem VF {X Y:Nat→Int} {n m:Nat} {c:CxV} {gs:List Fc} (hT:Tab c.ps X Y n m) (hM:Match c.fs gs n) (hG:vX gs n m) (h3:3≤c.ps.length) (adH:c.ps.length≤120) (h1:1≤gs.length) (h64:gs.length≤64) (Jw:c.ps.any og=false):RG c:=by
 have hl:=hM.len
 have hR:GRs c n m:=fun j r hj hr=>by
  have hj':j<gs.length:=by omega
  rw [hM.ri hj'] at hr ⊢
  simp only [List.length_cons,List.length_nil] at hr
  obtain rfl:r=0:=by omega
  rw [List.getD_cons_zero,(hM.at' j hj').1]
  exact Rx hT (hG.get hj')
 have S:∀ s∈stL c.fs,∃ j p,j<gs.length∧p<(gs.getD j ⟨.q,0,0⟩).vs.length∧s=⟨ix n ((gs.getD j ⟨.q,0,0⟩).va p).1 ((gs.getD j ⟨.q,0,0⟩).va p).2,ix n ((gs.getD j ⟨.q,0,0⟩).vb p).1 ((gs.getD j ⟨.q,0,0⟩).vb p).2,j,0⟩:=fun s hs=>by
  obtain ⟨j,hj,hs⟩:=tC.1 hs
  rw [hM.len] at hj
  obtain ⟨p,hp,rfl⟩:=LC hM hj hs
  exact ⟨j,p,hj,hp,rfl⟩
 refine DJ hT hR ⟨⟨h3,adH⟩,by omega,by omega⟩ (fun f hf=>?_) Jw (Bj hM hG) (fun s hs hr=>?_) (fun s hs j hj hne=>?_)
 ·obtain ⟨j,hj,rfl⟩:=List.getElem_of_mem hf
  have:=(hM.at' j (by omega)).2
  rw [List.getD_eq_getElem?_getD,List.getElem?_eq_getElem hj] at this
  rw [show c.fs[j].hs = [] from this];simp
 ·obtain ⟨j,p,hj,hp,rfl⟩:=S s hs
  exact absurd rfl hr
 obtain ⟨j',p,hj',hp,rfl⟩:=S s hs
 have hj2:j<gs.length:=by omega
 refine ⟨0,by rw [hM.ri hj2];simp,?_⟩
 rw [hM.ri hj2,List.getD_cons_zero,(hM.at' j hj2).1,YT]
 refine decide_eq_true (.inl ⟨rfl,fun h=>?_⟩)
 exact Rj hT hG hj' hj2 hne (r:=0) hp (tJ h)
def okE (v w:Nat × Nat):Bool:=decide (v.1+1=w.1∧v.2=w.2∨w.1+1=v.1∧v.2=w.2∨v.1=w.1∧v.2+1=w.2∨v.1=w.1∧w.2+1=v.2)
theorem LM {vs:List (Nat × Nat)} {n m:Nat} (h:∀ p,p<vs.length→okE (vs.getD p (0,0)) (vs.getD ((p+1) % vs.length) (0,0))=true∧(vs.getD p (0,0)).1≤n∧(vs.getD p (0,0)).2≤m) (hi:∀ p,p<vs.length→∀ q,q<vs.length→vs.getD p (0,0)=vs.getD q (0,0)→p=q):yu vs n m:=by
 refine ⟨fun p hp=>?_,fun p q hp hq=>hi p hp q hq⟩
 obtain ⟨h1,h2,h3⟩:=h p hp
 obtain ⟨-,h4,h5⟩:=h ((p+1) % vs.length) (Nat.mod_lt _ (by omega))
 generalize vs.getD p (0,0)=v at h1 h2 h3 ⊢
 generalize vs.getD ((p+1) % vs.length) (0,0)=w at h1 h4 h5 ⊢
 obtain ⟨a,b⟩:=v
 obtain ⟨a',b'⟩:=w
 simp only at *
 rcases of_decide_eq_true h1 with ⟨e1,e2⟩|⟨e1,e2⟩|⟨e1,e2⟩|⟨e1,e2⟩ <;> simp only at e1 e2 <;> subst e1 <;> subst e2
 ·exact ⟨⟨a,b,1,0⟩,⟨h4,h5,by simp⟩,.inl ⟨rfl,rfl⟩⟩
 ·exact ⟨⟨a',b,1,0⟩,⟨h2,h3,by simp⟩,.inr ⟨rfl,rfl⟩⟩
 ·exact ⟨⟨a,b,0,1⟩,⟨h4,h5,by simp⟩,.inl ⟨rfl,rfl⟩⟩
 exact ⟨⟨a,b',0,1⟩,⟨h2,h3,by simp⟩,.inr ⟨rfl,rfl⟩⟩
theorem LP {X Y:Nat→Int} {n m:Nat} (hX:Inc X n) (hY:Inc Y m) {e:Ge} (he:e.ok n m):e.lo X Y≠e.hi X Y:=by
 intro h
 simp only [Ge.lo,Ge.hi,gv,Prod.mk.injEq] at h
 have h1:=hX.inj (by have:=he.i;omega) he.i h.1
 have h2:=hY.inj (by have:=he.k;omega) he.k h.2
 have:=he.d
 omega
theorem yw {ps:List Pt} {X Y:Nat→Int} {n m:Nat} (hT:Tab ps X Y n m) {vs:List (Nat × Nat)} (hg:yu vs n m) (h3:3≤vs.length) (h40:vs.length≤40) (hs:∀ i,i<vs.length→¬ dR (cor ps 1 (ixs n vs)) i):iJ (cor ps 1 (ixs n vs))=0:=by
 have L:=YW (ps:=ps) (n:=n) (vs:=vs) 1
 unfold iJ
 rw [L,if_neg (by omega),if_neg ?_,if_neg ?_,if_neg ?_]
 ·rintro ⟨i,hi,j,hj,h1,h2,h3⟩
  exact h3 (Ro hT hg hi h1 (by rw [← L];exact h2)).2
 ·rintro ⟨i,hi,h1⟩
  exact hs i hi h1
 rintro ⟨i,hi,h1⟩
 obtain ⟨e,he,hv⟩:=hg.edge i hi
 unfold jB at h1
 rw [abM hT hg hi,Rn hT hg hi] at h1
 rcases hv with ⟨v1,v2⟩|⟨v1,v2⟩ <;> rw [v1,v2] at h1
 ·exact LP hT.x hT.y he h1
 exact LP hT.x hT.y he h1.symm
theorem VG {x0 x1 x2 y:Int} (h:x0<x1∧x1<x2∨x2<x1∧x1<x0):¬ (aB (x0,y) (x1,y) (x2,y)=0∧fwd (x0,y) (x1,y) (x2,y)<0):=by
 rintro ⟨-,h2⟩
 unfold fwd at h2
 simp only [Int.sub_self,Int.mul_zero,Int.add_zero] at h2
 rcases h with ⟨a,b⟩|⟨a,b⟩
 ·have:=Int.mul_pos (a:=x1-x0) (b:=x2-x1) (by omega) (by omega);omega
 have:=Int.mul_pos (a:=x0-x1) (b:=x1-x2) (by omega) (by omega)
 have e:(x1-x0)*(x2-x1)=(x0-x1)*(x1-x2):=by grind
 omega
theorem VH {x y0 y1 y2:Int} (h:y0<y1∧y1<y2∨y2<y1∧y1<y0):¬ (aB (x,y0) (x,y1) (x,y2)=0∧fwd (x,y0) (x,y1) (x,y2)<0):=by
 rintro ⟨-,h2⟩
 unfold fwd at h2
 simp only [Int.sub_self,Int.mul_zero,Int.zero_add] at h2
 rcases h with ⟨a,b⟩|⟨a,b⟩
 ·have:=Int.mul_pos (a:=y1-y0) (b:=y2-y1) (by omega) (by omega);omega
 have:=Int.mul_pos (a:=y0-y1) (b:=y1-y2) (by omega) (by omega)
 have e:(y1-y0)*(y2-y1)=(y0-y1)*(y1-y2):=by grind
 omega
theorem VI {x0 x1 y y2:Int} (h:x0≠x1) (h':y≠y2):¬ (aB (x0,y) (x1,y) (x1,y2)=0∧fwd (x0,y) (x1,y) (x1,y2)<0):=by
 rintro ⟨h2,-⟩
 unfold aB at h2
 simp only [Int.sub_self,Int.zero_mul,Int.sub_zero] at h2
 rcases Int.mul_eq_zero.1 h2 with h|h <;> omega
theorem VJ {x x2 y0 y1:Int} (h:y0≠y1) (h':x≠x2):¬ (aB (x,y0) (x,y1) (x2,y1)=0∧fwd (x,y0) (x,y1) (x2,y1)<0):=by
 rintro ⟨h2,-⟩
 unfold aB at h2
 simp only [Int.sub_self,Int.zero_mul,Int.zero_sub] at h2
 rcases Int.mul_eq_zero.1 (show (y1-y0)*(x2-x)=0 by omega) with h|h <;> omega
def afa:List (Nat × Nat):=[(0,0),(1,0),(2,0),(3,0),(3,1),(3,2),(3,3),(2,3),(1,3),(0,3),(0,2),(0,1)]
def afb:List (Nat × Nat):=[(1,1),(1,2),(2,2),(2,1)]
theorem yx:yu afa 3 3:=LM (by decide) (by decide)
theorem yA:yu afb 3 3:=LM (by decide) (by decide)
section
variable {x0 x1 x2 x3 y0 y1 y2 y3:Int} (hx:x0<x1∧x1<x2∧x2<x3) (hy:y0<y1∧y1<y2∧y2<y3)
include hx hy
theorem Ry:∀ i,i<12→¬ dR [(x0,y0),(x1,y0),(x2,y0),(x3,y0),(x3,y1),(x3,y2),(x3,y3),(x2,y3),(x1,y3),(x0,y3),(x0,y2),(x0,y1)] i:=by
 intro i hi
 rcases (show i=0∨i=1∨i=2∨i=3∨i=4∨i=5∨i=6∨i=7∨i=8∨i=9∨i=10∨i=11 by omega) with rfl|rfl|rfl|rfl|rfl|rfl|rfl|rfl|rfl|rfl|rfl|rfl
 ·simpa [dR,rA,rB,rP] using VJ (x:=x0) (x2:=x1) (y0:=y1) (y1:=y0) (by omega) (by omega)
 ·simpa [dR,rA,rB,rP] using VG (x0:=x0) (x1:=x1) (x2:=x2) (y:=y0) (by omega)
 ·simpa [dR,rA,rB,rP] using VG (x0:=x1) (x1:=x2) (x2:=x3) (y:=y0) (by omega)
 ·simpa [dR,rA,rB,rP] using VI (x0:=x2) (x1:=x3) (y:=y0) (y2:=y1) (by omega) (by omega)
 ·simpa [dR,rA,rB,rP] using VH (x:=x3) (y0:=y0) (y1:=y1) (y2:=y2) (by omega)
 ·simpa [dR,rA,rB,rP] using VH (x:=x3) (y0:=y1) (y1:=y2) (y2:=y3) (by omega)
 ·simpa [dR,rA,rB,rP] using VJ (x:=x3) (x2:=x2) (y0:=y2) (y1:=y3) (by omega) (by omega)
 ·simpa [dR,rA,rB,rP] using VG (x0:=x3) (x1:=x2) (x2:=x1) (y:=y3) (by omega)
 ·simpa [dR,rA,rB,rP] using VG (x0:=x2) (x1:=x1) (x2:=x0) (y:=y3) (by omega)
 ·simpa [dR,rA,rB,rP] using VI (x0:=x1) (x1:=x0) (y:=y3) (y2:=y2) (by omega) (by omega)
 ·simpa [dR,rA,rB,rP] using VH (x:=x0) (y0:=y3) (y1:=y2) (y2:=y1) (by omega)
 simpa [dR,rA,rB,rP] using VH (x:=x0) (y0:=y2) (y1:=y1) (y2:=y0) (by omega)
theorem Rz:∀ i,i<4→¬ dR [(x1,y1),(x1,y2),(x2,y2),(x2,y1)] i:=by
 intro i hi
 rcases (show i=0∨i=1∨i=2∨i=3 by omega) with rfl|rfl|rfl|rfl
 ·simpa [dR,rA,rB,rP] using VI (x0:=x2) (x1:=x1) (y:=y1) (y2:=y2) (by omega) (by omega)
 ·simpa [dR,rA,rB,rP] using VJ (x:=x1) (x2:=x2) (y0:=y1) (y1:=y2) (by omega) (by omega)
 ·simpa [dR,rA,rB,rP] using VI (x0:=x1) (x1:=x2) (y:=y2) (y2:=y1) (by omega) (by omega)
 simpa [dR,rA,rB,rP] using VJ (x:=x2) (x2:=x1) (y0:=y2) (y1:=y1) (by omega) (by omega)
theorem VK:0≤bW [(x0,y0),(x1,y0),(x2,y0),(x3,y0),(x3,y1),(x3,y2),(x3,y3),(x2,y3),(x1,y3),(x0,y3),(x0,y2),(x0,y1)] 12:=by
 have h:0≤(x3-x0)*(y3-y0):=Int.mul_nonneg (by omega) (by omega)
 have e:bW [(x0,y0),(x1,y0),(x2,y0),(x3,y0),(x3,y1),(x3,y2),(x3,y3),(x2,y3),(x1,y3),(x0,y3),(x0,y2),(x0,y1)] 12=2*((x3-x0)*(y3-y0)):=by
  simp [bW,rA,rB];grind
 omega
theorem VL:bW [(x1,y1),(x1,y2),(x2,y2),(x2,y1)] 4<0:=by
 have h:0<(x2-x1)*(y2-y1):=Int.mul_pos (by omega) (by omega)
 have e:bW [(x1,y1),(x1,y2),(x2,y2),(x2,y1)] 4 = -(2*((x2-x1)*(y2-y1))):=by
  simp [bW,rA,rB];grind
 omega
omit hx in
theorem VN {p:Pt} (hp:Inn x0 x3 y0 y3 p):dJ [(x0,y0),(x1,y0),(x2,y0),(x3,y0),(x3,y1),(x3,y2),(x3,y3),(x2,y3),(x1,y3),(x0,y3),(x0,y2),(x0,y1)] p 12=1∧∀ i,i<12→¬ onE (rA [(x0,y0),(x1,y0),(x2,y0),(x3,y0),(x3,y1),(x3,y2),(x3,y3),(x2,y3),(x1,y3),(x0,y3),(x0,y2),(x0,y1)] i) (rB [(x0,y0),(x1,y0),(x2,y0),(x3,y0),(x3,y1),(x3,y2),(x3,y3),(x2,y3),(x1,y3),(x0,y3),(x0,y2),(x0,y1)] i) p:=by
 obtain ⟨⟨a1,a2⟩,b1,b2⟩:=hp
 constructor
 ·have e:dJ [(x0,y0),(x1,y0),(x2,y0),(x3,y0),(x3,y1),(x3,y2),(x3,y3),(x2,y3),(x1,y3),(x0,y3),(x0,y2),(x0,y1)] p 12=stepW (x0,y0) (x1,y0) p+stepW (x1,y0) (x2,y0) p+stepW (x2,y0) (x3,y0) p+stepW (x3,y0) (x3,y1) p+stepW (x3,y1) (x3,y2) p+stepW (x3,y2) (x3,y3) p+stepW (x3,y3) (x2,y3) p+stepW (x2,y3) (x1,y3) p+stepW (x1,y3) (x0,y3) p+stepW (x0,y3) (x0,y2) p+stepW (x0,y2) (x0,y1) p+stepW (x0,y1) (x0,y0) p:=by
   simp [dJ,rA,rB]
  rw [e,lV (a:=(x0,y0)) (by rfl),lV (a:=(x1,y0)) (by rfl),lV (a:=(x2,y0)) (by rfl),lV (a:=(x3,y3)) (by rfl),lV (a:=(x2,y3)) (by rfl),lV (a:=(x1,y3)) (by rfl),step_up hy.1,step_up hy.2.1,step_up hy.2.2,tu hy.1,tu hy.2.1,tu hy.2.2]
  rw [if_neg (show ¬ (y0≤p.2∧p.2<y1∧p.1<x0) by omega),if_neg (show ¬ (y1≤p.2∧p.2<y2∧p.1<x0) by omega),if_neg (show ¬ (y2≤p.2∧p.2<y3∧p.1<x0) by omega)]
  rcases Int.lt_or_le p.2 y1 with h1|h1
  ·rw [if_pos (by omega),if_neg (by omega),if_neg (by omega)];rfl
  rcases Int.lt_or_le p.2 y2 with h2|h2
  ·rw [if_neg (by omega),if_pos (by omega),if_neg (by omega)];rfl
  rw [if_neg (by omega),if_neg (by omega),if_pos (by omega)];rfl
 intro i hi ho
 have hb:=yt ho
 obtain ⟨-,h1,h2⟩:=hb
 rcases (show i=0∨i=1∨i=2∨i=3∨i=4∨i=5∨i=6∨i=7∨i=8∨i=9∨i=10∨i=11 by omega) with rfl|rfl|rfl|rfl|rfl|rfl|rfl|rfl|rfl|rfl|rfl|rfl <;> simp [rA,rB] at h1 h2 <;> omega
end
def Ir:List Int:=[0,1,2,3,7,11,15,14,13,12,8,4]
def Ae:List Int:=[5,9,10,6]
def XK:List Int:=[5,6,10,9]
def Bo (fs:List FaV):Prop:=∃ va vh hv,fs = [⟨⟨va,Ir⟩,hv,[⟨vh,Ae⟩]⟩]∨∃ vb hw,fs = [⟨⟨va,Ir⟩,hv,[⟨vh,Ae⟩]⟩,⟨⟨vb,XK⟩,hw,[]⟩]
def stA:List St:=[⟨0,1,0,0⟩,⟨1,2,0,0⟩,⟨2,3,0,0⟩,⟨3,7,0,0⟩,⟨7,11,0,0⟩,⟨11,15,0,0⟩,⟨15,14,0,0⟩,⟨14,13,0,0⟩,⟨13,12,0,0⟩,⟨12,8,0,0⟩,⟨8,4,0,0⟩,⟨4,0,0,0⟩]
def stH:List St:=[⟨5,9,0,1⟩,⟨9,10,0,1⟩,⟨10,6,0,1⟩,⟨6,5,0,1⟩]
def stB:List St:=[⟨5,6,1,0⟩,⟨6,10,1,0⟩,⟨10,9,1,0⟩,⟨9,5,1,0⟩]
theorem YX (va vh hv:Value):stL [⟨⟨va,Ir⟩,hv,[⟨vh,Ae⟩]⟩]=stA++stH:=by
 simp [stL,pre,gF,stF,FaV.ri,gR,stR,Ir,Ae,List.range_succ,nI,stA,stH]
theorem YZ (va vh hv vb hw:Value):stL [⟨⟨va,Ir⟩,hv,[⟨vh,Ae⟩]⟩,⟨⟨vb,XK⟩,hw,[]⟩]=stA++stH++stB:=by
 simp [stL,pre,gF,stF,FaV.ri,gR,stR,Ir,Ae,XK,List.range_succ,nI,stA,stH,stB]
section
variable {ps:List Pt} {X Y:Nat→Int} (hT:Tab ps X Y 3 3)
include hT
theorem hx3:(X 0<X 1∧X 1<X 2∧X 2<X 3)∧Y 0<Y 1∧Y 1<Y 2∧Y 2<Y 3 :=
 ⟨⟨hT.x.lt 0 1 (by omega) (by omega),hT.x.lt 1 2 (by omega) (by omega),hT.x.lt 2 3 (by omega) (by omega)⟩,hT.y.lt 0 1 (by omega) (by omega),hT.y.lt 1 2 (by omega) (by omega),hT.y.lt 2 3 (by omega) (by omega)⟩
theorem Jy (t:Int):cor ps t Ir = [(t*X 0,t*Y 0),(t*X 1,t*Y 0),(t*X 2,t*Y 0),(t*X 3,t*Y 0),(t*X 3,t*Y 1),(t*X 3,t*Y 2),(t*X 3,t*Y 3),(t*X 2,t*Y 3),(t*X 1,t*Y 3),(t*X 0,t*Y 3),(t*X 0,t*Y 2),(t*X 0,t*Y 1)] :=
 YV hT yx t
theorem Jz (t:Int):cor ps t Ae = [(t*X 1,t*Y 1),(t*X 1,t*Y 2),(t*X 2,t*Y 2),(t*X 2,t*Y 1)] :=
 YV hT yA t
theorem XL:GR ps 3 3 0 Ir:=by
 obtain ⟨hx,hy⟩:=hx3 hT
 refine ⟨afa,rfl,yx,yw hT yx (by decide) (by decide) fun i hi=>?_,fun _=>?_,fun h=>absurd h (by decide)⟩
 ·have:=Ry hx hy i hi
  rw [show ixs 3 afa=Ir from rfl,Jy hT]
  simpa only [Int.one_mul] using this
 rw [Jy hT]
 have:=VK hx hy
 simp only [Int.one_mul]
 exact this
theorem XM:GR ps 3 3 1 Ae:=by
 obtain ⟨hx,hy⟩:=hx3 hT
 refine ⟨afb,rfl,yA,yw hT yA (by decide) (by decide) fun i hi=>?_,fun h=>absurd h (by decide),fun _=>?_⟩
 ·have:=Rz hx hy i hi
  rw [show ixs 3 afb=Ae from rfl,Jz hT]
  simpa only [Int.one_mul] using this
 rw [Jz hT]
 have:=VL hx hy
 simp only [Int.one_mul]
 exact this
theorem abN:GR ps 3 3 0 XK:=Rx hT (f:=⟨.q,1,1⟩) ⟨by decide,by decide⟩
theorem LQ {p:Pt} (hp:Inn (2*X 0) (2*X 3) (2*Y 0) (2*Y 3) p):iZ (cor ps 2 Ir) p=2∧mY (cor ps 2 Ir) p=2:=by
 obtain ⟨hx,hy⟩:=hx3 hT
 have h:=VN (x0:=2*X 0) (x1:=2*X 1) (x2:=2*X 2) (x3:=2*X 3) (y0:=2*Y 0) (y1:=2*Y 1) (y2:=2*Y 2) (y3:=2*Y 3) (by omega) hp
 rw [Jy hT]
 exact ⟨Lr h.2 (by have:=h.1;simp only [List.length_cons,List.length_nil];rw [h.1];decide),VE h.2 (by simp only [List.length_cons,List.length_nil];rw [h.1];decide)⟩
theorem gp3 (i k:Nat) (hi:i≤3) (hk:k≤3):gP ps (4*k+i)=(X i,Y k):=hT.at' i k hi hk
theorem RD:gP ps 0=(X 0,Y 0)∧gP ps 1=(X 1,Y 0)∧gP ps 2=(X 2,Y 0)∧gP ps 3=(X 3,Y 0)∧gP ps 4=(X 0,Y 1)∧gP ps 5=(X 1,Y 1)∧gP ps 6=(X 2,Y 1)∧gP ps 7=(X 3,Y 1)∧gP ps 8=(X 0,Y 2)∧gP ps 9=(X 1,Y 2)∧gP ps 10=(X 2,Y 2)∧gP ps 11=(X 3,Y 2)∧gP ps 12=(X 0,Y 3)∧gP ps 13=(X 1,Y 3)∧gP ps 14=(X 2,Y 3)∧gP ps 15=(X 3,Y 3) :=
 ⟨gp3 hT 0 0 (by omega) (by omega),gp3 hT 1 0 (by omega) (by omega),gp3 hT 2 0 (by omega) (by omega),gp3 hT 3 0 (by omega) (by omega),gp3 hT 0 1 (by omega) (by omega),gp3 hT 1 1 (by omega) (by omega),gp3 hT 2 1 (by omega) (by omega),gp3 hT 3 1 (by omega) (by omega),gp3 hT 0 2 (by omega) (by omega),gp3 hT 1 2 (by omega) (by omega),gp3 hT 2 2 (by omega) (by omega),gp3 hT 3 2 (by omega) (by omega),gp3 hT 0 3 (by omega) (by omega),gp3 hT 1 3 (by omega) (by omega),gp3 hT 2 3 (by omega) (by omega),gp3 hT 3 3 (by omega) (by omega)⟩
theorem DK {s:St} (hs:s∈stH):Inn (2*X 0) (2*X 3) (2*Y 0) (2*Y 3) (oQ ps s):=by
 obtain ⟨hx,hy⟩:=hx3 hT
 obtain ⟨-,-,-,-,-,g5,g6,-,-,g9,g10,-⟩:=RD hT
 simp only [stH,List.mem_cons,List.mem_nil_iff,or_false] at hs
 rcases hs with rfl|rfl|rfl|rfl <;> simp only [oQ,g5,g6,g9,g10,Inn] <;> omega
theorem DL {s:St} (hs:s∈stA++stH):iZ (cor ps 2 XK) (oQ ps s)≠2:=by
 obtain ⟨hx,hy⟩:=hx3 hT
 obtain ⟨g0,g1,g2,g3,g4,g5,g6,g7,g8,g9,g10,g11,g12,g13,g14,g15⟩:=RD hT
 intro h
 have hp:Inn (2*X 1) (2*X 2) (2*Y 1) (2*Y 2) (oQ ps s):=(Ri hT (f:=⟨.q,1,1⟩) ⟨by decide,by decide⟩ h).1
 simp only [Inn] at hp
 simp only [stA,stH,List.cons_append,List.nil_append,List.mem_cons,List.mem_nil_iff,or_false] at hs
 rcases hs with rfl|rfl|rfl|rfl|rfl|rfl|rfl|rfl|rfl|rfl|rfl|rfl|rfl|rfl|rfl|rfl <;> simp only [oQ,g0,g1,g2,g3,g4,g5,g6,g7,g8,g9,g10,g11,g12,g13,g14,g15] at hp <;> omega
theorem XO {s:St} (hs:s∈stB):iZ (cor ps 2 Ae) (oQ ps s)=1∧mY (cor ps 2 Ae) (oQ ps s)=1:=by
 obtain ⟨hx,hy⟩:=hx3 hT
 obtain ⟨-,-,-,-,-,g5,g6,-,-,g9,g10,-⟩:=RD hT
 have K:∃ i,i<(cor ps 2 Ae).length∧onE (rA (cor ps 2 Ae) i) (rB (cor ps 2 Ae) i) (oQ ps s):=by
  rw [Jz hT]
  simp only [stB,List.mem_cons,List.mem_nil_iff,or_false] at hs
  rcases hs with rfl|rfl|rfl|rfl <;> simp only [oQ,g5,g6,g9,g10]
  ·exact ⟨3,by simp,by simpa [rA,rB] using (abC (x:=2*X 1) (x':=2*X 2) (y:=2*Y 1) (p:=(X 1+X 2,Y 1+Y 1)) (by omega) (by simp only;omega) (by simp only;omega) (by simp only;omega)).2⟩
  ·exact ⟨2,by simp,by simpa [rA,rB] using (abB (x:=2*X 2) (y:=2*Y 1) (y':=2*Y 2) (p:=(X 2+X 2,Y 1+Y 2)) (by omega) (by simp only;omega) (by simp only;omega) (by simp only;omega)).2⟩
  ·exact ⟨1,by simp,by simpa [rA,rB] using (abC (x:=2*X 1) (x':=2*X 2) (y:=2*Y 2) (p:=(X 2+X 1,Y 2+Y 2)) (by omega) (by simp only;omega) (by simp only;omega) (by simp only;omega)).1⟩
  exact ⟨0,by simp,by simpa [rA,rB] using (abB (x:=2*X 1) (y:=2*Y 1) (y':=2*Y 2) (p:=(X 1+X 1,Y 2+Y 1)) (by omega) (by simp only;omega) (by simp only;omega) (by simp only;omega)).1⟩
 obtain ⟨i,hi,ho⟩:=K
 exact ⟨Vu hi ho,VD hi ho⟩
end
theorem VO {c:CxV} {X Y:Nat→Int} (hT:Tab c.ps X Y 3 3) (hF:Bo c.fs):GRs c 3 3:=by
 intro j r hj hr
 obtain ⟨va,vh,hv,h|⟨vb,hw,h⟩⟩:=hF
 ·rw [h] at hj hr ⊢
  simp only [List.length_cons,List.length_nil] at hj
  obtain rfl:j=0:=by omega
  simp only [List.getD_cons_zero,FaV.ri,List.length_cons,List.length_nil] at hr ⊢
  rcases (show r=0∨r=1 by omega) with rfl|rfl
  ·exact XL hT
  exact XM hT
 rw [h] at hj hr ⊢
 simp only [List.length_cons,List.length_nil] at hj
 rcases (show j=0∨j=1 by omega) with rfl|rfl
 ·simp only [List.getD_cons_zero,FaV.ri,List.length_cons,List.length_nil] at hr ⊢
  rcases (show r=0∨r=1 by omega) with rfl|rfl
  ·exact XL hT
  exact XM hT
 simp only [List.getD_cons_zero,List.getD_cons_succ,FaV.ri,List.length_cons,List.length_nil] at hr ⊢
 obtain rfl:r=0:=by omega
 exact abN hT
theorem RF {c:CxV} {X Y:Nat→Int} (hT:Tab c.ps X Y 3 3) (hF:Bo c.fs) (Jw:c.ps.any og=false):cu c=false∧RG c:=by
 have hR:=VO hT hF
 have hl:c.ps.length=16:=hT.len
 obtain ⟨va,vh,hv,h|⟨vb,hw,h⟩⟩:=hF
 ·have e:stL c.fs=stA++stH:=by rw [h];exact YX _ _ _
  have hc:(3≤c.ps.length∧c.ps.length≤120)∧1≤c.fs.length∧c.fs.length≤64:=by rw [hl,h];simp
  have hh:∀ f∈c.fs,f.hs.length≤8:=by rw [h];intro f hf;simp only [List.mem_cons,List.mem_nil_iff,or_false] at hf;subst hf;simp
  have hk:((stL c.fs).map keyS).Nodup:=by rw [e];decide
  refine ⟨Gt hT hR hc hh Jw hk ?_ ?_,DJ hT hR hc hh Jw hk ?_ ?_⟩
  ·rw [e,List.any_eq_false]
   intro s hs
   rcases List.mem_append.1 hs with hs|hs
   ·have:s.r=0:=by simp only [stA,List.mem_cons,List.mem_nil_iff,or_false] at hs;rcases hs with rfl|rfl|rfl|rfl|rfl|rfl|rfl|rfl|rfl|rfl|rfl|rfl <;> rfl
    simp [dM,this]
   have hf:s.f=0∧s.r=1:=by simp only [stH,List.mem_cons,List.mem_nil_iff,or_false] at hs;rcases hs with rfl|rfl|rfl|rfl <;> exact ⟨rfl,rfl⟩
   have:=(LQ hT (DK hT hs)).1
   rw [h,dM,hf.1,hf.2,dF]
   simp [NQ,this]
  ·rw [e,List.any_eq_false]
   intro s hs
   have hf:s.f=0:=by simp only [stA,stH,List.cons_append,List.nil_append,List.mem_cons,List.mem_nil_iff,or_false] at hs;rcases hs with rfl|rfl|rfl|rfl|rfl|rfl|rfl|rfl|rfl|rfl|rfl|rfl|rfl|rfl|rfl|rfl <;> rfl
   rw [fV,h]
   simp [jC,hf]
  ·rw [e]
   intro s hs hr r hr' hne
   rcases List.mem_append.1 hs with hs|hs
   ·have:s.r=0:=by simp only [stA,List.mem_cons,List.mem_nil_iff,or_false] at hs;rcases hs with rfl|rfl|rfl|rfl|rfl|rfl|rfl|rfl|rfl|rfl|rfl|rfl <;> rfl
    exact absurd this hr
   have hf:s.f=0∧s.r=1:=by simp only [stH,List.mem_cons,List.mem_nil_iff,or_false] at hs;rcases hs with rfl|rfl|rfl|rfl <;> exact ⟨rfl,rfl⟩
   have:=(LQ hT (DK hT hs)).2
   rw [h,hf.1] at hr' ⊢
   simp only [List.getD_cons_zero,FaV.ri,List.length_cons,List.length_nil] at hr' ⊢
   obtain rfl:r=0:=by omega
   simp [YT,this]
  rw [e]
  intro s hs j hj hne
  have hf:s.f=0:=by simp only [stA,stH,List.cons_append,List.nil_append,List.mem_cons,List.mem_nil_iff,or_false] at hs;rcases hs with rfl|rfl|rfl|rfl|rfl|rfl|rfl|rfl|rfl|rfl|rfl|rfl|rfl|rfl|rfl|rfl <;> rfl
  rw [h] at hj
  simp only [List.length_cons,List.length_nil] at hj
  omega
 have e:stL c.fs=stA++stH++stB:=by rw [h];exact YZ _ _ _ _ _
 have hc:(3≤c.ps.length∧c.ps.length≤120)∧1≤c.fs.length∧c.fs.length≤64:=by rw [hl,h];simp
 have hh:∀ f∈c.fs,f.hs.length≤8:=by rw [h];intro f hf;simp only [List.mem_cons,List.mem_nil_iff,or_false] at hf;rcases hf with rfl|rfl <;> simp
 have hk:((stL c.fs).map keyS).Nodup:=by rw [e];decide
 have C:∀ s∈stL c.fs,(s∈stA∧s.f=0∧s.r=0)∨(s∈stH∧s.f=0∧s.r=1)∨(s∈stB∧s.f=1∧s.r=0):=by
  rw [e]
  intro s hs
  rcases List.mem_append.1 hs with hs|hs
  ·rcases List.mem_append.1 hs with hs|hs
   ·refine .inl ⟨hs,?_⟩
    simp only [stA,List.mem_cons,List.mem_nil_iff,or_false] at hs;rcases hs with rfl|rfl|rfl|rfl|rfl|rfl|rfl|rfl|rfl|rfl|rfl|rfl <;> exact ⟨rfl,rfl⟩
   refine .inr (.inl ⟨hs,?_⟩)
   simp only [stH,List.mem_cons,List.mem_nil_iff,or_false] at hs;rcases hs with rfl|rfl|rfl|rfl <;> exact ⟨rfl,rfl⟩
  refine .inr (.inr ⟨hs,?_⟩)
  simp only [stB,List.mem_cons,List.mem_nil_iff,or_false] at hs;rcases hs with rfl|rfl|rfl|rfl <;> exact ⟨rfl,rfl⟩
 refine ⟨Gt hT hR hc hh Jw hk ?_ ?_,DJ hT hR hc hh Jw hk ?_ ?_⟩
 ·rw [List.any_eq_false]
  intro s hs
  rcases C s hs with ⟨hs,f0',r0'⟩|⟨hs,f0',r0'⟩|⟨hs,f0',r0'⟩
  ·simp [dM,r0']
  ·have:=(LQ hT (DK hT hs)).1
   rw [h,dM,f0',r0',dF]
   simp [NQ,this]
  simp [dM,r0']
 ·rw [List.any_eq_false]
  intro s hs
  rcases C s hs with ⟨hs,f0',r0'⟩|⟨hs,f0',r0'⟩|⟨hs,f0',r0'⟩
  ·have:=DL hT (List.mem_append_left stH hs)
   rw [fV,h]
   simp [jC,f0',dF,List.range_succ,this]
  ·have:=DL hT (List.mem_append_right stA hs)
   rw [fV,h]
   simp [jC,f0',dF,List.range_succ,this]
  have:=(XO hT hs).1
  rw [fV,h]
  simp [jC,f0',dF,List.range_succ,NK,this]
 ·intro s hs hr r hr' hne
  rcases C s hs with ⟨hs,f0',r0'⟩|⟨hs,f0',r0'⟩|⟨hs,f0',r0'⟩
  ·exact absurd r0' hr
  ·have:=(LQ hT (DK hT hs)).2
   rw [h,f0'] at hr' ⊢
   simp only [List.getD_cons_zero,FaV.ri,List.length_cons,List.length_nil] at hr' ⊢
   obtain rfl:r=0:=by omega
   simp [YT,this]
  exact absurd r0' hr
 intro s hs j hj hne
 rw [h] at hj ⊢
 simp only [List.length_cons,List.length_nil] at hj
 rcases C s hs with ⟨hs,f0',r0'⟩|⟨hs,f0',r0'⟩|⟨hs,f0',r0'⟩
 ·obtain rfl:j=1:=by omega
  have:=DL hT (List.mem_append_left stH hs)
  exact ⟨0,by simp [FaV.ri],decide_eq_true (.inl ⟨rfl,fun q=>this (tJ q)⟩)⟩
 ·obtain rfl:j=1:=by omega
  have:=DL hT (List.mem_append_right stA hs)
  exact ⟨0,by simp [FaV.ri],decide_eq_true (.inl ⟨rfl,fun q=>this (tJ q)⟩)⟩
 obtain rfl:j=0:=by omega
 have:=(XO hT hs).2
 exact ⟨1,by simp [FaV.ri],decide_eq_true (.inr ⟨by decide,fun q=>by
  have q':mY (cor c.ps 2 Ae) (oQ c.ps s)=0:=q
  omega⟩)⟩
def xAt (ss:List Int):Nat→Int
 | 0=>0
 | i+1=>xAt ss i+1+xO ss i % 5
def yAt (ss:List Int):Nat→Int
 | 0=>0
 | k+1=>yAt ss k+1+xO ss (7+k) % 5
def rowP (ss:List Int) (k:Nat):Nat→List Pt
 | 0=>[]
 | i+1=>rowP ss k i ++ [(xAt ss i,yAt ss k)]
def qV (ss:List Int) (W:Nat):Nat→List Pt
 | 0=>[]
 | k+1=>qV ss W k++rowP ss k (W+1)
def kM (cs:List Int) (W k i:Nat) (gs:List Fc):List Fc :=
 if xO cs (k*W+i) % 8=0 then gs ++ [⟨.s,i,k⟩,⟨.t,i,k⟩] else if xO cs (k*W+i) % 8=1 then (if gs = [] then [⟨.u,i,k⟩] else gs) else gs ++ [⟨.q,i,k⟩]
def DN (cs:List Int) (W k:Nat) (gs:List Fc):Nat→List Fc
 | 0=>gs
 | i+1=>kM cs W k i (DN cs W k gs i)
def vY (cs:List Int) (W:Nat):Nat→List Fc
 | 0=>[]
 | k+1=>DN cs W k (vY cs W k) W
theorem abO (ss:List Int) {i j:Nat} (h:i<j):xAt ss i<xAt ss j:=by
 induction j with
 | zero=>omega
 | succ j ih =>
  have:=Int.emod_nonneg (xO ss j) (show (5:Int)≠0 by decide)
  rw [xAt]
  rcases Nat.lt_or_eq_of_le (show i≤j by omega) with h|h
  ·have:=ih h;omega
  subst h;omega
theorem abP (ss:List Int) {i j:Nat} (h:i<j):yAt ss i<yAt ss j:=by
 induction j with
 | zero=>omega
 | succ j ih =>
  have:=Int.emod_nonneg (xO ss (7+j)) (show (5:Int)≠0 by decide)
  rw [yAt]
  rcases Nat.lt_or_eq_of_le (show i≤j by omega) with h|h
  ·have:=ih h;omega
  subst h;omega
theorem JA (ss:List Int):∀ i,0≤xAt ss i∧xAt ss i≤5*i
 | 0=>⟨Int.le_refl _,by simp [xAt]⟩
 | i+1=>by
  have:=JA ss i
  have:=Int.emod_nonneg (xO ss i) (show (5:Int)≠0 by decide)
  have:=Int.emod_lt_of_pos (xO ss i) (show (0:Int)<5 by decide)
  rw [xAt];omega
theorem JB (ss:List Int):∀ i,0≤yAt ss i∧yAt ss i≤5*i
 | 0=>⟨Int.le_refl _,by simp [yAt]⟩
 | i+1=>by
  have:=JB ss i
  have:=Int.emod_nonneg (xO ss (7+i)) (show (5:Int)≠0 by decide)
  have:=Int.emod_lt_of_pos (xO ss (7+i)) (show (0:Int)<5 by decide)
  rw [yAt];omega
theorem oG (ss:List Int) (k:Nat):∀ i,(rowP ss k i).length=i
 | 0=>rfl
 | i+1=>by rw [rowP,List.length_append,oG ss k i];rfl
theorem jO (ss:List Int) (W:Nat):∀ k,(qV ss W k).length=(W+1)*k
 | 0=>rfl
 | k+1=>by rw [qV,List.length_append,jO ss W k,oG,Nat.mul_succ]
theorem LU (ss:List Int) (k:Nat) {j:Nat} : ∀ {i},j<i→(rowP ss k i).getD j (0,0)=(xAt ss j,yAt ss k)
 | 0,h=>by omega
 | i+1,h=>by
  rw [rowP,List.getD_eq_getElem?_getD]
  rcases Nat.lt_or_eq_of_le (show j≤i by omega) with h|rfl
  ·rw [List.getElem?_append_left (by rw [oG];exact h),← List.getD_eq_getElem?_getD,LU ss k h]
  rw [List.getElem?_append_right (by rw [oG];omega),oG,Nat.sub_self];rfl
theorem LV (ss:List Int) (W:Nat) {i k:Nat} (hi:i≤W):∀ {K},k<K→(qV ss W K).getD (ix W i k) (0,0)=(xAt ss i,yAt ss k)
 | 0,h=>by omega
 | K+1,h=>by
  rw [qV,List.getD_eq_getElem?_getD]
  rcases Nat.lt_or_eq_of_le (show k≤K by omega) with h|rfl
  ·rw [List.getElem?_append_left ?_,← List.getD_eq_getElem?_getD,LV ss W hi h]
   rw [jO]
   have h1:(W+1)*(k+1)≤(W+1)*K:=Nat.mul_le_mul_left _ h
   rw [Nat.mul_succ] at h1
   unfold ix;omega
  have e:ix W i k-(qV ss W k).length=i:=by rw [jO];unfold ix;omega
  rw [List.getElem?_append_right (by rw [jO];unfold ix;omega),e,← List.getD_eq_getElem?_getD,LU ss k (by omega)]
theorem Gu (ss:List Int) (W H:Nat):Tab (qV ss W (H+1)) (xAt ss) (yAt ss) W H :=
 ⟨⟨fun i j h _=>abO ss h⟩,⟨fun i j h _=>abP ss h⟩,jO ss W (H+1),fun i k hi hk=>by unfold gP;exact LV ss W hi (by omega)⟩
theorem RH (ss:List Int) {W H:Nat} (hW:W≤4) (hH:H≤4):(qV ss W (H+1)).any og=false:=by
 rw [List.any_eq_false]
 intro p hp
 obtain ⟨q,hq,rfl⟩:=List.getElem_of_mem hp
 rw [jO] at hq
 obtain ⟨a1,a2,a3⟩:=Ru (n:=W) (m:=H) (q:=q) (by omega)
 have e:=(Gu ss W H).at' _ _ a1 a2
 rw [a3] at e
 unfold gP at e
 rw [List.getD_eq_getElem?_getD,List.getElem?_eq_getElem (by rw [jO];omega)] at e
 simp only [Option.getD_some] at e
 rw [e]
 have b1:=JA ss (q % (W+1))
 have b2:=JB ss (q / (W+1))
 rw [Bool.not_eq_true,og]
 refine decide_eq_false ?_
 simp only [gv]
 omega
theorem UE.symm {a b:Fk} (h:UE a b):UE b a:=by
 rintro (⟨x,y⟩|⟨x,y⟩)
 ·exact h (.inr ⟨y,x⟩)
 exact h (.inl ⟨y,x⟩)
def Apart (a b:Fc):Prop:=¬ (a.i=b.i∧a.k=b.k∧UE a.kd b.kd)
theorem VP {gs:List Fc} {n m:Nat} (h1:∀ g∈gs,g.ok n m) (h2:gs.Pairwise Apart):vX gs n m:=by
 refine ⟨h1,fun j j' hj hj' hne=>?_⟩
 rw [List.pairwise_iff_getElem] at h2
 rw [List.getD_eq_getElem?_getD,List.getElem?_eq_getElem hj,List.getD_eq_getElem?_getD,List.getElem?_eq_getElem hj']
 simp only [Option.getD_some]
 rcases Nat.lt_or_gt_of_ne hne with h|h
 ·exact h2 j j' hj hj' h
 rintro ⟨a,b,c⟩
 exact h2 j' j hj' hj h ⟨a.symm,b.symm,c.symm⟩
structure Ahd (gs:List Fc) (W H k i:Nat):Prop where
 ok:∀ g∈gs,g.ok W H
 at':∀ g∈gs,g.k<k∨g.k=k∧g.i<i
 pw:gs.Pairwise Apart
theorem Ahd.put {gs ns:List Fc} {W H k i:Nat} (h:Ahd gs W H k i) (hn:∀ g∈ns,g.i=i∧g.k=k) (hp:ns.Pairwise Apart) (hi:i<W) (hk:k<H):Ahd (gs++ns) W H k (i+1):=by
 refine ⟨fun g hg=>?_,fun g hg=>?_,List.pairwise_append.2 ⟨h.pw,hp,fun a ha b hb=>?_⟩⟩
 ·rcases List.mem_append.1 hg with hg|hg
  ·exact h.ok g hg
  obtain ⟨a,b⟩:=hn g hg;exact ⟨by omega,by omega⟩
 ·rcases List.mem_append.1 hg with hg|hg
  ·have:=h.at' g hg;omega
  obtain ⟨a,b⟩:=hn g hg;omega
 rintro ⟨c,d,-⟩
 have:=h.at' a ha
 obtain ⟨e,f⟩:=hn b hb
 omega
theorem Ahd.cell {gs:List Fc} {W H k i:Nat} (cs:List Int) (h:Ahd gs W H k i) (hi:i<W) (hk:k<H):Ahd (kM cs W k i gs) W H k (i+1):=by
 unfold kM
 split
 ·exact h.put (fun g hg=>by simp only [List.mem_cons,List.mem_nil_iff,or_false] at hg;rcases hg with rfl|rfl <;> exact ⟨rfl,rfl⟩) (by simp [Apart,UE]) hi hk
 split
 ·split
  ·exact (show ([]:List Fc) ++ [⟨.u,i,k⟩] = [⟨.u,i,k⟩] from rfl)▸(Ahd.put (gs:=[]) ⟨by simp,by simp,by simp⟩ (fun g hg=>by simp only [List.mem_cons,List.mem_nil_iff,or_false] at hg;subst hg;exact ⟨rfl,rfl⟩) (by simp) hi hk)
  exact ⟨h.ok,fun g hg=>by have:=h.at' g hg;omega,h.pw⟩
 exact h.put (fun g hg=>by simp only [List.mem_cons,List.mem_nil_iff,or_false] at hg;subst hg;exact ⟨rfl,rfl⟩) (by simp) hi hk
theorem Ahd.row {gs:List Fc} {W H k:Nat} (cs:List Int) (h:Ahd gs W H k 0) (hk:k<H):∀ {i},i≤W→Ahd (DN cs W k gs i) W H k i
 | 0,_=>h
 | i+1,hi=>(Ahd.row cs h hk (by omega)).cell cs (by omega) hk
theorem Ahd.all {W H:Nat} (cs:List Int):∀ {k},k≤H→Ahd (vY cs W k) W H k 0
 | 0,_=>⟨by simp [vY],by simp [vY],by simp [vY]⟩
 | k+1,hk=>by
  have h:=(Ahd.all (W:=W) cs (show k≤H by omega)).row cs (by omega) (Nat.le_refl W)
  exact ⟨h.ok,fun g hg=>by have:=h.at' g hg;omega,h.pw⟩
theorem RI (cs:List Int) (W k i:Nat) (gs:List Fc):1≤(kM cs W k i gs).length∧(kM cs W k i gs).length≤gs.length+2∧gs.length≤(kM cs W k i gs).length:=by
 unfold kM
 split
 ·simp
 split
 ·split
  ·rename_i h;subst h;simp
  rename_i h
  have:0<gs.length:=List.length_pos_iff.2 h
  omega
 simp
theorem DR (cs:List Int) (W k:Nat) (gs:List Fc):∀ i,(0<i→1≤(DN cs W k gs i).length)∧(DN cs W k gs i).length≤gs.length+2*i∧gs.length≤(DN cs W k gs i).length
 | 0=>⟨fun h=>absurd h (by decide),by simp [DN],by simp [DN]⟩
 | i+1=>by
  have h1:=DR cs W k gs i
  have h2:=RI cs W k i (DN cs W k gs i)
  rw [DN];omega
theorem wV (cs:List Int) (W:Nat) (hW:0<W):∀ k,(0<k→1≤(vY cs W k).length)∧(vY cs W k).length≤2*W*k
 | 0=>⟨fun h=>absurd h (by decide),by simp [vY]⟩
 | k+1=>by
  have h1:=wV cs W hW k
  have h2:=DR cs W k (vY cs W k) W
  rw [vY,Nat.mul_succ]
  exact ⟨fun _=>h2.1 hW,by omega⟩
theorem JC (cs:List Int) (W H:Nat):vX (vY cs W H) W H:=VP (Ahd.all cs (Nat.le_refl H)).ok (Ahd.all cs (Nat.le_refl H)).pw
theorem qW {α:Type} {l:List α} {m j:Nat} {d:α} (h:j<m):(l.take m).getD j d=l.getD j d:=by
 rw [List.getD_eq_getElem?_getD,List.getElem?_take,if_pos h,List.getD_eq_getElem?_getD]
theorem Match.take {fs:List FaV} {gs:List Fc} {n m:Nat} (h:Match fs gs n):Match (fs.take m) (gs.take m) n:=by
 refine ⟨by rw [List.length_take,List.length_take,h.len],fun j hj=>?_⟩
 rw [List.length_take] at hj
 rw [qW (by omega),qW (by omega)]
 exact h.at' j (by omega)
theorem vX.take {gs:List Fc} {n m M:Nat} (h:vX gs n m):vX (gs.take M) n m:=by
 refine ⟨fun g hg=>h.ok g (List.mem_of_mem_take hg),fun j j' hj hj' hne=>?_⟩
 rw [List.length_take] at hj hj'
 rw [qW (by omega),qW (by omega)]
 exact h.apart j j' (by omega) (by omega) hne
def DC (c:CxV) (W H:Nat) (ho:Bool) (ss cs:List Int):Prop:=c.ps=qV ss W (H+1)∧(ho=true∧W=3∧H=3∧Bo c.fs∨ho=false∧Match c.fs (vY cs W H) W)
theorem tK {c:CxV} {W H:Nat} {ho:Bool} {ss cs:List Int} (h:DC c W H ho ss cs) (hW:1≤W∧W≤4) (hH:1≤H∧H≤3) (m:Nat) (hm:1≤m):cu ⟨c.pv,c.ps,c.fv,c.fs.take m⟩=false∧RG ⟨c.pv,c.ps,c.fv,c.fs.take m⟩:=by
 obtain ⟨hp,h⟩:=h
 have hT:Tab c.ps (xAt ss) (yAt ss) W H:=by rw [hp];exact Gu ss W H
 have hf:c.ps.any og=false:=by rw [hp];exact RH ss hW.2 (by omega)
 rcases h with ⟨-,rfl,rfl,h⟩|⟨-,h⟩
 ·refine RF (c:=⟨c.pv,c.ps,c.fv,c.fs.take m⟩) hT ?_ hf
  obtain ⟨va,vh,hv,e|⟨vb,hw,e⟩⟩:=h
  ·refine ⟨va,vh,hv,.inl ?_⟩
   simp only [e];rw [List.take_of_length_le (by simp;omega)]
  refine ⟨va,vh,hv,?_⟩
  rcases (show m=1∨2≤m by omega) with rfl|h2
  ·left;simp only [e];rfl
  right;refine ⟨vb,hw,?_⟩
  simp only [e];rw [List.take_of_length_le (by simp;omega)]
 have hG:=(JC cs W H).take (M:=m)
 have hM:=h.take (m:=m)
 have hl:=wV cs W (by omega) H
 have hWH:W*H≤4*3:=Nat.mul_le_mul hW.2 hH.2
 have e1:2*W*H=2*(W*H):=Nat.mul_assoc _ _ _
 have h1:1≤((vY cs W H).take m).length:=by rw [List.length_take];have:=hl.1 (by omega);omega
 have h2:((vY cs W H).take m).length≤64:=by rw [List.length_take];omega
 have hL:c.ps.length=(W+1)*(H+1):=hT.len
 have p1:2*2≤(W+1)*(H+1):=Nat.mul_le_mul (by omega) (by omega)
 have p2:(W+1)*(H+1)≤5*4:=Nat.mul_le_mul (by omega) (by omega)
 exact ⟨yj (c:=⟨c.pv,c.ps,c.fv,c.fs.take m⟩) hT hM hG (by simp only;omega) (by simp only;omega) h1 h2 hf (Gs hT),VF (c:=⟨c.pv,c.ps,c.fv,c.fs.take m⟩) hT hM hG (by simp only;omega) (by simp only;omega) h1 h2 hf⟩
end Geo
end Go.Proofs.YtnlonpcbgjbbaaaGreatDoor
