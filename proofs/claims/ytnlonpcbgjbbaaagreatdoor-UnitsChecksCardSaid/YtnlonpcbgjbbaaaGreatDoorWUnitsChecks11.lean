/-
  UnitsChecks, part 11 of its proof: that it returns true for every input, and each argument reads behind the call as it read before. Conditions: the listed variables read as the program's text lays them (tied by the card).
-/
import Derived.Test.YtnlonpcbgjbbaaaGreatDoorWUnitsChecks10
set_option linter.unusedVariables false
set_option linter.unusedSimpArgs false
set_option maxRecDepth 20000
set_option linter.unusedVariables false
set_option linter.unusedSimpArgs false
set_option maxRecDepth 20000
namespace Go.Proofs.YtnlonpcbgjbbaaaGreatDoor
open Go.Proofs.Tryz (call253 call254 call255 call267 func217 func223 func251 func252 func253 func254 func255 func267 func272 isAgg124 isAgg3 ntmps217 ntmps223 ntmps251 ntmps252 ntmps253 ntmps254 ntmps255 ntmps267 ntmps272 results217 results223 results251 results252 results253 results254 results255 results267 results272 runUnderlying124 runUnderlying237 runUnderlying4 sizeOf124 sizeOf3 zeroValue124)
open Go Go.E
attribute [local irreducible] Go.E.T Go.E.L Go.E.O Go.E.Ob

namespace Geo
def lowI (a b c d:Pt):Int:=if a.1=b.1 then mx (mn a.2 b.2) (mn c.2 d.2)-mn (mx a.2 b.2) (mx c.2 d.2) else mx (mn a.1 b.1) (mn c.1 d.1)-mn (mx a.1 b.1) (mx c.1 d.1)
/-- How two segments meet, in the reference. -/
def howI (a b c d:Pt):Int :=
 if sgn (turnD a b c)=0∧sgn (turnD a b d)=0 then (if 0<lowI a b c d then 0 else if lowI a b c d=0 then 1 else 3)
 else if sgn (turnD a b c)*sgn (turnD a b d)<0∧sgn (turnD c d a)*sgn (turnD c d b)<0 then 2
 else if onE a b c∨onE a b d∨onE c d a∨onE c d b then 1 else 0
/-- An edge that a ray to the right crosses. -/
def crsB (a b p:Pt):Bool:=(decide (p.2<a.2) != decide (p.2<b.2)) && (decide (0<turnD a b p) == decide (a.2<b.2))
def parTo (r:List Pt) (p:Pt):Nat→Bool
 | 0=>false
 | i+1=>parTo r p i ^^ crsB (rA r i) (rB r i) p
def placeI (r:List Pt) (p:Pt):Int:=if ∃ i,i<r.length∧onE (rA r i) (rB r i) p then 1 else if parTo r p r.length=true then 2 else 0
theorem mul_pos_nonneg {a b:Int} (ha:0<a) (h:0≤a*b):0≤b:=Int.nonneg_of_mul_nonneg_right h ha
theorem ord_le {a b:Pt} (h:ordI a b≤0):a.1<b.1∨a.1=b.1∧a.2≤b.2:=by
 unfold ordI cmpI at h
 repeat' split at h
 all_goals first|omega|(simp_all;done)|skip
theorem turn_swap (a b p:Pt):turnD b a p = - turnD a b p:=by unfold turnD;grind
/-- Between two points, on their line. -/
theorem lex_box {u v p:Pt} (h0:turnD u v p=0) (h1:u.1<p.1∨u.1=p.1∧u.2≤p.2) (h2:p.1<v.1∨p.1=v.1∧p.2≤v.2):(u.1≤p.1∧p.1≤v.1)∧(u.2≤p.2∧p.2≤v.2∨v.2≤p.2∧p.2≤u.2):=by
 refine ⟨by omega,?_⟩
 unfold turnD at h0
 by_cases he:u.1=v.1
 ·left;omega
 ·have hlt:u.1<v.1:=by omega
  have e1:(v.1-u.1)*(p.2-u.2)=(v.2-u.2)*(p.1-u.1):=by omega
  have e2:(v.1-u.1)*(v.2-p.2)=(v.2-u.2)*(v.1-p.1):=by grind
  have e3:(v.1-u.1)*(u.2-p.2)=(u.2-v.2)*(p.1-u.1):=by grind
  have e4:(v.1-u.1)*(p.2-v.2)=(u.2-v.2)*(v.1-p.1):=by grind
  rcases Int.le_total u.2 v.2 with h|h
  ·left
   have q1:=mul_pos_nonneg (a:=v.1-u.1) (b:=p.2-u.2) (by omega) (by rw [e1];exact Int.mul_nonneg (by omega) (by omega))
   have q2:=mul_pos_nonneg (a:=v.1-u.1) (b:=v.2-p.2) (by omega) (by rw [e2];exact Int.mul_nonneg (by omega) (by omega))
   omega
  ·right
   have q1:=mul_pos_nonneg (a:=v.1-u.1) (b:=u.2-p.2) (by omega) (by rw [e3];exact Int.mul_nonneg (by omega) (by omega))
   have q2:=mul_pos_nonneg (a:=v.1-u.1) (b:=p.2-v.2) (by omega) (by rw [e4];exact Int.mul_nonneg (by omega) (by omega))
   omega
theorem hasB_box {a b p:Pt} (h:hasB a b p=true):turnD a b p=0∧(a.1≤p.1∧p.1≤b.1∨b.1≤p.1∧p.1≤a.1)∧(a.2≤p.2∧p.2≤b.2∨b.2≤p.2∧p.2≤a.2):=by
 unfold hasB at h
 split at h
 ·cases h
 ·rename_i h0
  have h0:turnD a b p=0:=Classical.not_not.1 h0
  refine ⟨h0,?_⟩
  split at h
  ·rw [Bool.and_eq_true] at h
   have:=lex_box (u:=b) (v:=a) (by rw [turn_swap,h0];rfl) (ord_le (of_decide_eq_true h.1)) (ord_le (of_decide_eq_true h.2))
   omega
  ·rw [Bool.and_eq_true] at h
   have:=lex_box h0 (ord_le (of_decide_eq_true h.1)) (ord_le (of_decide_eq_true h.2))
   omega
theorem sgn_neg {x y:Int} (h:sgn x*sgn y<0):x<0∧0<y∨0<x∧y<0:=by
 unfold sgn at h
 repeat' split at h
 all_goals omega
/-- Edges on both sides of a number do not cross. -/
theorem weights {S T p q A B C D:Int} (hS:0<S) (hT:T<0) (hp:p<0) (hq:0<q) (hA:0≤A) (hB:0≤B) (hC:0≤C) (hD:0≤D) (h:(-T)*A+S*B+q*C+(-p)*D=0):A=0∧B=0∧C=0∧D=0:=by
 have h1:0≤(-T)*A:=Int.mul_nonneg (by omega) hA
 have h2:0≤S*B:=Int.mul_nonneg (by omega) hB
 have h3:0≤q*C:=Int.mul_nonneg (by omega) hC
 have h4:0≤(-p)*D:=Int.mul_nonneg (by omega) hD
 have z:∀ {x y:Int},0<x→x*y=0→y=0:=fun hx hy=>by
  rcases Int.mul_eq_zero.1 hy with h|h
  ·omega
  ·exact h
 exact ⟨z (x:=-T) (by omega) (by omega),z hS (by omega),z hq (by omega),z (x:=-p) (by omega) (by omega)⟩
theorem turn_sum (a b c d:Pt):turnD c d b-turnD c d a+turnD a b d-turnD a b c=0:=by unfold turnD;grind
theorem turn_x (a b c d:Pt) (m:Int):(-turnD c d b)*(m-a.1)+turnD c d a*(m-b.1)+turnD a b d*(c.1-m)+(-turnD a b c)*(d.1-m)=0:=by unfold turnD;grind
theorem turn_y (a b c d:Pt) (m:Int):(-turnD c d b)*(m-a.2)+turnD c d a*(m-b.2)+turnD a b d*(c.2-m)+(-turnD a b c)*(d.2-m)=0:=by unfold turnD;grind
def Cross (a b c d:Pt):Prop:=sgn (turnD a b c)*sgn (turnD a b d)<0∧sgn (turnD c d a)*sgn (turnD c d b)<0
theorem no_cross {a b c d:Pt} {A B C D:Int} (hA:0≤A) (hB:0≤B) (hC:0≤C) (hD:0≤D) (h:(-turnD c d b)*A+turnD c d a*B+turnD a b d*C+(-turnD a b c)*D=0) (hz:A=0→B=0→C=0→D=0→turnD a b c=0):¬ Cross a b c d:=by
 rintro ⟨h1,h2⟩
 have hs:=turn_sum a b c d
 rcases sgn_neg h1 with h3|h3 <;> rcases sgn_neg h2 with h4|h4
 ·omega
 ·obtain ⟨a1,a2,a3,a4⟩:=weights h4.1 h4.2 h3.1 h3.2 hA hB hC hD h
  have:=hz a1 a2 a3 a4
  omega
 ·obtain ⟨a1,a2,a3,a4⟩:=weights (S:=-turnD c d a) (T:=-turnD c d b) (p:=-turnD a b c) (q:=-turnD a b d) (by omega) (by omega) (by omega) (by omega) hA hB hC hD (by rw [← Int.neg_eq_zero] at h;rw [← h];grind)
  have:=hz a1 a2 a3 a4
  omega
 ·omega
theorem no_cross_x {a b c d:Pt} {m:Int} (ha:a.1≤m) (hb:b.1≤m) (hc:m≤c.1) (hd:m≤d.1):¬ Cross a b c d :=
 no_cross (A:=m-a.1) (B:=m-b.1) (C:=c.1-m) (D:=d.1-m) (by omega) (by omega) (by omega) (by omega) (turn_x a b c d m) fun h1 h2 h3 h4=>by
  unfold turnD
  rw [show b.1-a.1=0 by omega,show c.1-a.1=0 by omega];simp
theorem no_cross_y {a b c d:Pt} {m:Int} (ha:a.2≤m) (hb:b.2≤m) (hc:m≤c.2) (hd:m≤d.2):¬ Cross a b c d :=
 no_cross (A:=m-a.2) (B:=m-b.2) (C:=c.2-m) (D:=d.2-m) (by omega) (by omega) (by omega) (by omega) (turn_y a b c d m) fun h1 h2 h3 h4=>by
  unfold turnD
  rw [show c.2-a.2=0 by omega,show b.2-a.2=0 by omega];simp
theorem cross_comm {a b c d:Pt} (h:Cross a b c d):Cross c d a b:=⟨h.2,h.1⟩
theorem comK_le {a b c d e:Pt} : ∀ (l:List Pt) (kvs:List (Pt × Bool)),(∀ x∈l,comB a b c d x=true→x=e)→(kvs = []∨kvs = [(e,true)])→comK a b c d l kvs = []∨comK a b c d l kvs = [(e,true)]
 | [],kvs,_,hk=>hk
 | x::r,kvs,hl,hk=>by
  rw [comK]
  refine comK_le r _ (fun y hy=>hl y (List.mem_cons_of_mem _ hy)) ?_
  split
  ·rename_i hc
   have hx:=hl x (List.mem_cons_self ..) hc
   subst hx
   right
   rcases hk with rfl|rfl <;> simp [putG,findG]
  ·exact hk
theorem comK_nil {a b c d:Pt} : ∀ (l:List Pt),(∀ x∈l,comB a b c d x=false)→comK a b c d l [] = []
 | [],_=>rfl
 | x::r,hl=>by
  rw [comK,hl x (List.mem_cons_self ..)]
  exact comK_nil r (fun y hy=>hl y (List.mem_cons_of_mem _ hy))
/-- Edges that do not cross, and have one point in common at most. -/
theorem meet_one {a b c d e:Pt} (hx:¬ Cross a b c d) (hl:∀ x ∈ [a,b,c,d],comB a b c d x=true→x=e):meetI a b c d=0∨meetI a b c d=1:=by
 unfold meetI
 have hx':¬ (sgn (turnD a b c)*sgn (turnD a b d)<0∧sgn (turnD c d a)*sgn (turnD c d b)<0):=hx
 rcases comK_le [a,b,c,d] [] hl (.inl rfl) with h|h
 ·rw [h,if_neg (by simp),if_neg (by simp),if_neg hx'];exact .inl rfl
 ·rw [h,if_neg (by simp),if_pos (by simp)];exact .inr rfl
theorem meet_none {a b c d:Pt} (hx:¬ Cross a b c d) (hl:∀ x ∈ [a,b,c,d],comB a b c d x=false):meetI a b c d=0:=by
 unfold meetI
 have hx':¬ (sgn (turnD a b c)*sgn (turnD a b d)<0∧sgn (turnD c d a)*sgn (turnD c d b)<0):=hx
 rw [comK_nil _ hl,if_neg (by simp),if_neg (by simp),if_neg hx']
/-- Lines of a table: greater from one to the next. -/
structure Inc (X:Nat→Int) (n:Nat):Prop where
 lt:∀ i j,i<j→j≤n→X i<X j
theorem Inc.le {X:Nat→Int} {n:Nat} (h:Inc X n) {i j:Nat} (hij:i≤j) (hj:j≤n):X i≤X j:=by
 rcases Nat.lt_or_eq_of_le hij with h1|rfl
 ·exact Int.le_of_lt (h.lt i j h1 hj)
 ·exact Int.le_refl _
theorem Inc.of_le {X:Nat→Int} {n:Nat} (h:Inc X n) {i j:Nat} (hi:i≤n) (hij:X i≤X j):i≤j:=by
 rcases Nat.lt_or_ge j i with h1|h1
 ·have:=h.lt j i h1 hi;omega
 ·exact h1
/-- An edge of a table: from a point to the right, up, or both. -/
structure Ge where
 i:Nat
 k:Nat
 di:Nat
 dk:Nat
deriving DecidableEq
structure Ge.ok (e:Ge) (n m:Nat):Prop where
 i:e.i+e.di≤n
 k:e.k+e.dk≤m
 d:e.di≤1∧e.dk≤1∧1≤e.di+e.dk
def gv (X Y:Nat→Int) (i k:Nat):Pt:=(X i,Y k)
def Ge.lo (X Y:Nat→Int) (e:Ge):Pt:=gv X Y e.i e.k
def Ge.hi (X Y:Nat→Int) (e:Ge):Pt:=gv X Y (e.i+e.di) (e.k+e.dk)
section
variable {X Y:Nat→Int} {n m:Nat} (hX:Inc X n) (hY:Inc Y m)
include hX hY
/-- Points of the table on an edge are its ends. -/
theorem on_box {e:Ge} (he:e.ok n m) {j l:Nat} (hj:j≤n) (hl:l≤m) {a b:Pt} (hab:a=e.lo X Y∧b=e.hi X Y∨a=e.hi X Y∧b=e.lo X Y) (h:turnD a b (gv X Y j l)=0∧(a.1≤(gv X Y j l).1∧(gv X Y j l).1≤b.1∨b.1≤(gv X Y j l).1∧(gv X Y j l).1≤a.1)∧(a.2≤(gv X Y j l).2∧(gv X Y j l).2≤b.2∨b.2≤(gv X Y j l).2∧(gv X Y j l).2≤a.2)):j=e.i∧l=e.k∨j=e.i+e.di∧l=e.k+e.dk:=by
 obtain ⟨h0,h1,h2⟩:=h
 obtain ⟨e1,e2,e3,e4,e5⟩:=he
 have hx:X e.i≤X j∧X j≤X (e.i+e.di):=by
  have:=hX.le (show e.i≤e.i+e.di by omega) e1
  rcases hab with ⟨rfl,rfl⟩|⟨rfl,rfl⟩ <;> simp only [Ge.lo,Ge.hi,gv] at h1 <;> omega
 have hy:Y e.k≤Y l∧Y l≤Y (e.k+e.dk):=by
  have:=hY.le (show e.k≤e.k+e.dk by omega) e2
  rcases hab with ⟨rfl,rfl⟩|⟨rfl,rfl⟩ <;> simp only [Ge.lo,Ge.hi,gv] at h2 <;> omega
 have j1:=hX.of_le (show e.i≤n by omega) hx.1
 have j2:=hX.of_le hj hx.2
 have l1:=hY.of_le (show e.k≤m by omega) hy.1
 have l2:=hY.of_le hl hy.2
 have ht:turnD (e.lo X Y) (e.hi X Y) (gv X Y j l)=0:=by
  rcases hab with ⟨rfl,rfl⟩|⟨rfl,rfl⟩
  ·exact h0
  ·rw [turn_swap] at h0;omega
 rcases (show e.di=0∨e.dk=0∨(e.di=1∧e.dk=1) by omega) with hd|hd|⟨hd1,hd2⟩
 ·omega
 ·omega
 ·have x1:=hX.lt e.i (e.i+1) (by omega) (by omega)
  have y1:=hY.lt e.k (e.k+1) (by omega) (by omega)
  simp only [turnD,Ge.lo,Ge.hi,gv,hd1,hd2] at ht
  rcases (show j=e.i∨j=e.i+1 by omega) with rfl|rfl <;> rcases (show l=e.k∨l=e.k+1 by omega) with rfl|rfl
  ·exact .inl ⟨rfl,rfl⟩
  ·exfalso
   have:0<(X (e.i+1)-X e.i)*(Y (e.k+1)-Y e.k):=Int.mul_pos (by omega) (by omega)
   rw [Int.sub_self,Int.mul_zero,Int.sub_zero] at ht
   omega
  ·exfalso
   have:0<(Y (e.k+1)-Y e.k)*(X (e.i+1)-X e.i):=Int.mul_pos (by omega) (by omega)
   rw [Int.sub_self,Int.mul_zero,Int.zero_sub] at ht
   omega
  ·exact .inr ⟨by omega,by omega⟩
theorem on_edge {e:Ge} (he:e.ok n m) {j l:Nat} (hj:j≤n) (hl:l≤m) {a b:Pt} (hab:a=e.lo X Y∧b=e.hi X Y∨a=e.hi X Y∧b=e.lo X Y) (h:hasB a b (gv X Y j l)=true):j=e.i∧l=e.k∨j=e.i+e.di∧l=e.k+e.dk:=on_box hX hY he hj hl hab (hasB_box h)
/-- Different edges do not cross. -/
theorem ge_cross {e f:Ge} (he:e.ok n m) (hf:f.ok n m) (hne:e≠f) {a b c d:Pt} (hab:a=e.lo X Y∧b=e.hi X Y∨a=e.hi X Y∧b=e.lo X Y) (hcd:c=f.lo X Y∧d=f.hi X Y∨c=f.hi X Y∧d=f.lo X Y):¬ Cross a b c d:=by
 obtain ⟨e1,e2,e3,e4,e5⟩:=he
 obtain ⟨f1,f2,f3,f4,f5⟩:=hf
 have sep:e.i+e.di≤f.i∨f.i+f.di≤e.i∨e.k+e.dk≤f.k∨f.k+f.dk≤e.k:=by
  rcases Classical.em (e.i+e.di≤f.i∨f.i+f.di≤e.i∨e.k+e.dk≤f.k∨f.k+f.dk≤e.k) with h|h
  ·exact h
  ·exfalso;apply hne
   obtain ⟨i,k,di,dk⟩:=e
   obtain ⟨i',k',di',dk'⟩:=f
   simp only at *
   have:i=i'∧k=k'∧di=di'∧dk=dk':=by omega
   obtain ⟨rfl,rfl,rfl,rfl⟩:=this;rfl
 have ex:=hX.le (show e.i≤e.i+e.di by omega) e1
 have ey:=hY.le (show e.k≤e.k+e.dk by omega) e2
 have fx:=hX.le (show f.i≤f.i+f.di by omega) f1
 have fy:=hY.le (show f.k≤f.k+f.dk by omega) f2
 rcases sep with h|h|h|h
 ·have:=hX.le h (by omega)
  refine no_cross_x (m:=X f.i) ?_ ?_ ?_ ?_ <;> rcases hab with ⟨rfl,rfl⟩|⟨rfl,rfl⟩ <;> rcases hcd with ⟨rfl,rfl⟩|⟨rfl,rfl⟩ <;> simp only [Ge.lo,Ge.hi,gv] <;> omega
 ·have:=hX.le h (by omega)
  intro hc
  refine no_cross_x (m:=X e.i) ?_ ?_ ?_ ?_ (cross_comm hc) <;> rcases hab with ⟨rfl,rfl⟩|⟨rfl,rfl⟩ <;> rcases hcd with ⟨rfl,rfl⟩|⟨rfl,rfl⟩ <;> simp only [Ge.lo,Ge.hi,gv] <;> omega
 ·have:=hY.le h (by omega)
  refine no_cross_y (m:=Y f.k) ?_ ?_ ?_ ?_ <;> rcases hab with ⟨rfl,rfl⟩|⟨rfl,rfl⟩ <;> rcases hcd with ⟨rfl,rfl⟩|⟨rfl,rfl⟩ <;> simp only [Ge.lo,Ge.hi,gv] <;> omega
 ·have:=hY.le h (by omega)
  intro hc
  refine no_cross_y (m:=Y e.k) ?_ ?_ ?_ ?_ (cross_comm hc) <;> rcases hab with ⟨rfl,rfl⟩|⟨rfl,rfl⟩ <;> rcases hcd with ⟨rfl,rfl⟩|⟨rfl,rfl⟩ <;> simp only [Ge.lo,Ge.hi,gv] <;> omega
/-- A point that two edges have in common is an end of both. -/
theorem ge_common {e f:Ge} (he:e.ok n m) (hf:f.ok n m) {a b c d x:Pt} (hab:a=e.lo X Y∧b=e.hi X Y∨a=e.hi X Y∧b=e.lo X Y) (hcd:c=f.lo X Y∧d=f.hi X Y∨c=f.hi X Y∧d=f.lo X Y) (hx:x ∈ [a,b,c,d]) (hc:comB a b c d x=true) :
  ∃ j l,x=gv X Y j l∧(j=e.i∧l=e.k∨j=e.i+e.di∧l=e.k+e.dk)∧(j=f.i∧l=f.k∨j=f.i+f.di∧l=f.k+f.dk):=by
 have hg:∃ j l,x=gv X Y j l∧j≤n∧l≤m:=by
  have e1:=he.i;have e2:=he.k;have f1:=hf.i;have f2:=hf.k
  simp only [List.mem_cons,List.mem_nil_iff,or_false] at hx
  rcases hab with ⟨rfl,rfl⟩|⟨rfl,rfl⟩ <;> rcases hcd with ⟨rfl,rfl⟩|⟨rfl,rfl⟩ <;> rcases hx with rfl|rfl|rfl|rfl <;> exact ⟨_,_,rfl,by omega,by omega⟩
 obtain ⟨j,l,rfl,hj,hl⟩:=hg
 rw [comB,Bool.and_eq_true] at hc
 exact ⟨j,l,rfl,on_edge hX hY he hj hl hab hc.1,on_edge hX hY hf hj hl hcd hc.2⟩
/-- Different edges meet in an end that they share, or not. -/
theorem ge_meet {e f:Ge} (he:e.ok n m) (hf:f.ok n m) (hne:e≠f) {a b c d:Pt} (hab:a=e.lo X Y∧b=e.hi X Y∨a=e.hi X Y∧b=e.lo X Y) (hcd:c=f.lo X Y∧d=f.hi X Y∨c=f.hi X Y∧d=f.lo X Y) :
  meetI a b c d=0∨meetI a b c d=1∧∃ j l,(j=e.i∧l=e.k∨j=e.i+e.di∧l=e.k+e.dk)∧(j=f.i∧l=f.k∨j=f.i+f.di∧l=f.k+f.dk):=by
 have hx:=ge_cross hX hY he hf hne hab hcd
 by_cases hs:∃ j l,(j=e.i∧l=e.k∨j=e.i+e.di∧l=e.k+e.dk)∧(j=f.i∧l=f.k∨j=f.i+f.di∧l=f.k+f.dk)
 ·obtain ⟨j,l,h1,h2⟩:=hs
  rcases meet_one (e:=gv X Y j l) hx (fun x hm hc=>by
   obtain ⟨j',l',rfl,q1,q2⟩:=ge_common hX hY he hf hab hcd hm hc
   have e5:=he.d;have f5:=hf.d
   have:j'=j∧l'=l:=by
    rcases Classical.em (j'=j∧l'=l) with h|h
    ·exact h
    ·exfalso;apply hne
     obtain ⟨i,k,di,dk⟩:=e
     obtain ⟨i',k',di',dk'⟩:=f
     simp only at *
     have:i=i'∧k=k'∧di=di'∧dk=dk':=by omega
     obtain ⟨rfl,rfl,rfl,rfl⟩:=this;rfl
   rw [this.1,this.2]) with h|h
  ·exact .inl h
  ·exact .inr ⟨h,j,l,h1,h2⟩
 ·left
  exact meet_none hx fun x hm=>by
   rw [← Bool.not_eq_true]
   intro hc
   obtain ⟨j,l,_,q1,q2⟩:=ge_common hX hY he hf hab hcd hm hc
   exact hs ⟨j,l,q1,q2⟩
end
theorem sideI_two {r:List Pt} {p:Pt} (h:sideI r p=2):(∀ i,i<r.length→¬ onE (rA r i) (rB r i) p)∧windTo r p r.length≠0:=by
 unfold sideI at h
 split at h
 ·cases h
 ·rename_i h1
  split at h
  ·cases h
  ·rename_i h2
   exact ⟨fun i hi ho=>h1 ⟨i,hi,ho⟩,h2⟩
theorem sideI_on {r:List Pt} {p:Pt} {i:Nat} (hi:i<r.length) (h:onE (rA r i) (rB r i) p):sideI r p=1:=by
 unfold sideI;rw [if_pos ⟨i,hi,h⟩]
theorem sideI_in {r:List Pt} {p:Pt} (h:∀ i,i<r.length→¬ onE (rA r i) (rB r i) p) (hw:windTo r p r.length≠0):sideI r p=2:=by
 unfold sideI
 rw [if_neg (by rintro ⟨i,hi,ho⟩;exact h i hi ho),if_neg hw]
/-- Horizontal edges do not count. -/
theorem step_h {a b p:Pt} (h:a.2=b.2):stepW a b p=0:=by
 unfold stepW;rw [if_neg (by omega),if_neg (by omega)]
theorem turn_v {x y y':Int} {p:Pt} : turnD (x,y) (x,y') p=(y'-y)*(x-p.1):=by unfold turnD;grind
theorem step_up {x y y':Int} {p:Pt} (h:y<y'):stepW (x,y) (x,y') p=if y≤p.2∧p.2<y'∧p.1<x then 1 else 0:=by
 unfold stepW
 have e:0<turnD (x,y) (x,y') p↔p.1<x:=by
  rw [turn_v]
  constructor
  ·intro h1
   have:=Int.pos_of_mul_pos_right h1 (by omega:0<y'-y) 
   omega
  ·intro h1;exact Int.mul_pos (by omega) (by omega)
 simp only [e]
 split
 ·rfl
 ·rw [if_neg (by omega)]
theorem step_dn {x y y':Int} {p:Pt} (h:y'<y):stepW (x,y) (x,y') p=if y'≤p.2∧p.2<y∧p.1<x then -1 else 0:=by
 unfold stepW
 have e:turnD (x,y) (x,y') p<0↔p.1<x:=by
  have e1:turnD (x,y) (x,y') p = -((y-y')*(x-p.1)):=by rw [turn_v];grind
  rw [e1]
  constructor
  ·intro h1
   have h2:0<(y-y')*(x-p.1):=by omega
   have:=Int.pos_of_mul_pos_right h2 (by omega:0<y-y')
   omega
  ·intro h1
   have:0<(y-y')*(x-p.1):=Int.mul_pos (by omega) (by omega)
   omega
 simp only [e]
 rw [if_neg (by omega)]
 by_cases hc:y'≤p.2∧p.2<y∧p.1<x
 ·rw [if_pos (by omega),if_pos hc]
 ·rw [if_neg (by omega),if_neg hc]
theorem on_v {x y y':Int} {p:Pt} (h:y≤y') (h1:p.1=x) (h2:y≤p.2) (h3:p.2≤y'):onE (x,y) (x,y') p∧onE (x,y') (x,y) p:=by
 refine ⟨⟨by rw [turn_v,h1,Int.sub_self,Int.mul_zero],?_,?_,?_,?_⟩,⟨by rw [turn_v,h1,Int.sub_self,Int.mul_zero],?_,?_,?_,?_⟩⟩ <;> simp only [mn,mx] <;> (try split) <;> omega
theorem on_h {x x' y:Int} {p:Pt} (h:x≤x') (h1:p.2=y) (h2:x≤p.1) (h3:p.1≤x'):onE (x,y) (x',y) p∧onE (x',y) (x,y) p:=by
 have t:∀ a b:Int,turnD (a,y) (b,y) p=0:=fun a b=>by unfold turnD;simp only [h1,Int.sub_self];simp
 refine ⟨⟨t _ _,?_,?_,?_,?_⟩,⟨t _ _,?_,?_,?_,?_⟩⟩ <;> simp only [mn,mx] <;> (try split) <;> omega
/-- Strictly within a box. -/
def Inn (x x' y y':Int) (p:Pt):Prop:=(x<p.1∧p.1<x')∧y<p.2∧p.2<y'
theorem wind4 (a b c d p:Pt):windTo [a,b,c,d] p 4=stepW a b p+stepW b c p+stepW c d p+stepW d a p:=by simp [windTo,rA,rB]
theorem wind3 (a b c p:Pt):windTo [a,b,c] p 3=stepW a b p+stepW b c p+stepW c a p:=by simp [windTo,rA,rB]
theorem not_on4 {a b c d p:Pt} (h:∀ i,i < [a,b,c,d].length→¬ onE (rA [a,b,c,d] i) (rB [a,b,c,d] i) p):¬ onE a b p∧¬ onE b c p∧¬ onE c d p∧¬ onE d a p :=
 ⟨by simpa [rA,rB] using h 0 (by simp),by simpa [rA,rB] using h 1 (by simp),by simpa [rA,rB] using h 2 (by simp),by simpa [rA,rB] using h 3 (by simp)⟩
theorem not_on3 {a b c p:Pt} (h:∀ i,i < [a,b,c].length→¬ onE (rA [a,b,c] i) (rB [a,b,c] i) p):¬ onE a b p∧¬ onE b c p∧¬ onE c a p :=
 ⟨by simpa [rA,rB] using h 0 (by simp),by simpa [rA,rB] using h 1 (by simp),by simpa [rA,rB] using h 2 (by simp)⟩
theorem rect_in {x x' y y':Int} {p:Pt} (hx:x<x') (hy:y<y') (h:sideI [(x,y),(x',y),(x',y'),(x,y')] p=2):Inn x x' y y' p:=by
 obtain ⟨h1,h2⟩:=sideI_two h
 have h2:windTo [(x,y),(x',y),(x',y'),(x,y')] p 4≠0:=h2
 rw [wind4,step_h (by rfl),step_up hy,step_h (by rfl),step_dn hy] at h2
 obtain ⟨n1,n2,n3,n4⟩:=not_on4 h1
 have hb:y≤p.2∧p.2<y'∧x≤p.1∧p.1<x':=by
  split at h2 <;> split at h2 <;> omega
 have ny:p.2≠y:=fun e=>n1 (on_h (by omega) e hb.2.2.1 (by omega)).1
 have nx:p.1≠x:=fun e=>n4 (on_v (by omega) e hb.1 (by omega)).2
 exact ⟨⟨by omega,hb.2.2.2⟩,by omega,hb.2.1⟩
/-- .. beginning at another corner. -/
theorem rect_in' {x x' y y':Int} {p:Pt} (hx:x<x') (hy:y<y') (h:sideI [(x',y'),(x,y'),(x,y),(x',y)] p=2):Inn x x' y y' p:=by
 obtain ⟨h1,h2⟩:=sideI_two h
 have h2:windTo [(x',y'),(x,y'),(x,y),(x',y)] p 4≠0:=h2
 rw [wind4,step_h (by rfl),step_dn hy,step_h (by rfl),step_up hy] at h2
 obtain ⟨n1,n2,n3,n4⟩:=not_on4 h1
 have hb:y≤p.2∧p.2<y'∧x≤p.1∧p.1<x':=by
  split at h2 <;> split at h2 <;> omega
 have ny:p.2≠y:=fun e=>n3 (on_h (by omega) e hb.2.2.1 (by omega)).1
 have nx:p.1≠x:=fun e=>n2 (on_v (by omega) e hb.1 (by omega)).2
 exact ⟨⟨by omega,hb.2.2.2⟩,by omega,hb.2.1⟩
/-- The lower triangle of a cell. -/
theorem tri1_in {x x' y y':Int} {p:Pt} (hx:x<x') (hy:y<y') (h:sideI [(x,y),(x',y),(x',y')] p=2):Inn x x' y y' p∧turnD (x,y) (x',y') p≠0:=by
 obtain ⟨h1,h2⟩:=sideI_two h
 have h2:windTo [(x,y),(x',y),(x',y')] p 3≠0:=h2
 obtain ⟨n1,n2,n3⟩:=not_on3 h1
 rw [wind3,step_h (by rfl),step_up hy] at h2
 unfold stepW at h2
 simp only at h2
 have et:turnD (x',y') (x,y) p=(x'-x)*(y'-p.2)-(y'-y)*(x'-p.1):=by unfold turnD;grind
 have es:turnD (x',y') (x,y) p = - turnD (x,y) (x',y') p:=turn_swap _ _ _
 have hyr:y≤p.2∧p.2<y':=by
  split at h2 <;> split at h2 <;> (try split at h2) <;> omega
 have hpx:p.1<x':=by
  rcases Int.lt_or_le p.1 x' with h|h
  ·exact h
  ·exfalso
   have q1:0<(x'-x)*(y'-p.2):=Int.mul_pos (by omega) (by omega)
   have q2:0≤(y'-y)*(p.1-x'):=Int.mul_nonneg (by omega) (by omega)
   have q3:(y'-y)*(x'-p.1) = -((y'-y)*(p.1-x')):=by grind
   have:0<turnD (x',y') (x,y) p:=by rw [et];omega
   rw [if_neg (by omega),if_neg (by omega),if_neg (by omega)] at h2
   omega
 have htn:0≤turnD (x',y') (x,y) p:=by
  rcases Int.lt_or_le (turnD (x',y') (x,y) p) 0 with h|h
  ·exfalso
   rw [if_pos (by omega),if_neg (by omega),if_pos (by omega)] at h2
   omega
  ·exact h
 have hpx0:x≤p.1:=by
  rcases Int.lt_or_le p.1 x with h|h
  ·exfalso
   have q1:(x'-x)*(y'-p.2)≤(x'-x)*(y'-y):=Int.mul_le_mul_of_nonneg_left (by omega) (by omega)
   have q2:(y'-y)*(x'-x)<(y'-y)*(x'-p.1):=Int.mul_lt_mul_of_pos_left (by omega) (by omega)
   have q3:(x'-x)*(y'-y)=(y'-y)*(x'-x):=Int.mul_comm _ _
   rw [et] at htn;omega
  ·exact h
 have ht0:turnD (x,y) (x',y') p≠0:=fun e=>n3 (by
  refine ⟨by rw [es,e];rfl,?_,?_,?_,?_⟩ <;> simp only [mn,mx] <;> (try split) <;> omega)
 have ny:p.2≠y:=fun e=>n1 (on_h (by omega) e hpx0 (by omega)).1
 have nx:p.1≠x:=fun e=>by
  have q1:(x'-x)*(y'-p.2)<(x'-x)*(y'-y):=Int.mul_lt_mul_of_pos_left (by omega) (by omega)
  have q3:(x'-x)*(y'-y)=(y'-y)*(x'-x):=Int.mul_comm _ _
  rw [et,e] at htn;omega
 exact ⟨⟨⟨by omega,hpx⟩,by omega,hyr.2⟩,ht0⟩
/-- The upper triangle of a cell. -/
theorem tri2_in {x x' y y':Int} {p:Pt} (hx:x<x') (hy:y<y') (h:sideI [(x,y),(x',y'),(x,y')] p=2):Inn x x' y y' p∧turnD (x,y) (x',y') p≠0:=by
 obtain ⟨h1,h2⟩:=sideI_two h
 have h2:windTo [(x,y),(x',y'),(x,y')] p 3≠0:=h2
 obtain ⟨n1,n2,n3⟩:=not_on3 h1
 rw [wind3,step_h (a:=(x',y')) (by rfl),step_dn hy] at h2
 unfold stepW at h2
 simp only at h2
 have et:turnD (x,y) (x',y') p=(x'-x)*(p.2-y)-(y'-y)*(p.1-x):=rfl
 have hyr:y≤p.2∧p.2<y':=by
  split at h2 <;> split at h2 <;> (try split at h2) <;> omega
 have hpx0:x≤p.1:=by
  rcases Int.lt_or_le p.1 x with h|h
  ·exfalso
   have q1:0≤(x'-x)*(p.2-y):=Int.mul_nonneg (by omega) (by omega)
   have q2:0<(y'-y)*(x-p.1):=Int.mul_pos (by omega) (by omega)
   have q3:(y'-y)*(p.1-x) = -((y'-y)*(x-p.1)):=by grind
   have:0<turnD (x,y) (x',y') p:=by rw [et];omega
   rw [if_pos (by omega),if_pos (by omega)] at h2
   omega
  ·exact h
 have htp:0<turnD (x,y) (x',y') p:=by
  rcases Int.lt_or_le 0 (turnD (x,y) (x',y') p) with h|h
  ·exact h
  ·exfalso
   rw [if_neg (by omega),if_neg (by omega),if_neg (by omega)] at h2
   omega
 have hpx:p.1<x':=by
  rcases Int.lt_or_le p.1 x' with h|h
  ·exact h
  ·exfalso
   have q1:(x'-x)*(p.2-y)<(x'-x)*(y'-y):=Int.mul_lt_mul_of_pos_left (by omega) (by omega)
   have q2:(y'-y)*(x'-x)≤(y'-y)*(p.1-x):=Int.mul_le_mul_of_nonneg_left (by omega) (by omega)
   have q3:(x'-x)*(y'-y)=(y'-y)*(x'-x):=Int.mul_comm _ _
   rw [et] at htp;omega
 have nx:p.1≠x:=fun e=>n3 (on_v (by omega) e hyr.1 (by omega)).2
 have ny:p.2≠y:=fun e=>by
  have q2:0≤(y'-y)*(p.1-x):=Int.mul_nonneg (by omega) (by omega)
  rw [et,e,Int.sub_self,Int.mul_zero] at htp;omega
 exact ⟨⟨⟨by omega,hpx⟩,by omega,hyr.2⟩,by omega⟩
def ix (n i k:Nat):Nat:=(n+1)*k+i
theorem ix_inj {n i k j l:Nat} (hi:i≤n) (hj:j≤n) (h:ix n i k=ix n j l):i=j∧k=l:=by
 unfold ix at h
 have h1:=congrArg (· / (n+1)) h
 simp only [Nat.mul_add_div (show n+1 > 0 by omega),Nat.div_eq_of_lt (show i<n+1 by omega),Nat.div_eq_of_lt (show j<n+1 by omega)] at h1
 have:k=l:=by omega
 subst this
 exact ⟨by omega,rfl⟩
theorem ix_lt {n m i k:Nat} (hi:i≤n) (hk:k≤m):ix n i k<(n+1)*(m+1):=by
 unfold ix
 have h1:(n+1)*k≤(n+1)*m:=Nat.mul_le_mul_left _ hk
 have h2:(n+1)*(m+1)=(n+1)*m+(n+1):=Nat.mul_succ _ _
 omega
/-- Points of a table. -/
structure Tab (ps:List Pt) (X Y:Nat→Int) (n m:Nat):Prop where
 x:Inc X n
 y:Inc Y m
 len:ps.length=(n+1)*(m+1)
 at':∀ i k,i≤n→k≤m→gP ps (ix n i k)=gv X Y i k
inductive Fk|q|u|s|t
deriving DecidableEq
/-- A face of a table: a cell, or a half of it. -/
structure Fc where
 kd:Fk
 i:Nat
 k:Nat
def Fc.vs (f:Fc):List (Nat × Nat):=match f.kd with
 | .q=>[(f.i,f.k),(f.i+1,f.k),(f.i+1,f.k+1),(f.i,f.k+1)]
 | .u=>[(f.i+1,f.k+1),(f.i,f.k+1),(f.i,f.k),(f.i+1,f.k)]
 | .s=>[(f.i,f.k),(f.i+1,f.k),(f.i+1,f.k+1)]
 | .t=>[(f.i,f.k),(f.i+1,f.k+1),(f.i,f.k+1)]
def Fc.va (f:Fc) (p:Nat):Nat × Nat:=f.vs.getD p (0,0)
def Fc.vb (f:Fc) (p:Nat):Nat × Nat:=f.vs.getD ((p+1) % f.vs.length) (0,0)
def Fc.ring (n:Nat) (f:Fc):List Int:=f.vs.map fun v=>((ix n v.1 v.2:Nat):Int)
structure Fc.ok (f:Fc) (n m:Nat):Prop where
 i:f.i+1≤n
 k:f.k+1≤m
def Conf (a b:Fk):Prop:=¬ (a = .s∧b = .t∨a = .t∧b = .s)
theorem Fc.len (f:Fc):f.vs.length=3∨f.vs.length=4:=by
 obtain ⟨kd,i,k⟩:=f
 cases kd <;> simp [Fc.vs]
theorem Fc.p_lt {f:Fc} {p:Nat} (hp:p<f.vs.length):p=0∨p=1∨p=2∨p=3:=by
 have:=f.len;omega
theorem Fc.bnd {f:Fc} {n m p:Nat} (h:f.ok n m):(f.va p).1≤n∧(f.va p).2≤m:=by
 obtain ⟨h1,h2⟩:=h
 obtain ⟨kd,i,k⟩:=f
 simp only at h1 h2
 rcases Nat.lt_or_ge p 4 with hp|hp
 ·rcases (show p=0∨p=1∨p=2∨p=3 by omega) with rfl|rfl|rfl|rfl <;> cases kd <;> simp [Fc.va,Fc.vs] <;> omega
 ·have:(⟨kd,i,k⟩:Fc).va p=(0,0):=by
   unfold Fc.va
   have:=(⟨kd,i,k⟩:Fc).len
   rw [List.getD_eq_getElem?_getD,List.getElem?_eq_none (by omega)];rfl
  rw [this];simp
theorem Fc.vb_va (f:Fc) (p:Nat):f.vb p=f.va ((p+1) % f.vs.length):=rfl
/-- A directed edge of a face is an edge of the table, this way or that. -/
theorem Fc.edge {f:Fc} {n m p:Nat} (h:f.ok n m) (hp:p<f.vs.length):∃ e:Ge,e.ok n m∧(f.va p=(e.i,e.k)∧f.vb p=(e.i+e.di,e.k+e.dk)∨f.va p=(e.i+e.di,e.k+e.dk)∧f.vb p=(e.i,e.k))∧(e.di=1→e.dk=1→e.i=f.i∧e.k=f.k∧(f.kd = .s∨f.kd = .t)):=by
 obtain ⟨h1,h2⟩:=h
 obtain ⟨kd,i,k⟩:=f
 simp only at h1 h2
 have B:(⟨⟨i,k,1,0⟩,(⟨by simp only;omega,by simp only;omega,by simp⟩:(⟨i,k,1,0⟩:Ge).ok n m)⟩ : { e:Ge // e.ok n m }).1=⟨i,k,1,0⟩:=rfl
 have b:(⟨i,k,1,0⟩:Ge).ok n m:=⟨by simp only;omega,by simp only;omega,by simp⟩
 have r:(⟨i+1,k,0,1⟩:Ge).ok n m:=⟨by simp only;omega,by simp only;omega,by simp⟩
 have t:(⟨i,k+1,1,0⟩:Ge).ok n m:=⟨by simp only;omega,by simp only;omega,by simp⟩
 have l:(⟨i,k,0,1⟩:Ge).ok n m:=⟨by simp only;omega,by simp only;omega,by simp⟩
 have d:(⟨i,k,1,1⟩:Ge).ok n m:=⟨by simp only;omega,by simp only;omega,by simp⟩
 cases kd
 ·simp only [Fc.vs,List.length_cons,List.length_nil] at hp
  rcases (show p=0∨p=1∨p=2∨p=3 by omega) with rfl|rfl|rfl|rfl
  ·exact ⟨_,b,.inl ⟨rfl,rfl⟩,by simp⟩
  ·exact ⟨_,r,.inl ⟨rfl,rfl⟩,by simp⟩
  ·exact ⟨_,t,.inr ⟨rfl,rfl⟩,by simp⟩
  ·exact ⟨_,l,.inr ⟨rfl,by simp [Fc.vb,Fc.vs]⟩,by simp⟩
 ·simp only [Fc.vs,List.length_cons,List.length_nil] at hp
  rcases (show p=0∨p=1∨p=2∨p=3 by omega) with rfl|rfl|rfl|rfl
  ·exact ⟨_,t,.inr ⟨rfl,rfl⟩,by simp⟩
  ·exact ⟨_,l,.inr ⟨rfl,rfl⟩,by simp⟩
  ·exact ⟨_,b,.inl ⟨rfl,rfl⟩,by simp⟩
  ·exact ⟨_,r,.inl ⟨rfl,by simp [Fc.vb,Fc.vs]⟩,by simp⟩
 ·simp only [Fc.vs,List.length_cons,List.length_nil] at hp
  rcases (show p=0∨p=1∨p=2 by omega) with rfl|rfl|rfl
  ·exact ⟨_,b,.inl ⟨rfl,rfl⟩,by simp⟩
  ·exact ⟨_,r,.inl ⟨rfl,rfl⟩,by simp⟩
  ·exact ⟨_,d,.inr ⟨rfl,by simp [Fc.vb,Fc.vs]⟩,by simp⟩
 ·simp only [Fc.vs,List.length_cons,List.length_nil] at hp
  rcases (show p=0∨p=1∨p=2 by omega) with rfl|rfl|rfl
  ·exact ⟨_,d,.inl ⟨rfl,rfl⟩,by simp⟩
  ·exact ⟨_,t,.inr ⟨rfl,rfl⟩,by simp⟩
  ·exact ⟨_,l,.inr ⟨rfl,by simp [Fc.vb,Fc.vs]⟩,by simp⟩
/-- Faces with a directed edge in common lie in the same cell, and are not its halves. -/
theorem Fc.share {f g:Fc} {p q:Nat} (hp:p<f.vs.length) (hq:q<g.vs.length) (h1:f.va p=g.va q) (h2:f.vb p=g.vb q):f.i=g.i∧f.k=g.k∧Conf f.kd g.kd:=by
 obtain ⟨kd,i,k⟩:=f
 obtain ⟨kd',i',k'⟩:=g
 have hp4:=Fc.p_lt hp
 have hq4:=Fc.p_lt hq
 cases kd <;> cases kd' <;> rcases hp4 with rfl|rfl|rfl|rfl <;> rcases hq4 with rfl|rfl|rfl|rfl <;>
  first
  | (exfalso;simp [Fc.vs] at hp;done)
  | (exfalso;simp [Fc.vs] at hq;done)
  | (simp [Fc.va,Fc.vb,Fc.vs,Conf] at h1 h2 ⊢;omega)
theorem Fc.inj {f:Fc} {p q:Nat} (hp:p<f.vs.length) (hq:q<f.vs.length) (h1:f.va p=f.va q):p=q:=by
 obtain ⟨kd,i,k⟩:=f
 have hp4:=Fc.p_lt hp
 have hq4:=Fc.p_lt hq
 cases kd <;> rcases hp4 with rfl|rfl|rfl|rfl <;> rcases hq4 with rfl|rfl|rfl|rfl <;>
  first
  | rfl
  | (exfalso;simp [Fc.vs] at hp;done)
  | (exfalso;simp [Fc.vs] at hq;done)
  | (exfalso;simp [Fc.va,Fc.vs] at h1;done)
  | (exfalso;simp [Fc.va,Fc.vs] at h1;omega)
theorem Fc.mem_bnd {f:Fc} {n m:Nat} (h:f.ok n m):∀ v∈f.vs,v.1≤n∧v.2≤m:=by
 obtain ⟨h1,h2⟩:=h
 obtain ⟨kd,i,k⟩:=f
 simp only at h1 h2
 intro v hv
 cases kd <;> simp only [Fc.vs,List.mem_cons,List.mem_nil_iff,or_false] at hv <;> rcases hv with rfl|rfl|rfl|rfl <;> simp only <;> omega
section
variable {ps:List Pt} {X Y:Nat→Int} {n m:Nat} (hT:Tab ps X Y n m)
include hT
theorem cor_ring {f:Fc} (hf:f.ok n m) (t:Int):cor ps t (f.ring n)=f.vs.map fun v=>(t*X v.1,t*Y v.2):=by
 unfold cor Fc.ring
 rw [List.map_map]
 refine List.map_congr_left fun v hv=>?_
 obtain ⟨h1,h2⟩:=Fc.mem_bnd hf v hv
 have h3:=hT.at' v.1 v.2 h1 h2
 unfold gP at h3
 simp only [Function.comp_apply,corP,Int.toNat_natCast,h3,gv]
/-- What lies within a face lies strictly within its cell, and not on a half's diagonal. -/
theorem face_in {f:Fc} (hf:f.ok n m) {p:Pt} (h:sideI (cor ps 2 (f.ring n)) p=2):Inn (2*X f.i) (2*X (f.i+1)) (2*Y f.k) (2*Y (f.k+1)) p∧(f.kd = .s∨f.kd = .t→turnD (2*X f.i,2*Y f.k) (2*X (f.i+1),2*Y (f.k+1)) p≠0):=by
 rw [cor_ring hT hf] at h
 have hx:=hT.x.lt f.i (f.i+1) (by omega) hf.i
 have hy:=hT.y.lt f.k (f.k+1) (by omega) hf.k
 obtain ⟨kd,i,k⟩:=f
 simp only at hx hy
 cases kd
 ·exact ⟨rect_in (by simp only;omega) (by simp only;omega) h,by simp⟩
 ·exact ⟨rect_in' (by simp only;omega) (by simp only;omega) h,by simp⟩
 ·have:=tri1_in (by simp only;omega) (by simp only;omega) h
  exact ⟨this.1,fun _=>this.2⟩
 ·have:=tri2_in (by simp only;omega) (by simp only;omega) h
  exact ⟨this.1,fun _=>this.2⟩
/-- The middle of an edge of the table lies strictly within a cell only if it is that cell's diagonal. -/
theorem mid_in {e:Ge} (he:e.ok n m) {i k:Nat} (hi:i+1≤n) (hk:k+1≤m) (h:Inn (2*X i) (2*X (i+1)) (2*Y k) (2*Y (k+1)) (X e.i+X (e.i+e.di),Y e.k+Y (e.k+e.dk))):e.i=i∧e.k=k∧e.di=1∧e.dk=1:=by
 obtain ⟨⟨a1,a2⟩,b1,b2⟩:=h
 simp only at a1 a2 b1 b2
 obtain ⟨e1,e2,e3,e4,e5⟩:=he
 have key:∀ {Z:Nat→Int} {N:Nat},Inc Z N→∀ {a d c:Nat},a+d≤N→d≤1→c+1≤N→2*Z c<Z a+Z (a+d)→Z a+Z (a+d)<2*Z (c+1)→a=c∧d=1:=by
  intro Z N hZ a d c h1 h2 h3 h4 h5
  rcases Nat.lt_trichotomy a c with h|h|h
  ·have q1:=hZ.le (show a≤c by omega) (by omega)
   have q2:=hZ.le (show a+d≤c by omega) (by omega)
   omega
  ·subst h
   rcases (show d=0∨d=1 by omega) with rfl|rfl
   ·rw [Nat.add_zero] at h4;omega
   ·exact ⟨rfl,rfl⟩
  ·have q1:=hZ.le (show c+1≤a by omega) (by omega)
   have q2:=hZ.le (show c+1≤a+d by omega) (by omega)
   omega
 have h1:=key hT.x e1 e3 hi a1 a2
 have h2:=key hT.y e2 e4 hk b1 b2
 exact ⟨h1.1,h2.1,h1.2,h2.2⟩
end
theorem turn_mid (a b c d:Int):turnD (2*a,2*b) (2*c,2*d) (a+c,b+d)=0:=by unfold turnD;simp only;grind
/-- Faces that may stand side by side. -/
structure Tiles (gs:List Fc) (n m:Nat):Prop where
 ok:∀ g∈gs,g.ok n m
 apart:∀ j j',j<gs.length→j'<gs.length→j≠j'→¬ ((gs.getD j ⟨.q,0,0⟩).i=(gs.getD j' ⟨.q,0,0⟩).i∧(gs.getD j ⟨.q,0,0⟩).k=(gs.getD j' ⟨.q,0,0⟩).k∧Conf (gs.getD j ⟨.q,0,0⟩).kd (gs.getD j' ⟨.q,0,0⟩).kd)
theorem Tiles.get {gs:List Fc} {n m j:Nat} (h:Tiles gs n m) (hj:j<gs.length):(gs.getD j ⟨.q,0,0⟩).ok n m:=by
 rw [List.getD_eq_getElem?_getD,List.getElem?_eq_getElem hj]
 exact h.ok _ (List.getElem_mem hj)
theorem getD_map0 {α β:Type} {l:List α} {g:α→β} {i:Nat} {d:α} {e:β} (h:i<l.length):(l.map g).getD i e=g (l.getD i d):=by
 rw [List.getD_eq_getElem?_getD,List.getElem?_map,List.getElem?_eq_getElem h,List.getD_eq_getElem?_getD,List.getElem?_eq_getElem h];rfl
/-- The middle of a directed edge. -/
theorem mid_edge {ps:List Pt} {X Y:Nat→Int} {n m:Nat} (hT:Tab ps X Y n m) {f:Fc} (hf:f.ok n m) {p j r:Nat} (hp:p<f.vs.length):∃ e:Ge,e.ok n m∧midP ps ⟨ix n (f.va p).1 (f.va p).2,ix n (f.vb p).1 (f.vb p).2,j,r⟩=(X e.i+X (e.i+e.di),Y e.k+Y (e.k+e.dk))∧(e.di=1→e.dk=1→e.i=f.i∧e.k=f.k∧(f.kd = .s∨f.kd = .t)):=by
 obtain ⟨e,he,hv,hd⟩:=Fc.edge hf hp
 refine ⟨e,he,?_,hd⟩
 have q1:=hT.at' e.i e.k (by have:=he.i;omega) (by have:=he.k;omega)
 have q2:=hT.at' (e.i+e.di) (e.k+e.dk) he.i he.k
 unfold midP
 rcases hv with ⟨h1,h2⟩|⟨h1,h2⟩ <;> simp only [h1,h2,q1,q2,gv]
 rw [Int.add_comm (X (e.i+e.di)),Int.add_comm (Y (e.k+e.dk))]
/-- No middle of an edge lies within another face. -/
theorem no_over {ps:List Pt} {X Y:Nat→Int} {n m:Nat} (hT:Tab ps X Y n m) {gs:List Fc} (hG:Tiles gs n m) {j j' p r:Nat} (hj:j<gs.length) (hj':j'<gs.length) (hne:j'≠j) (hp:p<(gs.getD j ⟨.q,0,0⟩).vs.length) :
  sideI (cor ps 2 ((gs.getD j' ⟨.q,0,0⟩).ring n)) (midP ps ⟨ix n ((gs.getD j ⟨.q,0,0⟩).va p).1 ((gs.getD j ⟨.q,0,0⟩).va p).2,ix n ((gs.getD j ⟨.q,0,0⟩).vb p).1 ((gs.getD j ⟨.q,0,0⟩).vb p).2,j,r⟩)≠2:=by
 intro h
 obtain ⟨e,he,hm,hd⟩:=mid_edge hT (hG.get hj) (j:=j) (r:=r) hp
 rw [hm] at h
 have hg':=hG.get hj'
 obtain ⟨h1,h2⟩:=face_in hT hg' h
 obtain ⟨a1,a2,a3,a4⟩:=mid_in hT he hg'.i hg'.k h1
 obtain ⟨b1,b2,b3⟩:=hd a3 a4
 rcases hk:(gs.getD j' ⟨.q,0,0⟩).kd with _|_|_|_
 ·refine hG.apart j' j hj' hj hne ⟨by omega,by omega,?_⟩
  rw [hk];unfold Conf;simp
 ·refine hG.apart j' j hj' hj hne ⟨by omega,by omega,?_⟩
  rw [hk];unfold Conf;simp
 ·refine h2 (.inl hk) ?_
  rw [a3,a4,a1,a2];exact turn_mid _ _ _ _
 ·refine h2 (.inr hk) ?_
  rw [a3,a4,a1,a2];exact turn_mid _ _ _ _
theorem area3 (a b c:Pt):areaTo [a,b,c] 3=(a.1*b.2-a.2*b.1)+(b.1*c.2-b.2*c.1)+(c.1*a.2-c.2*a.1):=by simp [areaTo,rA,rB]
theorem area4 (a b c d:Pt):areaTo [a,b,c,d] 4=(a.1*b.2-a.2*b.1)+(b.1*c.2-b.2*c.1)+(c.1*d.2-c.2*d.1)+(d.1*a.2-d.2*a.1):=by simp [areaTo,rA,rB]
theorem area_pos {x x' y y':Int} (hx:x<x') (hy:y<y'):0≤areaTo [(x,y),(x',y),(x',y')] 3∧0≤areaTo [(x,y),(x',y'),(x,y')] 3∧0≤areaTo [(x,y),(x',y),(x',y'),(x,y')] 4∧0≤areaTo [(x',y'),(x,y'),(x,y),(x',y)] 4:=by
 have h:0≤(x'-x)*(y'-y):=Int.mul_nonneg (by omega) (by omega)
 have h2:0≤2*((x'-x)*(y'-y)):=by omega
 have e1:areaTo [(x,y),(x',y),(x',y')] 3=(x'-x)*(y'-y):=by rw [area3];simp only;grind
 have e2:areaTo [(x,y),(x',y'),(x,y')] 3=(x'-x)*(y'-y):=by rw [area3];simp only;grind
 have e3:areaTo [(x,y),(x',y),(x',y'),(x,y')] 4=2*((x'-x)*(y'-y)):=by rw [area4];simp only;grind
 have e4:areaTo [(x',y'),(x,y'),(x,y),(x',y)] 4=2*((x'-x)*(y'-y)):=by rw [area4];simp only;grind
 rw [e1,e2,e3,e4]
 exact ⟨h,h,h2,h2⟩
theorem turn_ne {x x' y y':Int} (hx:x<x') (hy:y<y'):0<(x'-x)*(y'-y):=Int.mul_pos (by omega) (by omega)
/-- A triangle with a turn is a valid ring. -/
theorem ring3 {a b c : Pt} (h : turnD a b c ≠ 0) : ringK [a, b, c] = 0 := by
  have h2 : turnD b c a ≠ 0 := by have : turnD b c a = turnD a b c := by unfold turnD; grind
                                  rw [this]; exact h
  have h3 : turnD c a b ≠ 0 := by have : turnD c a b = turnD a b c := by unfold turnD; grind
                                  rw [this]; exact h
  have nab : a ≠ b := fun e => h (by subst e; unfold turnD; grind)
  have nbc : b ≠ c := fun e => h (by subst e; unfold turnD; grind)
  have nca : c ≠ a := fun e => h (by subst e; unfold turnD; grind)
  have h4 : turnD c a b ≠ 0 ∧ turnD a b c ≠ 0 ∧ turnD b c a ≠ 0 := ⟨h3, h, h2⟩
  unfold ringK
  rw [if_neg (by simp), if_neg ?_, if_neg ?_, if_neg ?_]
  · rintro ⟨i, hi, j, hj, h5, h6, _⟩
    simp only [List.length_cons, List.length_nil] at hi hj h6
    omega
  · rintro ⟨i, hi, h5, _⟩
    simp only [List.length_cons, List.length_nil] at hi
    rcases (show i = 0 ∨ i = 1 ∨ i = 2 by omega) with rfl | rfl | rfl
    · exact h3 (by simpa [rA, rB, rP] using h5)
    · exact h (by simpa [rA, rB, rP] using h5)
    · exact h2 (by simpa [rA, rB, rP] using h5)
  · rintro ⟨i, hi, h5⟩
    simp only [List.length_cons, List.length_nil] at hi
    rcases (show i = 0 ∨ i = 1 ∨ i = 2 by omega) with rfl | rfl | rfl
    · exact nab (by simpa [stillI, rA, rB] using h5)
    · exact nbc (by simpa [stillI, rA, rB] using h5)
    · exact nca (by simpa [stillI, rA, rB] using h5)
/-- Four corners with turns, whose opposite sides do not meet. -/
theorem ring4 {a b c d:Pt} (h1:turnD d a b≠0) (h2:turnD a b c≠0) (h3:turnD b c d≠0) (h4:turnD c d a≠0) (m1:meetI c d a b=0) (m2:meetI d a b c=0):ringK [a,b,c,d]=0:=by
 have nab:a≠b:=fun e=>h2 (by subst e;unfold turnD;grind)
 have nbc:b≠c:=fun e=>h2 (by subst e;unfold turnD;grind)
 have ncd:c≠d:=fun e=>h3 (by subst e;unfold turnD;grind)
 have nda:d≠a:=fun e=>h1 (by subst e;unfold turnD;grind)
 unfold ringK
 rw [if_neg (by simp),if_neg ?_,if_neg ?_,if_neg ?_]
 ·rintro ⟨i,hi,j,hj,h5,h6,h7⟩
  simp only [List.length_cons,List.length_nil] at hi hj h6
  rcases (show (i=2∧j=0)∨(i=3∧j=1) by omega) with ⟨rfl,rfl⟩|⟨rfl,rfl⟩
  ·exact h7 (by simpa [rA,rB] using m1)
  ·exact h7 (by simpa [rA,rB] using m2)
 ·rintro ⟨i,hi,h5,_⟩
  simp only [List.length_cons,List.length_nil] at hi
  rcases (show i=0∨i=1∨i=2∨i=3 by omega) with rfl|rfl|rfl|rfl
  ·exact h1 (by simpa [rA,rB,rP] using h5)
  ·exact h2 (by simpa [rA,rB,rP] using h5)
  ·exact h3 (by simpa [rA,rB,rP] using h5)
  ·exact h4 (by simpa [rA,rB,rP] using h5)
 ·rintro ⟨i,hi,h5⟩
  simp only [List.length_cons,List.length_nil] at hi
  rcases (show i=0∨i=1∨i=2∨i=3 by omega) with rfl|rfl|rfl|rfl
  ·exact nab (by simpa [stillI,rA,rB] using h5)
  ·exact nbc (by simpa [stillI,rA,rB] using h5)
  ·exact ncd (by simpa [stillI,rA,rB] using h5)
  ·exact nda (by simpa [stillI,rA,rB] using h5)
theorem meet_apart_y {a b c d:Pt} (h:(a.2<c.2∧a.2<d.2∧b.2<c.2∧b.2<d.2)∨(c.2<a.2∧d.2<a.2∧c.2<b.2∧d.2<b.2)):meetI a b c d=0:=by
 refine meet_none ?_ fun x hx=>?_
 ·rcases h with ⟨h1,h2,h3,h4⟩|⟨h1,h2,h3,h4⟩
  ·exact no_cross_y (m:=mx a.2 b.2) (by unfold mx;split <;> omega) (by unfold mx;split <;> omega) (by unfold mx;split <;> omega) (by unfold mx;split <;> omega)
  ·exact fun hc=>no_cross_y (m:=mx c.2 d.2) (by unfold mx;split <;> omega) (by unfold mx;split <;> omega) (by unfold mx;split <;> omega) (by unfold mx;split <;> omega) (cross_comm hc)
 ·rw [← Bool.not_eq_true]
  intro hc
  rw [comB,Bool.and_eq_true] at hc
  have q1:=(hasB_box hc.1).2.2
  have q2:=(hasB_box hc.2).2.2
  omega
theorem meet_apart_x {a b c d:Pt} (h:(a.1<c.1∧a.1<d.1∧b.1<c.1∧b.1<d.1)∨(c.1<a.1∧d.1<a.1∧c.1<b.1∧d.1<b.1)):meetI a b c d=0:=by
 refine meet_none ?_ fun x hx=>?_
 ·rcases h with ⟨h1,h2,h3,h4⟩|⟨h1,h2,h3,h4⟩
  ·exact no_cross_x (m:=mx a.1 b.1) (by unfold mx;split <;> omega) (by unfold mx;split <;> omega) (by unfold mx;split <;> omega) (by unfold mx;split <;> omega)
  ·exact fun hc=>no_cross_x (m:=mx c.1 d.1) (by unfold mx;split <;> omega) (by unfold mx;split <;> omega) (by unfold mx;split <;> omega) (by unfold mx;split <;> omega) (cross_comm hc)
 ·rw [← Bool.not_eq_true]
  intro hc
  rw [comB,Bool.and_eq_true] at hc
  have q1:=(hasB_box hc.1).2.1
  have q2:=(hasB_box hc.2).2.1
  omega
theorem cell_rings {x x' y y':Int} (hx:x<x') (hy:y<y'):ringK [(x,y),(x',y),(x',y')]=0∧ringK [(x,y),(x',y'),(x,y')]=0∧ringK [(x,y),(x',y),(x',y'),(x,y')]=0∧ringK [(x',y'),(x,y'),(x,y),(x',y)]=0:=by
 have h:=turn_ne hx hy
 have T:∀ {a b c:Pt},turnD a b c=(x'-x)*(y'-y)→turnD a b c≠0:=fun e=>by rw [e];omega
 refine ⟨ring3 (T (by unfold turnD;simp only;grind)),ring3 (T (by unfold turnD;simp only;grind)),?_,?_⟩
 ·refine ring4 (T (by unfold turnD;simp only;grind)) (T (by unfold turnD;simp only;grind)) (T (by unfold turnD;simp only;grind)) (T (by unfold turnD;simp only;grind)) (meet_apart_y ?_) (meet_apart_x ?_) <;> simp only <;> omega
 ·refine ring4 (T (by unfold turnD;simp only;grind)) (T (by unfold turnD;simp only;grind)) (T (by unfold turnD;simp only;grind)) (T (by unfold turnD;simp only;grind)) (meet_apart_y ?_) (meet_apart_x ?_) <;> simp only <;> omega
section
variable {ps:List Pt} {X Y:Nat→Int} {n m:Nat} (hT:Tab ps X Y n m)
include hT
theorem face_ring {f:Fc} (hf:f.ok n m):ringBad ps (f.ring n)=false:=by
 have hx:=hT.x.lt f.i (f.i+1) (by omega) hf.i
 have hy:=hT.y.lt f.k (f.k+1) (by omega) hf.k
 have hr:=cell_rings hx hy
 have e:ringK (cor ps 1 (f.ring n))=0:=by
  rw [cor_ring hT hf]
  obtain ⟨kd,i,k⟩:=f
  cases kd <;> simp only [Fc.vs,List.map_cons,List.map_nil,Int.one_mul]
  ·exact hr.2.2.1
  ·exact hr.2.2.2
  ·exact hr.1
  ·exact hr.2.1
 rw [ringBad,e];rfl
theorem face_turn {f:Fc} (hf:f.ok n m):turnBad ps 0 (f.ring n)=false:=by
 have hx:=hT.x.lt f.i (f.i+1) (by omega) hf.i
 have hy:=hT.y.lt f.k (f.k+1) (by omega) hf.k
 have hr:=area_pos hx hy
 have e:0≤areaTo (cor ps 1 (f.ring n)) (cor ps 1 (f.ring n)).length:=by
  rw [cor_ring hT hf]
  obtain ⟨kd,i,k⟩:=f
  cases kd <;> simp only [Fc.vs,List.map_cons,List.map_nil,Int.one_mul]
  ·exact hr.2.2.1
  ·exact hr.2.2.2
  ·exact hr.1
  ·exact hr.2.1
 rw [turnBad,decide_eq_false (by omega)];rfl
end
theorem mnTo_of {P:Int→Prop} (hm:∀ a b,P a→P b→P (mn a b)) {l:List Int} (hp:∀ x∈l,P x):∀ i,i<l.length→P (mnTo l i)
 | 0,h=>by rw [mnTo,List.getD_eq_getElem?_getD,List.getElem?_eq_getElem h];exact hp _ (List.getElem_mem h)
 | i+1,h=>by
  rw [mnTo]
  refine hm _ _ (mnTo_of hm hp i (by omega)) ?_
  rw [List.getD_eq_getElem?_getD,List.getElem?_eq_getElem h];exact hp _ (List.getElem_mem h)
theorem mxTo_of {P:Int→Prop} (hm:∀ a b,P a→P b→P (mx a b)) {l:List Int} (hp:∀ x∈l,P x):∀ i,i<l.length→P (mxTo l i)
 | 0,h=>by rw [mxTo,List.getD_eq_getElem?_getD,List.getElem?_eq_getElem h];exact hp _ (List.getElem_mem h)
 | i+1,h=>by
  rw [mxTo]
  refine hm _ _ (mxTo_of hm hp i (by omega)) ?_
  rw [List.getD_eq_getElem?_getD,List.getElem?_eq_getElem h];exact hp _ (List.getElem_mem h)
/-- Numbers of points that there are. -/
theorem idx_good {N:Nat} {r:Int} {l:List Int} (h3:3≤l.length) (h40:l.length≤40) (hp:∀ x∈l,0≤x∧x<N):idxBad N r l=false:=by
 have h1:=mnTo_of (P:=fun x=>0≤x) (fun a b ha hb=>by unfold mn;split <;> omega) (l:=l) (fun x hx=>(hp x hx).1) (l.length-1) (by omega)
 have h2:=mxTo_of (P:=fun x=>x<(N:Int)) (fun a b ha hb=>by unfold mx;split <;> omega) (l:=l) (fun x hx=>(hp x hx).2) (l.length-1) (by omega)
 rw [idxBad,decide_eq_false (by omega),decide_eq_false (by omega),decide_eq_false (by omega),decide_eq_false (by omega)];rfl
theorem ring_idx {f:Fc} {n m:Nat} (hf:f.ok n m):∀ x∈f.ring n,0≤x∧x<(((n+1)*(m+1):Nat):Int):=by
 intro x hx
 unfold Fc.ring at hx
 obtain ⟨v,hv,rfl⟩:=List.mem_map.1 hx
 obtain ⟨h1,h2⟩:=Fc.mem_bnd hf v hv
 have:=ix_lt h1 h2
 exact ⟨Int.natCast_nonneg _,by exact_mod_cast this⟩
theorem mem_pre {α:Type} {g:Nat→List α} {k:Nat} {x:α} : x∈pre g k↔∃ i,i<k∧x∈g i:=by
 unfold pre
 rw [List.mem_flatMap]
 constructor
 ·rintro ⟨i,hi,hx⟩;exact ⟨i,by simpa using hi,hx⟩
 ·rintro ⟨i,hi,hx⟩;exact ⟨i,by simpa using hi,hx⟩
theorem nodup_pre {α β:Type} {g:Nat→List α} {h:α→β} : ∀ {k:Nat},(∀ i,i<k→((g i).map h).Nodup)→(∀ i j,i<j→j<k→∀ x∈g i,∀ y∈g j,h x≠h y)→((pre g k).map h).Nodup
 | 0,_,_=>by simp [pre]
 | k+1,h1,h2=>by
  have ih:=nodup_pre (k:=k) (fun i hi=>h1 i (by omega)) (fun i j hij hj=>h2 i j hij (by omega))
  have e:pre g (k+1)=pre g k++g k:=by simp [pre,List.range_succ]
  rw [e,List.map_append,List.nodup_append]
  refine ⟨ih,h1 k (by omega),fun a ha b hb hab=>?_⟩
  obtain ⟨x,hx,rfl⟩:=List.mem_map.1 ha
  obtain ⟨y,hy,rfl⟩:=List.mem_map.1 hb
  obtain ⟨i,hi,hxi⟩:=mem_pre.1 hx
  exact h2 i k hi (by omega) x hxi y hy hab
theorem nodup_map_range {β:Type} {h:Nat→β} : ∀ {k:Nat},(∀ i j,i<j→j<k→h i≠h j)→((List.range k).map h).Nodup
 | 0,_=>by simp
 | k+1,h2=>by
  rw [List.range_succ,List.map_append,List.nodup_append]
  refine ⟨nodup_map_range fun i j hij hj=>h2 i j hij (by omega),by simp,fun a ha b hb hab=>?_⟩
  obtain ⟨i,hi,rfl⟩:=List.mem_map.1 ha
  simp only [List.map_cons,List.map_nil,List.mem_cons,List.mem_nil_iff,or_false] at hb
  subst hb
  exact h2 i k (by simpa using hi) (by omega) hab
theorem nI_ring {n:Nat} {f:Fc} {p:Nat} (hp:p<f.vs.length):nI (f.ring n) p=ix n (f.va p).1 (f.va p).2:=by
 unfold nI Fc.ring
 rw [getD_map0 (d:=(0,0)) hp,Int.toNat_natCast];rfl
/-- Faces in memory that are faces of a table. -/
structure Match (fs:List FaV) (gs:List Fc) (n:Nat):Prop where
 len:fs.length=gs.length
 at':∀ j,j<gs.length→(fs.getD j f0).o.xs=(gs.getD j ⟨.q,0,0⟩).ring n∧(fs.getD j f0).hs = []
theorem Match.ri {fs:List FaV} {gs:List Fc} {n j:Nat} (h:Match fs gs n) (hj:j<gs.length):(fs.getD j f0).ri = [(fs.getD j f0).o]:=by
 rw [FaV.ri,(h.at' j hj).2]
theorem ring_len (n:Nat) (f:Fc):(f.ring n).length=f.vs.length:=by unfold Fc.ring;rw [List.length_map]
/-- A directed edge of the complex. -/
theorem st_mem {fs:List FaV} {gs:List Fc} {n:Nat} (h:Match fs gs n) {j:Nat} (hj:j<gs.length) {s:St} (hs:s∈gF fs j):∃ p,p<(gs.getD j ⟨.q,0,0⟩).vs.length∧s=⟨ix n ((gs.getD j ⟨.q,0,0⟩).va p).1 ((gs.getD j ⟨.q,0,0⟩).va p).2,ix n ((gs.getD j ⟨.q,0,0⟩).vb p).1 ((gs.getD j ⟨.q,0,0⟩).vb p).2,j,0⟩:=by
 unfold gF stF at hs
 rw [h.ri hj] at hs
 obtain ⟨r,hr,hs⟩:=mem_pre.1 hs
 simp only [List.length_cons,List.length_nil] at hr
 obtain rfl:r=0:=by omega
 unfold gR stR at hs
 simp only [List.getD_cons_zero] at hs
 rw [(h.at' j hj).1,ring_len] at hs
 obtain ⟨p,hp,rfl⟩:=List.mem_map.1 hs
 have hp':p<(gs.getD j ⟨.q,0,0⟩).vs.length:=by simpa using hp
 have hq:(p+1) % (gs.getD j ⟨.q,0,0⟩).vs.length<(gs.getD j ⟨.q,0,0⟩).vs.length:=Nat.mod_lt _ (by omega)
 exact ⟨p,hp',by rw [nI_ring hp',nI_ring hq];rfl⟩
theorem keys_nodup {fs:List FaV} {gs:List Fc} {n m:Nat} (hM:Match fs gs n) (hG:Tiles gs n m):((stL fs).map keyS).Nodup:=by
 unfold stL
 have K:∀ {j:Nat},j<gs.length→∀ {p:Nat},p<(gs.getD j ⟨.q,0,0⟩).vs.length→((gs.getD j ⟨.q,0,0⟩).va p).1≤n∧((gs.getD j ⟨.q,0,0⟩).vb p).1≤n:=fun hj p hp =>
  ⟨(Fc.bnd (hG.get hj)).1,by rw [Fc.vb_va];exact (Fc.bnd (hG.get hj)).1⟩
 have E:∀ {a b c d:Nat × Nat},a.1≤n→b.1≤n→c.1≤n→d.1≤n→∀ {f r f' r':Nat},keyS ⟨ix n a.1 a.2,ix n b.1 b.2,f,r⟩=keyS ⟨ix n c.1 c.2,ix n d.1 d.2,f',r'⟩→a=c∧b=d:=by
  intro a b c d ha hb hc hd f r f' r' h
  simp only [keyS,Prod.mk.injEq] at h
  have h1:=ix_inj ha hc (by exact_mod_cast h.1)
  have h2:=ix_inj hb hd (by exact_mod_cast h.2)
  exact ⟨Prod.ext h1.1 h1.2,Prod.ext h2.1 h2.2⟩
 refine nodup_pre (fun j hj=>?_) (fun j j' hjj hj' x hx y hy hxy=>?_)
 ·rw [hM.len] at hj
  unfold gF stF
  rw [hM.ri hj]
  have e:pre (gR j [(fs.getD j f0).o]) [(fs.getD j f0).o].length=stR j 0 (fs.getD j f0).o.xs:=by simp [pre,gR]
  rw [e,(hM.at' j hj).1]
  unfold stR
  rw [ring_len,List.map_map]
  refine nodup_map_range fun p q hpq hq hk=>?_
  have hp1:p<(gs.getD j ⟨.q,0,0⟩).vs.length:=by omega
  have m1:(p+1) % (gs.getD j ⟨.q,0,0⟩).vs.length<(gs.getD j ⟨.q,0,0⟩).vs.length:=Nat.mod_lt _ (by omega)
  have m2:(q+1) % (gs.getD j ⟨.q,0,0⟩).vs.length<(gs.getD j ⟨.q,0,0⟩).vs.length:=Nat.mod_lt _ (by omega)
  simp only [Function.comp_apply] at hk
  rw [nI_ring hp1,nI_ring hq,nI_ring m1,nI_ring m2] at hk
  have:=E (K hj hp1).1 (K hj m1).1 (K hj hq).1 (K hj m2).1 hk
  have:=Fc.inj hp1 hq this.1
  omega
 ·rw [hM.len] at hj'
  obtain ⟨p,hp,rfl⟩:=st_mem hM (show j<gs.length by omega) hx
  obtain ⟨q,hq,rfl⟩:=st_mem hM hj' hy
  have hj:j<gs.length:=by omega
  obtain ⟨h1,h2⟩:=E (K hj hp).1 (K hj hp).2 (K hj' hq).1 (K hj' hq).2 hxy
  exact hG.apart j j' hj hj' (by omega) (Fc.share hp hq h1 h2)
theorem ge_ends {X Y:Nat→Int} {ps:List Pt} {n m:Nat} (hT:Tab ps X Y n m) {e:Ge} (he:e.ok n m) {v w:Nat × Nat} (hv:v=(e.i,e.k)∧w=(e.i+e.di,e.k+e.dk)∨v=(e.i+e.di,e.k+e.dk)∧w=(e.i,e.k)) :
  gP ps (ix n v.1 v.2)=e.lo X Y∧gP ps (ix n w.1 w.2)=e.hi X Y∨gP ps (ix n v.1 v.2)=e.hi X Y∧gP ps (ix n w.1 w.2)=e.lo X Y:=by
 have q1:=hT.at' e.i e.k (by have:=he.i;omega) (by have:=he.k;omega)
 have q2:=hT.at' (e.i+e.di) (e.k+e.dk) he.i he.k
 rcases hv with ⟨rfl,rfl⟩|⟨rfl,rfl⟩
 ·exact .inl ⟨q1,q2⟩
 ·exact .inr ⟨q2,q1⟩
/-- Edges of the table do not clash. -/
theorem no_clash {X Y:Nat→Int} {ps:List Pt} {n m:Nat} (hT:Tab ps X Y n m) {e f:Ge} (he:e.ok n m) (hf:f.ok n m) {v w v' w':Nat × Nat} (hv:v=(e.i,e.k)∧w=(e.i+e.di,e.k+e.dk)∨v=(e.i+e.di,e.k+e.dk)∧w=(e.i,e.k)) (hv':v'=(f.i,f.k)∧w'=(f.i+f.di,f.k+f.dk)∨v'=(f.i+f.di,f.k+f.dk)∧w'=(f.i,f.k)) {a b c d:Nat} :
  clashB ps ⟨ix n v.1 v.2,ix n w.1 w.2,a,b⟩ ⟨ix n v'.1 v'.2,ix n w'.1 w'.2,c,d⟩=false:=by
 unfold clashB
 by_cases hef:e=f
 ·subst hef
  rw [if_pos ?_]
  simp only
  rcases hv with ⟨rfl,rfl⟩|⟨rfl,rfl⟩ <;> rcases hv' with ⟨rfl,rfl⟩|⟨rfl,rfl⟩ <;> simp
 ·split
  ·rfl
  ·rcases ge_meet hT.x hT.y he hf hef (ge_ends hT he hv) (ge_ends hT hf hv') with h|⟨h,j,l,h1,h2⟩
   ·rw [if_pos h]
   ·simp only
    rw [h,if_neg (by decide),if_pos rfl]
    apply decide_eq_false
    rintro ⟨n1,n2,n3,n4⟩
    rcases hv with ⟨rfl,rfl⟩|⟨rfl,rfl⟩ <;> rcases hv' with ⟨rfl,rfl⟩|⟨rfl,rfl⟩ <;> rcases h1 with ⟨rfl,rfl⟩|⟨rfl,rfl⟩ <;> rcases h2 with ⟨g1,g2⟩|⟨g1,g2⟩ <;> simp only [g1,g2] at n1 n2 n3 n4 <;> simp at n1 n2 n3 n4
theorem edged_good {X Y:Nat→Int} {ps:List Pt} {n m:Nat} (hT:Tab ps X Y n m) {fs:List FaV} {gs:List Fc} (hM:Match fs gs n) (hG:Tiles gs n m):edgedBad ps fs=false:=by
 have S:∀ s∈stL fs,∃ j p,j<gs.length∧p<(gs.getD j ⟨.q,0,0⟩).vs.length∧s=⟨ix n ((gs.getD j ⟨.q,0,0⟩).va p).1 ((gs.getD j ⟨.q,0,0⟩).va p).2,ix n ((gs.getD j ⟨.q,0,0⟩).vb p).1 ((gs.getD j ⟨.q,0,0⟩).vb p).2,j,0⟩:=fun s hs=>by
  obtain ⟨j,hj,hs⟩:=mem_pre.1 hs
  rw [hM.len] at hj
  obtain ⟨p,hp,rfl⟩:=st_mem hM hj hs
  exact ⟨j,p,hj,hp,rfl⟩
 have C:∀ s∈stL fs,∀ t∈stL fs,clashB ps s t=false:=fun s hs t ht=>by
  obtain ⟨j,p,hj,hp,rfl⟩:=S s hs
  obtain ⟨j',p',hj',hp',rfl⟩:=S t ht
  obtain ⟨e,he,hv,_⟩:=Fc.edge (hG.get hj) hp
  obtain ⟨f,hf,hv',_⟩:=Fc.edge (hG.get hj') hp'
  exact no_clash hT he hf hv hv'
 have z1:((List.range (stL fs).length).any (crossBad ps (stL fs)))=false:=by
  rw [List.any_eq_false]
  intro i hi
  have hi':i<(stL fs).length:=by simpa using hi
  rw [Bool.not_eq_true,crossBad,List.any_eq_false]
  intro t ht
  rw [List.getD_eq_getElem?_getD,List.getElem?_eq_getElem hi',Bool.not_eq_true]
  exact C _ (List.getElem_mem hi') t (List.mem_of_mem_take ht)
 have z2:(stL fs).any (holeBad ps fs)=false:=by
  rw [List.any_eq_false]
  intro s hs
  obtain ⟨j,p,hj,hp,rfl⟩:=S s hs
  simp [holeBad]
 have z3:(stL fs).any (overBad ps fs)=false:=by
  rw [List.any_eq_false]
  intro s hs
  obtain ⟨j,p,hj,hp,rfl⟩:=S s hs
  rw [Bool.not_eq_true,overBad,List.any_eq_false]
  intro i hi
  have hi':i<gs.length:=by rw [← hM.len];simpa using hi
  rw [overOne,withinB,(hM.at' i hi').1]
  by_cases hij:i=j
  ·simp [hij]
  ·rw [decide_eq_false (no_over hT hG hj hi' hij (r:=0) hp)];simp
 rw [edgedBad,decide_eq_true (keys_nodup hM hG),z1,z2,z3];rfl
/-- Complexes of faces of a table are valid. -/
theorem cx_good {X Y:Nat→Int} {n m:Nat} {c:CxV} {gs:List Fc} (hT:Tab c.ps X Y n m) (hM:Match c.fs gs n) (hG:Tiles gs n m) (h3:3≤c.ps.length) (h120:c.ps.length≤120) (h1:1≤gs.length) (h64:gs.length≤64) (hfar:c.ps.any farB=false) (hnd:c.ps.Nodup):cxBad c=false:=by
 have hl:=hM.len
 have G:∀ f∈c.fs,∃ g:Fc,g.ok n m∧f.o.xs=g.ring n∧f.hs = []:=fun f hf=>by
  obtain ⟨j,hj,rfl⟩:=List.getElem_of_mem hf
  have hj':j<gs.length:=by omega
  have:=hM.at' j hj'
  rw [List.getD_eq_getElem?_getD,List.getElem?_eq_getElem hj] at this
  exact ⟨_,hG.get hj',this.1,this.2⟩
 have one:∀ f∈c.fs,∀ bad:Int→List Int→Bool,(∀ g:Fc,g.ok n m→bad 0 (g.ring n)=false)→anyB f.ri bad=false:=fun f hf bad hb=>by
  obtain ⟨g,hg,e1,e2⟩:=G f hf
  rw [anyB,FaV.ri,e2]
  apply decide_eq_false
  rintro ⟨k,hk,h⟩
  simp only [List.length_cons,List.length_nil] at hk
  obtain rfl:k=0:=by omega
  simp only [List.getD_cons_zero,e1] at h
  have:=hb g hg
  rw [show ((0:Nat):Int)=0 from rfl,this] at h
  cases h
 have z1:c.fs.any (faceIdx c.ps.length)=false:=by
  rw [List.any_eq_false]
  intro f hf
  have h8:¬ 8<f.hs.length:=by obtain ⟨_,_,_,e2⟩:=G f hf;rw [e2];simp
  rw [faceIdx,one f hf _ (fun g hg=>idx_good (by rw [ring_len];have:=g.len;omega) (by rw [ring_len];have:=g.len;omega) (by rw [hT.len];exact ring_idx hg)),decide_eq_false h8];simp
 have z2:c.fs.any (fun f=>anyB f.ri (badR c.ps))=false:=by
  rw [List.any_eq_false]
  intro f hf
  rw [one f hf _ (fun g hg=>face_ring hT hg)];simp
 have z3:c.fs.any (fun f=>anyB f.ri (turnBad c.ps))=false:=by
  rw [List.any_eq_false]
  intro f hf
  rw [one f hf _ (fun g hg=>face_turn hT hg)];simp
 have z0:cntBad c=false:=by rw [cntBad,decide_eq_false (by omega),decide_eq_false (by omega),decide_eq_false (by omega),decide_eq_false (by omega)];rfl
 rw [cxBad,z0,hfar,z1,z2,z3,edged_good hT hM hG,decide_eq_true hnd];rfl
theorem sgn_zero {x:Int} (h:sgn x=0):x=0:=by
 unfold sgn at h
 repeat' split at h
 all_goals omega
theorem onE_box {a b p:Pt} (h:onE a b p):turnD a b p=0∧(a.1≤p.1∧p.1≤b.1∨b.1≤p.1∧p.1≤a.1)∧(a.2≤p.2∧p.2≤b.2∨b.2≤p.2∧p.2≤a.2):=by
 obtain ⟨h0,h1,h2,h3,h4⟩:=h
 refine ⟨h0,?_,?_⟩
 ·simp only [mn,mx] at h1 h2
  split at h1 <;> split at h2 <;> omega
 ·simp only [mn,mx] at h3 h4
  split at h3 <;> split at h4 <;> omega
theorem mul_zero_pos {a b:Int} (ha:0<a) (h:a*b=0):b=0:=by
 rcases Int.mul_eq_zero.1 h with h|h
 ·omega
 ·exact h
theorem mn_comm (a b:Int):mn a b=mn b a:=by unfold mn;split <;> split <;> omega
theorem mx_comm (a b:Int):mx a b=mx b a:=by unfold mx;split <;> split <;> omega
theorem low_r (a b c d:Pt):lowI a b d c=lowI a b c d:=by unfold lowI;rw [mn_comm d.2,mx_comm d.2,mn_comm d.1,mx_comm d.1]
theorem low_l (a b c d:Pt):lowI b a c d=lowI a b c d:=by
 unfold lowI;rw [mn_comm b.2,mx_comm b.2,mn_comm b.1,mx_comm b.1]
 by_cases h:a.1=b.1
 ·rw [if_pos h,if_pos h.symm]
 ·rw [if_neg h,if_neg (fun q=>h q.symm)]
section
variable {X Y:Nat→Int} {n m:Nat} (hX:Inc X n) (hY:Inc Y m)
include hX hY
omit hX hY in
theorem turn_lo {e:Ge} {a b p:Pt} (hab:a=e.lo X Y∧b=e.hi X Y∨a=e.hi X Y∧b=e.lo X Y) (h:turnD a b p=0):turnD (e.lo X Y) (e.hi X Y) p=0:=by
 rcases hab with ⟨rfl,rfl⟩|⟨rfl,rfl⟩
 ·exact h
 ·rw [turn_swap] at h;omega
def Shr (e f:Ge):Prop:=∃ j l,(j=e.i∧l=e.k∨j=e.i+e.di∧l=e.k+e.dk)∧(j=f.i∧l=f.k∨j=f.i+f.di∧l=f.k+f.dk)
/-- Edges on one line: the lesser end of the right one is not ahead of the greater end of the left one. -/
theorem line_low {e f:Ge} (he:e.ok n m) (hf:f.ok n m) (hne:e≠f) {a b c d:Pt} (hab:a=e.lo X Y∧b=e.hi X Y∨a=e.hi X Y∧b=e.lo X Y) (hcd:c=f.lo X Y∧d=f.hi X Y∨c=f.hi X Y∧d=f.lo X Y) (h1:turnD a b c=0) (h2:turnD a b d=0) :
  0<lowI a b c d∨lowI a b c d=0∧Shr e f:=by
 have t1:turnD (e.lo X Y) (e.hi X Y) (f.lo X Y)=0:=by
  rcases hcd with ⟨rfl,rfl⟩|⟨rfl,rfl⟩
  ·exact turn_lo hab h1
  ·exact turn_lo hab h2
 have t2:turnD (e.lo X Y) (e.hi X Y) (f.hi X Y)=0:=by
  rcases hcd with ⟨rfl,rfl⟩|⟨rfl,rfl⟩
  ·exact turn_lo hab h2
  ·exact turn_lo hab h1
 have low:lowI a b c d=lowI (e.lo X Y) (e.hi X Y) (f.lo X Y) (f.hi X Y):=by
  rcases hab with ⟨rfl,rfl⟩|⟨rfl,rfl⟩ <;> rcases hcd with ⟨rfl,rfl⟩|⟨rfl,rfl⟩
  ·rfl
  ·exact low_r _ _ _ _
  ·exact low_l _ _ _ _
  ·rw [low_l,low_r]
 rw [low]
 obtain ⟨e1,e2,e3,e4,e5⟩:=he
 obtain ⟨f1,f2,f3,f4,f5⟩:=hf
 obtain ⟨i,k,di,dk⟩:=e
 obtain ⟨j,l,dj,dl⟩:=f
 simp only [Ge.lo,Ge.hi,gv,turnD] at *
 have exl:=hX.le (show i≤i+di by omega) e1
 have eyl:=hY.le (show k≤k+dk by omega) e2
 have fxl:=hX.le (show j≤j+dj by omega) f1
 have fyl:=hY.le (show l≤l+dl by omega) f2
 rcases (show (di=1∧dk=0)∨(di=0∧dk=1)∨(di=1∧dk=1) by omega) with ⟨rfl,rfl⟩|⟨rfl,rfl⟩|⟨rfl,rfl⟩
 ·have hx:=hX.lt i (i+1) (by omega) e1
  simp only [Nat.add_zero,Int.sub_self,Int.zero_mul,Int.sub_zero] at t1 t2
  have y1:=mul_zero_pos (by omega) t1
  have y2:=mul_zero_pos (by omega) t2
  have l1:l=k:=by
   rcases Nat.lt_trichotomy l k with h|h|h
   ·have:=hY.lt l k h (by omega);omega
   ·exact h
   ·have:=hY.lt k l h (by omega);omega
  have l2:dl=0:=by
   rcases (show dl=0∨dl=1 by omega) with h|h
   ·exact h
   ·subst h;have:=hY.lt l (l+1) (by omega) f2;omega
  subst l1 l2
  have:dj=1:=by omega
  subst this
  have hij:i≠j:=fun q=>hne (by subst q;rfl)
  unfold lowI
  rw [if_neg (by simp only;omega)]
  rcases Nat.lt_or_gt_of_ne hij with h|h
  ·have q1:=hX.le (show i+1≤j by omega) (by omega)
   have q2:=hX.lt j (j+1) (by omega) f1
   have e0:mx (mn (X i) (X (i+1))) (mn (X j) (X (j+1)))-mn (mx (X i) (X (i+1))) (mx (X j) (X (j+1)))=X j-X (i+1):=by
    simp only [mn,mx];repeat' split
    all_goals omega
   simp only [e0]
   rcases Nat.lt_or_eq_of_le (show i+1≤j by omega) with h' | h'
   ·have:=hX.lt (i+1) j h' (by omega);left;omega
   ·right;subst h';exact ⟨by omega,i+1,l,.inr ⟨rfl,rfl⟩,.inl ⟨rfl,rfl⟩⟩
  ·have q1:=hX.le (show j+1≤i by omega) (by omega)
   have q2:=hX.lt j (j+1) (by omega) f1
   have e0:mx (mn (X i) (X (i+1))) (mn (X j) (X (j+1)))-mn (mx (X i) (X (i+1))) (mx (X j) (X (j+1)))=X i-X (j+1):=by
    simp only [mn,mx];repeat' split
    all_goals omega
   simp only [e0]
   rcases Nat.lt_or_eq_of_le (show j+1≤i by omega) with h' | h'
   ·have:=hX.lt (j+1) i h' (by omega);left;omega
   ·right;subst h';exact ⟨by omega,j+1,l,.inl ⟨rfl,rfl⟩,.inr ⟨rfl,rfl⟩⟩
 ·have hy:=hY.lt k (k+1) (by omega) e2
  simp only [Nat.add_zero,Int.sub_self,Int.zero_mul,Int.zero_sub] at t1 t2
  have x1:=mul_zero_pos (a:=Y (k+1)-Y k) (b:=X j-X i) (by omega) (by omega)
  have x2:=mul_zero_pos (a:=Y (k+1)-Y k) (b:=X (j+dj)-X i) (by omega) (by omega)
  have l1:j=i:=by
   rcases Nat.lt_trichotomy j i with h|h|h
   ·have:=hX.lt j i h (by omega);omega
   ·exact h
   ·have:=hX.lt i j h (by omega);omega
  have l2:dj=0:=by
   rcases (show dj=0∨dj=1 by omega) with h|h
   ·exact h
   ·subst h;have:=hX.lt j (j+1) (by omega) f1;omega
  subst l1 l2
  have:dl=1:=by omega
  subst this
  have hkl:k≠l:=fun q=>hne (by subst q;rfl)
  unfold lowI
  rw [if_pos (by simp only [Nat.add_zero])]
  rcases Nat.lt_or_gt_of_ne hkl with h|h
  ·have q1:=hY.le (show k+1≤l by omega) (by omega)
   have q2:=hY.lt l (l+1) (by omega) f2
   have e0:mx (mn (Y k) (Y (k+1))) (mn (Y l) (Y (l+1)))-mn (mx (Y k) (Y (k+1))) (mx (Y l) (Y (l+1)))=Y l-Y (k+1):=by
    simp only [mn,mx];repeat' split
    all_goals omega
   simp only [e0]
   rcases Nat.lt_or_eq_of_le (show k+1≤l by omega) with h' | h'
   ·have:=hY.lt (k+1) l h' (by omega);left;omega
   ·right;subst h';exact ⟨by omega,j,k+1,.inr ⟨rfl,rfl⟩,.inl ⟨rfl,rfl⟩⟩
  ·have q1:=hY.le (show l+1≤k by omega) (by omega)
   have q2:=hY.lt l (l+1) (by omega) f2
   have e0:mx (mn (Y k) (Y (k+1))) (mn (Y l) (Y (l+1)))-mn (mx (Y k) (Y (k+1))) (mx (Y l) (Y (l+1)))=Y k-Y (l+1):=by
    simp only [mn,mx];repeat' split
    all_goals omega
   simp only [e0]
   rcases Nat.lt_or_eq_of_le (show l+1≤k by omega) with h' | h'
   ·have:=hY.lt (l+1) k h' (by omega);left;omega
   ·right;subst h';exact ⟨by omega,j,l+1,.inl ⟨rfl,rfl⟩,.inr ⟨rfl,rfl⟩⟩
 ·have hx:=hX.lt i (i+1) (by omega) e1
  have hy:=hY.lt k (k+1) (by omega) e2
  have dxy:(X (i+1)-X i)*(Y (l+dl)-Y l)=(Y (k+1)-Y k)*(X (j+dj)-X j):=by grind
  rcases (show (dj=1∧dl=0)∨(dj=0∧dl=1)∨(dj=1∧dl=1) by omega) with ⟨rfl,rfl⟩|⟨rfl,rfl⟩|⟨rfl,rfl⟩
  ·exfalso
   have hfx:=hX.lt j (j+1) (by omega) f1
   simp only [Nat.add_zero,Int.sub_self,Int.mul_zero] at dxy
   have:=Int.mul_pos (a:=Y (k+1)-Y k) (b:=X (j+1)-X j) (by omega) (by omega)
   omega
  ·exfalso
   have hfy:=hY.lt l (l+1) (by omega) f2
   simp only [Nat.add_zero,Int.sub_self,Int.mul_zero] at dxy
   have:=Int.mul_pos (a:=X (i+1)-X i) (b:=Y (l+1)-Y l) (by omega) (by omega)
   omega
  ·have hfx:=hX.lt j (j+1) (by omega) f1
   have hij:i≠j:=fun q=>by
    subst q
    rw [Int.sub_self,Int.mul_zero,Int.sub_zero] at t1
    have:=mul_zero_pos (by omega) t1
    have:l=k:=by
     rcases Nat.lt_trichotomy l k with h|h|h
     ·have:=hY.lt l k h (by omega);omega
     ·exact h
     ·have:=hY.lt k l h (by omega);omega
    subst this
    exact hne rfl
   unfold lowI
   rw [if_neg (by simp only;omega)]
   rcases Nat.lt_or_gt_of_ne hij with h|h
   ·have q1:=hX.le (show i+1≤j by omega) (by omega)
    have e0:mx (mn (X i) (X (i+1))) (mn (X j) (X (j+1)))-mn (mx (X i) (X (i+1))) (mx (X j) (X (j+1)))=X j-X (i+1):=by
     simp only [mn,mx];repeat' split
     all_goals omega
    simp only [e0]
    rcases Nat.lt_or_eq_of_le (show i+1≤j by omega) with h' | h'
    ·have:=hX.lt (i+1) j h' (by omega);left;omega
    ·right
     subst h'
     have q3:(X (i+1)-X i)*(Y l-Y (k+1))=0:=by grind
     have q4:=mul_zero_pos (by omega) q3
     have:l=k+1:=by
      rcases Nat.lt_trichotomy l (k+1) with h|h|h
      ·have:=hY.lt l (k+1) h (by omega);omega
      ·exact h
      ·have:=hY.lt (k+1) l h (by omega);omega
     subst this
     exact ⟨by omega,i+1,k+1,.inr ⟨rfl,rfl⟩,.inl ⟨rfl,rfl⟩⟩
   ·have q1:=hX.le (show j+1≤i by omega) (by omega)
    have e0:mx (mn (X i) (X (i+1))) (mn (X j) (X (j+1)))-mn (mx (X i) (X (i+1))) (mx (X j) (X (j+1)))=X i-X (j+1):=by
     simp only [mn,mx];repeat' split
     all_goals omega
    simp only [e0]
    rcases Nat.lt_or_eq_of_le (show j+1≤i by omega) with h' | h'
    ·have:=hX.lt (j+1) i h' (by omega);left;omega
    ·right
     subst h'
     rw [Int.sub_self,Int.mul_zero,Int.sub_zero] at t2
     have q4:=mul_zero_pos (by omega) t2
     have:l+1=k:=by
      rcases Nat.lt_trichotomy (l+1) k with h|h|h
      ·have:=hY.lt (l+1) k h (by omega);omega
      ·exact h
      ·have:=hY.lt k (l+1) h (by omega);omega
     subst this
     exact ⟨by omega,j+1,l+1,.inl ⟨rfl,rfl⟩,.inr ⟨rfl,rfl⟩⟩
/-- In the reference, too, different edges meet in an end that they share, or not. -/
theorem ge_how {e f:Ge} (he:e.ok n m) (hf:f.ok n m) (hne:e≠f) {a b c d:Pt} (hab:a=e.lo X Y∧b=e.hi X Y∨a=e.hi X Y∧b=e.lo X Y) (hcd:c=f.lo X Y∧d=f.hi X Y∨c=f.hi X Y∧d=f.lo X Y) :
  howI a b c d=0∨howI a b c d=1∧Shr e f:=by
 unfold howI
 by_cases hl:sgn (turnD a b c)=0∧sgn (turnD a b d)=0
 ·rw [if_pos hl]
  rcases line_low hX hY he hf hne hab hcd (sgn_zero hl.1) (sgn_zero hl.2) with h|⟨h,hs⟩
  ·rw [if_pos h];exact .inl rfl
  ·rw [if_neg (by omega),if_pos h];exact .inr ⟨rfl,hs⟩
 ·have hx:¬ (sgn (turnD a b c)*sgn (turnD a b d)<0∧sgn (turnD c d a)*sgn (turnD c d b)<0):=ge_cross hX hY he hf hne hab hcd
  rw [if_neg hl,if_neg hx]
  by_cases hb:onE a b c∨onE a b d∨onE c d a∨onE c d b
  ·rw [if_pos hb]
   right
   refine ⟨rfl,?_⟩
   have e1:=he.i;have e2:=he.k;have f1:=hf.i;have f2:=hf.k
   have A:∀ {p:Pt},(p=f.lo X Y∨p=f.hi X Y)→onE a b p→Shr e f:=by
    rintro p (rfl|rfl) ho
    ·exact ⟨f.i,f.k,on_box hX hY he (by omega) (by omega) hab (onE_box ho),.inl ⟨rfl,rfl⟩⟩
    ·exact ⟨f.i+f.di,f.k+f.dk,on_box hX hY he (by omega) (by omega) hab (onE_box ho),.inr ⟨rfl,rfl⟩⟩
   have B:∀ {p:Pt},(p=e.lo X Y∨p=e.hi X Y)→onE c d p→Shr e f:=by
    rintro p (rfl|rfl) ho
    ·exact ⟨e.i,e.k,.inl ⟨rfl,rfl⟩,on_box hX hY hf (by omega) (by omega) hcd (onE_box ho)⟩
    ·exact ⟨e.i+e.di,e.k+e.dk,.inr ⟨rfl,rfl⟩,on_box hX hY hf (by omega) (by omega) hcd (onE_box ho)⟩
   rcases hb with h|h|h|h
   ·exact A (by rcases hcd with ⟨rfl,rfl⟩|⟨rfl,rfl⟩ <;> simp) h
   ·exact A (by rcases hcd with ⟨rfl,rfl⟩|⟨rfl,rfl⟩ <;> simp) h
   ·exact B (by rcases hab with ⟨rfl,rfl⟩|⟨rfl,rfl⟩ <;> simp) h
   ·exact B (by rcases hab with ⟨rfl,rfl⟩|⟨rfl,rfl⟩ <;> simp) h
  ·rw [if_neg hb];exact .inl rfl
end
/-- A valid ring, in the reference. -/
structure RR (r:List Pt):Prop where
 l3:3≤r.length
 l40:r.length≤40
 far:∀ i,i<r.length→farB (rA r i)=false
 still:∀ i,i<r.length→rA r i≠rB r i
 spike:∀ i,i<r.length→¬ spikeI r i
 how:∀ i j,i<r.length→j+1<i→¬ (j=0∧i+1=r.length)→howI (rA r j) (rA r (j+1)) (rA r i) (rB r i)=0
def clashR (ps:List Pt) (s t:St):Bool :=
 if s.a=t.a∧s.b=t.b∨s.a=t.b∧s.b=t.a then false
 else if howI (gP ps s.a) (gP ps s.b) (gP ps t.a) (gP ps t.b)=1 then decide (s.a≠t.a∧s.a≠t.b∧s.b≠t.a∧s.b≠t.b)
 else decide (howI (gP ps s.a) (gP ps s.b) (gP ps t.a) (gP ps t.b)≠0)
def outB (ps:List Pt) (t:Int) (p:Pt) (r:Nat) (l:List Int):Bool:=decide (r=0∧placeI (cor ps t l) p≠2∨0<r∧placeI (cor ps t l) p≠0)
/-- A valid complex, in the reference. -/
structure RG (c:CxV):Prop where
 p3:3≤c.ps.length
 p120:c.ps.length≤120
 f1:1≤c.fs.length
 f64:c.fs.length≤64
 far:∀ i,i<c.ps.length→farB (gP c.ps i)=false
 twin:∀ i k,i<c.ps.length→k<i→gP c.ps i≠gP c.ps k
 holes:∀ j,j<c.fs.length→(c.fs.getD j f0).hs.length≤8
 idx:∀ j r,j<c.fs.length→r<(c.fs.getD j f0).ri.length→(3≤((c.fs.getD j f0).ri.getD r r0).xs.length∧((c.fs.getD j f0).ri.getD r r0).xs.length≤40)∧∀ x∈((c.fs.getD j f0).ri.getD r r0).xs,0≤x∧x<(c.ps.length:Int)
 ring:∀ j r,j<c.fs.length→r<(c.fs.getD j f0).ri.length→RR (cor c.ps 1 ((c.fs.getD j f0).ri.getD r r0).xs)
 turn:∀ j r,j<c.fs.length→r<(c.fs.getD j f0).ri.length→¬ (r=0∧areaTo (cor c.ps 1 ((c.fs.getD j f0).ri.getD r r0).xs) (cor c.ps 1 ((c.fs.getD j f0).ri.getD r r0).xs).length<0∨0<r∧0<areaTo (cor c.ps 1 ((c.fs.getD j f0).ri.getD r r0).xs) (cor c.ps 1 ((c.fs.getD j f0).ri.getD r r0).xs).length)
 twice:∀ i k,i<(stL c.fs).length→k<i→¬ (((stL c.fs).getD i st0).a=((stL c.fs).getD k st0).a∧((stL c.fs).getD i st0).b=((stL c.fs).getD k st0).b)
 clash:∀ i k,i<(stL c.fs).length→k<i→clashR c.ps ((stL c.fs).getD i st0) ((stL c.fs).getD k st0)=false
 hole:∀ s∈stL c.fs,s.r≠0→∀ r,r<(c.fs.getD s.f f0).ri.length→r≠s.r→outB c.ps 2 (midP c.ps s) r ((c.fs.getD s.f f0).ri.getD r r0).xs=false
 over:∀ s∈stL c.fs,∀ j,j<c.fs.length→j≠s.f→∃ r,r<(c.fs.getD j f0).ri.length∧outB c.ps 2 (midP c.ps s) r ((c.fs.getD j f0).ri.getD r r0).xs=true
/-- On the line of two points, at a height between: on the segment. -/
theorem line_on {a b p:Pt} (h0:turnD a b p=0) (h:a.2≤p.2∧p.2<b.2∨b.2≤p.2∧p.2<a.2):onE a b p:=by
 have e1:(a.2-b.2)*(p.1-a.1)=(b.1-a.1)*(a.2-p.2):=by unfold turnD at h0;grind
 have e2:(a.2-b.2)*(p.1-b.1)=(a.1-b.1)*(p.2-b.2):=by unfold turnD at h0;grind
 have e3:(b.2-a.2)*(p.1-a.1)=(b.1-a.1)*(p.2-a.2):=by unfold turnD at h0;grind
 have e4:(b.2-a.2)*(p.1-b.1)=(a.1-b.1)*(b.2-p.2):=by unfold turnD at h0;grind
 have key:∀ {d x y z:Int},0<d→d*x=y*z→0≤z→(0≤y→0≤x)∧(y≤0→x≤0):=by
  intro d x y z hd he hz
  constructor
  ·intro hy
   exact mul_pos_nonneg hd (by rw [he];exact Int.mul_nonneg hy hz)
  ·intro hy
   have:0 ≤ -x:=mul_pos_nonneg hd (by
    have q:=Int.mul_nonneg (show 0 ≤ -y by omega) hz
    have e5:d * -x = -y*z:=by grind
    rw [e5];exact q)
   omega
 refine ⟨h0,?_⟩
 rcases h with ⟨h1,h2⟩|⟨h1,h2⟩
 ·have q1:=key (show 0<b.2-a.2 by omega) e3 (by omega)
  have q2:=key (show 0<b.2-a.2 by omega) e4 (by omega)
  rcases Int.le_total a.1 b.1 with h|h
  ·have:=q1.1 (by omega);have:=q2.2 (by omega)
   refine ⟨?_,?_,?_,?_⟩ <;> simp only [mn,mx] <;> split <;> omega
  ·have:=q1.2 (by omega);have:=q2.1 (by omega)
   refine ⟨?_,?_,?_,?_⟩ <;> simp only [mn,mx] <;> split <;> omega
 ·have q1:=key (show 0<a.2-b.2 by omega) e1 (by omega)
  have q2:=key (show 0<a.2-b.2 by omega) e2 (by omega)
  rcases Int.le_total a.1 b.1 with h|h
  ·have:=q1.1 (by omega);have:=q2.2 (by omega)
   refine ⟨?_,?_,?_,?_⟩ <;> simp only [mn,mx] <;> split <;> omega
  ·have:=q1.2 (by omega);have:=q2.1 (by omega)
   refine ⟨?_,?_,?_,?_⟩ <;> simp only [mn,mx] <;> split <;> omega
theorem crs_step {a b p : Pt} (h : ¬ onE a b p) : (crsB a b p = true ↔ stepW a b p ≠ 0) ∧ (stepW a b p = 0 ∨ stepW a b p = 1 ∨ stepW a b p = -1) := by
  refine ⟨?_, by unfold stepW; split; · exact .inr (.inl rfl)
                 split; · exact .inr (.inr rfl)
                 exact .inl rfl⟩
  unfold crsB stepW
  by_cases h1 : a.2 ≤ p.2 ∧ p.2 < b.2
  · rw [decide_eq_false (show ¬ p.2 < a.2 by omega), decide_eq_true h1.2, decide_eq_true (show a.2 < b.2 by omega)]
    rw [if_neg (show ¬ (p.2 < a.2 ∧ b.2 ≤ p.2 ∧ turnD a b p < 0) by omega)]
    by_cases h2 : 0 < turnD a b p
    · rw [if_pos ⟨h1.1, h1.2, h2⟩, decide_eq_true h2]; decide
    · rw [if_neg (by omega), decide_eq_false h2]; decide
  · rw [if_neg (by omega)]
    by_cases h3 : b.2 ≤ p.2 ∧ p.2 < a.2
    · rw [decide_eq_true h3.2, decide_eq_false (show ¬ p.2 < b.2 by omega), decide_eq_false (show ¬ a.2 < b.2 by omega)]
      have h0 : turnD a b p ≠ 0 := fun e => h (line_on e (.inr h3))
      by_cases h2 : turnD a b p < 0
      · rw [if_pos ⟨h3.2, h3.1, h2⟩, decide_eq_false (by omega)]; decide
      · rw [if_neg (by omega), decide_eq_true (by omega)]; decide
    · rw [if_neg (by omega)]
      have e : decide (p.2 < a.2) = decide (p.2 < b.2) := by rw [Bool.eq_iff_iff, decide_eq_true_iff, decide_eq_true_iff]; omega
      rw [e]; simp
theorem par_wind {r:List Pt} {p:Pt} : ∀ {i:Nat},(∀ k,k<i→¬ onE (rA r k) (rB r k) p)→parTo r p i=decide (windTo r p i % 2≠0)
 | 0,_=>rfl
 | i+1,h=>by
  have ih:=par_wind (r:=r) (p:=p) (i:=i) fun k hk=>h k (by omega)
  obtain ⟨c1,c2⟩:=crs_step (h i (by omega))
  rw [parTo,windTo,ih]
  cases hc:crsB (rA r i) (rB r i) p
  ·have:stepW (rA r i) (rB r i) p=0:=by
    rcases c2 with h|h|h
    ·exact h
    ·have:=c1.2 (by omega);rw [hc] at this;cases this
    ·have:=c1.2 (by omega);rw [hc] at this;cases this
   rw [this];simp
  ·have hs:=c1.1 hc
   rw [Bool.xor_true,Bool.eq_iff_iff,Bool.not_eq_true',decide_eq_false_iff_not,decide_eq_true_iff]
   omega
theorem place_side {r:List Pt} {p:Pt} (h:placeI r p=2):sideI r p=2:=by
 unfold placeI at h
 split at h
 ·cases h
 ·rename_i h1
  split at h
  ·rename_i h2
   refine sideI_in (fun i hi ho=>h1 ⟨i,hi,ho⟩) fun h0=>?_
   rw [par_wind (fun k hk ho=>h1 ⟨k,hk,ho⟩),h0] at h2
   simp at h2
  ·cases h
theorem place_on {r:List Pt} {p:Pt} {i:Nat} (hi:i<r.length) (h:onE (rA r i) (rB r i) p):placeI r p=1:=by
 unfold placeI;rw [if_pos ⟨i,hi,h⟩]
theorem place_in {r:List Pt} {p:Pt} (h:∀ i,i<r.length→¬ onE (rA r i) (rB r i) p) (hw:windTo r p r.length % 2≠0):placeI r p=2:=by
 unfold placeI
 rw [if_neg (by rintro ⟨i,hi,ho⟩;exact h i hi ho),par_wind h,if_pos (decide_eq_true hw)]
/-- What a valid ring of the program has. -/
theorem ringK_zero {r:List Pt} (h:ringK r=0):(3≤r.length∧r.length≤40)∧(∀ i,i<r.length→¬ stillI r i)∧(∀ i,i<r.length→¬ spikeI r i)∧∀ i j,i<r.length→j<r.length→¬ crossI r i j:=by
 unfold ringK at h
 split at h
 ·cases h
 split at h
 ·cases h
 split at h
 ·cases h
 split at h
 ·cases h
 rename_i h1 h2 h3 h4
 exact ⟨by omega,fun i hi hs=>h2 ⟨i,hi,hs⟩,fun i hi hs=>h3 ⟨i,hi,hs⟩,fun i j hi hj hc=>h4 ⟨i,hi,j,hj,hc⟩⟩
/-- A ring of points of a table, by steps along its edges. -/
structure GRing (vs:List (Nat × Nat)) (n m:Nat):Prop where
 edge:∀ p,p<vs.length→∃ e:Ge,e.ok n m∧(vs.getD p (0,0)=(e.i,e.k)∧vs.getD ((p+1) % vs.length) (0,0)=(e.i+e.di,e.k+e.dk)∨vs.getD p (0,0)=(e.i+e.di,e.k+e.dk)∧vs.getD ((p+1) % vs.length) (0,0)=(e.i,e.k))
 inj:∀ p q,p<vs.length→q<vs.length→vs.getD p (0,0)=vs.getD q (0,0)→p=q
theorem GRing.bnd {vs:List (Nat × Nat)} {n m p:Nat} (h:GRing vs n m) (hp:p<vs.length):(vs.getD p (0,0)).1≤n∧(vs.getD p (0,0)).2≤m:=by
 obtain ⟨e,he,hv⟩:=h.edge p hp
 have:=he.i;have:=he.k
 rcases hv with ⟨h1,_⟩|⟨h1,_⟩ <;> rw [h1] <;> simp only <;> omega
def ixs (n:Nat) (vs:List (Nat × Nat)):List Int:=vs.map fun v=>((ix n v.1 v.2:Nat):Int)
section
variable {ps:List Pt} {X Y:Nat→Int} {n m:Nat} (hT:Tab ps X Y n m)
include hT
theorem g_cor {vs:List (Nat × Nat)} (hg:GRing vs n m) (t:Int):cor ps t (ixs n vs)=vs.map fun v=>(t*X v.1,t*Y v.2):=by
 unfold cor ixs
 rw [List.map_map]
 refine List.map_congr_left fun v hv=>?_
 obtain ⟨j,hj,rfl⟩:=List.getElem_of_mem hv
 have hb:=hg.bnd hj
 rw [List.getD_eq_getElem?_getD,List.getElem?_eq_getElem hj] at hb
 have h3:=hT.at' _ _ hb.1 hb.2
 unfold gP at h3
 simp only [Function.comp_apply,corP,Int.toNat_natCast,Option.getD_some] at h3 ⊢
 rw [h3];rfl
theorem g_at {vs:List (Nat × Nat)} (hg:GRing vs n m) {p:Nat} (hp:p<vs.length):rA (cor ps 1 (ixs n vs)) p=gv X Y (vs.getD p (0,0)).1 (vs.getD p (0,0)).2:=by
 rw [g_cor hT hg,rA,getD_map0 (d:=(0,0)) hp];simp [gv]
omit hT in
theorem g_len {vs:List (Nat × Nat)} (t:Int):(cor ps t (ixs n vs)).length=vs.length:=by unfold cor ixs;rw [List.length_map,List.length_map]
theorem g_next {vs:List (Nat × Nat)} (hg:GRing vs n m) {p:Nat} (hp:p<vs.length):rB (cor ps 1 (ixs n vs)) p=gv X Y (vs.getD ((p+1) % vs.length) (0,0)).1 (vs.getD ((p+1) % vs.length) (0,0)).2:=by
 rw [rB,g_len,← rA,g_at hT hg (Nat.mod_lt _ (by omega))]
/-- Edges of such a ring that do not follow one another do not meet. -/
theorem g_apart {vs:List (Nat × Nat)} (hg:GRing vs n m) {i j:Nat} (hi:i<vs.length) (hj:j+1<i) (hne:¬ (j=0∧i+1=vs.length)):howI (rA (cor ps 1 (ixs n vs)) j) (rB (cor ps 1 (ixs n vs)) j) (rA (cor ps 1 (ixs n vs)) i) (rB (cor ps 1 (ixs n vs)) i)=0∧meetI (rA (cor ps 1 (ixs n vs)) i) (rB (cor ps 1 (ixs n vs)) i) (rA (cor ps 1 (ixs n vs)) j) (rB (cor ps 1 (ixs n vs)) j)=0:=by
 have hj':j<vs.length:=by omega
 obtain ⟨e,he,hv⟩:=hg.edge j hj'
 obtain ⟨f,hf,hw⟩:=hg.edge i hi
 have hns:¬ Shr e f:=by
  rintro ⟨a,b,h1,h2⟩
  have A:∃ p,(p=j∨p=(j+1) % vs.length)∧vs.getD p (0,0)=(a,b):=by
   rcases hv with ⟨v1,v2⟩|⟨v1,v2⟩ <;> rcases h1 with ⟨rfl,rfl⟩|⟨rfl,rfl⟩
   ·exact ⟨_,.inl rfl,v1⟩
   ·exact ⟨_,.inr rfl,v2⟩
   ·exact ⟨_,.inr rfl,v2⟩
   ·exact ⟨_,.inl rfl,v1⟩
  have B:∃ p,(p=i∨p=(i+1) % vs.length)∧vs.getD p (0,0)=(a,b):=by
   rcases hw with ⟨v1,v2⟩|⟨v1,v2⟩ <;> rcases h2 with ⟨rfl,rfl⟩|⟨rfl,rfl⟩
   ·exact ⟨_,.inl rfl,v1⟩
   ·exact ⟨_,.inr rfl,v2⟩
   ·exact ⟨_,.inr rfl,v2⟩
   ·exact ⟨_,.inl rfl,v1⟩
  obtain ⟨p,hp,hpv⟩:=A
  obtain ⟨q,hq,hqv⟩:=B
  have m1:(j+1) % vs.length=j+1:=Nat.mod_eq_of_lt (by omega)
  have m2:(i+1) % vs.length=i+1∨i+1=vs.length∧(i+1) % vs.length=0:=by
   rcases Nat.lt_or_ge (i+1) vs.length with h|h
   ·exact .inl (Nat.mod_eq_of_lt h)
   ·right
    have:i+1=vs.length:=by omega
    exact ⟨this,by rw [this,Nat.mod_self]⟩
  rw [m1] at hp
  have hp2:p<vs.length:=by omega
  have hq2:q<vs.length:=by
   rcases m2 with h|⟨h,h'⟩
   ·rcases hq with rfl|rfl
    ·exact hi
    ·exact Nat.mod_lt _ (by omega)
   ·rcases hq with rfl|rfl
    ·exact hi
    ·exact Nat.mod_lt _ (by omega)
  have hpq:=hg.inj p q hp2 hq2 (by rw [hpv,hqv])
  subst hpq
  rcases m2 with h|⟨h,h'⟩
  ·rw [h] at hq;omega
  ·rw [h'] at hq;omega
 have hne':e≠f:=fun q=>hns (by subst q;exact ⟨e.i,e.k,.inl ⟨rfl,rfl⟩,.inl ⟨rfl,rfl⟩⟩)
 have hab:rA (cor ps 1 (ixs n vs)) j=e.lo X Y∧rB (cor ps 1 (ixs n vs)) j=e.hi X Y∨rA (cor ps 1 (ixs n vs)) j=e.hi X Y∧rB (cor ps 1 (ixs n vs)) j=e.lo X Y:=by
  rw [g_at hT hg hj',g_next hT hg hj']
  rcases hv with ⟨v1,v2⟩|⟨v1,v2⟩ <;> rw [v1,v2]
  ·exact .inl ⟨rfl,rfl⟩
  ·exact .inr ⟨rfl,rfl⟩
 have hcd:rA (cor ps 1 (ixs n vs)) i=f.lo X Y∧rB (cor ps 1 (ixs n vs)) i=f.hi X Y∨rA (cor ps 1 (ixs n vs)) i=f.hi X Y∧rB (cor ps 1 (ixs n vs)) i=f.lo X Y:=by
  rw [g_at hT hg hi,g_next hT hg hi]
  rcases hw with ⟨v1,v2⟩|⟨v1,v2⟩ <;> rw [v1,v2]
  ·exact .inl ⟨rfl,rfl⟩
  ·exact .inr ⟨rfl,rfl⟩
 constructor
 ·rcases ge_how hT.x hT.y he hf hne' hab hcd with h|⟨_,h⟩
  ·exact h
  ·exact absurd h hns
 ·rcases ge_meet hT.x hT.y hf he (fun q=>hne' q.symm) hcd hab with h|⟨_,a,b,h1,h2⟩
  ·exact h
  ·exact absurd ⟨a,b,h2,h1⟩ hns
end
/-- A ring of the complex: along edges of the table, valid, turned as it should. -/
def GR (ps:List Pt) (n m r:Nat) (xs:List Int):Prop:=∃ vs,xs=ixs n vs∧GRing vs n m∧ringK (cor ps 1 xs)=0∧(r=0→0≤areaTo (cor ps 1 xs) (cor ps 1 xs).length)∧(0<r→areaTo (cor ps 1 xs) (cor ps 1 xs).length<0)
theorem nI_ixs {n:Nat} {vs:List (Nat × Nat)} {p:Nat} (hp:p<vs.length):nI (ixs n vs) p=ix n (vs.getD p (0,0)).1 (vs.getD p (0,0)).2:=by
 unfold nI ixs
 rw [getD_map0 (d:=(0,0)) hp,Int.toNat_natCast]
theorem ixs_len (n:Nat) (vs:List (Nat × Nat)):(ixs n vs).length=vs.length:=by unfold ixs;rw [List.length_map]
theorem cor_len (ps:List Pt) (t:Int) (l:List Int):(cor ps t l).length=l.length:=by unfold cor;rw [List.length_map]
/-- The edges of the table do not clash, in the reference. -/
theorem no_clashR {X Y:Nat→Int} {ps:List Pt} {n m:Nat} (hT:Tab ps X Y n m) {e f:Ge} (he:e.ok n m) (hf:f.ok n m) {v w v' w':Nat × Nat} (hv:v=(e.i,e.k)∧w=(e.i+e.di,e.k+e.dk)∨v=(e.i+e.di,e.k+e.dk)∧w=(e.i,e.k)) (hv':v'=(f.i,f.k)∧w'=(f.i+f.di,f.k+f.dk)∨v'=(f.i+f.di,f.k+f.dk)∧w'=(f.i,f.k)) {a b c d:Nat} :
  clashR ps ⟨ix n v.1 v.2,ix n w.1 w.2,a,b⟩ ⟨ix n v'.1 v'.2,ix n w'.1 w'.2,c,d⟩=false:=by
 unfold clashR
 by_cases hef:e=f
 ·subst hef
  rw [if_pos ?_]
  simp only
  rcases hv with ⟨rfl,rfl⟩|⟨rfl,rfl⟩ <;> rcases hv' with ⟨rfl,rfl⟩|⟨rfl,rfl⟩ <;> simp
 ·split
  ·rfl
  ·rcases ge_how hT.x hT.y he hf hef (ge_ends hT he hv) (ge_ends hT hf hv') with h|⟨h,j,l,h1,h2⟩
   ·simp only [h];rw [if_neg (by decide)];rfl
   ·simp only
    rw [h,if_pos rfl]
    apply decide_eq_false
    rintro ⟨n1,n2,n3,n4⟩
    rcases hv with ⟨rfl,rfl⟩|⟨rfl,rfl⟩ <;> rcases hv' with ⟨rfl,rfl⟩|⟨rfl,rfl⟩ <;> rcases h1 with ⟨rfl,rfl⟩|⟨rfl,rfl⟩ <;> rcases h2 with ⟨g1,g2⟩|⟨g1,g2⟩ <;> simp only [g1,g2] at n1 n2 n3 n4 <;> simp at n1 n2 n3 n4
/-- A directed edge of the complex, as a place in a ring. -/
theorem stL_mem {fs:List FaV} {s:St} (hs:s∈stL fs):∃ j r p,j<fs.length∧r<(fs.getD j f0).ri.length∧p<((fs.getD j f0).ri.getD r r0).xs.length∧s=⟨nI ((fs.getD j f0).ri.getD r r0).xs p,nI ((fs.getD j f0).ri.getD r r0).xs ((p+1) % ((fs.getD j f0).ri.getD r r0).xs.length),j,r⟩:=by
 obtain ⟨j,hj,hs⟩:=mem_pre.1 hs
 obtain ⟨r,hr,hs⟩:=mem_pre.1 hs
 unfold gR stR at hs
 obtain ⟨p,hp,rfl⟩:=List.mem_map.1 hs
 exact ⟨j,r,p,hj,hr,by simpa using hp,rfl⟩
theorem ix_eta {n m q:Nat} (hq:q<(n+1)*(m+1)):q % (n+1)≤n∧q / (n+1)≤m∧ix n (q % (n+1)) (q / (n+1))=q:=by
 refine ⟨by have:=Nat.mod_lt q (show 0<n+1 by omega);omega,?_,Nat.div_add_mod q (n+1)⟩
 have:=Nat.div_lt_of_lt_mul hq
 omega
theorem Inc.inj {X:Nat→Int} {n:Nat} (h:Inc X n) {i j:Nat} (hi:i≤n) (hj:j≤n) (he:X i=X j):i=j:=by
 rcases Nat.lt_trichotomy i j with h1|h1|h1
 ·have:=h.lt i j h1 hj;omega
 ·exact h1
 ·have:=h.lt j i h1 hi;omega
section
variable {ps:List Pt} {X Y:Nat→Int} {n m:Nat} (hT:Tab ps X Y n m)
include hT
theorem tab_twin {i k:Nat} (hi:i<ps.length) (hk:k<ps.length) (h:gP ps i=gP ps k):i=k:=by
 rw [hT.len] at hi hk
 obtain ⟨a1,a2,a3⟩:=ix_eta hi
 obtain ⟨b1,b2,b3⟩:=ix_eta hk
 have e1:=hT.at' _ _ a1 a2
 have e2:=hT.at' _ _ b1 b2
 rw [a3] at e1
 rw [b3] at e2
 rw [e1,e2] at h
 simp only [gv,Prod.mk.injEq] at h
 have c1:=hT.x.inj a1 b1 h.1
 have c2:=hT.y.inj a2 b2 h.2
 rw [← a3,← b3,c1,c2]
theorem tab_nodup:ps.Nodup:=by
 rw [List.nodup_iff_pairwise_ne,List.pairwise_iff_getElem]
 intro i j hi hj hij h
 have:=tab_twin hT hi hj (by unfold gP;rw [List.getD_eq_getElem?_getD,List.getD_eq_getElem?_getD,List.getElem?_eq_getElem hi,List.getElem?_eq_getElem hj,h])
 omega
theorem gr_RR {r:Nat} {xs:List Int} (h:GR ps n m r xs) (hfar:∀ i,i<ps.length→farB (gP ps i)=false):RR (cor ps 1 xs):=by
 obtain ⟨vs,rfl,hg,hk,-,-⟩:=h
 obtain ⟨⟨z1,z2⟩,z3,z4,z5⟩:=ringK_zero hk
 have L:=g_len (ps:=ps) (n:=n) (vs:=vs) 1
 refine ⟨z1,z2,fun i hi=>?_,z3,z4,fun i j hi hj hne=>?_⟩
 ·rw [L] at hi
  have hb:=hg.bnd hi
  rw [g_at hT hg hi,← hT.at' _ _ hb.1 hb.2]
  exact hfar _ (by rw [hT.len];exact ix_lt hb.1 hb.2)
 ·have hi':=hi
  rw [L] at hi'
  have e:rA (cor ps 1 (ixs n vs)) (j+1)=rB (cor ps 1 (ixs n vs)) j:=by
   rw [rB,Nat.mod_eq_of_lt (by omega)];rfl
  rw [e]
  exact (g_apart hT hg hi' hj (by rw [← L];exact hne)).1
theorem gr_idx {r:Nat} {xs:List Int} (h:GR ps n m r xs):(3≤xs.length∧xs.length≤40)∧∀ x∈xs,0≤x∧x<(ps.length:Int):=by
 obtain ⟨vs,rfl,hg,hk,-,-⟩:=h
 obtain ⟨⟨z1,z2⟩,-,-,-⟩:=ringK_zero hk
 rw [cor_len] at z1 z2
 refine ⟨⟨z1,z2⟩,fun x hx=>?_⟩
 obtain ⟨v,hv,rfl⟩:=List.mem_map.1 hx
 obtain ⟨j,hj,rfl⟩:=List.getElem_of_mem hv
 have hb:=hg.bnd hj
 rw [List.getD_eq_getElem?_getD,List.getElem?_eq_getElem hj] at hb
 have:=ix_lt hb.1 hb.2
 rw [hT.len]
 exact ⟨Int.natCast_nonneg _,by exact_mod_cast this⟩
end
/-- The rings of a complex lie along the edges of a table. -/
def GRs (c:CxV) (n m:Nat):Prop:=∀ j r,j<c.fs.length→r<(c.fs.getD j f0).ri.length→GR c.ps n m r ((c.fs.getD j f0).ri.getD r r0).xs
section
variable {c:CxV} {X Y:Nat→Int} {n m:Nat} (hT:Tab c.ps X Y n m) (hG:GRs c n m)
include hT hG
omit hT in
theorem st_edge {s:St} (hs:s∈stL c.fs):∃ (e:Ge) (v w:Nat × Nat),e.ok n m∧(v=(e.i,e.k)∧w=(e.i+e.di,e.k+e.dk)∨v=(e.i+e.di,e.k+e.dk)∧w=(e.i,e.k))∧s=⟨ix n v.1 v.2,ix n w.1 w.2,s.f,s.r⟩:=by
 obtain ⟨j,r,p,hj,hr,hp,rfl⟩:=stL_mem hs
 obtain ⟨vs,hx,hg,-,-,-⟩:=hG j r hj hr
 rw [hx,ixs_len] at hp
 obtain ⟨e,he,hv⟩:=hg.edge p hp
 refine ⟨e,_,_,he,hv,?_⟩
 rw [hx,ixs_len,nI_ixs hp,nI_ixs (Nat.mod_lt _ (by omega))]
theorem st_clash {s t:St} (hs:s∈stL c.fs) (ht:t∈stL c.fs):clashB c.ps s t=false∧clashR c.ps s t=false:=by
 obtain ⟨e,v,w,he,hv,h1⟩:=st_edge hG hs
 obtain ⟨f,v',w',hf,hv',h2⟩:=st_edge hG ht
 rw [h1,h2]
 exact ⟨no_clash hT he hf hv hv',no_clashR hT he hf hv hv'⟩
/-- .. so it is valid, if no edge stands twice, no hole and no face stands wrong. -/
theorem prog_good (hc:(3≤c.ps.length∧c.ps.length≤120)∧1≤c.fs.length∧c.fs.length≤64) (hh:∀ f∈c.fs,f.hs.length≤8) (hfar:c.ps.any farB=false) (hk:((stL c.fs).map keyS).Nodup) (hb:(stL c.fs).any (holeBad c.ps c.fs)=false) (ho:(stL c.fs).any (overBad c.ps c.fs)=false):cxBad c=false:=by
 have G:∀ f∈c.fs,∀ r,r<f.ri.length→GR c.ps n m r (f.ri.getD r r0).xs:=fun f hf r hr=>by
  obtain ⟨j,hj,rfl⟩:=List.getElem_of_mem hf
  have:=hG j r hj
  rw [List.getD_eq_getElem?_getD,List.getElem?_eq_getElem hj] at this
  exact this hr
 have one:∀ f∈c.fs,∀ bad:Int→List Int→Bool,(∀ (r:Nat) xs,GR c.ps n m r xs→bad r xs=false)→anyB f.ri bad=false:=fun f hf bad hb=>by
  rw [anyB]
  apply decide_eq_false
  rintro ⟨k,hk,h⟩
  rw [hb k _ (G f hf k hk)] at h
  cases h
 have z0:cntBad c=false:=by rw [cntBad,decide_eq_false (by omega),decide_eq_false (by omega),decide_eq_false (by omega),decide_eq_false (by omega)];rfl
 have z1:c.fs.any (faceIdx c.ps.length)=false:=by
  rw [List.any_eq_false]
  intro f hf
  have h8:¬ 8<f.hs.length:=by have:=hh f hf;omega
  rw [faceIdx,one f hf _ (fun r xs hg=>by obtain ⟨⟨a,b⟩,d⟩:=gr_idx hT hg;exact idx_good a b d),decide_eq_false h8];simp
 have z2:c.fs.any (fun f=>anyB f.ri (badR c.ps))=false:=by
  rw [List.any_eq_false]
  intro f hf
  rw [one f hf _ (fun r xs hg=>by obtain ⟨vs,-,-,hk,-,-⟩:=hg;rw [badR,ringBad,hk];rfl)];simp
 have z3:c.fs.any (fun f=>anyB f.ri (turnBad c.ps))=false:=by
  rw [List.any_eq_false]
  intro f hf
  rw [one f hf _ (fun r xs hg=>by
   obtain ⟨vs,-,-,-,h0,h1⟩:=hg
   rw [turnBad]
   rcases Nat.eq_zero_or_pos r with h|h
   ·rw [decide_eq_false (by have:=h0 h;omega),decide_eq_true (by omega)];rfl
   ·rw [decide_eq_true (by have:=h1 h;omega),decide_eq_false (by omega)];rfl)];simp
 have z4:((List.range (stL c.fs).length).any (crossBad c.ps (stL c.fs)))=false:=by
  rw [List.any_eq_false]
  intro i hi
  have hi':i<(stL c.fs).length:=by simpa using hi
  rw [Bool.not_eq_true,crossBad,List.any_eq_false]
  intro t ht
  rw [List.getD_eq_getElem?_getD,List.getElem?_eq_getElem hi',Bool.not_eq_true]
  exact (st_clash hT hG (List.getElem_mem hi') (List.mem_of_mem_take ht)).1
 rw [cxBad,z0,hfar,z1,z2,z3,edgedBad,decide_eq_true hk,z4,hb,ho,decide_eq_true (tab_nodup hT)];rfl
theorem ref_good (hc:(3≤c.ps.length∧c.ps.length≤120)∧1≤c.fs.length∧c.fs.length≤64) (hh:∀ f∈c.fs,f.hs.length≤8) (hfar:c.ps.any farB=false) (hk:((stL c.fs).map keyS).Nodup)
  (hb:∀ s∈stL c.fs,s.r≠0→∀ r,r<(c.fs.getD s.f f0).ri.length→r≠s.r→outB c.ps 2 (midP c.ps s) r ((c.fs.getD s.f f0).ri.getD r r0).xs=false)
  (ho:∀ s∈stL c.fs,∀ j,j<c.fs.length→j≠s.f→∃ r,r<(c.fs.getD j f0).ri.length∧outB c.ps 2 (midP c.ps s) r ((c.fs.getD j f0).ri.getD r r0).xs=true):RG c:=by
 have hf':∀ i,i<c.ps.length→farB (gP c.ps i)=false:=fun i hi=>by
  rw [List.any_eq_false] at hfar
  have:=hfar _ (List.getElem_mem hi)
  unfold gP
  rw [List.getD_eq_getElem?_getD,List.getElem?_eq_getElem hi]
  simpa using this
 have M:∀ i,i<(stL c.fs).length→(stL c.fs).getD i st0∈stL c.fs:=fun i hi=>by
  rw [List.getD_eq_getElem?_getD,List.getElem?_eq_getElem hi];exact List.getElem_mem hi
 refine ⟨hc.1.1,hc.1.2,hc.2.1,hc.2.2,hf',fun i k hi hk h=>?_,fun j hj=>?_,fun j r hj hr=>gr_idx hT (hG j r hj hr),fun j r hj hr=>gr_RR hT (hG j r hj hr) hf',fun j r hj hr=>?_,fun i k hi hk' h=>?_,fun i k hi hk'=>?_,hb,ho⟩
 ·have:=tab_twin hT hi (by omega) h;omega
 ·rw [List.getD_eq_getElem?_getD,List.getElem?_eq_getElem hj];exact hh _ (List.getElem_mem hj)
 ·obtain ⟨vs,-,-,-,h0,h1⟩:=hG j r hj hr
  rintro (⟨a,b⟩|⟨a,b⟩)
  ·have:=h0 a;omega
  ·have:=h1 a;omega
 ·rw [List.nodup_iff_pairwise_ne,List.pairwise_iff_getElem] at hk
  have hi2:i<((stL c.fs).map keyS).length:=by rw [List.length_map];exact hi
  have hk2:k<((stL c.fs).map keyS).length:=by rw [List.length_map];omega
  refine hk k i hk2 hi2 hk' ?_
  rw [List.getElem_map,List.getElem_map]
  rw [List.getD_eq_getElem?_getD,List.getElem?_eq_getElem hi,List.getD_eq_getElem?_getD,List.getElem?_eq_getElem (show k<(stL c.fs).length by omega)] at h
  simp only [Option.getD_some] at h
  simp only [keyS,h.1,h.2]
 ·exact (st_clash hT hG (M i hi) (M k (by omega))).2
end
theorem face_GR {ps:List Pt} {X Y:Nat→Int} {n m:Nat} (hT:Tab ps X Y n m) {f:Fc} (hf:f.ok n m):GR ps n m 0 (f.ring n):=by
 have h1:=face_ring hT hf
 have h2:=face_turn hT hf
 refine ⟨f.vs,rfl,⟨fun p hp=>?_,fun p q hp hq h=>Fc.inj hp hq h⟩,?_,fun _=>?_,fun h=>absurd h (by decide)⟩
 ·obtain ⟨e,he,hv,-⟩:=Fc.edge hf hp
  exact ⟨e,he,hv⟩
 ·unfold ringBad at h1
  have h1:=of_decide_eq_false h1
  unfold ringK at h1 ⊢
  repeat' split at h1
  all_goals first|omega|skip
  rename_i a b c d
  rw [if_neg a,if_neg b,if_neg c,if_neg d]
 ·unfold turnBad at h2
  rcases Int.lt_or_le (areaTo (cor ps 1 (f.ring n)) (cor ps 1 (f.ring n)).length) 0 with h|h
  ·rw [decide_eq_true h] at h2;cases h2
  ·exact h
/-- Complexes of faces of a table are valid, in the reference. -/
theorem cx_goodR {X Y:Nat→Int} {n m:Nat} {c:CxV} {gs:List Fc} (hT:Tab c.ps X Y n m) (hM:Match c.fs gs n) (hG:Tiles gs n m) (h3:3≤c.ps.length) (h120:c.ps.length≤120) (h1:1≤gs.length) (h64:gs.length≤64) (hfar:c.ps.any farB=false):RG c:=by
 have hl:=hM.len
 have hR:GRs c n m:=fun j r hj hr=>by
  have hj':j<gs.length:=by omega
  rw [hM.ri hj'] at hr ⊢
  simp only [List.length_cons,List.length_nil] at hr
  obtain rfl:r=0:=by omega
  rw [List.getD_cons_zero,(hM.at' j hj').1]
  exact face_GR hT (hG.get hj')
 have S:∀ s∈stL c.fs,∃ j p,j<gs.length∧p<(gs.getD j ⟨.q,0,0⟩).vs.length∧s=⟨ix n ((gs.getD j ⟨.q,0,0⟩).va p).1 ((gs.getD j ⟨.q,0,0⟩).va p).2,ix n ((gs.getD j ⟨.q,0,0⟩).vb p).1 ((gs.getD j ⟨.q,0,0⟩).vb p).2,j,0⟩:=fun s hs=>by
  obtain ⟨j,hj,hs⟩:=mem_pre.1 hs
  rw [hM.len] at hj
  obtain ⟨p,hp,rfl⟩:=st_mem hM hj hs
  exact ⟨j,p,hj,hp,rfl⟩
 refine ref_good hT hR ⟨⟨h3,h120⟩,by omega,by omega⟩ (fun f hf=>?_) hfar (keys_nodup hM hG) (fun s hs hr=>?_) (fun s hs j hj hne=>?_)
 ·obtain ⟨j,hj,rfl⟩:=List.getElem_of_mem hf
  have:=(hM.at' j (by omega)).2
  rw [List.getD_eq_getElem?_getD,List.getElem?_eq_getElem hj] at this
  rw [show c.fs[j].hs = [] from this];simp
 ·obtain ⟨j,p,hj,hp,rfl⟩:=S s hs
  exact absurd rfl hr
 ·obtain ⟨j',p,hj',hp,rfl⟩:=S s hs
  have hj2:j<gs.length:=by omega
  refine ⟨0,by rw [hM.ri hj2];simp,?_⟩
  rw [hM.ri hj2,List.getD_cons_zero,(hM.at' j hj2).1,outB]
  refine decide_eq_true (.inl ⟨rfl,fun h=>?_⟩)
  exact no_over hT hG hj' hj2 hne (r:=0) hp (place_side h)
def okE (v w:Nat × Nat):Bool:=decide (v.1+1=w.1∧v.2=w.2∨w.1+1=v.1∧v.2=w.2∨v.1=w.1∧v.2+1=w.2∨v.1=w.1∧w.2+1=v.2)
theorem gring_of {vs:List (Nat × Nat)} {n m:Nat} (h:∀ p,p<vs.length→okE (vs.getD p (0,0)) (vs.getD ((p+1) % vs.length) (0,0))=true∧(vs.getD p (0,0)).1≤n∧(vs.getD p (0,0)).2≤m) (hi:∀ p,p<vs.length→∀ q,q<vs.length→vs.getD p (0,0)=vs.getD q (0,0)→p=q):GRing vs n m:=by
 refine ⟨fun p hp=>?_,fun p q hp hq=>hi p hp q hq⟩
 obtain ⟨h1,h2,h3⟩:=h p hp
 obtain ⟨-,h4,h5⟩:=h ((p+1) % vs.length) (Nat.mod_lt _ (by omega))
 generalize vs.getD p (0,0)=v at h1 h2 h3 ⊢
 generalize vs.getD ((p+1) % vs.length) (0,0)=w at h1 h4 h5 ⊢
 obtain ⟨a,b⟩:=v
 obtain ⟨a',b'⟩:=w
 simp only at *
 rcases of_decide_eq_true h1 with ⟨e1,e2⟩|⟨e1,e2⟩|⟨e1,e2⟩|⟨e1,e2⟩ <;> simp only at e1 e2 <;> subst e1 <;> subst e2
 ·exact ⟨⟨a,b,1,0⟩,⟨h4,h5,by simp⟩,.inl ⟨rfl,rfl⟩⟩
 ·exact ⟨⟨a',b,1,0⟩,⟨h2,h3,by simp⟩,.inr ⟨rfl,rfl⟩⟩
 ·exact ⟨⟨a,b,0,1⟩,⟨h4,h5,by simp⟩,.inl ⟨rfl,rfl⟩⟩
 ·exact ⟨⟨a,b',0,1⟩,⟨h2,h3,by simp⟩,.inr ⟨rfl,rfl⟩⟩
theorem lo_ne_hi {X Y:Nat→Int} {n m:Nat} (hX:Inc X n) (hY:Inc Y m) {e:Ge} (he:e.ok n m):e.lo X Y≠e.hi X Y:=by
 intro h
 simp only [Ge.lo,Ge.hi,gv,Prod.mk.injEq] at h
 have h1:=hX.inj (by have:=he.i;omega) he.i h.1
 have h2:=hY.inj (by have:=he.k;omega) he.k h.2
 have:=he.d
 omega
theorem gring_ringK {ps:List Pt} {X Y:Nat→Int} {n m:Nat} (hT:Tab ps X Y n m) {vs:List (Nat × Nat)} (hg:GRing vs n m) (h3:3≤vs.length) (h40:vs.length≤40) (hs:∀ i,i<vs.length→¬ spikeI (cor ps 1 (ixs n vs)) i):ringK (cor ps 1 (ixs n vs))=0:=by
 have L:=g_len (ps:=ps) (n:=n) (vs:=vs) 1
 unfold ringK
 rw [L,if_neg (by omega),if_neg ?_,if_neg ?_,if_neg ?_]
 ·rintro ⟨i,hi,j,hj,h1,h2,h3⟩
  exact h3 (g_apart hT hg hi h1 (by rw [← L];exact h2)).2
 ·rintro ⟨i,hi,h1⟩
  exact hs i hi h1
 ·rintro ⟨i,hi,h1⟩
  obtain ⟨e,he,hv⟩:=hg.edge i hi
  unfold stillI at h1
  rw [g_at hT hg hi,g_next hT hg hi] at h1
  rcases hv with ⟨v1,v2⟩|⟨v1,v2⟩ <;> rw [v1,v2] at h1
  ·exact lo_ne_hi hT.x hT.y he h1
  ·exact lo_ne_hi hT.x hT.y he h1.symm
theorem nsp_h {x0 x1 x2 y:Int} (h:x0<x1∧x1<x2∨x2<x1∧x1<x0):¬ (turnD (x0,y) (x1,y) (x2,y)=0∧fwd (x0,y) (x1,y) (x2,y)<0):=by
 rintro ⟨-,h2⟩
 unfold fwd at h2
 simp only [Int.sub_self,Int.mul_zero,Int.add_zero] at h2
 rcases h with ⟨a,b⟩|⟨a,b⟩
 ·have:=Int.mul_pos (a:=x1-x0) (b:=x2-x1) (by omega) (by omega);omega
 ·have:=Int.mul_pos (a:=x0-x1) (b:=x1-x2) (by omega) (by omega)
  have e:(x1-x0)*(x2-x1)=(x0-x1)*(x1-x2):=by grind
  omega
theorem nsp_v {x y0 y1 y2:Int} (h:y0<y1∧y1<y2∨y2<y1∧y1<y0):¬ (turnD (x,y0) (x,y1) (x,y2)=0∧fwd (x,y0) (x,y1) (x,y2)<0):=by
 rintro ⟨-,h2⟩
 unfold fwd at h2
 simp only [Int.sub_self,Int.mul_zero,Int.zero_add] at h2
 rcases h with ⟨a,b⟩|⟨a,b⟩
 ·have:=Int.mul_pos (a:=y1-y0) (b:=y2-y1) (by omega) (by omega);omega
 ·have:=Int.mul_pos (a:=y0-y1) (b:=y1-y2) (by omega) (by omega)
  have e:(y1-y0)*(y2-y1)=(y0-y1)*(y1-y2):=by grind
  omega
theorem nsp_c {x0 x1 y y2:Int} (h:x0≠x1) (h':y≠y2):¬ (turnD (x0,y) (x1,y) (x1,y2)=0∧fwd (x0,y) (x1,y) (x1,y2)<0):=by
 rintro ⟨h2,-⟩
 unfold turnD at h2
 simp only [Int.sub_self,Int.zero_mul,Int.sub_zero] at h2
 rcases Int.mul_eq_zero.1 h2 with h|h <;> omega
theorem nsp_d {x x2 y0 y1:Int} (h:y0≠y1) (h':x≠x2):¬ (turnD (x,y0) (x,y1) (x2,y1)=0∧fwd (x,y0) (x,y1) (x2,y1)<0):=by
 rintro ⟨h2,-⟩
 unfold turnD at h2
 simp only [Int.sub_self,Int.zero_mul,Int.zero_sub] at h2
 rcases Int.mul_eq_zero.1 (show (y1-y0)*(x2-x)=0 by omega) with h|h <;> omega
def outV:List (Nat × Nat):=[(0,0),(1,0),(2,0),(3,0),(3,1),(3,2),(3,3),(2,3),(1,3),(0,3),(0,2),(0,1)]
def holV:List (Nat × Nat):=[(1,1),(1,2),(2,2),(2,1)]
theorem out_gring:GRing outV 3 3:=gring_of (by decide) (by decide)
theorem hol_gring:GRing holV 3 3:=gring_of (by decide) (by decide)
section
variable {x0 x1 x2 x3 y0 y1 y2 y3:Int} (hx:x0<x1∧x1<x2∧x2<x3) (hy:y0<y1∧y1<y2∧y2<y3)
include hx hy
theorem out_spike:∀ i,i<12→¬ spikeI [(x0,y0),(x1,y0),(x2,y0),(x3,y0),(x3,y1),(x3,y2),(x3,y3),(x2,y3),(x1,y3),(x0,y3),(x0,y2),(x0,y1)] i:=by
 intro i hi
 rcases (show i=0∨i=1∨i=2∨i=3∨i=4∨i=5∨i=6∨i=7∨i=8∨i=9∨i=10∨i=11 by omega) with rfl|rfl|rfl|rfl|rfl|rfl|rfl|rfl|rfl|rfl|rfl|rfl
 ·simpa [spikeI,rA,rB,rP] using nsp_d (x:=x0) (x2:=x1) (y0:=y1) (y1:=y0) (by omega) (by omega)
 ·simpa [spikeI,rA,rB,rP] using nsp_h (x0:=x0) (x1:=x1) (x2:=x2) (y:=y0) (by omega)
 ·simpa [spikeI,rA,rB,rP] using nsp_h (x0:=x1) (x1:=x2) (x2:=x3) (y:=y0) (by omega)
 ·simpa [spikeI,rA,rB,rP] using nsp_c (x0:=x2) (x1:=x3) (y:=y0) (y2:=y1) (by omega) (by omega)
 ·simpa [spikeI,rA,rB,rP] using nsp_v (x:=x3) (y0:=y0) (y1:=y1) (y2:=y2) (by omega)
 ·simpa [spikeI,rA,rB,rP] using nsp_v (x:=x3) (y0:=y1) (y1:=y2) (y2:=y3) (by omega)
 ·simpa [spikeI,rA,rB,rP] using nsp_d (x:=x3) (x2:=x2) (y0:=y2) (y1:=y3) (by omega) (by omega)
 ·simpa [spikeI,rA,rB,rP] using nsp_h (x0:=x3) (x1:=x2) (x2:=x1) (y:=y3) (by omega)
 ·simpa [spikeI,rA,rB,rP] using nsp_h (x0:=x2) (x1:=x1) (x2:=x0) (y:=y3) (by omega)
 ·simpa [spikeI,rA,rB,rP] using nsp_c (x0:=x1) (x1:=x0) (y:=y3) (y2:=y2) (by omega) (by omega)
 ·simpa [spikeI,rA,rB,rP] using nsp_v (x:=x0) (y0:=y3) (y1:=y2) (y2:=y1) (by omega)
 ·simpa [spikeI,rA,rB,rP] using nsp_v (x:=x0) (y0:=y2) (y1:=y1) (y2:=y0) (by omega)
theorem hol_spike:∀ i,i<4→¬ spikeI [(x1,y1),(x1,y2),(x2,y2),(x2,y1)] i:=by
 intro i hi
 rcases (show i=0∨i=1∨i=2∨i=3 by omega) with rfl|rfl|rfl|rfl
 ·simpa [spikeI,rA,rB,rP] using nsp_c (x0:=x2) (x1:=x1) (y:=y1) (y2:=y2) (by omega) (by omega)
 ·simpa [spikeI,rA,rB,rP] using nsp_d (x:=x1) (x2:=x2) (y0:=y1) (y1:=y2) (by omega) (by omega)
 ·simpa [spikeI,rA,rB,rP] using nsp_c (x0:=x1) (x1:=x2) (y:=y2) (y2:=y1) (by omega) (by omega)
 ·simpa [spikeI,rA,rB,rP] using nsp_d (x:=x2) (x2:=x1) (y0:=y2) (y1:=y1) (by omega) (by omega)
theorem out_area:0≤areaTo [(x0,y0),(x1,y0),(x2,y0),(x3,y0),(x3,y1),(x3,y2),(x3,y3),(x2,y3),(x1,y3),(x0,y3),(x0,y2),(x0,y1)] 12:=by
 have h:0≤(x3-x0)*(y3-y0):=Int.mul_nonneg (by omega) (by omega)
 have e:areaTo [(x0,y0),(x1,y0),(x2,y0),(x3,y0),(x3,y1),(x3,y2),(x3,y3),(x2,y3),(x1,y3),(x0,y3),(x0,y2),(x0,y1)] 12=2*((x3-x0)*(y3-y0)):=by
  simp [areaTo,rA,rB];grind
 omega
theorem hol_area:areaTo [(x1,y1),(x1,y2),(x2,y2),(x2,y1)] 4<0:=by
 have h:0<(x2-x1)*(y2-y1):=Int.mul_pos (by omega) (by omega)
 have e:areaTo [(x1,y1),(x1,y2),(x2,y2),(x2,y1)] 4 = -(2*((x2-x1)*(y2-y1))):=by
  simp [areaTo,rA,rB];grind
 omega
omit hx in
theorem out_wind {p:Pt} (hp:Inn x0 x3 y0 y3 p):windTo [(x0,y0),(x1,y0),(x2,y0),(x3,y0),(x3,y1),(x3,y2),(x3,y3),(x2,y3),(x1,y3),(x0,y3),(x0,y2),(x0,y1)] p 12=1∧∀ i,i<12→¬ onE (rA [(x0,y0),(x1,y0),(x2,y0),(x3,y0),(x3,y1),(x3,y2),(x3,y3),(x2,y3),(x1,y3),(x0,y3),(x0,y2),(x0,y1)] i) (rB [(x0,y0),(x1,y0),(x2,y0),(x3,y0),(x3,y1),(x3,y2),(x3,y3),(x2,y3),(x1,y3),(x0,y3),(x0,y2),(x0,y1)] i) p:=by
 obtain ⟨⟨a1,a2⟩,b1,b2⟩:=hp
 constructor
 ·have e:windTo [(x0,y0),(x1,y0),(x2,y0),(x3,y0),(x3,y1),(x3,y2),(x3,y3),(x2,y3),(x1,y3),(x0,y3),(x0,y2),(x0,y1)] p 12=stepW (x0,y0) (x1,y0) p+stepW (x1,y0) (x2,y0) p+stepW (x2,y0) (x3,y0) p+stepW (x3,y0) (x3,y1) p+stepW (x3,y1) (x3,y2) p+stepW (x3,y2) (x3,y3) p+stepW (x3,y3) (x2,y3) p+stepW (x2,y3) (x1,y3) p+stepW (x1,y3) (x0,y3) p+stepW (x0,y3) (x0,y2) p+stepW (x0,y2) (x0,y1) p+stepW (x0,y1) (x0,y0) p:=by
   simp [windTo,rA,rB]
  rw [e,step_h (a:=(x0,y0)) (by rfl),step_h (a:=(x1,y0)) (by rfl),step_h (a:=(x2,y0)) (by rfl),step_h (a:=(x3,y3)) (by rfl),step_h (a:=(x2,y3)) (by rfl),step_h (a:=(x1,y3)) (by rfl),step_up hy.1,step_up hy.2.1,step_up hy.2.2,step_dn hy.1,step_dn hy.2.1,step_dn hy.2.2]
  rw [if_neg (show ¬ (y0≤p.2∧p.2<y1∧p.1<x0) by omega),if_neg (show ¬ (y1≤p.2∧p.2<y2∧p.1<x0) by omega),if_neg (show ¬ (y2≤p.2∧p.2<y3∧p.1<x0) by omega)]
  rcases Int.lt_or_le p.2 y1 with h1|h1
  ·rw [if_pos (by omega),if_neg (by omega),if_neg (by omega)];rfl
  ·rcases Int.lt_or_le p.2 y2 with h2|h2
   ·rw [if_neg (by omega),if_pos (by omega),if_neg (by omega)];rfl
   ·rw [if_neg (by omega),if_neg (by omega),if_pos (by omega)];rfl
 ·intro i hi ho
  have hb:=onE_box ho
  obtain ⟨-,h1,h2⟩:=hb
  rcases (show i=0∨i=1∨i=2∨i=3∨i=4∨i=5∨i=6∨i=7∨i=8∨i=9∨i=10∨i=11 by omega) with rfl|rfl|rfl|rfl|rfl|rfl|rfl|rfl|rfl|rfl|rfl|rfl <;> simp [rA,rB] at h1 h2 <;> omega
end
def outL:List Int:=[0,1,2,3,7,11,15,14,13,12,8,4]
def holL:List Int:=[5,9,10,6]
def filL:List Int:=[5,6,10,9]
/-- The faces of a draft with a hole. -/
def HoleFs (fs:List FaV):Prop:=∃ va vh hv,fs = [⟨⟨va,outL⟩,hv,[⟨vh,holL⟩]⟩]∨∃ vb hw,fs = [⟨⟨va,outL⟩,hv,[⟨vh,holL⟩]⟩,⟨⟨vb,filL⟩,hw,[]⟩]
def stA:List St:=[⟨0,1,0,0⟩,⟨1,2,0,0⟩,⟨2,3,0,0⟩,⟨3,7,0,0⟩,⟨7,11,0,0⟩,⟨11,15,0,0⟩,⟨15,14,0,0⟩,⟨14,13,0,0⟩,⟨13,12,0,0⟩,⟨12,8,0,0⟩,⟨8,4,0,0⟩,⟨4,0,0,0⟩]
def stH:List St:=[⟨5,9,0,1⟩,⟨9,10,0,1⟩,⟨10,6,0,1⟩,⟨6,5,0,1⟩]
def stB:List St:=[⟨5,6,1,0⟩,⟨6,10,1,0⟩,⟨10,9,1,0⟩,⟨9,5,1,0⟩]
theorem stL_one (va vh hv:Value):stL [⟨⟨va,outL⟩,hv,[⟨vh,holL⟩]⟩]=stA++stH:=by
 simp [stL,pre,gF,stF,FaV.ri,gR,stR,outL,holL,List.range_succ,nI,stA,stH]
theorem stL_two (va vh hv vb hw:Value):stL [⟨⟨va,outL⟩,hv,[⟨vh,holL⟩]⟩,⟨⟨vb,filL⟩,hw,[]⟩]=stA++stH++stB:=by
 simp [stL,pre,gF,stF,FaV.ri,gR,stR,outL,holL,filL,List.range_succ,nI,stA,stH,stB]
section
variable {ps:List Pt} {X Y:Nat→Int} (hT:Tab ps X Y 3 3)
include hT
theorem hx3:(X 0<X 1∧X 1<X 2∧X 2<X 3)∧Y 0<Y 1∧Y 1<Y 2∧Y 2<Y 3 :=
 ⟨⟨hT.x.lt 0 1 (by omega) (by omega),hT.x.lt 1 2 (by omega) (by omega),hT.x.lt 2 3 (by omega) (by omega)⟩,hT.y.lt 0 1 (by omega) (by omega),hT.y.lt 1 2 (by omega) (by omega),hT.y.lt 2 3 (by omega) (by omega)⟩
theorem cor_out (t:Int):cor ps t outL = [(t*X 0,t*Y 0),(t*X 1,t*Y 0),(t*X 2,t*Y 0),(t*X 3,t*Y 0),(t*X 3,t*Y 1),(t*X 3,t*Y 2),(t*X 3,t*Y 3),(t*X 2,t*Y 3),(t*X 1,t*Y 3),(t*X 0,t*Y 3),(t*X 0,t*Y 2),(t*X 0,t*Y 1)] :=
 g_cor hT out_gring t
theorem cor_hol (t:Int):cor ps t holL = [(t*X 1,t*Y 1),(t*X 1,t*Y 2),(t*X 2,t*Y 2),(t*X 2,t*Y 1)] :=
 g_cor hT hol_gring t
theorem out_GR:GR ps 3 3 0 outL:=by
 obtain ⟨hx,hy⟩:=hx3 hT
 refine ⟨outV,rfl,out_gring,gring_ringK hT out_gring (by decide) (by decide) fun i hi=>?_,fun _=>?_,fun h=>absurd h (by decide)⟩
 ·have:=out_spike hx hy i hi
  rw [show ixs 3 outV=outL from rfl,cor_out hT]
  simpa only [Int.one_mul] using this
 ·rw [cor_out hT]
  have:=out_area hx hy
  simp only [Int.one_mul]
  exact this
theorem hol_GR:GR ps 3 3 1 holL:=by
 obtain ⟨hx,hy⟩:=hx3 hT
 refine ⟨holV,rfl,hol_gring,gring_ringK hT hol_gring (by decide) (by decide) fun i hi=>?_,fun h=>absurd h (by decide),fun _=>?_⟩
 ·have:=hol_spike hx hy i hi
  rw [show ixs 3 holV=holL from rfl,cor_hol hT]
  simpa only [Int.one_mul] using this
 ·rw [cor_hol hT]
  have:=hol_area hx hy
  simp only [Int.one_mul]
  exact this
theorem fil_GR:GR ps 3 3 0 filL:=face_GR hT (f:=⟨.q,1,1⟩) ⟨by decide,by decide⟩
/-- What lies strictly within the outer ring. -/
theorem out_in {p:Pt} (hp:Inn (2*X 0) (2*X 3) (2*Y 0) (2*Y 3) p):sideI (cor ps 2 outL) p=2∧placeI (cor ps 2 outL) p=2:=by
 obtain ⟨hx,hy⟩:=hx3 hT
 have h:=out_wind (x0:=2*X 0) (x1:=2*X 1) (x2:=2*X 2) (x3:=2*X 3) (y0:=2*Y 0) (y1:=2*Y 1) (y2:=2*Y 2) (y3:=2*Y 3) (by omega) hp
 rw [cor_out hT]
 exact ⟨sideI_in h.2 (by have:=h.1;simp only [List.length_cons,List.length_nil];rw [h.1];decide),place_in h.2 (by simp only [List.length_cons,List.length_nil];rw [h.1];decide)⟩
theorem gp3 (i k:Nat) (hi:i≤3) (hk:k≤3):gP ps (4*k+i)=(X i,Y k):=hT.at' i k hi hk
theorem gp_all:gP ps 0=(X 0,Y 0)∧gP ps 1=(X 1,Y 0)∧gP ps 2=(X 2,Y 0)∧gP ps 3=(X 3,Y 0)∧gP ps 4=(X 0,Y 1)∧gP ps 5=(X 1,Y 1)∧gP ps 6=(X 2,Y 1)∧gP ps 7=(X 3,Y 1)∧gP ps 8=(X 0,Y 2)∧gP ps 9=(X 1,Y 2)∧gP ps 10=(X 2,Y 2)∧gP ps 11=(X 3,Y 2)∧gP ps 12=(X 0,Y 3)∧gP ps 13=(X 1,Y 3)∧gP ps 14=(X 2,Y 3)∧gP ps 15=(X 3,Y 3) :=
 ⟨gp3 hT 0 0 (by omega) (by omega),gp3 hT 1 0 (by omega) (by omega),gp3 hT 2 0 (by omega) (by omega),gp3 hT 3 0 (by omega) (by omega),gp3 hT 0 1 (by omega) (by omega),gp3 hT 1 1 (by omega) (by omega),gp3 hT 2 1 (by omega) (by omega),gp3 hT 3 1 (by omega) (by omega),gp3 hT 0 2 (by omega) (by omega),gp3 hT 1 2 (by omega) (by omega),gp3 hT 2 2 (by omega) (by omega),gp3 hT 3 2 (by omega) (by omega),gp3 hT 0 3 (by omega) (by omega),gp3 hT 1 3 (by omega) (by omega),gp3 hT 2 3 (by omega) (by omega),gp3 hT 3 3 (by omega) (by omega)⟩
/-- Middles of the hole's edges lie within the outer ring. -/
theorem hol_mid {s:St} (hs:s∈stH):Inn (2*X 0) (2*X 3) (2*Y 0) (2*Y 3) (midP ps s):=by
 obtain ⟨hx,hy⟩:=hx3 hT
 obtain ⟨-,-,-,-,-,g5,g6,-,-,g9,g10,-⟩:=gp_all hT
 simp only [stH,List.mem_cons,List.mem_nil_iff,or_false] at hs
 rcases hs with rfl|rfl|rfl|rfl <;> simp only [midP,g5,g6,g9,g10,Inn] <;> omega
/-- No middle of face 0's edges lies within the filled hole. -/
theorem fil_mid {s:St} (hs:s∈stA++stH):sideI (cor ps 2 filL) (midP ps s)≠2:=by
 obtain ⟨hx,hy⟩:=hx3 hT
 obtain ⟨g0,g1,g2,g3,g4,g5,g6,g7,g8,g9,g10,g11,g12,g13,g14,g15⟩:=gp_all hT
 intro h
 have hp:Inn (2*X 1) (2*X 2) (2*Y 1) (2*Y 2) (midP ps s):=(face_in hT (f:=⟨.q,1,1⟩) ⟨by decide,by decide⟩ h).1
 simp only [Inn] at hp
 simp only [stA,stH,List.cons_append,List.nil_append,List.mem_cons,List.mem_nil_iff,or_false] at hs
 rcases hs with rfl|rfl|rfl|rfl|rfl|rfl|rfl|rfl|rfl|rfl|rfl|rfl|rfl|rfl|rfl|rfl <;> simp only [midP,g0,g1,g2,g3,g4,g5,g6,g7,g8,g9,g10,g11,g12,g13,g14,g15] at hp <;> omega
/-- Middles of the filled hole's edges lie on the hole. -/
theorem on_mid {s:St} (hs:s∈stB):sideI (cor ps 2 holL) (midP ps s)=1∧placeI (cor ps 2 holL) (midP ps s)=1:=by
 obtain ⟨hx,hy⟩:=hx3 hT
 obtain ⟨-,-,-,-,-,g5,g6,-,-,g9,g10,-⟩:=gp_all hT
 have K:∃ i,i<(cor ps 2 holL).length∧onE (rA (cor ps 2 holL) i) (rB (cor ps 2 holL) i) (midP ps s):=by
  rw [cor_hol hT]
  simp only [stB,List.mem_cons,List.mem_nil_iff,or_false] at hs
  rcases hs with rfl|rfl|rfl|rfl <;> simp only [midP,g5,g6,g9,g10]
  ·exact ⟨3,by simp,by simpa [rA,rB] using (on_h (x:=2*X 1) (x':=2*X 2) (y:=2*Y 1) (p:=(X 1+X 2,Y 1+Y 1)) (by omega) (by simp only;omega) (by simp only;omega) (by simp only;omega)).2⟩
  ·exact ⟨2,by simp,by simpa [rA,rB] using (on_v (x:=2*X 2) (y:=2*Y 1) (y':=2*Y 2) (p:=(X 2+X 2,Y 1+Y 2)) (by omega) (by simp only;omega) (by simp only;omega) (by simp only;omega)).2⟩
  ·exact ⟨1,by simp,by simpa [rA,rB] using (on_h (x:=2*X 1) (x':=2*X 2) (y:=2*Y 2) (p:=(X 2+X 1,Y 2+Y 2)) (by omega) (by simp only;omega) (by simp only;omega) (by simp only;omega)).1⟩
  ·exact ⟨0,by simp,by simpa [rA,rB] using (on_v (x:=2*X 1) (y:=2*Y 1) (y':=2*Y 2) (p:=(X 1+X 1,Y 2+Y 1)) (by omega) (by simp only;omega) (by simp only;omega) (by simp only;omega)).1⟩
 obtain ⟨i,hi,ho⟩:=K
 exact ⟨sideI_on hi ho,place_on hi ho⟩
end
theorem hole_GRs {c:CxV} {X Y:Nat→Int} (hT:Tab c.ps X Y 3 3) (hF:HoleFs c.fs):GRs c 3 3:=by
 intro j r hj hr
 obtain ⟨va,vh,hv,h|⟨vb,hw,h⟩⟩:=hF
 ·rw [h] at hj hr ⊢
  simp only [List.length_cons,List.length_nil] at hj
  obtain rfl:j=0:=by omega
  simp only [List.getD_cons_zero,FaV.ri,List.length_cons,List.length_nil] at hr ⊢
  rcases (show r=0∨r=1 by omega) with rfl|rfl
  ·exact out_GR hT
  ·exact hol_GR hT
 ·rw [h] at hj hr ⊢
  simp only [List.length_cons,List.length_nil] at hj
  rcases (show j=0∨j=1 by omega) with rfl|rfl
  ·simp only [List.getD_cons_zero,FaV.ri,List.length_cons,List.length_nil] at hr ⊢
   rcases (show r=0∨r=1 by omega) with rfl|rfl
   ·exact out_GR hT
   ·exact hol_GR hT
  ·simp only [List.getD_cons_zero,List.getD_cons_succ,FaV.ri,List.length_cons,List.length_nil] at hr ⊢
   obtain rfl:r=0:=by omega
   exact fil_GR hT
/-- Drafts with a hole are valid. -/
theorem hole_good {c:CxV} {X Y:Nat→Int} (hT:Tab c.ps X Y 3 3) (hF:HoleFs c.fs) (hfar:c.ps.any farB=false):cxBad c=false∧RG c:=by
 have hR:=hole_GRs hT hF
 have hl:c.ps.length=16:=hT.len
 obtain ⟨va,vh,hv,h|⟨vb,hw,h⟩⟩:=hF
 ·have e:stL c.fs=stA++stH:=by rw [h];exact stL_one _ _ _
  have hc:(3≤c.ps.length∧c.ps.length≤120)∧1≤c.fs.length∧c.fs.length≤64:=by rw [hl,h];simp
  have hh:∀ f∈c.fs,f.hs.length≤8:=by rw [h];intro f hf;simp only [List.mem_cons,List.mem_nil_iff,or_false] at hf;subst hf;simp
  have hk:((stL c.fs).map keyS).Nodup:=by rw [e];decide
  refine ⟨prog_good hT hR hc hh hfar hk ?_ ?_,ref_good hT hR hc hh hfar hk ?_ ?_⟩
  ·rw [e,List.any_eq_false]
   intro s hs
   rcases List.mem_append.1 hs with hs|hs
   ·have:s.r=0:=by simp only [stA,List.mem_cons,List.mem_nil_iff,or_false] at hs;rcases hs with rfl|rfl|rfl|rfl|rfl|rfl|rfl|rfl|rfl|rfl|rfl|rfl <;> rfl
    simp [holeBad,this]
   ·have hf:s.f=0∧s.r=1:=by simp only [stH,List.mem_cons,List.mem_nil_iff,or_false] at hs;rcases hs with rfl|rfl|rfl|rfl <;> exact ⟨rfl,rfl⟩
    have:=(out_in hT (hol_mid hT hs)).1
    rw [h,holeBad,hf.1,hf.2,withinB]
    simp [lessH,this]
  ·rw [e,List.any_eq_false]
   intro s hs
   have hf:s.f=0:=by simp only [stA,stH,List.cons_append,List.nil_append,List.mem_cons,List.mem_nil_iff,or_false] at hs;rcases hs with rfl|rfl|rfl|rfl|rfl|rfl|rfl|rfl|rfl|rfl|rfl|rfl|rfl|rfl|rfl|rfl <;> rfl
   rw [overBad,h]
   simp [overOne,hf]
  ·rw [e]
   intro s hs hr r hr' hne
   rcases List.mem_append.1 hs with hs|hs
   ·have:s.r=0:=by simp only [stA,List.mem_cons,List.mem_nil_iff,or_false] at hs;rcases hs with rfl|rfl|rfl|rfl|rfl|rfl|rfl|rfl|rfl|rfl|rfl|rfl <;> rfl
    exact absurd this hr
   ·have hf:s.f=0∧s.r=1:=by simp only [stH,List.mem_cons,List.mem_nil_iff,or_false] at hs;rcases hs with rfl|rfl|rfl|rfl <;> exact ⟨rfl,rfl⟩
    have:=(out_in hT (hol_mid hT hs)).2
    rw [h,hf.1] at hr' ⊢
    simp only [List.getD_cons_zero,FaV.ri,List.length_cons,List.length_nil] at hr' ⊢
    obtain rfl:r=0:=by omega
    simp [outB,this]
  ·rw [e]
   intro s hs j hj hne
   have hf:s.f=0:=by simp only [stA,stH,List.cons_append,List.nil_append,List.mem_cons,List.mem_nil_iff,or_false] at hs;rcases hs with rfl|rfl|rfl|rfl|rfl|rfl|rfl|rfl|rfl|rfl|rfl|rfl|rfl|rfl|rfl|rfl <;> rfl
   rw [h] at hj
   simp only [List.length_cons,List.length_nil] at hj
   omega
 ·have e:stL c.fs=stA++stH++stB:=by rw [h];exact stL_two _ _ _ _ _
  have hc:(3≤c.ps.length∧c.ps.length≤120)∧1≤c.fs.length∧c.fs.length≤64:=by rw [hl,h];simp
  have hh:∀ f∈c.fs,f.hs.length≤8:=by rw [h];intro f hf;simp only [List.mem_cons,List.mem_nil_iff,or_false] at hf;rcases hf with rfl|rfl <;> simp
  have hk:((stL c.fs).map keyS).Nodup:=by rw [e];decide
  have C:∀ s∈stL c.fs,(s∈stA∧s.f=0∧s.r=0)∨(s∈stH∧s.f=0∧s.r=1)∨(s∈stB∧s.f=1∧s.r=0):=by
   rw [e]
   intro s hs
   rcases List.mem_append.1 hs with hs|hs
   ·rcases List.mem_append.1 hs with hs|hs
    ·refine .inl ⟨hs,?_⟩
     simp only [stA,List.mem_cons,List.mem_nil_iff,or_false] at hs;rcases hs with rfl|rfl|rfl|rfl|rfl|rfl|rfl|rfl|rfl|rfl|rfl|rfl <;> exact ⟨rfl,rfl⟩
    ·refine .inr (.inl ⟨hs,?_⟩)
     simp only [stH,List.mem_cons,List.mem_nil_iff,or_false] at hs;rcases hs with rfl|rfl|rfl|rfl <;> exact ⟨rfl,rfl⟩
   ·refine .inr (.inr ⟨hs,?_⟩)
    simp only [stB,List.mem_cons,List.mem_nil_iff,or_false] at hs;rcases hs with rfl|rfl|rfl|rfl <;> exact ⟨rfl,rfl⟩
  refine ⟨prog_good hT hR hc hh hfar hk ?_ ?_,ref_good hT hR hc hh hfar hk ?_ ?_⟩
  ·rw [List.any_eq_false]
   intro s hs
   rcases C s hs with ⟨hs,f0',r0'⟩|⟨hs,f0',r0'⟩|⟨hs,f0',r0'⟩
   ·simp [holeBad,r0']
   ·have:=(out_in hT (hol_mid hT hs)).1
    rw [h,holeBad,f0',r0',withinB]
    simp [lessH,this]
   ·simp [holeBad,r0']
  ·rw [List.any_eq_false]
   intro s hs
   rcases C s hs with ⟨hs,f0',r0'⟩|⟨hs,f0',r0'⟩|⟨hs,f0',r0'⟩
   ·have:=fil_mid hT (List.mem_append_left stH hs)
    rw [overBad,h]
    simp [overOne,f0',withinB,List.range_succ,this]
   ·have:=fil_mid hT (List.mem_append_right stA hs)
    rw [overBad,h]
    simp [overOne,f0',withinB,List.range_succ,this]
   ·have:=(on_mid hT hs).1
    rw [overBad,h]
    simp [overOne,f0',withinB,List.range_succ,holeB,this]
  ·intro s hs hr r hr' hne
   rcases C s hs with ⟨hs,f0',r0'⟩|⟨hs,f0',r0'⟩|⟨hs,f0',r0'⟩
   ·exact absurd r0' hr
   ·have:=(out_in hT (hol_mid hT hs)).2
    rw [h,f0'] at hr' ⊢
    simp only [List.getD_cons_zero,FaV.ri,List.length_cons,List.length_nil] at hr' ⊢
    obtain rfl:r=0:=by omega
    simp [outB,this]
   ·exact absurd r0' hr
  ·intro s hs j hj hne
   rw [h] at hj ⊢
   simp only [List.length_cons,List.length_nil] at hj
   rcases C s hs with ⟨hs,f0',r0'⟩|⟨hs,f0',r0'⟩|⟨hs,f0',r0'⟩
   ·obtain rfl:j=1:=by omega
    have:=fil_mid hT (List.mem_append_left stH hs)
    exact ⟨0,by simp [FaV.ri],decide_eq_true (.inl ⟨rfl,fun q=>this (place_side q)⟩)⟩
   ·obtain rfl:j=1:=by omega
    have:=fil_mid hT (List.mem_append_right stA hs)
    exact ⟨0,by simp [FaV.ri],decide_eq_true (.inl ⟨rfl,fun q=>this (place_side q)⟩)⟩
   ·obtain rfl:j=0:=by omega
    have:=(on_mid hT hs).2
    exact ⟨1,by simp [FaV.ri],decide_eq_true (.inr ⟨by decide,fun q=>by
     have q':placeI (cor c.ps 2 holL) (midP c.ps s)=0:=q
     omega⟩)⟩
/-- Lines of a drafted table. -/
def xAt (ss:List Int):Nat→Int
 | 0=>0
 | i+1=>xAt ss i+1+num8 ss i % 5
def yAt (ss:List Int):Nat→Int
 | 0=>0
 | k+1=>yAt ss k+1+num8 ss (7+k) % 5
def rowP (ss:List Int) (k:Nat):Nat→List Pt
 | 0=>[]
 | i+1=>rowP ss k i ++ [(xAt ss i,yAt ss k)]
/-- Points of a drafted table: so many rows. -/
def ptsR (ss:List Int) (W:Nat):Nat→List Pt
 | 0=>[]
 | k+1=>ptsR ss W k++rowP ss k (W+1)
def cellG (cs:List Int) (W k i:Nat) (gs:List Fc):List Fc :=
 if num8 cs (k*W+i) % 8=0 then gs ++ [⟨.s,i,k⟩,⟨.t,i,k⟩] else if num8 cs (k*W+i) % 8=1 then (if gs = [] then [⟨.u,i,k⟩] else gs) else gs ++ [⟨.q,i,k⟩]
def rowG (cs:List Int) (W k:Nat) (gs:List Fc):Nat→List Fc
 | 0=>gs
 | i+1=>cellG cs W k i (rowG cs W k gs i)
/-- Faces of a drafted table: so many rows. -/
def allG (cs:List Int) (W:Nat):Nat→List Fc
 | 0=>[]
 | k+1=>rowG cs W k (allG cs W k) W
theorem xAt_lt (ss:List Int) {i j:Nat} (h:i<j):xAt ss i<xAt ss j:=by
 induction j with
 | zero=>omega
 | succ j ih =>
  have:=Int.emod_nonneg (num8 ss j) (show (5:Int)≠0 by decide)
  rw [xAt]
  rcases Nat.lt_or_eq_of_le (show i≤j by omega) with h|h
  ·have:=ih h;omega
  ·subst h;omega
theorem yAt_lt (ss:List Int) {i j:Nat} (h:i<j):yAt ss i<yAt ss j:=by
 induction j with
 | zero=>omega
 | succ j ih =>
  have:=Int.emod_nonneg (num8 ss (7+j)) (show (5:Int)≠0 by decide)
  rw [yAt]
  rcases Nat.lt_or_eq_of_le (show i≤j by omega) with h|h
  ·have:=ih h;omega
  ·subst h;omega
theorem xAt_bnd (ss:List Int):∀ i,0≤xAt ss i∧xAt ss i≤5*i
 | 0=>⟨Int.le_refl _,by simp [xAt]⟩
 | i+1=>by
  have:=xAt_bnd ss i
  have:=Int.emod_nonneg (num8 ss i) (show (5:Int)≠0 by decide)
  have:=Int.emod_lt_of_pos (num8 ss i) (show (0:Int)<5 by decide)
  rw [xAt];omega
theorem yAt_bnd (ss:List Int):∀ i,0≤yAt ss i∧yAt ss i≤5*i
 | 0=>⟨Int.le_refl _,by simp [yAt]⟩
 | i+1=>by
  have:=yAt_bnd ss i
  have:=Int.emod_nonneg (num8 ss (7+i)) (show (5:Int)≠0 by decide)
  have:=Int.emod_lt_of_pos (num8 ss (7+i)) (show (0:Int)<5 by decide)
  rw [yAt];omega
theorem rowP_len (ss:List Int) (k:Nat):∀ i,(rowP ss k i).length=i
 | 0=>rfl
 | i+1=>by rw [rowP,List.length_append,rowP_len ss k i];rfl
theorem ptsR_len (ss:List Int) (W:Nat):∀ k,(ptsR ss W k).length=(W+1)*k
 | 0=>rfl
 | k+1=>by rw [ptsR,List.length_append,ptsR_len ss W k,rowP_len,Nat.mul_succ]
theorem rowP_get (ss:List Int) (k:Nat) {j:Nat} : ∀ {i},j<i→(rowP ss k i).getD j (0,0)=(xAt ss j,yAt ss k)
 | 0,h=>by omega
 | i+1,h=>by
  rw [rowP,List.getD_eq_getElem?_getD]
  rcases Nat.lt_or_eq_of_le (show j≤i by omega) with h|rfl
  ·rw [List.getElem?_append_left (by rw [rowP_len];exact h),← List.getD_eq_getElem?_getD,rowP_get ss k h]
  ·rw [List.getElem?_append_right (by rw [rowP_len];omega),rowP_len,Nat.sub_self];rfl
theorem ptsR_get (ss:List Int) (W:Nat) {i k:Nat} (hi:i≤W):∀ {K},k<K→(ptsR ss W K).getD (ix W i k) (0,0)=(xAt ss i,yAt ss k)
 | 0,h=>by omega
 | K+1,h=>by
  rw [ptsR,List.getD_eq_getElem?_getD]
  rcases Nat.lt_or_eq_of_le (show k≤K by omega) with h|rfl
  ·rw [List.getElem?_append_left ?_,← List.getD_eq_getElem?_getD,ptsR_get ss W hi h]
   rw [ptsR_len]
   have h1:(W+1)*(k+1)≤(W+1)*K:=Nat.mul_le_mul_left _ h
   rw [Nat.mul_succ] at h1
   unfold ix;omega
  ·have e:ix W i k-(ptsR ss W k).length=i:=by rw [ptsR_len];unfold ix;omega
   rw [List.getElem?_append_right (by rw [ptsR_len];unfold ix;omega),e,← List.getD_eq_getElem?_getD,rowP_get ss k (by omega)]
theorem draft_tab (ss:List Int) (W H:Nat):Tab (ptsR ss W (H+1)) (xAt ss) (yAt ss) W H :=
 ⟨⟨fun i j h _=>xAt_lt ss h⟩,⟨fun i j h _=>yAt_lt ss h⟩,ptsR_len ss W (H+1),fun i k hi hk=>by unfold gP;exact ptsR_get ss W hi (by omega)⟩
theorem draft_far (ss:List Int) {W H:Nat} (hW:W≤4) (hH:H≤4):(ptsR ss W (H+1)).any farB=false:=by
 rw [List.any_eq_false]
 intro p hp
 obtain ⟨q,hq,rfl⟩:=List.getElem_of_mem hp
 rw [ptsR_len] at hq
 obtain ⟨a1,a2,a3⟩:=ix_eta (n:=W) (m:=H) (q:=q) (by omega)
 have e:=(draft_tab ss W H).at' _ _ a1 a2
 rw [a3] at e
 unfold gP at e
 rw [List.getD_eq_getElem?_getD,List.getElem?_eq_getElem (by rw [ptsR_len];omega)] at e
 simp only [Option.getD_some] at e
 rw [e]
 have b1:=xAt_bnd ss (q % (W+1))
 have b2:=yAt_bnd ss (q / (W+1))
 rw [Bool.not_eq_true,farB]
 refine decide_eq_false ?_
 simp only [gv]
 omega
theorem Conf.symm {a b:Fk} (h:Conf a b):Conf b a:=by
 rintro (⟨x,y⟩|⟨x,y⟩)
 ·exact h (.inr ⟨y,x⟩)
 ·exact h (.inl ⟨y,x⟩)
def Apart (a b:Fc):Prop:=¬ (a.i=b.i∧a.k=b.k∧Conf a.kd b.kd)
theorem tiles_of {gs:List Fc} {n m:Nat} (h1:∀ g∈gs,g.ok n m) (h2:gs.Pairwise Apart):Tiles gs n m:=by
 refine ⟨h1,fun j j' hj hj' hne=>?_⟩
 rw [List.pairwise_iff_getElem] at h2
 rw [List.getD_eq_getElem?_getD,List.getElem?_eq_getElem hj,List.getD_eq_getElem?_getD,List.getElem?_eq_getElem hj']
 simp only [Option.getD_some]
 rcases Nat.lt_or_gt_of_ne hne with h|h
 ·exact h2 j j' hj hj' h
 ·rintro ⟨a,b,c⟩
  exact h2 j' j hj' hj h ⟨a.symm,b.symm,c.symm⟩
/-- Faces of the cells ahead of one. -/
structure Ahd (gs:List Fc) (W H k i:Nat):Prop where
 ok:∀ g∈gs,g.ok W H
 at':∀ g∈gs,g.k<k∨g.k=k∧g.i<i
 pw:gs.Pairwise Apart
theorem Ahd.put {gs ns:List Fc} {W H k i:Nat} (h:Ahd gs W H k i) (hn:∀ g∈ns,g.i=i∧g.k=k) (hp:ns.Pairwise Apart) (hi:i<W) (hk:k<H):Ahd (gs++ns) W H k (i+1):=by
 refine ⟨fun g hg=>?_,fun g hg=>?_,List.pairwise_append.2 ⟨h.pw,hp,fun a ha b hb=>?_⟩⟩
 ·rcases List.mem_append.1 hg with hg|hg
  ·exact h.ok g hg
  ·obtain ⟨a,b⟩:=hn g hg;exact ⟨by omega,by omega⟩
 ·rcases List.mem_append.1 hg with hg|hg
  ·have:=h.at' g hg;omega
  ·obtain ⟨a,b⟩:=hn g hg;omega
 ·rintro ⟨c,d,-⟩
  have:=h.at' a ha
  obtain ⟨e,f⟩:=hn b hb
  omega
theorem Ahd.cell {gs:List Fc} {W H k i:Nat} (cs:List Int) (h:Ahd gs W H k i) (hi:i<W) (hk:k<H):Ahd (cellG cs W k i gs) W H k (i+1):=by
 unfold cellG
 split
 ·exact h.put (fun g hg=>by simp only [List.mem_cons,List.mem_nil_iff,or_false] at hg;rcases hg with rfl|rfl <;> exact ⟨rfl,rfl⟩) (by simp [Apart,Conf]) hi hk
 ·split
  ·split
   ·exact (show ([]:List Fc) ++ [⟨.u,i,k⟩] = [⟨.u,i,k⟩] from rfl)▸(Ahd.put (gs:=[]) ⟨by simp,by simp,by simp⟩ (fun g hg=>by simp only [List.mem_cons,List.mem_nil_iff,or_false] at hg;subst hg;exact ⟨rfl,rfl⟩) (by simp) hi hk)
   ·exact ⟨h.ok,fun g hg=>by have:=h.at' g hg;omega,h.pw⟩
  ·exact h.put (fun g hg=>by simp only [List.mem_cons,List.mem_nil_iff,or_false] at hg;subst hg;exact ⟨rfl,rfl⟩) (by simp) hi hk
theorem Ahd.row {gs:List Fc} {W H k:Nat} (cs:List Int) (h:Ahd gs W H k 0) (hk:k<H):∀ {i},i≤W→Ahd (rowG cs W k gs i) W H k i
 | 0,_=>h
 | i+1,hi=>(Ahd.row cs h hk (by omega)).cell cs (by omega) hk
theorem Ahd.all {W H:Nat} (cs:List Int):∀ {k},k≤H→Ahd (allG cs W k) W H k 0
 | 0,_=>⟨by simp [allG],by simp [allG],by simp [allG]⟩
 | k+1,hk=>by
  have h:=(Ahd.all (W:=W) cs (show k≤H by omega)).row cs (by omega) (Nat.le_refl W)
  exact ⟨h.ok,fun g hg=>by have:=h.at' g hg;omega,h.pw⟩
theorem cellG_len (cs:List Int) (W k i:Nat) (gs:List Fc):1≤(cellG cs W k i gs).length∧(cellG cs W k i gs).length≤gs.length+2∧gs.length≤(cellG cs W k i gs).length:=by
 unfold cellG
 split
 ·simp
 ·split
  ·split
   ·rename_i h;subst h;simp
   ·rename_i h
    have:0<gs.length:=List.length_pos_iff.2 h
    omega
  ·simp
theorem rowG_len (cs:List Int) (W k:Nat) (gs:List Fc):∀ i,(0<i→1≤(rowG cs W k gs i).length)∧(rowG cs W k gs i).length≤gs.length+2*i∧gs.length≤(rowG cs W k gs i).length
 | 0=>⟨fun h=>absurd h (by decide),by simp [rowG],by simp [rowG]⟩
 | i+1=>by
  have h1:=rowG_len cs W k gs i
  have h2:=cellG_len cs W k i (rowG cs W k gs i)
  rw [rowG];omega
theorem allG_len (cs:List Int) (W:Nat) (hW:0<W):∀ k,(0<k→1≤(allG cs W k).length)∧(allG cs W k).length≤2*W*k
 | 0=>⟨fun h=>absurd h (by decide),by simp [allG]⟩
 | k+1=>by
  have h1:=allG_len cs W hW k
  have h2:=rowG_len cs W k (allG cs W k) W
  rw [allG,Nat.mul_succ]
  exact ⟨fun _=>h2.1 hW,by omega⟩
theorem draft_tiles (cs:List Int) (W H:Nat):Tiles (allG cs W H) W H:=tiles_of (Ahd.all cs (Nat.le_refl H)).ok (Ahd.all cs (Nat.le_refl H)).pw
theorem take_getD {α:Type} {l:List α} {m j:Nat} {d:α} (h:j<m):(l.take m).getD j d=l.getD j d:=by
 rw [List.getD_eq_getElem?_getD,List.getElem?_take,if_pos h,List.getD_eq_getElem?_getD]
theorem Match.take {fs:List FaV} {gs:List Fc} {n m:Nat} (h:Match fs gs n):Match (fs.take m) (gs.take m) n:=by
 refine ⟨by rw [List.length_take,List.length_take,h.len],fun j hj=>?_⟩
 rw [List.length_take] at hj
 rw [take_getD (by omega),take_getD (by omega)]
 exact h.at' j (by omega)
theorem Tiles.take {gs:List Fc} {n m M:Nat} (h:Tiles gs n m):Tiles (gs.take M) n m:=by
 refine ⟨fun g hg=>h.ok g (List.mem_of_mem_take hg),fun j j' hj hj' hne=>?_⟩
 rw [List.length_take] at hj hj'
 rw [take_getD (by omega),take_getD (by omega)]
 exact h.apart j j' (by omega) (by omega) hne
/-- A drafted complex. -/
def DC (c:CxV) (W H:Nat) (ho:Bool) (ss cs:List Int):Prop:=c.ps=ptsR ss W (H+1)∧(ho=true∧W=3∧H=3∧HoleFs c.fs∨ho=false∧Match c.fs (allG cs W H) W)
/-- Drafted complexes, and the first faces of them, are valid. -/
theorem draft_good {c:CxV} {W H:Nat} {ho:Bool} {ss cs:List Int} (h:DC c W H ho ss cs) (hW:1≤W∧W≤4) (hH:1≤H∧H≤3) (m:Nat) (hm:1≤m):cxBad ⟨c.pv,c.ps,c.fv,c.fs.take m⟩=false∧RG ⟨c.pv,c.ps,c.fv,c.fs.take m⟩:=by
 obtain ⟨hp,h⟩:=h
 have hT:Tab c.ps (xAt ss) (yAt ss) W H:=by rw [hp];exact draft_tab ss W H
 have hf:c.ps.any farB=false:=by rw [hp];exact draft_far ss hW.2 (by omega)
 rcases h with ⟨-,rfl,rfl,h⟩|⟨-,h⟩
 ·refine hole_good (c:=⟨c.pv,c.ps,c.fv,c.fs.take m⟩) hT ?_ hf
  obtain ⟨va,vh,hv,e|⟨vb,hw,e⟩⟩:=h
  ·refine ⟨va,vh,hv,.inl ?_⟩
   simp only [e];rw [List.take_of_length_le (by simp;omega)]
  ·refine ⟨va,vh,hv,?_⟩
   rcases (show m=1∨2≤m by omega) with rfl|h2
   ·left;simp only [e];rfl
   ·right;refine ⟨vb,hw,?_⟩
    simp only [e];rw [List.take_of_length_le (by simp;omega)]
 ·have hG:=(draft_tiles cs W H).take (M:=m)
  have hM:=h.take (m:=m)
  have hl:=allG_len cs W (by omega) H
  have hWH:W*H≤4*3:=Nat.mul_le_mul hW.2 hH.2
  have e1:2*W*H=2*(W*H):=Nat.mul_assoc _ _ _
  have h1:1≤((allG cs W H).take m).length:=by rw [List.length_take];have:=hl.1 (by omega);omega
  have h2:((allG cs W H).take m).length≤64:=by rw [List.length_take];omega
  have hL:c.ps.length=(W+1)*(H+1):=hT.len
  have p1:2*2≤(W+1)*(H+1):=Nat.mul_le_mul (by omega) (by omega)
  have p2:(W+1)*(H+1)≤5*4:=Nat.mul_le_mul (by omega) (by omega)
  exact ⟨cx_good (c:=⟨c.pv,c.ps,c.fv,c.fs.take m⟩) hT hM hG (by simp only;omega) (by simp only;omega) h1 h2 hf (tab_nodup hT),cx_goodR (c:=⟨c.pv,c.ps,c.fv,c.fs.take m⟩) hT hM hG (by simp only;omega) (by simp only;omega) h1 h2 hf⟩
end Geo
open Go Go.E

attribute [local irreducible] Go.E.ObX
theorem fwd_bnd {a b c:Pt} (ha:Nr a) (hb:Nr b) (hc:Nr c):(-256000000000000≤(b.1-a.1)*(c.1-b.1)∧(b.1-a.1)*(c.1-b.1)≤256000000000000) ∧ -256000000000000≤(b.2-a.2)*(c.2-b.2)∧(b.2-a.2)*(c.2-b.2)≤256000000000000:=by
 unfold Nr at ha hb hc
 exact ⟨mul_near (by omega),mul_near (by omega)⟩
theorem sgn_pos {x:Int} (h:0<x):sgn x=1:=by unfold sgn;rw [if_neg (by omega),if_pos h]
theorem sgn_nneg {x:Int} (h:x<0):sgn x = -1:=by unfold sgn;rw [if_pos h]
theorem sgn_nul {x:Int} (h:¬ 0<x) (h':¬ x<0):sgn x=0:=by unfold sgn;rw [if_neg h',if_neg h]
theorem sgn_mul (x y:Int) : -1≤sgn x*sgn y∧sgn x*sgn y≤1:=by
 unfold sgn
 split <;> split <;> (try split) <;> (try split) <;> simp
theorem rFar_calls (p:Pt) (w:World) :
  Calls Tryz.prog 217 #[pV p] w (Ret fun v w'=>v = .bool (farB p)∧Ext w w'):=by
 refine T.enter (vs:=[pV p]) func217 rfl ntmps217 rfl ?_
 refine T.q (L.o (O.box rfl (fun b1 w1 hb1 hz1 he1 hB1=>?_)))
 have hB1':Blk w1 b1 (pC p) 124:=hB1
 refine L.a rfl (L.nil (T.q (L.o (O.fieldAddr runUnderlying124 rfl sizeOf3 rfl (L.o (O.load isAgg3 rfl (hB1'.cell rfl) (L.o (O.lss_s rfl rfl (fun h1=>?_) (fun h1=>?_)))))))))
 ·refine L.m rfl (L.p (L.p (L.p (L.o (O.pick_true rfl rfl (L.m rfl (L.p (L.p (L.p (L.o (O.pick_true rfl rfl (L.m rfl (L.p (L.p (L.p (L.o (O.pick_true rfl rfl (L.a rfl (L.nil (T.ret1 results217 rfl ⟨by unfold farB;rw [decide_eq_true (.inl h1)],he1⟩))))))))))))))))))))
 ·refine L.m rfl (L.o (O.fieldAddr runUnderlying124 rfl sizeOf3 rfl (L.o (O.load isAgg3 rfl (hB1'.cell rfl) (L.o (O.gtr_s rfl rfl (fun h2=>?_) (fun h2=>?_)))))))
  ·refine L.o (O.pick_false rfl rfl (L.m rfl (L.p (L.p (L.p (L.o (O.pick_true rfl rfl (L.m rfl (L.p (L.p (L.p (L.o (O.pick_true rfl rfl (L.a rfl (L.nil (T.ret1 results217 rfl ⟨by unfold farB;rw [decide_eq_true (.inr (.inl h2))],he1⟩))))))))))))))))
  ·refine L.o (O.pick_false rfl rfl (L.m rfl (L.o (O.fieldAddr runUnderlying124 rfl sizeOf3 rfl (L.o (O.load isAgg3 rfl (hB1'.cell rfl) (L.o (O.lss_s rfl rfl (fun h3=>?_) (fun h3=>?_)))))))))
   ·refine L.o (O.pick_false rfl rfl (L.m rfl (L.p (L.p (L.p (L.o (O.pick_true rfl rfl (L.a rfl (L.nil (T.ret1 results217 rfl ⟨by unfold farB;rw [decide_eq_true (.inr (.inr (.inl h3)))],he1⟩))))))))))
   ·refine L.o (O.pick_false rfl rfl (L.m rfl (L.o (O.fieldAddr runUnderlying124 rfl sizeOf3 rfl (L.o (O.load isAgg3 rfl (hB1'.cell rfl) (L.o (O.gtr rfl rfl (L.o (O.pick_false rfl rfl (L.a rfl (L.nil (T.ret1 results217 rfl ⟨congrArg Value.bool (decide_eq_decide.2 (by omega)),he1⟩)))))))))))))

theorem rTurn_calls (a b c:Pt) (w:World) (ha:Nr a) (hb:Nr b) (hc:Nr c) :
  Calls Tryz.prog 255 #[pV a,pV b,pV c] w (Ret fun v w'=>v = .int .i64 (turnD a b c)∧Ext w w'):=by
 unfold Nr at ha hb hc
 refine T.enter (vs:=[pV a,pV b,pV c]) func255 rfl ntmps255 rfl ?_
 refine T.q (L.o (O.box rfl (fun b3 w3 hb3 hz3 he3 hB3=>?_)))
 refine L.o (O.box rfl (fun b4 w4 hb4 hz4 he4 hB4=>?_))
 refine L.o (O.box rfl (fun b5 w5 hb5 hz5 he5 hB5=>?_))
 have hA:Blk w5 b3 (pC a) 124:=Blk.ext (cs:=pC a) (Blk.ext (cs:=pC a) hB3 he4) he5
 have hB:Blk w5 b4 (pC b) 124:=Blk.ext (cs:=pC b) hB4 he5
 have hC:Blk w5 b5 (pC c) 124:=hB5
 have h1:=mul_near (x:=b.1-a.1) (y:=c.2-a.2) (by omega)
 have h2:=mul_near (x:=b.2-a.2) (y:=c.1-a.1) (by omega)
 refine L.a rfl (L.nil (T.q (L.o (O.fieldAddr runUnderlying124 rfl sizeOf3 rfl (L.o (O.load isAgg3 rfl (hB.cell rfl) (L.o (O.fieldAddr runUnderlying124 rfl sizeOf3 rfl (L.o (O.load isAgg3 rfl (hA.cell rfl) (L.o (O.sub64 rfl rfl (by omega) (L.o (O.fieldAddr runUnderlying124 rfl sizeOf3 rfl (L.o (O.load isAgg3 rfl (hC.cell rfl) (L.o (O.fieldAddr runUnderlying124 rfl sizeOf3 rfl (L.o (O.load isAgg3 rfl (hA.cell rfl) (L.o (O.sub64 rfl rfl (by omega) (L.o (O.mul64 rfl rfl (by omega) (L.o (O.fieldAddr runUnderlying124 rfl sizeOf3 rfl (L.o (O.load isAgg3 rfl (hB.cell rfl) (L.o (O.fieldAddr runUnderlying124 rfl sizeOf3 rfl (L.o (O.load isAgg3 rfl (hA.cell rfl) (L.o (O.sub64 rfl rfl (by omega) (L.o (O.fieldAddr runUnderlying124 rfl sizeOf3 rfl (L.o (O.load isAgg3 rfl (hC.cell rfl) (L.o (O.fieldAddr runUnderlying124 rfl sizeOf3 rfl (L.o (O.load isAgg3 rfl (hA.cell rfl) (?_)))))))))))))))))))))))))))))))))))))))))))
 refine L.o (O.sub64 rfl rfl (by omega) (L.o (O.mul64 rfl rfl (by omega) (L.o (O.sub64 rfl rfl (by omega) (L.a rfl (L.nil (T.ret1 results255 rfl ⟨rfl,(he3.trans he4).trans he5⟩))))))))

theorem rSign_calls (x:Int) (w:World) :
  Calls Tryz.prog 267 #[.int .i64 x] w (Ret fun v w'=>v = .int .i64 (sgn x)∧w'=w):=by
 refine T.enter (vs:=[.int .i64 x]) func267 rfl ntmps267 rfl ?_
 refine T.q (L.a rfl (L.nil (T.seq (T.q (L.m rfl (L.o (O.gtr_s rfl rfl (fun h1=>?_) (fun h1=>?_))))))))
 ·refine L.nil (T.ct (T.q (L.a rfl (L.nil (T.ret1 results267 rfl ⟨by rw [sgn_pos h1],rfl⟩)))))
 ·refine L.nil (T.cf (T.skip (T.seq (T.q (L.m rfl (L.o (O.lss_s rfl rfl (fun h2=>?_) (fun h2=>?_))))))))
  ·refine L.nil (T.ct (T.q (L.a rfl (L.nil (T.ret1 results267 rfl ⟨by rw [sgn_nneg h2],rfl⟩)))))
  ·refine L.nil (T.cf (T.skip (T.q (L.a rfl (L.nil (T.ret1 results267 rfl ⟨by rw [sgn_nul h1 h2],rfl⟩))))))

theorem rFwd_calls (a b c:Pt) (w:World) (ha:Nr a) (hb:Nr b) (hc:Nr c) :
  Calls Tryz.prog 272 #[pV a,pV b,pV c] w (Ret fun v w'=>v = .int .i64 (fwd a b c)∧Ext w w'):=by
 have h12:=fwd_bnd ha hb hc
 unfold Nr at ha hb hc
 refine T.enter (vs:=[pV a,pV b,pV c]) func272 rfl ntmps272 rfl ?_
 refine T.q (L.o (O.box rfl (fun b3 w3 hb3 hz3 he3 hB3=>?_)))
 refine L.o (O.box rfl (fun b4 w4 hb4 hz4 he4 hB4=>?_))
 refine L.o (O.box rfl (fun b5 w5 hb5 hz5 he5 hB5=>?_))
 have hA:Blk w5 b3 (pC a) 124:=Blk.ext (cs:=pC a) (Blk.ext (cs:=pC a) hB3 he4) he5
 have hB:Blk w5 b4 (pC b) 124:=Blk.ext (cs:=pC b) hB4 he5
 have hC:Blk w5 b5 (pC c) 124:=hB5
 refine L.a rfl (L.nil (T.q (L.o (O.fieldAddr runUnderlying124 rfl sizeOf3 rfl (L.o (O.load isAgg3 rfl (hB.cell rfl) (L.o (O.fieldAddr runUnderlying124 rfl sizeOf3 rfl (L.o (O.load isAgg3 rfl (hA.cell rfl) (L.o (O.sub64 rfl rfl (by omega) (L.o (O.fieldAddr runUnderlying124 rfl sizeOf3 rfl (L.o (O.load isAgg3 rfl (hC.cell rfl) (L.o (O.fieldAddr runUnderlying124 rfl sizeOf3 rfl (L.o (O.load isAgg3 rfl (hB.cell rfl) (L.o (O.sub64 rfl rfl (by omega) (L.o (O.mul64 rfl rfl (by omega) (L.o (O.fieldAddr runUnderlying124 rfl sizeOf3 rfl (L.o (O.load isAgg3 rfl (hB.cell rfl) (L.o (O.fieldAddr runUnderlying124 rfl sizeOf3 rfl (L.o (O.load isAgg3 rfl (hA.cell rfl) (L.o (O.sub64 rfl rfl (by omega) (L.o (O.fieldAddr runUnderlying124 rfl sizeOf3 rfl (L.o (O.load isAgg3 rfl (hC.cell rfl) (L.o (O.fieldAddr runUnderlying124 rfl sizeOf3 rfl (L.o (O.load isAgg3 rfl (hB.cell rfl) (?_)))))))))))))))))))))))))))))))))))))))))))
 refine L.o (O.sub64 rfl rfl (by omega) (L.o (O.mul64 rfl rfl (by omega) (L.o (O.add64 rfl rfl (by omega) (L.a rfl (L.nil (T.ret1 results272 rfl ⟨rfl,(he3.trans he4).trans he5⟩))))))))

theorem rBetween_calls (a b p:Pt) (w:World) (ha:Nr a) (hb:Nr b) (hp:Nr p) :
  Calls Tryz.prog 254 #[pV a,pV b,pV p] w (Ret fun v w'=>v = .bool (decide (onE a b p))∧Ext w w'):=by
 refine T.enter (vs:=[pV a,pV b,pV p]) func254 rfl ntmps254 rfl ?_
 refine T.q (L.o (O.box rfl (fun b3 w3 hb3 hz3 he3 hB3=>?_)))
 refine L.o (O.box rfl (fun b4 w4 hb4 hz4 he4 hB4=>?_))
 refine L.o (O.box rfl (fun b5 w5 hb5 hz5 he5 hB5=>?_))
 have hA:Blk w5 b3 (pC a) 124:=Blk.ext (cs:=pC a) (Blk.ext (cs:=pC a) hB3 he4) he5
 have hB:Blk w5 b4 (pC b) 124:=Blk.ext (cs:=pC b) hB4 he5
 have hP:Blk w5 b5 (pC p) 124:=hB5
 have he05:=(he3.trans he4).trans he5
 refine L.a rfl (L.nil (T.seq (T.q (L.o (O.loadAgg isAgg124 sizeOf124 rfl rfl hA.row (L.o (O.loadAgg isAgg124 sizeOf124 rfl rfl hB.row (L.o (O.loadAgg isAgg124 sizeOf124 rfl rfl hP.row (L.o (O.call (xs:=[.tmp 7,.tmp 8,.tmp 9]) call255 rfl rfl (rTurn_calls a b p w5 ha hb hp) (fun v6 w6 hq=>?_))))))))))))
 obtain ⟨rfl,he6⟩:=hq
 have hA6:=Blk.ext (cs:=pC a) hA he6
 have hB6:=Blk.ext (cs:=pC b) hB he6
 have hP6:=Blk.ext (cs:=pC p) hP he6
 have he06:=he05.trans he6
 refine L.o (O.neq_s rfl rfl (fun h0=>?_) (fun h0=>?_))
 ·refine L.nil (T.ct (T.q (L.a rfl (L.nil (T.ret1 results254 rfl ⟨by rw [decide_eq_false (fun h=>h0 h.1)],he06⟩)))))
 ·refine L.nil (T.cf (T.skip (T.q (L.o (O.fieldAddr runUnderlying124 rfl sizeOf3 rfl (L.o (O.load isAgg3 rfl (hA6.cell rfl) (L.o (O.fieldAddr runUnderlying124 rfl sizeOf3 rfl (L.o (O.load isAgg3 rfl (hB6.cell rfl) (L.o (O.min rfl rfl (L.o (O.fieldAddr runUnderlying124 rfl sizeOf3 rfl (L.o (O.load isAgg3 rfl (hP6.cell rfl) (L.o (O.leq_s rfl rfl (fun h1=>?_) (fun h1=>?_))))))))))))))))))))
  ·refine L.m rfl (L.o (O.fieldAddr runUnderlying124 rfl sizeOf3 rfl (L.o (O.load isAgg3 rfl (hP6.cell rfl) (L.o (O.fieldAddr runUnderlying124 rfl sizeOf3 rfl (L.o (O.load isAgg3 rfl (hA6.cell rfl) (L.o (O.fieldAddr runUnderlying124 rfl sizeOf3 rfl (L.o (O.load isAgg3 rfl (hB6.cell rfl) (L.o (O.max rfl rfl (L.o (O.leq_s rfl rfl (fun h2=>?_) (fun h2=>?_)))))))))))))))))
   ·refine L.o (O.pick_true rfl rfl (L.m rfl (L.o (O.fieldAddr runUnderlying124 rfl sizeOf3 rfl (L.o (O.load isAgg3 rfl (hA6.cell rfl) (L.o (O.fieldAddr runUnderlying124 rfl sizeOf3 rfl (L.o (O.load isAgg3 rfl (hB6.cell rfl) (L.o (O.min rfl rfl (L.o (O.fieldAddr runUnderlying124 rfl sizeOf3 rfl (L.o (O.load isAgg3 rfl (hP6.cell rfl) (L.o (O.leq_s rfl rfl (fun h3=>?_) (fun h3=>?_)))))))))))))))))))
    ·refine L.o (O.pick_true rfl rfl (L.m rfl (L.o (O.fieldAddr runUnderlying124 rfl sizeOf3 rfl (L.o (O.load isAgg3 rfl (hP6.cell rfl) (L.o (O.fieldAddr runUnderlying124 rfl sizeOf3 rfl (L.o (O.load isAgg3 rfl (hA6.cell rfl) (L.o (O.fieldAddr runUnderlying124 rfl sizeOf3 rfl (L.o (O.load isAgg3 rfl (hB6.cell rfl) (L.o (O.max rfl rfl (L.o (O.leq rfl rfl (L.o (O.pick_true rfl rfl (L.a rfl (L.nil (T.ret1 results254 rfl ⟨congrArg Value.bool (decide_eq_decide.2 ⟨fun h=>⟨h0,h1,h2,h3,h⟩,fun h=>h.2.2.2.2⟩),he06⟩)))))))))))))))))))))))
    ·refine L.o (O.pick_true rfl rfl (L.m rfl (L.p (L.p (L.p (L.p (L.p (L.p (L.p (L.p (L.o (O.pick_false rfl rfl (L.a rfl (L.nil (T.ret1 results254 rfl ⟨by rw [decide_eq_false (fun h=>h3 h.2.2.2.1)],he06⟩)))))))))))))))
   ·refine L.o (O.pick_true rfl rfl (L.m rfl (L.p (L.p (L.p (L.p (L.p (L.p (L.p (L.p (L.o (O.pick_false rfl rfl (L.m rfl (L.p (L.p (L.p (L.p (L.p (L.p (L.p (L.p (L.o (O.pick_false rfl rfl (L.a rfl (L.nil (T.ret1 results254 rfl ⟨by rw [decide_eq_false (fun h=>h2 h.2.2.1)],he06⟩))))))))))))))))))))))))))
  ·refine L.m rfl (L.p (L.p (L.p (L.p (L.p (L.p (L.p (L.p (L.o (O.pick_false rfl rfl (L.m rfl (L.p (L.p (L.p (L.p (L.p (L.p (L.p (L.p (L.o (O.pick_false rfl rfl (L.m rfl (L.p (L.p (L.p (?_))))))))))))))))))))))))))
   refine L.p (L.p (L.p (L.p (L.p (L.o (O.pick_false rfl rfl (L.a rfl (L.nil (T.ret1 results254 rfl ⟨by rw [decide_eq_false (fun h=>h1 h.2.1)],he06⟩)))))))))

theorem rAt_calls (lo:Nat) (q:Value) (r:List Pt) (i:Nat) (w:World) (hq:Pts lo w q r) (h0:0<r.length) (hlen:r.length≤1000000) (hi:i≤4000000) :
  Calls Tryz.prog 253 #[q,.int .i64 i] w (Ret fun v w'=>v=pV (r.getD (i % r.length) (0,0))∧Ext w w'):=by
 have hm:i % r.length<r.length:=Nat.mod_lt _ h0
 have hmi:(i:Int) % (r.length:Int)=((i % r.length:Nat):Int):=rfl
 refine T.enter (vs:=[q,.int .i64 i]) func253 rfl ntmps253 rfl ?_
 refine T.q (L.o (O.alloc zeroValue124 (fun b2 w2 hb2 hz2 he2 hB2=>?_)))
 have hq2:=hq.ext he2
 refine L.nil (T.q (L.m rfl (L.m rfl (L.m rfl (L.o (O.len runUnderlying237 rfl (Sl.val hq2) (L.o (O.rem rfl rfl (by omega) (by omega) (?_)))))))))
 rw [hmi]
 refine L.o (O.indexAddr runUnderlying237 sizeOf124 rfl rfl hq2 (by omega) (by omega) (L.o (O.loadAgg isAgg124 sizeOf124 rfl rfl (hq2.row hm) (L.o (O.storeAgg sizeOf124 rfl rfl rfl hB2 (Nat.le_refl _) (pC_one _) (fun w3 hu3 hB3=>?_))))))
 have hX3:Blk w3 b2 (pC (r.getD (i % r.length) (0,0))) 124:=hB3
 refine L.nil (T.retA results253 isAgg124 sizeOf124 rfl rfl hX3.row ⟨rfl,he2.upd hu3 (.inr (by omega))⟩)

open Go Go.E

open Geo (howI lowI crsB parTo placeI)
def lowX (a b c d:Pt):Int:=mx (mn a.1 b.1) (mn c.1 d.1)-mn (mx a.1 b.1) (mx c.1 d.1)
def lowY (a b c d:Pt):Int:=mx (mn a.2 b.2) (mn c.2 d.2)-mn (mx a.2 b.2) (mx c.2 d.2)
theorem low_eq (a b c d:Pt):lowI a b c d=if a.1=b.1 then lowY a b c d else lowX a b c d:=rfl
theorem mm_bnd {a b c d B:Int} (ha : -B≤a∧a≤B) (hb : -B≤b∧b≤B) (hc : -B≤c∧c≤B) (hd : -B≤d∧d≤B):(-B≤mx (mn a b) (mn c d)∧mx (mn a b) (mn c d)≤B) ∧ -B≤mn (mx a b) (mx c d)∧mn (mx a b) (mx c d)≤B:=by
 unfold mx mn
 repeat' split
 all_goals omega
theorem how_0 {a b c d:Pt} (h1:sgn (turnD a b c)=0) (h2:sgn (turnD a b d)=0):howI a b c d=if 0<lowI a b c d then 0 else if lowI a b c d=0 then 1 else 3:=by unfold Geo.howI;rw [if_pos ⟨h1,h2⟩]
theorem how_2 {a b c d:Pt} (h1:¬ (sgn (turnD a b c)=0∧sgn (turnD a b d)=0)) (h2:sgn (turnD a b c)*sgn (turnD a b d)<0) (h3:sgn (turnD c d a)*sgn (turnD c d b)<0):howI a b c d=2:=by unfold Geo.howI;rw [if_neg h1,if_pos ⟨h2,h3⟩]
theorem how_1 {a b c d:Pt} (h1:¬ (sgn (turnD a b c)=0∧sgn (turnD a b d)=0)) (h2:¬ (sgn (turnD a b c)*sgn (turnD a b d)<0∧sgn (turnD c d a)*sgn (turnD c d b)<0)) (h3:onE a b c∨onE a b d∨onE c d a∨onE c d b):howI a b c d=1:=by unfold Geo.howI;rw [if_neg h1,if_neg h2,if_pos h3]
theorem how_n {a b c d:Pt} (h1:¬ (sgn (turnD a b c)=0∧sgn (turnD a b d)=0)) (h2:¬ (sgn (turnD a b c)*sgn (turnD a b d)<0∧sgn (turnD c d a)*sgn (turnD c d b)<0)) (h3:¬ (onE a b c∨onE a b d∨onE c d a∨onE c d b)):howI a b c d=0:=by unfold Geo.howI;rw [if_neg h1,if_neg h2,if_neg h3]
set_option maxHeartbeats 4000000 in
theorem rHow_calls (a b c d:Pt) (w:World) (ha:Nr a) (hb:Nr b) (hc:Nr c) (hd:Nr d) :
  Calls Tryz.prog 252 #[pV a,pV b,pV c,pV d] w (Ret fun v w'=>v = .int .i64 (howI a b c d)∧Ext w w'):=by
 refine T.enter (vs:=[pV a,pV b,pV c,pV d]) func252 rfl ntmps252 rfl ?_
 refine T.q (L.o (O.box rfl (fun b4 w4 hb4 hz4 he4 hB4=>?_)))
 refine L.o (O.box rfl (fun b5 w5 hb5 hz5 he5 hB5=>?_))
 refine L.o (O.box rfl (fun b6 w6 hb6 hz6 he6 hB6=>?_))
 refine L.o (O.box rfl (fun b7 w7 hb7 hz7 he7 hB7=>?_))
 have hA:Blk w7 b4 (pC a) 124:=Blk.ext (cs:=pC a) (Blk.ext (cs:=pC a) (Blk.ext (cs:=pC a) hB4 he5) he6) he7
 have hB:Blk w7 b5 (pC b) 124:=Blk.ext (cs:=pC b) (Blk.ext (cs:=pC b) hB5 he6) he7
 have hC:Blk w7 b6 (pC c) 124:=Blk.ext (cs:=pC c) hB6 he7
 have hD:Blk w7 b7 (pC d) 124:=hB7
 have he07:=((he4.trans he5).trans he6).trans he7
 refine L.a rfl (L.nil (T.seq (?_)))
 refine T.anyE mixed 8 [4,5,6,7] rfl [.is _,.is _,.is _,.is (.int .i64 (turnD a b c)),.is (.int .i64 (sgn (turnD a b c))),.is _,.is _,.is _] [[],[],[],[0,1,2],[3],[],[],[]] [[],[],[],[0,1,2],[0,1,2,3],[],[],[],[0,1,2,3,4,5,6,7],[0,1,2,3,4,5,6,7,8],[0,1,2,3,4,5,6,7,8,9],[0,1,2,3,4,5,6,7,8,9,10]] (by kernel_rfl) (by kernel_rfl) rfl (by kernel_rfl) trivial ⟨fun wx hx=>Ob.o (O.loadAgg isAgg124 sizeOf124 rfl rfl ((Blk.ext (cs:=pC a) hA hx).row) kR),
   fun wx hx=>Ob.o (O.loadAgg isAgg124 sizeOf124 rfl rfl ((Blk.ext (cs:=pC b) hB hx).row) kR),
   fun wx hx=>Ob.o (O.loadAgg isAgg124 sizeOf124 rfl rfl ((Blk.ext (cs:=pC c) hC hx).row) kR),
   fun wx hx=>Ob.o (O.call (xs:=[.tmp 14,.tmp 15,.tmp 16]) call255 rfl rfl (rTurn_calls a b c wx ha hb hc) (fun v wy h=>⟨h.2,h.1⟩)),
   fun wx hx=>Ob.o (O.call (xs:=[.tmp 17]) call267 rfl rfl (rSign_calls (turnD a b c) wx) (fun v wy h=>⟨Keep.of_eq h.2,h.1⟩)),
   fun wx hx=>Ob.o (O.loadAgg isAgg124 sizeOf124 rfl rfl ((Blk.ext (cs:=pC a) hA hx).row) kR),
   fun wx hx=>Ob.o (O.loadAgg isAgg124 sizeOf124 rfl rfl ((Blk.ext (cs:=pC b) hB hx).row) kR),
   fun wx hx=>Ob.o (O.loadAgg isAgg124 sizeOf124 rfl rfl ((Blk.ext (cs:=pC d) hD hx).row) kR),
   trivial⟩ (fun w8 he8=>?_)
 refine L.o (O.call (xs:=[.tmp 19,.tmp 20,.tmp 21]) call255 rfl rfl (rTurn_calls a b d w8 ha hb hd) (fun v80 w80 hq=>?_))
 obtain ⟨rfl,he80⟩:=hq
 refine L.o (O.call (xs:=[.tmp 22]) call267 rfl rfl (rSign_calls (turnD a b d) w80) (fun v81 w81 hq=>?_))
 obtain ⟨rfl,rfl⟩:=hq
 have hA8:=Blk.ext (cs:=pC a) hA (he8.trans he80)
 have hB8:=Blk.ext (cs:=pC b) hB (he8.trans he80)
 have hC8:=Blk.ext (cs:=pC c) hC (he8.trans he80)
 have hD8:=Blk.ext (cs:=pC d) hD (he8.trans he80)
 refine L.a rfl (L.a rfl (L.nil (T.seq (?_))))
 refine T.anyE mixed 8 [6,7,4,5] rfl [.is _,.is _,.is _,.is (.int .i64 (turnD c d a)),.is (.int .i64 (sgn (turnD c d a))),.is _,.is _,.is _] [[],[],[],[0,1,2],[3],[],[],[]] [[],[],[],[0,1,2],[0,1,2,3],[],[],[],[0,1,2,3,4,5,6,7],[0,1,2,3,4,5,6,7,8],[0,1,2,3,4,5,6,7,8,9],[0,1,2,3,4,5,6,7,8,9,10]] (by kernel_rfl) (by kernel_rfl) rfl (by kernel_rfl) trivial ⟨fun wx hx=>Ob.o (O.loadAgg isAgg124 sizeOf124 rfl rfl ((Blk.ext (cs:=pC c) hC8 hx).row) kR),
   fun wx hx=>Ob.o (O.loadAgg isAgg124 sizeOf124 rfl rfl ((Blk.ext (cs:=pC d) hD8 hx).row) kR),
   fun wx hx=>Ob.o (O.loadAgg isAgg124 sizeOf124 rfl rfl ((Blk.ext (cs:=pC a) hA8 hx).row) kR),
   fun wx hx=>Ob.o (O.call (xs:=[.tmp 24,.tmp 25,.tmp 26]) call255 rfl rfl (rTurn_calls c d a wx hc hd ha) (fun v wy h=>⟨h.2,h.1⟩)),
   fun wx hx=>Ob.o (O.call (xs:=[.tmp 27]) call267 rfl rfl (rSign_calls (turnD c d a) wx) (fun v wy h=>⟨Keep.of_eq h.2,h.1⟩)),
   fun wx hx=>Ob.o (O.loadAgg isAgg124 sizeOf124 rfl rfl ((Blk.ext (cs:=pC c) hC8 hx).row) kR),
   fun wx hx=>Ob.o (O.loadAgg isAgg124 sizeOf124 rfl rfl ((Blk.ext (cs:=pC d) hD8 hx).row) kR),
   fun wx hx=>Ob.o (O.loadAgg isAgg124 sizeOf124 rfl rfl ((Blk.ext (cs:=pC b) hB8 hx).row) kR),
   trivial⟩ (fun w9 he9=>?_)
 refine L.o (O.call (xs:=[.tmp 29,.tmp 30,.tmp 31]) call255 rfl rfl (rTurn_calls c d b w9 hc hd hb) (fun v90 w90 hq=>?_))
 obtain ⟨rfl,he90⟩:=hq
 refine L.o (O.call (xs:=[.tmp 32]) call267 rfl rfl (rSign_calls (turnD c d b) w90) (fun v91 w91 hq=>?_))
 obtain ⟨rfl,rfl⟩:=hq
 have hA9:=Blk.ext (cs:=pC a) hA8 (he9.trans he90)
 have hB9:=Blk.ext (cs:=pC b) hB8 (he9.trans he90)
 have hC9:=Blk.ext (cs:=pC c) hC8 (he9.trans he90)
 have hD9:=Blk.ext (cs:=pC d) hD8 (he9.trans he90)
 have he09:=he07.trans ((he8.trans he80).trans (he9.trans he90))
 have m1:=sgn_mul (turnD a b c) (turnD a b d)
 have m2:=sgn_mul (turnD c d a) (turnD c d b)
 have bX:=mm_bnd (B:=8000000) ha.1 hb.1 hc.1 hd.1
 have bY:=mm_bnd (B:=8000000) ha.2 hb.2 hc.2 hd.2
 refine L.a rfl (L.a rfl (L.nil (T.seq (T.q (L.m rfl (L.o (O.eql_s rfl rfl (fun g1=>?_) (fun g1=>?_))))))))
 ·refine L.m rfl (L.m rfl (L.o (O.eql_s rfl rfl (fun g2=>?_) (fun g2=>?_))))
  ·refine L.o (O.pick_true rfl rfl (L.nil (T.ct (T.q (L.o (O.fieldAddr runUnderlying124 rfl sizeOf3 rfl (L.o (O.load isAgg3 rfl (hA9.cell rfl) (L.o (O.fieldAddr runUnderlying124 rfl sizeOf3 rfl (L.o (O.load isAgg3 rfl (hB9.cell rfl) (L.o (O.min rfl rfl (L.o (O.fieldAddr runUnderlying124 rfl sizeOf3 rfl (L.o (O.load isAgg3 rfl (hC9.cell rfl) (L.o (O.fieldAddr runUnderlying124 rfl sizeOf3 rfl (L.o (O.load isAgg3 rfl (hD9.cell rfl) (L.o (O.min rfl rfl (L.o (O.max rfl rfl (L.o (O.fieldAddr runUnderlying124 rfl sizeOf3 rfl (L.o (O.load isAgg3 rfl (hA9.cell rfl) (L.o (O.fieldAddr runUnderlying124 rfl sizeOf3 rfl (L.o (O.load isAgg3 rfl (hB9.cell rfl) (L.o (O.max rfl rfl (L.o (O.fieldAddr runUnderlying124 rfl sizeOf3 rfl (L.o (O.load isAgg3 rfl (hC9.cell rfl) (L.o (O.fieldAddr runUnderlying124 rfl sizeOf3 rfl (?_)))))))))))))))))))))))))))))))))))))))))))
   refine L.o (O.load isAgg3 rfl (hD9.cell rfl) (L.o (O.max rfl rfl (L.o (O.min rfl rfl (L.o (O.sub64 rfl rfl (by have q1:=bX.1;have q2:=bX.2;unfold mx mn at q1 q2;omega) (L.a rfl (L.nil (T.seq (?_)))))))))))
   refine T.join (σ:=Int) (fun s=>[(13,.int .i64 s)]) (fun s w'=>w'=w91∧s=lowI a b c d) ?_ ?_
   ·refine T.q (L.o (O.fieldAddr runUnderlying124 rfl sizeOf3 rfl (L.o (O.load isAgg3 rfl (hA9.cell rfl) (L.o (O.fieldAddr runUnderlying124 rfl sizeOf3 rfl (L.o (O.load isAgg3 rfl (hB9.cell rfl) (L.o (O.eql_s rfl rfl (fun e1=>?_) (fun e1=>?_)))))))))))
    ·refine L.nil (T.ct (T.region (L.o (O.fieldAddr runUnderlying124 rfl sizeOf3 rfl (L.o (O.load isAgg3 rfl (hA9.cell rfl) (L.o (O.fieldAddr runUnderlying124 rfl sizeOf3 rfl (L.o (O.load isAgg3 rfl (hB9.cell rfl) (L.o (O.min rfl rfl (L.o (O.fieldAddr runUnderlying124 rfl sizeOf3 rfl (L.o (O.load isAgg3 rfl (hC9.cell rfl) (L.o (O.fieldAddr runUnderlying124 rfl sizeOf3 rfl (L.o (O.load isAgg3 rfl (hD9.cell rfl) (L.o (O.min rfl rfl (L.o (O.max rfl rfl (L.o (O.fieldAddr runUnderlying124 rfl sizeOf3 rfl (L.o (O.load isAgg3 rfl (hA9.cell rfl) (L.o (O.fieldAddr runUnderlying124 rfl sizeOf3 rfl (L.o (O.load isAgg3 rfl (hB9.cell rfl) (L.o (O.max rfl rfl (L.o (O.fieldAddr runUnderlying124 rfl sizeOf3 rfl (L.o (O.load isAgg3 rfl (hC9.cell rfl) (L.o (O.fieldAddr runUnderlying124 rfl sizeOf3 rfl (L.o (O.load isAgg3 rfl (hD9.cell rfl) (L.o (O.max rfl rfl (?_)))))))))))))))))))))))))))))))))))))))))))))
     refine L.o (O.min rfl rfl (L.o (O.sub64 rfl rfl (by have q1:=bY.1;have q2:=bY.2;unfold mx mn at q1 q2;omega) (L.a rfl (L.nil (T.meet ((lowY a b c d)) ⟨rfl,trivial⟩ ⟨rfl,by rw [low_eq,if_pos e1]⟩))))))
    ·refine L.nil (T.cf (T.skip (T.meet ((lowX a b c d)) ⟨rfl,trivial⟩ ⟨rfl,by rw [low_eq,if_neg e1]⟩)))
   rintro s w11 ⟨rfl,rfl⟩
   refine T.seq (T.q (L.m rfl (L.o (O.gtr_s rfl rfl (fun l1=>?_) (fun l1=>?_)))))
   ·refine L.nil (T.ct (T.q (L.a rfl (L.nil (T.ret1 results252 rfl ⟨by rw [how_0 g1 g2,if_pos l1],he09⟩)))))
   ·refine L.nil (T.cf (T.skip (T.seq (T.q (L.m rfl (L.o (O.eql_s rfl rfl (fun l2=>?_) (fun l2=>?_))))))))
    ·refine L.nil (T.ct (T.q (L.a rfl (L.nil (T.ret1 results252 rfl ⟨by rw [how_0 g1 g2,if_neg l1,if_pos l2],he09⟩)))))
    ·refine L.nil (T.cf (T.skip (T.q (L.a rfl (L.nil (T.ret1 results252 rfl ⟨by rw [how_0 g1 g2,if_neg l1,if_neg l2],he09⟩))))))
  ·have hng:¬ (sgn (turnD a b c)=0∧sgn (turnD a b d)=0):=fun h=>g2 h.2
   refine L.o (O.pick_true rfl rfl (L.nil (T.cf (T.skip (T.seq (T.q (L.m rfl (L.m rfl (L.o (O.mul64 rfl rfl (by omega) (L.o (O.lss_s rfl rfl (fun x1=>?_) (fun x1=>?_)))))))))))))
   ·refine L.m rfl (L.m rfl (L.m rfl (L.o (O.mul64 rfl rfl (by omega) (L.o (O.lss_s rfl rfl (fun x2=>?_) (fun x2=>?_)))))))
    ·refine L.o (O.pick_true rfl rfl (L.nil (T.ct (T.q (L.a rfl (L.nil (T.ret1 results252 rfl ⟨by rw [how_2 hng x1 x2],he09⟩)))))))
    ·refine L.o (O.pick_true rfl rfl (L.nil (T.cf (T.skip (T.seq (T.q (L.o (O.loadAgg isAgg124 sizeOf124 rfl rfl hA9.row (L.o (O.loadAgg isAgg124 sizeOf124 rfl rfl hB9.row (L.o (O.loadAgg isAgg124 sizeOf124 rfl rfl hC9.row (L.o (O.call (xs:=[.tmp 105,.tmp 106,.tmp 107]) call254 rfl rfl (rBetween_calls a b c w91 ha hb hc) (fun v20 w20 hq=>?_)))))))))))))))
     obtain ⟨hv20,he20⟩:=hq
     rcases ho0:decide (onE a b c) with _|_
     ·rw [ho0] at hv20
      subst hv20
      have hn0:¬ onE a b c:=of_decide_eq_false ho0
      refine L.m rfl (L.o (O.loadAgg isAgg124 sizeOf124 rfl rfl ((Blk.ext (cs:=pC a) hA9 he20).row) (L.o (O.loadAgg isAgg124 sizeOf124 rfl rfl ((Blk.ext (cs:=pC b) hB9 he20).row) (L.o (O.loadAgg isAgg124 sizeOf124 rfl rfl ((Blk.ext (cs:=pC d) hD9 he20).row) (L.o (O.call (xs:=[.tmp 110,.tmp 111,.tmp 112]) call254 rfl rfl (rBetween_calls a b d w20 ha hb hd) (fun v21 w21 hq=>?_)))))))))
      obtain ⟨hv21,he21⟩:=hq
      rcases ho1:decide (onE a b d) with _|_
      ·rw [ho1] at hv21
       subst hv21
       have hn1:¬ onE a b d:=of_decide_eq_false ho1
       refine L.o (O.pick_false rfl rfl (L.m rfl (L.o (O.loadAgg isAgg124 sizeOf124 rfl rfl ((Blk.ext (cs:=pC c) hC9 (he20.trans he21)).row) (L.o (O.loadAgg isAgg124 sizeOf124 rfl rfl ((Blk.ext (cs:=pC d) hD9 (he20.trans he21)).row) (L.o (O.loadAgg isAgg124 sizeOf124 rfl rfl ((Blk.ext (cs:=pC a) hA9 (he20.trans he21)).row) (L.o (O.call (xs:=[.tmp 116,.tmp 117,.tmp 118]) call254 rfl rfl (rBetween_calls c d a w21 hc hd ha) (fun v22 w22 hq=>?_)))))))))))
       obtain ⟨hv22,he22⟩:=hq
       rcases ho2:decide (onE c d a) with _|_
       ·rw [ho2] at hv22
        subst hv22
        have hn2:¬ onE c d a:=of_decide_eq_false ho2
        refine L.o (O.pick_false rfl rfl (L.m rfl (L.o (O.loadAgg isAgg124 sizeOf124 rfl rfl ((Blk.ext (cs:=pC c) hC9 ((he20.trans he21).trans he22)).row) (L.o (O.loadAgg isAgg124 sizeOf124 rfl rfl ((Blk.ext (cs:=pC d) hD9 ((he20.trans he21).trans he22)).row) (L.o (O.loadAgg isAgg124 sizeOf124 rfl rfl ((Blk.ext (cs:=pC b) hB9 ((he20.trans he21).trans he22)).row) (L.o (O.call (xs:=[.tmp 122,.tmp 123,.tmp 124]) call254 rfl rfl (rBetween_calls c d b w22 hc hd hb) (fun v23 w23 hq=>?_)))))))))))
        obtain ⟨hv23,he23⟩:=hq
        rcases ho3:decide (onE c d b) with _|_
        ·rw [ho3] at hv23
         subst hv23
         have hn3:¬ onE c d b:=of_decide_eq_false ho3
         refine L.o (O.pick_false rfl rfl (L.nil (T.cf (T.skip (T.q (L.a rfl (L.nil (T.ret1 results252 rfl ⟨by rw [how_n hng (fun h=>x2 h.2) (by rintro (h|h|h|h);exact hn0 h;exact hn1 h;exact hn2 h;exact hn3 h)],he09.trans (((he20.trans he21).trans he22).trans he23)⟩))))))))
        ·rw [ho3] at hv23
         subst hv23
         refine L.o (O.pick_false rfl rfl (L.nil (T.ct (T.q (L.a rfl (L.nil (T.ret1 results252 rfl ⟨by rw [how_1 hng (fun h=>x2 h.2) (.inr (.inr (.inr (of_decide_eq_true ho3))))],he09.trans (((he20.trans he21).trans he22).trans he23)⟩)))))))
       ·rw [ho2] at hv22
        subst hv22
        refine L.o (O.pick_false rfl rfl (L.m rfl (L.p (L.p (L.p (L.p (L.o (O.pick_true rfl rfl (L.nil (T.ct (T.q (L.a rfl (L.nil (T.ret1 results252 rfl ⟨by rw [how_1 hng (fun h=>x2 h.2) (.inr (.inr (.inl (of_decide_eq_true ho2))))],he09.trans ((he20.trans he21).trans he22)⟩))))))))))))))
      ·rw [ho1] at hv21
       subst hv21
       refine L.o (O.pick_false rfl rfl (L.m rfl (L.p (L.p (L.p (L.p (L.o (O.pick_true rfl rfl (L.m rfl (L.p (L.p (L.p (L.p (L.o (O.pick_true rfl rfl (L.nil (T.ct (T.q (L.a rfl (L.nil (T.ret1 results252 rfl ⟨by rw [how_1 hng (fun h=>x2 h.2) (.inr (.inl (of_decide_eq_true ho1)))],he09.trans (he20.trans he21)⟩)))))))))))))))))))))
     ·rw [ho0] at hv20
      subst hv20
      refine L.m rfl (L.p (L.p (L.p (L.p (L.o (O.pick_true rfl rfl (L.m rfl (L.p (L.p (L.p (L.p (L.o (O.pick_true rfl rfl (L.m rfl (L.p (L.p (L.p (L.p (L.o (O.pick_true rfl rfl (L.nil (T.ct (T.q (L.a rfl (L.nil (?_))))))))))))))))))))))))))
      refine T.ret1 results252 rfl ⟨by rw [how_1 hng (fun h=>x2 h.2) (.inl (of_decide_eq_true ho0))],he09.trans he20⟩
   ·refine L.m rfl (L.p (L.p (L.p (L.p (L.o (O.pick_false rfl rfl (L.nil (T.cf (T.skip (T.seq (T.q (L.o (O.loadAgg isAgg124 sizeOf124 rfl rfl hA9.row (L.o (O.loadAgg isAgg124 sizeOf124 rfl rfl hB9.row (L.o (O.loadAgg isAgg124 sizeOf124 rfl rfl hC9.row (L.o (O.call (xs:=[.tmp 105,.tmp 106,.tmp 107]) call254 rfl rfl (rBetween_calls a b c w91 ha hb hc) (fun v20 w20 hq=>?_))))))))))))))))))))
    obtain ⟨hv20,he20⟩:=hq
    rcases ho0:decide (onE a b c) with _|_
    ·rw [ho0] at hv20
     subst hv20
     have hn0:¬ onE a b c:=of_decide_eq_false ho0
     refine L.m rfl (L.o (O.loadAgg isAgg124 sizeOf124 rfl rfl ((Blk.ext (cs:=pC a) hA9 he20).row) (L.o (O.loadAgg isAgg124 sizeOf124 rfl rfl ((Blk.ext (cs:=pC b) hB9 he20).row) (L.o (O.loadAgg isAgg124 sizeOf124 rfl rfl ((Blk.ext (cs:=pC d) hD9 he20).row) (L.o (O.call (xs:=[.tmp 110,.tmp 111,.tmp 112]) call254 rfl rfl (rBetween_calls a b d w20 ha hb hd) (fun v21 w21 hq=>?_)))))))))
     obtain ⟨hv21,he21⟩:=hq
     rcases ho1:decide (onE a b d) with _|_
     ·rw [ho1] at hv21
      subst hv21
      have hn1:¬ onE a b d:=of_decide_eq_false ho1
      refine L.o (O.pick_false rfl rfl (L.m rfl (L.o (O.loadAgg isAgg124 sizeOf124 rfl rfl ((Blk.ext (cs:=pC c) hC9 (he20.trans he21)).row) (L.o (O.loadAgg isAgg124 sizeOf124 rfl rfl ((Blk.ext (cs:=pC d) hD9 (he20.trans he21)).row) (L.o (O.loadAgg isAgg124 sizeOf124 rfl rfl ((Blk.ext (cs:=pC a) hA9 (he20.trans he21)).row) (L.o (O.call (xs:=[.tmp 116,.tmp 117,.tmp 118]) call254 rfl rfl (rBetween_calls c d a w21 hc hd ha) (fun v22 w22 hq=>?_)))))))))))
      obtain ⟨hv22,he22⟩:=hq
      rcases ho2:decide (onE c d a) with _|_
      ·rw [ho2] at hv22
       subst hv22
       have hn2:¬ onE c d a:=of_decide_eq_false ho2
       refine L.o (O.pick_false rfl rfl (L.m rfl (L.o (O.loadAgg isAgg124 sizeOf124 rfl rfl ((Blk.ext (cs:=pC c) hC9 ((he20.trans he21).trans he22)).row) (L.o (O.loadAgg isAgg124 sizeOf124 rfl rfl ((Blk.ext (cs:=pC d) hD9 ((he20.trans he21).trans he22)).row) (L.o (O.loadAgg isAgg124 sizeOf124 rfl rfl ((Blk.ext (cs:=pC b) hB9 ((he20.trans he21).trans he22)).row) (L.o (O.call (xs:=[.tmp 122,.tmp 123,.tmp 124]) call254 rfl rfl (rBetween_calls c d b w22 hc hd hb) (fun v23 w23 hq=>?_)))))))))))
       obtain ⟨hv23,he23⟩:=hq
       rcases ho3:decide (onE c d b) with _|_
       ·rw [ho3] at hv23
        subst hv23
        have hn3:¬ onE c d b:=of_decide_eq_false ho3
        refine L.o (O.pick_false rfl rfl (L.nil (T.cf (T.skip (T.q (L.a rfl (L.nil (T.ret1 results252 rfl ⟨by rw [how_n hng (fun h=>x1 h.1) (by rintro (h|h|h|h);exact hn0 h;exact hn1 h;exact hn2 h;exact hn3 h)],he09.trans (((he20.trans he21).trans he22).trans he23)⟩))))))))
       ·rw [ho3] at hv23
        subst hv23
        refine L.o (O.pick_false rfl rfl (L.nil (T.ct (T.q (L.a rfl (L.nil (T.ret1 results252 rfl ⟨by rw [how_1 hng (fun h=>x1 h.1) (.inr (.inr (.inr (of_decide_eq_true ho3))))],he09.trans (((he20.trans he21).trans he22).trans he23)⟩)))))))
      ·rw [ho2] at hv22
       subst hv22
       refine L.o (O.pick_false rfl rfl (L.m rfl (L.p (L.p (L.p (L.p (L.o (O.pick_true rfl rfl (L.nil (T.ct (T.q (L.a rfl (L.nil (T.ret1 results252 rfl ⟨by rw [how_1 hng (fun h=>x1 h.1) (.inr (.inr (.inl (of_decide_eq_true ho2))))],he09.trans ((he20.trans he21).trans he22)⟩))))))))))))))
     ·rw [ho1] at hv21
      subst hv21
      refine L.o (O.pick_false rfl rfl (L.m rfl (L.p (L.p (L.p (L.p (L.o (O.pick_true rfl rfl (L.m rfl (L.p (L.p (L.p (L.p (L.o (O.pick_true rfl rfl (L.nil (T.ct (T.q (L.a rfl (L.nil (T.ret1 results252 rfl ⟨by rw [how_1 hng (fun h=>x1 h.1) (.inr (.inl (of_decide_eq_true ho1)))],he09.trans (he20.trans he21)⟩)))))))))))))))))))))
    ·rw [ho0] at hv20
     subst hv20
     refine L.m rfl (L.p (L.p (L.p (L.p (L.o (O.pick_true rfl rfl (L.m rfl (L.p (L.p (L.p (L.p (L.o (O.pick_true rfl rfl (L.m rfl (L.p (L.p (L.p (L.p (L.o (O.pick_true rfl rfl (L.nil (T.ct (T.q (L.a rfl (L.nil (?_))))))))))))))))))))))))))
     refine T.ret1 results252 rfl ⟨by rw [how_1 hng (fun h=>x1 h.1) (.inl (of_decide_eq_true ho0))],he09.trans he20⟩
 ·have hng:¬ (sgn (turnD a b c)=0∧sgn (turnD a b d)=0):=fun h=>g1 h.1
  refine L.m rfl (L.p (L.p (L.o (O.pick_false rfl rfl (L.nil (T.cf (T.skip (T.seq (T.q (L.m rfl (L.m rfl (L.o (O.mul64 rfl rfl (by omega) (L.o (O.lss_s rfl rfl (fun x1=>?_) (fun x1=>?_))))))))))))))))
  ·refine L.m rfl (L.m rfl (L.m rfl (L.o (O.mul64 rfl rfl (by omega) (L.o (O.lss_s rfl rfl (fun x2=>?_) (fun x2=>?_)))))))
   ·refine L.o (O.pick_true rfl rfl (L.nil (T.ct (T.q (L.a rfl (L.nil (T.ret1 results252 rfl ⟨by rw [how_2 hng x1 x2],he09⟩)))))))
   ·refine L.o (O.pick_true rfl rfl (L.nil (T.cf (T.skip (T.seq (T.q (L.o (O.loadAgg isAgg124 sizeOf124 rfl rfl hA9.row (L.o (O.loadAgg isAgg124 sizeOf124 rfl rfl hB9.row (L.o (O.loadAgg isAgg124 sizeOf124 rfl rfl hC9.row (L.o (O.call (xs:=[.tmp 105,.tmp 106,.tmp 107]) call254 rfl rfl (rBetween_calls a b c w91 ha hb hc) (fun v20 w20 hq=>?_)))))))))))))))
    obtain ⟨hv20,he20⟩:=hq
    rcases ho0:decide (onE a b c) with _|_
    ·rw [ho0] at hv20
     subst hv20
     have hn0:¬ onE a b c:=of_decide_eq_false ho0
     refine L.m rfl (L.o (O.loadAgg isAgg124 sizeOf124 rfl rfl ((Blk.ext (cs:=pC a) hA9 he20).row) (L.o (O.loadAgg isAgg124 sizeOf124 rfl rfl ((Blk.ext (cs:=pC b) hB9 he20).row) (L.o (O.loadAgg isAgg124 sizeOf124 rfl rfl ((Blk.ext (cs:=pC d) hD9 he20).row) (L.o (O.call (xs:=[.tmp 110,.tmp 111,.tmp 112]) call254 rfl rfl (rBetween_calls a b d w20 ha hb hd) (fun v21 w21 hq=>?_)))))))))
     obtain ⟨hv21,he21⟩:=hq
     rcases ho1:decide (onE a b d) with _|_
     ·rw [ho1] at hv21
      subst hv21
      have hn1:¬ onE a b d:=of_decide_eq_false ho1
      refine L.o (O.pick_false rfl rfl (L.m rfl (L.o (O.loadAgg isAgg124 sizeOf124 rfl rfl ((Blk.ext (cs:=pC c) hC9 (he20.trans he21)).row) (L.o (O.loadAgg isAgg124 sizeOf124 rfl rfl ((Blk.ext (cs:=pC d) hD9 (he20.trans he21)).row) (L.o (O.loadAgg isAgg124 sizeOf124 rfl rfl ((Blk.ext (cs:=pC a) hA9 (he20.trans he21)).row) (L.o (O.call (xs:=[.tmp 116,.tmp 117,.tmp 118]) call254 rfl rfl (rBetween_calls c d a w21 hc hd ha) (fun v22 w22 hq=>?_)))))))))))
      obtain ⟨hv22,he22⟩:=hq
      rcases ho2:decide (onE c d a) with _|_
      ·rw [ho2] at hv22
       subst hv22
       have hn2:¬ onE c d a:=of_decide_eq_false ho2
       refine L.o (O.pick_false rfl rfl (L.m rfl (L.o (O.loadAgg isAgg124 sizeOf124 rfl rfl ((Blk.ext (cs:=pC c) hC9 ((he20.trans he21).trans he22)).row) (L.o (O.loadAgg isAgg124 sizeOf124 rfl rfl ((Blk.ext (cs:=pC d) hD9 ((he20.trans he21).trans he22)).row) (L.o (O.loadAgg isAgg124 sizeOf124 rfl rfl ((Blk.ext (cs:=pC b) hB9 ((he20.trans he21).trans he22)).row) (L.o (O.call (xs:=[.tmp 122,.tmp 123,.tmp 124]) call254 rfl rfl (rBetween_calls c d b w22 hc hd hb) (fun v23 w23 hq=>?_)))))))))))
       obtain ⟨hv23,he23⟩:=hq
       rcases ho3:decide (onE c d b) with _|_
       ·rw [ho3] at hv23
        subst hv23
        have hn3:¬ onE c d b:=of_decide_eq_false ho3
        refine L.o (O.pick_false rfl rfl (L.nil (T.cf (T.skip (T.q (L.a rfl (L.nil (T.ret1 results252 rfl ⟨by rw [how_n hng (fun h=>x2 h.2) (by rintro (h|h|h|h);exact hn0 h;exact hn1 h;exact hn2 h;exact hn3 h)],he09.trans (((he20.trans he21).trans he22).trans he23)⟩))))))))
       ·rw [ho3] at hv23
        subst hv23
        refine L.o (O.pick_false rfl rfl (L.nil (T.ct (T.q (L.a rfl (L.nil (T.ret1 results252 rfl ⟨by rw [how_1 hng (fun h=>x2 h.2) (.inr (.inr (.inr (of_decide_eq_true ho3))))],he09.trans (((he20.trans he21).trans he22).trans he23)⟩)))))))
      ·rw [ho2] at hv22
       subst hv22
       refine L.o (O.pick_false rfl rfl (L.m rfl (L.p (L.p (L.p (L.p (L.o (O.pick_true rfl rfl (L.nil (T.ct (T.q (L.a rfl (L.nil (T.ret1 results252 rfl ⟨by rw [how_1 hng (fun h=>x2 h.2) (.inr (.inr (.inl (of_decide_eq_true ho2))))],he09.trans ((he20.trans he21).trans he22)⟩))))))))))))))
     ·rw [ho1] at hv21
      subst hv21
      refine L.o (O.pick_false rfl rfl (L.m rfl (L.p (L.p (L.p (L.p (L.o (O.pick_true rfl rfl (L.m rfl (L.p (L.p (L.p (L.p (L.o (O.pick_true rfl rfl (L.nil (T.ct (T.q (L.a rfl (L.nil (T.ret1 results252 rfl ⟨by rw [how_1 hng (fun h=>x2 h.2) (.inr (.inl (of_decide_eq_true ho1)))],he09.trans (he20.trans he21)⟩)))))))))))))))))))))
    ·rw [ho0] at hv20
     subst hv20
     refine L.m rfl (L.p (L.p (L.p (L.p (L.o (O.pick_true rfl rfl (L.m rfl (L.p (L.p (L.p (L.p (L.o (O.pick_true rfl rfl (L.m rfl (L.p (L.p (L.p (L.p (L.o (O.pick_true rfl rfl (L.nil (T.ct (T.q (L.a rfl (L.nil (?_))))))))))))))))))))))))))
     refine T.ret1 results252 rfl ⟨by rw [how_1 hng (fun h=>x2 h.2) (.inl (of_decide_eq_true ho0))],he09.trans he20⟩
  ·refine L.m rfl (L.p (L.p (L.p (L.p (L.o (O.pick_false rfl rfl (L.nil (T.cf (T.skip (T.seq (T.q (L.o (O.loadAgg isAgg124 sizeOf124 rfl rfl hA9.row (L.o (O.loadAgg isAgg124 sizeOf124 rfl rfl hB9.row (L.o (O.loadAgg isAgg124 sizeOf124 rfl rfl hC9.row (L.o (O.call (xs:=[.tmp 105,.tmp 106,.tmp 107]) call254 rfl rfl (rBetween_calls a b c w91 ha hb hc) (fun v20 w20 hq=>?_))))))))))))))))))))
   obtain ⟨hv20,he20⟩:=hq
   rcases ho0:decide (onE a b c) with _|_
   ·rw [ho0] at hv20
    subst hv20
    have hn0:¬ onE a b c:=of_decide_eq_false ho0
    refine L.m rfl (L.o (O.loadAgg isAgg124 sizeOf124 rfl rfl ((Blk.ext (cs:=pC a) hA9 he20).row) (L.o (O.loadAgg isAgg124 sizeOf124 rfl rfl ((Blk.ext (cs:=pC b) hB9 he20).row) (L.o (O.loadAgg isAgg124 sizeOf124 rfl rfl ((Blk.ext (cs:=pC d) hD9 he20).row) (L.o (O.call (xs:=[.tmp 110,.tmp 111,.tmp 112]) call254 rfl rfl (rBetween_calls a b d w20 ha hb hd) (fun v21 w21 hq=>?_)))))))))
    obtain ⟨hv21,he21⟩:=hq
    rcases ho1:decide (onE a b d) with _|_
    ·rw [ho1] at hv21
     subst hv21
     have hn1:¬ onE a b d:=of_decide_eq_false ho1
     refine L.o (O.pick_false rfl rfl (L.m rfl (L.o (O.loadAgg isAgg124 sizeOf124 rfl rfl ((Blk.ext (cs:=pC c) hC9 (he20.trans he21)).row) (L.o (O.loadAgg isAgg124 sizeOf124 rfl rfl ((Blk.ext (cs:=pC d) hD9 (he20.trans he21)).row) (L.o (O.loadAgg isAgg124 sizeOf124 rfl rfl ((Blk.ext (cs:=pC a) hA9 (he20.trans he21)).row) (L.o (O.call (xs:=[.tmp 116,.tmp 117,.tmp 118]) call254 rfl rfl (rBetween_calls c d a w21 hc hd ha) (fun v22 w22 hq=>?_)))))))))))
     obtain ⟨hv22,he22⟩:=hq
     rcases ho2:decide (onE c d a) with _|_
     ·rw [ho2] at hv22
      subst hv22
      have hn2:¬ onE c d a:=of_decide_eq_false ho2
      refine L.o (O.pick_false rfl rfl (L.m rfl (L.o (O.loadAgg isAgg124 sizeOf124 rfl rfl ((Blk.ext (cs:=pC c) hC9 ((he20.trans he21).trans he22)).row) (L.o (O.loadAgg isAgg124 sizeOf124 rfl rfl ((Blk.ext (cs:=pC d) hD9 ((he20.trans he21).trans he22)).row) (L.o (O.loadAgg isAgg124 sizeOf124 rfl rfl ((Blk.ext (cs:=pC b) hB9 ((he20.trans he21).trans he22)).row) (L.o (O.call (xs:=[.tmp 122,.tmp 123,.tmp 124]) call254 rfl rfl (rBetween_calls c d b w22 hc hd hb) (fun v23 w23 hq=>?_)))))))))))
      obtain ⟨hv23,he23⟩:=hq
      rcases ho3:decide (onE c d b) with _|_
      ·rw [ho3] at hv23
       subst hv23
       have hn3:¬ onE c d b:=of_decide_eq_false ho3
       refine L.o (O.pick_false rfl rfl (L.nil (T.cf (T.skip (T.q (L.a rfl (L.nil (T.ret1 results252 rfl ⟨by rw [how_n hng (fun h=>x1 h.1) (by rintro (h|h|h|h);exact hn0 h;exact hn1 h;exact hn2 h;exact hn3 h)],he09.trans (((he20.trans he21).trans he22).trans he23)⟩))))))))
      ·rw [ho3] at hv23
       subst hv23
       refine L.o (O.pick_false rfl rfl (L.nil (T.ct (T.q (L.a rfl (L.nil (T.ret1 results252 rfl ⟨by rw [how_1 hng (fun h=>x1 h.1) (.inr (.inr (.inr (of_decide_eq_true ho3))))],he09.trans (((he20.trans he21).trans he22).trans he23)⟩)))))))
     ·rw [ho2] at hv22
      subst hv22
      refine L.o (O.pick_false rfl rfl (L.m rfl (L.p (L.p (L.p (L.p (L.o (O.pick_true rfl rfl (L.nil (T.ct (T.q (L.a rfl (L.nil (T.ret1 results252 rfl ⟨by rw [how_1 hng (fun h=>x1 h.1) (.inr (.inr (.inl (of_decide_eq_true ho2))))],he09.trans ((he20.trans he21).trans he22)⟩))))))))))))))
    ·rw [ho1] at hv21
     subst hv21
     refine L.o (O.pick_false rfl rfl (L.m rfl (L.p (L.p (L.p (L.p (L.o (O.pick_true rfl rfl (L.m rfl (L.p (L.p (L.p (L.p (L.o (O.pick_true rfl rfl (L.nil (T.ct (T.q (L.a rfl (L.nil (T.ret1 results252 rfl ⟨by rw [how_1 hng (fun h=>x1 h.1) (.inr (.inl (of_decide_eq_true ho1)))],he09.trans (he20.trans he21)⟩)))))))))))))))))))))
   ·rw [ho0] at hv20
    subst hv20
    refine L.m rfl (L.p (L.p (L.p (L.p (L.o (O.pick_true rfl rfl (L.m rfl (L.p (L.p (L.p (L.p (L.o (O.pick_true rfl rfl (L.m rfl (L.p (L.p (L.p (L.p (L.o (O.pick_true rfl rfl (L.nil (T.ct (T.q (L.a rfl (L.nil (?_))))))))))))))))))))))))))
    refine T.ret1 results252 rfl ⟨by rw [how_1 hng (fun h=>x1 h.1) (.inl (of_decide_eq_true ho0))],he09.trans he20⟩

open Go Go.E

open Geo (crsB parTo placeI)
theorem PtB.ste {base:Nat} : ∀ v w w',Ext w w'→PtB base v w→PtB base v w':=fun v w w' h ⟨b,c,h1,h2,h3⟩=>⟨b,c,h1,h2,Blk.ext (cs:=pC c) h3 h⟩
theorem place_no {r:List Pt} {p:Pt} (h:∀ k,k<r.length→¬ onE (rA r k) (rB r k) p):placeI r p=if parTo r p r.length=true then 2 else 0:=by
 unfold Geo.placeI;rw [if_neg (by rintro ⟨i,hi,ho⟩;exact h i hi ho)]
theorem place_yes {r:List Pt} {p:Pt} {i:Nat} (hi:i<r.length) (h:onE (rA r i) (rB r i) p):placeI r p=1:=by
 unfold Geo.placeI;rw [if_pos ⟨i,hi,h⟩]
theorem crs_no {a b p:Pt} (h:(decide (a.2 > p.2) != decide (b.2 > p.2))=false):crsB a b p=false:=by
 have h:(decide (p.2<a.2) != decide (p.2<b.2))=false:=h
 unfold Geo.crsB;rw [h,Bool.false_and]
theorem crs_eq {a b p:Pt} (h:(decide (a.2 > p.2) != decide (b.2 > p.2))=true):crsB a b p=(decide (turnD a b p > 0) == decide (b.2 > a.2)):=by
 have h:(decide (p.2<a.2) != decide (p.2<b.2))=true:=h
 unfold Geo.crsB;rw [h,Bool.true_and]
theorem rDouble_calls (lo:Nat) (q:Value) (r:List Pt) (w:World) (hq:Pts lo w q r) (hn:NmL r) (hlen:r.length≤1000000) :
  Calls Tryz.prog 251 #[q] w (Ret fun v w'=>v = .int .i64 (areaTo r r.length)∧Ext w w'):=by
 refine T.enter (vs:=[q]) func251 rfl ntmps251 rfl ?_
 refine T.q (L.a rfl (L.nil (T.q (L.a rfl (L.nil (T.seq (T.q (L.a rfl (L.nil (T.block (?_)))))))))))
 refine T.loop (σ:=Nat) (fun i=>[(0,q),(3,.int .i64 (areaTo r i)),(4,.int .i64 i)]) (fun i w'=>i≤r.length∧Ext w w') (fun i=>r.length-i) (0) ⟨rfl,rfl,rfl,trivial⟩ ⟨Nat.zero_le _,Keep.refl _ _⟩ ?_
 rintro i w1 ⟨hi,he1⟩
 have hq1:=hq.ext he1
 refine T.seq (T.q (L.m rfl (L.m rfl (L.o (O.len runUnderlying237 rfl (Sl.val hq1) (L.o (O.lss_s rfl rfl (fun hlt=>?_) (fun hlt=>?_))))))))
 ·refine L.nil (?_)
  have hlt':i<r.length:=by omega
  have a:Nm (rA r i):=hn i hlt'
  have b:Nm (rB r i):=hn _ (Nat.mod_lt _ (by omega))
  unfold Nm at a b
  have m1:=mul_nm (x:=(rA r i).1) (y:=(rB r i).2) ⟨a.1,b.2⟩
  have m2:=mul_nm (x:=(rA r i).2) (y:=(rB r i).1) ⟨a.2,b.1⟩
  have hbd:=area_bnd hn i hi
  refine T.ct (T.skip (T.seq (T.block (T.seq (?_)))))
  refine T.anyF2 mixed 10 0 [0,4] rfl [.is _,.is _,.is _,.is _,.is _,.is _,.is (.int .i64 ((i+1:Nat):Int)),.is (pV (rB r i)),.such (PtB w1.heap.size),.such (PtB w1.heap.size)] [[],[],[0,1],[2],[],[],[5],[4,6],[],[]] [none,none,none,none,none,none,none,none,none,none] [[],[],[0,1],[0,1,2],[],[],[5],[4,5,6],[],[],[0,1,2,3,4,5,6,7,8,9],[0,1,2,3,4,5,6,7,8,9,10]] [8,9] [] (fun _ _ _ _ _=>True) (fun _ W=>Ext w1 W) (Ext) (fun i f v w hi hf hh=>by { rcases (show i=8∨i=9 by simpa using hi) with rfl|rfl <;> (simp only [List.getElem?_cons_succ,List.getElem?_cons_zero,Option.some.injEq] at hf;subst hf;exact PtB.lt hh) }) (fun _ _ _ _ _ _ _ _=>trivial) (by kernel_rfl) (by kernel_rfl) (by kernel_rfl) (by kernel_rfl) rfl ⟨PtB.ste,PtB.ste,trivial⟩ (Keep.drew _ _) ⟨fun c wx hx=>ObX.op rfl (O.move rfl ⟨⟨Keep.refl _ _,hx⟩,rfl,trivial,trivial⟩),
    fun c wx hx=>ObX.op rfl (O.move rfl ⟨⟨Keep.refl _ _,hx⟩,rfl,trivial,trivial⟩),
    fun c wx hx=>ObX.op rfl (O.indexAddr runUnderlying237 sizeOf124 rfl rfl (hq1.ext hx) (by omega) (by omega) ⟨⟨Keep.refl _ _,hx⟩,rfl,trivial,trivial⟩),
    fun c wx hx=>ObX.op rfl (O.loadAgg isAgg124 sizeOf124 rfl rfl ((hq1.ext hx).row hlt') ⟨⟨Keep.refl _ _,hx⟩,rfl,trivial,trivial⟩),
    fun c wx hx=>ObX.op rfl (O.move rfl ⟨⟨Keep.refl _ _,hx⟩,rfl,trivial,trivial⟩),
    fun c wx hx=>ObX.op rfl (O.move rfl ⟨⟨Keep.refl _ _,hx⟩,rfl,trivial,trivial⟩),
    fun c wx hx=>ObX.op rfl (O.add64 rfl rfl (by omega) (and3 ⟨⟨Keep.refl _ _,hx⟩,rfl⟩ ⟨trivial,trivial⟩)),
    fun c wx hx=>ObX.op rfl (O.call (xs:=[.tmp 17,.tmp 19]) call253 rfl rfl (rAt_calls lo q r (i+1) wx (hq1.ext hx) (by omega) hlen (by omega)) (fun v wy h=>and3 ⟨⟨h.2,hx.trans h.2⟩,h.1⟩ ⟨trivial,trivial⟩)),
    fun c wx hx=>ObX.op rfl (O.alloc zeroValue124 (fun b wy hb hz he hB=>and3 ⟨⟨he,hx.trans he⟩,b,(0,0),rfl,by have:=hx.size;omega,hB⟩ ⟨fun q hq=>by { cases hq;exact Nat.le_of_eq hb.symm },trivial⟩)),
    fun c wx hx=>ObX.op rfl (O.alloc zeroValue124 (fun b wy hb hz he hB=>and3 ⟨⟨he,hx.trans he⟩,b,(0,0),rfl,by have:=hx.size;omega,hB⟩ ⟨fun q hq=>by { cases hq;exact Nat.le_of_eq hb.symm },trivial⟩)),
    trivial⟩ (fun w7 hI7 v5 hv5 v6 hv6 hp7=>?_)
  obtain ⟨vj,hvj,hfr,_⟩:=hp7 8 9 _ _ _ _ (by decide) (by decide) rfl rfl rfl rfl
  obtain rfl:=hvj _ _ rfl rfl
  obtain ⟨b5,c5,rfl,hb5,hB5⟩:=hv5
  obtain ⟨b6,c6,rfl,hb6,hB6⟩:=hv6
  have hne:b5≠b6:=fun e=>hfr b5 rfl (by rw [e];rfl)
  refine L.o (O.storeAgg sizeOf124 rfl rfl rfl hB5 (Nat.le_refl _) (pC_one (rA r i)) (fun w80 hu80 hB80=>?_))
  have hB6':=Blk.upd (cs:=pC c6) hB6 hu80 (Ne.symm hne)
  refine L.o (O.storeAgg sizeOf124 rfl rfl rfl hB6' (Nat.le_refl _) (pC_one (rB r i)) (fun w81 hu81 hB81=>?_))
  have hA:Blk w81 b5 (pC (rA r i)) 124:=Blk.upd (cs:=pC (rA r i)) hB80 hu81 hne
  have hB:Blk w81 b6 (pC (rB r i)) 124:=hB81
  have he81:Ext w1 w81:=(hI7.upd hu80 (.inr hb5)).upd hu81 (.inr hb6)
  refine L.nil (T.region (L.m rfl (L.o (O.fieldAddr runUnderlying124 rfl sizeOf3 rfl (L.o (O.load isAgg3 rfl (hA.cell rfl) (L.o (O.fieldAddr runUnderlying124 rfl sizeOf3 rfl (L.o (O.load isAgg3 rfl (hB.cell rfl) (L.o (O.mul64 rfl rfl (by omega) (L.o (O.add64 rfl rfl (by omega) (L.o (O.fieldAddr runUnderlying124 rfl sizeOf3 rfl (L.o (O.load isAgg3 rfl (hA.cell rfl) (L.o (O.fieldAddr runUnderlying124 rfl sizeOf3 rfl (L.o (O.load isAgg3 rfl (hB.cell rfl) (L.o (O.mul64 rfl rfl (by omega) (L.o (O.sub64 rfl rfl (by omega) (L.a rfl (L.nil (T.blk (T.region (L.m rfl (L.o (O.add64 rfl rfl (by omega) (L.a rfl (L.nil (T.again (i+1) (by omega) ⟨rfl,?_,rfl,trivial⟩ ⟨hlt',he1.trans he81⟩))))))))))))))))))))))))))))))))))))
  ·show _=some (Value.int .i64 (areaTo r (i+1)));rw [areaTo,← Int.add_sub_assoc];rfl
 ·refine L.nil (?_)
  obtain rfl:i=r.length:=by omega
  refine T.cf (T.exit rfl (T.q (L.m rfl (L.a rfl (L.nil (T.ret1 results251 rfl ⟨rfl,he1⟩))))))

set_option maxHeartbeats 2000000 in
theorem rPlace_calls (lo:Nat) (q:Value) (r:List Pt) (p:Pt) (w:World) (hq:Pts lo w q r) (hn:NrL r) (hp:Nr p) (hlen:r.length≤1000000) :
  Calls Tryz.prog 223 #[q,pV p] w (Ret fun v w'=>v = .int .i64 (placeI r p)∧Ext w w'):=by
 refine T.enter (vs:=[q,pV p]) func223 rfl ntmps223 rfl ?_
 refine T.q (L.o (O.box rfl (fun b3 w3 hb3 hz3 he3 hB3=>?_)))
 have hP3:Blk w3 b3 (pC p) 124:=hB3
 have hq3:=hq.ext he3
 refine L.a rfl (L.nil (T.q (L.a rfl (L.nil (T.seq (T.q (L.a rfl (L.nil (T.block (?_))))))))))
 refine T.loop (σ:=Nat) (fun i=>[(0,q),(3,.pointer (some ⟨b3,0,none⟩)),(5,.bool (parTo r p i)),(6,.int .i64 i)]) (fun i w'=>i≤r.length∧Ext w3 w'∧∀ k,k<i→¬ onE (rA r k) (rB r k) p) (fun i=>r.length-i) (0) ⟨rfl,rfl,rfl,rfl,trivial⟩ ⟨Nat.zero_le _,Keep.refl _ _,fun k hk=>absurd hk (Nat.not_lt_zero _)⟩ ?_
 rintro i w4 ⟨hi,he4,hall⟩
 have hq4:=hq3.ext he4
 refine T.seq (T.q (L.m rfl (L.m rfl (L.o (O.len runUnderlying237 rfl (Sl.val hq4) (L.o (O.lss_s rfl rfl (fun hlt=>?_) (fun hlt=>?_))))))))
 ·refine L.nil (?_)
  have hlt':i<r.length:=by omega
  have na:Nr (rA r i):=hn i hlt'
  have nb:Nr (rB r i):=hn _ (Nat.mod_lt _ (by omega))
  refine T.ct (T.skip (T.seq (T.block (T.seq (?_)))))
  refine T.anyF2 mixed 10 0 [0,6] rfl [.is _,.is _,.is _,.is _,.is _,.is _,.is (.int .i64 ((i+1:Nat):Int)),.is (pV (rB r i)),.such (PtB w4.heap.size),.such (PtB w4.heap.size)] [[],[],[0,1],[2],[],[],[5],[4,6],[],[]] [none,none,none,none,none,none,none,none,none,none] [[],[],[0,1],[0,1,2],[],[],[5],[4,5,6],[],[],[0,1,2,3,4,5,6,7,8,9],[0,1,2,3,4,5,6,7,8,9,10]] [8,9] [] (fun _ _ _ _ _=>True) (fun _ W=>Ext w4 W) (Ext) (fun i f v w hi hf hh=>by { rcases (show i=8∨i=9 by simpa using hi) with rfl|rfl <;> (simp only [List.getElem?_cons_succ,List.getElem?_cons_zero,Option.some.injEq] at hf;subst hf;exact PtB.lt hh) }) (fun _ _ _ _ _ _ _ _=>trivial) (by kernel_rfl) (by kernel_rfl) (by kernel_rfl) (by kernel_rfl) rfl ⟨PtB.ste,PtB.ste,trivial⟩ (Keep.drew _ _) ⟨fun c wx hx=>ObX.op rfl (O.move rfl ⟨⟨Keep.refl _ _,hx⟩,rfl,trivial,trivial⟩),
    fun c wx hx=>ObX.op rfl (O.move rfl ⟨⟨Keep.refl _ _,hx⟩,rfl,trivial,trivial⟩),
    fun c wx hx=>ObX.op rfl (O.indexAddr runUnderlying237 sizeOf124 rfl rfl (hq4.ext hx) (by omega) (by omega) ⟨⟨Keep.refl _ _,hx⟩,rfl,trivial,trivial⟩),
    fun c wx hx=>ObX.op rfl (O.loadAgg isAgg124 sizeOf124 rfl rfl ((hq4.ext hx).row hlt') ⟨⟨Keep.refl _ _,hx⟩,rfl,trivial,trivial⟩),
    fun c wx hx=>ObX.op rfl (O.move rfl ⟨⟨Keep.refl _ _,hx⟩,rfl,trivial,trivial⟩),
    fun c wx hx=>ObX.op rfl (O.move rfl ⟨⟨Keep.refl _ _,hx⟩,rfl,trivial,trivial⟩),
    fun c wx hx=>ObX.op rfl (O.add64 rfl rfl (by omega) (and3 ⟨⟨Keep.refl _ _,hx⟩,rfl⟩ ⟨trivial,trivial⟩)),
    fun c wx hx=>ObX.op rfl (O.call (xs:=[.tmp 19,.tmp 21]) call253 rfl rfl (rAt_calls lo q r (i+1) wx (hq4.ext hx) (by omega) hlen (by omega)) (fun v wy h=>and3 ⟨⟨h.2,hx.trans h.2⟩,h.1⟩ ⟨trivial,trivial⟩)),
    fun c wx hx=>ObX.op rfl (O.alloc zeroValue124 (fun b wy hb hz he hB=>and3 ⟨⟨he,hx.trans he⟩,b,(0,0),rfl,by have:=hx.size;omega,hB⟩ ⟨fun q hq=>by { cases hq;exact Nat.le_of_eq hb.symm },trivial⟩)),
    fun c wx hx=>ObX.op rfl (O.alloc zeroValue124 (fun b wy hb hz he hB=>and3 ⟨⟨he,hx.trans he⟩,b,(0,0),rfl,by have:=hx.size;omega,hB⟩ ⟨fun q hq=>by { cases hq;exact Nat.le_of_eq hb.symm },trivial⟩)),
    trivial⟩ (fun w7 hI7 v7 hv7 v8 hv8 hp7=>?_)
  obtain ⟨vj,hvj,hfr,_⟩:=hp7 8 9 _ _ _ _ (by decide) (by decide) rfl rfl rfl rfl
  obtain rfl:=hvj _ _ rfl rfl
  obtain ⟨b5,c5,rfl,hb5,hB5⟩:=hv7
  obtain ⟨b6,c6,rfl,hb6,hB6⟩:=hv8
  have hne:b5≠b6:=fun e=>hfr b5 rfl (by rw [e];rfl)
  refine L.o (O.storeAgg sizeOf124 rfl rfl rfl hB5 (Nat.le_refl _) (pC_one (rA r i)) (fun w80 hu80 hB80=>?_))
  have hB6':=Blk.upd (cs:=pC c6) hB6 hu80 (Ne.symm hne)
  refine L.o (O.storeAgg sizeOf124 rfl rfl rfl hB6' (Nat.le_refl _) (pC_one (rB r i)) (fun w81 hu81 hB81=>?_))
  have hA:Blk w81 b5 (pC (rA r i)) 124:=Blk.upd (cs:=pC (rA r i)) hB80 hu81 hne
  have hB:Blk w81 b6 (pC (rB r i)) 124:=hB81
  have he81:Ext w4 w81:=(hI7.upd hu80 (.inr hb5)).upd hu81 (.inr hb6)
  have hP:=Blk.ext (cs:=pC p) hP3 (he4.trans he81)
  refine L.nil (T.seq (T.q (L.o (O.loadAgg isAgg124 sizeOf124 rfl rfl hA.row (L.o (O.loadAgg isAgg124 sizeOf124 rfl rfl hB.row (L.o (O.loadAgg isAgg124 sizeOf124 rfl rfl hP.row (L.o (O.call (xs:=[.tmp 23,.tmp 24,.tmp 25]) call254 rfl rfl (rBetween_calls (rA r i) (rB r i) p w81 na nb hp) (fun v82 w82 hq=>?_)))))))))))
  obtain ⟨hv82,he82⟩:=hq
  have hA:=Blk.ext (cs:=pC (rA r i)) hA he82
  have hB:=Blk.ext (cs:=pC (rB r i)) hB he82
  have hP:=Blk.ext (cs:=pC p) hP he82
  have he382:=he4.trans (he81.trans he82)
  rcases ho:decide (onE (rA r i) (rB r i) p) with _|_
  ·refine L.nil (?_)
   rw [ho] at hv82
   subst hv82
   have hno:=of_decide_eq_false ho
   have hall':∀ k,k<i+1→¬ onE (rA r k) (rB r k) p:=fun k hk=>by
    by_cases e:k=i
    ·subst e;exact hno
    ·exact hall k (by omega)
   rcases hc:(decide ((rA r i).2 > p.2) != decide ((rB r i).2 > p.2)) with _|_
   ·refine T.cf (T.skip (T.seq (?_)))
    refine T.anyE mixed 22 [7,3,8] rfl [.is _,.is _,.is _,.is _,.is _,.is _,.is _,.is _,.is _,.is _,.is (.bool false),.is (.bool false),.is undef,.is undef,.is undef,.is undef,.is undef,.is undef,.is undef,.is undef,.is undef,.is undef] [[],[0],[],[2],[1,3],[],[5],[],[7],[6,8],[4,9],[10],[11],[11],[11],[12,13,14,11],[15,11],[11],[17,11],[11],[19,11],[18,20,11]] [[],[0],[],[2],[0,1,2,3],[],[5],[],[7],[5,6,7,8],[0,1,2,3,4,5,6,7,8,9],[0,1,2,3,4,5,6,7,8,9,10],[0,1,2,3,4,5,6,7,8,9,10,11],[0,1,2,3,4,5,6,7,8,9,10,11],[0,1,2,3,4,5,6,7,8,9,10,11],[0,1,2,3,4,5,6,7,8,9,10,11,12,13,14],[0,1,2,3,4,5,6,7,8,9,10,11,12,13,14,15],[0,1,2,3,4,5,6,7,8,9,10,11],[0,1,2,3,4,5,6,7,8,9,10,11,17],[0,1,2,3,4,5,6,7,8,9,10,11],[0,1,2,3,4,5,6,7,8,9,10,11,19],[0,1,2,3,4,5,6,7,8,9,10,11,17,18,19,20],[0,1,2,3,4,5,6,7,8,9,10,11,12,13,14,15,16,17,18,19,20,21],[0,1,2,3,4,5,6,7,8,9,10,11,12,13,14,15,16,17,18,19,20,21,22]] (by kernel_rfl) (by kernel_rfl) rfl (by kernel_rfl) trivial ⟨fun wx hx=>Ob.o (O.fieldAddr runUnderlying124 rfl sizeOf3 rfl kR),
      fun wx hx=>Ob.o (O.load isAgg3 rfl ((Blk.ext (cs:=pC (rA r i)) hA hx).cell rfl) kR),
      fun wx hx=>Ob.o (O.fieldAddr runUnderlying124 rfl sizeOf3 rfl kR),
      fun wx hx=>Ob.o (O.load isAgg3 rfl ((Blk.ext (cs:=pC p) hP hx).cell rfl) kR),
      fun wx hx=>Ob.o (O.gtr rfl rfl kR),
      fun wx hx=>Ob.o (O.fieldAddr runUnderlying124 rfl sizeOf3 rfl kR),
      fun wx hx=>Ob.o (O.load isAgg3 rfl ((Blk.ext (cs:=pC (rB r i)) hB hx).cell rfl) kR),
      fun wx hx=>Ob.o (O.fieldAddr runUnderlying124 rfl sizeOf3 rfl kR),
      fun wx hx=>Ob.o (O.load isAgg3 rfl ((Blk.ext (cs:=pC p) hP hx).cell rfl) kR),
      fun wx hx=>Ob.o (O.gtr rfl rfl kR),
      fun wx hx=>Ob.o (O.neq_bool runUnderlying4 rfl rfl ⟨Keep.refl _ _,congrArg Value.bool hc⟩),
      fun wx hx=>Ob.o (O.move rfl kR),
      fun wx hx=>Ob.pass rfl rfl,
      fun wx hx=>Ob.pass rfl rfl,
      fun wx hx=>Ob.pass rfl rfl,
      fun wx hx=>Ob.pass rfl rfl,
      fun wx hx=>Ob.pass rfl rfl,
      fun wx hx=>Ob.pass rfl rfl,
      fun wx hx=>Ob.pass rfl rfl,
      fun wx hx=>Ob.pass rfl rfl,
      fun wx hx=>Ob.pass rfl rfl,
      fun wx hx=>Ob.pass rfl rfl,
      trivial⟩ (fun w9 he9=>?_)
    have hcf:crsB (rA r i) (rB r i) p=false:=crs_no hc
    refine L.p (L.o (O.pick_false rfl rfl (L.nil (T.cf (T.skip (T.blk (T.region (L.m rfl (L.o (O.add64 rfl rfl (by omega) (L.a rfl (L.nil (T.again (i+1) (by omega) ⟨rfl,rfl,?_,rfl,trivial⟩ ⟨hlt',he382.trans he9,hall'⟩)))))))))))))
    ·rw [parTo,hcf,Bool.xor_false];rfl
   ·refine T.cf (T.skip (T.seq (?_)))
    refine T.anyE mixed 22 [7,3,8] rfl [.is _,.is _,.is _,.is _,.is _,.is _,.is _,.is _,.is _,.is _,.is (.bool true),.is (.bool true),.is _,.is _,.is _,.is (.int .i64 (turnD (rA r i) (rB r i) p)),.is _,.is _,.is _,.is _,.is _,.is _] [[],[0],[],[2],[1,3],[],[5],[],[7],[6,8],[4,9],[10],[11],[11],[11],[12,13,14,11],[15,11],[11],[17,11],[11],[19,11],[18,20,11]] [[],[0],[],[2],[0,1,2,3],[],[5],[],[7],[5,6,7,8],[0,1,2,3,4,5,6,7,8,9],[0,1,2,3,4,5,6,7,8,9,10],[0,1,2,3,4,5,6,7,8,9,10,11],[0,1,2,3,4,5,6,7,8,9,10,11],[0,1,2,3,4,5,6,7,8,9,10,11],[0,1,2,3,4,5,6,7,8,9,10,11,12,13,14],[0,1,2,3,4,5,6,7,8,9,10,11,12,13,14,15],[0,1,2,3,4,5,6,7,8,9,10,11],[0,1,2,3,4,5,6,7,8,9,10,11,17],[0,1,2,3,4,5,6,7,8,9,10,11],[0,1,2,3,4,5,6,7,8,9,10,11,19],[0,1,2,3,4,5,6,7,8,9,10,11,17,18,19,20],[0,1,2,3,4,5,6,7,8,9,10,11,12,13,14,15,16,17,18,19,20,21],[0,1,2,3,4,5,6,7,8,9,10,11,12,13,14,15,16,17,18,19,20,21,22]] (by kernel_rfl) (by kernel_rfl) rfl (by kernel_rfl) trivial ⟨fun wx hx=>Ob.o (O.fieldAddr runUnderlying124 rfl sizeOf3 rfl kR),
      fun wx hx=>Ob.o (O.load isAgg3 rfl ((Blk.ext (cs:=pC (rA r i)) hA hx).cell rfl) kR),
      fun wx hx=>Ob.o (O.fieldAddr runUnderlying124 rfl sizeOf3 rfl kR),
      fun wx hx=>Ob.o (O.load isAgg3 rfl ((Blk.ext (cs:=pC p) hP hx).cell rfl) kR),
      fun wx hx=>Ob.o (O.gtr rfl rfl kR),
      fun wx hx=>Ob.o (O.fieldAddr runUnderlying124 rfl sizeOf3 rfl kR),
      fun wx hx=>Ob.o (O.load isAgg3 rfl ((Blk.ext (cs:=pC (rB r i)) hB hx).cell rfl) kR),
      fun wx hx=>Ob.o (O.fieldAddr runUnderlying124 rfl sizeOf3 rfl kR),
      fun wx hx=>Ob.o (O.load isAgg3 rfl ((Blk.ext (cs:=pC p) hP hx).cell rfl) kR),
      fun wx hx=>Ob.o (O.gtr rfl rfl kR),
      fun wx hx=>Ob.o (O.neq_bool runUnderlying4 rfl rfl ⟨Keep.refl _ _,congrArg Value.bool hc⟩),
      fun wx hx=>Ob.o (O.move rfl kR),
      fun wx hx=>Ob.o (O.loadAgg isAgg124 sizeOf124 rfl rfl ((Blk.ext (cs:=pC (rA r i)) hA hx).row) kR),
      fun wx hx=>Ob.o (O.loadAgg isAgg124 sizeOf124 rfl rfl ((Blk.ext (cs:=pC (rB r i)) hB hx).row) kR),
      fun wx hx=>Ob.o (O.loadAgg isAgg124 sizeOf124 rfl rfl ((Blk.ext (cs:=pC p) hP hx).row) kR),
      fun wx hx=>Ob.o (O.call (xs:=[.tmp 39,.tmp 40,.tmp 41]) call255 rfl rfl (rTurn_calls (rA r i) (rB r i) p wx na nb hp) (fun v wy h=>⟨h.2,h.1⟩)),
      fun wx hx=>Ob.o (O.gtr rfl rfl kR),
      fun wx hx=>Ob.o (O.fieldAddr runUnderlying124 rfl sizeOf3 rfl kR),
      fun wx hx=>Ob.o (O.load isAgg3 rfl ((Blk.ext (cs:=pC (rB r i)) hB hx).cell rfl) kR),
      fun wx hx=>Ob.o (O.fieldAddr runUnderlying124 rfl sizeOf3 rfl kR),
      fun wx hx=>Ob.o (O.load isAgg3 rfl ((Blk.ext (cs:=pC (rA r i)) hA hx).cell rfl) kR),
      fun wx hx=>Ob.o (O.gtr rfl rfl kR),
      trivial⟩ (fun w9 he9=>?_)
    refine L.o (O.eql_bool runUnderlying4 rfl rfl (?_))
    rcases hcr:(decide (turnD (rA r i) (rB r i) p > 0) == decide ((rB r i).2 > (rA r i).2)) with _|_
    ·refine L.o (O.pick_true rfl rfl (L.nil (T.cf (T.skip (T.blk (T.region (L.m rfl (L.o (O.add64 rfl rfl (by omega) (L.a rfl (L.nil (T.again (i+1) (by omega) ⟨rfl,rfl,?_,rfl,trivial⟩ ⟨hlt',he382.trans he9,hall'⟩))))))))))))
     ·rw [parTo,(crs_eq hc).trans hcr,Bool.xor_false];rfl
    ·refine L.o (O.pick_true rfl rfl (L.nil (T.ct (T.region (L.m rfl (L.o (O.not rfl (L.a rfl (L.nil (T.blk (T.region (L.m rfl (L.o (O.add64 rfl rfl (by omega) (L.a rfl (L.nil (T.again (i+1) (by omega) ⟨rfl,rfl,?_,rfl,trivial⟩ ⟨hlt',he382.trans he9,hall'⟩)))))))))))))))))
     ·rw [parTo,(crs_eq hc).trans hcr,Bool.xor_true];rfl
  ·refine L.nil (?_)
   rw [ho] at hv82
   subst hv82
   refine T.ct (T.q (L.a rfl (L.nil (T.ret1 results223 rfl ⟨by rw [place_yes hlt' (of_decide_eq_true ho)],he3.trans he382⟩))))
 ·refine L.nil (?_)
  obtain rfl:i=r.length:=by omega
  rcases hpt:parTo r p r.length with _|_
  ·refine T.cf (T.exit rfl (T.seq (T.q (L.m rfl (L.nil (T.cf (T.skip (T.q (L.a rfl (L.nil (T.ret1 results223 rfl ⟨by rw [place_no hall,hpt];rfl,he3.trans he4⟩)))))))))))
  ·refine T.cf (T.exit rfl (T.seq (T.q (L.m rfl (L.nil (T.ct (T.q (L.a rfl (L.nil (T.ret1 results223 rfl ⟨by rw [place_no hall,hpt];rfl,he3.trans he4⟩))))))))))

end Go.Proofs.YtnlonpcbgjbbaaaGreatDoor
