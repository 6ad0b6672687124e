/-
  BlocksParses, part 12 of its proof: that it returns true for every input, and each argument reads behind the call as it read before. Conditions: the listed variables read as the program's text lays them (tied by the card).
-/
import Derived.Test.YtnlonpcbgjbbaaaGreatDoorWBlocksParses11
set_option linter.unusedVariables false
set_option linter.unusedSimpArgs false
set_option maxRecDepth 20000
namespace Go.Proofs.YtnlonpcbgjbbaaaGreatDoor
open Go Go.E
attribute [local irreducible] Go.E.T Go.E.L Go.E.O Go.E.Ob
variable {B K k x y:Int} {l:List Int} {ps r:List Pt} {i j:Nat} {A D a b c d p:Pt} {t t1 t2:Rat}
namespace Geo
def oP (f:Nat→Rat):Nat→Rat
 | 0=>0
 | n+1=>oP f n+f n
def I7 (f:Nat→Int):Nat→Int
 | 0=>0
 | n+1=>I7 f n+f n
def jE (f:Nat→Bool):Nat→Bool
 | 0=>false
 | n+1=>jE f n ^^ f n
def rZ (f:Nat→Bool):Nat→Nat
 | 0=>0
 | n+1=>rZ f n+(if f n then 1 else 0)
theorem jA {f g:Nat→Rat} : ∀ {n},(∀ i,i<n→f i=g i)→oP f n=oP g n
 | 0,_=>rfl
 | n+1,h=>by rw [oP,oP,jA fun i hi=>h i omX,h n omX]
theorem vH {f g:Nat→Int} : ∀ {n},(∀ i,i<n→f i=g i)→I7 f n=I7 g n
 | 0,_=>rfl
 | n+1,h=>by rw [I7,I7,vH fun i hi=>h i omX,h n omX]
theorem kL {f g:Nat→Bool} : ∀ {n},(∀ i,i<n→f i=g i)→jE f n=jE g n
 | 0,_=>rfl
 | n+1,h=>by rw [jE,jE,kL fun i hi=>h i omX,h n omX]
theorem Du {f g:Nat→Bool} : ∀ {n},(∀ i,i<n→f i=g i)→rZ f n=rZ g n
 | 0,_=>rfl
 | n+1,h=>by rw [rZ,rZ,Du fun i hi=>h i omX,h n omX]
theorem BO (f g:Nat→Rat):∀ n,oP (fun i=>f i+g i) n=oP f n+oP g n
 | 0=>(Rat.add_zero 0).symm
 | n+1=>by rw [oP,oP,oP,BO f g n];grind
theorem yt (c:Rat) (f:Nat→Rat):∀ n,oP (fun i=>c*f i) n=c*oP f n
 | 0=>by simp [oP]
 | n+1=>by rw [oP,oP,yt c f n];grind
theorem QZ (f g:Nat→Int):∀ n,I7 (fun i=>f i+g i) n=I7 f n+I7 g n
 | 0=>by simp [I7]
 | n+1=>by rw [I7,I7,I7,QZ f g n];omega
theorem yu (f g:Nat→Bool):∀ n,jE (fun i=>f i ^^ g i) n=(jE f n ^^ jE g n)
 | 0=>rfl
 | n+1=>by rw [jE,jE,jE,yu f g n];cases jE f n <;> cases jE g n <;> cases f n <;> cases g n <;> rfl
theorem Dv (f:Nat→Bool):∀ n,jE (fun i=>f i ^^ f (i+1)) n=(f 0 ^^ f n)
 | 0=>by simp [jE]
 | n+1=>by rw [jE,Dv f n];cases f 0 <;> cases f n <;> cases f (n+1) <;> rfl
theorem Q5 (f:Nat→Rat):∀ n,oP (fun i=>f (i+1)-f i) n=f n-f 0
 | 0=>by rw [oP];grind
 | n+1=>by rw [oP,Q5 f n];grind
theorem yw:∀ n,oP (fun _=>0) n=0
 | 0=>rfl
 | n+1=>by rw [oP,yw n];grind
theorem Dw:∀ n,I7 (fun _=>0) n=0
 | 0=>rfl
 | n+1=>by rw [I7,Dw n];rfl
theorem Q7 {f:Nat→Rat} {m:Nat} : ∀ {n},m<n→(∀ i,i<n→i≠m→f i=0)→oP f n=f m
 | 0,h,_=>absurd h omX
 | n+1,h,h0=>by
  rw [oP]
  rcases Nat.lt_or_ge m n with a|a
  ·rw [Q7 a fun i hi=>h0 i omX,h0 n omX omX];grind
  obtain rfl:m=n:=by omega
  rw [jA (g:=fun _=>0) fun i hi=>h0 i omX omX,yw];grind
theorem Q8 {f:Nat→Int} {m:Nat} : ∀ {n},m<n→(∀ i,i<n→i≠m→f i=0)→I7 f n=f m
 | 0,h,_=>absurd h omX
 | n+1,h,h0=>by
  rw [I7]
  rcases Nat.lt_or_ge m n with a|a
  ·rw [Q8 a fun i hi=>h0 i omX,h0 n omX omX];omega
  obtain rfl:m=n:=by omega
  rw [vH (g:=fun _=>0) fun i hi=>h0 i omX omX,Dw];omega
theorem wS:∀ n,jE (fun _=>false) n=false
 | 0=>rfl
 | n+1=>by rw [jE,wS n];rfl
theorem yx {f:Nat→Bool} {m:Nat} : ∀ {n},m<n→(∀ i,i<n→i≠m→f i=false)→jE f n=f m
 | 0,h,_=>absurd h omX
 | n+1,h,h0=>by
  rw [jE]
  rcases Nat.lt_or_ge m n with a|a
  ·rw [yx a fun i hi=>h0 i omX,h0 n omX omX,Bool.xor_false]
  obtain rfl:m=n:=by omega
  rw [kL (g:=fun _=>false) fun i hi=>h0 i omX omX,wS,Bool.false_xor]
theorem Dx:∀ n,rZ (fun _=>false) n=0
 | 0=>rfl
 | n+1=>by rw [rZ,Dx n];rfl
theorem GH {f g:Nat→Bool} : ∀ {n},(∀ i,i<n→f i=true→g i=true)→rZ f n≤rZ g n
 | 0,_=>Nat.le_refl _
 | n+1,h=>by
  rw [rZ,rZ]
  have b:=GH (n:=n) fun i hi=>h i omX
  have a:=h n omX
  by_cases hf:f n=true
  ·rw [if_pos hf,if_pos (a hf)];omega
  rw [if_neg hf];omega
theorem I8 {f g:Nat→Bool} {m:Nat} : ∀ {n},m<n→f m=false→g m=true→(∀ i,i<n→f i=true→g i=true)→rZ f n<rZ g n
 | 0,h,_,_,_=>absurd h omX
 | n+1,h,hf,c,a=>by
  rw [rZ,rZ]
  rcases Nat.lt_or_ge m n with b|b
  ·have b:=I8 b hf c fun i hi=>a i omX
   have d:=a n omX
   by_cases hf:f n=true
   ·rw [if_pos hf,if_pos (d hf)];omega
   rw [if_neg hf];omega
  obtain rfl:m=n:=by omega
  have:=GH (n:=m) fun i hi=>a i omX
  rw [hf,c];simp;omega
theorem GI (x:Nat→Rat) (c:Nat→Bool):∀ n,(∃ i,i<n∧c i=true)→∃ m,m<n∧c m=true∧∀ i,i<n→c i=true→x m≤x i
 | 0,⟨_,h,_⟩=>absurd h omX
 | n+1,⟨i,hi,p⟩=>by
  by_cases h:∃ i,i<n∧c i=true
  ·obtain ⟨m,q,k,g⟩:=GI x c n h
   by_cases hn:c n=true
   ·rcases Rat.le_total (a:=x m) (b:=x n) with l|l
    ·exact ⟨m,omX,k,fun j o d=>by
      rcases Nat.lt_or_ge j n with f|f
      ·exact g j f d
      obtain rfl:j=n:=by omega
      exact l⟩
    exact ⟨n,omX,hn,fun j o d=>by
     rcases Nat.lt_or_ge j n with f|f
     ·exact Rat.le_trans l (g j f d)
     obtain rfl:j=n:=by omega
     exact Rat.le_refl⟩
   exact ⟨m,omX,k,fun j o d=>by
    rcases Nat.lt_or_ge j n with f|f
    ·exact g j f d
    obtain rfl:j=n:=by omega
    exact absurd d hn⟩
  have e:i=n:=by
   rcases Nat.lt_or_ge i n with f|f
   ·exact absurd ⟨i,f,p⟩ h
   omega
  subst e
  exact ⟨i,omX,p,fun j o d=>by
   rcases Nat.lt_or_ge j i with f|f
   ·exact absurd ⟨j,f,d⟩ h
   obtain rfl:j=i:=by omega
   exact Rat.le_refl⟩
structure Alt (n:Nat) (c:Nat→Bool) (x:Nat→Rat) (up:Nat→Bool) (F:Bool):Prop where
 inj:∀ i j,i<n→j<n→c i=true→c j=true→x i=x j→i=j
 alt:∀ i,i<n→c i=true→up i=(F ^^ jE (fun j=>c j && decide (x i<x j)) n)
def gtB (c:Nat→Bool) (x:Nat→Rat) (X0:Rat) (i:Nat):Bool:=c i && decide (X0<x i)
def sgB (b:Bool):Int:=if b then 1 else -1
def YG (c:Nat→Bool) (x:Nat→Rat) (up:Nat→Bool) (X0:Rat) (n:Nat):Int:=I7 (fun i=>if gtB c x X0 i=true then sgB (up i) else 0) n
def U0 (c:Nat→Bool) (x:Nat→Rat) (up:Nat→Bool) (X0:Rat) (n:Nat):Rat:=oP (fun i=>if gtB c x X0 i=true then (sgB (up i):Rat)*x i else 0) n
theorem Alt.step {n:Nat} {c:Nat→Bool} {x:Nat→Rat} {up:Nat→Bool} {F:Bool} (h:Alt n c x up F) (b:Rat) (q:∃ i,i<n∧gtB c x b i=true):∃ m,m<n∧gtB c x b m=true∧b<x m∧(∀ i,i<n→i≠m→gtB c x b i=gtB c x (x m) i)∧gtB c x (x m) m=false∧rZ (gtB c x (x m)) n<rZ (gtB c x b) n∧up m=(F ^^ jE (gtB c x (x m)) n):=by
 obtain ⟨m,g,a,k⟩:=GI x (gtB c x b) n q
 have j:=a
 simp only [gtB,Bool.and_eq_true,decide_eq_true_eq] at j
 have d:gtB c x (x m) m=false:=by simp [gtB,Rat.lt_irrefl]
 have hsame:∀ i,i<n→i≠m→gtB c x b i=gtB c x (x m) i:=fun i hi l=>by
  by_cases f:c i=true
  ·by_cases hx:b<x i
   ·have o:=k i hi (by simp [gtB,f,hx])
    have p:x m≠x i:=fun e=>l (h.inj i m hi g f j.1 e.symm)
    have r:x m<x i:=Rat.lt_of_le_of_ne o p
    simp [gtB,f,hx,r]
   have o:¬ x m<x i:=fun p=>hx (by grind)
   simp [gtB,f,hx,o]
  simp [gtB,f]
 exact ⟨m,g,a,j.2,hsame,d,I8 g d a fun i hi s=>by
  by_cases e:i=m
  ·rw [e];exact a
  rw [hsame i hi e];exact s,h.alt m g j.1⟩
theorem Alt.sums {n : Nat} {c : Nat → Bool} {x : Nat → Rat} {up : Nat → Bool} {F : Bool} (h : Alt n c x up F) : ∀ (k : Nat) (a : Rat), rZ (gtB c x a) n ≤ k → YG c x up a n = (if jE (gtB c x a) n = true then sgB F else 0)
      ∧ (jE (gtB c x a) n = true → a < (sgB F : Rat) * U0 c x up a n)
      ∧ (jE (gtB c x a) n = false → 0 ≤ (sgB F : Rat) * U0 c x up a n ∧ ((∃ i, i < n ∧ gtB c x a i = true) → 0 < (sgB F : Rat) * U0 c x up a n)) := by
  intro k
  induction k with
  | zero =>
    intro a A
    have b : ∀ i, i < n → gtB c x a i = false := fun i hi => by
      cases o : gtB c x a i with
      | false => rfl
      | true =>
        have := I8 (f := fun _ => false) (g := gtB c x a) hi rfl o fun _ _ h => by simp at h
        omega
    have e1 : jE (gtB c x a) n = false := by rw [kL (g := fun _ => false) b, wS]
    have q : YG c x up a n = 0 := by
      rw [YG, vH (g := fun _ => 0) fun i hi => by rw [b i hi]; rfl, Dw]
    have r : U0 c x up a n = 0 := by
      rw [U0, jA (g := fun _ => 0) fun i hi => by rw [b i hi]; rfl, yw]
    rw [e1, q, r]
    refine ⟨rfl, fun h => by simp at h, fun _ => ⟨by rw [Rat.mul_zero]; exact Rat.le_refl, fun ⟨i, hi, o⟩ => ?_⟩⟩
    rw [b i hi] at o; simp at o
  | succ k ih =>
    intro a A
    by_cases y : ∃ i, i < n ∧ gtB c x a i = true
    · obtain ⟨m, s, j, B, hsame, l, z, t⟩ := h.step a y
      obtain ⟨C, i2, i3⟩ := ih (x m) omX
      have e1 : jE (gtB c x a) n = !jE (gtB c x (x m)) n := by
        have p : jE (fun i => gtB c x a i ^^ gtB c x (x m) i) n = true := by
          rw [yx s fun i hi d => by rw [hsame i hi d, Bool.xor_self], j, l]; rfl
        rw [yu] at p
        revert p
        cases jE (gtB c x a) n <;> cases jE (gtB c x (x m)) n <;> simp
      have q : YG c x up a n = sgB (up m) + YG c x up (x m) n := by
        have p : I7 (fun i => if i = m then sgB (up m) else 0) n = sgB (up m) := by
          rw [Q8 s fun i hi d => if_neg d, if_pos rfl]
        rw [← p, YG, YG, ← QZ]
        refine vH fun i hi => ?_
        by_cases e : i = m
        · subst e; rw [j, l]; simp
        rw [hsame i hi e, if_neg e]; simp
      have r : U0 c x up a n = (sgB (up m) : Rat) * x m + U0 c x up (x m) n := by
        have p : oP (fun i => if i = m then (sgB (up m) : Rat) * x m else 0) n = (sgB (up m) : Rat) * x m := by
          rw [Q7 s fun i hi d => if_neg d, if_pos rfl]
        rw [← p, U0, U0, ← BO]
        refine jA fun i hi => ?_
        by_cases e : i = m
        · subst e; rw [j, l]; simp [Rat.add_zero]
        rw [hsame i hi e, if_neg e]; simp [Rat.zero_add]
      rw [e1, q, r, C, t]
      cases hx : jE (gtB c x (x m)) n with
      | true =>
        have u := i2 hx
        refine ⟨by cases F <;> simp [sgB], fun h => by simp at h, fun _ => ?_⟩
        have : 0 < (sgB F : Rat) * ((sgB (F ^^ true) : Rat) * x m + U0 c x up (x m) n) := by
          revert u
          cases F <;> simp [sgB] <;> intro h <;> grind
        exact ⟨Rat.le_of_lt this, fun _ => this⟩
      | false =>
        have v := (i3 hx).1
        refine ⟨by cases F <;> simp [sgB], fun _ => ?_, fun h => by simp at h⟩
        revert v
        cases F <;> simp [sgB] <;> intro h <;> grind
    have b : ∀ i, i < n → gtB c x a i = false := fun i hi => by
      cases o : gtB c x a i with
      | false => rfl
      | true => exact absurd ⟨i, hi, o⟩ y
    have e : rZ (gtB c x a) n = 0 := by
      rw [Du (g := fun _ => false) b, Dx]
    have w := ih a omX
    exact w
def opn (Y:Nat→Int) (i:Nat) (t:Rat):Prop:=((Y i:Rat)<t∧t<(Y (i+1):Rat))∨((Y (i+1):Rat)<t∧t<(Y i:Rat))
def cls (Y:Nat→Int) (i:Nat) (t:Rat):Prop:=((Y i:Rat)≤t∧t≤(Y (i+1):Rat))∨((Y (i+1):Rat)≤t∧t≤(Y i:Rat))
def lin (p q:Nat→Rat) (i:Nat) (t:Rat):Rat:=p i+q i*t
structure Poly (n:Nat) (X:Nat→Rat) (Y:Nat→Int) (p q:Nat→Rat):Prop where
 n2:2≤n
 afe:X n=X 0
 Q9:Y n=Y 0
 dist:∀ i j,i<n→j<n→Y i=Y j→i=j
 left:∀ i,i<n→lin p q i (Y i:Rat)=X i
 right:∀ i,i<n→lin p q i (Y (i+1):Rat)=X (i+1)
 apart:∀ i j,i<n→j<n→i≠j→∀ t:Rat,opn Y i t→cls Y j t→lin p q i t≠lin p q j t
def hf (k:Int):Rat:=(k:Rat)+1 / 2
def crB (Y:Nat→Int) (k:Int) (i:Nat):Bool:=decide ((Y i≤k∧k<Y (i+1))∨(Y (i+1)≤k∧k<Y i))
theorem aff (h:k<y):hf k<(y:Rat):=by
 have a:((k+1:Int):Rat)≤(y:Rat):=Rat.intCast_le_intCast.2 omX
 rw [Rat.intCast_add] at a
 have:((1:Int):Rat)=1:=rfl
 rw [this] at a
 unfold hf
 grind
theorem afg (h:y≤k):(y:Rat)<hf k:=by
 have a:(y:Rat)≤(k:Rat):=Rat.intCast_le_intCast.2 h
 unfold hf
 grind
theorem iT {Y:Nat→Int} (h:crB Y k i=true):opn Y i (hf k):=by
 simp only [crB,decide_eq_true_eq] at h
 rcases h with ⟨a,b⟩|⟨a,b⟩
 ·exact .inl ⟨afg a,aff b⟩
 exact .inr ⟨afg a,aff b⟩
theorem opn.cls {Y:Nat→Int} {i:Nat} {t:Rat} (h:opn Y i t):cls Y i t:=by
 rcases h with ⟨a,b⟩|⟨a,b⟩
 ·exact .inl ⟨Rat.le_of_lt a,Rat.le_of_lt b⟩
 exact .inr ⟨Rat.le_of_lt a,Rat.le_of_lt b⟩
theorem TT {a b:Rat} (d:a+b*t1<0) (f:0<a+b*t2):∃ t,(t1<t∧t<t2∨t2<t∧t<t1)∧a+b*t=0:=by
 have hb:b≠0:=by intro e;rw [e] at d f;grind
 have e:b*(-a / b) = -a:=by rw [Rat.mul_comm];exact Rat.div_mul_cancel hb
 refine ⟨-a / b,?_,by rw [e];grind⟩
 generalize -a / b=t at e
 rcases Rat.le_total (a:=0) (b:=b) with h|h
 ·have c:0<b:=Rat.lt_of_le_of_ne h (Ne.symm hb)
  left
  exact ⟨(Rat.mul_lt_mul_left c).1 (by grind),(Rat.mul_lt_mul_left c).1 (by grind)⟩
 have c:0 < -b:=by grind
 right
 exact ⟨(Rat.mul_lt_mul_left c).1 (by grind),(Rat.mul_lt_mul_left c).1 (by grind)⟩
theorem acv {Y:Nat→Int} (a:opn Y i t1) (b:opn Y i t2) (h:t1<t∧t<t2∨t2<t∧t<t1):opn Y i t:=by
 unfold opn at *
 grind
theorem acw {Y:Nat→Int} (a:cls Y i t1) (b:cls Y i t2) (h:t1<t∧t<t2∨t2<t∧t<t1):cls Y i t:=by
 unfold cls at *
 grind
namespace Poly
variable {n:Nat} {X:Nat→Rat} {Y:Nat→Int} {p q:Nat→Rat}
theorem I9 (h:Poly n X Y p q) (hi:i<n) (e:j<n) (c:i≠j) (l:opn Y i t1) (f:opn Y i t2) (m:cls Y j t1) (g:cls Y j t2) (o:lin p q i t1<lin p q j t1):lin p q i t2<lin p q j t2:=by
 have hn:=h.apart i j hi e c t2 f g
 rcases Rat.le_total (a:=lin p q i t2) (b:=lin p q j t2) with d|d
 ·exact Rat.lt_of_le_of_ne d hn
 have r:lin p q j t2<lin p q i t2:=Rat.lt_of_le_of_ne d (Ne.symm hn)
 unfold lin at *
 obtain ⟨t,k,h0⟩:=TT (a:=p i-p j) (b:=q i-q j) (t1:=t1) (t2:=t2) (by grind) (by grind)
 exact absurd (by unfold lin;grind) (h.apart i j hi e c t (acv l f k) (acw m g k))
theorem Rf (h:Poly n X Y p q) (hi:i<n) (e:j<n) (c:i≠j) (k:opn Y i t1) (f:opn Y i t2) (l:cls Y j t1) (g:cls Y j t2) (m:lin p q j t1<lin p q i t1):lin p q j t2<lin p q i t2:=by
 have hn:=h.apart i j hi e c t2 f g
 rcases Rat.le_total (a:=lin p q i t2) (b:=lin p q j t2) with d|d
 ·have o:=Rat.lt_of_le_of_ne d hn
  have:=h.I9 hi e c f k g l o
  grind
 exact Rat.lt_of_le_of_ne d (Ne.symm hn)
theorem side (h:Poly n X Y p q) (hi:i<n) (b:j<n) (a:i≠j) (c:opn Y i t1) (d:opn Y i t2) (e:cls Y j t1) (f:cls Y j t2):decide (lin p q j t1<lin p q i t1)=decide (lin p q j t2<lin p q i t2) :=
 decide_eq_decide.2 ⟨h.Rf hi b a c d e f,h.Rf hi b a d c f e⟩
theorem acy (h:Poly n X Y p q) (hi:i<n) (b:j<n) (a:i≠j) (c:opn Y i t1) (d:opn Y i t2) (e:cls Y j t1) (f:cls Y j t2):decide (lin p q i t1<lin p q j t1)=decide (lin p q i t2<lin p q j t2) :=
 decide_eq_decide.2 ⟨h.I9 hi b a c d e f,h.I9 hi b a d c f e⟩
def far (Y:Nat→Int) (p q:Nat→Rat) (n:Nat) (i:Nat) (k:Int):Bool:=jE (fun j=>crB Y k j && decide (lin p q i (hf k)<lin p q j (hf k))) n
def upB (Y:Nat→Int) (i:Nat):Bool:=decide (Y i<Y (i+1))
theorem nx (h:Poly n X Y p q) (hi:i<n):Y i≠Y (i+1):=fun e=>by
 rcases Nat.lt_or_ge (i+1) n with a|a
 ·have:=h.dist i (i+1) hi a e;omega
 have e1:i+1=n:=by omega
 have b:=h.n2
 rw [e1,h.Q9] at e
 have:=h.dist i 0 hi omX e
 omega
theorem Rh (h:k<y):(k:Rat)<(y:Rat):=Rat.intCast_lt_intCast.2 h
theorem Ja (h:k≤y):(k:Rat)≤(y:Rat):=Rat.intCast_le_intCast.2 h
theorem V9 (h:Y i<k∧k<Y (i+1)∨Y (i+1)<k∧k<Y i):opn Y i (k:Rat):=by
 rcases h with h|h
 ·exact .inl ⟨Rh h.1,Rh h.2⟩
 exact .inr ⟨Rh h.1,Rh h.2⟩
theorem Jb (h:Y i≤k∧k≤Y (i+1)∨Y (i+1)≤k∧k≤Y i):cls Y i (k:Rat):=by
 rcases h with h|h
 ·exact .inl ⟨Ja h.1,Ja h.2⟩
 exact .inr ⟨Ja h.1,Ja h.2⟩
theorem iJ : crB Y k i=true↔(Y i≤k∧k<Y (i+1)∨Y (i+1)≤k∧k<Y i):=by simp [crB]
theorem acz (h:Poly n X Y p q) (hi:i<n) (h0:crB Y (k-1) i=true) (s:crB Y k i=true):far Y p q n i (k-1)=far Y p q n i k:=by
 have c0:=iJ.1 h0
 have c1:=iJ.1 s
 have hs:(far Y p q n i (k-1) ^^ far Y p q n i k)=false:=by
  rw [far,far,← yu]
  have:jE (fun j=>decide (Y j=k∧lin p q i (k:Rat)<X j) ^^ decide (Y (j+1)=k∧lin p q i (k:Rat)<X (j+1))) n=false:=by
   rw [Dv (fun j=>decide (Y j=k∧lin p q i (k:Rat)<X j)),h.afe,h.Q9,Bool.xor_self]
  rw [← this]
  refine kL fun j d=>?_
  by_cases e:i=j
  ·subst e
   have e1:¬ Y i=k:=by omega
   have c:¬ Y (i+1)=k:=by omega
   simp [e1,c,Rat.lt_irrefl]
  have ho:opn Y i (k:Rat):=V9 omX
  have f:=iT h0
  have g:=iT s
  have t:=h.nx d
  have l:=h.left j d
  have m:=h.right j d
  cases a:crB Y (k-1) j <;> cases b:crB Y k j
  ·have o:¬ _:=fun x=>by rw [iJ.2 x] at a;cases a
   have r:¬ _:=fun x=>by rw [iJ.2 x] at b;cases b
   have e1:¬ Y j=k:=by omega
   have c:¬ Y (j+1)=k:=by omega
   simp [e1,c]
  ·have o:¬ _:=fun x=>by rw [iJ.2 x] at a;cases a
   have r:=iJ.1 b
   have:=h.acy hi d e g ho (iT b).cls (Jb omX)
   rw [this]
   rcases (show Y j=k∧¬ Y (j+1)=k∨Y (j+1)=k∧¬ Y j=k by omega) with ⟨e1,c⟩|⟨e1,c⟩
   ·rw [e1] at l;simp [e1,c,l]
   rw [e1] at m;simp [e1,c,m]
  ·have o:=iJ.1 a
   have r:¬ _:=fun x=>by rw [iJ.2 x] at b;cases b
   have:=h.acy hi d e f ho (iT a).cls (Jb omX)
   rw [this]
   rcases (show Y j=k∧¬ Y (j+1)=k∨Y (j+1)=k∧¬ Y j=k by omega) with ⟨e1,c⟩|⟨e1,c⟩
   ·rw [e1] at l;simp [e1,c,l]
   rw [e1] at m;simp [e1,c,m]
  have o:=iJ.1 a
  have r:=iJ.1 b
  have:=h.acy hi d e f g (iT a).cls (iT b).cls
  rw [this]
  have e1:¬ Y j=k:=by omega
  have c:¬ Y (j+1)=k:=by omega
  simp [e1,c]
 revert hs
 cases far Y p q n i (k-1) <;> cases far Y p q n i k <;> simp
theorem Dy (h:Poly n X Y p q) {i:Nat} (hi:i<n) {k:Int} (a:crB Y k i=true):∀ d:Nat,crB Y (k+d) i=true→far Y p q n i (k+d)=far Y p q n i k
 | 0,_=>by simp
 | d+1,b=>by
  have c0:=iJ.1 a
  have c1:=iJ.1 b
  have c:crB Y (k+d) i=true:=iJ.2 omX
  rw [← h.Dy hi a d c]
  have e:k+((d+1:Nat):Int)-1=k+d:=by omega
  have:=h.acz hi (k:=k+((d+1:Nat):Int)) (by rw [e];exact c) b
  rw [e] at this
  exact this.symm
theorem yA (h:Poly n X Y p q) (hi:i<n) {m:Int} (b:crB Y k i=true) (c:crB Y m i=true):far Y p q n i k=far Y p q n i m:=by
 rcases Int.le_total k m with a|a
 ·have:=h.Dy hi b (m-k).toNat (by rw [show k+((m-k).toNat:Int)=m by omega];exact c)
  rw [show k+((m-k).toNat:Int)=m by omega] at this
  exact this.symm
 have:=h.Dy hi c (k-m).toNat (by rw [show m+((k-m).toNat:Int)=k by omega];exact b)
 rw [show m+((k-m).toNat:Int)=k by omega] at this
 exact this
theorem other (h:Poly n X Y p q) {a b:Int} (hi:i+1<n) (g:j<n) (o:j≠i) (l:j≠i+1) (ha:crB Y a i=true) (hb:crB Y b (i+1)=true) (hA:a=Y (i+1)∨a=Y (i+1)-1) (hB:b=Y (i+1)∨b=Y (i+1)-1) :
  (crB Y a j && decide (lin p q i (hf a)<lin p q j (hf a)))=(crB Y b j && decide (lin p q (i+1) (hf b)<lin p q j (hf b))):=by
 have n1:Y j≠Y (i+1):=fun e=>l (h.dist j (i+1) g hi e)
 have n2:Y (j+1)≠Y (i+1):=fun e=>by
  rcases Nat.lt_or_ge (j+1) n with m|m
  ·have:=h.dist (j+1) (i+1) m hi e;omega
  have e1:j+1=n:=by omega
  rw [e1,h.Q9] at e
  have:=h.dist 0 (i+1) omX hi e
  omega
 have k:crB Y a j=crB Y b j:=by
  have:∀ c,c=Y (i+1)∨c=Y (i+1)-1→crB Y c j=crB Y (Y (i+1)) j:=fun c k=>by
   rw [crB,crB]
   exact decide_eq_decide.2 omX
  rw [this a hA,this b hB]
 rw [← k]
 cases d:crB Y a j with
 | false=>rfl
 | true =>
  have f:=k▸d
  have ca:=iJ.1 d
  have cb:=iJ.1 f
  have ia:=iJ.1 ha
  have ib:=iJ.1 hb
  have ho:opn Y j (Y (i+1):Rat):=V9 omX
  have e1:=h.side g (by omega:i<n) o (iT d) ho (iT ha).cls (Jb omX)
  have r:=h.side g hi l (iT f) ho (iT hb).cls (Jb omX)
  rw [e1,r,h.right i omX,h.left (i+1) hi]
theorem L9 (h:Poly n X Y p q) {a b:Int} (hi:i+1<n) (ha:crB Y a i=true) (hb:crB Y b (i+1)=true) (hA:a=Y (i+1)∨a=Y (i+1)-1) (hB:b=Y (i+1)∨b=Y (i+1)-1) (d:crB Y b i=false) (e:crB Y a (i+1)=false):far Y p q n i a=far Y p q n (i+1) b:=by
 refine kL fun j f=>?_
 by_cases e1:j=i
 ·subst e1;rw [d];simp [Rat.lt_irrefl]
 by_cases c:j=i+1
 ·subst c;rw [e];simp [Rat.lt_irrefl]
 exact h.other hi f e1 c ha hb hA hB
theorem Mc (h:Poly n X Y p q) {a:Int} (hi:i+1<n) (ha:crB Y a i=true) (hb:crB Y a (i+1)=true) (hA:a=Y (i+1)∨a=Y (i+1)-1):(far Y p q n i a ^^ far Y p q n (i+1) a)=true:=by
 have hn:=h.apart i (i+1) omX hi omX _ (iT ha) (iT hb).cls
 rw [far,far,← yu]
 by_cases c:lin p q i (hf a)<lin p q (i+1) (hf a)
 ·rw [yx hi fun j e b=>?_]
  ·simp [hb,c,Rat.lt_irrefl]
  by_cases e1:j=i
  ·subst e1
   have:¬ lin p q (j+1) (hf a)<lin p q j (hf a):=by grind
   simp [this,Rat.lt_irrefl]
  rw [h.other hi e e1 b ha hb hA hA,Bool.xor_self]
 have d:lin p q (i+1) (hf a)<lin p q i (hf a):=by grind
 rw [yx (by omega:i<n) fun j e b=>?_]
 ·simp [ha,d,Rat.lt_irrefl]
 by_cases e1:j=i+1
 ·subst e1
  simp [c,Rat.lt_irrefl]
 rw [h.other hi e b e1 ha hb hA hA,Bool.xor_self]
def lev (Y:Nat→Int) (i:Nat):Int:=if Y i<Y (i+1) then Y i else Y (i+1)
theorem Ri (h:Poly n X Y p q) (hi:i<n):crB Y (lev Y i) i=true:=by
 have:=h.nx hi
 rw [iJ,lev]
 split <;> omega
theorem Wh (h:Poly n X Y p q) (hi:i+1<n):(upB Y i ^^ far Y p q n i (lev Y i))=(upB Y (i+1) ^^ far Y p q n (i+1) (lev Y (i+1))):=by
 have n1:=h.nx (i:=i) omX
 have n2:=h.nx hi
 have l1:=h.Ri (i:=i) omX
 have l2:=h.Ri hi
 rcases Int.lt_or_gt_of_ne n1 with a|a <;> rcases Int.lt_or_gt_of_ne n2 with a2|a2
 ·have ha:crB Y (Y (i+1)-1) i=true:=iJ.2 omX
  have hb:crB Y (Y (i+1)) (i+1)=true:=iJ.2 omX
  have b:crB Y (Y (i+1)) i=false:=by rw [crB];exact decide_eq_false omX
  have c:crB Y (Y (i+1)-1) (i+1)=false:=by rw [crB];exact decide_eq_false omX
  have:=h.L9 hi ha hb omX omX b c
  rw [h.yA omX l1 ha,h.yA hi l2 hb,this,upB,upB,decide_eq_true a,decide_eq_true a2]
 ·have ha:crB Y (Y (i+1)-1) i=true:=iJ.2 omX
  have hb:crB Y (Y (i+1)-1) (i+1)=true:=iJ.2 omX
  have:=h.Mc hi ha hb omX
  rw [h.yA omX l1 ha,h.yA hi l2 hb,upB,upB,decide_eq_true a,decide_eq_false omX]
  revert this
  cases far Y p q n i (Y (i+1)-1) <;> cases far Y p q n (i+1) (Y (i+1)-1) <;> simp
 ·have ha:crB Y (Y (i+1)) i=true:=iJ.2 omX
  have hb:crB Y (Y (i+1)) (i+1)=true:=iJ.2 omX
  have:=h.Mc hi ha hb omX
  rw [h.yA omX l1 ha,h.yA hi l2 hb,upB,upB,decide_eq_false omX,decide_eq_true a2]
  revert this
  cases far Y p q n i (Y (i+1)) <;> cases far Y p q n (i+1) (Y (i+1)) <;> simp
 have ha:crB Y (Y (i+1)) i=true:=iJ.2 omX
 have hb:crB Y (Y (i+1)-1) (i+1)=true:=iJ.2 omX
 have b:crB Y (Y (i+1)-1) i=false:=by rw [crB];exact decide_eq_false omX
 have c:crB Y (Y (i+1)) (i+1)=false:=by rw [crB];exact decide_eq_false omX
 have:=h.L9 hi ha hb omX omX b c
 rw [h.yA omX l1 ha,h.yA hi l2 hb,this,upB,upB,decide_eq_false omX,decide_eq_false omX]
def inner (Y:Nat→Int) (p q:Nat→Rat) (n:Nat):Bool:=upB Y 0 ^^ far Y p q n 0 (lev Y 0)
theorem Rj (h:Poly n X Y p q):∀ i,i<n→(upB Y i ^^ far Y p q n i (lev Y i))=inner Y p q n
 | 0,_=>rfl
 | i+1,hi=>by rw [← h.Wh hi,h.Rj i omX]
theorem alt (h:Poly n X Y p q) (k:Int):Alt n (crB Y k) (fun i=>lin p q i (hf k)) (upB Y) (inner Y p q n) :=
 ⟨fun i j hi b ci cj e=>by
  rcases Nat.decEq i j with a|a
  ·exact absurd e (h.apart i j hi b a _ (iT ci) (iT cj).cls)
  ·exact a,fun i hi ci=>by
  have a:=h.Rj i hi
  rw [h.yA hi (h.Ri hi) ci] at a
  rw [← a]
  show upB Y i=(upB Y i ^^ far Y p q n i k ^^ far Y p q n i k)
  cases upB Y i <;> cases far Y p q n i k <;> rfl⟩
end Poly
theorem GK (x:Nat→Rat):∀ n,∃ a,∀ i,i<n→a<x i
 | 0=>⟨0,fun i hi=>absurd hi omX⟩
 | n+1=>by
  obtain ⟨a,ha⟩:=GK x n
  rcases Rat.le_total (a:=a) (b:=x n-1) with h|h
  ·exact ⟨a,fun i hi=>by
    rcases Nat.lt_or_ge i n with c|c
    ·exact ha i c
    obtain rfl:i=n:=by omega
    grind⟩
  exact ⟨x n-1,fun i hi=>by
   rcases Nat.lt_or_ge i n with c|c
   ·have:=ha i c;grind
   obtain rfl:i=n:=by omega
   grind⟩
theorem Md (g:Nat→Nat→Rat) (n:Nat):∀ H,oP (fun d=>oP (fun i=>g i d) n) H=oP (fun i=>oP (g i) H) n
 | 0=>by
  rw [oP]
  exact (yw n).symm
 | H+1=>by
  rw [oP,Md g n H,← BO]
  exact jA fun i _=>rfl
theorem Dz {f:Nat→Rat} : ∀ {n},(∀ i,i<n→0≤f i)→0≤oP f n
 | 0,_=>Rat.le_refl
 | n+1,h=>by
  rw [oP]
  have a:=Dz (n:=n) fun i hi=>h i omX
  have b:=h n omX
  exact Rat.add_nonneg a b
theorem Rk {f:Nat→Rat} {m:Nat} : ∀ {n},(∀ i,i<n→0≤f i)→m<n→0<f m→0<oP f n
 | 0,_,h,_=>absurd h omX
 | n+1,h,d,b=>by
  rw [oP]
  rcases Nat.lt_or_ge m n with a|a
  ·have c:=Rk (n:=n) (fun i hi=>h i omX) a b
   have e:=h n omX
   grind
  obtain rfl:m=n:=by omega
  have c:0≤oP f m:=Dz fun i hi=>h i omX
  grind
theorem under (P Q:Rat) (a b lo:Int) (f:a≤b) (g:lo≤a):∀ H:Nat,∃ c:Int,c=(if lo+H≤a then a else if lo+H≤b then lo+H else b)∧oP (fun d=>if a≤lo+d∧lo+d<b then 2*(P+Q*hf (lo+d)) else 0) H=(2*P*(c:Rat)+Q*(c:Rat)*(c:Rat))-(2*P*(a:Rat)+Q*(a:Rat)*(a:Rat))
 | 0=>⟨a,by rw [if_pos omX],by rw [oP];grind⟩
 | H+1=>by
  obtain ⟨c,h,hs⟩:=under P Q a b lo f g H
  by_cases i:a≤lo+H∧lo+H<b
  ·refine ⟨lo+H+1,?_,?_⟩
   ·rw [if_neg omX,if_pos omX];omega
   have ec:c=lo+H:=by rw [h];split <;> (try split) <;> omega
   rw [oP,hs,if_pos i,ec,Rat.intCast_add (lo+H) 1]
   have e1:((1:Int):Rat)=1:=rfl
   have e:hf (lo+(H:Int))=((lo+(H:Int):Int):Rat)+1 / 2:=rfl
   rw [e1,e]
   generalize ((lo+(H:Int):Int):Rat)=z
   grind
  refine ⟨c,?_,?_⟩
  ·rw [h];split <;> split <;> (try split) <;> (try split) <;> omega
  rw [oP,hs,if_neg i];grind
theorem uP (Y : Nat → Int) : ∀ n, ∃ lo : Int, ∃ H : Nat, ∀ i, i ≤ n → lo ≤ Y i ∧ Y i ≤ lo + H
  | 0 => ⟨Y 0, 0, fun i hi => by obtain rfl : i = 0 := by omega
                                 omega⟩
  | n + 1 => by
    obtain ⟨lo, H, h⟩ := uP Y n
    refine ⟨min lo (Y (n + 1)), (lo + H - min lo (Y (n + 1))).toNat + (Y (n + 1) - min lo (Y (n + 1))).toNat, fun i hi => ?_⟩
    have h0 := h 0 omX
    rcases Nat.lt_or_ge i (n + 1) with a | a
    · have := h i omX; omega
    obtain rfl : i = n + 1 := by omega
    omega
namespace Poly
variable {n:Nat} {X:Nat→Rat} {Y:Nat→Int} {p q:Nat→Rat}
theorem TU (h:Poly n X Y p q) (hi:i<n) {lo:Int} {H:Nat} (k:lo≤Y i∧Y i≤lo+H) (l:lo≤Y (i+1)∧Y (i+1)≤lo+H) :
  oP (fun d=>if crB Y (lo+d) i=true then (sgB (upB Y i):Rat)*(2*lin p q i (hf (lo+d))) else 0) H=(X i+X (i+1))*((Y (i+1):Rat)-(Y i:Rat)):=by
 have a:=h.left i hi
 have b:=h.right i hi
 have hn:=h.nx hi
 unfold lin at a b
 rcases Int.lt_or_gt_of_ne hn with j|j
 ·obtain ⟨c,f,hs⟩:=under (p i) (q i) (Y i) (Y (i+1)) lo omX k.1 H
  have ec:c=Y (i+1):=by rw [f];split <;> (try split) <;> omega
  rw [ec] at hs
  rw [jA (g:=fun d=>if Y i≤lo+d∧lo+d<Y (i+1) then 2*(p i+q i*hf (lo+d)) else 0) fun d _=>?_,hs,← a,← b]
  ·grind
  have e:(crB Y (lo+d) i=true)↔(Y i≤lo+d∧lo+d<Y (i+1)):=by rw [iJ];omega
  have eu:upB Y i=true:=decide_eq_true j
  by_cases hx:Y i≤lo+d∧lo+d<Y (i+1)
  ·rw [if_pos (e.2 hx),if_pos hx,eu]
   show ((1:Int):Rat)*_=_
   rw [show ((1:Int):Rat)=1 from rfl,Rat.one_mul];rfl
  rw [if_neg (fun y=>hx (e.1 y)),if_neg hx]
 obtain ⟨c,f,hs⟩:=under (p i) (q i) (Y (i+1)) (Y i) lo omX l.1 H
 have ec:c=Y i:=by rw [f];split <;> (try split) <;> omega
 rw [ec] at hs
 rw [jA (g:=fun d=>(-1:Rat)*(if Y (i+1)≤lo+d∧lo+d<Y i then 2*(p i+q i*hf (lo+d)) else 0)) fun d _=>?_,yt,hs,← a,← b]
 ·grind
 have e:(crB Y (lo+d) i=true)↔(Y (i+1)≤lo+d∧lo+d<Y i):=by rw [iJ];omega
 have eu:upB Y i=false:=decide_eq_false omX
 by_cases hx:Y (i+1)≤lo+d∧lo+d<Y i
 ·rw [if_pos (e.2 hx),if_pos hx,eu]
  rfl
 rw [if_neg (fun y=>hx (e.1 y)),if_neg hx,Rat.mul_zero]
theorem even (h:Poly n X Y p q) (k:Int):jE (crB Y k) n=false:=by
 rw [kL (g:=fun i=>decide (Y i≤k) ^^ decide (Y (i+1)≤k)) fun i _=>?_,Dv (fun i=>decide (Y i≤k)),h.Q9,Bool.xor_self]
 rw [crB]
 by_cases a:Y i≤k <;> by_cases b:Y (i+1)≤k
 ·rw [decide_eq_true a,decide_eq_true b,decide_eq_false omX];rfl
 ·rw [decide_eq_true a,decide_eq_false b,decide_eq_true omX];rfl
 ·rw [decide_eq_false a,decide_eq_true b,decide_eq_true omX];rfl
 rw [decide_eq_false a,decide_eq_false b,decide_eq_false omX];rfl
theorem row (h:Poly n X Y p q) (k:Int):0≤(sgB (inner Y p q n):Rat)*oP (fun i=>if crB Y k i=true then (sgB (upB Y i):Rat)*(2*lin p q i (hf k)) else 0) n∧((∃ i,i<n∧crB Y k i=true)→0<(sgB (inner Y p q n):Rat)*oP (fun i=>if crB Y k i=true then (sgB (upB Y i):Rat)*(2*lin p q i (hf k)) else 0) n):=by
 obtain ⟨a,ha⟩:=GK (fun i=>lin p q i (hf k)) n
 have e:∀ i,i<n→gtB (crB Y k) (fun i=>lin p q i (hf k)) a i=crB Y k i:=fun i hi=>by simp [gtB,ha i hi]
 have hs:=((h.alt k).sums _ a leX).2.2 (by rw [kL e];exact h.even k)
 have c:oP (fun i=>if crB Y k i=true then (sgB (upB Y i):Rat)*(2*lin p q i (hf k)) else 0) n=2*U0 (crB Y k) (fun i=>lin p q i (hf k)) (upB Y) a n:=by
  rw [U0,← yt]
  refine jA fun i hi=>?_
  rw [e i hi]
  by_cases b:crB Y k i=true
  ·rw [if_pos b,if_pos b];grind
  rw [if_neg b,if_neg b];grind
 rw [c]
 refine ⟨by have:=hs.1;grind,fun ⟨i,hi,b⟩=>?_⟩
 have:=hs.2 ⟨i,hi,by rw [e i hi];exact b⟩
 grind
theorem area (h:Poly n X Y p q):0<(sgB (inner Y p q n):Rat)*oP (fun i=>(X i+X (i+1))*((Y (i+1):Rat)-(Y i:Rat))) n:=by
 obtain ⟨lo,H,hb⟩:=uP Y n
 have n2:=h.n2
 rw [jA fun i hi=>(h.TU hi (hb i omX) (hb (i+1) omX)).symm,← Md,← yt]
 have a:=h.Ri (i:=0) omX
 have c:=iJ.1 a
 rw [Nat.zero_add] at c
 have b0:=hb 0 omX
 have b1:=hb 1 omX
 have ed:lo+((lev Y 0-lo).toNat:Int)=lev Y 0:=by omega
 refine Rk (m:=(lev Y 0-lo).toNat) (fun d _=>(h.row (lo+d)).1) omX ((h.row _).2 ⟨0,omX,by rw [ed];exact a⟩)
end Poly
theorem Wj (h:x<0∧0<y∨0<x∧y<0):sgn x*sgn y<0:=by
 unfold sgn
 rcases h with ⟨a,b⟩|⟨a,b⟩
 ·rw [if_pos a,if_neg omX,if_pos b];decide
 rw [if_neg omX,if_pos a,if_pos b];decide
theorem zH : sgn x=0↔x=0:=by
 unfold sgn
 constructor
 ·intro h;split at h
  ·omega
  split at h <;> omega
 rintro rfl;rfl
theorem DF (h:sgn x*sgn y<0):x<0∧0<y∨0<x∧y<0:=by
 unfold sgn at h
 rcases Int.lt_trichotomy x 0 with a|a|a <;> rcases Int.lt_trichotomy y 0 with b|b|b
 ·rw [if_pos a,if_pos b] at h;exact absurd h dcX
 ·subst b;rw [if_pos a] at h;exact absurd h dcX
 ·exact .inl ⟨a,b⟩
 ·subst a;simp at h
 ·subst a;simp at h
 ·subst a;simp at h
 ·exact .inr ⟨a,b⟩
 ·subst b;simp at h
 rw [if_neg omX,if_pos a,if_neg omX,if_pos b] at h;exact absurd h dcX
theorem Me {c d m:Rat} (h0:0≤m) (n:m≤1) (h:c+m*(d-c)=0):(c=0∧d=0)∨(c=0∧m=0)∨(d=0∧m=1)∨(c<0∧0<d)∨(0<c∧d<0):=by
 by_cases g:m=0
 ·subst g;right;left;constructor <;> grind
 by_cases i:m=1
 ·subst i;right;right;left;constructor <;> grind
 have m0:0<m:=Rat.lt_of_le_of_ne h0 (Ne.symm g)
 have m1:0<1-m:=by
  have:=Rat.lt_of_le_of_ne n i
  grind
 have e:(1-m)*c=m*(-d):=by grind
 by_cases k:c=0
 ·left
  refine ⟨k,?_⟩
  rw [k,Rat.mul_zero] at e
  rcases Rat.mul_eq_zero.1 e.symm with h|h
  ·exact absurd h g
  grind
 rcases Rat.le_total (a:=0) (b:=c) with l|l
 ·have f:0<c:=Rat.lt_of_le_of_ne l (Ne.symm k)
  have j:=Rat.mul_pos m1 f
  rw [e] at j
  have:=(Rat.mul_pos_iff_of_pos_left m0).1 j
  right;right;right;right
  exact ⟨f,by grind⟩
 have f:0 < -c:=by grind
 have j:=Rat.mul_pos m1 f
 have o:(1-m) * -c=m*d:=by grind
 rw [o] at j
 have:=(Rat.mul_pos_iff_of_pos_left m0).1 j
 right;right;right;left
 exact ⟨by grind,this⟩
theorem Wl {a b:Int} {P:Rat} (h:(a:Rat)≤P∨(b:Rat)≤P):((mn a b:Int):Rat)≤P:=by
 unfold mn
 split
 ·rename_i c
  have:(b:Rat)<(a:Rat):=Rat.intCast_lt_intCast.2 c
  grind
 rename_i c
 have:(a:Rat)≤(b:Rat):=Rat.intCast_le_intCast.2 omX
 grind
theorem Wp {a b:Int} {P:Rat} (h:P≤(a:Rat)∨P≤(b:Rat)):P≤((mx a b:Int):Rat):=by
 unfold mx
 split
 ·rename_i c
  have:(a:Rat)<(b:Rat):=Rat.intCast_lt_intCast.2 c
  grind
 rename_i c
 have:(b:Rat)≤(a:Rat):=Rat.intCast_le_intCast.2 omX
 grind
theorem wU {a b:Int} {l:Rat} (h0:0≤l) (e:l≤1):((mn a b:Int):Rat)≤(a:Rat)+l*((b:Rat)-(a:Rat))∧(a:Rat)+l*((b:Rat)-(a:Rat))≤((mx a b:Int):Rat):=by
 rcases Rat.le_total (a:=(a:Rat)) (b:=(b:Rat)) with h|h
 ·have c:=Rat.mul_nonneg h0 (show 0≤(b:Rat)-a by grind)
  have d:=Rat.mul_nonneg (show 0≤1-l by grind) (show 0≤(b:Rat)-a by grind)
  exact ⟨Wl (.inl (by grind)),Wp (.inr (by grind))⟩
 have c:=Rat.mul_nonneg h0 (show 0≤(a:Rat)-b by grind)
 have d:=Rat.mul_nonneg (show 0≤1-l by grind) (show 0≤(a:Rat)-b by grind)
 exact ⟨Wl (.inr (by grind)),Wp (.inl (by grind))⟩
theorem Rl {a b c d:Int} {P:Rat} (e:((mn a b:Int):Rat)≤P) (f:P≤((mx a b:Int):Rat)) (g:((mn c d:Int):Rat)≤P) (h:P≤((mx c d:Int):Rat)):mx (mn a b) (mn c d)-mn (mx a b) (mx c d)≤0:=by
 have:((mx (mn a b) (mn c d):Int):Rat)≤((mn (mx a b) (mx c d):Int):Rat):=by
  refine Rat.le_trans (b:=P) ?_ ?_
  ·generalize mn a b=u at *
   generalize mn c d=v at *
   unfold mx;split <;> assumption
  generalize mx a b=u at *
  generalize mx c d=v at *
  unfold mn;split <;> assumption
 have:=Rat.intCast_le_intCast.1 this
 omega
theorem lQ (a b c:Pt):((dA a b c:Int):Rat)=((b.1:Rat)-a.1)*((c.2:Rat)-a.2)-((b.2:Rat)-a.2)*((c.1:Rat)-a.1):=by
 unfold dA
 simp only [Rat.intCast_sub,Rat.intCast_mul]
theorem Wq {B C:Pt} (a:C≠D) (c:dA C D A=0) (d:dA C D B=0):dA A B C=0:=by
 unfold dA at *
 by_cases hx:D.1-C.1=0
 ·have hy:D.2-C.2≠0:=fun hy=>a (Prod.ext omX omX)
  have b:(D.2-C.2)*((B.1-A.1)*(C.2-A.2)-(B.2-A.2)*(C.1-A.1))=0:=by grind
  rcases Int.mul_eq_zero.1 b with h|h
  ·exact absurd h hy
  exact h
 have b:(D.1-C.1)*((B.1-A.1)*(C.2-A.2)-(B.2-A.2)*(C.1-A.1))=0:=by grind
 rcases Int.mul_eq_zero.1 b with h|h
 ·exact absurd h hx
 exact h
theorem cast_zero (h:(x:Rat)=0):x=0:=Rat.intCast_eq_zero_iff.1 h
theorem yB (h:(x:Rat)<0):x<0:=Rat.intCast_neg_iff.1 h
theorem cast_pos (h:0<(x:Rat)):0<x:=Rat.intCast_pos.1 h
theorem iL (h:(x:Rat)≤(y:Rat)):x≤y:=Rat.intCast_le_intCast.1 h
theorem Rn {B C:Pt} {l m:Rat} (i:C≠D) (l0:0≤l) (l1:l≤1) (m0:0≤m) (m1:m≤1) (hx:(A.1:Rat)+l*((B.1:Rat)-A.1)=(C.1:Rat)+m*((D.1:Rat)-C.1)) (hy:(A.2:Rat)+l*((B.2:Rat)-A.2)=(C.2:Rat)+m*((D.2:Rat)-C.2)):xA A B C D≠0:=by
 have e1:((dA A B C:Int):Rat)+m*(((dA A B D:Int):Rat)-((dA A B C:Int):Rat))=0:=by
  rw [lQ,lQ];grind
 have p:((dA C D A:Int):Rat)+l*(((dA C D B:Int):Rat)-((dA C D A:Int):Rat))=0:=by
  rw [lQ,lQ];grind
 have e:=wU (a:=A.1) (b:=B.1) l0 l1
 have f:=wU (a:=A.2) (b:=B.2) l0 l1
 have c:=wU (a:=C.1) (b:=D.1) m0 m1
 have d:=wU (a:=C.2) (b:=D.2) m0 m1
 unfold xA
 by_cases j:sgn (dA A B C)=0∧sgn (dA A B D)=0
 ·rw [if_pos j]
  have q:Kq A B C D≤0:=by
   unfold Kq
   rw [← hx] at c
   rw [← hy] at d
   split
   ·exact Rl f.1 f.2 d.1 d.2
   exact Rl e.1 e.2 c.1 c.2
  rw [if_neg omX]
  split <;> decide
 rw [if_neg j]
 by_cases hX:sgn (dA A B C)*sgn (dA A B D)<0∧sgn (dA C D A)*sgn (dA C D B)<0
 ·rw [if_pos hX];decide
 rw [if_neg hX]
 have k:onE A B C∨onE A B D∨onE C D A∨onE C D B:=by
  rcases Me m0 m1 e1 with ⟨g,h⟩|⟨g,h⟩|⟨g,h⟩|hs
  ·exact absurd ⟨zH.2 (cast_zero g),zH.2 (cast_zero h)⟩ j
  ·subst h
   have ex:(A.1:Rat)+l*((B.1:Rat)-A.1)=(C.1:Rat):=by grind
   have ey:(A.2:Rat)+l*((B.2:Rat)-A.2)=(C.2:Rat):=by grind
   rw [ex] at e
   rw [ey] at f
   exact .inl ⟨cast_zero g,iL e.1,iL e.2,iL f.1,iL f.2⟩
  ·subst h
   have ex:(A.1:Rat)+l*((B.1:Rat)-A.1)=(D.1:Rat):=by grind
   have ey:(A.2:Rat)+l*((B.2:Rat)-A.2)=(D.2:Rat):=by grind
   rw [ex] at e
   rw [ey] at f
   exact .inr (.inl ⟨cast_zero g,iL e.1,iL e.2,iL f.1,iL f.2⟩)
  have n:dA A B C<0∧0<dA A B D∨0<dA A B C∧dA A B D<0:=by
   rcases hs with hs|hs
   ·exact .inl ⟨yB hs.1,cast_pos hs.2⟩
   exact .inr ⟨cast_pos hs.1,yB hs.2⟩
  rcases Me l0 l1 p with ⟨g,h⟩|⟨g,h⟩|⟨g,h⟩|o
  ·have:=Wq i (cast_zero g) (cast_zero h)
   omega
  ·subst h
   have ex:(C.1:Rat)+m*((D.1:Rat)-C.1)=(A.1:Rat):=by grind
   have ey:(C.2:Rat)+m*((D.2:Rat)-C.2)=(A.2:Rat):=by grind
   rw [ex] at c
   rw [ey] at d
   exact .inr (.inr (.inl ⟨cast_zero g,iL c.1,iL c.2,iL d.1,iL d.2⟩))
  ·subst h
   have ex:(C.1:Rat)+m*((D.1:Rat)-C.1)=(B.1:Rat):=by grind
   have ey:(C.2:Rat)+m*((D.2:Rat)-C.2)=(B.2:Rat):=by grind
   rw [ex] at c
   rw [ey] at d
   exact .inr (.inr (.inr ⟨cast_zero g,iL c.1,iL c.2,iL d.1,iL d.2⟩))
  refine absurd ⟨Wj n,Wj ?_⟩ hX
  rcases o with hs|hs
  ·exact .inl ⟨yB hs.1,cast_pos hs.2⟩
  exact .inr ⟨cast_pos hs.1,yB hs.2⟩
 rw [if_pos k];decide
structure SR (r:List Pt):Prop where
 l3:3≤r.length
 still:∀ i,i<r.length→rA r i≠rB r i
 L8:∀ i,i<r.length→¬ uF r i
 how:∀ i j,i<r.length→j+1<i→¬ (j=0∧i+1=r.length)→xA (rA r j) (rA r (j+1)) (rA r i) (rB r i)=0
theorem RR.sr (h:RR r):SR r:=⟨h.l3,h.still,h.L8,h.how⟩
def vx (r:List Pt) (i:Nat):Pt:=r.getD (i % r.length) (0,0)
theorem GL (h:i<r.length):vx r i=rA r i:=by rw [vx,rA,Nat.mod_eq_of_lt h]
theorem YH (r:List Pt) (i:Nat):vx r (i+1)=rB r i:=rfl
theorem Zm (r:List Pt):vx r r.length=vx r 0:=by rw [vx,vx,Nat.mod_self,Nat.zero_mod]
theorem aoY (h:i<r.length):rP r ((i+1) % r.length)=vx r i∧rA r ((i+1) % r.length)=vx r (i+1)∧rB r ((i+1) % r.length)=vx r (i+2):=by
 rcases Nat.lt_or_ge (i+1) r.length with a|a
 ·rw [Nat.mod_eq_of_lt a]
  refine ⟨?_,?_,rfl⟩
  ·rw [rP,vx,show i+1+r.length-1=i+r.length by omega,Nat.add_mod_right]
  rw [GL a]
 have e:i+1=r.length:=by omega
 rw [e,Nat.mod_self]
 refine ⟨?_,?_,?_⟩
 ·rw [rP,vx]
  congr 2;omega
 ·rw [Zm,GL omX]
 rw [rB,vx,show i+2=1+r.length by omega,Nat.add_mod_right]
theorem Zn {B:Pt} {a m:Rat} (ha:0<a) (b:0<m) (hx:a*((A.1:Rat)-B.1)=m*((D.1:Rat)-B.1)) (hy:a*((A.2:Rat)-B.2)=m*((D.2:Rat)-B.2)) (c:A≠B):dA A B D=0∧fwd A B D<0:=by
 have d:m≠0:=fun e=>by rw [e] at b;exact Rat.lt_irrefl b
 constructor
 ·have f:m*((dA A B D:Int):Rat)=0:=by rw [lQ];grind
  rcases Rat.mul_eq_zero.1 f with h|h
  ·exact absurd h d
  exact cast_zero h
 have f:m*((fwd A B D:Int):Rat) = -(a*((((A.1-B.1)*(A.1-B.1)+(A.2-B.2)*(A.2-B.2):Int)):Rat)):=by
  unfold fwd
  simp only [Rat.intCast_sub,Rat.intCast_mul,Rat.intCast_add]
  grind
 have i:0<(A.1-B.1)*(A.1-B.1)+(A.2-B.2)*(A.2-B.2):=by
  have g:∀ z:Int,0≤z*z:=fun z=>by
   rcases Int.le_total 0 z with h|h
   ·exact Int.mul_nonneg h h
   exact Int.mul_nonneg_of_nonpos_of_nonpos h h
  have j:=g (A.1-B.1)
  have k:=g (A.2-B.2)
  rcases Int.lt_or_eq_of_le (Int.add_nonneg j k) with h|h
  ·exact h
  have z1:(A.1-B.1)*(A.1-B.1)=0:=by omega
  have z2:(A.2-B.2)*(A.2-B.2)=0:=by omega
  have z3:A.1-B.1=0:=by rcases Int.mul_eq_zero.1 z1 with h|h <;> exact h
  have z4:A.2-B.2=0:=by rcases Int.mul_eq_zero.1 z2 with h|h <;> exact h
  exact absurd (Prod.ext omX omX) c
 have g:=Rat.mul_pos ha (Rat.intCast_pos.2 i)
 have l:m*((fwd A B D:Int):Rat)<0:=by rw [f];grind
 exact yB ((Rat.mul_neg_iff_of_pos_left b).1 l)
def shY (r:List Pt) (K:Int) (i:Nat):Int:=K*(vx r i).2+(vx r i).1
def shX (r:List Pt) (i:Nat):Rat:=((vx r i).1:Rat)
def shQ (r:List Pt) (K:Int) (i:Nat):Rat:=(shX r (i+1)-shX r i) / ((shY r K (i+1):Rat)-(shY r K i:Rat))
def shP (r:List Pt) (K:Int) (i:Nat):Rat:=shX r i-shQ r K i*(shY r K i:Rat)
theorem SR.distinct (h:SR r) (c:i<j) (a:j<r.length):vx r i≠vx r j:=fun e=>by
 by_cases d:j=i+1
 ·subst d
  rw [YH,GL omX] at e
  exact h.still i omX e
 by_cases b:i=0∧j+1=r.length
 ·obtain ⟨rfl,b⟩:=b
  have:=h.still j a
  rw [← YH,b,Zm,e,GL a] at this
  exact this rfl
 have f:=h.how j i a omX b
 refine Rn (l:=0) (m:=0) (h.still j a) Rat.le_refl dcX Rat.le_refl dcX ?_ ?_ f
 ·rw [← GL omX,← GL a,e];grind
 rw [← GL omX,← GL a,e];grind
theorem SR.inj (h:SR r) (hi:i<r.length) (b:j<r.length) (e:vx r i=vx r j):i=j:=by
 rcases Nat.lt_trichotomy i j with a|a|a
 ·exact absurd e (h.distinct a b)
 ·exact a
 exact absurd e.symm (h.distinct a hi)
def Bnd (r:List Pt) (B:Int):Prop:=0≤B∧∀ i,-B≤(vx r i).1∧(vx r i).1≤B
theorem aa6 (hB:Bnd r B) (hK:2*B<K) (e:shY r K i=shY r K j):vx r i=vx r j:=by
 unfold shY at e
 have b1:=hB.2 i
 have b2:=hB.2 j
 have h0:=hB.1
 have a:K*((vx r i).2-(vx r j).2)=(vx r j).1-(vx r i).1:=by grind
 have b:(vx r i).2-(vx r j).2=0:=by
  rcases Int.lt_trichotomy ((vx r i).2-(vx r j).2) 0 with h|h|h
  ·have:K*((vx r i).2-(vx r j).2)≤K*(-1):=Int.mul_le_mul_of_nonneg_left omX omX
   omega
  ·exact h
  have:K*1≤K*((vx r i).2-(vx r j).2):=Int.mul_le_mul_of_nonneg_left omX omX
  omega
 rw [b,Int.mul_zero] at a
 exact Prod.ext omX omX
theorem ahn {a b:Rat} (f:a≠b) (h:(a≤t∧t≤b)∨(b≤t∧t≤a)):∃ l,0≤l∧l≤1∧l=(t-a) / (b-a)∧t=a+l*(b-a):=by
 have d:b-a≠0:=by grind
 have e:(t-a) / (b-a)*(b-a)=t-a:=Rat.div_mul_cancel d
 refine ⟨(t-a) / (b-a),?_,?_,rfl,by rw [e];grind⟩
 ·generalize (t-a) / (b-a)=l at *
  rcases h with h|h
  ·have:0<b-a:=Rat.lt_of_le_of_ne (by grind) (Ne.symm d)
   exact Rat.le_of_mul_le_mul_right (c:=b-a) (by rw [e];grind) this
  have:0<a-b:=Rat.lt_of_le_of_ne (by grind) (by grind)
  exact Rat.le_of_mul_le_mul_right (c:=a-b) (by grind) this
 generalize (t-a) / (b-a)=l at *
 rcases h with h|h
 ·have:0<b-a:=Rat.lt_of_le_of_ne (by grind) (Ne.symm d)
  exact Rat.le_of_mul_le_mul_right (c:=b-a) (by rw [e];grind) this
 have:0<a-b:=Rat.lt_of_le_of_ne (by grind) (by grind)
 exact Rat.le_of_mul_le_mul_right (c:=a-b) (by grind) this
theorem yC (hn:shY r K i≠shY r K (i+1)) (h:cls (shY r K) i t):∃ l:Rat,0≤l∧l≤1∧t=(shY r K i:Rat)+l*((shY r K (i+1):Rat)-(shY r K i:Rat))∧lin (shP r K) (shQ r K) i t=shX r i+l*(shX r (i+1)-shX r i):=by
 have c:(shY r K i:Rat)≠(shY r K (i+1):Rat):=fun e=>hn (Rat.intCast_inj.1 e)
 obtain ⟨l,l0,l1,el,et⟩:=ahn c h
 refine ⟨l,l0,l1,et,?_⟩
 unfold lin shP shQ
 have d:(shY r K (i+1):Rat)-(shY r K i:Rat)≠0:=by grind
 generalize (shY r K (i+1):Rat)=b at *
 generalize (shY r K i:Rat)=a at *
 have e:(shX r (i+1)-shX r i) / (b-a)*(b-a)=shX r (i+1)-shX r i:=Rat.div_mul_cancel d
 generalize (shX r (i+1)-shX r i) / (b-a)=q at *
 rw [← e,et]
 grind
theorem pF (r:List Pt) (K:Int) (i:Nat):(shY r K i:Rat)=(K:Rat)*((vx r i).2:Rat)+shX r i:=by
 unfold shY shX
 simp only [Rat.intCast_add,Rat.intCast_mul]
theorem Jc (h:SR r) (hB:Bnd r B) (hK:2*B<K) (hi:i<r.length) (c:vx r j=vx r (i+1)∧vx r (j+1)=vx r (i+2)) (d:shY r K j≠shY r K (j+1)) (b:shY r K i≠shY r K (i+1)) (f:cls (shY r K) i t) (g:cls (shY r K) j t) (w:t≠(shY r K (i+1):Rat)) (e:lin (shP r K) (shQ r K) i t=lin (shP r K) (shQ r K) j t):False:=by
 obtain ⟨l,l0,l1,et,el⟩:=yC b f
 obtain ⟨m,m0,m1,a,em⟩:=yC d g
 have k:shY r K j=shY r K (i+1):=by unfold shY;rw [c.1]
 have aoZ:shY r K (j+1)=shY r K (i+2):=by unfold shY;rw [c.2]
 have n:shX r j=shX r (i+1):=by unfold shX;rw [c.1]
 have o:shX r (j+1)=shX r (i+2):=by unfold shX;rw [c.2]
 rw [k,aoZ] at a
 rw [el,em,n,o] at e
 have p:(K:Rat)≠0:=by
  intro e
  have:=Rat.intCast_eq_zero_iff.1 e
  have:=hB.1
  omega
 have q:0<1-l:=by
  have:l≠1:=fun e=>by rw [e] at et;grind
  have:=Rat.lt_of_le_of_ne l1 this
  grind
 have s:0<m:=by
  refine Rat.lt_of_le_of_ne m0 fun e=>?_
  rw [← e] at a;grind
 have ex:(1-l)*(((vx r i).1:Rat)-(vx r (i+1)).1)=m*(((vx r (i+2)).1:Rat)-(vx r (i+1)).1):=by
  unfold shX at e
  grind
 have u:(K:Rat)*((1-l)*(((vx r i).2:Rat)-(vx r (i+1)).2))=K*(m*(((vx r (i+2)).2:Rat)-(vx r (i+1)).2)):=by
  rw [et] at a
  rw [pF,pF,pF] at a
  unfold shX at a e
  grind
 have ey:(1-l)*(((vx r i).2:Rat)-(vx r (i+1)).2)=m*(((vx r (i+2)).2:Rat)-(vx r (i+1)).2):=by
  have v:(K:Rat)*(((1-l)*(((vx r i).2:Rat)-(vx r (i+1)).2))-(m*(((vx r (i+2)).2:Rat)-(vx r (i+1)).2)))=0:=by grind
  rcases Rat.mul_eq_zero.1 v with h|h
  ·exact absurd h p
  grind
 have hs:=Zn q s ex ey (fun e=>b (by unfold shY;rw [e]))
 have hv:=aoY hi
 refine h.L8 ((i+1) % r.length) (Nat.mod_lt _ omX) ?_
 unfold uF
 rw [hv.1,hv.2.1,hv.2.2]
 exact hs
theorem Ws (hK:0<K) (a:shY r K j≠shY r K (j+1)) (c:shY r K i≠shY r K (i+1)) (d:cls (shY r K) i t) (f:cls (shY r K) j t) (e:lin (shP r K) (shQ r K) i t=lin (shP r K) (shQ r K) j t):xA (vx r i) (vx r (i+1)) (vx r j) (vx r (j+1))≠0:=by
 obtain ⟨l,l0,l1,et,el⟩:=yC c d
 obtain ⟨m,m0,m1,b,em⟩:=yC a f
 rw [el,em] at e
 have g:(K:Rat)≠0:=by
  intro e
  have:=Rat.intCast_eq_zero_iff.1 e
  omega
 refine Rn (l:=l) (m:=m) (fun e=>a (by unfold shY;rw [e])) l0 l1 m0 m1 e ?_
 have k:(K:Rat)*((((vx r i).2:Rat)+l*(((vx r (i+1)).2:Rat)-(vx r i).2))-(((vx r j).2:Rat)+m*(((vx r (j+1)).2:Rat)-(vx r j).2)))=0:=by
  rw [et] at b
  rw [pF,pF,pF,pF] at b
  grind
 rcases Rat.mul_eq_zero.1 k with h|h
 ·exact absurd h g
 grind
theorem SR.nx (h:SR r) (hB:Bnd r B) (hK:2*B<K) (hi:i<r.length):shY r K i≠shY r K (i+1):=fun e=>by
 have:=aa6 hB hK e
 rw [GL hi,YH] at this
 exact h.still i hi this
theorem afh {Y:Nat→Int} (h:opn Y i t):t≠(Y i:Rat)∧t≠(Y (i+1):Rat):=by
 unfold opn at h
 constructor <;> intro e <;> rw [e] at h <;> grind
theorem SR.poly (h:SR r) (hB:Bnd r B) (hK:2*B<K):Poly r.length (shX r) (shY r K) (shP r K) (shQ r K):=by
 have o:=h.l3
 have f:0<K:=by have:=hB.1;omega
 have k:∀ i,i<r.length→(shY r K i:Rat)≠(shY r K (i+1):Rat):=fun i hi e=>h.nx hB hK hi (Rat.intCast_inj.1 e)
 refine ⟨omX,by unfold shX;rw [Zm],by unfold shY;rw [Zm],fun i j hi c e=>h.inj hi c (aa6 hB hK e),fun i _=>by unfold lin shP;grind,fun i hi=>?_,fun i j hi c n t ho d e=>?_⟩
 ·obtain ⟨l,_,_,et,el⟩:=yC (h.nx hB hK hi) (t:=(shY r K (i+1):Rat)) (i:=i) (by
   unfold cls
   rcases Rat.le_total (a:=(shY r K i:Rat)) (b:=(shY r K (i+1):Rat)) with h|h
   ·exact .inl ⟨h,Rat.le_refl⟩
   exact .inr ⟨Rat.le_refl,h⟩)
  rw [el]
  have m:(1-l)*((shY r K (i+1):Rat)-(shY r K i:Rat))=0:=by grind
  rcases Rat.mul_eq_zero.1 m with m|m
  ·have:l=1:=by grind
   rw [this];grind
  exact absurd (by grind) (k i hi)
 have ni:=h.nx hB hK hi
 have nj:=h.nx hB hK c
 have on:=afh ho
 by_cases c1:j=i+1
 ·subst c1
  exact Jc h hB hK hi ⟨rfl,rfl⟩ nj ni ho.cls d on.2 e
 by_cases c2:i=j+1
 ·subst c2
  exact Jc h hB hK c ⟨rfl,rfl⟩ ni nj d ho.cls on.1 e.symm
 by_cases c3:j=0∧i+1=r.length
 ·obtain ⟨rfl,c3⟩:=c3
  refine Jc h hB hK hi ⟨by rw [c3,Zm],?_⟩ nj ni ho.cls d on.2 e
  rw [vx,vx,show i+2=0+1+r.length by omega,Nat.add_mod_right]
 by_cases c4:i=0∧j+1=r.length
 ·obtain ⟨rfl,c4⟩:=c4
  refine Jc h hB hK c ⟨by rw [c4,Zm],?_⟩ ni nj d ho.cls ?_ e.symm
  ·rw [vx,vx,show j+2=0+1+r.length by omega,Nat.add_mod_right]
  rw [c4]
  have:shY r K r.length=shY r K 0:=by unfold shY;rw [Zm]
  rw [this];exact on.1
 rcases Nat.lt_or_ge i j with c5|c5
 ·have g:=Ws f nj ni ho.cls d e
  rw [GL hi,GL c,GL omX,YH] at g
  exact g (h.how j i c omX c4)
 have g:=Ws f ni nj d ho.cls e.symm
 rw [GL hi,GL c,GL omX,YH] at g
 exact g (h.how i j hi omX c3)
theorem MB (r:List Pt):∀ m,m≤r.length→oP (fun i=>((vx r i).1:Rat)*((vx r (i+1)).2:Rat)-((vx r i).2:Rat)*((vx r (i+1)).1:Rat)) m=((jd r m:Int):Rat)
 | 0,_=>rfl
 | m+1,h=>by
  rw [oP,MB r m omX,jd,GL (by omega:m<r.length),YH]
  simp only [Rat.intCast_add,Rat.intCast_sub,Rat.intCast_mul]
theorem GN (r:List Pt) (z:Int):∃ B,Bnd r B ∧ -B≤z∧z≤B:=by
 obtain ⟨lo,H,h⟩:=uP (fun i=>(vx r i).1) r.length
 refine ⟨(lo.natAbs:Int)+H+z.natAbs,⟨omX,fun i=>?_⟩,omX,omX⟩
 rcases Nat.eq_zero_or_pos r.length with e|e
 ·have:vx r i=(0,0):=by
   have:r = []:=List.eq_nil_of_length_eq_zero e
   subst this
   rfl
  rw [this]
  show -(_:Int)≤0∧(0:Int)≤_
  omega
 have a:(vx r i).1=(vx r (i % r.length)).1:=by rw [vx,vx,Nat.mod_mod]
 rw [a]
 have:=h (i % r.length) (Nat.le_of_lt (Nat.mod_lt _ e))
 omega
theorem SR.acA (h:SR r):jd r r.length≠0:=fun a=>by
 obtain ⟨B,hB,_,_⟩:=GN r 0
 have b:=h.poly hB (K:=2*B+1) omX
 have ha:=b.area
 have e:oP (fun i=>(shX r i+shX r (i+1))*((shY r (2*B+1) (i+1):Rat)-(shY r (2*B+1) i:Rat))) r.length=0:=by
  rw [jA (g:=fun i=>(((2*B+1:Int):Rat)*(((vx r i).1:Rat)*((vx r (i+1)).2:Rat)-((vx r i).2:Rat)*((vx r (i+1)).1:Rat)))+((((2*B+1:Int):Rat)*shX r (i+1)*((vx r (i+1)).2:Rat)+shX r (i+1)*shX r (i+1))-(((2*B+1:Int):Rat)*shX r i*((vx r i).2:Rat)+shX r i*shX r i))) fun i _=>by rw [pF,pF];unfold shX;grind,
   BO,yt,MB r _ leX,a,Q5 (fun i=>((2*B+1:Int):Rat)*shX r i*((vx r i).2:Rat)+shX r i*shX r i)]
  have:shX r r.length=shX r 0:=by unfold shX;rw [Zm]
  rw [this,Zm]
  grind
 rw [e,Rat.mul_zero] at ha
 exact Rat.lt_irrefl ha
theorem Wu {u v a b:Int} (c : -a≤u∧u≤a) (d : -b≤v∧v≤b) : -(a*b)≤u*v∧u*v≤a*b:=by
 have e:(u*v).natAbs≤a.natAbs*b.natAbs:=by
  rw [Int.natAbs_mul]
  exact Nat.mul_le_mul omX omX
 have f:((a.natAbs*b.natAbs:Nat):Int)=a*b:=by
  rw [Int.natCast_mul,show ((a.natAbs:Nat):Int)=a by omega,show ((b.natAbs:Nat):Int)=b by omega]
 omega
theorem aiS (h:dA A D p=0) (c:A.2≤p.2∧p.2<D.2∨D.2≤p.2∧p.2<A.2):onE A D p:=by
 have ym:mn A.2 D.2≤p.2∧p.2≤mx A.2 D.2:=by unfold mn mx;split <;> split <;> omega
 have d:(D.2:Rat)-A.2≠0:=fun e=>by
  have:D.2=A.2:=Rat.intCast_inj.1 (by grind)
  omega
 obtain ⟨l,l0,l1,_,et⟩:=ahn (a:=(A.2:Rat)) (b:=(D.2:Rat)) (t:=(p.2:Rat)) (by grind) (by
  rcases c with h|h
  ·exact .inl ⟨Rat.intCast_le_intCast.2 h.1,Rat.intCast_le_intCast.2 omX⟩
  exact .inr ⟨Rat.intCast_le_intCast.2 h.1,Rat.intCast_le_intCast.2 omX⟩)
 have f:((dA A D p:Int):Rat)=0:=by rw [h];rfl
 rw [lQ] at f
 have e:(p.1:Rat)=A.1+l*((D.1:Rat)-A.1):=by
  have g:((D.2:Rat)-A.2)*((p.1:Rat)-(A.1+l*((D.1:Rat)-A.1)))=0:=by grind
  rcases Rat.mul_eq_zero.1 g with h|h
  ·exact absurd h d
  grind
 have bx:=wU (a:=A.1) (b:=D.1) l0 l1
 rw [← e] at bx
 exact ⟨h,iL bx.1,iL bx.2,ym.1,ym.2⟩
theorem Wv (hB:Bnd r B) (G : -B≤p.1∧p.1≤B) (hK:K=(2*B+1)*(2*B+1)) (w:¬ onE (vx r i) (vx r (i+1)) p) :
  gtB (crB (shY r K) (K*p.2+B)) (fun i=>lin (shP r K) (shQ r K) i (hf (K*p.2+B))) (p.1:Rat) i=UZ (vx r i) (vx r (i+1)) p
  ∧ (if gtB (crB (shY r K) (K*p.2+B)) (fun i=>lin (shP r K) (shQ r K) i (hf (K*p.2+B))) (p.1:Rat) i=true then sgB (Poly.upB (shY r K) i) else 0)=stepW (vx r i) (vx r (i+1)) p:=by
 have b0:=hB.1
 have b1:=hB.2 i
 have b2:=hB.2 (i+1)
 have hK2:2*B<K:=by
  have:(2*B+1)*1≤(2*B+1)*(2*B+1):=Int.mul_le_mul_of_nonneg_left omX omX
  omega
 have o:∀ y x:Int,-B≤x→x≤B→(K*y+x≤K*p.2+B↔y≤p.2):=fun y x d l=>by
  constructor
  ·intro h
   rcases Int.lt_or_le p.2 y with C|C
   ·have:K*1≤K*(y-p.2):=Int.mul_le_mul_of_nonneg_left omX omX
    rw [Int.mul_sub] at this
    omega
   exact C
  intro h
  have:K*0≤K*(p.2-y):=Int.mul_le_mul_of_nonneg_left omX omX
  rw [Int.mul_sub] at this
  omega
 have ha:shY r K i≤K*p.2+B↔(vx r i).2≤p.2:=o _ _ b1.1 b1.2
 have hb:shY r K (i+1)≤K*p.2+B↔(vx r (i+1)).2≤p.2:=o _ _ b2.1 b2.2
 by_cases D:(vx r i).2≤p.2∧p.2<(vx r (i+1)).2∨(vx r (i+1)).2≤p.2∧p.2<(vx r i).2
 ·have m:crB (shY r K) (K*p.2+B) i=true:=Poly.iJ.2 omX
  have s:dA (vx r i) (vx r (i+1)) p≠0:=fun e=>w (aiS e D)
  have hY:shY r K i≠shY r K (i+1):=by omega
  have z:(shY r K (i+1):Rat)-(shY r K i:Rat)≠0:=fun e=>hY (Rat.intCast_inj.1 (by grind))
  obtain ⟨W,hW⟩:∃ W:Int,W=2*K*dA (vx r i) (vx r (i+1)) p+((vx r (i+1)).1-(vx r i).1)*(2*B+1-2*p.1):=⟨_,rfl⟩
  have F:=Wu (u:=(vx r (i+1)).1-(vx r i).1) (v:=2*B+1-2*p.1) (a:=2*B) (b:=4*B+1) omX omX
  have E:2*B*(4*B+1)<2*K:=by rw [hK];grind
  have j:0<dA (vx r i) (vx r (i+1)) p→0<W:=fun h=>by
   have:2*K*1≤2*K*dA (vx r i) (vx r (i+1)) p:=Int.mul_le_mul_of_nonneg_left omX omX
   omega
  have k:dA (vx r i) (vx r (i+1)) p<0→W<0:=fun h=>by
   have:2*K*dA (vx r i) (vx r (i+1)) p≤2*K*(-1):=Int.mul_le_mul_of_nonneg_left omX omX
   omega
  have t:2*(((shY r K (i+1):Rat)-(shY r K i:Rat))*(lin (shP r K) (shQ r K) i (hf (K*p.2+B))-(p.1:Rat)))=(W:Rat):=by
   rw [hW]
   unfold lin shP hf
   have e:shQ r K i*((shY r K (i+1):Rat)-(shY r K i:Rat))=shX r (i+1)-shX r i:=Rat.div_mul_cancel z
   generalize shQ r K i=q at *
   rw [pF,pF] at *
   simp only [Rat.intCast_add,Rat.intCast_sub,Rat.intCast_mul,lQ]
   unfold shX at *
   rw [show ((2:Int):Rat)=2 from rfl,show ((1:Int):Rat)=1 from rfl]
   grind
  obtain ⟨Z,hZ⟩:∃ Z,Z=lin (shP r K) (shQ r K) i (hf (K*p.2+B)):=⟨_,rfl⟩
  have A:gtB (crB (shY r K) (K*p.2+B)) (fun i=>lin (shP r K) (shQ r K) i (hf (K*p.2+B))) (p.1:Rat) i=decide ((p.1:Rat)<Z):=by
   rw [gtB,m,hZ];rfl
  rw [A]
  rw [← hZ] at t
  rcases D with ⟨c1,c2⟩|⟨c1,c2⟩
  ·have n:Poly.upB (shY r K) i=true:=decide_eq_true omX
   have f:(0:Rat)<(shY r K (i+1):Rat)-(shY r K i:Rat):=by
    have:(shY r K i:Rat)<(shY r K (i+1):Rat):=Rat.intCast_lt_intCast.2 omX
    grind
   have c:((p.1:Rat)<Z)↔0<dA (vx r i) (vx r (i+1)) p:=by
    constructor
    ·intro h
     rcases Int.lt_or_gt_of_ne s with d|d
     ·have l:(W:Rat)<0:=Rat.intCast_neg_iff.2 (k d)
      have:=Rat.mul_pos f (show 0<Z-(p.1:Rat) by grind)
      grind
     exact d
    intro h
    have l:0<(W:Rat):=Rat.intCast_pos.2 (j h)
    have:=(Rat.mul_pos_iff_of_pos_left f).1 (show 0<((shY r K (i+1):Rat)-(shY r K i:Rat))*(Z-(p.1:Rat)) by grind)
    grind
   rw [n,UZ,stepW]
   by_cases g:0<dA (vx r i) (vx r (i+1)) p
   ·rw [decide_eq_true (c.2 g),decide_eq_false (by omega:¬ p.2<(vx r i).2),decide_eq_true c2,decide_eq_true g,decide_eq_true (by omega:(vx r i).2<(vx r (i+1)).2)]
    exact ⟨rfl,by rw [if_pos rfl,if_pos ⟨c1,c2,g⟩];rfl⟩
   rw [decide_eq_false (fun h=>g (c.1 h)),decide_eq_false (by omega:¬ p.2<(vx r i).2),decide_eq_true c2,decide_eq_false g,decide_eq_true (by omega:(vx r i).2<(vx r (i+1)).2)]
   exact ⟨rfl,by rw [if_neg (fun h=>Bool.false_ne_true h),if_neg (fun h=>g h.2.2),if_neg (fun h=>by omega)]⟩
  have n:Poly.upB (shY r K) i=false:=decide_eq_false omX
  have f:(0:Rat)<(shY r K i:Rat)-(shY r K (i+1):Rat):=by
   have:(shY r K (i+1):Rat)<(shY r K i:Rat):=Rat.intCast_lt_intCast.2 omX
   grind
  have c:((p.1:Rat)<Z)↔dA (vx r i) (vx r (i+1)) p<0:=by
   constructor
   ·intro h
    rcases Int.lt_or_gt_of_ne s with d|d
    ·exact d
    have l:0<(W:Rat):=Rat.intCast_pos.2 (j d)
    have:=Rat.mul_pos f (show 0<Z-(p.1:Rat) by grind)
    grind
   intro h
   have l:(W:Rat)<0:=Rat.intCast_neg_iff.2 (k h)
   have:=(Rat.mul_pos_iff_of_pos_left f).1 (show 0<((shY r K i:Rat)-(shY r K (i+1):Rat))*(Z-(p.1:Rat)) by grind)
   grind
  rw [n,UZ,stepW]
  by_cases g:dA (vx r i) (vx r (i+1)) p<0
  ·rw [decide_eq_true (c.2 g),decide_eq_true c2,decide_eq_false (by omega:¬ p.2<(vx r (i+1)).2),decide_eq_false (by omega:¬ 0<dA (vx r i) (vx r (i+1)) p),decide_eq_false (by omega:¬ (vx r i).2<(vx r (i+1)).2)]
   exact ⟨rfl,by rw [if_pos rfl,if_neg (fun h=>by omega),if_pos ⟨c2,c1,g⟩];rfl⟩
  rw [decide_eq_false (fun h=>g (c.1 h)),decide_eq_true c2,decide_eq_false (by omega:¬ p.2<(vx r (i+1)).2),decide_eq_true (by omega:0<dA (vx r i) (vx r (i+1)) p),decide_eq_false (by omega:¬ (vx r i).2<(vx r (i+1)).2)]
  exact ⟨rfl,by rw [if_neg (fun h=>Bool.false_ne_true h),if_neg (fun h=>by omega),if_neg (fun h=>g h.2.2)]⟩
 have m:crB (shY r K) (K*p.2+B) i=false:=by
  rw [crB]
  exact decide_eq_false omX
 have A:gtB (crB (shY r K) (K*p.2+B)) (fun i=>lin (shP r K) (shQ r K) i (hf (K*p.2+B))) (p.1:Rat) i=false:=by
  rw [gtB,m];rfl
 rw [A,if_neg (fun h=>Bool.false_ne_true h)]
 have hx:(decide (p.2<(vx r i).2) != decide (p.2<(vx r (i+1)).2))=false:=by
  by_cases d:p.2<(vx r i).2 <;> by_cases l:p.2<(vx r (i+1)).2
  ·simp [d,l]
  ·omega
  ·omega
  simp [d,l]
 rw [UZ,hx,stepW,if_neg (fun h=>by omega),if_neg (fun h=>by omega)]
 exact ⟨rfl,rfl⟩
theorem SR.ao1 (h:SR r) (p:Pt) (a:∀ i,i<r.length→¬ onE (rA r i) (rB r i) p):nZ r p r.length=0↔wR r p r.length=false:=by
 obtain ⟨B,hB,b⟩:=GN r p.1
 obtain ⟨K,hK⟩:∃ K,K=(2*B+1)*(2*B+1):=⟨_,rfl⟩
 have hK2:2*B<K:=by
  have:=hB.1
  have:(2*B+1)*1≤(2*B+1)*(2*B+1):=Int.mul_le_mul_of_nonneg_left omX omX
  omega
 have c:=h.poly hB hK2
 have hs:=(((c.alt (K*p.2+B)).sums _ (p.1:Rat) leX)).1
 have d:∀ m,m≤r.length→YG (crB (shY r K) (K*p.2+B)) (fun i=>lin (shP r K) (shQ r K) i (hf (K*p.2+B))) (Poly.upB (shY r K)) (p.1:Rat) m=nZ r p m:=by
  intro m
  induction m with
  | zero=>intro _;rfl
  | succ m ih =>
   intro e
   have e1:=Wv hB b hK (i:=m) (p:=p) (by rw [GL omX,YH];exact a m omX)
   rw [YG,I7,e1.2,nZ,GL omX,YH,← ih omX,YG]
 have hx:∀ m,m≤r.length→jE (gtB (crB (shY r K) (K*p.2+B)) (fun i=>lin (shP r K) (shQ r K) i (hf (K*p.2+B))) (p.1:Rat)) m=wR r p m:=by
  intro m
  induction m with
  | zero=>intro _;rfl
  | succ m ih =>
   intro e
   have e1:=Wv hB b hK (i:=m) (p:=p) (by rw [GL omX,YH];exact a m omX)
   rw [jE,e1.1,wR,GL omX,YH,← ih omX]
 rw [d _ leX,hx _ leX] at hs
 rw [hs]
 cases wR r p r.length with
 | true =>
  rw [if_pos rfl]
  unfold sgB
  split <;> simp
 | false=>simp
theorem SR.TV (h:SR r) (p:Pt):Bc r p=lN r p:=by
 unfold Bc lN
 by_cases a:∃ i,i<r.length∧onE (rA r i) (rB r i) p
 ·rw [if_pos a,if_pos a]
 rw [if_neg a,if_neg a]
 have:=h.ao1 p fun i hi ho=>a ⟨i,hi,ho⟩
 cases b:wR r p r.length with
 | true =>
  have c:¬ nZ r p r.length=0:=fun e=>by rw [this.1 e] at b;cases b
  rw [if_neg c,if_pos rfl]
 | false =>
  rw [if_pos (this.2 b)]
  rfl
theorem yD {a b c d:Pt} (z:Pt):∀ (l:List Pt) (kvs:List (Pt × Bool)),(oN (II a b c d l kvs) z).isSome=((oN kvs z).isSome || (decide (z∈l) && comB a b c d z))
 | [],kvs=>by simp [II]
 | x::r,kvs=>by
  rw [II,yD z r]
  by_cases e:comB a b c d x=true
  ·rw [if_pos e,Il]
   by_cases h:z=x
   ·subst h;simp [e]
   simp [h]
  rw [if_neg e]
  by_cases h:z=x
  ·subst h;simp [e]
  simp [h]
theorem Zo {kvs:List (Pt × Bool)} {x y:Pt} (hx:(oN kvs x).isSome=true) (hy:(oN kvs y).isSome=true) (a:x≠y):1<kvs.length:=by
 match kvs,hx,hy with
 | [],hx,_=>simp [xO] at hx
 | [p],hx,hy =>
  rw [ku] at hx hy
  have b:x=p.1:=by
   by_cases h:x=p.1
   ·exact h
   rw [if_neg h,xO] at hx;cases hx
  have c:y=p.1:=by
   by_cases h:y=p.1
   ·exact h
   rw [if_neg h,xO] at hy;cases hy
  exact absurd (b.trans c.symm) a
 | _::_::r,_,_=>simp
theorem Ro {x y:Pt} (hx:x ∈ [a,b,c,d]) (hy:y ∈ [a,b,c,d]) (e:comB a b c d x=true) (f:comB a b c d y=true) (g:x≠y):mV a b c d=3:=by
 have h:=Zo (kvs:=II a b c d [a,b,c,d] []) (x:=x) (y:=y) (by rw [yD,e];simp [hx]) (by rw [yD,f];simp [hy]) g
 unfold mV
 rw [if_pos omX]
theorem Rq {a b c d e:Pt} : ∀ (l:List Pt) (kvs:List (Pt × Bool)),(∀ x∈l,comB a b c d x=true→x=e)→(kvs = []∨kvs = [(e,true)])→II a b c d l kvs = []∨II a b c d l kvs = [(e,true)]
 | [],kvs,_,f=>f
 | x::r,kvs,g,f=>by
  rw [II]
  refine Rq r _ (fun y hy=>g y (List.mem_cons_of_mem _ hy)) ?_
  split
  ·rename_i h
   have hx:=g x (List.mem_cons_self ..) h
   subst hx
   right
   rcases f with rfl|rfl <;> simp [AZ,jl]
  exact f
theorem Wx {e:Pt} (g:e ∈ [a,b,c,d]) (f:comB a b c d e=true) (i:∀ x ∈ [a,b,c,d],comB a b c d x=true→x=e):mV a b c d=1:=by
 have hs:=yD (a:=a) (b:=b) (c:=c) (d:=d) e [a,b,c,d] []
 unfold mV
 rcases Rq [a,b,c,d] [] i (.inl rfl) with h|h
 ·rw [h,f,decide_eq_true g] at hs;simp [xO] at hs
 rw [h,if_neg spX,if_pos spX]
theorem Rt (e:∀ x ∈ [a,b,c,d],comB a b c d x=false):mV a b c d=if sgn (dA a b c)*sgn (dA a b d)<0∧sgn (dA c d a)*sgn (dA c d b)<0 then 2 else 0:=by
 have h:II a b c d [a,b,c,d] [] = []:=by
  simp only [II,e a spX,e b spX,e c spX,e d spX]
  simp
 unfold mV
 rw [h,if_neg spX,if_neg spX]
theorem aa7 (n:a≠b):hasB a b p=true↔onE a b p:=by
 by_cases d:dA a b p=0
 ·have hf:(a.1≤p.1∧p.1≤b.1∨b.1≤p.1∧p.1≤a.1)→a.1≠b.1→(mn a.2 b.2≤p.2∧p.2≤mx a.2 b.2):=fun hb j=>by
   have w:(a.1:Rat)≠(b.1:Rat):=fun e=>j (Rat.intCast_inj.1 e)
   obtain ⟨l,l0,l1,_,et⟩:=ahn (a:=(a.1:Rat)) (b:=(b.1:Rat)) (t:=(p.1:Rat)) w (by
    rcases hb with h|h
    ·exact .inl ⟨Rat.intCast_le_intCast.2 h.1,Rat.intCast_le_intCast.2 h.2⟩
    exact .inr ⟨Rat.intCast_le_intCast.2 h.1,Rat.intCast_le_intCast.2 h.2⟩)
   have f:((dA a b p:Int):Rat)=0:=by rw [d];rfl
   rw [lQ] at f
   have e:(p.2:Rat)=a.2+l*((b.2:Rat)-a.2):=by
    have g:((b.1:Rat)-a.1)*((p.2:Rat)-(a.2+l*((b.2:Rat)-a.2)))=0:=by grind
    rcases Rat.mul_eq_zero.1 g with h|h
    ·exact absurd h (by grind)
    grind
   have bx:=wU (a:=a.2) (b:=b.2) l0 l1
   rw [← e] at bx
   exact ⟨iL bx.1,iL bx.2⟩
  have hv:a.1=b.1→p.1=a.1:=fun e=>by
   have g:a.2≠b.2:=fun k=>n (Prod.ext e k)
   unfold dA at d
   rw [e,Int.sub_self,Int.zero_mul] at d
   have c:(b.2-a.2)*(p.1-b.1)=0:=by omega
   rcases Int.mul_eq_zero.1 c with h|h <;> omega
  have s:∀ q:Pt,(q=a∨q=b)→q.1=p.1→a.1≠b.1→q.2=p.2:=fun q x e j=>by
   unfold dA at d
   rcases x with rfl|rfl
   ·have c:(b.1-q.1)*(p.2-q.2)=0:=by rw [show p.1-q.1=0 by omega,Int.mul_zero] at d;omega
    rcases Int.mul_eq_zero.1 c with h|h <;> omega
   have c:(q.1-a.1)*(p.2-q.2)=0:=by rw [← e] at d;grind
   rcases Int.mul_eq_zero.1 c with h|h <;> omega
  have hx:(mn a.1 b.1≤p.1∧p.1≤mx a.1 b.1)↔(a.1≤p.1∧p.1≤b.1∨b.1≤p.1∧p.1≤a.1):=by unfold mn mx;split <;> split <;> omega
  have hy:(mn a.2 b.2≤p.2∧p.2≤mx a.2 b.2)↔(a.2≤p.2∧p.2≤b.2∨b.2≤p.2∧p.2≤a.2):=by unfold mn mx;split <;> split <;> omega
  have ho:∀ u v:Pt,TA u v≤0↔(u.1<v.1∨u.1=v.1∧u.2≤v.2):=fun u v=>by
   unfold TA La
   by_cases f:u.1<v.1
   ·simp [f]
   by_cases g:v.1<u.1
   ·simp [f,g] <;> omega
   by_cases c:u.2<v.2
   ·simp [f,g,c] <;> omega
   by_cases r:v.2<u.2
   ·simp [f,g,c,r] <;> omega
   simp [f,g,c,r] <;> omega
  have ha:=s a (.inl rfl)
  have hb:=s b (.inr rfl)
  have o:=ho a b
  have key:hasB a b p=true↔(if 0<TA a b then (TA b p≤0∧TA p a≤0) else (TA a p≤0∧TA p b≤0)):=by
   unfold hasB
   rw [if_neg (fun h=>h d)]
   split <;> simp
  rw [key]
  have j:a.1=b.1→a.2≠b.2:=fun e1 k=>n (Prod.ext e1 k)
  constructor
  ·intro h
   have i:(a.1≤p.1∧p.1≤b.1∨b.1≤p.1∧p.1≤a.1):=by
    split at h
    ·rw [ho,ho] at h;omega
    rw [ho,ho] at h;omega
   have m:mn a.2 b.2≤p.2∧p.2≤mx a.2 b.2:=by
    by_cases e:a.1=b.1
    ·rw [hy]
     have:=hv e
     split at h
     ·rw [ho,ho] at h;omega
     rw [ho,ho] at h;omega
    exact hf i e
   exact ⟨d,(hx.2 i).1,(hx.2 i).2,m.1,m.2⟩
  rintro ⟨_,f,g,c,r⟩
  have i:=hx.1 ⟨f,g⟩
  have m:=hy.1 ⟨c,r⟩
  split
  ·rw [ho,ho]
   rename_i y
   have:¬ (a.1<b.1∨a.1=b.1∧a.2≤b.2):=fun h=>by have:=o.2 h;omega
   by_cases e:a.1=b.1
   ·have:=hv e;omega
   by_cases e1:a.1=p.1
   ·have:=ha e1 e;omega
   by_cases k:b.1=p.1
   ·have:=hb k e;omega
   omega
  rw [ho,ho]
  rename_i y
  have:(a.1<b.1∨a.1=b.1∧a.2≤b.2):=o.1 omX
  by_cases e:a.1=b.1
  ·have:=hv e;omega
  by_cases e1:a.1=p.1
  ·have:=ha e1 e;omega
  by_cases k:b.1=p.1
  ·have:=hb k e;omega
  omega
 constructor
 ·intro h
  unfold hasB at h
  rw [if_pos d] at h;cases h
 intro h;exact absurd h.1 d
theorem Ph (a b:Pt):onE a b a:=⟨by unfold dA;grind,by unfold mn;split <;> omega,by unfold mx;split <;> omega,by unfold mn;split <;> omega,by unfold mx;split <;> omega⟩
theorem Jd (a b:Pt):onE a b b:=⟨by unfold dA;grind,by unfold mn;split <;> omega,by unfold mx;split <;> omega,by unfold mn;split <;> omega,by unfold mx;split <;> omega⟩
theorem GR {x:Pt} (e:a≠b) (f:c≠d):comB a b c d x=true↔onE a b x∧onE c d x:=by
 unfold comB
 rw [Bool.and_eq_true,aa7 e,aa7 f]
theorem MC (f:Pt→Int) (j:∀ x ∈ [a,b,c,d],∀ y ∈ [a,b,c,d],f x=f y→x=y)
  (k:∀ x ∈ [a,b,c,d],comB a b c d x=true↔(mn (f a) (f b)≤f x∧f x≤mx (f a) (f b))∧(mn (f c) (f d)≤f x∧f x≤mx (f c) (f d)))
  (hs:¬ (sgn (dA a b c)*sgn (dA a b d)<0∧sgn (dA c d a)*sgn (dA c d b)<0)) :
  mV a b c d=if 0<mx (mn (f a) (f b)) (mn (f c) (f d))-mn (mx (f a) (f b)) (mx (f c) (f d)) then 0 else if mx (mn (f a) (f b)) (mn (f c) (f d))-mn (mx (f a) (f b)) (mx (f c) (f d))=0 then 1 else 3:=by
 have g:∀ x y:Int,(mn x y=x∨mn x y=y)∧mn x y≤x∧mn x y≤y:=fun x y=>by unfold mn;split <;> omega
 have i:∀ x y:Int,(mx x y=x∨mx x y=y)∧x≤mx x y∧y≤mx x y:=fun x y=>by unfold mx;split <;> omega
 have m1:=g (f a) (f b)
 have m2:=g (f c) (f d)
 have m3:=i (f a) (f b)
 have m4:=i (f c) (f d)
 have m5:=i (mn (f a) (f b)) (mn (f c) (f d))
 have m6:=g (mx (f a) (f b)) (mx (f c) (f d))
 by_cases l:0<mx (mn (f a) (f b)) (mn (f c) (f d))-mn (mx (f a) (f b)) (mx (f c) (f d))
 ·rw [if_pos l,Rt fun x hx=>by
   cases h:comB a b c d x with
   | false=>rfl
   | true=>have:=(k x hx).1 h;omega,if_neg hs]
 rw [if_neg l]
 obtain ⟨x,hx,ex⟩:∃ x ∈ [a,b,c,d],f x=mx (mn (f a) (f b)) (mn (f c) (f d)):=by
  rcases m5.1 with e|e <;> rw [e]
  ·rcases m1.1 with e|e <;> rw [e]
   ·exact ⟨a,spX,rfl⟩
   exact ⟨b,spX,rfl⟩
  rcases m2.1 with e|e <;> rw [e]
  ·exact ⟨c,spX,rfl⟩
  exact ⟨d,spX,rfl⟩
 obtain ⟨y,hy,ey⟩:∃ y ∈ [a,b,c,d],f y=mn (mx (f a) (f b)) (mx (f c) (f d)):=by
  rcases m6.1 with e|e <;> rw [e]
  ·rcases m3.1 with e|e <;> rw [e]
   ·exact ⟨a,spX,rfl⟩
   exact ⟨b,spX,rfl⟩
  rcases m4.1 with e|e <;> rw [e]
  ·exact ⟨c,spX,rfl⟩
  exact ⟨d,spX,rfl⟩
 have cx:comB a b c d x=true:=(k x hx).2 omX
 have cy:comB a b c d y=true:=(k y hy).2 omX
 by_cases h0:mx (mn (f a) (f b)) (mn (f c) (f d))-mn (mx (f a) (f b)) (mx (f c) (f d))=0
 ·rw [if_pos h0]
  refine Wx hx cx fun z m cz=>j z m x hx ?_
  have:=(k z m).1 cz
  omega
 rw [if_neg h0]
 exact Ro hx hy cx cy fun e=>by rw [e] at ex;omega
theorem Wy {b c d v2 w1 e:Int} (h:b≠0∨c≠0) (g:b*v2-c*d=0) (i:b*e-c*w1=0):d*e-v2*w1=0:=by
 rcases h with h|h
 ·have f:b*(d*e-v2*w1)=0:=by grind
  rcases Int.mul_eq_zero.1 f with a|a
  ·exact absurd a h
  exact a
 have f:c*(d*e-v2*w1)=0:=by grind
 rcases Int.mul_eq_zero.1 f with a|a
 ·exact absurd a h
 exact a
theorem Je (h:a≠b):b.1-a.1≠0∨b.2-a.2≠0:=by
 by_cases c:b.1-a.1=0
 ·right;intro d;exact h (Prod.ext omX omX)
 exact .inl c
theorem WA (f:a≠b) (g:c≠d):mV a b c d=xA a b c d:=by
 have pab:=Je f
 have pcd:=Je g
 by_cases A:dA a b c=0∧dA a b d=0
 ·obtain ⟨zc,zd⟩:=A
  have hs:¬ (sgn (dA a b c)*sgn (dA a b d)<0∧sgn (dA c d a)*sgn (dA c d b)<0):=by
   rw [zc];intro h;simp [sgn] at h
  have MF:∀ x ∈ [a,b,c,d],dA a b x=0:=by
   intro x hx
   simp only [List.mem_cons,List.not_mem_nil,or_false] at hx
   rcases hx with rfl|rfl|rfl|rfl
   ·exact (Ph _ _).1
   ·exact (Jd _ _).1
   ·exact zc
   exact zd
  have n:(b.1-a.1)*(d.2-c.2)-(b.2-a.2)*(d.1-c.1)=0:=by unfold dA at zc zd;grind
  have u:∀ x ∈ [a,b,c,d],dA c d x=0:=fun x hx=>by
   have k:=MF x hx
   unfold dA at k zc ⊢
   have i:(b.1-a.1)*(x.2-c.2)-(b.2-a.2)*(x.1-c.1)=0:=by grind
   exact Wy pab n i
  rw [xA,if_pos ⟨zH.2 zc,zH.2 zd⟩]
  have m:∀ (p q x:Pt),p≠q→dA p q x=0→(onE p q x↔(if p.1=q.1 then (mn p.2 q.2≤x.2∧x.2≤mx p.2 q.2) else (mn p.1 q.1≤x.1∧x.1≤mx p.1 q.1))):=fun p q x B v=>by
   constructor
   ·rintro ⟨_,k,i,o,j⟩
    split
    ·exact ⟨o,j⟩
    exact ⟨k,i⟩
   intro h
   split at h
   ·rename_i e
    have hx:x.1=p.1:=by
     have i:q.2-p.2≠0:=fun i=>B (Prod.ext e omX)
     unfold dA at v
     rw [e,Int.sub_self,Int.zero_mul] at v
     have o:(q.2-p.2)*(x.1-q.1)=0:=by omega
     rcases Int.mul_eq_zero.1 o with j|j
     ·exact absurd j i
     omega
    exact ⟨v,by rw [e,hx,e];unfold mn;split <;> omega,by rw [e,hx,e];unfold mx;split <;> omega,h.1,h.2⟩
   rename_i e
   obtain ⟨l,l0,l1,_,et⟩:=ahn (a:=(p.1:Rat)) (b:=(q.1:Rat)) (t:=(x.1:Rat)) (fun E=>e (Rat.intCast_inj.1 E)) (by
    have C:(p.1≤x.1∧x.1≤q.1∨q.1≤x.1∧x.1≤p.1):=by
     unfold mn mx at h
     split at h <;> split at h <;> omega
    rcases C with h|h
    ·exact .inl ⟨Rat.intCast_le_intCast.2 h.1,Rat.intCast_le_intCast.2 h.2⟩
    exact .inr ⟨Rat.intCast_le_intCast.2 h.1,Rat.intCast_le_intCast.2 h.2⟩)
   have k:((dA p q x:Int):Rat)=0:=by rw [v];rfl
   rw [lQ] at k
   have F:(x.2:Rat)=p.2+l*((q.2:Rat)-p.2):=by
    have i:((q.1:Rat)-p.1)*((x.2:Rat)-(p.2+l*((q.2:Rat)-p.2)))=0:=by grind
    rcases Rat.mul_eq_zero.1 i with h|h
    ·exact absurd (Rat.intCast_inj.1 (by grind)) e
    grind
   have bx:=wU (a:=p.2) (b:=q.2) l0 l1
   rw [← F] at bx
   exact ⟨v,h.1,h.2,iL bx.1,iL bx.2⟩
  by_cases hv:a.1=b.1
  ·have s:c.1=d.1:=by
    rw [hv,Int.sub_self,Int.zero_mul] at n
    have i:b.2-a.2≠0:=by rcases pab with h|h <;> omega
    have o:(b.2-a.2)*(d.1-c.1)=0:=by omega
    rcases Int.mul_eq_zero.1 o with j|j
    ·exact absurd j i
    omega
   have w:∀ x ∈ [a,b,c,d],x.1=a.1:=fun x hx=>by
    have k:=MF x hx
    unfold dA at k
    rw [hv,Int.sub_self,Int.zero_mul] at k
    have i:b.2-a.2≠0:=by rcases pab with h|h <;> omega
    have o:(b.2-a.2)*(x.1-b.1)=0:=by omega
    rcases Int.mul_eq_zero.1 o with j|j
    ·exact absurd j i
    omega
   rw [MC (·.2) (fun x hx y hy e=>Prod.ext ((w x hx).trans (w y hy).symm) e) (fun x hx=>by
    rw [GR f g,m a b x f (MF x hx),m c d x g (u x hx),if_pos hv,if_pos s]) hs,Kq,if_pos hv]
  have s:¬ c.1=d.1:=fun e=>by
   rw [e,Int.sub_self,Int.mul_zero] at n
   have i:d.2-c.2≠0:=by rcases pcd with h|h <;> omega
   have o:(b.1-a.1)*(d.2-c.2)=0:=by omega
   rcases Int.mul_eq_zero.1 o with j|j
   ·omega
   exact absurd j i
  rw [MC (·.1) (fun x hx y hy e=>by
   refine Prod.ext e ?_
   have k:=MF x hx
   have i:=MF y hy
   unfold dA at k i
   have e':x.1=y.1:=e
   have o:(b.1-a.1)*(x.2-y.2)=0:=by rw [e'] at k;grind
   rcases Int.mul_eq_zero.1 o with j|j
   ·omega
   ·omega) (fun x hx=>by
   rw [GR f g,m a b x f (MF x hx),m c d x g (u x hx),if_neg hv,if_neg s]) hs,Kq,if_neg hv]
 have D:¬ (sgn (dA a b c)=0∧sgn (dA a b d)=0):=fun h=>A ⟨zH.1 h.1,zH.1 h.2⟩
 rw [xA,if_neg D]
 by_cases hX:sgn (dA a b c)*sgn (dA a b d)<0∧sgn (dA c d a)*sgn (dA c d b)<0
 ·rw [if_pos hX,Rt fun x hx=>?_,if_pos hX]
  have J:=DF hX.1
  have K:=DF hX.2
  cases h:comB a b c d x with
  | false=>rfl
  | true =>
   obtain ⟨o1,o2⟩:=(GR f g).1 h
   have t1:=o1.1
   have t2:=o2.1
   simp only [List.mem_cons,List.not_mem_nil,or_false] at hx
   rcases hx with rfl|rfl|rfl|rfl <;> omega
 rw [if_neg hX]
 have z:∀ x y:Pt,onE a b x∧onE c d x→onE a b y∧onE c d y→x=y:=fun x y k i=>by
  rcases Decidable.em (x=y) with e|e
  ·exact e
  refine absurd ?_ A
  have pxy:=Je e
  have x1:=k.1.1
  have x2:=k.2.1
  have y1:=i.1.1
  have y2:=i.2.1
  unfold dA at x1 x2 y1 y2 ⊢
  have pa:(y.1-x.1)*(b.2-a.2)-(y.2-x.2)*(b.1-a.1)=0:=by grind
  have pc:(y.1-x.1)*(d.2-c.2)-(y.2-x.2)*(d.1-c.1)=0:=by grind
  have pac:(b.1-a.1)*(d.2-c.2)-(b.2-a.2)*(d.1-c.1)=0:=Wy pxy pa pc
  have G:(d.1-c.1)*(b.2-a.2)-(d.2-c.2)*(b.1-a.1)=0:=by grind
  have H:(d.1-c.1)*(x.2-c.2)-(d.2-c.2)*(x.1-c.1)=0:=x2
  have L:=Wy pcd G H
  constructor
  ·grind
  grind
 by_cases r:onE a b c∨onE a b d∨onE c d a∨onE c d b
 ·rw [if_pos r]
  obtain ⟨e,I,ce⟩:∃ e ∈ [a,b,c,d],onE a b e∧onE c d e:=by
   rcases r with h|h|h|h
   ·exact ⟨c,spX,h,Ph c d⟩
   ·exact ⟨d,spX,h,Jd c d⟩
   ·exact ⟨a,spX,Ph a b,h⟩
   exact ⟨b,spX,Jd a b,h⟩
  exact Wx I ((GR f g).2 ce) fun x _ cx=>z x e ((GR f g).1 cx) ce
 rw [if_neg r,Rt fun x hx=>?_,if_neg hX]
 cases h:comB a b c d x with
 | false=>rfl
 | true =>
  obtain ⟨o1,o2⟩:=(GR f g).1 h
  refine absurd ?_ r
  simp only [List.mem_cons,List.not_mem_nil,or_false] at hx
  rcases hx with rfl|rfl|rfl|rfl
  ·exact .inr (.inr (.inl o2))
  ·exact .inr (.inr (.inr o2))
  ·exact .inl o1
  exact .inr (.inl o1)
theorem WB : mV a b c d=0↔(∀ x ∈ [a,b,c,d],comB a b c d x=false)∧¬ (sgn (dA a b c)*sgn (dA a b d)<0∧sgn (dA c d a)*sgn (dA c d b)<0):=by
 by_cases h:∀ x ∈ [a,b,c,d],comB a b c d x=false
 ·rw [Rt h]
  constructor
  ·intro e
   refine ⟨h,fun l=>?_⟩
   rw [if_pos l] at e;cases e
  intro e
  rw [if_neg e.2]
 constructor
 ·intro h0
  exfalso
  obtain ⟨x,hx⟩:=Classical.not_forall.1 h
  obtain ⟨hx,f⟩:=Classical.not_imp.1 hx
  have f:comB a b c d x=true:=by simpa using f
  by_cases k:∀ y ∈ [a,b,c,d],comB a b c d y=true→y=x
  ·rw [Wx hx f k] at h0;cases h0
  obtain ⟨y,hy⟩:=Classical.not_forall.1 k
  obtain ⟨hy,g⟩:=Classical.not_imp.1 hy
  obtain ⟨i,j⟩:=Classical.not_imp.1 g
  rw [Ro hy hx i f j] at h0;cases h0
 intro e;exact absurd e.1 h
theorem WC : mV a b c d=0↔mV c d a b=0:=by
 have key:∀ a b c d:Pt,mV a b c d=0→mV c d a b=0:=fun a b c d h=>by
  rw [WB] at h ⊢
  refine ⟨fun x hx=>?_,fun e=>h.2 ⟨e.2,e.1⟩⟩
  have:=h.1 x (by simp only [List.mem_cons,List.not_mem_nil,or_false] at hx ⊢;rcases hx with h|h|h|h <;> simp [h])
  rw [comB,Bool.and_comm] at this
  exact this
 exact ⟨key a b c d,key c d a b⟩
def dbl (p:Pt):Pt:=(2*p.1,2*p.2)
theorem Jf (a b c:Pt):dA (dbl a) (dbl b) (dbl c)=4*dA a b c:=by unfold dA dbl;grind
theorem Zp (x:Int):sgn (4*x)=sgn x:=by
 unfold sgn
 by_cases h:x<0
 ·rw [if_pos h,if_pos omX]
 rw [if_neg h,if_neg omX]
 by_cases a:0<x
 ·rw [if_pos a,if_pos omX]
 rw [if_neg a,if_neg omX]
theorem afi (a b p:Pt):onE (dbl a) (dbl b) (dbl p)↔onE a b p:=by
 unfold onE
 rw [Jf]
 unfold dbl mn mx
 simp only
 constructor
 ·rintro ⟨g,c,d,e,f⟩
  refine ⟨omX,?_,?_,?_,?_⟩ <;> split <;> (first|(split at c)|skip) <;> (first|(split at d)|skip) <;> (first|(split at e)|skip) <;> (first|(split at f)|skip) <;> omega
 rintro ⟨g,c,d,e,f⟩
 refine ⟨omX,?_,?_,?_,?_⟩ <;> split <;> (first|(split at c)|skip) <;> (first|(split at d)|skip) <;> (first|(split at e)|skip) <;> (first|(split at f)|skip) <;> omega
theorem afj (x y:Int):mn (2*x) (2*y)=2*mn x y:=by unfold mn;split <;> split <;> omega
theorem afk (x y:Int):mx (2*x) (2*y)=2*mx x y:=by unfold mx;split <;> split <;> omega
theorem acB (a b c d:Pt):Kq (dbl a) (dbl b) (dbl c) (dbl d)=2*Kq a b c d:=by
 unfold Kq dbl
 simp only [afj,afk]
 by_cases h:a.1=b.1
 ·rw [if_pos h,if_pos (by rw [h])];omega
 rw [if_neg h,if_neg omX];omega
theorem acC (a b c d:Pt):xA (dbl a) (dbl b) (dbl c) (dbl d)=xA a b c d:=by
 have e1:(0<2*Kq a b c d)=(0<Kq a b c d):=propext omX
 have e:(2*Kq a b c d=0)=(Kq a b c d=0):=propext omX
 unfold xA
 simp only [Jf,Zp,acB,afi,e1,e]
theorem Zq (ps:List Pt) (x:Int):Dl ps 2 x=dbl (Dl ps 1 x):=by unfold Dl dbl;simp only [Int.one_mul]
theorem acD (ps:List Pt) (t:Int) (l:List Int):(cor ps t l).length=l.length:=by unfold cor;rw [List.length_map]
theorem yE (ps:List Pt) (l:List Int) (i:Nat):(cor ps 2 l).getD i (0,0)=dbl ((cor ps 1 l).getD i (0,0)):=by
 unfold cor
 rw [List.getD_eq_getElem?_getD,List.getD_eq_getElem?_getD,List.getElem?_map,List.getElem?_map]
 cases l[i]? with
 | none=>rfl
 | some x=>simp only [Option.map_some,Option.getD_some];exact Zq ps x
theorem acE (h:dbl a=dbl b):a=b:=by
 unfold dbl at h
 simp only [Prod.mk.injEq] at h
 exact Prod.ext omX omX
theorem SR.two (h:SR (cor ps 1 l)):SR (cor ps 2 l):=by
 have e:(cor ps 2 l).length=(cor ps 1 l).length:=by rw [acD,acD]
 refine ⟨by rw [e];exact h.l3,fun i hi hs=>?_,fun i hi hs=>?_,fun i j hi b a=>?_⟩
 ·unfold rA rB at hs
  rw [e,yE,yE] at hs
  exact h.still i (by rw [← e];exact hi) (acE hs)
 ·unfold uF rP rA rB at hs
  rw [e,yE,yE,yE,Jf] at hs
  refine h.L8 i (by rw [← e];exact hi) ⟨by have:=hs.1;unfold rP rA rB;omega,?_⟩
  have:=hs.2
  unfold fwd dbl at this
  unfold fwd rP rA rB
  grind
 unfold rA rB
 rw [e,yE,yE,yE,yE,acC]
 exact h.how i j (by rw [← e];exact hi) b (by rw [← e];exact a)
theorem SR.TW (h:SR (cor ps 1 l)) (p:Pt):Bc (cor ps 2 l) p=lN (cor ps 2 l) p:=h.two.TV p
theorem Ru (g:3≤r.length) (k:r.length≤40):uG r=0↔SR r:=by
 have b:(∀ i,i<r.length→rA r i≠rB r i)→∀ i j,i<r.length→j+1<i→(mV (rA r i) (rB r i) (rA r j) (rB r j)=0↔xA (rA r j) (rA r (j+1)) (rA r i) (rB r i)=0):=fun a i j hi c=>by
  have e:rA r (j+1)=rB r j:=by rw [rB,Nat.mod_eq_of_lt omX];rfl
  rw [e,← WA (a j omX) (a i hi)]
  exact WC
 unfold uG
 rw [if_neg omX]
 constructor
 ·intro h
  split at h
  ·cases h
  rename_i n1
  split at h
  ·cases h
  rename_i n2
  split at h
  ·cases h
  rename_i n3
  have a:∀ i,i<r.length→rA r i≠rB r i:=fun i hi e=>n1 ⟨i,hi,e⟩
  refine ⟨g,a,fun i hi hs=>n2 ⟨i,hi,hs⟩,fun i j hi c d=>?_⟩
  rw [← b a i j hi c]
  exact Classical.byContradiction fun l=>n3 ⟨i,hi,j,omX,c,d,l⟩
 intro h
 rw [if_neg (fun ⟨i,hi,hs⟩=>h.still i hi hs),if_neg (fun ⟨i,hi,hs⟩=>h.L8 i hi hs),if_neg]
 rintro ⟨i,hi,j,c,f,m,n⟩
 exact n ((b h.still i j hi f).2 (h.how i j hi f m))
theorem dV {α:Type} {l:List α} {d:α} (h:i<l.length):l.getD i d=l[i]:=by rw [List.getD_eq_getElem?_getD,List.getElem?_eq_getElem h];rfl
theorem any_false {α:Type} {l:List α} {p:α→Bool} {d:α} : l.any p=false↔∀ i,i<l.length→p (l.getD i d)=false:=by
 rw [List.any_eq_false]
 constructor
 ·intro h i hi
  have:=h _ (List.getElem_mem hi)
  rw [dV hi]
  simpa using this
 intro h x hx
 obtain ⟨i,hi,rfl⟩:=List.getElem_of_mem hx
 have:=h i hi
 rw [dV hi] at this
 simp [this]
theorem WE (l : List Int) : ∀ n, n < l.length → ∀ i, i ≤ n → FH l n ≤ l.getD i 0
  | 0, _, i, hi => by obtain rfl : i = 0 := by omega
                      exact Int.le_refl _
  | n + 1, h, i, hi => by
    have e : FH l (n + 1) = mn (FH l n) (l.getD (n + 1) 0) := rfl
    have a : mn (FH l n) (l.getD (n + 1) 0) ≤ FH l n ∧ mn (FH l n) (l.getD (n + 1) 0) ≤ l.getD (n + 1) 0 := by unfold mn; split <;> omega
    rw [e]
    rcases Nat.lt_or_ge i (n + 1) with b | b
    · have := WE l n omX i omX; omega
    obtain rfl : i = n + 1 := by omega
    exact a.2
theorem Rw (l:List Int):∀ n,n<l.length→∃ i,i≤n∧FH l n=l.getD i 0
 | 0,_=>⟨0,Nat.le_refl _,rfl⟩
 | n+1,h=>by
  have e:FH l (n+1)=mn (FH l n) (l.getD (n+1) 0):=rfl
  obtain ⟨i,hi,b⟩:=Rw l n omX
  have a:mn (FH l n) (l.getD (n+1) 0)=FH l n∨mn (FH l n) (l.getD (n+1) 0)=l.getD (n+1) 0:=by unfold mn;split <;> omega
  rw [e]
  rcases a with a|a
  ·exact ⟨i,omX,by rw [a,b]⟩
  exact ⟨n+1,Nat.le_refl _,a⟩
theorem WG (l : List Int) : ∀ n, n < l.length → ∀ i, i ≤ n → l.getD i 0 ≤ IW l n
  | 0, _, i, hi => by obtain rfl : i = 0 := by omega
                      exact Int.le_refl _
  | n + 1, h, i, hi => by
    have e : IW l (n + 1) = mx (IW l n) (l.getD (n + 1) 0) := rfl
    have a : IW l n ≤ mx (IW l n) (l.getD (n + 1) 0) ∧ l.getD (n + 1) 0 ≤ mx (IW l n) (l.getD (n + 1) 0) := by unfold mx; split <;> omega
    rw [e]
    rcases Nat.lt_or_ge i (n + 1) with b | b
    · have := WG l n omX i omX; omega
    obtain rfl : i = n + 1 := by omega
    exact a.2
theorem Rx (l:List Int):∀ n,n<l.length→∃ i,i≤n∧IW l n=l.getD i 0
 | 0,_=>⟨0,Nat.le_refl _,rfl⟩
 | n+1,h=>by
  have e:IW l (n+1)=mx (IW l n) (l.getD (n+1) 0):=rfl
  obtain ⟨i,hi,b⟩:=Rx l n omX
  have a:mx (IW l n) (l.getD (n+1) 0)=IW l n∨mx (IW l n) (l.getD (n+1) 0)=l.getD (n+1) 0:=by unfold mx;split <;> omega
  rw [e]
  rcases a with a|a
  ·exact ⟨i,omX,by rw [a,b]⟩
  exact ⟨n+1,Nat.le_refl _,a⟩
def IxR (n:Nat) (l:List Int):Prop:=(3≤l.length∧l.length≤40)∧∀ x∈l,0≤x∧x<(n:Int)
theorem WH {n:Nat} : uJ n k l=false↔IxR n l:=by
 unfold uJ IxR
 by_cases f:l.length<3
 ·rw [decide_eq_true f];simp;omega
 by_cases c:40<l.length
 ·rw [decide_eq_false f,decide_eq_true c];simp;omega
 rw [decide_eq_false f,decide_eq_false c,Bool.false_or,Bool.false_or,Bool.or_eq_false_iff,decide_eq_false_iff_not,decide_eq_false_iff_not]
 constructor
 ·rintro ⟨m,o⟩
  refine ⟨⟨omX,omX⟩,fun x hx=>?_⟩
  obtain ⟨i,hi,rfl⟩:=List.getElem_of_mem hx
  have a:=WE l (l.length-1) omX i omX
  have b:=WG l (l.length-1) omX i omX
  rw [dV hi] at a b
  omega
 rintro ⟨_,h⟩
 obtain ⟨i,hi,e1⟩:=Rw l (l.length-1) omX
 obtain ⟨j,p,g⟩:=Rx l (l.length-1) omX
 have d:i<l.length:=by omega
 have e:j<l.length:=by omega
 have a:=h _ (List.getElem_mem d)
 have b:=h _ (List.getElem_mem e)
 rw [e1,g,dV d,dV e]
 omega
theorem oQ {ri:List RiV} {bad:Int→List Int→Bool} : BL ri bad=false↔∀ r:Nat,r<ri.length→bad r (ri.getD r r0).xs=false:=by
 unfold BL
 rw [decide_eq_false_iff_not]
 constructor
 ·intro h r a
  cases hb:bad r (ri.getD r r0).xs with
  | false=>rfl
  | true=>exact absurd ⟨r,a,hb⟩ h
 rintro h ⟨r,a,hb⟩
 rw [h r a] at hb;cases hb
theorem Dp (hf:∀ i,i<ps.length→rE (gP ps i)=false) (b:∀ x∈l,0≤x∧x<(ps.length:Int)):∀ i,i<(cor ps 1 l).length→rE (rA (cor ps 1 l) i)=false:=fun i hi=>by
 have a:i<l.length:=by rw [acD] at hi;exact hi
 have e:rA (cor ps 1 l) i=gP ps (l[i]).toNat:=by
  unfold rA cor
  rw [List.getD_eq_getElem?_getD,List.getElem?_map,List.getElem?_eq_getElem a]
  simp only [Option.map_some,Option.getD_some,Dl,Int.one_mul]
  rfl
 have h:=b _ (List.getElem_mem a)
 rw [e]
 exact hf _ omX
theorem Ry (hf:∀ i,i<ps.length→rE (gP ps i)=false) (c:IxR ps.length l):uI ps l=false↔RR (cor ps 1 l):=by
 have a:=acD ps 1 l
 have d:3≤(cor ps 1 l).length:=by rw [a];exact c.1.1
 have b:(cor ps 1 l).length≤40:=by rw [a];exact c.1.2
 have e:uG (cor ps 1 l)=0∨0<uG (cor ps 1 l):=by unfold uG;(repeat' split) <;> omega
 unfold uI
 rw [decide_eq_false_iff_not]
 constructor
 ·intro h
  have h0:=(Ru d b).1 omX
  exact ⟨d,b,Dp hf c.2,h0.still,h0.L8,h0.how⟩
 intro h
 have:=(Ru d b).2 h.sr
 omega
theorem Rz {r:Nat} (h:RR (cor ps 1 l)):qy ps r l=false↔¬ (r=0∧jd (cor ps 1 l) (cor ps 1 l).length<0∨0<r∧0<jd (cor ps 1 l) (cor ps 1 l).length):=by
 have b:=h.sr.acA
 unfold qy
 generalize jd (cor ps 1 l) (cor ps 1 l).length=a at *
 by_cases c:r=0
 ·subst c
  rw [decide_eq_true (show ((0:Nat):Int)=0 from rfl)]
  by_cases ha:a<0
  ·rw [decide_eq_true ha];simp;omega
  rw [decide_eq_false ha];simp;omega
 rw [decide_eq_false (show ¬ ((r:Nat):Int)=0 by omega)]
 by_cases ha:a<0
 ·rw [decide_eq_true ha];simp;omega
 rw [decide_eq_false ha];simp;omega
theorem RD {α:Type} {g:Nat→List α} {k:Nat} {x:α} : x∈pre g k↔∃ i,i<k∧x∈g i:=by
 unfold pre
 rw [List.mem_flatMap]
 constructor
 ·rintro ⟨i,hi,hx⟩;exact ⟨i,by simpa using hi,hx⟩
 rintro ⟨i,hi,hx⟩;exact ⟨i,by simpa using hi,hx⟩
theorem WI {fs:List FaV} {s:St} (hs:s∈stL fs):s.f<fs.length∧s.r<(fs.getD s.f f0).ri.length∧∃ p,p<((fs.getD s.f f0).ri.getD s.r r0).xs.length∧s.a=nI ((fs.getD s.f f0).ri.getD s.r r0).xs p∧s.b=nI ((fs.getD s.f f0).ri.getD s.r r0).xs ((p+1) % ((fs.getD s.f f0).ri.getD s.r r0).xs.length):=by
 obtain ⟨j,c,hs⟩:=RD.1 hs
 obtain ⟨r,d,hs⟩:=RD.1 hs
 unfold gR stR at hs
 obtain ⟨p,e,rfl⟩:=List.mem_map.1 hs
 exact ⟨c,d,p,by simpa using e,rfl,rfl⟩
theorem abb {p:Nat} (a:p<l.length):gP ps (nI l p)=(cor ps 1 l).getD p (0,0):=by
 unfold cor nI gP
 rw [List.getD_eq_getElem?_getD (l:=l.map _),List.getElem?_map,List.getElem?_eq_getElem a,dV a]
 simp only [Option.map_some,Option.getD_some,Dl,Int.one_mul]
theorem acF {p:Nat} (h:RR (cor ps 1 l)) (a:p<l.length):gP ps (nI l p)≠gP ps (nI l ((p+1) % l.length)):=by
 rw [abb a,abb (Nat.mod_lt _ omX)]
 have:=h.still p (by rw [acD];exact a)
 unfold rA rB at this
 rw [acD] at this
 exact this
theorem RF {s t:St} (hs:gP ps s.a≠gP ps s.b) (c:gP ps t.a≠gP ps t.b):o8 ps s t=lX ps s t:=by
 unfold o8 lX
 rw [WA hs c]
 split
 ·rfl
 by_cases h0:xA (gP ps s.a) (gP ps s.b) (gP ps t.a) (gP ps t.b)=0
 ·rw [if_pos h0,h0,if_neg dcX];rfl
 rw [if_neg h0]
 split
 ·rfl
 rw [decide_eq_true h0]
theorem uQ (f:FaV):f.ri=f.o::f.hs:=rfl
theorem within_iff {f:FaV} (h:∀ r,r<f.ri.length→SR (cor ps 1 (f.ri.getD r r0).xs)):iZ ps 2 f p=true↔∀ r,r<f.ri.length→yj ps 2 p r (f.ri.getD r r0).xs=false:=by
 have h0:=h 0 (by rw [uQ];simp)
 have j:f.ri.getD 0 r0=f.o:=rfl
 have es:∀ k,f.ri.getD (k+1) r0=f.hs.getD k r0:=fun k=>rfl
 rw [j] at h0
 unfold iZ
 rw [Bool.and_eq_true,decide_eq_true_eq,h0.TW,List.all_eq_true]
 constructor
 ·rintro ⟨i,c⟩ r b
  unfold yj
  rw [decide_eq_false_iff_not]
  match r,b with
  | 0,_=>rw [j];rintro (⟨_,a⟩|⟨a,_⟩);exact a i;exact absurd a dcX
  | k+1,b =>
   have d:k<f.hs.length:=by rw [uQ] at b;simpa using b
   have a:=c _ (List.getElem_mem d)
   have e:=h (k+1) b
   rw [es,dV d] at e ⊢
   unfold IV at a
   rw [e.TW] at a
   rintro (⟨g,_⟩|⟨_,g⟩)
   ·exact absurd g omX
   simp [g] at a
 intro i
 constructor
 ·have:=i 0 (by rw [uQ];simp)
  unfold yj at this
  rw [decide_eq_false_iff_not,j] at this
  exact Classical.byContradiction fun c=>this (.inl ⟨rfl,c⟩)
 intro x hx
 obtain ⟨k,d,rfl⟩:=List.getElem_of_mem hx
 have b:k+1<f.ri.length:=by rw [uQ];simpa using d
 have a:=i (k+1) b
 have e:=h (k+1) b
 rw [es,dV d] at a e
 unfold yj at a
 rw [decide_eq_false_iff_not] at a
 have g:lN (cor ps 2 f.hs[k].xs) p=0:=Classical.byContradiction fun c=>a (.inr ⟨omX,c⟩)
 unfold IV
 rw [e.TW,g];rfl
theorem Zr {f:FaV} {q:Nat} (m:0<q) (h:∀ r,r<f.ri.length→SR (cor ps 1 (f.ri.getD r r0).xs)):iZ ps 2 (TN f q) p=true↔∀ r,r<f.ri.length→r≠q→yj ps 2 p r (f.ri.getD r r0).xs=false:=by
 have h0:=h 0 (by rw [uQ];simp)
 have l:f.ri.getD 0 r0=f.o:=rfl
 have es:∀ k,f.ri.getD (k+1) r0=f.hs.getD k r0:=fun k=>rfl
 rw [l] at h0
 unfold iZ TN
 simp only
 rw [Bool.and_eq_true,decide_eq_true_eq,h0.TW,List.all_eq_true]
 constructor
 ·rintro ⟨j,d⟩ r b c
  unfold yj
  rw [decide_eq_false_iff_not]
  match r,b,c with
  | 0,_,_=>rw [l];rintro (⟨_,a⟩|⟨a,_⟩);exact a j;exact absurd a dcX
  | k+1,b,c =>
   have e:k<f.hs.length:=by rw [uQ] at b;simpa using b
   have a:=d f.hs[k] (List.mem_eraseIdx_iff_getElem.2 ⟨k,e,omX,rfl⟩)
   have g:=h (k+1) b
   rw [es,dV e] at g ⊢
   unfold IV at a
   rw [g.TW] at a
   rintro (⟨i,_⟩|⟨_,i⟩)
   ·exact absurd i omX
   simp [i] at a
 intro j
 constructor
 ·have:=j 0 (by rw [uQ];simp) omX
  unfold yj at this
  rw [decide_eq_false_iff_not,l] at this
  exact Classical.byContradiction fun d=>this (.inl ⟨rfl,d⟩)
 intro x hx
 obtain ⟨k,e,c,rfl⟩:=List.mem_eraseIdx_iff_getElem.1 hx
 have b:k+1<f.ri.length:=by rw [uQ];simpa using e
 have a:=j (k+1) b omX
 have g:=h (k+1) b
 rw [es,dV e] at a g
 unfold yj at a
 rw [decide_eq_false_iff_not] at a
 have i:lN (cor ps 2 f.hs[k].xs) p=0:=Classical.byContradiction fun d=>a (.inr ⟨omX,d⟩)
 unfold IV
 rw [g.TW,i];rfl
theorem WJ {L:List St} : (L.map keyS).Nodup↔∀ i k,i<L.length→k<i→¬ ((L.getD i st0).a=(L.getD k st0).a∧(L.getD i st0).b=(L.getD k st0).b):=by
 rw [List.nodup_iff_pairwise_ne,List.pairwise_iff_getElem]
 constructor
 ·intro h i k hi f c
  refine h k i (by rw [List.length_map];omega) (by rw [List.length_map];exact hi) f ?_
  rw [List.getElem_map,List.getElem_map]
  rw [dV hi,dV (show k<L.length by omega)] at c
  unfold keyS
  rw [c.1,c.2]
 intro h i j hi d e c
 rw [List.length_map] at hi d
 rw [List.getElem_map,List.getElem_map] at c
 refine h j i d e ?_
 rw [dV hi,dV d]
 unfold keyS at c
 simp only [Prod.mk.injEq] at c
 omega
theorem Zt : ps.Nodup↔∀ i k,i<ps.length→k<i→gP ps i≠gP ps k:=by
 rw [List.nodup_iff_pairwise_ne,List.pairwise_iff_getElem]
 unfold gP
 constructor
 ·intro h i k hi d a
  rw [dV hi,dV (show k<ps.length by omega)] at a
  exact h k i omX hi d a.symm
 intro h i j hi c b a
 refine h j i c b ?_
 rw [dV hi,dV c,a]
structure Jg (c:CxV):Prop where
 p3:3≤c.ps.length
 ad7:c.ps.length≤120
 f1:1≤c.fs.length
 f64:c.fs.length≤64
 far:∀ i,i<c.ps.length→rE (gP c.ps i)=false
 twin:∀ i k,i<c.ps.length→k<i→gP c.ps i≠gP c.ps k
structure DI (c:CxV):Prop where
 holes:∀ j,j<c.fs.length→(c.fs.getD j f0).hs.length≤8
 idx:∀ j r,j<c.fs.length→r<(c.fs.getD j f0).ri.length→IxR c.ps.length ((c.fs.getD j f0).ri.getD r r0).xs
def MG (c:CxV):Prop:=∀ j r,j<c.fs.length→r<(c.fs.getD j f0).ri.length→RR (cor c.ps 1 ((c.fs.getD j f0).ri.getD r r0).xs)
def WL (c:CxV):Prop:=∀ j r,j<c.fs.length→r<(c.fs.getD j f0).ri.length→¬ (r=0∧jd (cor c.ps 1 ((c.fs.getD j f0).ri.getD r r0).xs) (cor c.ps 1 ((c.fs.getD j f0).ri.getD r r0).xs).length<0∨0<r∧0<jd (cor c.ps 1 ((c.fs.getD j f0).ri.getD r r0).xs) (cor c.ps 1 ((c.fs.getD j f0).ri.getD r r0).xs).length)
structure WM (c:CxV):Prop where
 twice:∀ i k,i<(stL c.fs).length→k<i→¬ (((stL c.fs).getD i st0).a=((stL c.fs).getD k st0).a∧((stL c.fs).getD i st0).b=((stL c.fs).getD k st0).b)
 clash:∀ i k,i<(stL c.fs).length→k<i→lX c.ps ((stL c.fs).getD i st0) ((stL c.fs).getD k st0)=false
 hole:∀ s∈stL c.fs,s.r≠0→∀ r,r<(c.fs.getD s.f f0).ri.length→r≠s.r→yj c.ps 2 (qx c.ps s) r ((c.fs.getD s.f f0).ri.getD r r0).xs=false
 over:∀ s∈stL c.fs,∀ j,j<c.fs.length→j≠s.f→∃ r,r<(c.fs.getD j f0).ri.length∧yj c.ps 2 (qx c.ps s) r ((c.fs.getD j f0).ri.getD r r0).xs=true
theorem DJ (c:CxV):RG c↔Jg c∧DI c∧MG c∧WL c∧WM c :=
 ⟨fun h=>⟨⟨h.p3,h.ad7,h.f1,h.f64,h.far,h.twin⟩,⟨h.holes,h.idx⟩,h.ring,h.turn,⟨h.twice,h.clash,h.hole,h.over⟩⟩,
  fun ⟨a,b,d,e,f⟩=>⟨a.p3,a.ad7,a.f1,a.f64,a.far,a.twin,b.holes,b.idx,d,e,f.twice,f.clash,f.hole,f.over⟩⟩
theorem WO (c:CxV):(sU c=false∧c.ps.any rE=false∧c.ps.Nodup)↔Jg c:=by
 unfold sU
 rw [Bool.or_eq_false_iff,Bool.or_eq_false_iff,Bool.or_eq_false_iff,decide_eq_false_iff_not,decide_eq_false_iff_not,decide_eq_false_iff_not,decide_eq_false_iff_not,any_false (d:=((0,0):Pt)),Zt]
 exact ⟨fun ⟨⟨e,f,g,i⟩,a,b⟩=>⟨omX,omX,omX,omX,a,b⟩,fun h=>⟨⟨by have:=h.p3;omega,by have:=h.ad7;omega,by have:=h.f1;omega,by have:=h.f64;omega⟩,h.far,h.twin⟩⟩
theorem MH (c:CxV):c.fs.any (jw c.ps.length)=false↔DI c:=by
 rw [any_false (d:=f0)]
 constructor
 ·intro h
  refine ⟨fun j a=>?_,fun j r a b=>?_⟩
  ·have:=h j a
   unfold jw at this
   rw [Bool.or_eq_false_iff,decide_eq_false_iff_not] at this
   omega
  have:=h j a
  unfold jw at this
  rw [Bool.or_eq_false_iff] at this
  exact WH.1 (oQ.1 this.2 r b)
 intro h j a
 unfold jw
 rw [Bool.or_eq_false_iff,decide_eq_false_iff_not]
 exact ⟨by have:=h.holes j a;omega,oQ.2 fun r b=>WH.2 (h.idx j r a b)⟩
theorem MI {c:CxV} (e:Jg c) (hi:DI c):c.fs.any (fun f=>BL f.ri (badR c.ps))=false↔MG c:=by
 rw [any_false (d:=f0)]
 exact ⟨fun h j r a b=>(Ry e.far (hi.idx j r a b)).1 (oQ.1 (h j a) r b),fun h j a=>oQ.2 fun r b=>(Ry e.far (hi.idx j r a b)).2 (h j r a b)⟩
theorem MJ {c:CxV} (e:MG c):c.fs.any (fun f=>BL f.ri (qy c.ps))=false↔WL c:=by
 rw [any_false (d:=f0)]
 exact ⟨fun h j r b a=>(Rz (e j r b a)).1 (oQ.1 (h j b) r a),fun h j b=>oQ.2 fun r a=>(Rz (e j r b a)).2 (h j r b a)⟩
theorem MK {c:CxV} (q:MG c):iG c.ps c.fs=false↔WM c:=by
 have t:∀ j,j<c.fs.length→∀ r,r<(c.fs.getD j f0).ri.length→SR (cor c.ps 1 ((c.fs.getD j f0).ri.getD r r0).xs):=fun j m r C=>(q j r m C).sr
 have Zu:∀ s∈stL c.fs,gP c.ps s.a≠gP c.ps s.b:=fun s hs=>by
  obtain ⟨n,A,p,F,ha,hb⟩:=WI hs
  rw [ha,hb]
  exact acF (q _ _ n A) F
 have e:∀ i,i<(stL c.fs).length→(stL c.fs).getD i st0∈stL c.fs:=fun i hi=>by rw [dV hi];exact List.getElem_mem hi
 have u:∀ i,i<(stL c.fs).length→(oI c.ps (stL c.fs) i=false↔∀ k,k<i→lX c.ps ((stL c.fs).getD i st0) ((stL c.fs).getD k st0)=false):=fun i hi=>by
  unfold oI
  rw [any_false (d:=st0)]
  constructor
  ·intro h k o
   have:=h k (by rw [List.length_take];omega)
   rw [List.getD_eq_getElem?_getD (l:=List.take _ _),List.getElem?_take_of_lt o,← List.getD_eq_getElem?_getD] at this
   rw [← RF (Zu _ (e i hi)) (Zu _ (e k omX))]
   exact this
  intro h k o
  rw [List.length_take] at o
  have v:k<i:=by omega
  rw [List.getD_eq_getElem?_getD (l:=List.take _ _),List.getElem?_take_of_lt v,← List.getD_eq_getElem?_getD,RF (Zu _ (e i hi)) (Zu _ (e k omX))]
  exact h k v
 have w:∀ s∈stL c.fs,(lM c.ps c.fs s=false↔(s.r≠0→∀ r,r<(c.fs.getD s.f f0).ri.length→r≠s.r→yj c.ps 2 (qx c.ps s) r ((c.fs.getD s.f f0).ri.getD r r0).xs=false)):=fun s hs=>by
  unfold lM
  by_cases h0:s.r≠0
  ·rw [decide_eq_true h0,Bool.true_and,Bool.not_eq_false',Zr omX (t s.f (WI hs).1)]
   exact ⟨fun h _=>h,fun h=>h h0⟩
  rw [decide_eq_false h0];exact ⟨fun _ h=>absurd h h0,fun _=>rfl⟩
 have x:∀ s∈stL c.fs,(pz c.ps c.fs s=false↔∀ j,j<c.fs.length→j≠s.f→∃ r,r<(c.fs.getD j f0).ri.length∧yj c.ps 2 (qx c.ps s) r ((c.fs.getD j f0).ri.getD r r0).xs=true):=fun s hs=>by
  have B:∀ j,j<c.fs.length→(iZ c.ps 2 (c.fs.getD j f0) (qx c.ps s)=false↔∃ r,r<(c.fs.getD j f0).ri.length∧yj c.ps 2 (qx c.ps s) r ((c.fs.getD j f0).ri.getD r r0).xs=true):=fun j m=>by
   have y:=within_iff (p:=qx c.ps s) (t j m)
   constructor
   ·intro h
    refine Classical.byContradiction fun hn=>?_
    have:=y.2 fun r q=>by
     cases ho:yj c.ps 2 (qx c.ps s) r ((c.fs.getD j f0).ri.getD r r0).xs with
     | false=>rfl
     | true=>exact absurd ⟨r,q,ho⟩ hn
    rw [h] at this;cases this
   rintro ⟨r,q,ho⟩
   cases B:iZ c.ps 2 (c.fs.getD j f0) (qx c.ps s) with
   | false=>rfl
   | true =>
    have:=y.1 B r q
    rw [ho] at this;cases this
  unfold pz
  rw [List.any_eq_false]
  constructor
  ·intro h j m g
   have n:=h j (List.mem_range.2 m)
   unfold uN at n
   rw [decide_eq_true g,Bool.true_and,Bool.not_eq_true] at n
   exact (B j m).1 n
  intro h j m
  have z:=List.mem_range.1 m
  unfold uN
  by_cases g:j≠s.f
  ·rw [decide_eq_true g,Bool.true_and,Bool.not_eq_true]
   exact (B j z).2 (h j z g)
  rw [decide_eq_false g];simp
 unfold iG
 rw [Bool.or_eq_false_iff,Bool.or_eq_false_iff,Bool.or_eq_false_iff,Bool.not_eq_false',decide_eq_true_eq,WJ]
 constructor
 ·rintro ⟨n,A,D,E⟩
  refine ⟨n,fun i k hi o=>?_,fun s hs=>?_,fun s hs=>?_⟩
  ·rw [List.any_eq_false] at A
   have:=A i (List.mem_range.2 hi)
   rw [Bool.not_eq_true] at this
   exact (u i hi).1 this k o
  ·rw [List.any_eq_false] at D
   have:=D s hs
   rw [Bool.not_eq_true] at this
   exact (w s hs).1 this
  rw [List.any_eq_false] at E
  have:=E s hs
  rw [Bool.not_eq_true] at this
  exact (x s hs).1 this
 intro h
 refine ⟨h.twice,?_,?_,?_⟩
 ·rw [List.any_eq_false]
  intro i hi
  rw [Bool.not_eq_true]
  exact (u i (List.mem_range.1 hi)).2 fun k o=>h.clash i k (List.mem_range.1 hi) o
 ·rw [List.any_eq_false]
  intro s hs
  rw [Bool.not_eq_true]
  exact (w s hs).2 (h.hole s hs)
 rw [List.any_eq_false]
 intro s hs
 rw [Bool.not_eq_true]
 exact (x s hs).2 (h.over s hs)
theorem abd (c:CxV):iq c=false↔RG c:=by
 rw [DJ]
 unfold iq
 rw [Bool.or_eq_false_iff,Bool.or_eq_false_iff,Bool.or_eq_false_iff,Bool.or_eq_false_iff,Bool.or_eq_false_iff,Bool.or_eq_false_iff,Bool.not_eq_false',decide_eq_true_eq]
 constructor
 ·rintro ⟨g,h,i,j,k,l,m⟩
  have a:=(WO c).1 ⟨g,h,i⟩
  have b:=(MH c).1 j
  have d:=(MI a b).1 k
  exact ⟨a,b,d,(MJ d).1 l,(MK d).1 m⟩
 rintro ⟨a,b,d,e,f⟩
 obtain ⟨g,h,i⟩:=(WO c).2 a
 exact ⟨g,h,i,(MH c).2 b,(MI a b).2 d,(MJ d).2 e,(MK d).2 f⟩
end Geo
end Go.Proofs.YtnlonpcbgjbbaaaGreatDoor
