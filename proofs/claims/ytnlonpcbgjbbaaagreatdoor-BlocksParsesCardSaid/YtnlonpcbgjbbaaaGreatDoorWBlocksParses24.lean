/-
  BlocksParses, part 24 of its proof: that it returns true for every input, and each argument reads behind the call as it read before. Conditions: the listed variables read as the program's text lays them (tied by the card).
-/
import Derived.Test.YtnlonpcbgjbbaaaGreatDoorWBlocksParses22
import Derived.Test.YtnlonpcbgjbbaaaGreatDoorWBlocksParses23
import Derived.Test.YtnlonpcbgjbbaaaGreatDoorWBlocksParses16
import Derived.Test.YtnlonpcbgjbbaaaGreatDoorWBlocksParses21
set_option linter.unusedVariables false
set_option linter.unusedSimpArgs false
set_option maxRecDepth 20000
namespace Go.Proofs.YtnlonpcbgjbbaaaGreatDoor
open Go.Proofs.Tryz
open Go Go.E RowKit
attribute [local irreducible] Go.E.T Go.E.L Go.E.O Go.E.Ob
attribute [local irreducible] Go.E.ObX Go.E.ObG Go.E.ObK
variable {c:CxV} {xs:List Int} {ws:List Str} {i m n:Nat} {s:PS} {d:RdD} {r:RoV} {k l t:Str} {v:Value} {W W' w w0:World}
structure WAt (t:Str) (i:Nat) (one:Str) (done:List Str):Prop where
 le:i≤t.length+1
 now:i≤t.length→done++jo one (t.drop i)=jo [] t
 fin:i=t.length+1→done=jo [] t
 few:done.length≤i
 sh:one.length≤i
theorem WAt.more {one:Str} {done:List Str} (h:WAt t i one done) (hi:i<t.length) (hb:t.getD i 0≠32):WAt t (i+1) (one++(t.drop i).take (i+1-i)) done:=by
 have e:t.drop i=t[i]::t.drop (i+1):=List.drop_eq_getElem_cons hi
 have e1:(t.drop i).take (i+1-i) = [t[i]]:=by rw [show i+1-i=1 by omega,e];rfl
 have a:¬ t[i]=32:=by rw [aX hi] at hb;exact hb
 rw [e1]
 refine ⟨omX,fun _=>?_,fun b=>by omega,by have:=h.few;omega,by have:=h.sh;simp;omega⟩
 have:=h.now omX
 rw [e,jo,if_neg a] at this
 exact this
theorem WAt.word {one:Str} {done:List Str} (h:WAt t i one done) (hi:¬ (i<t.length∧t.getD i 0≠32)) (d:i≤t.length) (h0:one ≠ []):WAt t (i+1) [] (done ++ [one]):=by
 have hn:=h.now d
 rcases Nat.lt_or_ge i t.length with a|a
 ·have e:t.drop i=t[i]::t.drop (i+1):=List.drop_eq_getElem_cons a
  have b:t[i]=32:=by have:=Classical.byContradiction fun c=>hi ⟨a,c⟩;rw [aX a] at this;exact this
  rw [e,jo,if_pos b,if_neg h0] at hn
  exact ⟨omX,fun _=>by rw [List.append_assoc];exact hn,fun c=>by omega,by have:=h.few;simp;omega,Nat.zero_le _⟩
 obtain rfl:i=t.length:=by omega
 rw [List.drop_length,jo,if_neg h0] at hn
 exact ⟨Nat.le_refl _,fun c=>by omega,fun _=>hn,by have:=h.few;simp;omega,Nat.zero_le _⟩
theorem WAt.skip {done:List Str} (h:WAt t i [] done) (hi:¬ (i<t.length∧t.getD i 0≠32)) (d:i≤t.length):WAt t (i+1) [] done:=by
 have hn:=h.now d
 rcases Nat.lt_or_ge i t.length with a|a
 ·have e:t.drop i=t[i]::t.drop (i+1):=List.drop_eq_getElem_cons a
  have b:t[i]=32:=by have:=Classical.byContradiction fun c=>hi ⟨a,c⟩;rw [aX a] at this;exact this
  rw [e,jo,if_pos b,if_pos rfl] at hn
  exact ⟨omX,fun _=>hn,fun c=>by omega,by have:=h.few;omega,Nat.zero_le _⟩
 obtain rfl:i=t.length:=by omega
 rw [List.drop_length,jo,if_pos rfl,List.append_nil] at hn
 exact ⟨Nat.le_refl _,fun c=>by omega,fun _=>hn,by have:=h.few;omega,Nat.zero_le _⟩
theorem WAt.start (t:Str):WAt t 0 [] []:=⟨omX,fun _=>rfl,fun h=>by omega,Nat.le_refl _,Nat.le_refl _⟩
theorem NZ (t:Str) (w:World) (F:t.length≤1000000) :
  Calls Tryz.prog 100 #[str t] w (Ret fun v w'=>vV w.heap.size (fieldsB t) v w'∧Ext w w'):=by
 refine aJ (vs:=[str t]) func100 Z ntmps100 Z ?_
 refine au (ah Z (au (ah Z (au (ah Z (aj (au (ah Z (T.block (?_))))))))))
 refine bf (σ:=(Nat × Str × Value) × List Str) (fun g=>[(0,str t),(3,g.1.2.2),(4,str g.1.2.1),(5,.int .i64 g.1.1)]) (fun g W=>WAt t g.1.1 g.1.2.1 g.2∧vV w.heap.size g.2 g.1.2.2 W∧Ext w W) (fun g=>t.length+1-g.1.1) (((0,[],.slice none 0 0),[])) ⟨rfl,rfl,rfl,rfl,trivial⟩ ⟨WAt.start t,iF _ _ _ _,Keep.refl _ _⟩ ?_
 rintro ⟨⟨i,one,lv⟩,done⟩ w1 ⟨a,b,c⟩
 simp only at a b
 have D:=a.few
 have r:=a.sh
 have E:=a.le
 refine aj (au (aN Z Z (L.o (dB runUnderlying9 Z (L.o (fB Z Z (fun j=>?_) (fun j=>?_)))))))
 ·refine ak (?_)
  have f:i≤t.length:=by simp only at j;omega
  refine aZ (T.skip (aj (?_)))
  refine dS (σ:=(Str × Value) × List Str) (fun g=>[(0,str t),(3,g.1.2),(4,str g.1.1),(5,.int .i64 i)]) (fun g W=>WAt t (i+1) g.1.1 g.2∧vV w.heap.size g.2 g.1.2 W∧Ext w W) ?_ ?_
  ·refine T.block (au (aN Z Z (L.o (dB runUnderlying9 Z (bH Z Z (fun s=>?_) (fun s=>?_))))))
   ·have p:i<t.length:=by simp only at s;omega
    refine aN Z Z (aO Z (eX runUnderlying9 Z Z p (L.ne Z Z (fun u=>?_) (fun u=>?_))))
    ·have x:t.getD i 0≠32:=fun e=>u (by (try simp only);rw [e];rfl)
     refine aG Z (aW (aA (aN Z Z (aN Z Z (L.o (bG Z Z (by (try simp only);omega) (?_)))))))
     rw [show ((i:Nat):Int)+1=((i+1:Nat):Int) by omega]
     refine L.o (qR runUnderlying9 Z Z Z (show i≤i+1 by omega) (show i+1≤t.length by omega) (L.o (bW Z Z (by have G:=List.length_take_le (i+1-i) (t.drop i);have H:=r;show one.length+((t.drop i).take (i+1-i)).length≤_;omega) (ah Z (T.blk (bC (((one++(t.drop i).take (i+1-i),lv),done)) ⟨rfl,rfl,rfl,rfl,trivial⟩ ⟨a.more p x,b,c⟩))))))
    have d:¬ (i<t.length∧t.getD i 0≠32):=fun h=>h.2 (UInt8.toNat_inj.1 (by simp only at u;show (t.getD i 0).toNat=32;omega))
    refine aG Z (aU (au (aO Z (qw runUnderlying9 Z Z (fun k=>?_) (fun k=>?_)))))
    ·refine aW (au (aN Z Z (L.o (aH (el:=9) (parts:=[(0,.tmp 32)]) (vs:=[(0,_)]) (cs:=([one].map str)) Z (fun w=>by kernel_rfl) (fun y z afp ajg jv FK=>?_)))))
     refine L.o (dJ (size:=1) (bytes:=16) runUnderlying61 Tryz.qp Z Z Z Z dcX rfl rfl (cO b (jv.mono lzX) leX) (Strs.bI (lo:=0) FK Z dcX lzX) (nD _) (by simp only [List.length_cons,List.length_nil,maxLen];omega) (by simp only [maxLen,List.length_cons,List.length_nil];omega) (by have:=c.size;have:=jv.size;omega) (fun l A afJ afK=>?_))
     refine ah Z (aA (ah Z (T.blk (bC ((([],l),done ++ [one])) ⟨rfl,rfl,rfl,rfl,trivial⟩ ⟨a.word d f k,qQ (ys:=[one]) afJ,Keep.jg (c.trans jv) (cO b (jv.mono lzX) leX) afK leX⟩))))
    refine ak (?_)
    subst k
    refine bn (T.skip (T.blk (bC ((([],lv),done)) ⟨rfl,rfl,rfl,rfl,trivial⟩ ⟨a.skip d f,b,c⟩)))
   have d:¬ (i<t.length∧t.getD i 0≠32):=fun h=>s (by (try simp only);omega)
   refine L.m Z (L.pp (L.pp (aI Z (aU (au (aO Z (qw runUnderlying9 Z Z (fun k=>?_) (fun k=>?_))))))))
   ·refine aW (au (aN Z Z (L.o (aH (el:=9) (parts:=[(0,.tmp 32)]) (vs:=[(0,_)]) (cs:=([one].map str)) Z (fun w=>by kernel_rfl) (fun y z afp ajg jv FK=>?_)))))
    refine L.o (dJ (size:=1) (bytes:=16) runUnderlying61 Tryz.qp Z Z Z Z dcX rfl rfl (cO b (jv.mono lzX) leX) (Strs.bI (lo:=0) FK Z dcX lzX) (nD _) (by simp only [List.length_cons,List.length_nil,maxLen];omega) (by simp only [maxLen,List.length_cons,List.length_nil];omega) (by have:=c.size;have:=jv.size;omega) (fun l A afJ afK=>?_))
    refine ah Z (aA (ah Z (T.blk (bC ((([],l),done ++ [one])) ⟨rfl,rfl,rfl,rfl,trivial⟩ ⟨a.word d f k,qQ (ys:=[one]) afJ,Keep.jg (c.trans jv) (cO b (jv.mono lzX) leX) afK leX⟩))))
   refine ak (?_)
   subst k
   refine bn (T.skip (T.blk (bC ((([],lv),done)) ⟨rfl,rfl,rfl,rfl,trivial⟩ ⟨a.skip d f,b,c⟩)))
  rintro ⟨⟨arH,B⟩,n⟩ I ⟨q,hO2,C⟩
  simp only at q hO2
  refine aA (aO Z (bG Z Z (by (try simp only);omega) (ah Z (aP (((i+1,arH,B),n)) (show t.length+1-(i+1)<t.length+1-i by omega) ⟨rfl,rfl,rfl,rfl,trivial⟩ ⟨q,hO2,C⟩))))
 refine ak (?_)
 obtain rfl:i=t.length+1:=by simp only at j;omega
 refine bn (aY Z (aQ Z (ah Z (aB results100 Z ⟨by rw [zV,← a.fin rfl];exact b,c⟩))))
structure NAt (s:Str) (i n:Nat) (ng:Bool):Prop where
 le:i≤s.length
 sg:ng=(decide (0<i) && decide (s.getD 0 0=45))
 val:n=xE 0 ((s.take i).drop (if ng=true then 1 else 0))
 ok:∀ k,k<i→(k=0∧s.getD 0 0=45)∨vW (s.getD k 0)=true
 lt:n<10 ^ i
theorem NAt.start (s:Str):NAt s 0 0 false:=⟨Nat.zero_le _,rfl,by simp [vM],fun k a=>absurd a (Nat.not_lt_zero _),dcX⟩
theorem NAt.neg {s:Str} {ng:Bool} (h:NAt s 0 n ng) (a:0<s.length) (hb:s.getD 0 0=45):NAt s 1 n true:=by
 have hn:n=0:=by have:=h.lt;omega
 obtain ⟨c,r,rfl⟩:∃ c r,s=c::r:=by
  cases s with
  | nil=>simp at a
  | cons c r=>exact ⟨c,r,rfl⟩
 refine ⟨a,by rw [hb];rfl,?_,fun k b=>.inl ⟨omX,hb⟩,by rw [hn];decide⟩
 rw [hn];simp [vM]
theorem NAt.digit {s:Str} {ng:Bool} (h:NAt s i n ng) (a:i<s.length) (hb:¬ (i=0∧s.getD 0 0=45)) (f:vW (s.getD i 0)=true):NAt s (i+1) (n*10+((s.getD i 0).toNat-48)) ng:=by
 have j:=gU.1 f
 have b:ng=(decide (0<i+1) && decide (s.getD 0 0=45)):=by
  rcases Nat.eq_zero_or_pos i with h0|h0
  ·subst h0
   have c:¬ s.getD 0 0=45:=fun e=>hb ⟨rfl,e⟩
   rw [h.sg,decide_eq_false c];rfl
  rw [h.sg,decide_eq_true h0,decide_eq_true (show 0<i+1 by omega)]
 have d:(if ng=true then 1 else 0)≤(s.take i).length:=by
  rw [List.length_take]
  split
  ·rename_i hn
   have:=h.sg
   rw [hn] at this
   have h0:0<i:=by
    rcases Nat.eq_zero_or_pos i with h0|h0
    ·subst h0;simp at this
    exact h0
   omega
  omega
 refine ⟨a,b,?_,fun k l=>?_,?_⟩
 ·have e:s.take (i+1)=s.take i ++ [s.getD i 0]:=by rw [List.take_succ_eq_append_getElem a,aX a]
  rw [e,List.drop_append_of_le_length d,Ep,← h.val]
 ·rcases Nat.lt_or_ge k i with g|g
  ·exact h.ok k g
  obtain rfl:k=i:=by omega
  exact .inr f
 have:=h.lt
 rw [Nat.pow_succ];omega
theorem H6:∀ (k u:Nat),u<10 ^ (k+1)→Lib.nDigits u≤k+1
 | 0,u,h=>by rw [Lib.nDigits_small (by simpa using h)];omega
 | k+1,u,h=>by
  by_cases a:u<10
  ·rw [Lib.nDigits_small a];omega
  rw [Lib.nDigits_big a]
  have:=H6 k (u / 10) (by rw [Nat.pow_succ] at h;omega)
  omega
theorem xg {s:Str} {m:Int} (h:kP s=some m):s.length≤11∧(∀ k,k<s.length→(k=0∧s.getD 0 0=45)∨vW (s.getD k 0)=true)∧m=(if s.getD 0 0=45 then -1 else 1)*((xE 0 (s.drop (if s.getD 0 0=45 then 1 else 0)):Nat):Int):=by
 obtain ⟨_,g,p,q⟩:=qW h
 have a:∀ u:Nat,u≤1000000000→(Lib.decDigits u).length≤10:=fun u r=>by
  rw [Lib.decDigits_length];exact H6 9 u omX
 rcases Int.lt_or_le m 0 with i|i
 ·have e:s=45::Lib.decDigits m.natAbs:=by rw [← g];unfold Lib.itoa;rw [if_pos i]
  obtain ⟨c1,c2⟩:=qY m.natAbs
  have d:=(jM.1 c1).2.1
  have l:=a m.natAbs omX
  subst e
  refine ⟨by simp;omega,fun k f=>?_,?_⟩
  ·cases k with
   | zero=>exact .inl ⟨rfl,rfl⟩
   | succ k =>
    right
    have c:k<(Lib.decDigits m.natAbs).length:=by simpa using f
    show vW ((Lib.decDigits m.natAbs).getD k 0)=true
    rw [aX c];exact d _ (List.getElem_mem c)
  show m=(if (45:UInt8)=45 then -1 else 1)*((xE 0 ((45::Lib.decDigits m.natAbs).drop (if (45:UInt8)=45 then 1 else 0)):Nat):Int)
  rw [if_pos rfl,if_pos rfl,List.drop_succ_cons,List.drop_zero,c2];omega
 have e:s=Lib.decDigits m.toNat:=by rw [← g];unfold Lib.itoa;rw [if_neg omX]
 obtain ⟨c1,c2⟩:=qY m.toNat
 obtain ⟨n,d,_⟩:=jM.1 c1
 have l:=a m.toNat omX
 have b:0<(Lib.decDigits m.toNat).length:=List.length_pos_iff.2 n
 have h0:¬ s.getD 0 0=45:=fun o=>by
  have j:vW (s.getD 0 0)=true:=by rw [e,aX b];exact d _ (List.getElem_mem b)
  rw [o] at j;exact absurd j dcX
 refine ⟨by rw [e];omega,fun k f=>.inr (by rw [aX f];exact d _ (by rw [← e];exact List.getElem_mem f)),?_⟩
 rw [if_neg h0,if_neg h0,List.drop_zero,e,c2];omega
theorem NAt.fin {s:Str} {ng:Bool} (h:NAt s s.length n ng) {m:Int} (d:kP s=some m):m=(if ng=true then -1 else 1)*(n:Int):=by
 obtain ⟨_,_,b⟩:=xg d
 have hv:=h.val
 rw [List.take_length] at hv
 by_cases h0:s.getD 0 0=45
 ·have a:ng=true:=by
   have e:0<s.length:=by
    cases s with
    | nil=>simp at h0
    | cons c r=>simp
   rw [h.sg,decide_eq_true e,decide_eq_true h0];rfl
  rw [a,if_pos rfl] at hv
  rw [if_pos h0,if_pos h0] at b
  rw [a,if_pos rfl,b,hv]
 have a:ng=false:=by rw [h.sg,decide_eq_false h0,Bool.and_false]
 rw [a,if_neg dcX] at hv
 rw [if_neg h0,if_neg h0] at b
 rw [a,if_neg dcX,b,hv]
theorem JV {s:Str} {n:Int} (h:∀ m,kP s=some m→m=n) (a:¬ (Lib.itoa n=s ∧ -1000000000≤n∧n≤1000000000)):kP s=none:=by
 cases hs:kP s with
 | none=>rfl
 | some m =>
  obtain rfl:=h m hs
  obtain ⟨_,b,c,d⟩:=qW hs
  exact absurd ⟨b,c,d⟩ a
theorem aaC {s:Str} {n:Int} (a:Lib.itoa n=s) (b : -1000000000≤n) (c:n≤1000000000):kP s=some n:=by rw [← a];exact Ho b c
def arI (s:Str) (v:Value):Prop:=∃ (n:Int) (b:Bool),v = .tuple #[.int .i64 n,.bool b]∧(b=true→kP s=some n)∧(b=false→kP s=none)
theorem JW {s:Str} {k:Nat} (a:k<s.length) (b:¬ (k=0∧s.getD 0 0=45)) (c:¬ vW (s.getD k 0)=true):kP s=none:=by
 cases hs:kP s with
 | none=>rfl
 | some m =>
  rcases (xg hs).2.1 k a with h|h
  ·exact absurd h b
  exact absurd h c
theorem aaD {s:Str} (h:11<s.length):kP s=none:=by
 cases hs:kP s with
 | none=>rfl
 | some m=>have:=(xg hs).1;omega
theorem N7 (s:Str) (w:World) (hs:s.length≤1000000) :
  Calls Tryz.prog 194 #[str s] w (Ret fun v w'=>arI s v∧Ext w w'):=by
 refine aJ (vs:=[str s]) func194 Z ntmps194 Z ?_
 refine fK Z (ah Z (aj (au (aO Z (dB runUnderlying9 Z (dY Z Z (fun j=>?_) (fun j=>?_)))))))
 ·refine aW (fK Z (ah Z (cu results194 Z Z ⟨⟨_,false,rfl,fun h=>(by cases h),fun _=>aaD omX⟩,Keep.refl _ _⟩)))
 refine aU (T.skip (fK Z (ah Z (aj (au (ah Z (T.block (?_))))))))
 refine bf (σ:=Nat × Nat × Bool) (fun g=>[(0,str s),(4,.int .i64 g.2.1),(5,.int .i64 (if g.2.2=true then -1 else 1)),(6,.int .i64 g.1)]) (fun g w'=>NAt s g.1 g.2.1 g.2.2∧w'=w) (fun g=>s.length-g.1) ((0,0,false)) ⟨rfl,rfl,rfl,rfl,trivial⟩ ⟨NAt.start s,rfl⟩ ?_
 rintro ⟨i,n,ng⟩ w1 ⟨hA,rfl⟩
 simp only at hA
 have r:=hA.le
 have t:n<100000000000:=Nat.lt_of_lt_of_le hA.lt (Nat.pow_le_pow_right dcX (show i≤11 by omega))
 refine aj (au (aN Z Z (L.o (dB runUnderlying9 Z (bH Z Z (fun e=>?_) (fun e=>?_))))))
 ·refine ak (?_)
  have b:i<s.length:=by simp only at e;omega
  refine aZ (T.skip (aj (?_)))
  refine dS (σ:=Nat × Bool) (fun g=>[(0,str s),(4,.int .i64 g.1),(5,.int .i64 (if g.2=true then -1 else 1)),(6,.int .i64 i)]) (fun g w'=>w'=w1∧NAt s (i+1) g.1 g.2) ?_ ?_
  ·refine T.block (aQ Z (dK Z Z (fun z0=>?_) (fun z0=>?_)))
   ·obtain rfl:i=0:=by simp only at z0;omega
    refine aN Z Z (aO Z (eX runUnderlying9 Z Z b (dK Z Z (fun z1=>?_) (fun z1=>?_))))
    ·have hb:s.getD 0 0=45:=UInt8.toNat_inj.1 (by simp only at z1;show (s.getD 0 0).toNat=45;omega)
     refine aG Z (aW (aA (ah Z (T.blk (bC ((n,true)) ⟨rfl,rfl,rfl,rfl,trivial⟩ ⟨rfl,hA.neg b hb⟩)))))
    have hb:¬ (0=0∧s.getD 0 0=45):=fun h=>z1 (by simp only;rw [h.2];rfl)
    refine aG Z (aU (au (aN Z Z (L.o (eX runUnderlying9 Z Z b (bH Z Z (fun z2=>?_) (fun z2=>?_)))))))
    ·refine L.m Z (L.pp (L.pp (aG Z (aW (fK Z (ah Z (cu results194 Z Z ⟨⟨_,false,rfl,fun h=>(by cases h),fun _=>JW b hb (fun h=>by have:=gU.1 h;simp only at z2;omega)⟩,Keep.refl _ _⟩)))))))
    refine aN Z Z (aO Z (eX runUnderlying9 Z Z b (dY Z Z (fun z3=>?_) (fun z3=>?_))))
    ·refine aI Z (aW (fK Z (ah Z (cu results194 Z Z ⟨⟨_,false,rfl,fun h=>(by cases h),fun _=>JW b hb (fun h=>by have:=gU.1 h;simp only at z3;omega)⟩,Keep.refl _ _⟩))))
    have c:vW (s.getD 0 0)=true:=gU.2 (by simp only at z2 z3;omega)
    have arJ:=gU.1 c
    refine aI Z (aU (aA (aO Z (dN Z Z (by (try simp only);omega) (aN Z Z (L.o (eX runUnderlying9 Z Z b (L.o (D8 Z Z (by (try simp only);omega) (L.o (dO Z (fun w=>⟨_,runUnderlying5 w⟩) runUnderlying3 (IntWalk.i64_in _ ⟨omX,omX⟩) (L.o (bG Z Z (by (try simp only);omega) (ah Z (T.blk (bC ((n*10+((s.getD 0 0).toNat-48),ng)) ⟨rfl,?_,rfl,rfl,trivial⟩ ⟨rfl,hA.digit b hb c⟩))))))))))))))))
    ·exact congrArg (fun z=>some (Value.int .i64 z)) (show ((n:Nat):Int)*10+(((s.getD 0 0).toNat:Int)-48)=((n*10+((s.getD 0 0).toNat-48):Nat):Int) by omega)
   have hb:¬ (i=0∧s.getD 0 0=45):=fun h=>z0 (by simp only;omega)
   refine L.m Z (L.pp (L.pp (aI Z (aU (au (aN Z Z (L.o (eX runUnderlying9 Z Z b (bH Z Z (fun z2=>?_) (fun z2=>?_))))))))))
   ·refine L.m Z (L.pp (L.pp (aG Z (aW (fK Z (ah Z (cu results194 Z Z ⟨⟨_,false,rfl,fun h=>(by cases h),fun _=>JW b hb (fun h=>by have:=gU.1 h;simp only at z2;omega)⟩,Keep.refl _ _⟩)))))))
   refine aN Z Z (aO Z (eX runUnderlying9 Z Z b (dY Z Z (fun z3=>?_) (fun z3=>?_))))
   ·refine aI Z (aW (fK Z (ah Z (cu results194 Z Z ⟨⟨_,false,rfl,fun h=>(by cases h),fun _=>JW b hb (fun h=>by have:=gU.1 h;simp only at z3;omega)⟩,Keep.refl _ _⟩))))
   have c:vW (s.getD i 0)=true:=gU.2 (by simp only at z2 z3;omega)
   have arJ:=gU.1 c
   refine aI Z (aU (aA (aO Z (dN Z Z (by (try simp only);omega) (aN Z Z (L.o (eX runUnderlying9 Z Z b (L.o (D8 Z Z (by (try simp only);omega) (L.o (dO Z (fun w=>⟨_,runUnderlying5 w⟩) runUnderlying3 (IntWalk.i64_in _ ⟨omX,omX⟩) (L.o (bG Z Z (by (try simp only);omega) (ah Z (T.blk (bC ((n*10+((s.getD i 0).toNat-48),ng)) ⟨rfl,?_,rfl,rfl,trivial⟩ ⟨rfl,hA.digit b hb c⟩))))))))))))))))
   ·exact congrArg (fun z=>some (Value.int .i64 z)) (show ((n:Nat):Int)*10+(((s.getD i 0).toNat:Int)-48)=((n*10+((s.getD i 0).toNat-48):Nat):Int) by omega)
  rintro ⟨n2,l⟩ A ⟨rfl,hA2⟩
  refine aA (aO Z (bG Z Z (by (try simp only);omega) (ah Z (aP ((i+1,n2,l)) (show s.length-(i+1)<s.length-i by omega) ⟨rfl,rfl,rfl,rfl,trivial⟩ ⟨hA2,rfl⟩))))
 refine ak (?_)
 obtain rfl:i=s.length:=by simp only at e;omega
 obtain ⟨z,p⟩:∃ z:Int,z=(if ng=true then -1 else 1)*(n:Int):=⟨_,rfl⟩
 have u : -100000000000<z∧z<100000000000:=by rw [p];split <;> omega
 have d:∀ m,kP s=some m→m=z:=fun m x ↦ by rw [p];exact hA.fin x
 refine bn (aY Z (au (aN Z Z (L.o (dN Z Z (by (try simp only);split <;> omega) (?_))))))
 simp only
 rw [← p]
 refine ah Z (au (aN Z Z (L.o (ay (xs:=[.tmp 46]) call96 Z Z (Nl z w1 omX omX) (fun v3 B y=>?_)))))
 obtain ⟨rfl,f⟩:=y
 refine aO Z (fM runUnderlying9 Z Z (fun e1=>?_) (fun e1=>?_))
 ·refine aN Z Z (L.o (fJ Z Z (fun q=>?_) (fun q=>?_)))
  ·refine aG Z (aN Z Z (L.o (jS Z Z (aG Z (L.a Z (ah Z (cu results194 Z Z ⟨⟨z,_,rfl,fun h=>aaC e1 omX (by have:=of_decide_eq_true h;omega),fun h=>JV d (fun k=>of_decide_eq_false h omX)⟩,f⟩)))))))
  refine aG Z (L.m Z (L.pp (aI Z (L.a Z (ah Z (cu results194 Z Z ⟨⟨z,false,rfl,fun h=>(by cases h),fun _=>JV d (fun k=>q omX)⟩,f⟩))))))
 refine L.m Z (L.pp (aI Z (L.m Z (L.pp (aI Z (L.a Z (ah Z (cu results194 Z Z ⟨⟨z,false,rfl,fun h=>(by cases h),fun _=>JV d (fun k=>e1 k.1)⟩,f⟩))))))))
theorem Yc (hi:i<ws.length) (h:kP (ws.getD i [])=none):fQ ws=none:=by
 cases hs:fQ ws with
 | none=>rfl
 | some xs=>have:=(jW ws xs hs).2 i hi;rw [h] at this;cases this
theorem H7:∀ (ws:List Str) (xs:List Int) (s:Str) (n:Int),fQ ws=some xs→kP s=some n→fQ (ws ++ [s])=some (xs ++ [n])
 | [],xs,s,n,h,b=>by cases h;rw [List.nil_append,fQ,b];rfl
 | c::r,xs,s,n,h,b=>by
  rw [fQ] at h
  cases a:kP c with
  | none=>rw [a] at h;cases h
  | some m =>
   cases d:fQ r with
   | none=>rw [a,d] at h;cases h
   | some ys =>
    rw [a,d] at h
    cases h
    rw [List.cons_append,fQ,a,H7 r ys s n d b];rfl
def Bq (base:Nat) (ws:List Str) (v:Value) (w:World):Prop:=match fQ ws with
 | some xs=>∃ q,v = .tuple #[q,.bool true]∧w.ownsRow base 3 1 q xs.length (xs.map (Value.int .i64))
 | none=>∃ q,v = .tuple #[q,.bool false]
theorem Bq.yes {base:Nat} {q:Value} (h:fQ ws=some xs) (ho:w.ownsRow base 3 1 q xs.length (xs.map (Value.int .i64))):Bq base ws (.tuple #[q,.bool true]) w:=by unfold Bq;rw [h];exact ⟨q,rfl,ho⟩
theorem Bq.no {base:Nat} {q:Value} (h:fQ ws=none):Bq base ws (.tuple #[q,.bool false]) w:=by unfold Bq;rw [h];exact ⟨q,rfl⟩
theorem H8 (lo:Nat) (p:Value) (ws:List Str) (w:World) (z:Strs lo w p ws) (hn:ws.length≤1000000) (A:∀ i,i<ws.length→(ws.getD i []).length≤1000000) :
  Calls Tryz.prog 146 #[p] w (Ret fun v w'=>Bq w.heap.size ws v w'∧Ext w w'):=by
 refine aJ (vs:=[p]) func146 Z ntmps146 Z ?_
 refine fK Z (ah Z (au (ah Z (aj (au (ah Z (T.block (?_))))))))
 refine bf (σ:=(Nat × Value) × List Int) (fun g=>[(0,p),(4,g.1.2),(5,.int .i64 g.1.1)]) (fun g W=>g.1.1≤ws.length∧fQ (ws.take g.1.1)=some g.2∧g.2.length=g.1.1∧W.ownsRow w.heap.size 3 1 g.1.2 g.2.length (g.2.map (Value.int .i64))∧Ext w W) (fun g=>ws.length-g.1.1) (((0,.slice none 0 0),[])) ⟨rfl,rfl,rfl,trivial⟩ ⟨Nat.zero_le _,by simp [fQ],rfl,iF _ _ _ _,Keep.refl _ _⟩ ?_
 rintro ⟨⟨i,lv⟩,xs⟩ w1 ⟨hi,f,l,h,e⟩
 simp only at hi f l h
 have j:=z.ext e
 refine aj (au (aN Z Z (L.le Z (Sl.val j) (bH Z Z (fun k=>?_) (fun k=>?_)))))
 ·refine ak (?_)
  have c:i<ws.length:=by simp only at k;omega
  refine aZ (T.skip (aj (T.block (au (aN Z Z (jI Z Z j (by simp only;omega) (by simp only;omega) (cZ Z (j.at c) (L.o (ay (xs:=[.tmp 18]) call194 Z Z (N7 (ws.getD i []) w1 (A i c)) (fun v3 E B=>?_))))))))))
  obtain ⟨⟨n,b,rfl,r,s⟩,q⟩:=B
  rcases b with _|_
  ·refine L.m Z (bK Z Z (bK Z Z (L.a Z (ah Z (aj (aQ Z (bT Z (aW (fK Z (ah Z (cu results146 Z Z ⟨Bq.no (Yc c (s Z)),e.trans q⟩)))))))))))
  refine L.m Z (bK Z Z (bK Z Z (L.a Z (ah Z (aj (aQ Z (bT Z (aU (T.skip (aA (aN Z Z (L.o (aH (el:=3) (parts:=[(0,.tmp 25)]) (vs:=[(0,_)]) (cs:=[.int .i64 n]) Z (fun w=>by kernel_rfl) (fun C D aaE arK GV aeQ=>?_))))))))))))))
  have aaF:=q.trans GV
  refine L.o (dJ (size:=1) (bytes:=8) runUnderlying30 Tryz.rG Z Z Z Z dcX rfl rfl (cO h aaF lzX) (Sl.bI (lo:=0) (n:=1) (sz:=1) aeQ Z (Nat.le_refl 1) dcX lzX) (by intro u y;simp at y;subst y;rfl) omX (by simp only [maxLen];omega) (by have:=e.size;have:=aaF.size;omega) (fun t x arL arM=>?_))
  have WY:Ext w x:=Keep.jg (e.trans aaF) (cO h aaF lzX) arM leX
  refine ah Z (T.blk (aA (aO Z (bG Z Z (by (try simp only);omega) (ah Z (aP (((i+1,t),xs ++ [n])) (show ws.length-(i+1)<ws.length-i by omega) ⟨rfl,rfl,rfl,trivial⟩ ⟨c,?_,by simp [l],JF arL,WY⟩))))))
  ·show fQ (ws.take (i+1))=some (xs ++ [n])
   rw [List.take_succ_eq_append_getElem c,← aX (d:=[]) c]
   exact H7 _ _ _ _ f (r rfl)
 refine ak (?_)
 obtain rfl:i=ws.length:=by simp only at k;omega
 rw [List.take_length] at f
 refine bn (aY Z (aQ Z (L.a Z (ah Z (cu results146 Z Z ⟨Bq.yes f h,e⟩)))))
def rlC (d:RdD) (s:PS):List Value:=[d.pv,d.fv,.int .i64 s.G,.int .i64 s.P,.int .i64 s.L,d.uv]
structure RlK (w0:World) (d:RdD) (s:PS) (W:World):Prop where
 e:Ext w0 W
 pts:xC (kE w0.heap.size) W 124 2 d.pv s.ps.length (pcs s.ps)
 fsr:xC (kE w0.heap.size) W 127 2 d.fv d.vs.length (fO d.vs)
 fsl:d.vs.length=s.fs.length
 fa:∀ i,i<d.vs.length→FaO (kE w0.heap.size) W (d.vs.getD i f0) (s.fs.getD i ([],[]))
 sep:∀ i,i+1<d.vs.length→∀ k,(d.vs.getD (d.vs.length-1) f0).hv.ownBlock=some k→(d.vs.getD i f0).hv.ownBlock≠some k
 usr:xC (kE w0.heap.size) W 51 6 d.uv d.us.length (iR d.us)
 usl:d.us.length=s.us.length
 un:∀ i,i<d.us.length→UnO (kE w0.heap.size) W (d.us.getD i u0) (s.us.getD i pu0)
 big:(-1000000000≤s.G∧s.G≤1000000000)∧(-1000000000≤s.P∧s.P≤1000000000) ∧ -1000000000≤s.L∧s.L≤1000000000
theorem RlK.stay {w0:World} {d:RdD} {s:PS} {W W':World} (h:RlK w0 d s W) (b:Ext w0 W') (a:∀ k cs t,kE w0.heap.size k→Blk W k cs t→kE w0.heap.size k∧Blk W' k cs t):RlK w0 d s W' :=
 ⟨b,h.pts.stay fun k cs q _ B=>a k cs _ q B,h.fsr.stay fun k cs q _ B=>a k cs _ q B,h.fsl,fun i hi=>(h.fa i hi).stay a,h.sep,h.usr.stay fun k cs q _ B=>a k cs _ q B,h.usl,fun i hi=>(h.un i hi).stay fun k cs q B=>a k cs _ q B,h.big⟩
theorem RlK.ext {w0:World} {d:RdD} {s:PS} {W W':World} (h:RlK w0 d s W) (k:Ext W W'):RlK w0 d s W':=h.stay (h.e.trans k) fun _ _ _ q B=>⟨q,Blk.ext B k⟩
theorem RlK.last {w0:World} {d:RdD} {s:PS} {W:World} (h:RlK w0 d s W) (k:Str):RlK w0 d { s with last:=k } W:=⟨h.e,h.pts,h.fsr,h.fsl,h.fa,h.sep,h.usr,h.usl,h.un,h.big⟩
theorem RlK.roll (h:RlK w0 d s W) {G P L:Int} (hb:(-1000000000≤G∧G≤1000000000)∧(-1000000000≤P∧P≤1000000000) ∧ -1000000000≤L∧L≤1000000000):RlK w0 d { s with G:=G,P:=P,L:=L } W:=⟨h.e,h.pts,h.fsr,h.fsl,h.fa,h.sep,h.usr,h.usl,h.un,hb⟩
theorem RlK.JI (h:RlK w0 d s W) {b:Value} (m:∀ k,k<W.heap.size→d.pv.ownBlock≠some k→W'.heap[k]?=W.heap[k]?) (n:Ext w0 W') (hP:Bo d.pv.ownBlock W.heap.size 124 2 (s.ps.length+1) (pcs s.ps++pC (xs.getD 0 0,xs.getD 1 0)) b W'):RlK w0 { d with pv:=b } (nO s xs) W':=by
 have c:∀ j cs t,t≠124→kE w0.heap.size j→Blk W j cs t→kE w0.heap.size j∧Blk W' j cs t:=fun j cs t o q B=>⟨q,(m j B.lt (jY h.pts.1 B (Ne.symm o))).trans B⟩
 have a:∀ k cs,kE w0.heap.size k→Blk W k cs 3→kE w0.heap.size k∧Blk W' k cs 3:=fun k cs q B=>c k cs _ dcX q B
 refine ⟨n,⟨?_,fun k e=>?_⟩,h.fsr.stay fun k cs q _ B=>c k cs _ dcX q B,h.fsl,fun i hi=>?_,h.sep,h.usr.stay fun k cs q _ B=>c k cs _ dcX q B,h.usl,fun i hi=>(h.un i hi).stay a,h.big⟩
 ·have e1:(nO s xs).ps.length=s.ps.length+1:=by simp [nO]
  have p:pcs (nO s xs).ps=pcs s.ps++pC (xs.getD 0 0,xs.getD 1 0):=by simp [nO,pcs]
  rw [e1,p];exact hP.1
 ·have g:=h.e.size
  rcases hP.2 k e with l|l
  ·exact h.pts.2 k l
  exact (Nat.le_trans g l:w0.heap.size≤k)
 have f:=h.fa i hi
 exact ⟨f.ox,f.oi.stay a,f.hx,f.hv.stay fun k cs q _ B=>c k cs _ dcX q B,fun x hx=>(f.ri x hx).stay a⟩
theorem RlK.P5 (h:RlK w0 d s W) {u:Value} (p:∀ k,k<W.heap.size→d.fv.ownBlock≠some k→W'.heap[k]?=W.heap[k]?) (r:Ext w0 W') (hG:Bo d.fv.ownBlock W.heap.size 127 2 (d.vs.length+1) (fO d.vs ++ [u,.slice none 0 0]) v W') (hI:gJ (kE W.heap.size) W' u xs):RlK w0 (oK d v u xs) (wY s xs) W':=by
 have m:∀ j cs t,t≠127→kE w0.heap.size j→Blk W j cs t→kE w0.heap.size j∧Blk W' j cs t:=fun j cs t w q B=>⟨q,(p j B.lt (jY h.fsr.1 B (Ne.symm w))).trans B⟩
 have c:∀ k cs,kE w0.heap.size k→Blk W k cs 3→kE w0.heap.size k∧Blk W' k cs 3:=fun k cs q B=>m k cs _ dcX q B
 have n:=h.e.size
 have b:∀ k,W.heap.size≤k→kE w0.heap.size k:=fun k a=>(Nat.le_trans n a:w0.heap.size≤k)
 have g:(oK d v u xs).vs.length=d.vs.length+1:=by simp [oK]
 have o:=h.fsl
 refine ⟨r,h.pts.stay fun k cs q _ B=>m k cs _ dcX q B,⟨?_,fun k e=>?_⟩,by simp [oK,wY,o],fun i hi=>?_,fun i hi k e=>?_,h.usr.stay fun k cs q _ B=>m k cs _ dcX q B,h.usl,fun i hi=>(h.un i hi).stay c,h.big⟩
 ·have l:fO (oK d v u xs).vs=fO d.vs ++ [u,.slice none 0 0]:=by simp [oK,fO,FaV.cells]
  rw [g,l];exact hG.1
 ·rcases hG.2 k e with a|a
  ·exact h.fsr.2 k a
  exact b k a
 ·rw [g] at hi
  rcases Nat.lt_or_ge i d.vs.length with a|a
  ·have f:=h.fa i a
   have e1:(oK d v u xs).vs.getD i f0=d.vs.getD i f0:=kV a
   have l:(wY s xs).fs.getD i ([],[])=s.fs.getD i ([],[]):=kV omX
   rw [e1,l]
   exact ⟨f.ox,f.oi.stay c,f.hx,f.hv.stay fun k cs q _ B=>m k cs _ dcX q B,fun x hx=>(f.ri x hx).stay c⟩
  have e1:(oK d v u xs).vs.getD i f0=⟨⟨u,xs⟩,.slice none 0 0,[]⟩:=jB omX
  have l:(wY s xs).fs.getD i ([],[])=(xs,[]):=jB omX
  rw [e1,l]
  exact ⟨rfl,hI.stay fun k cs q B=>⟨b k q,B⟩,rfl,xC.nil _ _ _ _,fun x hx=>by cases hx⟩
 rw [g] at e
 have e1:(oK d v u xs).vs.getD (d.vs.length+1-1) f0=⟨⟨u,xs⟩,.slice none 0 0,[]⟩:=jB omX
 rw [e1] at e
 cases e
theorem RlK.P8 {g:Nat} (h:RlK w0 d s W) {u x:Value} {cap:Nat} {cs:List Value} (hn:0<d.vs.length) (C:d.fv = .slice (some ⟨g,0,none⟩) d.vs.length cap) (O:kE w0.heap.size g) (hgB:Blk W g cs 127) (w:d.vs.length≤cap) (z:cap≤maxLen) (D:cs.length=cap*2) (E:cs.take (d.vs.length*2)=fO d.vs)
  (N:∀ k,k<W.heap.size→k≠g→(eH d).hv.ownBlock≠some k→W'.heap[k]?=W.heap[k]?) (P:Ext w0 W') (F:Blk W' g (cs.set ((d.vs.length-1)*2+1) u) 127) (hG:Bo (eH d).hv.ownBlock W.heap.size 30 1 ((eH d).hs.length+1) (dw (eH d).hs ++ [x]) u W') (hI:gJ (kE W.heap.size) W' x xs):RlK w0 (yS d u x xs) (FX s xs) W':=by
 have n:=h.fa (d.vs.length-1) omX
 have a:=h.fsl
 have afX:s.fs ≠ []:=fun e=>by rw [e] at a;simp only [List.length_nil] at a;omega
 have A:xC (kE w0.heap.size) W 30 1 (eH d).hv (eH d).hs.length (dw (eH d).hs):=n.hv
 have G:∀ j cs t,t≠127→t≠30→kE w0.heap.size j→Blk W j cs t→kE w0.heap.size j∧Blk W' j cs t:=fun j cs t Q H q B=>⟨q,(N j B.lt (fun e=>by
  subst e
  have b:W.heap[j]?=_:=B
  have p:W.heap[j]?=_:=hgB
  rw [b] at p
  cases p
  exact Q rfl) (jY A.1 B (Ne.symm H))).trans B⟩
 have c:∀ k cs,kE w0.heap.size k→Blk W k cs 3→kE w0.heap.size k∧Blk W' k cs 3:=fun k cs q B=>G k cs _ dcX dcX q B
 have I:=h.e.size
 have m:∀ k,W.heap.size≤k→kE w0.heap.size k:=fun k b=>(Nat.le_trans I b:w0.heap.size≤k)
 have l:(yS d u x xs).vs.length=d.vs.length:=by simp [yS]
 have J:(FX s xs).fs.length=s.fs.length:=by
  show (Bl s.fs xs).length=_
  rw [yR afX];simp
 have r:∀ i,(yS d u x xs).vs.getD i f0=if d.vs.length-1=i then ⟨(eH d).o,u,(eH d).hs ++ [⟨x,xs⟩]⟩ else d.vs.getD i f0:=fun i=>by
  show (d.vs.set _ _).getD i f0=_
  rw [yQ]
  by_cases e:d.vs.length-1=i
  ·rw [if_pos ⟨e,omX⟩,if_pos e]
  rw [if_neg (fun h=>e h.1),if_neg e]
 have K:∀ i,(FX s xs).fs.getD i ([],[])=if s.fs.length-1=i then ((s.fs.getD (s.fs.length-1) ([],[])).1,(s.fs.getD (s.fs.length-1) ([],[])).2 ++ [xs]) else s.fs.getD i ([],[]):=fun i=>by
  show (Bl s.fs xs).getD i ([],[])=_
  rw [yR afX,yQ]
  by_cases e:s.fs.length-1=i
  ·rw [if_pos ⟨e,omX⟩,if_pos e]
  rw [if_neg (fun h=>e h.1),if_neg e]
 have L:(cs.set ((d.vs.length-1)*2+1) u).take (d.vs.length*2)=fO (yS d u x xs).vs:=by
  rw [List.take_set,E]
  exact (zW d.vs (d.vs.length-1) ⟨(eH d).o,u,(eH d).hs ++ [⟨x,xs⟩]⟩ omX rfl).symm
 refine ⟨P,h.pts.stay fun k cs q _ B=>G k cs _ dcX dcX q B,⟨?_,fun k e=>?_⟩,by rw [l,J,a],fun i hi=>?_,fun i hi k e=>?_,h.usr.stay fun k cs q _ B=>G k cs _ dcX dcX q B,h.usl,fun i hi=>(h.un i hi).stay c,h.big⟩
 ·rw [l,← L]
  show W'.ownsRow 0 _ 2 d.fv d.vs.length _
  rw [C]
  exact pY F lzX w z (by rw [List.length_set];exact D)
 ·exact h.fsr.2 k e
 ·rw [l] at hi
  rw [r,K]
  by_cases e:d.vs.length-1=i
  ·have f:=n
   rw [if_pos e,if_pos omX]
   rw [a] at f
   refine ⟨?_,?_,?_,⟨?_,fun k e=>?_⟩,fun y hy=>?_⟩
   ·show (eH d).o.xs=_
    exact a▸f.ox
   ·exact (show gJ _ W (eH d).o.v _ from a▸f.oi).stay c
   ·show ((eH d).hs ++ [(⟨x,xs⟩:RiV)]).map (·.xs)=_
    rw [List.map_append]
    congr 1
    exact a▸f.hx
   ·have e1:((eH d).hs ++ [(⟨x,xs⟩:RiV)]).length=(eH d).hs.length+1:=by simp
    have M:dw ((eH d).hs ++ [(⟨x,xs⟩:RiV)])=dw (eH d).hs ++ [x]:=by simp [dw]
    show W'.ownsRow 0 _ 1 u ((eH d).hs ++ [(⟨x,xs⟩:RiV)]).length (dw ((eH d).hs ++ [(⟨x,xs⟩:RiV)]))
    rw [e1,M];exact hG.1
   ·rcases hG.2 k e with b|b
    ·exact A.2 k b
    exact m k b
   rcases List.mem_append.1 hy with hy|hy
   ·exact (show gJ _ W y.v y.xs from n.ri y hy).stay c
   rw [List.mem_singleton.1 hy]
   exact hI.stay fun k cs q B=>⟨m k q,B⟩
  rw [if_neg e,if_neg omX]
  have f:=h.fa i hi
  refine ⟨f.ox,f.oi.stay c,f.hx,f.hv.stay fun k cs q ho B=>⟨q,(N k B.lt (fun e=>by
   subst e
   have b:W.heap[k]?=_:=B
   have p:W.heap[k]?=_:=hgB
   rw [b] at p
   cases p) (fun M=>h.sep i omX k M ho)).trans B⟩,fun x hx=>(f.ri x hx).stay c⟩
 rw [l] at hi e
 rw [r,if_pos rfl] at e
 rw [r,if_neg omX]
 rcases hG.2 k e with b|b
 ·exact h.sep i hi k b
 intro p
 have:=sV (h.fa i omX).hv.1 p
 omega
theorem RlK.Qb (h:RlK w0 d s W) {v:UnV} {u:PU} {a:Value} (r:∀ k,k<W.heap.size→d.uv.ownBlock≠some k→W'.heap[k]?=W.heap[k]?) (w:Ext w0 W') (hG:Bo d.uv.ownBlock W.heap.size 51 6 (d.us.length+1) (iR d.us++v.cells) a W') (hU:UnO (kE W.heap.size) W' v u):RlK w0 (uAdd d v a) (zX s u) W':=by
 have n:∀ j cs t,t≠51→kE w0.heap.size j→Blk W j cs t→kE w0.heap.size j∧Blk W' j cs t:=fun j cs t y q B=>⟨q,(r j B.lt (jY h.usr.1 B (Ne.symm y))).trans B⟩
 have g:∀ k cs,kE w0.heap.size k→Blk W k cs 3→kE w0.heap.size k∧Blk W' k cs 3:=fun k cs q B=>n k cs _ dcX q B
 have o:=h.e.size
 have c:∀ k,W.heap.size≤k→kE w0.heap.size k:=fun k b=>(Nat.le_trans o b:w0.heap.size≤k)
 have l:(uAdd d v a).us.length=d.us.length+1:=by simp [uAdd]
 have p:=h.usl
 refine ⟨w,h.pts.stay fun k cs q _ B=>n k cs _ dcX q B,h.fsr.stay fun k cs q _ B=>n k cs _ dcX q B,h.fsl,fun i hi=>?_,h.sep,⟨?_,fun k e=>?_⟩,by simp [uAdd,zX,p],fun i hi=>?_,h.big⟩
 ·have f:=h.fa i hi
  exact ⟨f.ox,f.oi.stay g,f.hx,f.hv.stay fun k cs q _ B=>n k cs _ dcX q B,fun x hx=>(f.ri x hx).stay g⟩
 ·have m:iR (uAdd d v a).us=iR d.us++v.cells:=by rw [show (uAdd d v a).us=d.us ++ [v] from rfl,rO,vk]
  rw [l,m];exact hG.1
 ·rcases hG.2 k e with b|b
  ·exact h.usr.2 k b
  exact c k b
 rw [l] at hi
 rcases Nat.lt_or_ge i d.us.length with b|b
 ·have e1:(uAdd d v a).us.getD i u0=d.us.getD i u0:=kV b
  have m:(zX s u).us.getD i pu0=s.us.getD i pu0:=kV omX
  rw [e1,m]
  exact (h.un i b).stay g
 have e1:(uAdd d v a).us.getD i u0=v:=jB omX
 have m:(zX s u).us.getD i pu0=u:=jB omX
 rw [e1,m]
 exact hU.stay fun k cs q B=>⟨c k q,B⟩
theorem RlK.land (h:RlK w0 d s W) (hn:∀ u∈s.us,u.nm.length≤100000):(rdC d s).ok w0.heap.size W∧(rdR d s).ok w0.heap.size W∧Says (rdC d s) (rdR d s) s:=by
 have hQ:∀ k,kE w0.heap.size k→w0.heap.size≤k:=fun k q=>q
 have a:=h.fsl
 have b:=h.usl
 refine ⟨⟨h.pts.sl hQ,h.fsr.sl hQ,fun f hf=>?_⟩,⟨h.usr.sl hQ,fun u c=>?_⟩,⟨rfl,?_,rfl,rfl,rfl,?_⟩⟩
 ·obtain ⟨i,hi,rfl⟩:=List.getElem_of_mem hf
  have k:=h.fa i hi
  rw [show d.vs.getD i f0=(rdC d s).fs[i] from aX hi] at k
  exact ⟨by have:=k.oi.lo hQ;rw [← k.ox] at this;exact this,k.hv.sl hQ,fun x hx=>(k.ri x hx).lo hQ⟩
 ·obtain ⟨i,hi,rfl⟩:=List.getElem_of_mem c
  have k:=h.un i hi
  rw [show d.us.getD i u0=(rdR d s).us[i] from aX hi] at k
  have l:(s.us.getD i pu0).nm.length≤100000:=hn _ (by rw [aX (by have:i<d.us.length:=hi;omega)];exact List.getElem_mem _)
  have e1:=k.nm
  have e:=k.gs
  have g:=k.vs
  have j:=k.qs
  exact ⟨by have:=k.gi.lo hQ;rw [← e] at this;exact this,by have:=k.vi.lo hQ;rw [← g] at this;exact this,by have:=k.qi.lo hQ;rw [← j] at this;exact this,by rw [e1];omega⟩
 ·show d.vs.map sN=s.fs
  have:=NQ sN id f0 ([],[]) d.vs s.fs a (fun i hi=>by
   have k:=h.fa i hi
   show ((d.vs.getD i f0).o.xs,(d.vs.getD i f0).hs.map (·.xs))=_
   rw [k.ox,k.hx];rfl)
  rw [List.map_id] at this
  exact this
 show d.us.map qm=s.us
 have:=NQ qm id u0 pu0 d.us s.us b (fun i hi=>by
  have k:=h.un i hi
  show (⟨_,_,_,_,_,_⟩:PU)=_
  rw [k.nm,k.pp,k.gs,k.vs,k.qs,k.wt];rfl)
 rw [List.map_id] at this
 exact this
theorem RlK.start (a:Ext w0 w):RlK w0 ⟨.slice none 0 0,.slice none 0 0,.slice none 0 0,[],[]⟩ PS0 w :=
 ⟨a,xC.nil _ _ _ _,xC.nil _ _ _ _,rfl,fun i hi=>absurd hi (Nat.not_lt_zero _),fun i hi=>absurd hi (Nat.not_lt_zero _),xC.nil _ _ _ _,rfl,fun i hi=>absurd hi (Nat.not_lt_zero _),dcX⟩
theorem Bq.ways {base:Nat} (h:Bq base ws v w):∃ q b,v = .tuple #[q,.bool b]∧(b=true→∃ xs,fQ ws=some xs∧w.ownsRow base 3 1 q xs.length (xs.map (Value.int .i64)))∧(b=false→fQ ws=none):=by
 unfold Bq at h
 cases hn:fQ ws with
 | none=>rw [hn] at h;obtain ⟨q,rfl⟩:=h;exact ⟨q,false,rfl,fun h=>(by cases h),fun _=>rfl⟩
 | some xs=>rw [hn] at h;obtain ⟨q,rfl,h⟩:=h;exact ⟨q,true,rfl,fun _=>⟨xs,rfl,h⟩,fun h=>(by cases h)⟩
theorem gJ.N8 {Q:Nat→Prop} {b:Nat} {cs:List Value} {t:TypeId} (h:gJ Q W v xs) (k:Upd b W W') (hB:Blk W b cs t) (a:3≠t):gJ Q W' v xs:=h.stay fun _ _ q B=>⟨q,Blk.upd B k (sK B hB a)⟩
def N9 (p:Value) (r:List Str):Value:=if sW r=true then Yw p r.length else p
theorem Yd {lo:Nat} {p:Value} {r:List Str} (h:Strs lo w p (k::r)):Strs lo w (N9 p r) (k::lZ r):=by
 unfold N9 lZ
 cases a:sW r with
 | false=>exact h
 | true =>
  have c:1<r.length:=by unfold sW at a;simp only [Bool.and_eq_true,decide_eq_true_eq] at a;exact a.1
  have:=OV (m:=r.length) h spX
  have e:((k::r).map str).take (r.length*1)=(k::r.take (r.length-1)).map str:=by
   obtain ⟨n,hn⟩:∃ n,r.length=n+1:=⟨r.length-1,omX⟩
   rw [Nat.mul_one,hn,List.map_cons,List.take_succ_cons,← List.map_take];rfl
  have b:(k::r.take (r.length-1)).length=r.length:=by rw [List.length_cons,List.length_take];omega
  rw [e] at this
  show Sl lo w (Yw p r.length) (k::r.take (r.length-1)).length 1 _
  rw [b];exact this
theorem Ye {r:List Str} (h:1<r.length):(k::r).getD ((k::r).length-1) []=r.getD (r.length-1) []:=by
 obtain ⟨n,hn⟩:∃ n,r.length=n+1:=⟨r.length-1,omX⟩
 rw [List.length_cons,Nat.add_sub_cancel,hn,Nat.add_sub_cancel,List.getD_cons_succ]
theorem aaG {lo:Nat} {nm:Str} {r:List Str} (h:Strs lo w v (k::nm::r)):Strs lo w (sH 1 v 2 (r.length+2)) r:=by
 have:=JH (l:=2) (h:=r.length+2) (h:Sl lo w _ _ _ _) omX spX
 have e:(((k::nm::r).map str).drop (2*1)).take ((r.length+2-2)*1)=r.map str:=by simp;exact List.take_of_length_le spX
 rw [e,show r.length+2-2=r.length by omega] at this
 exact this
def Oa (m:Nat) (s:PS) (r:List Str) (v:Value) (w:World):Prop:=∃ (x:UnV) (b:Bool),v = .tuple #[.agg x.cells.toArray,.bool b]∧(∀ c∈x.cells,c.oneCell'=true)∧(b=true→∃ u,zU s r=some u∧UnO (kE m) w x u)∧(b=false→zU s r=none)
def akw (wt:Bool):UnV:=⟨[],0,.slice none 0 0,[],.slice none 0 0,[],.slice none 0 0,[],wt⟩
theorem Oa.no {r:List Str} (h:zU s r=none):Oa m s r (.tuple #[.agg (pU (sW r)).toArray,.bool false]) w:=⟨akw (sW r),false,rfl,pO _,fun h=>(by cases h),fun _=>h⟩
set_option maxHeartbeats 1000000 in
theorem Qs (lo:Nat) (s:PS) (uv p:Value) (k:Str) (r:List Str) (w:World) (ac:(-1000000000≤s.G∧s.G≤1000000000)∧(-1000000000≤s.P∧s.P≤1000000000) ∧ -1000000000≤s.L∧s.L≤1000000000) (ad:uv.oneCell'=true) (A:Strs lo w p (k::r)) (hs:∀ x∈r,x.length≤100000) (hr:r.length≤100000) :
  Calls Tryz.prog 145 #[.agg #[.int .i64 s.G,.int .i64 s.P,.int .i64 s.L,uv],p] w (Ret fun v w'=>Oa w.heap.size s r v w'∧Ext w w'):=by
 refine aJ (vs:=[.agg #[.int .i64 s.G,.int .i64 s.P,.int .i64 s.L,uv],p]) func145 Z ntmps145 Z ?_
 refine au (bM Z (fun b2 w2 ae af V hB2=>?_))
 have X:Blk w2 b2 [.int .i64 s.G,.int .i64 s.P,.int .i64 s.L,uv] 25:=hB2
 refine L.o (O.alloc zeroValue51 (fun b4 w4 ag ai F Y=>?_))
 refine ah Z (au (L.o (O.alloc zeroValue51 (fun B w6 al am C aa=>?_))))
 have H:=Blk.ext (Blk.ext X F) C
 have I:Blk w6 b4 (pU false) 51:=Blk.ext Y C
 have J:Blk w6 B (pU false) 51:=aa
 have qE:=(V.trans F).trans C
 refine ak (aj (aj (?_)))
 refine dS (σ:=Unit) (fun _=>[(0,.agg #[.int .i64 s.G,.int .i64 s.P,.int .i64 s.L,uv]),(1,p),(2,.pointer (some ⟨b2,0,none⟩)),(4,.pointer (some ⟨b4,0,none⟩)),(6,.pointer (some ⟨B,0,none⟩)),(20,.bool (sW r))]) (fun _ w'=>w'=w6) ?_ ?_
 ·refine aA (L.m Z (L.le Z (Sl.val (A.ext qE)) (?_)))
  rcases Nat.lt_or_ge 1 r.length with U|U
  ·refine L.o (iM Z Z (by simp only [List.length_cons];omega) (aN Z Z (L.m Z (L.le Z (Sl.val (A.ext qE)) (L.o (dh Z Z (by simp only [List.length_cons];omega) (?_)))))))
   rw [show (((k::r).length:Int)-1)=(((k::r).length-1:Nat):Int) by simp]
   refine jI Z Z (A.ext qE) omX (by simp only [List.length_cons];omega) (cZ Z ((A.ext qE).at (show (k::r).length-1<(k::r).length by simp)) (?_))
   rw [Ye U]
   refine L.o (fM runUnderlying9 Z Z (fun h2=>?_) (fun h2=>?_))
   ·refine aG Z (ak (bC (()) ⟨rfl,rfl,rfl,rfl,rfl,?_,trivial⟩ Z))
    ·exact congrArg (fun z=>some (Value.bool z)) (by rw [sW,decide_eq_true U,Bool.true_and];exact (decide_eq_true h2).symm)
   refine aG Z (ak (bC (()) ⟨rfl,rfl,rfl,rfl,rfl,?_,trivial⟩ Z))
   ·exact congrArg (fun z=>some (Value.bool z)) (by rw [sW,decide_eq_true U,Bool.true_and];exact (decide_eq_false h2).symm)
  refine L.o (gW Z Z (by simp only [List.length_cons];omega) (L.m Z (L.pp (L.pp (L.pp (L.p (aI Z (ak (bC (()) ⟨rfl,rfl,rfl,rfl,rfl,?_,trivial⟩ Z)))))))))
  ·exact congrArg (fun z=>some (Value.bool z)) (by rw [sW,decide_eq_false omX,Bool.false_and])
 rintro _ an rfl
 refine dS (σ:=Unit) (fun _=>[(0,.agg #[.int .i64 s.G,.int .i64 s.P,.int .i64 s.L,uv]),(1,N9 p r),(2,.pointer (some ⟨b2,0,none⟩)),(4,.pointer (some ⟨b4,0,none⟩)),(6,.pointer (some ⟨B,0,none⟩))]) (fun _ W=>Ext w W∧Blk W b2 [.int .i64 s.G,.int .i64 s.P,.int .i64 s.L,uv] 25∧Blk W b4 (pU false) 51∧Blk W B (pU (sW r)) 51) ?_ ?_
 ·rcases K:sW r with _|_
  ·refine bn (T.skip (bC (()) ⟨rfl,?_,rfl,rfl,rfl,trivial⟩ ⟨qE,H,I,J⟩))
   ·exact congrArg some (by rw [N9,K];rfl)
  refine aZ (au (L.fa Z (L.o (bV sizeOf4 Z Z Z J (show (5:Nat)<6 by decide) (fun ao Oo Tv=>?_)))))
  have Qj:=qE.upd Oo (.inr omX)
  refine ak (aA (aN Z Z (L.le Z (Sl.val (A.ext Qj)) (L.o (dh Z Z (by simp only [List.length_cons];omega) (?_))))))
  rw [show (((k::r).length:Int)-1)=((r.length:Nat):Int) by simp]
  refine L.o (CZ runUnderlying61 sizeOf9 Z Z (A.ext Qj) spX (ah Z (bC (()) ⟨rfl,?_,rfl,rfl,rfl,trivial⟩ ⟨Qj,Blk.upd H Oo omX,Blk.upd I Oo omX,Tv⟩)))
  ·exact congrArg some (by rw [N9,K];rfl)
 rintro _ f ⟨iK,Ud,Xg,E⟩
 have e:=Yd A
 have M:=Hq r
 refine aj (au (aC Z (Ud.cell Z) (bH Z Z (fun g1=>?_) (fun g1=>?_))))
 ·refine L.m Z (L.pp (L.p (aG Z (L.m Z (L.pp (L.p (aG Z (L.m Z (L.pp (L.pp (L.pp (L.pp (L.pp (L.pp (aG Z (?_))))))))))))))))
  refine aW (au (aT Z Z (Row.bI E) (L.o (aK sizeOf51 Z Z Z Xg leX (pO _) (fun d NR Xu=>?_)))))
  replace NR:Upd b4 f d:=NR
  have ady:Blk d b4 (pU (sW r)) 51:=Xu
  refine ah Z (mJ results145 isAgg51 sizeOf51 Z Z Z (Row.bI ady) ⟨Oa.no ?_,iK.upd NR (.inr omX)⟩)
  rw [kF,if_neg (fun h=>by omega)]
 refine L.m Z (aC Z (Ud.cell Z) (bH Z Z (fun g2=>?_) (fun g2=>?_)))
 ·refine aI Z (L.m Z (L.pp (L.p (aG Z (L.m Z (L.pp (L.pp (L.pp (L.pp (L.pp (L.pp (aG Z (aW (au (?_)))))))))))))))
  refine aT Z Z (Row.bI E) (L.o (aK sizeOf51 Z Z Z Xg leX (pO _) (fun d NR Xu=>?_)))
  replace NR:Upd b4 f d:=NR
  have ady:Blk d b4 (pU (sW r)) 51:=Xu
  refine ah Z (mJ results145 isAgg51 sizeOf51 Z Z Z (Row.bI ady) ⟨Oa.no ?_,iK.upd NR (.inr omX)⟩)
  rw [kF,if_neg (fun h=>by omega)]
 refine aI Z (L.m Z (aC Z (Ud.cell Z) (bH Z Z (fun g3=>?_) (fun g3=>?_))))
 ·refine aI Z (L.m Z (L.pp (L.pp (L.pp (L.pp (L.pp (L.pp (aG Z (aW (au (aT Z Z (Row.bI E) (L.o (aK sizeOf51 Z Z Z Xg leX (pO _) (fun d NR Xu=>?_))))))))))))))
  replace NR:Upd b4 f d:=NR
  have ady:Blk d b4 (pU (sW r)) 51:=Xu
  refine ah Z (mJ results145 isAgg51 sizeOf51 Z Z Z (Row.bI ady) ⟨Oa.no ?_,iK.upd NR (.inr omX)⟩)
  rw [kF,if_neg (fun h=>by omega)]
 refine aI Z (aN Z Z (L.le Z (Sl.val (e.ext iK)) (aC Z (Ud.cell Z) (bF Z Z (aC Z (Ud.cell Z) (bF Z Z (aC Z (Ud.cell Z) (bF Z Z (L.ne Z Z (fun g4=>?_) (fun g4=>?_))))))))))
 ·refine aI Z (aW (au (aT Z Z (Row.bI E) (L.o (aK sizeOf51 Z Z Z Xg leX (pO _) (fun d NR Xu=>?_))))))
  replace NR:Upd b4 f d:=NR
  have ady:Blk d b4 (pU (sW r)) 51:=Xu
  refine ah Z (mJ results145 isAgg51 sizeOf51 Z Z Z (Row.bI ady) ⟨Oa.no ?_,iK.upd NR (.inr omX)⟩)
  rw [kF,if_neg (fun h=>g4 (by simp only [List.length_cons];omega))]
 have g5:((lZ r).length:Int)=2+s.G+s.P+s.L:=by simp only [List.length_cons] at g4;omega
 obtain ⟨nm,ws,t⟩:∃ nm ws,lZ r=nm::ws:=by
  cases t:lZ r with
  | nil=>rw [t] at g5;simp only [List.length_nil] at g5;omega
  | cons nm ws=>exact ⟨nm,ws,rfl⟩
 rw [t] at e M g5
 simp only [List.length_cons] at M g5
 refine aI Z (aU (T.skip (au (aO Z (oU (l:=2) runUnderlying61 sizeOf9 Z Z (e.ext iK) spX (L.o (ay (xs:=[.tmp 57]) call146 Z Z (H8 lo _ ws f ((aaG e).ext iK) omX (fun i hi ↦ by have:=hs _ (vN (ws.getD i []) (by rw [t,aX hi];exact List.mem_cons_of_mem _ (List.getElem_mem hi)));omega)) (fun ap N t=>?_))))))))
 obtain ⟨arN,Ov⟩:=t
 obtain ⟨q,b,rfl,hy,hz⟩:=arN.ways
 have agn:=iK.trans Ov
 rcases b with _|_
 ·refine L.m Z (bK Z Z (bK Z Z (L.a Z (ah Z (aj (aQ Z (bT Z (aW (au (aT Z Z (Row.bI (Blk.ext E Ov)) (L.o (aK sizeOf51 Z Z Z (Blk.ext Xg Ov) leX (pO _) (fun Q UY aeM=>?_)))))))))))))
  replace UY:Upd b4 N Q:=UY
  have arO:Blk Q b4 (pU (sW r)) 51:=aeM
  refine ah Z (mJ results145 isAgg51 sizeOf51 Z Z Z (Row.bI arO) ⟨Oa.no ?_,agn.upd UY (.inr omX)⟩)
  have hn:=hz rfl
  rw [kF,t]
  split
  ·rw [show List.drop 1 (nm::ws)=ws from rfl,hn]
  rfl
 obtain ⟨xs,u,hO⟩:=hy rfl
 have aq:=(jW ws xs u).1
 have arP:gJ (kE w.heap.size) N q xs:=gJ.dD hO (fun k h _ ↦ Nat.le_trans iK.size h)
 have anh:=Blk.ext E Ov
 have arQ:=Blk.ext Xg Ov
 have arR:=Blk.ext Ud Ov
 have aaE:b2≠B:=by omega
 have agp:b4≠B:=by omega
 refine L.m Z (bK Z Z (bK Z Z (L.a Z (ah Z (aj (aQ Z (bT Z (aU (T.skip (aQ Z (jI Z Z ((e.ext iK).ext Ov) dcX (by simp only [List.length_cons];omega) (cZ Z (((e.ext iK).ext Ov).at (show 1<(k::nm::ws).length by simp)) (L.fa Z (L.o (bV sizeOf9 Z Z Z anh (show (0:Nat)<6 by decide) (fun ar ahF ani=>?_))))))))))))))))
 have akx:=arP.N8 ahF anh dcX
 have arS:=Blk.upd arR ahF aaE
 refine ak (aQ Z (jI Z Z akx.ints dcX omX (cZ Z (Ints.at akx.ints (show 0<xs.length by omega)) (L.fa Z (L.o (bV sizeOf3 Z Z Z ani (show (1:Nat)<6 by decide) (fun av abB aen=>?_)))))))
 have aal:=akx.N8 abB ani dcX
 have anj:=Blk.upd arS abB aaE
 refine ak (aQ Z (aC Z (anj.cell Z) (bF Z Z (?_))))
 rw [show (1+s.G:Int)=((1+s.G.toNat:Nat):Int) by omega]
 refine L.o (sJ (l:=1) (h:=1+s.G.toNat) runUnderlying30 sizeOf3 Z Z Z aal.ints omX omX (?_))
 have g:=aal.cut (l:=1) (h:=1+s.G.toNat) omX omX
 refine L.fa Z (L.o (bV sizeOf30 (Sl.one g.ints) Z Z aen (show (2:Nat)<6 by decide) (fun aw agq aei=>?_)))
 have aky:=aal.N8 agq aen dcX
 have ahG:=Blk.upd anj agq aaE
 refine ak (aQ Z (aC Z (ahG.cell Z) (bF Z Z (aC Z (ahG.cell Z) (bF Z Z (aC Z (ahG.cell Z) (bF Z Z (?_))))))))
 rw [show (1+s.G+s.P:Int)=((1+s.G.toNat+s.P.toNat:Nat):Int) by omega,show (1+s.G:Int)=((1+s.G.toNat:Nat):Int) by omega]
 refine L.o (sJ (l:=1+s.G.toNat) (h:=1+s.G.toNat+s.P.toNat) runUnderlying30 sizeOf3 Z Z Z aky.ints omX omX (?_))
 have j:=aky.cut (l:=1+s.G.toNat) (h:=1+s.G.toNat+s.P.toNat) omX omX
 refine L.fa Z (L.o (bV sizeOf30 (Sl.one j.ints) Z Z aei (show (3:Nat)<6 by decide) (fun ax aeo ahH=>?_)))
 have ank:=aky.N8 aeo aei dcX
 have anl:=Blk.upd ahG aeo aaE
 refine ak (aQ Z (aC Z (anl.cell Z) (bF Z Z (aC Z (anl.cell Z) (bF Z Z (?_))))))
 rw [show (1+s.G+s.P:Int)=((1+s.G.toNat+s.P.toNat:Nat):Int) by omega]
 refine L.o (oU (l:=1+s.G.toNat+s.P.toNat) runUnderlying30 sizeOf3 Z Z ank.ints omX (?_))
 have n:=ank.cut (l:=1+s.G.toNat+s.P.toNat) (h:=xs.length) omX leX
 rw [List.take_of_length_le (by rw [List.length_drop];omega)] at n
 refine L.fa Z (L.o (bV sizeOf30 (Sl.one n.ints) Z Z ahH (show (4:Nat)<6 by decide) (fun R agr arT=>?_)))
 rw [show 1+s.G.toNat-1=s.G.toNat by omega] at g
 rw [show 1+s.G.toNat+s.P.toNat-(1+s.G.toNat)=s.P.toNat by omega] at j
 obtain ⟨vU,D⟩:∃ vU:UnV,vU=⟨nm,xs.getD 0 0,sH 1 q 1 (1+s.G.toNat),(xs.drop 1).take s.G.toNat,sH 1 q (1+s.G.toNat) (1+s.G.toNat+s.P.toNat),(xs.drop (1+s.G.toNat)).take s.P.toNat,sH 1 q (1+s.G.toNat+s.P.toNat) xs.length,xs.drop (1+s.G.toNat+s.P.toNat),sW r⟩:=⟨_,rfl⟩
 have arU:Blk R B vU.cells 51:=by subst D;exact arT
 have y:∀ c∈vU.cells,c.oneCell'=true:=by
  subst D
  intro c hc
  simp only [UnV.cells,List.mem_cons,List.not_mem_nil,or_false] at hc
  rcases hc with rfl|rfl|rfl|rfl|rfl|rfl
  ·rfl
  ·rfl
  ·exact Sl.one g.ints
  ·exact Sl.one j.ints
  ·exact Sl.one n.ints
  rfl
 have ahI:=Blk.upd (Blk.upd (Blk.upd (Blk.upd (Blk.upd arQ ahF agp) abB agp) agq agp) aeo agp) agr agp
 have arV:=((((agn.upd ahF (.inr omX)).upd abB (.inr omX)).upd agq (.inr omX)).upd aeo (.inr omX)).upd agr (.inr omX)
 refine ak (au (aT Z Z (Row.bI arU) (L.o (aK sizeOf51 Z Z Z ahI leX y (fun S aep arW=>?_)))))
 replace aep:Upd b4 R S:=aep
 have arX:Blk S b4 vU.cells 51:=arW
 have arY:=(((g.N8 agq aen dcX).N8 aeo aei dcX).N8 agr ahH dcX).N8 aep ahI dcX
 have arZ:=((j.N8 aeo aei dcX).N8 agr ahH dcX).N8 aep ahI dcX
 have ab:=(n.N8 agr ahH dcX).N8 aep ahI dcX
 refine ah Z (mJ results145 isAgg51 sizeOf51 Z Z Z (Row.bI arX) ⟨⟨vU,true,rfl,y,fun _=>⟨⟨nm,xs.getD 0 0,(xs.drop 1).take s.G.toNat,(xs.drop (1+s.G.toNat)).take s.P.toNat,xs.drop (1+s.G.toNat+s.P.toNat),sW r⟩,?_,?_⟩,fun h=>(by cases h)⟩,arV.upd aep (.inr omX)⟩)
 ·rw [kF,t,if_pos ⟨omX,omX,omX,by simp only [List.length_cons];omega⟩,show List.drop 1 (nm::ws)=ws from rfl,u];rfl
 subst D;exact ⟨rfl,rfl,rfl,rfl,rfl,rfl,arY,arZ,ab⟩
def stg (k:Str):Int:=if k = [] then 0 else if k ∈ [iI,fC] then 1 else if k ∈ [gq,gy] then 3 else if k=lU then 5 else 4
theorem uX (k:Str):(k = []∧stg k=0)∨(k ∈ [iI,fC]∧stg k=1)∨(k ∈ [gq,gy]∧stg k=3)∨(k=lU∧stg k=5)∨(k ≠ []∧k ∉ [iI,fC]∧k ∉ [gq,gy]∧k≠lU∧stg k=4):=by
 by_cases a:k = []
 ·exact .inl ⟨a,by subst a;decide⟩
 by_cases b:k ∈ [iI,fC]
 ·exact .inr (.inl ⟨b,by unfold stg;rw [if_neg a,if_pos b]⟩)
 by_cases c:k ∈ [gq,gy]
 ·exact .inr (.inr (.inl ⟨c,by unfold stg;rw [if_neg a,if_neg b,if_pos c]⟩))
 by_cases d:k=lU
 ·exact .inr (.inr (.inr (.inl ⟨d,by unfold stg;rw [if_neg a,if_neg b,if_neg c,if_pos d]⟩)))
 exact .inr (.inr (.inr (.inr ⟨a,b,c,d,by unfold stg;rw [if_neg a,if_neg b,if_neg c,if_neg d]⟩)))
theorem kW {a b:Str} (h:k ∈ [a,b]):k=a∨k=b:=by simpa using h
theorem Sv : stg k=0↔k = []:=by
 rcases uX k with ⟨h,e⟩|⟨h,e⟩|⟨h,e⟩|⟨h,e⟩|⟨a,b,c,d,e⟩
 ·subst h;decide
 ·rcases kW h with rfl|rfl <;> decide
 ·rcases kW h with rfl|rfl <;> decide
 ·subst h;decide
 simp [e,a]
theorem EI : stg k=1↔k ∈ [iI,fC]:=by
 rcases uX k with ⟨h,e⟩|⟨h,e⟩|⟨h,e⟩|⟨h,e⟩|⟨b,a,c,d,e⟩
 ·subst h;decide
 ·exact ⟨fun _=>h,fun _=>e⟩
 ·rcases kW h with rfl|rfl <;> decide
 ·subst h;decide
 exact ⟨fun h=>by omega,fun h=>absurd h a⟩
theorem JX : stg k=3↔k ∈ [gq,gy]:=by
 rcases uX k with ⟨h,e⟩|⟨h,e⟩|⟨h,e⟩|⟨h,e⟩|⟨b,c,a,d,e⟩
 ·subst h;decide
 ·rcases kW h with rfl|rfl <;> decide
 ·exact ⟨fun _=>h,fun _=>e⟩
 ·subst h;decide
 exact ⟨fun h=>by omega,fun h=>absurd h a⟩
theorem JY : (stg k=1∨stg k=3)↔k ∈ [iI,fC,gq,gy]:=by
 rw [EI,JX];simp [or_assoc]
theorem H9 : (1≤stg k∧stg k≤4)↔k ∉ [[],lU]:=by
 rcases uX k with ⟨h,e⟩|⟨h,e⟩|⟨h,e⟩|⟨h,e⟩|⟨a,c,d,b,e⟩
 ·subst h;decide
 ·rcases kW h with rfl|rfl <;> decide
 ·rcases kW h with rfl|rfl <;> decide
 ·subst h;decide
 rw [e];simp [a,b]
theorem Qu {r:List Str} (hf:fieldsB l=k::r) (f:¬ (k=iI∧s.last = []∧r.length=3)) (g:¬ (k=fC∧s.last ∈ [iI,fC]∧r.length=2)) (i:¬ (k=gq∧s.last ∈ [iI,fC,gq,gy])) (j:¬ (k=gy∧s.last ∈ [gq,gy])) (m:¬ (k=lY∧s.last ∉ [[],lU])) (n:¬ (k=lU∧s.last ∉ [[],lU]∧r.length=0)):iE s l=none:=by
 by_cases e1:k=iI
 ·subst e1;rw [ru hf,if_neg (fun h=>f ⟨rfl,h⟩)]
 by_cases a:k=fC
 ·subst a;rw [oV hf,if_neg (fun h=>g ⟨rfl,h⟩)]
 by_cases b:k=gq
 ·subst b;rw [uU hf,if_neg (fun h=>i ⟨rfl,h⟩)]
 by_cases c:k=gy
 ·subst c;rw [uV hf,if_neg (fun h=>j ⟨rfl,h⟩)]
 by_cases d:k=lY
 ·subst d;rw [pR hf,if_neg (fun h=>m ⟨rfl,h⟩)]
 by_cases e:k=lU
 ·subst e;rw [step_end hf,if_neg (fun h=>n ⟨rfl,h⟩)]
 exact step_bad hf ⟨e1,a,b,c,d,e⟩
theorem UK {r:List Str} (hf:fieldsB l=k::r) (hn:fQ r=none) (d:¬ (k=lY∧s.last ∉ [[],lU])):iE s l=none:=by
 by_cases e1:k=iI
 ·subst e1;rw [ru hf,hn];split <;> rfl
 by_cases a:k=fC
 ·subst a;rw [oV hf,hn];split <;> rfl
 by_cases b:k=gq
 ·subst b;rw [uU hf,hn];split <;> rfl
 by_cases c:k=gy
 ·subst c;rw [uV hf,hn];split <;> rfl
 exact Qu hf (fun h=>e1 h.1) (fun h=>a h.1) (fun h=>b h.1) (fun h=>c h.1) d (fun h=>by rw [List.eq_nil_of_length_eq_zero h.2.2,fQ] at hn;cases hn)
theorem RlK.one {w0:World} {d:RdD} {s:PS} {W:World} (h:RlK w0 d s W):∀ c∈rlC d s,c.oneCell'=true:=fun c a=>by
 simp only [rlC,List.mem_cons,List.not_mem_nil,or_false] at a
 rcases a with rfl|rfl|rfl|rfl|rfl|rfl
 ·exact Sl.one (Sl.dD h.pts.1)
 ·exact Sl.one (Sl.dD h.fsr.1)
 ·rfl
 ·rfl
 ·rfl
 exact Sl.one (Sl.dD h.usr.1)
def ags (el:TypeId) (cs:List Value) (v:Value) (W:World):Prop:=∃ b,v = .slice (some ⟨b,0,none⟩) 1 1∧Blk W b cs el
theorem ags.st {el:TypeId} {cs:List Value} : ∀ v w w',Ext w w'→ags el cs v w→ags el cs v w':=fun _ _ _ a ⟨b,c,d⟩=>⟨b,c,Blk.ext d a⟩
def Bv (w0:World) (s:PS) (l:Str) (v:Value) (w:World):Prop:=∃ (q:List Value) (n:Int) (b:Bool),v = .tuple #[.agg q.toArray,.int .i64 n,.bool b]∧q.length=6∧(∀ c∈q,c.oneCell'=true)∧Ext w0 w∧(b=true→∃ d' s',iE s l=some s'∧q=rlC d' s'∧n=stg s'.last∧RlK w0 d' s' w)∧(b=false→iE s l=none)
theorem Bv.no {n:Int} (h:iE s l=none) (hK:RlK w0 d s w):Bv w0 s l (.tuple #[.agg (rlC d s).toArray,.int .i64 n,.bool false]) w:=⟨_,n,false,rfl,rfl,hK.one,hK.e,fun h=>(by cases h),fun _=>h⟩
theorem Bv.yes {d':RdD} {s':PS} {n:Int} (h:iE s l=some s') (hn:n=stg s'.last) (hK:RlK w0 d' s' w):Bv w0 s l (.tuple #[.agg (rlC d' s').toArray,.int .i64 n,.bool true]) w:=⟨_,n,true,rfl,rfl,hK.one,hK.e,fun _=>⟨d',s',h,rfl,hn,hK⟩,fun h=>(by cases h)⟩
set_option maxHeartbeats 2000000 in
theorem Qv (w0:World) (lo:Nat) (d:RdD) (s:PS) (p:Value) (l k:Str) (r:List Str) (w:World) (hK:RlK w0 d s w) (hf:fieldsB l=k::r) (hp:Strs lo w p (k::r)) (hs:∀ x∈r,x.length≤100000) (hr:r.length≤100000) (G:PY s 100000) (adn:s.last ∈ [gq,gy]→s.fs ≠ []) :
  Calls Tryz.prog 101 #[.agg (rlC d s).toArray,.int .i64 (stg s.last),p] w (Ret fun v w'=>Bv w0 s l v w'):=by
 refine aJ (vs:=[.agg (rlC d s).toArray,.int .i64 (stg s.last),p]) func101 Z ntmps101 Z ?_
 refine au (bM Z (fun b3 w3 bz bA N hB3=>?_))
 have hL3:Blk w3 b3 (rlC d s) 48:=hB3
 refine L.o (O.alloc zeroValue48 (fun f w6 bB bD ao a5=>?_))
 have hL6:=Blk.ext hL3 ao
 have ap:Blk w6 f dX 48:=a5
 have qE:=N.trans ao
 have aer:b3≠f:=by have:=N.size;omega
 refine L.a Z (ah Z (aj (aj (?_))))
 refine dS (σ:=Unit) (fun _=>[(1,.int .i64 (stg s.last)),(2,p),(3,.pointer (some ⟨b3,0,none⟩)),(6,.pointer (some ⟨f,0,none⟩)),(25,.bool (decide (k=lY∧s.last ∉ [[],lU])))]) (fun _ w'=>w'=w6) ?_ ?_
 ·refine aA (L.m Z (jI Z Z (hp.ext qE) dcX (by simp only [List.length_cons];omega) (cZ Z ((hp.ext qE).at (show 0<(k::r).length by simp)) (L.o (fM runUnderlying9 Z Z (fun j=>?_) (fun j=>?_))))))
  ·refine aN Z Z (L.o (fJ Z Z (fun a2=>?_) (fun a2=>?_)))
   ·refine aG Z (aN Z Z (L.o (fB Z Z (fun a3=>?_) (fun a3=>?_))))
    ·refine aG Z (ak (bC (()) ⟨rfl,rfl,rfl,rfl,?_,trivial⟩ Z))
     ·exact congrArg (fun z=>some (Value.bool z)) (decide_eq_true ⟨j,H9.1 ⟨omX,omX⟩⟩).symm
    refine aG Z (ak (bC (()) ⟨rfl,rfl,rfl,rfl,?_,trivial⟩ Z))
    ·exact congrArg (fun z=>some (Value.bool z)) (decide_eq_false (fun h=>by have:=H9.2 h.2;omega)).symm
   refine aG Z (L.m Z (L.pp (aI Z (ak (bC (()) ⟨rfl,rfl,rfl,rfl,?_,trivial⟩ Z)))))
   ·exact congrArg (fun z=>some (Value.bool z)) (decide_eq_false (fun h=>by have:=H9.2 h.2;omega)).symm
  refine L.m Z (L.pp (aI Z (L.m Z (L.pp (aI Z (ak (bC (()) ⟨rfl,rfl,rfl,rfl,?_,trivial⟩ Z)))))))
  ·exact congrArg (fun z=>some (Value.bool z)) (decide_eq_false (fun h=>j h.1)).symm
 rintro _ R rfl
 rcases X:decide (k=lY∧s.last ∉ [[],lU]) with _|_
 ·have S:=of_decide_eq_false X
  have a6:=P9 hp
  refine bn (T.skip (au (aO Z (oU (l:=1) runUnderlying61 sizeOf9 Z Z (hp.ext qE) spX (L.o (ay (xs:=[.tmp 45]) call146 Z Z (H8 lo _ r R (a6.ext qE) omX (fun i hi ↦ by have:=hs _ (show r.getD i []∈r by rw [aX hi];exact List.getElem_mem hi);omega)) (fun v46 ab hq=>?_)))))))
  obtain ⟨a7,Ap⟩:=hq
  obtain ⟨q,b,rfl,hy,hz⟩:=a7.ways
  have Ae:=qE.trans Ap
  have UL:=Blk.ext hL6 Ap
  have adz:=Blk.ext ap Ap
  have YM:=hp.ext Ae
  have ahJ:=hK.ext Ae
  have abC:w.heap.size≤b3∧w.heap.size≤f:=by have:=N.size;omega
  have A:w0.heap.size≤b3∧w0.heap.size≤f:=by have:=hK.e.size;omega
  rcases b with _|_
  ·refine L.m Z (bK Z Z (bK Z Z (L.a Z (ah Z (aj (aQ Z (bT Z (aW (au (aT Z Z (Row.bI UL) (aO Z (aK sizeOf48 Z Z Z adz leX hK.one (fun aq akz a8=>?_)))))))))))))
   replace akz:Upd f ab aq:=akz
   have a9:Blk aq f (rlC d s) 48:=a8
   refine L.a Z (ah Z (eP results101 isAgg48 sizeOf48 Z Z Z Z (Row.bI a9) (Bv.no (UK hf (hz Z) S) (hK.ext (Ae.upd akz (.inr abC.2))))))
  obtain ⟨xs,t,hO⟩:=hy rfl
  have bE:=(jW r xs t).1
  have Sz:gJ (kE w.heap.size) ab q xs:=gJ.dD hO (fun k h _ ↦ Nat.le_trans qE.size h)
  obtain ⟨oa,cp,rfl⟩:=Sz.form
  have aeH:=BQ r xs t
  refine L.m Z (bK Z Z (bK Z Z (L.a Z (ah Z (aj (aQ Z (bT Z (aU (T.skip (aj (T.block (aj (?_)))))))))))))
  refine dS (σ:=Unit) (fun _=>[(1,.int .i64 (stg s.last)),(2,p),(3,.pointer (some ⟨b3,0,none⟩)),(6,.pointer (some ⟨f,0,none⟩)),(11,.slice oa xs.length cp),(53,.bool (decide (k=iI∧s.last = []∧r.length=3)))]) (fun _ w'=>w'=ab) ?_ ?_
  ·refine aA (L.m Z (jI Z Z YM dcX (by simp only [List.length_cons];omega) (cZ Z (YM.at (show 0<(k::r).length by simp)) (L.o (fM runUnderlying9 Z Z (fun j=>?_) (fun j=>?_))))))
   ·refine aN Z Z (dK Z Z (fun a2=>?_) (fun a2=>?_))
    ·refine aG Z (aN Z Z (L.le Z (Sl.val Sz.ints) (dK Z Z (fun a3=>?_) (fun a3=>?_))))
     ·refine aG Z (ah Z (bC (()) ⟨rfl,rfl,rfl,rfl,rfl,?_,trivial⟩ Z))
      ·exact congrArg (fun z=>some (Value.bool z)) (decide_eq_true ⟨j,Sv.1 omX,omX⟩).symm
     refine aG Z (ah Z (bC (()) ⟨rfl,rfl,rfl,rfl,rfl,?_,trivial⟩ Z))
     ·exact congrArg (fun z=>some (Value.bool z)) (decide_eq_false (fun h=>by omega)).symm
    refine aG Z (L.m Z (L.pp (L.p (aI Z (ah Z (bC (()) ⟨rfl,rfl,rfl,rfl,rfl,?_,trivial⟩ Z))))))
    ·exact congrArg (fun z=>some (Value.bool z)) (decide_eq_false (fun h=>a2 (by have:=Sv.2 h.2.1;omega))).symm
   refine L.m Z (L.pp (aI Z (L.m Z (L.pp (L.p (aI Z (ah Z (bC (()) ⟨rfl,rfl,rfl,rfl,rfl,?_,trivial⟩ Z))))))))
   ·exact congrArg (fun z=>some (Value.bool z)) (decide_eq_false (fun h=>j h.1)).symm
  rintro _ ba rfl
  rcases ar:decide (k=iI∧s.last = []∧r.length=3) with _|_
  ·have n53:=of_decide_eq_false ar
   refine bn (aj (?_))
   refine dS (σ:=Unit) (fun _=>[(1,.int .i64 (stg s.last)),(2,p),(3,.pointer (some ⟨b3,0,none⟩)),(6,.pointer (some ⟨f,0,none⟩)),(11,.slice oa xs.length cp),(83,.bool (decide (k=fC∧s.last ∈ [iI,fC]∧r.length=2)))]) (fun _ w'=>w'=ba) ?_ ?_
   ·refine aA (L.m Z (jI Z Z YM dcX (by simp only [List.length_cons];omega) (cZ Z (YM.at (show 0<(k::r).length by simp)) (L.o (fM runUnderlying9 Z Z (fun j=>?_) (fun j=>?_))))))
    ·refine aN Z Z (dK Z Z (fun a2=>?_) (fun a2=>?_))
     ·refine aG Z (aN Z Z (L.le Z (Sl.val Sz.ints) (dK Z Z (fun a3=>?_) (fun a3=>?_))))
      ·refine aG Z (ah Z (bC (()) ⟨rfl,rfl,rfl,rfl,rfl,?_,trivial⟩ Z))
       ·exact congrArg (fun z=>some (Value.bool z)) (decide_eq_true ⟨j,EI.1 omX,omX⟩).symm
      refine aG Z (ah Z (bC (()) ⟨rfl,rfl,rfl,rfl,rfl,?_,trivial⟩ Z))
      ·exact congrArg (fun z=>some (Value.bool z)) (decide_eq_false (fun h=>by omega)).symm
     refine aG Z (L.m Z (L.pp (L.p (aI Z (ah Z (bC (()) ⟨rfl,rfl,rfl,rfl,rfl,?_,trivial⟩ Z))))))
     ·exact congrArg (fun z=>some (Value.bool z)) (decide_eq_false (fun h=>a2 (by have:=EI.2 h.2.1;omega))).symm
    refine L.m Z (L.pp (aI Z (L.m Z (L.pp (L.p (aI Z (ah Z (bC (()) ⟨rfl,rfl,rfl,rfl,rfl,?_,trivial⟩ Z))))))))
    ·exact congrArg (fun z=>some (Value.bool z)) (decide_eq_false (fun h=>j h.1)).symm
   rintro _ bb rfl
   rcases av:decide (k=fC∧s.last ∈ [iI,fC]∧r.length=2) with _|_
   ·have n83:=of_decide_eq_false av
    refine bn (aj (?_))
    refine dS (σ:=Unit) (fun _=>[(1,.int .i64 (stg s.last)),(2,p),(3,.pointer (some ⟨b3,0,none⟩)),(6,.pointer (some ⟨f,0,none⟩)),(11,.slice oa xs.length cp),(112,.bool (decide (k=gq∧s.last ∈ [iI,fC,gq,gy])))]) (fun _ w'=>w'=bb) ?_ ?_
    ·refine aA (L.m Z (jI Z Z YM dcX (by simp only [List.length_cons];omega) (cZ Z (YM.at (show 0<(k::r).length by simp)) (L.o (fM runUnderlying9 Z Z (fun j=>?_) (fun j=>?_))))))
     ·refine aN Z Z (dK Z Z (fun a2=>?_) (fun a2=>?_))
      ·refine L.m Z (L.pp (aG Z (aG Z (ah Z (bC (()) ⟨rfl,rfl,rfl,rfl,rfl,?_,trivial⟩ Z)))))
       ·exact congrArg (fun z=>some (Value.bool z)) (decide_eq_true ⟨j,JY.1 (.inl omX)⟩).symm
      refine aN Z Z (dK Z Z (fun a3=>?_) (fun a3=>?_))
      ·refine aI Z (aG Z (ah Z (bC (()) ⟨rfl,rfl,rfl,rfl,rfl,?_,trivial⟩ Z)))
       ·exact congrArg (fun z=>some (Value.bool z)) (decide_eq_true ⟨j,JY.1 (.inr omX)⟩).symm
      refine aI Z (aG Z (ah Z (bC (()) ⟨rfl,rfl,rfl,rfl,rfl,?_,trivial⟩ Z)))
      ·exact congrArg (fun z=>some (Value.bool z)) (decide_eq_false (fun h=>by rcases JY.2 h.2 with e|e <;> omega)).symm
     refine L.m Z (L.pp (L.pp (L.pp (aI Z (ah Z (bC (()) ⟨rfl,rfl,rfl,rfl,rfl,?_,trivial⟩ Z))))))
     ·exact congrArg (fun z=>some (Value.bool z)) (decide_eq_false (fun h=>j h.1)).symm
    rintro _ ajs rfl
    rcases Y:decide (k=gq∧s.last ∈ [iI,fC,gq,gy]) with _|_
    ·have n112:=of_decide_eq_false Y
     refine bn (aj (?_))
     refine dS (σ:=Unit) (fun _=>[(1,.int .i64 (stg s.last)),(2,p),(3,.pointer (some ⟨b3,0,none⟩)),(6,.pointer (some ⟨f,0,none⟩)),(11,.slice oa xs.length cp),(135,.bool (decide (k=gy∧s.last ∈ [gq,gy])))]) (fun _ w'=>w'=ajs) ?_ ?_
     ·refine aA (L.m Z (jI Z Z YM dcX (by simp only [List.length_cons];omega) (cZ Z (YM.at (show 0<(k::r).length by simp)) (L.o (fM runUnderlying9 Z Z (fun j=>?_) (fun j=>?_))))))
      ·refine aN Z Z (dK Z Z (fun a2=>?_) (fun a2=>?_))
       ·refine aG Z (ah Z (bC (()) ⟨rfl,rfl,rfl,rfl,rfl,?_,trivial⟩ Z))
        ·exact congrArg (fun z=>some (Value.bool z)) (decide_eq_true ⟨j,JX.1 omX⟩).symm
       refine aG Z (ah Z (bC (()) ⟨rfl,rfl,rfl,rfl,rfl,?_,trivial⟩ Z))
       ·exact congrArg (fun z=>some (Value.bool z)) (decide_eq_false (fun h=>a2 (by have:=JX.2 h.2;omega))).symm
      refine L.m Z (L.pp (aI Z (ah Z (bC (()) ⟨rfl,rfl,rfl,rfl,rfl,?_,trivial⟩ Z))))
      ·exact congrArg (fun z=>some (Value.bool z)) (decide_eq_false (fun h=>j h.1)).symm
     rintro _ ahK rfl
     rcases anm:decide (k=gy∧s.last ∈ [gq,gy]) with _|_
     ·have n135:=of_decide_eq_false anm
      refine bn (aj (?_))
      refine dS (σ:=Unit) (fun _=>[(1,.int .i64 (stg s.last)),(2,p),(3,.pointer (some ⟨b3,0,none⟩)),(6,.pointer (some ⟨f,0,none⟩)),(11,.slice oa xs.length cp),(166,.bool (decide (k=lU∧s.last ∉ [[],lU]∧r.length=0)))]) (fun _ w'=>w'=ahK) ?_ ?_
      ·refine aA (L.m Z (jI Z Z YM dcX (by simp only [List.length_cons];omega) (cZ Z (YM.at (show 0<(k::r).length by simp)) (L.o (fM runUnderlying9 Z Z (fun j=>?_) (fun j=>?_))))))
       ·refine aN Z Z (L.o (fJ Z Z (fun a2=>?_) (fun a2=>?_)))
        ·refine aG Z (aN Z Z (L.o (fB Z Z (fun a3=>?_) (fun a3=>?_))))
         ·refine aG Z (aN Z Z (L.le Z (Sl.val Sz.ints) (dK Z Z (fun a4=>?_) (fun a4=>?_))))
          ·refine aG Z (ah Z (bC (()) ⟨rfl,rfl,rfl,rfl,rfl,?_,trivial⟩ Z))
           ·exact congrArg (fun z=>some (Value.bool z)) (decide_eq_true ⟨j,H9.1 ⟨omX,omX⟩,omX⟩).symm
          refine aG Z (ah Z (bC (()) ⟨rfl,rfl,rfl,rfl,rfl,?_,trivial⟩ Z))
          ·exact congrArg (fun z=>some (Value.bool z)) (decide_eq_false (fun h=>by omega)).symm
         refine aG Z (L.m Z (L.pp (L.p (aI Z (ah Z (bC (()) ⟨rfl,rfl,rfl,rfl,rfl,?_,trivial⟩ Z))))))
         ·exact congrArg (fun z=>some (Value.bool z)) (decide_eq_false (fun h=>by have:=H9.2 h.2.1;omega)).symm
        refine aG Z (L.m Z (L.pp (aI Z (L.m Z (L.pp (L.p (aI Z (ah Z (bC (()) ⟨rfl,rfl,rfl,rfl,rfl,?_,trivial⟩ Z)))))))))
        ·exact congrArg (fun z=>some (Value.bool z)) (decide_eq_false (fun h=>by have:=H9.2 h.2.1;omega)).symm
       refine L.m Z (L.pp (aI Z (L.m Z (L.pp (aI Z (L.m Z (L.pp (L.p (aI Z (ah Z (bC (()) ⟨rfl,rfl,rfl,rfl,rfl,?_,trivial⟩ Z)))))))))))
       ·exact congrArg (fun z=>some (Value.bool z)) (decide_eq_false (fun h=>j h.1)).symm
      rintro _ ano rfl
      rcases anp:decide (k=lU∧s.last ∉ [[],lU]∧r.length=0) with _|_
      ·have n166:=of_decide_eq_false anp
       refine bn (T.skip (T.blk (au (aT Z Z (Row.bI UL) (aO Z (aK sizeOf48 Z Z Z adz leX hK.one (fun anq adA akA=>?_)))))))
       replace adA:Upd f ano anq:=adA
       have akB:Blk anq f (rlC d s) 48:=akA
       refine L.a Z (ah Z (eP results101 isAgg48 sizeOf48 Z Z Z Z (Row.bI akB) (Bv.no (Qu hf n53 n83 n112 n135 S n166) (hK.ext (Ae.upd adA (.inr abC.2))))))
      obtain ⟨rfl,hlast,h0⟩:=of_decide_eq_true anp
      refine aZ (au (aT Z Z (Row.bI UL) (L.o (aK sizeOf48 Z Z Z adz leX hK.one (fun anr adB akC=>?_)))))
      replace adB:Upd f ano anr:=adB
      have akD:Blk anr f (rlC d s) 48:=akC
      refine L.a Z (ah Z (eP results101 isAgg48 sizeOf48 Z Z Z Z (Row.bI akD) (Bv.yes (d':=d) (s':={ s with last:=lU }) (by rw [step_end hf,if_pos ⟨hlast,h0⟩]) (show (5:Int)=stg lU by decide) ((hK.last lU).ext (Ae.upd adB (.inr abC.2))))))
     obtain ⟨rfl,hlast⟩:=of_decide_eq_true anm
     have aw:=hK.fsl
     have ax:0<d.vs.length:=by rw [aw];exact List.length_pos_iff.2 (adn hlast)
     obtain ⟨g,cap,cs,az,aB,hgB,C,D,P,Q⟩:=hK.fsr.form ax
     have bc:=G.2.1
     have ac:(rlC d s)[1]?=some (.slice (some ⟨g,0,none⟩) d.vs.length cap):=by rw [← az];rfl
     have ahL:=Blk.ext hgB Ae
     refine aZ (au (L.fa Z (aC Z (UL.cell ac) (L.le Z (Sl.val (AU ahL C D P Q)) (L.o (dh Z Z omX (?_)))))))
     have ad:xC (kE w0.heap.size) w 30 1 (eH d).hv (eH d).hs.length (dw (eH d).hs):=(hK.fa (d.vs.length-1) omX).hv
     have agt:xC (kE w0.heap.size) ahK 30 1 (eH d).hv (eH d).hs.length (dw (eH d).hs):=(ahJ.fa (d.vs.length-1) omX).hv
     have bF:(eH d).hs.length≤100000:=by
      have U:=(hK.fa (d.vs.length-1) omX).hx
      have M:=congrArg List.length U
      rw [List.length_map] at M
      have h3:(eH d).hs.length=(s.fs.getD (d.vs.length-1) ([],[])).2.length:=M
      rw [h3,aX omX]
      exact G.2.2.2 _ (List.getElem_mem _)
     have Ol:∀ k,(eH d).hv.ownBlock=some k→k<w.heap.size:=fun k e ↦ sV ad.1 e
     have y:(eH d).hv.ownBlock≠some b3:=fun e ↦ by have:=Ol _ e;omega
     have F:(eH d).hv.ownBlock≠some f:=fun e ↦ by have:=Ol _ e;omega
     have ae:(eH d).hv.ownBlock≠some g:=jY ad.1 hgB dcX
     have hj:((d.vs.length:Int)-1).toNat=d.vs.length-1:=by omega
     have hcell:(fO d.vs)[((d.vs.length:Int)-1).toNat*2+1]?=some (eH d).hv:=by rw [hj];exact Es d.vs _ omX
     have bG:=Ae.size
     have hint:∀ W,gB (eH d).hv.ownBlock ahK W→gJ (kE w.heap.size) W (.slice oa xs.length cp) xs:=fun W h ↦ Sz.stay fun k cs q B ↦ ⟨q,h.blk B (jY agt.1 B dcX)⟩
     have hm:∀ k,(eH d).hv.ownBlock=some k→k<w.heap.size:=Ol
     refine ah Z (aj (?_))
     refine qJ mixed 14 0 [3,13,11] Z [.is _,.is _,.is _,.is _,.is _,.is _,.is _,.is _,.is _,.is _,.is _,.is _,.such (ada (eH d).hv.ownBlock 30 [.slice oa xs.length cp]),.such (fun _ _=>True)] [[],[0],[1],[],[],[4],[5],[],[6,7],[8],[9],[],[11],[10,12]] [none,none,none,none,none,none,none,none,none,none,none,none,none,none] [[],[0],[0,1],[],[],[4],[4,5],[],[4,5,6,7],[4,5,6,7,8],[4,5,6,7,8,9],[],[11],[4,5,6,7,8,9,10,11,12],[0,1,2,3,4,5,6,7,8,9,10,11,12,13],[0,1,2,3,4,5,6,7,8,9,10,11,12,13,14],[0,1,2,3,4,5,6,7,8,9,10,11,12,13,14,15]] (NC ahK (eH d).hv.ownBlock 13 (Bo (eH d).hv.ownBlock w.heap.size 30 1 ((eH d).hs.length+1) (dw (eH d).hs ++ [.slice oa xs.length cp]))) (gB (eH d).hv.ownBlock) krX krX krX Z ⟨ada.st,fun _ _ _ _ _=>trivial,trivial⟩ (.inl ⟨rfl,Keep.drew _ _⟩) ⟨fun c σ n hx hn I=>ObG.op rfl (O.fa Z ⟨⟨gB.refl _ _,hx.nop (Keep.refl _ _) (fun _ g ↦ g) dcX⟩,rfl⟩),
       fun c σ n hx hn I=>ObG.op Z (O.fa Z ⟨⟨gB.refl _ _,hx.nop (Keep.refl _ _) (fun _ g ↦ g) dcX⟩,rfl⟩),
       fun c σ n hx hn I=>ObG.op Z (dR Z ((hx.but.blk (cs:=rlC d s) UL y).cell ac) ⟨⟨gB.refl _ _,hx.nop (Keep.refl _ _) (fun _ g ↦ g) dcX⟩,rfl⟩),
       fun c σ n hx hn I=>ObG.op Z (O.move Z ⟨⟨gB.refl _ _,hx.nop (Keep.refl _ _) (fun _ g ↦ g) dcX⟩,rfl⟩),
       fun c σ n hx hn I=>ObG.op Z (O.fa Z ⟨⟨gB.refl _ _,hx.nop (Keep.refl _ _) (fun _ g ↦ g) dcX⟩,rfl⟩),
       fun c σ n hx hn I=>ObG.op Z (O.fa Z ⟨⟨gB.refl _ _,hx.nop (Keep.refl _ _) (fun _ g ↦ g) dcX⟩,rfl⟩),
       fun c σ n hx hn I=>ObG.op Z (dR Z ((hx.but.blk (cs:=rlC d s) UL y).cell ac) ⟨⟨gB.refl _ _,hx.nop (Keep.refl _ _) (fun _ g ↦ g) dcX⟩,rfl⟩),
       fun c σ n hx hn I=>ObG.op Z (O.move Z ⟨⟨gB.refl _ _,hx.nop (Keep.refl _ _) (fun _ g ↦ g) dcX⟩,rfl⟩),
       fun c σ n hx hn I=>ObG.op Z (ig Z Z (AU (hx.but.blk ahL ae) C D P Q) omX omX ⟨⟨gB.refl _ _,hx.nop (Keep.refl _ _) (fun _ g ↦ g) dcX⟩,rfl⟩),
       fun c σ n hx hn I=>ObG.op Z (O.fa Z ⟨⟨gB.refl _ _,hx.nop (Keep.refl _ _) (fun _ g ↦ g) dcX⟩,rfl⟩),
       fun c σ n hx hn I=>ObG.op Z (dR Z (Sl.at (AU (hx.but.blk ahL ae) C D P Q) hcell) ⟨⟨gB.refl _ _,hx.nop (Keep.refl _ _) (fun _ g ↦ g) dcX⟩,rfl⟩),
       fun c σ n hx hn I=>ObG.op Z (O.move Z ⟨⟨gB.refl _ _,hx.nop (Keep.refl _ _) (fun _ g ↦ g) dcX⟩,rfl⟩),
       fun c σ n hx hn I=>ObG.op Z (aH (el:=30) (parts:=[(0,.tmp 160)]) (vs:=[(0,_)]) (cs:=[.slice oa xs.length cp]) Z (fun w=>by kernel_rfl) (fun bd auF bH bJ adC akE=>⟨⟨gB.dF adC,hx.nop adC (fun _ g ↦ g.ext adC) dcX⟩,bd,rfl,fun e=>by have:=Ol _ e;have:=hx.but.size;omega,akE⟩)),
       fun c σ n hx hn asa agu I=>by { obtain ⟨bl,rfl,bL,af⟩:=agu;exact ObG.op rfl (iQ (size:=1) (bytes:=24) runUnderlying125 Tryz.rH Z Z Z Z dcX rfl rfl (cO agt.1 (hx.PX hn) lzX) rfl (Row.bI af) (by intro u X;simp at X;obtain rfl:=X;exact Sl.one Sz.ints) omX (by simp only [maxLen];omega) lzX (fun H auG akF agv akG=>⟨⟨gB.jV agv,hx.app hn agv ⟨akF,fun k e=>(akG k e).imp id (fun h=>by have:=(hx.PX hn).size;omega)⟩⟩,trivial⟩)) },
       trivial⟩ (fun auH bN asb asa agu H asc ase=>?_)
     obtain ⟨FK,ant⟩:=asb.done (ase 13 dcX _ _ rfl rfl).symm
     have asf:=FK.blk (cs:=rlC d s) UL y
     have ahx:=FK.blk (cs:=dX) adz F
     have ahM:=FK.blk ahL ae
     have akH:=hint _ FK
     have bO:=Blk.lt hgB
     have be:g≠b3:=by omega
     have aD:g≠f:=by omega
     refine dG Z Z (AU ahM C D P Q) (L.fa Z (L.o (uf sizeOf125 (Sl.one (Sl.dD ant.1)) Z Z ahM (by show 0+(((d.vs.length:Int)-1).toNat*2+1)<cs.length;omega) (fun anu UM adD=>?_))))
     have bf:0+(((d.vs.length:Int)-1).toNat*2+1)=(d.vs.length-1)*2+1:=by omega
     replace adD:Blk anu g (cs.set ((d.vs.length-1)*2+1) H) 127:=by rw [← bf];exact adD
     have akI:=Blk.upd asf UM (Ne.symm be)
     have adE:=Blk.upd ahx UM (Ne.symm aD)
     refine ak (au (aT Z Z (Row.bI akI) (L.o (aK sizeOf48 Z Z Z adE leX hK.one (fun ahN Qw akJ=>?_)))))
     replace Qw:Upd f anu ahN:=Qw
     have akK:Blk ahN f (rlC (yS d H (.slice oa xs.length cp) xs) (FX s xs)) 48:=akJ
     have akL:Ext w0 ahN:=((FK.ext ahJ.e (fun k e ↦ ad.2 k e)).upd UM (.inr aB)).upd Qw (.inr A.2)
     have akM:=(ant.updB UM ahM dcX).updB Qw adE dcX
     have hkeep:∀ k,k<w.heap.size→k≠g→(eH d).hv.ownBlock≠some k→ahN.heap[k]?=w.heap[k]?:=fun k U M h3 ↦ (Qw.block k omX).trans ((UM.block k M).trans ((FK.block k omX h3).trans (Ae.block k lzX U)))
     have akN:=(akH.N8 UM ahM dcX).N8 Qw adE dcX
     refine L.a Z (ah Z (eP results101 isAgg48 sizeOf48 Z Z Z Z (Row.bI akK) (Bv.yes (d':=yS d H (.slice oa xs.length cp) xs) (Hy hf hlast t) (show (3:Int)=stg gy by decide) (hK.P8 ax az aB hgB C D P Q hkeep akL (Blk.upd adD Qw aD) akM akN))))
    obtain ⟨rfl,hlast⟩:=of_decide_eq_true Y
    have aw:=hK.fsl
    have bc:=G.2.1
    have Ol:∀ k,d.fv.ownBlock=some k→k<w.heap.size:=fun k e ↦ sV hK.fsr.1 e
    have y:d.fv.ownBlock≠some b3:=fun e ↦ by have:=Ol _ e;omega
    have F:d.fv.ownBlock≠some f:=fun e ↦ by have:=Ol _ e;omega
    have asg:=Ae.size
    refine aZ (au (L.fa Z (aC Z (UL.cell Z) (aO Z (bU (v:=.agg #[.slice oa xs.length cp,.slice none 0 0]) (parts:=[(0,.tmp 128)]) (vs:=[(0,_)]) Z (fun w=>by kernel_rfl) (L.o (aH (el:=127) (parts:=[(0,.tmp 129)]) (vs:=[(0,_)]) (cs:=[.slice oa xs.length cp,.slice none 0 0]) Z (fun w=>by kernel_rfl) (fun auI ash asi akO zT akP=>?_))))))))
    have akO:=zT.size
    have adF:=ahJ.ext zT
    refine L.o (iQ (size:=2) (bytes:=48) runUnderlying44 Tryz.oW Z Z Z Z dcX rfl rfl adF.fsr.1 rfl (Row.bI akP) (by intro u X;simp at X;obtain (rfl|rfl):=X <;> rfl) omX (by simp only [maxLen];omega) lzX (fun E abx adG adl akQ=>?_))
    have Oc:gB d.fv.ownBlock ash abx:=.jV adl
    have adH:=Oc.blk (cs:=rlC d s) (Blk.ext UL zT) y
    have akR:=Oc.blk (cs:=dX) (Blk.ext adz zT) F
    refine L.fa Z (L.fa Z (L.o (bV sizeOf44 (Sl.one (Sl.dD adG)) Z Z adH (show (1:Nat)<6 by decide) (fun anv Yf akS=>?_))))
    have akT:Blk anv b3 (rlC (oK d E (.slice oa xs.length cp) xs) (wY s xs)) 48:=akS
    have adI:=Blk.upd akR Yf (Ne.symm aer)
    have adJ:∀ c∈rlC (oK d E (.slice oa xs.length cp) xs) (wY s xs),c.oneCell'=true:=fun c G=>by
     simp only [rlC,oK,wY,List.mem_cons,List.not_mem_nil,or_false] at G
     rcases G with rfl|rfl|rfl|rfl|rfl|rfl
     ·exact Sl.one (Sl.dD hK.pts.1)
     ·exact Sl.one (Sl.dD adG)
     ·rfl
     ·rfl
     ·rfl
     exact Sl.one (Sl.dD hK.usr.1)
    refine ak (au (aT Z Z (Row.bI akT) (L.o (aK sizeOf48 Z Z Z adI leX adJ (fun aes UN akU=>?_)))))
    replace UN:Upd f anv aes:=UN
    have akV:Blk aes f (rlC (oK d E (.slice oa xs.length cp) xs) (wY s xs)) 48:=akU
    have akW:Ext w0 aes:=((Oc.ext adF.e (fun k e ↦ hK.fsr.2 k e)).upd Yf (.inr A.1)).upd UN (.inr A.2)
    have akX:Bo d.fv.ownBlock w.heap.size 127 2 (d.vs.length+1) (fO d.vs ++ [.slice oa xs.length cp,.slice none 0 0]) E aes:=((show Bo d.fv.ownBlock w.heap.size 127 2 (d.vs.length+1) (fO d.vs ++ [.slice oa xs.length cp,.slice none 0 0]) E abx from ⟨adG,fun k e ↦ (akQ k e).imp id (fun h ↦ by omega)⟩).updB Yf adH dcX).updB UN adI dcX
    have hkeep:∀ k,k<w.heap.size→d.fv.ownBlock≠some k→aes.heap[k]?=w.heap[k]?:=fun k U M ↦ (UN.block k omX).trans ((Yf.block k omX).trans ((Oc.block k omX M).trans ((zT.block k lzX omX).trans (Ae.block k lzX U))))
    have akY:gJ (kE w.heap.size) aes (.slice oa xs.length cp) xs:=Sz.stay fun k cs q B ↦ by
     have anw:=Blk.ext B zT
     have anx:=Oc.blk anw (jY adF.fsr.1 anw dcX)
     have anz:=Blk.upd anx Yf (sK anx adH dcX)
     exact ⟨q,Blk.upd anz UN (sK anz adI dcX)⟩
    refine L.a Z (ah Z (eP results101 isAgg48 sizeOf48 Z Z Z Z (Row.bI akV) (Bv.yes (Hw hf hlast t) (show (3:Int)=stg gq by decide) (hK.P5 hkeep akW akX akY))))
   obtain ⟨rfl,hlast,M⟩:=of_decide_eq_true av
   have bP:xs.length=2:=by omega
   have Ol:∀ k,d.pv.ownBlock=some k→k<w.heap.size:=fun k e ↦ sV hK.pts.1 e
   have y:d.pv.ownBlock≠some b3:=fun e ↦ by have:=Ol _ e;omega
   have F:d.pv.ownBlock≠some f:=fun e ↦ by have:=Ol _ e;omega
   have bQ:=G.1
   have auJ:=Ae.size
   refine aZ (aj (?_))
   refine dn mixed 11 [3,11] Z [.is _,.is _,.is _,.is _,.is _,.is _,.is _,.is _,.is _,.is _,.such (ags 124 (pC (xs.getD 0 0,xs.getD 1 0)))] [[],[0],[1],[],[3],[4],[],[6],[7],[5,8],[9]] ⟨ags.st,trivial⟩ ⟨fun n hx=>Ob.fa rfl,
     fun n hx=>Ob.fa rfl,
     fun n hx=>aS rfl ((Blk.ext (cs:=rlC d s) UL hx).cell rfl),
     fun n hx=>aF rfl,
     fun n hx=>qc rfl rfl (Sz.ints.ext hx) dcX (by show (0:Int)<xs.length;omega),
     fun n hx=>aS rfl (Ints.at (Sz.ints.ext hx) (show 0<xs.length by omega)),
     fun n hx=>aF rfl,
     fun n hx=>qc rfl rfl (Sz.ints.ext hx) dcX (by show (1:Int)<xs.length;omega),
     fun n hx=>aS rfl (Ints.at (Sz.ints.ext hx) (show 1<xs.length by omega)),
     fun n hx=>Ob.o (bU (v:=.agg #[.int .i64 (xs.getD 0 0),.int .i64 (xs.getD 1 0)]) (parts:=[(0,.tmp 102),(1,.tmp 105)]) (vs:=[(0,_),(1,_)]) Z (fun w=>by kernel_rfl) kR),
     fun n hx=>Ob.o (aH (el:=124) (parts:=[(0,.tmp 106)]) (vs:=[(0,_)]) (cs:=(pC (xs.getD 0 0,xs.getD 1 0))) Z (fun w=>by kernel_rfl) (fun asj auK asl asn akZ bg=>⟨akZ,asj,rfl,bg⟩)),
     trivial⟩ (fun bh je bx Ql=>?_)
   obtain ⟨bl,rfl,af⟩:=Ql
   have ahC:=ahJ.ext je
   have bR:=je.size
   refine L.o (iQ (size:=2) (bytes:=16) runUnderlying43 Tryz.tY Z Z Z Z dcX rfl rfl ahC.pts.1 rfl (Row.bI af) (gu _) omX (by simp only [maxLen];omega) lzX (fun aby ajT bi bj bk=>?_))
   have Ou:gB d.pv.ownBlock bh ajT:=.jV bj
   have ag:Bo d.pv.ownBlock w.heap.size 124 2 (s.ps.length+1) (pcs s.ps++pC (xs.getD 0 0,xs.getD 1 0)) aby ajT:=⟨bi,fun k e ↦ (bk k e).imp id (fun h ↦ by omega)⟩
   have anA:=Ou.blk (cs:=rlC d s) (Blk.ext UL je) y
   have aso:=Ou.blk (cs:=dX) (Blk.ext adz je) F
   refine L.fa Z (L.fa Z (L.o (bV sizeOf43 (Sl.one (Sl.dD ag.1)) Z Z anA (show (0:Nat)<6 by decide) (fun anB aaH bm=>?_))))
   have bo:Blk anB b3 (rlC { d with pv:=aby } (nO s xs)) 48:=bm
   have agw:=Blk.upd aso aaH (Ne.symm aer)
   have adK:∀ c∈rlC { d with pv:=aby } (nO s xs),c.oneCell'=true:=fun c G=>by
    simp only [rlC,nO,List.mem_cons,List.not_mem_nil,or_false] at G
    rcases G with rfl|rfl|rfl|rfl|rfl|rfl
    ·exact Sl.one (Sl.dD ag.1)
    ·exact Sl.one (Sl.dD hK.fsr.1)
    ·rfl
    ·rfl
    ·rfl
    exact Sl.one (Sl.dD hK.usr.1)
   refine ak (au (aT Z Z (Row.bI bo) (L.o (aK sizeOf48 Z Z Z agw leX adK (fun afT Yg bp=>?_)))))
   replace Yg:Upd f anB afT:=Yg
   have bq:Blk afT f (rlC { d with pv:=aby } (nO s xs)) 48:=bp
   have br:Ext w0 afT:=((Ou.ext ahC.e (fun k e ↦ hK.pts.2 k e)).upd aaH (.inr A.1)).upd Yg (.inr A.2)
   have bs:=(ag.updB aaH anA dcX).updB Yg agw dcX
   have hkeep:∀ k,k<w.heap.size→d.pv.ownBlock≠some k→afT.heap[k]?=w.heap[k]?:=fun k U M ↦ (Yg.block k omX).trans ((aaH.block k omX).trans ((Ou.block k omX M).trans ((je.block k lzX omX).trans (Ae.block k lzX U))))
   refine L.a Z (ah Z (eP results101 isAgg48 sizeOf48 Z Z Z Z (Row.bI bq) (Bv.yes (Ez hf ⟨hlast,M⟩ t) (show (1:Int)=stg fC by decide) (hK.JI hkeep br bs))))
  obtain ⟨rfl,hlast,h3⟩:=of_decide_eq_true ar
  have bS:xs.length=3:=by omega
  refine aZ (aQ Z (jI Z Z Sz.ints dcX omX (cZ Z (Ints.at Sz.ints (show 0<xs.length by omega)) (L.fa Z (L.fa Z (L.o (bV sizeOf3 Z Z Z UL (show (2:Nat)<6 by decide) (fun bW abB aen=>?_))))))))
  have aal:=Sz.N8 abB UL dcX
  refine ak (aQ Z (jI Z Z aal.ints dcX omX (cZ Z (Ints.at aal.ints (show 1<xs.length by omega)) (L.fa Z (L.fa Z (L.o (bV sizeOf3 Z Z Z aen (show (3:Nat)<6 by decide) (fun bX ai asq=>?_))))))))
  have anC:=aal.N8 ai aen dcX
  refine ak (aQ Z (jI Z Z anC.ints dcX omX (cZ Z (Ints.at anC.ints (show 2<xs.length by omega)) (L.fa Z (L.fa Z (L.o (bV sizeOf3 Z Z Z asq (show (4:Nat)<6 by decide) (fun aE ML WT=>?_))))))))
  have asr:Blk aE b3 (rlC d (PZ s xs)) 48:=WT
  have asu:=Blk.upd (Blk.upd (Blk.upd adz abB (Ne.symm aer)) ai (Ne.symm aer)) ML (Ne.symm aer)
  have aL:RlK w0 d (PZ s xs) w:=(hK.roll ⟨aeH 0 omX,aeH 1 omX,aeH 2 omX⟩).last iI
  refine ak (au (aT Z Z (Row.bI asr) (L.o (aK sizeOf48 Z Z Z asu leX aL.one (fun aM ZB afq=>?_)))))
  replace ZB:Upd f aE aM:=ZB
  have asv:Blk aM f (rlC d (PZ s xs)) 48:=afq
  refine L.a Z (ah Z (eP results101 isAgg48 sizeOf48 Z Z Z Z (Row.bI asv) (Bv.yes (Hu hf ⟨hlast,h3⟩ t) (show (1:Int)=stg iI by decide) (aL.ext ((((Ae.upd abB (.inr abC.1)).upd ai (.inr abC.1)).upd ML (.inr abC.1)).upd ZB (.inr abC.2))))))
 have S:=of_decide_eq_true X
 obtain ⟨rfl,hlast⟩:=S
 refine aZ (au (L.fa Z (aT Z Z ((Row.bI hL6).part 2 4) (aO Z (ay (xs:=[.tmp 28,.tmp 29]) call145 Z Z (Qs lo s d.uv p lY r R hK.big (Sl.one (Sl.dD hK.usr.1)) (hp.ext qE) hs hr) (fun bY bt hq=>?_))))))
 obtain ⟨⟨x,b,rfl,aa,hy,hz⟩,ER⟩:=hq
 refine L.m Z (bK Z Z (bK Z Z (L.o (O.alloc zeroValue51 (fun b9 w9 bZ b0 al aP=>?_)))))
 refine L.o (aK sizeOf51 Z Z Z aP leX aa (fun V sD Ue=>?_))
 replace sD:Upd b9 w9 V:=sD
 have agx:Blk V b9 x.cells 51:=Ue
 have adL:Ext R V:=(ER.trans al).upd sD (.inr (by have:=ER.size;omega))
 have J6:Ext w V:=qE.trans adL
 have hL31:=Blk.ext hL6 adL
 have asw:=Blk.ext ap adL
 have b1:=hK.usl
 have auL:=G.2.2.1
 refine ah Z (au (L.fa Z (aC Z (hL31.cell Z) (aT Z Z (Row.bI agx) (L.o (aH (el:=51) (parts:=[(0,.tmp 36)]) (vs:=[(0,_)]) (cs:=x.cells) Z (fun w=>by kernel_rfl) (fun b2 bu auM asx ahO aeR=>?_)))))))
 have aaI:=J6.trans ahO
 have asy:=Blk.ext hL31 ahO
 have asz:=Blk.ext asw ahO
 have anD:=hK.ext aaI
 have aR:∀ k,d.uv.ownBlock=some k→k<w.heap.size:=fun k e ↦ sV hK.usr.1 e
 have asx:=aaI.size
 refine L.o (iQ (size:=6) (bytes:=104) runUnderlying23 Tryz.Ig Z Z Z Z dcX rfl rfl (cO hK.usr.1 aaI lzX) rfl (Row.bI aeR) aa omX (by simp only [maxLen];omega) lzX (fun J am ala asA asB=>?_))
 have Yh:gB d.uv.ownBlock bu am:=.jV asA
 have y:d.uv.ownBlock≠some b3:=fun e ↦ by have:=aR _ e;omega
 have F:d.uv.ownBlock≠some f:=fun e ↦ by have:=aR _ e;have:=N.size;omega
 have alb:=Yh.blk (cs:=rlC d s) asy y
 have asC:=Yh.blk (cs:=dX) asz F
 refine L.fa Z (L.fa Z (L.o (bV sizeOf23 (Sl.one (Sl.dD ala)) Z Z alb (show (5:Nat)<6 by decide) (fun an adM adT=>?_))))
 replace adM:Upd b3 am an:=adM
 have asD:Blk an b3 (rlC (uAdd d x J) s) 48:=adT
 have abD:∀ c∈rlC (uAdd d x J) s,c.oneCell'=true:=fun c G=>by
  simp only [rlC,uAdd,List.mem_cons,List.not_mem_nil,or_false] at G
  rcases G with rfl|rfl|rfl|rfl|rfl|rfl
  ·exact Sl.one (Sl.dD hK.pts.1)
  ·exact Sl.one (Sl.dD hK.fsr.1)
  ·rfl
  ·rfl
  ·rfl
  exact Sl.one (Sl.dD ala)
 refine ak (au (aT Z Z (Row.bI asD) (?_)))
 have alc:=Blk.upd asC adM (Ne.symm aer)
 refine aO Z (aK sizeOf48 Z Z Z alc leX abD (fun K aeu akq=>?_))
 replace aeu:Upd f an K:=aeu
 have asE:Blk K f (rlC (uAdd d x J) s) 48:=akq
 have abC:w.heap.size≤b3∧w.heap.size≤f:=by have:=N.size;omega
 have A:w0.heap.size≤b3∧w0.heap.size≤f:=by have:=hK.e.size;omega
 have anE:Ext w0 K:=((Yh.ext anD.e (fun k e ↦ (hK.usr.2 k e))).upd adM (.inr A.1)).upd aeu (.inr A.2)
 have asF:Bo d.uv.ownBlock w.heap.size 51 6 (d.us.length+1) (iR d.us++x.cells) J K:=((show Bo d.uv.ownBlock w.heap.size 51 6 (d.us.length+1) (iR d.us++x.cells) J am from ⟨ala,fun k e ↦ (asB k e).imp id (fun h ↦ by omega)⟩).updB adM alb dcX).updB aeu alc dcX
 have hkeep:∀ k,k<w.heap.size→d.uv.ownBlock≠some k→K.heap[k]?=w.heap[k]?:=fun k U M ↦ (aeu.block k omX).trans ((adM.block k omX).trans ((Yh.block k omX M).trans (aaI.block k lzX U)))
 have bv:∀ k cs,kE R.heap.size k→Blk bt k cs 3→kE w.heap.size k∧Blk K k cs 3:=fun k cs q B ↦ by
  have aV:=Blk.ext (Blk.upd (Blk.ext B al) sD (sK (Blk.ext B al) aP dcX)) ahO
  have aY:=Yh.blk aV (jY anD.usr.1 aV dcX)
  have a0:=Blk.upd aY adM (sK aY alb dcX)
  exact ⟨Nat.le_trans qE.size q,Blk.upd a0 aeu (sK a0 alc dcX)⟩
 refine L.a Z (ah Z (eP results101 isAgg48 sizeOf48 Z Z Z Z (Row.bI asE) ⟨_,4,b,rfl,rfl,abD,anE,fun hb=>?_,fun hb=>?_⟩))
 ·obtain ⟨u,bw,hU⟩:=hy hb
  exact ⟨uAdd d x J,{ zX s u with last:=lY },by rw [pR hf,if_pos hlast,bw],rfl,(show (4:Int)=stg lY by decide),(hK.Qb hkeep anE asF (hU.stay bv)).last lY⟩
 rw [pR hf,if_pos hlast,hz hb]
def aaJ (W:World) (m:Nat):World:={ W with heap:=W.heap.extract 0 m }
theorem jO (h:m≤W.heap.size):(aaJ W m).heap.size=m:=by simp [aaJ];omega
theorem JZ {k:Nat} (h:k<m) (a:m≤W.heap.size):(aaJ W m).heap[k]?=W.heap[k]?:=by
 simp only [aaJ,Array.getElem?_extract]
 rw [if_pos omX,Nat.zero_add]
theorem J3 (h:m≤W.heap.size):Ext (aaJ W m) W:=⟨rfl,rfl,rfl,by rw [jO h];exact h,fun k _ a=>(JZ (by rw [jO h] at a;exact a) h).symm⟩
theorem RlK.move {a:World} (h:RlK w0 d s W) (hs:a.heap.size=w0.heap.size) (c:Ext a W') (e:∀ k cs t,kE w0.heap.size k→Blk W k cs t→Blk W' k cs t):RlK a d s W':=by
 have b:∀ k cs t,kE w0.heap.size k→Blk W k cs t→kE a.heap.size k∧Blk W' k cs t:=fun k cs t q B=>⟨by rw [hs];exact q,e k cs t q B⟩
 exact ⟨c,h.pts.stay fun k cs q _ B=>b k cs _ q B,h.fsr.stay fun k cs q _ B=>b k cs _ q B,h.fsl,fun i hi=>(h.fa i hi).stay b,h.sep,h.usr.stay fun k cs q _ B=>b k cs _ q B,h.usl,fun i hi=>(h.un i hi).stay fun k cs q B=>b k cs _ q B,h.big⟩
structure PrI (w7:World) (b5:Nat) (d:RdD) (s:PS) (W:World):Prop where
 but:gB (some b5) w7 W
 blk:Blk W b5 (rlC d s) 48
 land:RlK (aaJ W w7.heap.size) d s W
theorem Yi {ob:Option Nat} {w7:World} (h:gB ob w7 W) (a:Ext (aaJ W w7.heap.size) W'):gB ob w7 W' :=
 ⟨a.os.trans h.os,a.tape.trans h.tape,a.output.trans h.output,by have:=a.size;rw [jO h.size] at this;exact this,fun k b hn=>(a.block k lzX (by rw [jO h.size];exact b)).trans ((JZ b h.size).trans (h.block k b hn))⟩
theorem PrI.next {w7:World} {b5:Nat} {d':RdD} {s':PS} {f b:World} (h:PrI w7 b5 d s W) (hb:b5<w7.heap.size) (hK:RlK (aaJ W w7.heap.size) d' s' f) (a:Upd b5 f b) (hB:Blk b b5 (rlC d' s') 48):PrI w7 b5 d' s' b:=by
 have g:=Yi h.but hK.e
 have c:gB (some b5) w7 b:=g.trans ⟨a.os,a.tape,a.output,Nat.le_of_eq a.size.symm,fun k _ i=>a.block k (fun e=>i (by rw [e]))⟩
 refine ⟨c,hB,hK.move (by rw [jO h.but.size,jO c.size]) (J3 c.size) fun k cs t q B=>Blk.upd B a (fun e=>?_)⟩
 unfold kE at q
 rw [jO h.but.size] at q
 omega
theorem PrI.ext {w7:World} {b5:Nat} {d:RdD} {s:PS} {W W':World} (h:PrI w7 b5 d s W) (a:Ext W W'):PrI w7 b5 d s W':=by
 have b:gB (some b5) w7 W':=h.but.trans (.dF a)
 exact ⟨b,Blk.ext h.blk a,h.land.move (by rw [jO h.but.size,jO b.size]) (J3 b.size) fun k cs t _ B=>Blk.ext B a⟩
theorem Yj {q:List Value} (h:q.length=6):∃ a b c d e f,q = [a,b,c,d,e,f]:=by
 match q,h with
 | [a,b,c,d,e,f],_=>exact ⟨a,b,c,d,e,f,rfl⟩
structure PrS (t:Str) (n:Nat) (s:PS):Prop where
 bnd:aah s n
 nm:∀ u∈s.us,u.nm.length≤100000
 run:BH iE s ((dM 10 t).drop n) (n+1)=BH iE PS0 (dM 10 t) 1
theorem PrS.start (t:Str):PrS t 0 PS0:=⟨NS,fun u a=>(by cases a),rfl⟩
theorem PrS.next {s':PS} (h:PrS t n s) (hn:n<(dM 10 t).length) (b:t.length≤40000) (hs:iE s ((dM 10 t).getD n [])=some s'):PrS t (n+1) s':=by
 have a:((dM 10 t).getD n []).length≤100000:=DY (t:=t) omX _ (by rw [aX hn];exact List.getElem_mem hn)
 refine ⟨aah.step s _ s' n h.bnd hs,Hz hs a h.nm,?_⟩
 rw [← h.run,List.drop_eq_getElem_cons hn,BH,← aX (d:=[]) hn,hs]
theorem PrS.stop (h:PrS t n s) (hn:n<(dM 10 t).length) (a:t.length≤40000) (hs:iE s ((dM 10 t).getD n [])=none):iW t = .inr (((n+1:Nat):Int),5):=by
 have e:=h.run
 rw [List.drop_eq_getElem_cons hn,BH,← aX (d:=[]) hn,hs] at e
 unfold iW
 rw [if_neg omX,← e]
theorem PrS.fin (h:PrS t (dM 10 t).length s):BH iE PS0 (dM 10 t) 1 = .inl s:=by
 have e:=h.run
 rw [List.drop_length,BH] at e
 exact e.symm
theorem Yk {r:List Str} (hf:fieldsB l=k::r) (h:s.last=lU):iE s l=none:=by
 refine Qu hf ?_ ?_ ?_ ?_ ?_ ?_ <;> rw [h] <;> intro b <;> revert b <;> first|(rintro ⟨_,a,_⟩;revert a;decide)|(rintro ⟨_,a⟩;revert a;decide)
theorem J4 : stg k=5↔k=lU:=by
 rcases uX k with ⟨h,e⟩|⟨h,e⟩|⟨h,e⟩|⟨h,e⟩|⟨b,c,d,a,e⟩
 ·subst h;decide
 ·rcases kW h with rfl|rfl <;> decide
 ·rcases kW h with rfl|rfl <;> decide
 ·subst h;decide
 exact ⟨fun h=>by omega,fun h=>absurd h a⟩
set_option maxHeartbeats 1000000 in
theorem Oe (t:Str) (w:World) (ht:t.length≤9223372036854775807) :
  Calls Tryz.prog 48 #[str t] w (Ret fun v w'=>Ext w w'∧Ht (iW t) w.heap.size v w'):=by
 refine aJ (vs:=[str t]) func48 Z ntmps48 Z ?_
 refine au (L.o (O.alloc zeroValue48 (fun b2 w2 A an l hB2=>?_)))
 refine L.a Z (ah Z (aj (au (aO Z (dB runUnderlying9 Z (dY Z Z (fun F=>?_) (fun F=>?_)))))))
 ·refine ak (?_)
  have B:iW t = .inr (0,3):=by unfold iW;rw [if_pos omX]
  refine aZ (au (L.o (bU (v:=.agg dX.toArray) (parts:=[]) (vs:=[]) Z (fun w=>by kernel_rfl) (L.o (aK sizeOf48 Z Z Z hB2 leX iC (fun aa nU rD=>?_))))))
  have Ud:Blk aa b2 dX 48:=rD
  refine L.a Z (ah Z (eP results48 isAgg48 sizeOf48 Z Z Z Z (Row.bI Ud) ⟨l.upd nU (.inr omX),by rw [B];rfl⟩))
 refine ak (?_)
 have p:t.length≤40000:=by omega
 refine bn (T.skip (au (L.o (O.alloc zeroValue48 (fun b5 w5 u ao C G=>?_)))))
 refine ak (au (ah Z (au (aO Z (ay (xs:=[.tmp 18]) call99 Z Z (Np t w5 omX) (fun v7 w7 x=>?_))))))
 obtain ⟨ab,y⟩:=x
 have anF:Blk w7 b5 dX 48:=Blk.ext G y
 have H:Blk w7 b2 dX 48:=Blk.ext (Blk.ext hB2 C) y
 have ap:=zM 10 t
 have ac:Strs w5.heap.size w7 v7 (dM 10 t):=Sl.dD ab
 have amW:b2≠b5:=by have:=l.size;omega
 have u:b5<w7.heap.size:=Blk.lt anF
 have A:b2<w7.heap.size:=Blk.lt H
 have aq:w.heap.size≤w7.heap.size:=by have:=l.size;have:=C.size;have:=y.size;omega
 have Fz:Ext w w7:=(l.trans C).trans y
 refine ah Z (aj (au (ah Z (T.block (?_)))))
 refine bf (σ:=Nat × RdD × PS) (fun g=>[(2,.pointer (some ⟨b2,0,none⟩)),(5,.pointer (some ⟨b5,0,none⟩)),(6,.int .i64 (stg g.2.2.last)),(7,v7),(8,.int .i64 g.1)]) (fun g W=>g.1≤(dM 10 t).length∧PrI w7 b5 g.2.1 g.2.2 W∧PrS t g.1 g.2.2) (fun g=>(dM 10 t).length-g.1) ((0,⟨.slice none 0 0,.slice none 0 0,.slice none 0 0,[],[]⟩,PS0)) ⟨rfl,rfl,rfl,rfl,rfl,trivial⟩ ⟨Nat.zero_le _,⟨gB.refl _ _,anF,RlK.start (J3 leX)⟩,PrS.start t⟩ ?_
 rintro ⟨n,d,s⟩ i ⟨hn,hI,hP⟩
 simp only at hn hI hP
 have YD:Ext w i:=hI.but.ext Fz (fun k e ↦ by cases e;omega)
 have FC:Strs w5.heap.size i v7 (dM 10 t):=Sl.keep ac (hI.but.keep (fun k e ↦ by cases e;exact Blk.lt G))
 have f:∀ W,gB (some b5) w7 W→Blk W b2 dX 48:=fun W h ↦ h.blk H (fun e ↦ by cases e;exact amW rfl)
 refine aj (au (aN Z Z (L.le Z (Sl.val FC) (bH Z Z (fun D=>?_) (fun D=>?_)))))
 ·refine ak (?_)
  have c:n<(dM 10 t).length:=by simp only at D;omega
  have I:((dM 10 t).getD n []).length≤100000:=DY (t:=t) omX _ (by rw [aX c];exact List.getElem_mem c)
  refine aZ (T.skip (aj (?_)))
  refine dS (σ:=RdD × PS) (fun g=>[(2,.pointer (some ⟨b2,0,none⟩)),(5,.pointer (some ⟨b5,0,none⟩)),(6,.int .i64 (stg g.2.last)),(7,v7),(8,.int .i64 n)]) (fun g W=>PrI w7 b5 g.1 g.2 W∧PrS t (n+1) g.2) ?_ ?_
  ·refine T.block (au (aN Z Z (jI Z Z FC (by simp only;omega) (by simp only;omega) (cZ Z (FC.at c) (L.o (ay (xs:=[.tmp 29]) call100 Z Z (NZ ((dM 10 t).getD n []) i omX) (fun J z x=>?_)))))))
   obtain ⟨KZ,ER⟩:=x
   have adS:Strs i.heap.size z J (fieldsB ((dM 10 t).getD n [])):=Sl.dD KZ
   have Xr:=hI.ext ER
   have acS:=YD.trans ER
   refine ah Z (aj (aQ Z (L.le Z (Sl.val adS) (dK Z Z (fun z0=>?_) (fun z0=>?_)))))
   ·refine ak (?_)
    have hf:fieldsB ((dM 10 t).getD n []) = []:=List.eq_nil_of_length_eq_zero omX
    refine aZ (aY Z (bC ((d,s)) ⟨rfl,rfl,rfl,rfl,rfl,trivial⟩ ⟨Xr,hP.next c p (step_nil hf)⟩))
   refine ak (?_)
   obtain ⟨k,r,hf⟩:∃ k r,fieldsB ((dM 10 t).getD n [])=k::r:=by
    cases hf:fieldsB ((dM 10 t).getD n []) with
    | nil=>rw [hf] at z0;exact absurd rfl z0
    | cons k r=>exact ⟨k,r,rfl⟩
   refine bn (T.skip (aj (aQ Z (dK Z Z (fun z5=>?_) (fun z5=>?_)))))
   ·refine aW (au (L.o (bU (v:=.agg dX.toArray) (parts:=[]) (vs:=[]) Z (fun w=>by kernel_rfl) (aO Z (bG Z Z (by (try simp only);omega) (L.o (aK sizeOf48 Z Z Z (f _ Xr.but) leX iC (fun K ald abX=>?_))))))))
    replace ald:Upd b2 z K:=ald
    have asG:Blk K b2 dX 48:=abX
    refine L.a Z (ah Z (eP results48 isAgg48 sizeOf48 Z Z Z Z (Row.bI asG) ⟨acS.upd ald (.inr omX),by rw [hP.stop c p (Yk hf (J4.1 (by simp only at z5;omega)))];rfl⟩))
   refine aU (T.skip (au (aT Z Z (Row.bI Xr.blk) (?_))))
   rw [hf] at adS
   refine aN Z Z (L.o (ay (xs:=[.tmp 40,.tmp 41,.tmp 42]) call101 Z Z (Qv (aaJ z w7.heap.size) i.heap.size d s J _ k r z Xr.land hf adS (pK I hf) (Hr I hf) (hP.bnd.1.mono omX) hP.bnd.2) (fun ar ad x=>?_)))
   obtain ⟨q,nn,b,rfl,ae,M,anG,hy,hz⟩:=x
   obtain ⟨c0,c1,c2,c3,c4,c5,rfl⟩:=Yj ae
   refine L.m Z (bK Z Z (bK Z Z (bK Z Z (L.o (O.alloc zeroValue48 (fun N af aeO aaQ jf EP=>?_))))))
   refine L.o (aK sizeOf48 Z Z Z EP leX M (fun j ale asH=>?_))
   replace ale:Upd N af j:=ale
   have asI:Blk j N [c0,c1,c2,c3,c4,c5] 48:=asH
   have aev:Ext ad j:=jf.upd ale (.inr omX)
   have anH:=Yi Xr.but (anG.trans aev)
   have asJ:Ext w j:=anH.ext Fz (fun k e ↦ by cases e;omega)
   rcases b with _|_
   ·refine L.a Z (ah Z (aj (aQ Z (bT Z (aW (au (L.o (bU (v:=.agg dX.toArray) (parts:=[]) (vs:=[]) Z (fun w=>by kernel_rfl) (aO Z (bG Z Z (by (try simp only);omega) (L.o (aK sizeOf48 Z Z Z (f _ anH) leX iC (fun P Yx Y4=>?_)))))))))))))
    replace Yx:Upd b2 j P:=Yx
    have asK:Blk P b2 dX 48:=Y4
    refine L.a Z (ah Z (eP results48 isAgg48 sizeOf48 Z Z Z Z (Row.bI asK) ⟨asJ.upd Yx (.inr omX),by rw [hP.stop c p (hz Z)];rfl⟩))
   obtain ⟨d',s',ag,x,rfl,ai⟩:=hy rfl
   have asL:=ai.ext aev
   refine L.a Z (ah Z (aj (aQ Z (bT Z (aU (T.skip (au (aT Z Z (Row.bI asI) (L.o (aK sizeOf48 Z Z Z (((anG.trans aev).block b5 lzX (by rw [jO Xr.but.size];exact u)).trans ((JZ u Xr.but.size).trans Xr.blk)) leX M (fun Q alf asM=>?_)))))))))))
   replace alf:Upd b5 j Q:=alf
   have asN:Blk Q b5 (rlC d' s') 48:=by rw [← x];exact asM
   refine ak (aA (L.m Z (ah Z (T.blk (bC ((d',s')) ⟨rfl,rfl,rfl,rfl,rfl,trivial⟩ ⟨Xr.next u asL alf asN,hP.next c p ag⟩)))))
  rintro ⟨d2,s2⟩ av ⟨hI2,al⟩
  refine aA (aO Z (bG Z Z (by (try simp only);omega) (ah Z (aP ((n+1,d2,s2)) (show (dM 10 t).length-(n+1)<(dM 10 t).length-n by omega) ⟨rfl,rfl,rfl,rfl,rfl,trivial⟩ ⟨c,hI2,al⟩))))
 refine ak (?_)
 obtain rfl:n=(dM 10 t).length:=by simp only at D;omega
 have hr:=hP.fin
 refine bn (aY Z (aj (aQ Z (L.ne Z Z (fun e5=>?_) (fun e5=>?_)))))
 ·refine ak (?_)
  have hk:¬ s.last=lU:=fun e ↦ e5 (by simp only;exact J4.2 e)
  have B:iW t = .inr (0,5):=by unfold iW;rw [if_neg omX,hr];simp only [];rw [if_neg hk]
  refine aZ (au (L.o (bU (v:=.agg dX.toArray) (parts:=[]) (vs:=[]) Z (fun w=>by kernel_rfl) (L.o (aK sizeOf48 Z Z Z (f _ hI.but) leX iC (fun R XZ ZA=>?_))))))
  replace XZ:Upd b2 i R:=XZ
  have agb:Blk R b2 dX 48:=ZA
  refine L.a Z (ah Z (eP results48 isAgg48 sizeOf48 Z Z Z Z (Row.bI agb) ⟨YD.upd XZ (.inr omX),by rw [B];rfl⟩))
 refine ak (?_)
 have hk:s.last=lU:=J4.1 (by simp only at e5;omega)
 have S:=jO hI.but.size
 obtain ⟨hc,E,U⟩:=hI.land.land hP.nm
 refine bn (T.skip (aj (au (aT Z Z (Row.bI hI.blk) (L.o (ay (xs:=[.tmp 57]) call35 Z Z (yG _ (rdC d s) (rdR d s) i hc E) (fun aw V x=>?_)))))))
 obtain ⟨rfl,GV⟩:=x
 rw [U.err]
 have YL:=YD.trans GV
 have aaE:=hI.but.trans (.dF GV)
 refine ah Z (aQ Z (L.ne Z Z (fun he=>?_) (fun he=>?_)))
 ·refine ak (?_)
  have B:iW t = .inr (0,XH s):=by unfold iW;rw [if_neg omX,hr];simp only [];rw [if_pos hk,if_neg he]
  refine aZ (au (L.o (bU (v:=.agg dX.toArray) (parts:=[]) (vs:=[]) Z (fun w=>by kernel_rfl) (aO Z (aK sizeOf48 Z Z Z (f _ aaE) leX iC (fun X adt Zb=>?_))))))
  replace adt:Upd b2 V X:=adt
  have am:Blk X b2 dX 48:=Zb
  refine L.a Z (ah Z (eP results48 isAgg48 sizeOf48 Z Z Z Z (Row.bI am) ⟨YL.upd adt (.inr omX),by rw [B];rfl⟩))
 refine ak (?_)
 have B:iW t = .inl s:=by unfold iW;rw [if_neg omX,hr];simp only [];rw [if_pos hk,if_pos omX]
 refine bn (T.skip (au (aT Z Z (Row.bI (Blk.ext hI.blk GV)) (L.o (aK sizeOf48 Z Z Z (f _ aaE) leX (lV hc E) (fun Y Qm aga=>?_))))))
 replace Qm:Upd b2 V Y:=Qm
 have akb:Blk Y b2 (fA (rdC d s) (rdR d s)) 48:=aga
 refine L.a Z (ah Z (eP results48 isAgg48 sizeOf48 Z Z Z Z (Row.bI akb) ⟨YL.upd Qm (.inr omX),by rw [B];exact ⟨rdC d s,rdR d s,rfl,((hc.ext GV).loc Qm (by rw [S];exact A)).mono omX,((E.ext GV).loc Qm (by rw [S];exact A)).mono omX,U⟩⟩))
theorem agy:∀ (ps:List Pt) (i:Nat),i<ps.length→(pcs ps)[i*2]?=some (.int .i64 (ps.getD i (0,0)).1)
 | [],_,h=>absurd h (Nat.not_lt_zero _)
 | a::r,0,_=>rfl
 | a::r,i+1,h=>by
  have e:pcs (a::r) = .int .i64 a.1 :: .int .i64 a.2::pcs r:=rfl
  rw [e,show (i+1)*2=i*2+1+1 by omega]
  exact agy r i (by simpa using h)
theorem agz:∀ (ps:List Pt) (i:Nat),i<ps.length→(pcs ps)[i*2+1]?=some (.int .i64 (ps.getD i (0,0)).2)
 | [],_,h=>absurd h (Nat.not_lt_zero _)
 | a::r,0,_=>rfl
 | a::r,i+1,h=>by
  have e:pcs (a::r) = .int .i64 a.1 :: .int .i64 a.2::pcs r:=rfl
  rw [e,show (i+1)*2+1=i*2+1+1+1 by omega]
  exact agz r i (by simpa using h)
theorem Qx (a b:List Str):bZ (a++b)=bZ a++bZ b:=by simp [bZ]
theorem sO {l rest:List Str} {t:List Str} (h:l++rest=t) (hn:(bZ t).length≤n):(bZ l).length≤n:=by
 rw [← h,Qx,List.length_append] at hn;omega
theorem alg (h:qV c r) (i:Nat):(bZ (lB c r i)).length≤1000000 :=
 sO (rest:=(c.ps.drop i).map ptL++c.fs.flatMap wX++r.us.map qA ++ [lU]) (by
  have e:c.ps.map ptL=(c.ps.take i).map ptL++(c.ps.drop i).map ptL:=by rw [← List.map_append,List.take_append_drop]
  rw [kY,lB,e];simp only [List.append_assoc]) h.len
theorem agA (h:qV c r) (i:Nat):(bZ (lC c r i)).length≤1000000 :=
 sO (rest:=(c.fs.drop i).flatMap wX++r.us.map qA ++ [lU]) (by
  have e:c.fs.flatMap wX=(c.fs.take i).flatMap wX++(c.fs.drop i).flatMap wX:=by rw [← List.flatMap_append,List.take_append_drop]
  rw [kY,lC,e];simp only [List.append_assoc]) h.len
theorem alh (h:qV c r) (j:Nat) (hi:i<c.fs.length):(bZ (lH c r i (c.fs.getD i f0) j)).length≤1000000 :=
 sO (rest:=((c.fs.getD i f0).hs.drop j).map fun h=>gy++spell h.xs) (t:=lC c r (i+1)) (by
  rw [← JC hi,lH,lH,List.take_length,List.append_assoc,← List.map_append,List.take_append_drop]) (agA h (i+1))
theorem agB (h:qV c r) (i:Nat):(bZ (lD c r i)).length≤1000000 :=
 sO (rest:=(r.us.drop i).map qA ++ [lU]) (by
  have e:r.us.map qA=(r.us.take i).map qA++(r.us.drop i).map qA:=by rw [← List.map_append,List.take_append_drop]
  rw [kY,lD,e];simp only [List.append_assoc]) h.len
theorem Af (u:UnV):spell (qU u)=spell [u.pp]++spell u.gs++spell u.vs++spell u.ps:=by simp [spell,qU]
theorem UO {u:UnV} (h:Ku (qU u)):Ku [u.pp]∧Ku u.gs∧Ku u.vs∧Ku u.ps :=
 ⟨fun x hx=>h x (by rw [List.mem_singleton.1 hx];simp [qU]),fun x hx=>h x (by simp [qU,hx]),fun x hx=>h x (by simp [qU,hx]),fun x hx=>h x (by simp [qU,hx])⟩
theorem ali (c:CxV) (r:RoV):iI++spell [r.G,r.P,r.L] ++ [10]=bZ (lB c r 0):=by simp [lB,lA,bZ]
theorem alj (hi:i<c.ps.length):bZ (lB c r i)++fC++spell [(c.ps.getD i (0,0)).1,(c.ps.getD i (0,0)).2] ++ [10]=bZ (lB c r (i+1)):=by
 rw [Xn hi,jK,ptL];simp only [List.append_assoc]
theorem alk (c:CxV) (r:RoV) (i:Nat) (f:FaV):bZ (lC c r i)++gq++spell f.o.xs ++ [10]=bZ (lH c r i f 0):=by
 have e:lH c r i f 0=lC c r i ++ [gq++spell f.o.xs]:=by simp [lH]
 rw [e,jK];simp only [List.append_assoc]
theorem alm {j:Nat} {f:FaV} (a:j<f.hs.length):bZ (lH c r i f j)++gy++spell (f.hs.getD j ⟨undef,[]⟩).xs ++ [10]=bZ (lH c r i f (j+1)):=by
 rw [Xo a,jK];simp only [List.append_assoc]
theorem aln (hi:i<r.us.length):bZ (lD c r i)++qA (r.us.getD i u0) ++ [10]=bZ (lD c r (i+1)):=by
 rw [Xp hi,jK];simp only [List.append_assoc]
theorem alo (c:CxV) (r:RoV):bZ (lD c r r.us.length) ++ [101,110,100,10]=bZ (kY c r):=by
 have e:kY c r=lD c r r.us.length ++ [lU]:=by simp [lD,kY]
 rw [e,jK];rfl
theorem jP (lo:Nat) (p:Value) (xs:List Int) (w:World) (e:Ints .i64 lo w p xs) (hn:xs.length≤1000) (hi:Ku xs) :
  Calls Tryz.prog 98 #[p] w (Ret fun v w'=>v=str (spell xs)∧Ext w w'):=by
 refine aJ (vs:=[p]) func98 Z ntmps98 Z ?_
 refine au (ah Z (au (ah Z (aj (au (ah Z (T.block (?_))))))))
 refine bf (σ:=Nat) (fun g=>[(0,p),(3,str (spell (xs.take g))),(4,.int .i64 g)]) (fun g W=>g≤xs.length∧Ext w W) (fun g=>xs.length-g) (0) ⟨rfl,rfl,rfl,trivial⟩ ⟨Nat.zero_le _,Keep.refl _ _⟩ ?_
 rintro i w1 ⟨f,b⟩
 have c:=e.ext b
 refine aj (au (aN Z Z (L.le Z (Sl.val c) (bH Z Z (fun d=>?_) (fun d=>?_)))))
 ·refine ak (?_)
  have a:i<xs.length:=by omega
  have h:(spell (xs.take i)).length≤22*1000:=by have j:=iV (xs.take i) (fun x hx ↦ hi x (List.mem_of_mem_take hx));rw [List.length_take] at j;omega
  have hx:=hi.at a
  refine aZ (T.skip (aj (T.block (aA (aO Z (bW Z Z (by show (spell (xs.take i)).length+1≤_;omega) (aN Z Z (dG Z Z c (cZ Z (Ints.at c a) (L.o (ay (xs:=[.tmp 16]) call96 Z Z (Nl (xs.getD i 0) w1 hx.1 hx.2) (fun k l n=>?_))))))))))))
  obtain ⟨rfl,NW⟩:=n
  have q:(Lib.itoa (xs.getD i 0)).length≤21:=by have:=Lib.itoa_length_le _ hx.1 hx.2;omega
  refine L.o (bW Z Z (by simp only [List.length_append,List.length_cons,List.length_nil];omega) (ah Z (T.blk (aA (L.m Z (bF Z Z (?_)))))))
  rw [show spell (xs.take i) ++ [32]++Lib.itoa (xs.getD i 0)=spell (xs.take (i+1)) by rw [G6 a];simp]
  refine ah Z (aP ((i+1)) (show xs.length-(i+1)<xs.length-i by omega) ⟨rfl,rfl,rfl,trivial⟩ ⟨a,b.trans NW⟩)
 refine ak (?_)
 obtain rfl:i=xs.length:=by omega
 rw [List.take_length]
 refine bn (aY Z (aQ Z (ah Z (aB results98 Z ⟨rfl,b⟩))))
set_option maxHeartbeats 2000000 in
theorem EJ (lo:Nat) (c:CxV) (r:RoV) (w:World) (hc:c.ok lo w) (hr:r.ok lo w) (hs:gQ c r (iq c)=0→qV c r) :
  Calls Tryz.prog 47 #[.agg (fA c r).toArray] w (Ret fun v w'=>v = .tuple #[str (kN c r (gQ c r (iq c))).1,.int .i64 (kN c r (gQ c r (iq c))).2]∧Ext w w'):=by
 refine aJ (vs:=[.agg (fA c r).toArray]) func47 Z ntmps47 Z ?_
 refine au (bM Z (fun b1 w1 aD aE f hB1=>?_))
 have l:Blk w1 b1 (fA c r) 48:=hB1
 refine L.a Z (ah Z (aj (au (aT Z Z (Row.bI l) (L.o (ay (xs:=[.tmp 12]) call35 Z Z (yG lo c r w1 (hc.ext f) (hr.ext f)) (fun v2 w2 A=>?_)))))))
 obtain ⟨rfl,B⟩:=A
 have xq:=f.trans B
 refine ah Z (aQ Z (L.ne Z Z (fun h0=>?_) (fun h0=>?_)))
 ·refine aW (aQ Z (L.a Z (ah Z (cu results47 Z Z ⟨by rw [kN,if_pos h0];rfl,xq⟩))))
 refine ak (?_)
 have hS:=hs h0
 rw [h0]
 have C:=Blk.ext (cs:=fA c r) l B
 refine bn (T.skip (au (L.fa Z (aC Z (C.cell Z) (L.fa Z (aC Z (C.cell Z) (L.fa Z (aC Z (C.cell Z) (L.o (aH (el:=3) (parts:=[(0,.tmp 19),(1,.tmp 22),(2,.tmp 25)]) (vs:=[(0,_),(1,_),(2,_)]) (cs:=([r.G,r.P,r.L].map (Value.int .i64))) Z (fun w=>by kernel_rfl) (fun ad H aaE arK GV aeQ=>?_)))))))))))
 have asO:Ints .i64 0 H (.slice (some ⟨ad,0,none⟩) 3 3) [r.G,r.P,r.L]:=Ints.bI aeQ rfl dcX lzX
 refine L.o (ay (xs:=[.tmp 26]) call98 Z Z (jP 0 _ [r.G,r.P,r.L] H asO spX hS.roll) (fun aG aI A=>?_))
 obtain ⟨rfl,WY⟩:=A
 have ae:=iV _ hS.roll
 simp only [List.length_cons,List.length_nil] at ae
 refine L.o (bW Z Z (by show 4+(spell [r.G,r.P,r.L]).length≤_;omega) (L.o (bW Z Z (by rw [List.length_append];show 4+(spell [r.G,r.P,r.L]).length+1≤_;omega) (?_))))
 have alp:=(B.trans GV).trans WY
 refine ah Z (aj (au (ah Z (T.block (?_)))))
 refine bf (σ:=Nat) (fun g=>[(1,.pointer (some ⟨b1,0,none⟩)),(5,str (bZ (lB c r g))),(6,.int .i64 g)]) (fun g W=>g≤c.ps.length∧Ext w1 W) (fun g=>c.ps.length-g) (0) ⟨rfl,?_,rfl,trivial⟩ ⟨Nat.zero_le _,alp⟩ ?_
 ·exact congrArg (fun z=>some (str z)) (ali c r)
 rintro i aL ⟨hi,zT⟩
 have aew:=hc.ext (f.trans zT)
 have aaS:=Blk.ext (cs:=fA c r) l zT
 have aM:=Sl.le aew.p
 refine aj (aQ Z (L.fa Z (aC Z (aaS.cell Z) (L.le Z (Sl.val aew.p) (bH Z Z (fun n=>?_) (fun n=>?_))))))
 ·refine ak (?_)
  have b:i<c.ps.length:=by omega
  have af:c.ps.getD i (0,0)∈c.ps:=by rw [aX b];exact List.getElem_mem b
  have hj:=alg hS i
  have I:=hS.pts _ af
  have ag:=iV _ I
  simp only [List.length_cons,List.length_nil] at ag
  refine aZ (T.skip (aj (T.block (?_))))
  refine dn mixed 18 [5,1,6] Z [.is _,.is _,.is _,.is _,.is _,.is _,.is _,.is _,.is _,.is _,.is _,.is _,.is _,.is _,.is _,.is _,.such (zS [(c.ps.getD i (0,0)).1,(c.ps.getD i (0,0)).2]),.is (str (spell [(c.ps.getD i (0,0)).1,(c.ps.getD i (0,0)).2]))] [[],[0],[],[2],[3],[],[4,5],[6],[7],[],[9],[10],[],[11,12],[13],[14],[8,15],[16]] ⟨zS.st,trivial⟩ ⟨fun d hx=>aF rfl,
    fun d hx=>Ob.o (bW Z Z (by show (bZ (lB c r i)).length+5≤_;omega) kR),
    fun d hx=>Ob.fa rfl,
    fun d hx=>Ob.fa rfl,
    fun d hx=>aS rfl ((Blk.ext (cs:=fA c r) aaS hx).cell rfl),
    fun d hx=>aF rfl,
    fun d hx=>bQ rfl rfl ((aew.ext hx).p),
    fun d hx=>Ob.fa rfl,
    fun d hx=>aS rfl (Sl.at (aew.ext hx).p (agy c.ps i b)),
    fun d hx=>Ob.fa rfl,
    fun d hx=>Ob.fa rfl,
    fun d hx=>aS rfl ((Blk.ext (cs:=fA c r) aaS hx).cell rfl),
    fun d hx=>aF rfl,
    fun d hx=>bQ rfl rfl ((aew.ext hx).p),
    fun d hx=>Ob.fa rfl,
    fun d hx=>aS rfl (Sl.at (aew.ext hx).p (agz c.ps i b)),
    fun d hx=>Ob.o (aH (el:=3) (parts:=[(0,.tmp 46),(1,.tmp 53)]) (vs:=[(0,_),(1,_)]) (cs:=([(c.ps.getD i (0,0)).1,(c.ps.getD i (0,0)).2].map (Value.int .i64))) Z (fun w=>by kernel_rfl) (fun aN aR auN auO ai ajN=>⟨ai,Ints.bI ajN Z dcX lzX⟩)),
    fun d hx J anI=>Ob.o (ay (xs:=[.tmp 54]) call98 Z Z (jP 0 J [(c.ps.getD i (0,0)).1,(c.ps.getD i (0,0)).2] d anI spX I) (fun v wy h=>⟨h.2,h.1⟩)),
    trivial⟩ (fun w8 D J anI=>?_)
  refine L.o (bW Z Z (by rw [List.length_append];show (bZ (lB c r i)).length+5+(spell [(c.ps.getD i (0,0)).1,(c.ps.getD i (0,0)).2]).length≤_;omega) (L.o (bW Z Z (by rw [List.length_append,List.length_append];show (bZ (lB c r i)).length+5+(spell [(c.ps.getD i (0,0)).1,(c.ps.getD i (0,0)).2]).length+1≤_;omega) (ah Z (T.blk (aA (L.m Z (bF Z Z (ah Z (aP ((i+1)) (show c.ps.length-(i+1)<c.ps.length-i by omega) ⟨rfl,?_,rfl,trivial⟩ ⟨b,zT.trans D⟩))))))))))
  ·exact congrArg (fun z=>some (str z)) (alj b)
 refine ak (?_)
 obtain rfl:i=c.ps.length:=by omega
 have al:lB c r c.ps.length=lC c r 0:=by simp [lB,lC]
 rw [al]
 refine bn (aY Z (aj (au (ah Z (T.block (?_))))))
 refine bf (σ:=Nat) (fun g=>[(1,.pointer (some ⟨b1,0,none⟩)),(5,str (bZ (lC c r g))),(7,.int .i64 g)]) (fun g W=>g≤c.fs.length∧Ext w1 W) (fun g=>c.fs.length-g) (0) ⟨rfl,rfl,rfl,trivial⟩ ⟨Nat.zero_le _,zT⟩ ?_
 rintro i am ⟨aV,FV⟩
 have YJ:=hc.ext (f.trans FV)
 have anJ:=Blk.ext (cs:=fA c r) l FV
 have a0:=Sl.le YJ.sl
 refine aj (aQ Z (L.fa Z (aC Z (anJ.cell Z) (L.le Z (Sl.val YJ.sl) (bH Z Z (fun n=>?_) (fun n=>?_))))))
 ·refine ak (?_)
  have b:i<c.fs.length:=by omega
  have K:c.fs.getD i f0∈c.fs:=by rw [aX b];exact List.getElem_mem b
  have q:=YJ.at b
  have hj:=agA hS i
  refine aZ (T.skip (aj (T.block (au (L.fa Z (aC Z (anJ.cell Z) (L.m Z (dG Z Z YJ.sl (aT Z Z (YJ.row b) (L.o (O.alloc zeroValue127 (fun b8 w8 a1 a2 D an=>?_))))))))))))
  refine L.o (aK sizeOf127 Z Z Z an leX (Gv q) (fun s QH EP=>?_))
  have M:Blk s b8 (c.fs.getD i f0).cells 127:=EP
  have RS:Ext am s:=D.upd QH (.inr omX)
  obtain ⟨oa,cp,N,_,_⟩:=Sl.val q.o
  obtain ⟨Q,a3,ao⟩:=hS.rim _ K
  have a4:=iV _ Q
  refine ak (au (aO Z (bW Z Z (by show (bZ (lC c r i)).length+4≤_;omega) (aC Z (show s.cell? ⟨b8,0,none⟩=some (.slice oa (c.fs.getD i f0).o.xs.length cp) from by rw [← N];exact M.cell rfl) (L.o (ay (xs:=[.tmp 75]) call98 Z Z (jP 0 _ (c.fs.getD i f0).o.xs s (N▸(q.ext RS).o.mono lzX) ao Q) (fun v76 ap A=>?_)))))))
  obtain ⟨rfl,ahE⟩:=A
  refine L.o (bW Z Z (by rw [List.length_append];show (bZ (lC c r i)).length+4+(spell (c.fs.getD i f0).o.xs).length≤_;omega) (L.o (bW Z Z (by rw [List.length_append,List.length_append];show (bZ (lC c r i)).length+4+(spell (c.fs.getD i f0).o.xs).length+1≤_;omega) (?_))))
  have agC:=RS.trans ahE
  have asP:=Blk.ext (cs:=(c.fs.getD i f0).cells) M ahE
  refine ah Z (au (ah Z (T.block (?_))))
  refine bf (σ:=Nat) (fun g=>[(1,.pointer (some ⟨b1,0,none⟩)),(5,str (bZ (lH c r i (c.fs.getD i f0) g))),(7,.int .i64 i),(8,.pointer (some ⟨b8,0,none⟩)),(9,.int .i64 g)]) (fun g W=>g≤(c.fs.getD i f0).hs.length∧Ext ap W) (fun g=>(c.fs.getD i f0).hs.length-g) (0) ⟨rfl,?_,rfl,rfl,rfl,trivial⟩ ⟨Nat.zero_le _,Keep.refl _ _⟩ ?_
  ·exact congrArg (fun z=>some (str z)) (alk c r i (c.fs.getD i f0))
  rintro j aq ⟨a5,Yl⟩
  have abE:=agC.trans Yl
  have UQ:=q.ext abE
  have anK:=Blk.ext (cs:=(c.fs.getD i f0).cells) asP Yl
  have a6:=Sl.le UQ.sl
  refine aj (aQ Z (aC Z (anK.cell Z) (L.le Z (Sl.val UQ.sl) (bH Z Z (fun R=>?_) (fun R=>?_)))))
  ·refine ak (?_)
   have k:j<(c.fs.getD i f0).hs.length:=by omega
   have E:(c.fs.getD i f0).hs.getD j ⟨undef,[]⟩∈(c.fs.getD i f0).hs:=by rw [aX k];exact List.getElem_mem k
   obtain ⟨S,a7,ar⟩:=hS.hole _ K _ E
   have a8:=alh hS j b
   have a9:=iV _ S
   refine aZ (T.skip (aj (T.block (aA (aO Z (bW Z Z (by show (bZ (lH c r i (c.fs.getD i f0) j)).length+4≤_;omega) (aC Z (anK.cell Z) (L.m Z (dG Z Z UQ.sl (?_))))))))))
   obtain ⟨ob,cq,afP,_,_⟩:=Sl.val (UQ.hs _ E)
   refine cZ Z (show _=some (.slice ob ((c.fs.getD i f0).hs.getD j ⟨undef,[]⟩).xs.length cq) from by rw [← afP,Int.toNat_natCast,Nat.mul_one];exact Sl.cell UQ.sl (show (dw (c.fs.getD i f0).hs)[j]?=some ((c.fs.getD i f0).hs.getD j ⟨undef,[]⟩).v by rw [dw,List.getElem?_map,List.getElem?_eq_getElem k,aX k];rfl)) (L.o (ay (xs:=[.tmp 92]) call98 Z Z (jP 0 _ ((c.fs.getD i f0).hs.getD j ⟨undef,[]⟩).xs aq (afP▸(UQ.hs _ E).mono lzX) ar S) (fun ba bb A=>?_)))
   obtain ⟨rfl,alq⟩:=A
   refine L.o (bW Z Z (by rw [List.length_append];show (bZ (lH c r i (c.fs.getD i f0) j)).length+4+(spell ((c.fs.getD i f0).hs.getD j ⟨undef,[]⟩).xs).length≤_;omega) (L.o (bW Z Z (by rw [List.length_append,List.length_append];show (bZ (lH c r i (c.fs.getD i f0) j)).length+4+(spell ((c.fs.getD i f0).hs.getD j ⟨undef,[]⟩).xs).length+1≤_;omega) (ah Z (T.blk (aA (L.m Z (bF Z Z (ah Z (aP ((j+1)) (show (c.fs.getD i f0).hs.length-(j+1)<(c.fs.getD i f0).hs.length-j by omega) ⟨rfl,?_,rfl,rfl,rfl,trivial⟩ ⟨k,Yl.trans alq⟩))))))))))
   ·exact congrArg (fun z=>some (str z)) (alm k)
  refine ak (?_)
  have e:j=(c.fs.getD i f0).hs.length:=by omega
  rw [e,JC b]
  refine bn (aY Z (T.blk (aA (L.m Z (bF Z Z (ah Z (aP ((i+1)) (show c.fs.length-(i+1)<c.fs.length-i by omega) ⟨rfl,rfl,rfl,trivial⟩ ⟨b,FV.trans abE⟩)))))))
 refine ak (?_)
 obtain rfl:i=c.fs.length:=by omega
 have av:lC c r c.fs.length=lD c r 0:=by simp [lC,lD]
 rw [av]
 refine bn (aY Z (aj (au (ah Z (T.block (?_))))))
 refine bf (σ:=Nat) (fun g=>[(1,.pointer (some ⟨b1,0,none⟩)),(5,str (bZ (lD c r g))),(10,.int .i64 g)]) (fun g W=>g≤r.us.length∧Ext w1 W) (fun g=>r.us.length-g) (0) ⟨rfl,rfl,rfl,trivial⟩ ⟨Nat.zero_le _,FV⟩ ?_
 rintro i U ⟨bc,Nv⟩
 have F:Units lo U r.uv r.us:=hr.ext (f.trans Nv)
 have anL:=Blk.ext (cs:=fA c r) l Nv
 have bd:=Sl.le F.sl
 refine aj (aQ Z (L.fa Z (aC Z (anL.cell Z) (L.le Z (Sl.val F.sl) (bH Z Z (fun n=>?_) (fun n=>?_))))))
 ·refine ak (?_)
  have b:i<r.us.length:=by omega
  have aw:r.us.getD i u0∈r.us:=by rw [aX b];exact List.getElem_mem b
  have t:=F.at b
  obtain ⟨ax,az,be⟩:=hS.unit _ aw
  have hj:=agB hS i
  obtain ⟨p1,p2,p3,p4⟩:=UO ax
  have q1:=iV _ p1
  have q2:=iV _ p2
  have q3:=iV _ p3
  have q4:=iV _ p4
  have auP:1+(r.us.getD i u0).gs.length+(r.us.getD i u0).vs.length+(r.us.getD i u0).ps.length≤1000:=by simp only [qU,List.length_cons,List.length_append] at az;omega
  simp only [List.length_cons,List.length_nil] at q1
  refine aZ (T.skip (aj (T.block (au (L.fa Z (aC Z (anL.cell Z) (L.m Z (dG Z Z F.sl (aT Z Z (F.row b) (L.o (O.alloc zeroValue51 (fun u bg aea Yy iK rD=>?_))))))))))))
  refine L.o (aK sizeOf51 Z Z Z rD leX t.one (fun V QK Ou=>?_))
  have YK:Blk V u (r.us.getD i u0).cells 51:=Ou
  have RX:Ext U V:=iK.upd QK (.inr omX)
  obtain ⟨o1,c1,X,_,_⟩:=Sl.val t.g
  obtain ⟨o2,c2,Y,_,_⟩:=Sl.val t.v
  obtain ⟨o3,c3,aa,_,_⟩:=Sl.val t.p
  have adN:=(F.ext RX).at b
  refine ak (aj (?_))
  refine dn mixed 21 [5,11] Z [.is _,.is _,.is _,.is _,.is _,.is _,.is _,.such (zS [(r.us.getD i u0).pp]),.is (str (spell [(r.us.getD i u0).pp])),.is _,.is _,.is _,.is (str (spell (r.us.getD i u0).gs)),.is _,.is _,.is _,.is (str (spell (r.us.getD i u0).vs)),.is _,.is _,.is _,.is (str (spell (r.us.getD i u0).ps))] [[],[0],[],[2],[1,3],[],[5],[6],[7],[4,8],[],[10],[11],[9,12],[],[14],[15],[13,16],[],[18],[19]] ⟨zS.st,trivial⟩ ⟨fun d hx=>aF rfl,
    fun d hx=>Ob.o (bW Z Z (by show (bZ (lD c r i)).length+5≤_;omega) kR),
    fun d hx=>Ob.fa rfl,
    fun d hx=>aS rfl ((Blk.ext (cs:=(r.us.getD i u0).cells) YK hx).cell rfl),
    fun d hx=>Ob.o (bW Z Z (by rw [List.length_append];show (bZ (lD c r i)).length+5+(r.us.getD i u0).nm.length≤_;omega) kR),
    fun d hx=>Ob.fa rfl,
    fun d hx=>aS rfl ((Blk.ext (cs:=(r.us.getD i u0).cells) YK hx).cell rfl),
    fun d hx=>Ob.o (aH (el:=3) (parts:=[(0,.tmp 116)]) (vs:=[(0,_)]) (cs:=[.int .i64 (r.us.getD i u0).pp]) Z (fun w=>by kernel_rfl) (fun aqT abv ajX bh JE XM=>⟨JE,Ints.bI XM Z dcX lzX⟩)),
    fun d hx y agD=>Ob.o (ay (xs:=[.tmp 117]) call98 Z Z (jP 0 y [(r.us.getD i u0).pp] d agD spX p1) (fun v wy h=>⟨h.2,h.1⟩)),
    fun d hx=>Ob.o (bW Z Z (by rw [List.length_append,List.length_append];show (bZ (lD c r i)).length+5+(r.us.getD i u0).nm.length+(spell [(r.us.getD i u0).pp]).length≤_;omega) kR),
    fun d hx=>Ob.fa rfl,
    fun d hx=>aS rfl (show d.cell? ⟨u,2,none⟩=some (.slice o1 (r.us.getD i u0).gs.length c1) from by rw [← X];exact (Blk.ext (cs:=(r.us.getD i u0).cells) YK hx).cell rfl),
    fun d hx=>Ob.o (ay (xs:=[.tmp 121]) call98 Z Z (jP 0 _ (r.us.getD i u0).gs d (X▸(adN.ext hx).g.mono lzX) omX p2) (fun v wy h=>⟨h.2,h.1⟩)),
    fun d hx=>Ob.o (bW Z Z (by rw [List.length_append,List.length_append,List.length_append];show (bZ (lD c r i)).length+5+(r.us.getD i u0).nm.length+(spell [(r.us.getD i u0).pp]).length+(spell (r.us.getD i u0).gs).length≤_;omega) kR),
    fun d hx=>Ob.fa rfl,
    fun d hx=>aS rfl (show d.cell? ⟨u,3,none⟩=some (.slice o2 (r.us.getD i u0).vs.length c2) from by rw [← Y];exact (Blk.ext (cs:=(r.us.getD i u0).cells) YK hx).cell rfl),
    fun d hx=>Ob.o (ay (xs:=[.tmp 125]) call98 Z Z (jP 0 _ (r.us.getD i u0).vs d (Y▸(adN.ext hx).v.mono lzX) omX p3) (fun v wy h=>⟨h.2,h.1⟩)),
    fun d hx=>Ob.o (bW Z Z (by rw [List.length_append,List.length_append,List.length_append,List.length_append];show (bZ (lD c r i)).length+5+(r.us.getD i u0).nm.length+(spell [(r.us.getD i u0).pp]).length+(spell (r.us.getD i u0).gs).length+(spell (r.us.getD i u0).vs).length≤_;omega) kR),
    fun d hx=>Ob.fa rfl,
    fun d hx=>aS rfl (show d.cell? ⟨u,4,none⟩=some (.slice o3 (r.us.getD i u0).ps.length c3) from by rw [← aa];exact (Blk.ext (cs:=(r.us.getD i u0).cells) YK hx).cell rfl),
    fun d hx=>Ob.o (ay (xs:=[.tmp 129]) call98 Z Z (jP 0 _ (r.us.getD i u0).ps d (aa▸(adN.ext hx).p.mono lzX) omX p4) (fun v wy h=>⟨h.2,h.1⟩)),
    trivial⟩ (fun aB qF y agD=>?_)
  refine L.o (bW Z Z (by rw [List.length_append,List.length_append,List.length_append,List.length_append,List.length_append];show (bZ (lD c r i)).length+5+(r.us.getD i u0).nm.length+(spell [(r.us.getD i u0).pp]).length+(spell (r.us.getD i u0).gs).length+(spell (r.us.getD i u0).vs).length+(spell (r.us.getD i u0).ps).length≤_;omega) (?_))
  have asQ:=Blk.ext (cs:=(r.us.getD i u0).cells) YK qF
  have agE:=RX.trans qF
  refine ah Z (aj (au (aC Z (asQ.cell Z) (ak (?_)))))
  refine dS (σ:=Unit) (fun _=>[(1,.pointer (some ⟨b1,0,none⟩)),(5,str (bZ (lD c r i)++qA (r.us.getD i u0))),(10,.int .i64 i)]) (fun _ w'=>w'=aB) ?_ ?_
  ·rcases ab:(r.us.getD i u0).wt with _|_
   ·refine bn (T.skip (bC (()) ⟨rfl,?_,rfl,trivial⟩ Z))
    ·exact congrArg (fun z=>some (str z)) (by rw [qA,ab,Af];simp [PO])
   refine aZ (aA (aO Z (bW Z Z (by simp only [List.length_append,List.length_cons,List.length_nil];omega) (ah Z (bC (()) ⟨rfl,?_,rfl,trivial⟩ Z)))))
   ·exact congrArg (fun z=>some (str z)) (by rw [qA,ab,Af];simp [PO,G7])
  rintro _ aqk rfl
  have bi:(qA (r.us.getD i u0)).length≤100000:=by
   have e:=Af (r.us.getD i u0)
   rw [qA,e]
   simp only [List.length_append]
   have:PO.length=5:=rfl
   have:(if (r.us.getD i u0).wt=true then G7 else []).length≤6:=by split <;> simp [G7]
   omega
  refine aA (aO Z (bW Z Z (by rw [List.length_append];show (bZ (lD c r i)).length+(qA (r.us.getD i u0)).length+1≤_;omega) (ah Z (T.blk (aA (L.m Z (bF Z Z (ah Z (aP ((i+1)) (show r.us.length-(i+1)<r.us.length-i by omega) ⟨rfl,?_,rfl,trivial⟩ ⟨b,Nv.trans agE⟩)))))))))
  ·exact congrArg (fun z=>some (str z)) (aln b)
 refine ak (?_)
 obtain rfl:i=r.us.length:=by omega
 have hj:=agB hS r.us.length
 refine bn (aY Z (au (aO Z (bW Z Z (by show (bZ (lD c r r.us.length)).length+4≤_;omega) (?_)))))
 rw [alo]
 refine ah Z (aj (au (aO Z (dB runUnderlying9 Z (dY Z Z (fun ac=>?_) (fun ac=>?_))))))
 ·refine aW (fK Z (ah Z (cu results47 Z Z ⟨by rw [kN,if_neg (fun x=>x rfl),if_pos omX];rfl,f.trans Nv⟩)))
 refine aU (T.skip (aQ Z (L.a Z (ah Z (cu results47 Z Z ⟨by rw [kN,if_neg (fun x=>x rfl),if_neg omX],f.trans Nv⟩)))))
def zc:CxV:=⟨.slice none 0 0,[],.slice none 0 0,[]⟩
def zr:RoV:=⟨0,0,0,.slice none 0 0,[]⟩
theorem agF (lo:Nat) (w:World):zc.ok lo w:=⟨Sl.nil _ _ _,Sl.nil _ _ _,fun f hf=>(by cases hf)⟩
theorem agG (lo:Nat) (w:World):zr.ok lo w:=⟨Sl.nil _ _ _,fun u a=>(by cases a)⟩
theorem agH:Says zc zr PS0:=⟨rfl,rfl,rfl,rfl,rfl,rfl⟩
def Ia (c:CxV) (r r2:RoV) (i:Nat):CxV × RoV:=[(c,r),(c,r2),(zc,zr)].getD i (c,r)
theorem UR {r2:RoV} (hi:i<3):((fA c r++fA c r2++dX).drop ((i:Int).toNat*6)).take 6=fA (Ia c r r2 i).1 (Ia c r r2 i).2:=by
 rcases (show i=0∨i=1∨i=2 by omega) with rfl|rfl|rfl <;> rfl
theorem Ym {r2:RoV} (b:c.ok 0 w) (d:r.ok 0 w) (a:r2.ok 0 w) (hi:i<3):(Ia c r r2 i).1.ok 0 w∧(Ia c r r2 i).2.ok 0 w:=by
 rcases (show i=0∨i=1∨i=2 by omega) with rfl|rfl|rfl
 ·exact ⟨b,d⟩
 ·exact ⟨b,a⟩
 exact ⟨agF 0 w,agG 0 w⟩
def PzA (v:Value) (_:World):Prop:=∃ z:Str,v=str z∧z.length≤1000000
theorem PzA.st:∀ v w w',Ext w w'→PzA v w→PzA v w':=fun _ _ _ _ h=>h
def PzB (v:Value) (_:World):Prop:=∃ z:Str,v=str z∧z.length≤400000
theorem PzB.st:∀ v w w',Ext w w'→PzB v w→PzB v w':=fun _ _ _ _ h=>h
def PzT (v:Value) (_:World):Prop:=∃ a b c d e:Str,v = .agg #[str a,str b,str c,str d,str e]∧∀ i,i<5→∃ z:Str,(#[str a,str b,str c,str d,str e]:Array Value)[((i:Nat):Int).toNat]?=some (str z)∧z.length≤1000000
theorem PzT.st:∀ v w w',Ext w w'→PzT v w→PzT v w':=fun _ _ _ _ h=>h
theorem agI {a b c d e:Str} (ha:a.length≤1000000) (hb:b.length≤1000000) (f:c.length≤1000000) (g:d.length≤1000000) (h:e.length≤1000000) : PzT (.agg #[str a,str b,str c,str d,str e]) w:=by
 refine ⟨a,b,c,d,e,rfl,fun i hi=>?_⟩
 rcases (show i=0∨i=1∨i=2∨i=3∨i=4 by omega) with rfl|rfl|rfl|rfl|rfl
 ·exact ⟨a,rfl,ha⟩
 ·exact ⟨b,rfl,hb⟩
 ·exact ⟨c,rfl,f⟩
 ·exact ⟨d,rfl,g⟩
 exact ⟨e,rfl,h⟩
theorem UU (c:CxV) (r:RoV) (e:Int):(kN c r e).1.length≤40000:=by
 unfold kN
 split
 ·exact Nat.zero_le _
 split
 ·exact Nat.zero_le _
 show (bZ (kY c r)).length≤40000;omega
noncomputable def alr (q:PS ⊕ (Int × Int)):PS × Int × Int:=match q with
 | .inl s=>(s,0,0)
 | .inr (n,e)=>(PS0,n,e)
def asR (q:PS ⊕ (Int × Int)) (v:Value) (w:World):Prop:=∃ c r,v = .tuple #[.agg (fA c r).toArray,.int .i64 (alr q).2.1,.int .i64 (alr q).2.2]∧c.ok 0 w∧r.ok 0 w∧Says c r (alr q).1∧∀ f∈c.fs,f.hs.length≤100000
theorem Yn (h:iW t = .inl s):XH s=0:=by
 unfold iW at h
 split at h
 ·cases h
 split at h
 ·cases h
 split at h
 ·split at h
  ·cases h;assumption
  cases h
 cases h
theorem Og (h:gQ c r (iq c)=0):iq c=false:=by
 cases hb:iq c with
 | false=>rfl
 | true=>rw [hb] at h;simp [gQ] at h
theorem Ht.gen {lo:Nat} (h:Ht (iW t) lo v w):asR (iW t) v w:=by
 cases a:iW t with
 | inl s =>
  rw [a] at h
  obtain ⟨c,r,rfl,b,d,hs⟩:=h
  exact ⟨c,r,rfl,b.mono lzX,d.mono lzX,hs,Qr (Og (r:=r) (by rw [hs.err,Yn a]))⟩
 | inr q =>
  obtain ⟨n,e⟩:=q
  rw [a] at h
  exact ⟨zc,zr,h,agF _ _,agG _ _,agH,fun f hf=>(by cases hf)⟩
theorem Oh (lo:Nat) (d:Dr) (w:World) (n:d.ok lo w) :
  Calls Tryz.prog 39 #[d.val] w (Ret fun v w'=>Ext w w'∧∃ r:RoV,v=r.val∧r.ok w.heap.size w'):=by
 refine aJ (vs:=[d.val]) func39 Z ntmps39 Z ?_
 refine au (bM Z (fun b1 w1 p q i hB1=>?_))
 refine L.o (O.alloc zeroValue25 (fun b2 j s t b hB2=>?_))
 have xq:=i.trans b
 have hD2:Blk j b1 d.cells 59:=Blk.ext (cs:=d.cells) hB1 b
 have e:Blk j b2 abQ 25:=hB2
 have f:=e.lt
 refine ak (au (aT Z Z hD2.row (L.o (ay (xs:=[.tmp 3]) call22 Z Z (AO lo d j (n.ext xq)) (fun v3 u x=>?_)))))
 obtain ⟨g,c,r,rfl,_,h,_⟩:=x
 refine L.o (IG (vs:=[.int .i64 r.G,.int .i64 r.P,.int .i64 r.L,r.uv]) runUnderlying48 Z isAgg25 sizeOf25 Z Z (L.o (aK sizeOf25 Z Z Z (e.ext g) leX (EG r h.one) (fun m a k=>?_))))
 replace a:Upd b2 u m:=a
 have l:Blk m b2 r.cells 25:=k
 refine ak (jZ results39 isAgg25 sizeOf25 Z Z l.row ⟨(xq.trans g).upd a (.inr omX),r,rfl,(h.loc a f).mono xq.size⟩)
set_option maxHeartbeats 4000000 in
theorem yY (d d2:Dr) (x0 x1 x2:EdV) (t:Str) (w:World) (hd:d.ok 0 w) (al:d2.ok 0 w) (E:x0.ok) (am:x1.ok) (an:x2.ok) (ht:t.length≤9223372036854775807) (hL:sF w) :
  Calls Tryz.prog 7 #[d.val,d2.val,.agg (x0.cells++x1.cells++x2.cells).toArray,str t] w (Ret fun v w'=>v = .bool true∧Ext w w'):=by
 refine aJ (vs:=[d.val,d2.val,.agg (x0.cells++x1.cells++x2.cells).toArray,str t]) func7 Z ntmps7 Z ?_
 refine au (bM Z (fun b4 w4 a8 a9 ao ap=>?_))
 refine bM Z (fun b5 w5 ba F G aq=>?_)
 refine bM Z (fun b6 w6 bb bc B ar=>?_)
 have l:=(ao.trans G).trans B
 have hD:Blk w6 b4 d.cells 59:=Blk.ext (cs:=d.cells) ap (G.trans B)
 have hD2:Blk w6 b5 d2.cells 59:=Blk.ext (cs:=d2.cells) aq B
 have hE:Blk w6 b6 (x0.cells++x1.cells++x2.cells) 99:=ar
 refine ah Z (aj (au (L.o (ay (xs:=[]) call10 Z Z (Qq w6 (hL.ext l)) (fun bd av f=>?_)))))
 obtain ⟨rfl,WY⟩:=f
 have als:=l.trans WY
 refine bT Z (aU (T.skip (au (aT Z Z (Row.bI (Blk.ext (cs:=d.cells) hD WY)) (L.o (ay (xs:=[.tmp 29]) call22 Z Z (AO 0 d av (hd.ext als)) (fun be H f=>?_)))))))
 obtain ⟨ER,c,r,rfl,I,J,bg,bh,bi,bj⟩:=f
 replace I:=I.mono lzX
 replace J:=J.mono lzX
 refine L.o (O.alloc zeroValue48 (fun K w9 bk bl aw ax=>?_))
 refine L.o (aK sizeOf48 Z Z Z ax leX (lV I J) (fun n sD Ue=>?_))
 replace sD:Upd K w9 n:=sD
 have agx:Blk n K (fA c r) 48:=Ue
 have Oi:Ext H n:=aw.upd sD (.inr omX)
 have M:=I.ext Oi
 have asT:=J.ext Oi
 refine ak (au (aT Z Z (Row.bI agx) (L.o (O.alloc zeroValue48 (fun g az aeO aaQ jf EP=>?_)))))
 refine L.o (aK sizeOf48 Z Z Z EP leX (lV M asT) (fun p Qm aga=>?_))
 replace Qm:Upd g az p:=Qm
 have anM:Blk p g (fA c r) 48:=aga
 have Yo:Ext n p:=jf.upd Qm (.inr omX)
 have asU:=Blk.ext (cs:=fA c r) agx Yo
 have agJ:=(WY.trans ER).trans (Oi.trans Yo)
 have Qk:=l.trans agJ
 refine ak (au (aT Z Z (Row.bI (Blk.ext (cs:=d2.cells) hD2 agJ)) (L.o (ay (xs:=[.tmp 32]) call39 Z Z (Oh 0 d2 p (al.ext Qk)) (fun bm aC f=>?_)))))
 obtain ⟨Vw,r2,rfl,N⟩:=f
 refine L.fa Z (L.o (Dc sizeOf25 Z Z Z (Blk.ext (cs:=fA c r) anM Vw) (by show 2+4≤6;decide) (EG r2 N.one) (fun e agK asV=>?_)))
 replace agK:Upd g aC e:=agK
 have asW:Blk e g (fA c r2) 48:=asV
 have alu:=Blk.lt (cs:=fA c r) anM
 have apY:=Oi.size
 have Yp:Ext H e:=((Oi.trans Yo).trans Vw).upd agK (.inr omX)
 have alv:r2.ok 0 e:=(N.loc agK alu).mono lzX
 have A:=I.ext Yp
 have anN:=J.ext Yp
 have alx:K≠g:=by have:=Blk.lt (cs:=fA c r) agx;omega
 have anO:Blk e K (fA c r) 48:=Blk.upd (cs:=fA c r) (Blk.ext (cs:=fA c r) asU Vw) agK alx
 have agL:=(WY.trans ER).trans Yp
 have agM:=l.trans agL
 have asX:=Blk.ext (cs:=x0.cells++x1.cells++x2.cells) hE agL
 have P:∀ W,Ext e W→sF W:=fun W h ↦ hL.ext (agM.trans h)
 refine ak (aj (au (aT Z Z (Row.bI (cs:=fA c r) anO) (aT Z Z (Row.bI (cs:=fA c r2) asW) (L.o (bU (v:=.agg dX.toArray) (parts:=[]) (vs:=[]) Z (fun w=>by kernel_rfl) (L.o (bU (v:=.agg (fA c r++fA c r2++dX).toArray) (parts:=[(0,.tmp 35),(1,.tmp 36),(2,.tmp 37)]) (vs:=[(0,_),(1,_),(2,_)]) Z (fun w=>by kernel_rfl) (L.m Z (ak (T.block (?_))))))))))))
 refine bf (σ:=Nat) (fun i=>[(3,str t),(6,.pointer (some ⟨b6,0,none⟩)),(9,.pointer (some ⟨K,0,none⟩)),(38,.agg (fA c r++fA c r2++dX).toArray),(39,.int .i64 i)]) (fun i w'=>i≤3∧Ext e w') (fun i=>3-i) (0) ⟨rfl,rfl,rfl,rfl,rfl,trivial⟩ ⟨Nat.zero_le _,Keep.refl _ _⟩ ?_
 rintro i Q ⟨hi,ES⟩
 refine au (bH Z Z (fun aD=>?_) (fun aD=>?_))
 ·refine ak (?_)
  have j:i<3:=by omega
  have R:=UR (c:=c) (r:=r) (r2:=r2) j
  obtain ⟨q,s⟩:=Ym (A.ext ES) (anN.ext ES) (alv.ext ES) j
  obtain ⟨c',U⟩:∃ c',c'=(Ia c r r2 i).1:=⟨_,rfl⟩
  obtain ⟨r',V⟩:∃ r',r'=(Ia c r r2 i).2:=⟨_,rfl⟩
  rw [← U,← V] at R
  rw [← U] at q
  rw [← V] at s
  refine aj (aZ (T.skip (aj (T.block (au (L.o (qI runUnderlying100 isAgg48 sizeOf48 Z Z omX omX R (L.o (O.alloc zeroValue48 (fun X aE adY adX jD Lp=>?_))))))))))
  refine L.o (aK sizeOf48 Z Z Z Lp leX (lV q s) (fun u aly asY=>?_))
  replace aly:Upd X aE u:=aly
  have anP:Blk u X (fA c' r') 48:=asY
  have SA:Ext Q u:=jD.upd aly (.inr omX)
  refine ak (au (aT Z Z (Row.bI anP) (L.o (ay (xs:=[.tmp 43]) call19 Z Z (G8 0 c' r' u (q.ext SA) (s.ext SA) (P _ (ES.trans SA)) BR) (fun bo aG f=>?_)))))
  obtain ⟨rfl,aev⟩:=f
  have Yq:=SA.trans aev
  refine L.m Z (bK Z Z (bK Z Z (L.a Z (ah Z (au (aT Z Z (Row.bI (Blk.ext (cs:=fA c' r') anP aev)) (L.o (ay (xs:=[.tmp 48]) call47 Z Z (EJ 0 c' r' aG (q.ext Yq) (s.ext Yq) BR) (fun bp bq f=>?_)))))))))
  obtain ⟨rfl,acs⟩:=f
  refine L.m Z (bK Z Z (bK Z Z (L.a Z (ah Z (au (aN Z Z (L.o (Fe runUnderlying9 Z Z Z (aN Z Z (aO Z (fP Z Z Z (aI Z (aU (T.skip (T.blk (aA (bF Z Z (L.m Z (ak (?_))))))))))))))))))))
  refine aP (i+1) omX ⟨rfl,rfl,rfl,rfl,rfl,trivial⟩ ⟨j,ES.trans (Yq.trans acs)⟩
 refine ak (aj (bn (aY Z (au (aT Z Z (Row.bI (Blk.ext (cs:=fA c r) anO ES)) (L.o (ay (xs:=[.tmp 62]) call47 Z Z (EJ 0 c r Q (A.ext ES) (anN.ext ES) BR) (fun br bs f=>?_))))))))
 obtain ⟨rfl,asZ⟩:=f
 obtain ⟨S,hS⟩:∃ S,S=(kN c r (gQ c r (iq c))).1:=⟨_,rfl⟩
 have hSl:S.length≤40000:=by rw [hS];exact UU _ _ _
 rw [← hS]
 have Oj:=ES.trans asZ
 have x:∀ W,Ext e W→Blk W b6 (x0.cells++x1.cells++x2.cells) 99:=fun W h ↦ Blk.ext (cs:=x0.cells++x1.cells++x2.cells) asX h
 refine L.m Z (bK Z Z (bK Z Z (L.a Z (ah Z (aj (aj (?_)))))))
 refine dn mixed 23 [17,6,3] Z [.is _,.is _,.is _,.is _,.such PzB,.is _,.is _,.is _,.is _,.is _,.such PzB,.such PzA,.is _,.is _,.is _,.such PzB,.is _,.is _,.is _,.is (.int .i64 ((min t.length 45000:Nat):Int)),.is (str (t.take (min t.length 45000))),.such PzT,.is _] [[],[],[1],[],[2,3],[],[5],[],[7],[],[8,9],[6,10],[],[12],[],[13,14],[],[],[17],[18],[16,19],[0,4,11,15,20],[]] ⟨PzB.st,PzB.st,PzA.st,PzB.st,PzT.st,trivial⟩ ⟨fun b hx=>aF rfl,
   fun b hx=>Ob.o (gV runUnderlying99 sizeOf89 Z Z dcX dcX kR),
   fun b hx=>bJ rfl rfl (Row.part (Row.bI (cs:=x0.cells++x1.cells++x2.cells) (x b (Oj.trans hx))) 0 4),
   fun b hx=>aF rfl,
   fun b hx=>Ob.o (ay (xs:=[.tmp 68,.tmp 69]) call43 Z Z (vS x0 S b E omX) (fun v wy h=>(by obtain ⟨⟨z,C,h2⟩,D⟩:=h;exact ⟨D,z,C,omX⟩))),
   fun b hx=>Ob.o (gV runUnderlying99 sizeOf89 Z Z dcX dcX kR),
   fun b hx=>bJ rfl rfl (Row.part (Row.bI (cs:=x0.cells++x1.cells++x2.cells) (x b (Oj.trans hx))) 4 4),
   fun b hx=>Ob.o (gV runUnderlying99 sizeOf89 Z Z dcX dcX kR),
   fun b hx=>bJ rfl rfl (Row.part (Row.bI (cs:=x0.cells++x1.cells++x2.cells) (x b (Oj.trans hx))) 0 4),
   fun b hx=>aF rfl,
   fun b hx=>Ob.o (ay (xs:=[.tmp 74,.tmp 75]) call43 Z Z (vS x0 S b E omX) (fun v wy h=>(by obtain ⟨⟨z,C,h2⟩,D⟩:=h;exact ⟨D,z,C,omX⟩))),
   fun b hx v76 anQ=>by { obtain ⟨z2,rfl,a6⟩:=anQ;exact Ob.o (ay (xs:=[.tmp 72,.tmp 76]) call43 Z Z (vS x1 z2 b am omX) (fun v wy h=>(by obtain ⟨⟨z,C,h2⟩,D⟩:=h;exact ⟨D,z,C,omX⟩))) },
   fun b hx=>Ob.o (gV runUnderlying99 sizeOf89 Z Z dcX dcX kR),
   fun b hx=>bJ rfl rfl (Row.part (Row.bI (cs:=x0.cells++x1.cells++x2.cells) (x b (Oj.trans hx))) 8 4),
   fun b hx=>aF rfl,
   fun b hx=>Ob.o (ay (xs:=[.tmp 79,.tmp 80]) call43 Z Z (vS x2 S b an omX) (fun v wy h=>(by obtain ⟨⟨z,C,h2⟩,D⟩:=h;exact ⟨D,z,C,omX⟩))),
   fun b hx=>aF rfl,
   fun b hx=>aF rfl,
   fun b hx=>Ob.o (dB runUnderlying9 Z kR),
   fun b hx=>Ob.o (KW (k:=45000) Z Z kR),
   fun b hx=>Ob.o (iO runUnderlying9 Z Z omX omX kR),
   fun b hx v70 anR aH anS aL anT=>by { obtain ⟨z1,rfl,a7⟩:=anR;obtain ⟨z3,rfl,aM⟩:=anS;obtain ⟨z4,rfl,auQ⟩:=anT;exact Ob.o (bU (v:=.agg #[str S,str z1,str z3,str z4,str (t.take (min t.length 45000))]) (parts:=[(0,.tmp 66),(1,.tmp 70),(2,.tmp 77),(3,.tmp 81),(4,.tmp 86)]) (vs:=[(0,_),(1,_),(2,_),(3,_),(4,_)]) Z (fun w=>by kernel_rfl) ⟨Keep.refl _ _,agI (w:=b) omX omX aM omX (by rw [List.length_take];omega)⟩) },
   fun b hx=>aF rfl,
   trivial⟩ (fun bt nY v70 anR v76 anQ aH anS aL anT bu aQ=>?_)
 refine ak (?_)
 obtain ⟨za,zb,zd,ze,zf,rfl,F⟩:=aQ
 have agN:=Oj.trans nY
 refine T.block (?_)
 refine bf (σ:=Nat) (fun k=>[(87,.agg #[str za,str zb,str zd,str ze,str zf]),(88,.int .i64 k)]) (fun k w'=>k≤5∧Ext e w') (fun k=>5-k) (0) ⟨rfl,rfl,trivial⟩ ⟨Nat.zero_le _,agN⟩ ?_
 rintro k aR ⟨hk,alz⟩
 refine au (bH Z Z (fun Y=>?_) (fun Y=>?_))
 ·refine ak (?_)
  have agO:k<5:=by omega
  obtain ⟨z,aS,bv⟩:=F k agO
  refine aj (aZ (T.skip (aj (T.block (au (L.o (Fb runUnderlying101 isAgg9 sizeOf9 Z Z omX omX aS (ah Z (au (aO Z (ay (xs:=[.tmp 92]) call21 Z Z (wZ z aR (P _ alz) omX) (fun bw aV f=>?_))))))))))))
  obtain ⟨alq,aa⟩:=f
  obtain ⟨c1,r1,rfl,ab,ac,aW,aX⟩:=Ht.gen aa
  refine L.m Z (bK Z Z (bK Z Z (bK Z Z (L.o (O.alloc zeroValue48 (fun ad a0 afp ajg jv FK=>?_))))))
  refine L.o (aK sizeOf48 Z Z Z FK leX (lV ab ac) (fun y alA a1=>?_))
  replace alA:Upd ad a0 y:=alA
  have a2:Blk y ad (fA c1 r1) 48:=a1
  have agP:Ext aV y:=jv.upd alA (.inr omX)
  refine L.a Z (ah Z (au (aO Z (ay (xs:=[.tmp 98]) call48 Z Z (Oe z y omX) (fun bx a3 f=>?_)))))
  obtain ⟨anU,ae⟩:=f
  obtain ⟨c2,r3,rfl,af,ag,a4,bz⟩:=Ht.gen ae
  refine L.m Z (bK Z Z (bK Z Z (bK Z Z (L.o (O.alloc zeroValue48 (fun ai a5 apQ amG Gl VZ=>?_))))))
  refine L.o (aK sizeOf48 Z Z Z VZ leX (lV af ag) (fun ahP adO alB=>?_))
  replace adO:Upd ai a5 ahP:=adO
  have alC:Blk ahP ai (fA c2 r3) 48:=alB
  have J5:Ext a3 ahP:=Gl.upd adO (.inr omX)
  have Qy:=(agP.trans anU).trans J5
  refine L.a Z (ah Z (au (aN Z Z (L.o (fP Z Z Z (aN Z Z (aO Z (fP Z Z Z (aI Z (L.m Z (aT Z Z (Row.bI (Blk.ext (cs:=fA c1 r1) a2 (anU.trans J5))) (aT Z Z (Row.bI alC) (L.o (ay (xs:=[.tmp 112,.tmp 113]) call28 Z Z (Sm 0 0 c1 c2 r1 r3 _ ahP (ab.ext Qy) (ac.ext Qy) (af.ext J5) (ag.ext J5) aW a4 aX) (fun auR aqy f=>?_)))))))))))))))
  obtain ⟨rfl,alD⟩:=f
  refine bT Z (aI Z (aU (T.skip (T.blk (aA (bF Z Z (L.m Z (ak (aP (k+1) omX ⟨rfl,rfl,trivial⟩ ⟨agO,(alz.trans alq).trans (Qy.trans alD)⟩)))))))))
 refine ak (aj (bn (aY Z (au (ah Z (aB results7 Z ⟨rfl,agM.trans alz⟩))))))
end Go.Proofs.YtnlonpcbgjbbaaaGreatDoor
