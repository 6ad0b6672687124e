/-
  BlocksParses, part 21 of its proof: that it returns true for every input, and each argument reads behind the call as it read before. Conditions: the listed variables read as the program's text lays them (tied by the card).
-/
import Derived.Test.YtnlonpcbgjbbaaaGreatDoorWBlocksParses20
import Derived.Test.YtnlonpcbgjbbaaaGreatDoorWBlocksParses19
import Derived.Lib.AtoiAllCases
set_option linter.unusedVariables false
set_option linter.unusedSimpArgs false
set_option maxRecDepth 20000
namespace Go.Proofs.YtnlonpcbgjbbaaaGreatDoor
open Go.Proofs.Tryz
open Go Go.E RowKit
attribute [local irreducible] Go.E.T Go.E.L Go.E.O Go.E.Ob
variable {c:CxV} {xs:List Int} {r:List Str} {cs:List Value} {b m n:Nat} {l:Str} {v:Value} {W W' w w0:World}
def jo:Str→Str→List Str
 | cur,[]=>if cur = [] then [] else [cur]
 | cur,c::r=>if c=32 then (if cur = [] then jo [] r else cur::jo [] r) else jo (cur ++ [c]) r
theorem Eo:∀ (u:Str) (cur r:Str),(∀ b∈u,b≠32)→jo cur (u++r)=jo (cur++u) r
 | [],cur,r,_=>by simp
 | c::u,cur,r,h=>by
  have a:¬ c=32:=h c (List.mem_cons_self ..)
  rw [List.cons_append,jo,if_neg a,Eo u _ r (fun b hb=>h b (List.mem_cons_of_mem _ hb)),List.append_assoc];rfl
theorem JJ {b0 b1 b2 b3:Nat} (h0:b0≠32):(Lib.decodeN n b0 b1 b2 b3).1≠32∧(Lib.decodeN n b0 b1 b2 b3).2≤4∧(1<(Lib.decodeN n b0 b1 b2 b3).2→b1≠32)∧(2<(Lib.decodeN n b0 b1 b2 b3).2→b2≠32)∧(3<(Lib.decodeN n b0 b1 b2 b3).2→b3≠32):=by
 unfold Lib.decodeN
 repeat' split
 all_goals (refine ⟨?_,?_,?_,?_,?_⟩ <;> (try simp only) <;> omega)
theorem vK {i:Nat} : (l.getD i 0).toNat=32↔l.getD i 0=32:=⟨fun h=>UInt8.toNat_inj.1 h,fun h=>by rw [h];rfl⟩
theorem P6 (s:ByteArray) (pos:Nat) (h:s.data.toList.getD pos 0≠32):(Utf8.decode s pos).1≠32∧∀ b∈(s.data.toList.drop pos).take (Utf8.decode s pos).2,b≠32:=by
 obtain ⟨d,k,f,g,i⟩:=JJ (n:=s.data.toList.length-pos) (b0:=(s.data.toList.getD pos 0).toNat) (b1:=(s.data.toList.getD (pos+1) 0).toNat) (b2:=(s.data.toList.getD (pos+2) 0).toNat) (b3:=(s.data.toList.getD (pos+3) 0).toNat) (fun e=>h (vK.1 e))
 rw [← Lib.decode_N] at d k f g i
 refine ⟨d,fun b hb=>?_⟩
 obtain ⟨j,a,rfl⟩:=List.getElem_of_mem hb
 have c:j<(Utf8.decode s pos).2:=by rw [List.length_take] at a;omega
 have e:((s.data.toList.drop pos).take (Utf8.decode s pos).2)[j]=s.data.toList.getD (pos+j) 0:=by
  rw [List.getElem_take,List.getElem_drop,List.getD_eq_getElem?_getD,List.getElem?_eq_getElem];rfl
 rw [e]
 match j,c with
 | 0,_=>exact h
 | 1,a=>exact fun e=>f a (vK.2 e)
 | 2,a=>exact fun e=>g a (vK.2 e)
 | 3,a=>exact fun e=>i a (vK.2 e)
 | j+4,a=>omega
theorem ND (s:ByteArray) (pos:Nat) (h:s.data.toList.getD pos 0=32):Utf8.decode s pos=(32,1):=by
 rw [Lib.decode_N,h]
 rfl
theorem P7 (s:ByteArray):∀ (f pos:Nat) (st:Option Nat) (acc:List (Nat × Nat)),s.size≤pos+f→pos≤s.size→(∀ a,st=some a→a<pos) →
  acc.map (fun p=>Lib.pieceU s.data.toList p.1 p.2)++jo (Lib.openPiece s.data.toList st pos) (s.data.toList.drop pos)=(Lib.closeSpans s (Lib.spansFromP (fun r=>decide (r=32)) s f pos st acc)).map (fun p=>Lib.pieceU s.data.toList p.1 p.2):=by
 have m:s.data.toList.length=s.size:=(Lib.size_eq s).symm
 have d:∀ (st:Option Nat) (acc:List (Nat × Nat)),(∀ a,st=some a→a<s.size)→acc.map (fun p=>Lib.pieceU s.data.toList p.1 p.2)++jo (Lib.openPiece s.data.toList st s.size) (s.data.toList.drop s.size)=(Lib.closeSpans s (acc,st)).map (fun p=>Lib.pieceU s.data.toList p.1 p.2):=by
  intro st acc c
  rw [List.drop_eq_nil_of_le omX]
  cases st with
  | none=>simp [Lib.closeSpans,Lib.openPiece,jo]
  | some a =>
   have:=Lib.pieceU_ne s.data.toList a s.size (c a rfl) omX
   simp [Lib.closeSpans,Lib.openPiece,jo,this]
 intro f
 induction f with
 | zero =>
  intro pos st acc h n c
  obtain rfl:pos=s.size:=by omega
  exact d st acc c
 | succ f ih =>
  intro pos st acc h n c
  by_cases g:pos<s.size
  ·have u:=Lib.width_pos s pos
   have j:pos+(Utf8.decode s pos).2≤s.size:=by
    have:=Lib.decodeN_le_n' (s.size-pos) (s.get! pos).toNat (s.get! (pos+1)).toNat (s.get! (pos+2)).toNat (s.get! (pos+3)).toNat omX
    rw [← Lib.decode_at] at this
    omega
   by_cases hb:s.data.toList.getD pos 0=32
   ·have o:=ND s pos hb
    have i:s.data.toList.drop pos=32::s.data.toList.drop (pos+1):=by
     rw [List.drop_eq_getElem_cons omX]
     congr 1
     rw [← hb,List.getD_eq_getElem?_getD,List.getElem?_eq_getElem];rfl
    rw [i,jo,if_pos rfl]
    simp only [Lib.spansFromP,if_pos g,o,decide_true,if_true]
    cases st with
    | none =>
     have:=ih (pos+1) none acc omX omX (fun a h=>by cases h)
     simpa [Lib.openPiece] using this
    | some a =>
     have k:=Lib.pieceU_ne s.data.toList a pos (c a rfl) omX
     have:=ih (pos+1) none (acc ++ [(a,pos)]) omX omX (fun a h=>by cases h)
     simpa [Lib.openPiece,k] using this
   obtain ⟨q,t⟩:=P6 s pos hb
   have l:s.data.toList.drop pos=(s.data.toList.drop pos).take (Utf8.decode s pos).2++s.data.toList.drop (pos+(Utf8.decode s pos).2):=by
    rw [← List.drop_drop,List.take_append_drop]
   rw [l,Eo _ _ _ t]
   simp only [Lib.spansFromP,if_pos g,decide_eq_false q,Bool.false_eq_true,if_false]
   cases st with
   | none =>
    have:=ih (pos+(Utf8.decode s pos).2) (some pos) acc omX j (fun a h=>by cases h;omega)
    have e:([]:List UInt8)++(s.data.toList.drop pos).take (Utf8.decode s pos).2=Lib.pieceU s.data.toList pos (pos+(Utf8.decode s pos).2):=by
     unfold Lib.pieceU
     rw [List.nil_append,Nat.add_sub_cancel_left]
    simp only [Lib.openPiece] at this ⊢
    rw [e]
    exact this
   | some a =>
    have:=ih (pos+(Utf8.decode s pos).2) (some a) acc omX j (fun b h=>by cases h;have:=c a rfl;omega)
    simp only [Lib.openPiece] at this ⊢
    rw [Lib.pieceU_grow _ _ _ _ (Nat.le_of_lt (c a rfl))]
    exact this
  obtain rfl:pos=s.size:=by omega
  rw [Lib.spansFromP_end _ _ _ _ _ _ g]
  exact d st acc c
theorem zV (s:Str):fieldsB s=jo [] s:=by
 have h:=P7 ⟨s.toArray⟩ s.length 0 none [] (by simp [ByteArray.size]) lzX (fun a h=>by cases h)
 simp only [List.map_nil,List.nil_append,Lib.openPiece,List.drop_zero] at h
 rw [h]
 simp only [fieldsB,Lib.goFieldsP,Lib.spansOfP,List.map_map]
 rw [show (⟨s.toArray⟩:ByteArray).size=s.length by simp [ByteArray.size]]
 congr 1
 funext p
 simp [Lib.pieceU]
def vW (c:UInt8):Bool:=decide (48≤c.toNat) && decide (c.toNat≤57)
theorem gU {c:UInt8} : vW c=true↔48≤c.toNat∧c.toNat≤57:=by simp [vW]
def xE (acc:Nat) (s:Str):Nat:=s.foldl (fun a c=>a*10+(c.toNat-48)) acc
theorem vM (acc:Nat):xE acc []=acc:=by unfold xE;exact List.foldl_nil
theorem uT (acc:Nat) (c:UInt8) (r:Str):xE acc (c::r)=xE (acc*10+(c.toNat-48)) r:=by unfold xE;exact List.foldl_cons ..
theorem Ep (l:Str) (acc:Nat) (c:UInt8):xE acc (l ++ [c])=xE acc l*10+(c.toNat-48):=by
 unfold xE
 rw [List.foldl_append,List.foldl_cons,List.foldl_nil]
theorem JK (c:UInt8):xE 0 [c]=c.toNat-48:=by rw [uT,vM];omega
theorem XC (l:Str):∀ acc:Nat,acc≤xE acc l:=by
 induction l with
 | nil=>intro acc;rw [vM];exact Nat.le_refl _
 | cons c r ih=>intro acc;rw [uT];exact Nat.le_trans omX (ih _)
def canon (s:Str):Bool:=!s.isEmpty && s.all vW && (decide (s.length=1) || decide (s.getD 0 0≠48))
theorem jM {s:Str} : canon s=true↔s ≠ []∧(∀ c∈s,vW c=true)∧(s.length=1∨s.getD 0 0≠48):=by
 simp only [canon,Bool.and_eq_true,Bool.or_eq_true,decide_eq_true_eq,List.all_eq_true,Bool.not_eq_true',List.isEmpty_eq_false_iff,and_assoc]
theorem Hl {c:UInt8} (h:vW c=true):UInt8.ofNat (48+(c.toNat-48))=c:=by
 obtain ⟨a,b⟩:=gU.1 h
 rw [show 48+(c.toNat-48)=c.toNat by omega]
 exact UInt8.ofNat_toNat
theorem NG {d:Nat} (h:d<10):(UInt8.ofNat (48+d)).toNat=48+d:=by
 rw [UInt8.toNat_ofNat'];omega
theorem Z7:∀ (s:Str),s ≠ []→(∀ c∈s,vW c=true)→s.getD 0 0≠48→1≤xE 0 s
 | [],h,_,_=>absurd rfl h
 | c::r,_,a,h=>by
  have d:=(gU.1 (a c (List.mem_cons_self ..))).1
  have b:c≠48:=h
  have f:c.toNat≠48:=fun e=>b (UInt8.toNat_inj.1 e)
  rw [uT]
  exact Nat.le_trans omX (XC r (0*10+(c.toNat-48)))
theorem oL:∀ (n:Nat) (s:Str),s.length=n→canon s=true→Lib.decDigits (xE 0 s)=s
 | 0,s,g,h=>by
  obtain ⟨f,_⟩:=jM.1 h
  exact absurd (List.eq_nil_of_length_eq_zero g) f
 | n+1,s,g,h=>by
  obtain ⟨f,j,a⟩:=jM.1 h
  obtain ⟨l,c,rfl⟩:∃ l c,s=l ++ [c]:=⟨s.dropLast,s.getLast f,(List.dropLast_concat_getLast f).symm⟩
  have i:=j c spX
  obtain ⟨k,m⟩:=gU.1 i
  rw [Ep]
  cases l with
  | nil =>
   rw [vM,List.nil_append]
   rw [Lib.decDigits_one omX,show 0*10+(c.toNat-48)=c.toNat-48 by omega,Hl i]
  | cons d l =>
   have b:(d::l).getD 0 0≠48:=by
    rcases a with a|a
    ·simp at a
    exact a
   have e:∀ c∈d::l,vW c=true:=fun x hx=>j x (List.mem_append_left _ hx)
   have ih:=oL n (d::l) (by simp at g ⊢;omega) (jM.2 ⟨spX,e,.inr b⟩)
   have o:=Z7 (d::l) spX e b
   rw [Lib.decDigits,dif_neg omX,show (xE 0 (d::l)*10+(c.toNat-48)) / 10=xE 0 (d::l) by omega,show (xE 0 (d::l)*10+(c.toNat-48)) % 10=c.toNat-48 by omega,ih,Hl i]
theorem AQ:∀ (f u:Nat),u<f→canon (Lib.decDigits u)=true∧xE 0 (Lib.decDigits u)=u
 | 0,u,h=>absurd h (Nat.not_lt_zero _)
 | f+1,u,h=>by
  by_cases g:u<10
  ·rw [Lib.decDigits_one g]
   have hv:=NG g
   refine ⟨jM.2 ⟨spX,fun c a=>?_,.inl rfl⟩,?_⟩
   ·rw [List.mem_singleton.1 a,gU,hv];omega
   rw [JK,hv];omega
  obtain ⟨m,i⟩:=AQ f (u / 10) omX
  have hv:=NG (show u % 10<10 by omega)
  rw [Lib.decDigits,dif_neg g]
  obtain ⟨n,k,b⟩:=jM.1 m
  refine ⟨jM.2 ⟨spX,fun c a=>?_,.inr ?_⟩,?_⟩
  ·rcases List.mem_append.1 a with a|a
   ·exact k c a
   rw [List.mem_singleton.1 a,gU,hv];omega
  ·obtain ⟨d,l,e⟩:=List.exists_cons_of_ne_nil n
   rw [e] at b i k ⊢
   rcases b with b|b
   ·have o:l = []:=List.eq_nil_of_length_eq_zero (by simpa using b)
    subst o
    intro h0
    have j:d=48:=h0
    subst j
    rw [JK] at i
    have:(48:UInt8).toNat-48=0:=rfl
    omega
   exact b
  rw [Ep,i,hv];omega
theorem qY (u:Nat):canon (Lib.decDigits u)=true∧xE 0 (Lib.decDigits u)=u:=AQ (u+1) u (Nat.lt_succ_self u)
theorem qB:∀ (s:Str) (acc:Nat),(∀ c∈s,vW c=true)→xE acc s≤1000000000→Lib.parseUint10 acc s = .ok (xE acc s)
 | [],acc,_,_=>by rw [vM];rfl
 | c::r,acc,b,hv=>by
  have d:=gU.1 (b c (List.mem_cons_self ..))
  have e:=XC r (acc*10+(c.toNat-48))
  have a:xE (acc*10+(c.toNat-48)) r≤1000000000:=by rw [uT] at hv;exact hv
  rw [Lib.parseUint10,if_pos d,if_neg omX,if_neg omX,uT]
  exact qB r _ (fun x hx=>b x (List.mem_cons_of_mem _ hx)) a
theorem XD {n:Int} (f : -1000000000≤n) (g:n≤1000000000):Lib.atoiAll (Lib.itoa n) = .ok n:=by
 unfold Lib.itoa
 split
 ·rename_i hn
  obtain ⟨c,a⟩:=qY n.natAbs
  obtain ⟨c1,c2,_⟩:=jM.1 c
  have b:=qB (Lib.decDigits n.natAbs) 0 c2 omX
  rw [Lib.atoiAll]
  rw [if_pos (by right;rfl),Lib.parseMag,if_neg c1,b,a]
  simp only []
  rw [if_neg (by intro h;exact h.1 rfl),if_neg omX,if_pos (show (45:UInt8).toNat=45 from rfl)]
  congr 1
  omega
 rename_i hn
 obtain ⟨c,a⟩:=qY n.toNat
 obtain ⟨c1,c2,_⟩:=jM.1 c
 have b:=qB (Lib.decDigits n.toNat) 0 c2 omX
 obtain ⟨d,l,e⟩:=List.exists_cons_of_ne_nil c1
 have i:=gU.1 (c2 d (by rw [e];exact List.mem_cons_self ..))
 rw [e] at b a ⊢
 rw [Lib.atoiAll]
 rw [if_neg omX,Lib.parseMag,if_neg spX,b,a]
 simp only []
 rw [if_neg omX,if_neg omX,if_neg omX]
 congr 1
 omega
def Z8:Str→Option Int
 | []=>none
 | c::r=>if c=45 then (if canon r=true∧r ≠ [48]∧xE 0 r≤1000000000 then some (-(xE 0 r:Int)) else none) else if canon (c::r)=true∧xE 0 (c::r)≤1000000000 then some (xE 0 (c::r):Int) else none
theorem XE {n:Int} (g : -1000000000≤n) (i:n≤1000000000):Z8 (Lib.itoa n)=some n:=by
 unfold Lib.itoa
 split
 ·rename_i hn
  obtain ⟨a,b⟩:=qY n.natAbs
  have c:Lib.decDigits n.natAbs ≠ [48]:=fun e=>by
   rw [e,JK] at b
   have:(48:UInt8).toNat-48=0:=rfl
   omega
  rw [Z8,if_pos rfl,if_pos ⟨a,c,omX⟩,b]
  exact congrArg some omX
 rename_i hn
 obtain ⟨a,b⟩:=qY n.toNat
 obtain ⟨c1,c2,_⟩:=jM.1 a
 obtain ⟨d,l,e⟩:=List.exists_cons_of_ne_nil c1
 have f:=gU.1 (c2 d (by rw [e];exact List.mem_cons_self ..))
 rw [e] at a b ⊢
 rw [Z8,if_neg (fun h=>by subst h;revert f;decide),if_pos ⟨a,omX⟩,b]
 exact congrArg some omX
theorem XF:∀ {s:Str} {n:Int},Z8 s=some n→s=Lib.itoa n ∧ -1000000000≤n∧n≤1000000000
 | [],n,h=>by cases h
 | c::r,n,h=>by
  rw [Z8] at h
  split at h
  ·rename_i f
   split at h
   ·rename_i b
    obtain ⟨a,d,i⟩:=b
    cases h
    have g:xE 0 r≠0:=fun e=>by
     have:=oL _ r rfl a
     rw [e,Lib.decDigits_one dcX] at this
     exact d this.symm
    refine ⟨?_,omX,omX⟩
    rw [Lib.itoa,if_pos omX,f,show (-(xE 0 r:Int)).natAbs=xE 0 r by omega,oL _ r rfl a]
   cases h
  split at h
  ·rename_i b
   obtain ⟨a,d⟩:=b
   cases h
   refine ⟨?_,omX,omX⟩
   rw [Lib.itoa,if_neg omX,Int.toNat_natCast,oL _ _ rfl a]
  cases h
theorem Ho {n:Int} (a : -1000000000≤n) (b:n≤1000000000):kP (Lib.itoa n)=some n:=by rw [RY (XD a b),if_pos ⟨rfl,a,b⟩]
theorem Z9 (s:Str):kP s=Z8 s:=by
 cases h:Z8 s with
 | some n =>
  obtain ⟨a,b,c⟩:=XF h
  rw [a];exact Ho b c
 | none =>
  cases k:kP s with
  | none=>rfl
  | some n =>
   obtain ⟨_,d,e,f⟩:=qW k
   rw [← d,XE e f] at h
   cases h
attribute [local irreducible] Go.E.ObX Go.E.ObG Go.E.ObK
theorem xC.form {Q:Nat→Prop} {el:TypeId} {sz:Nat} {xs:List Value} (h:xC Q W el sz v n xs) (hn:0<n):∃ g cap cs,v = .slice (some ⟨g,0,none⟩) n cap∧Q g∧Blk W g cs el∧n≤cap∧cap≤maxLen∧cs.length=cap*sz∧cs.take (n*sz)=xs:=by
 obtain ⟨⟨_,d⟩,e⟩:=h
 rcases d with ⟨_,j⟩|⟨g,cap,cur,rfl,hb,f,a,i,b,c⟩
 ·omega
 exact ⟨g,cap,cur.toList,rfl,e g rfl,by unfold Blk;simpa using f,a,i,by simpa using b,by simpa using c⟩
theorem zW:∀ (vs:List FaV) (i:Nat) (f:FaV),i<vs.length→f.o.v=(vs.getD i f0).o.v→fO (vs.set i f)=(fO vs).set (i*2+1) f.hv
 | [],i,f,hi,_=>absurd hi (Nat.not_lt_zero _)
 | a::r,0,f,_,h=>by
  have b:f.o.v=a.o.v:=h
  simp [fO,FaV.cells,b]
 | a::r,i+1,f,hi,h=>by
  have ih:=zW r i f (by simpa using hi) h
  have e:∀ (x:FaV) (l:List FaV),fO (x::l)=x.o.v::x.hv::fO l:=fun x l=>rfl
  rw [List.set_cons_succ,e,e,ih,show (i+1)*2+1=(i*2+1)+1+1 by omega,List.set_cons_succ,List.set_cons_succ]
theorem yQ {α:Type} {l:List α} {i j:Nat} {x d:α} : (l.set i x).getD j d=if i=j∧i<l.length then x else l.getD j d:=by
 simp only [List.getD_eq_getElem?_getD,List.getElem?_set]
 by_cases h:i=j
 ·subst h
  by_cases a:i<l.length
  ·simp [a]
  simp [a]
 simp [h]
theorem yR {fs:List (List Int × List (List Int))} {x:List Int} (h:fs ≠ []):Bl fs x=fs.set (fs.length-1) ((fs.getD (fs.length-1) ([],[])).1,(fs.getD (fs.length-1) ([],[])).2 ++ [x]):=by
 have e:=List.dropLast_concat_getLast h
 generalize fs.getLast h=f at e
 generalize fs.dropLast=l at e
 subst e
 simp [Bl,List.getD]
def FX (s:PS) (xs:List Int):PS:={ s with fs:=Bl s.fs xs,last:=gy }
def eH (d:RdD):FaV:=d.vs.getD (d.vs.length-1) f0
def yS (d:RdD) (u x:Value) (xs:List Int):RdD:={ d with vs:=d.vs.set (d.vs.length-1) ⟨(eH d).o,u,(eH d).hs ++ [⟨x,xs⟩]⟩ }
def adf (ob:Option Nat) (m:Nat) (hs:List RiV) (xs:List Int) (v:Value) (W:World):Prop:=∃ u,Bo ob m 30 1 (hs.length+1) (dw hs ++ [u]) v W∧gJ (kE m) W u xs
theorem adf.ext {ob:Option Nat} {m:Nat} {hs:List RiV} {xs:List Int} {v:Value} {W W':World} (h:adf ob m hs xs v W) (k:Ext W W'):adf ob m hs xs v W':=by
 obtain ⟨u,a,b⟩:=h
 exact ⟨u,a.ext k,b.stay fun j cs q B=>⟨q,Blk.ext B k⟩⟩
theorem adf.updB {ob:Option Nat} {m b:Nat} {t:TypeId} {hs:List RiV} {xs:List Int} {cs:List Value} {v:Value} {W W':World} (h:adf ob m hs xs v W) (k:Upd b W W') (hB:Blk W b cs t) (a:30≠t) (f:b<m):adf ob m hs xs v W':=by
 obtain ⟨u,c,d⟩:=h
 exact ⟨u,c.updB k hB a,d.stay fun j cs q B=>⟨q,Blk.upd B k (fun e=>by unfold kE at q;omega)⟩⟩
def afW (ob:Option Nat) (m:Nat) (xs:List Int) (v:Value) (W:World):Prop:=∃ k u,v = .slice (some ⟨k,0,none⟩) 1 1∧ob≠some k∧Blk W k [u] 30∧gJ (kE m) W u xs
theorem afW.st {ob:Option Nat} (b:∀ k,ob=some k→k<m):∀ v w w',gB ob w w'→afW ob m xs v w→afW ob m xs v w':=fun _ _ _ h ⟨k,u,c,a,d,e⟩=>⟨k,u,c,a,h.blk (cs:=[u]) d a,e.abw b h⟩
theorem RdK.P8 {g:Nat} {d:RdD} {s:PS} {S:Nat→Prop} (h:RdK w0 b d s S W) {u x:Value} {cap:Nat} (hn:0<d.vs.length) (E:d.fv = .slice (some ⟨g,0,none⟩) d.vs.length cap) (O:RdQ w0 b S g) (hgB:Blk W g cs 127) (z:d.vs.length≤cap) (A:cap≤maxLen) (F:cs.length=cap*2) (G:cs.take (d.vs.length*2)=fO d.vs)
  (N:∀ k,k<W.heap.size→k≠b→k≠g→(eH d).hv.ownBlock≠some k→W'.heap[k]?=W.heap[k]?) (P:Ext w0 W') (Q:W.heap.size≤W'.heap.size)
  (hB:Blk W' b (dU (yS d u x xs) (FX s xs)) 129) (H:Blk W' g (cs.set ((d.vs.length-1)*2+1) u) 127) (hG:Bo (eH d).hv.ownBlock W.heap.size 30 1 ((eH d).hs.length+1) (dw (eH d).hs ++ [x]) u W') (hI:gJ (kE W.heap.size) W' x xs):RdK w0 b (yS d u x xs) (FX s xs) S W':=by
 have p:=h.fa (d.vs.length-1) omX
 have a:=h.fsl
 have afX:s.fs ≠ []:=fun e=>by rw [e] at a;simp only [List.length_nil] at a;omega
 have C:xC (RdQ w0 b S) W 30 1 (eH d).hv (eH d).hs.length (dw (eH d).hs):=p.hv
 have D:∀ j cs t,t≠127→t≠30→RdQ w0 b S j→Blk W j cs t→RdQ w0 b S j∧Blk W' j cs t:=fun j cs t R I q B=>⟨q,(N j B.lt q.2.1 (fun e=>by
  subst e
  have c:W.heap[j]?=_:=B
  have r:W.heap[j]?=_:=hgB
  rw [c] at r
  cases r
  exact R rfl) (jY C.1 B (Ne.symm I))).trans B⟩
 have l:∀ k cs,RdQ w0 b S k→Blk W k cs 3→RdQ w0 b S k∧Blk W' k cs 3:=fun k cs q B=>D k cs _ dcX dcX q B
 have T:=Blk.lt (cs:=dU d s) h.row
 have U:=h.e.size
 have n:∀ k,W.heap.size≤k→RdQ w0 b S k:=fun k c=>⟨omX,omX,fun D=>by have:=(h.S k D).2.1;omega⟩
 have m:(yS d u x xs).vs.length=d.vs.length:=by simp [yS]
 have J:(FX s xs).fs.length=s.fs.length:=by
  show (Bl s.fs xs).length=_
  rw [yR afX];simp
 have w:∀ i,(yS d u x xs).vs.getD i f0=if d.vs.length-1=i then ⟨(eH d).o,u,(eH d).hs ++ [⟨x,xs⟩]⟩ else d.vs.getD i f0:=fun i=>by
  show (d.vs.set _ _).getD i f0=_
  rw [yQ]
  by_cases e:d.vs.length-1=i
  ·rw [if_pos ⟨e,omX⟩,if_pos e]
  rw [if_neg (fun h=>e h.1),if_neg e]
 have K:∀ i,(FX s xs).fs.getD i ([],[])=if s.fs.length-1=i then ((s.fs.getD (s.fs.length-1) ([],[])).1,(s.fs.getD (s.fs.length-1) ([],[])).2 ++ [xs]) else s.fs.getD i ([],[]):=fun i=>by
  show (Bl s.fs xs).getD i ([],[])=_
  rw [yR afX,yQ]
  by_cases e:s.fs.length-1=i
  ·rw [if_pos ⟨e,omX⟩,if_pos e]
  rw [if_neg (fun h=>e h.1),if_neg e]
 have L:(cs.set ((d.vs.length-1)*2+1) u).take (d.vs.length*2)=fO (yS d u x xs).vs:=by
  rw [List.take_set,G]
  exact (zW d.vs (d.vs.length-1) ⟨(eH d).o,u,(eH d).hs ++ [⟨x,xs⟩]⟩ omX rfl).symm
 refine ⟨P,h.lo,hB,h.pts.stay fun k cs q _ B=>D k cs _ dcX dcX q B,⟨?_,fun k e=>?_⟩,by rw [m,J,a],fun i hi=>?_,fun i hi k e=>?_,h.usr.stay fun k cs q _ B=>D k cs _ dcX dcX q B,h.usl,fun i hi=>(h.un i hi).stay l,h.big,fun j V=>by obtain ⟨X,a2,a3⟩:=h.S j V;exact ⟨X,Nat.lt_of_lt_of_le a2 Q,a3⟩⟩
 ·rw [m,← L]
  show W'.ownsRow 0 _ 2 d.fv d.vs.length _
  rw [E]
  exact pY H lzX z A (by rw [List.length_set];exact F)
 ·exact h.fsr.2 k e
 ·rw [m] at hi
  rw [w,K]
  by_cases e:d.vs.length-1=i
  ·have f:=p
   rw [if_pos e,if_pos omX]
   rw [a] at f
   refine ⟨?_,?_,?_,⟨?_,fun k e=>?_⟩,fun y hy=>?_⟩
   ·show (eH d).o.xs=_
    exact a▸f.ox
   ·exact (show gJ _ W (eH d).o.v _ from a▸f.oi).stay l
   ·show ((eH d).hs ++ [(⟨x,xs⟩:RiV)]).map (·.xs)=_
    rw [List.map_append]
    congr 1
    exact a▸f.hx
   ·have e1:((eH d).hs ++ [(⟨x,xs⟩:RiV)]).length=(eH d).hs.length+1:=by simp
    have M:dw ((eH d).hs ++ [(⟨x,xs⟩:RiV)])=dw (eH d).hs ++ [x]:=by simp [dw]
    show W'.ownsRow 0 _ 1 u ((eH d).hs ++ [(⟨x,xs⟩:RiV)]).length (dw ((eH d).hs ++ [(⟨x,xs⟩:RiV)]))
    rw [e1,M];exact hG.1
   ·rcases hG.2 k e with c|c
    ·exact C.2 k c
    exact n k c
   rcases List.mem_append.1 hy with hy|hy
   ·exact (show gJ _ W y.v y.xs from p.ri y hy).stay l
   rw [List.mem_singleton.1 hy]
   exact hI.stay fun k cs q B=>⟨n k q,B⟩
  rw [if_neg e,if_neg omX]
  have f:=h.fa i hi
  refine ⟨f.ox,f.oi.stay l,f.hx,f.hv.stay fun k cs q ho B=>⟨q,(N k B.lt q.2.1 (fun e=>by
   subst e
   have c:W.heap[k]?=_:=B
   have r:W.heap[k]?=_:=hgB
   rw [c] at r
   cases r) (fun M=>h.sep i omX k M ho)).trans B⟩,fun x hx=>(f.ri x hx).stay l⟩
 rw [m] at hi e
 rw [w,if_pos rfl] at e
 rw [w,if_neg omX]
 rcases hG.2 k e with c|c
 ·exact h.sep i hi k c
 intro r
 have:=sV (h.fa i omX).hv.1 r
 omega
theorem AU {g cap sz:Nat} {el:TypeId} {xs:List Value} (hB:Blk W g cs el) (a:n≤cap) (b:cap≤maxLen) (c:cs.length=cap*sz) (d:cs.take (n*sz)=xs):Sl 0 W (.slice (some ⟨g,0,none⟩) n cap) n sz xs:=by
 rw [← d];exact Sl.dD (pY hB lzX a b c)
theorem Es:∀ (vs:List FaV) (i:Nat),i<vs.length→(fO vs)[i*2+1]?=some (vs.getD i f0).hv
 | [],i,h=>absurd h (Nat.not_lt_zero _)
 | a::r,0,_=>rfl
 | a::r,i+1,h=>by
  have e:fO (a::r)=a.o.v::a.hv::fO r:=rfl
  rw [e,show (i+1)*2+1=(i*2+1)+1+1 by omega]
  exact Es r i (by simpa using h)
theorem NH {C:Cx} {e:Env} {K:Value→World→Prop} {d:Option Tmp} {ty:TypeId} {pos:String} {aft:Array Edge} {g:Option (Nat × Bool)} {tys:Array TypeId} {x y z:Operand} {a b c:Int} (i:ev e x=some (.int .i64 a)) (j:ev e y=some (.int .i64 b)) (k:ev e z=some (.int .i64 c)) (h:K (.int .i64 (mn (mn a b) c)) w) :
  O C e ⟨d,.call { callee:=.builtin .min,args:=#[x,y,z],argTypes:=tys },ty,pos,aft,g⟩ w K :=
 bD spX (fun q f=>by
  simp [execOp,resolve,invoke,builtin,f.eval i,f.eval j,f.eval k,Builtin.min_,Builtin.min2,mn];rfl) h
def sW (r:List Str):Bool:=decide (1<r.length) && decide (r.getD (r.length-1) []=ajz)
def lZ (r:List Str):List Str:=if sW r=true then r.take (r.length-1) else r
theorem kF (s:PS) (r:List Str):zU s r=if 0≤s.G∧0≤s.P∧0≤s.L∧((lZ r).length:Int)=2+s.G+s.P+s.L then (match fQ ((lZ r).drop 1) with
  | some xs=>some ⟨(lZ r).getD 0 [],xs.getD 0 0,(xs.drop 1).take s.G.toNat,(xs.drop (1+s.G.toNat)).take s.P.toNat,xs.drop (1+s.G.toNat+s.P.toNat),sW r⟩
  | none=>none) else none:=rfl
theorem Ut {s:PS} {u:PU} (h:zU s r=some u):∃ (nm:Str) (ws:List Str) (xs:List Int),lZ r=nm::ws∧0≤s.G∧0≤s.P∧0≤s.L∧((ws.length:Int)=1+s.G+s.P+s.L)∧fQ ws=some xs∧u=⟨nm,xs.getD 0 0,(xs.drop 1).take s.G.toNat,(xs.drop (1+s.G.toNat)).take s.P.toNat,xs.drop (1+s.G.toNat+s.P.toNat),sW r⟩:=by
 rw [kF] at h
 split at h
 ·rename_i b
  obtain ⟨c1,c2,c3,c4⟩:=b
  split at h
  ·rename_i xs hx
   cases h
   cases a:lZ r with
   | nil=>rw [a] at c4;simp only [List.length_nil] at c4;omega
   | cons nm ws =>
    rw [a] at c4 hx
    refine ⟨nm,ws,xs,rfl,c1,c2,c3,by simp only [List.length_cons] at c4;omega,hx,?_⟩
    rfl
  cases h
 cases h
def NI (p:Value) (r:List Str):Value:=if sW r=true then Yw p (r.length-1) else p
theorem aac {lo:Nat} {p:Value} (h:Strs lo w p r):Strs lo w (NI p r) (lZ r):=by
 unfold NI lZ
 cases sW r with
 | false=>exact h
 | true =>
  have:=OV (m:=r.length-1) h (Nat.sub_le _ _)
  have e:((r.map str).take ((r.length-1)*1))=(r.take (r.length-1)).map str:=by rw [Nat.mul_one,List.map_take]
  have a:(r.take (r.length-1)).length=r.length-1:=by rw [List.length_take];omega
  rw [e] at this
  show Sl lo w (Yw p (r.length-1)) (r.take (r.length-1)).length 1 _
  rw [a];exact this
theorem vN : ∀ x∈lZ r,x∈r:=fun x hx=>by
 unfold lZ at hx
 split at hx
 ·exact (List.take_sublist _ _).subset hx
 exact hx
theorem Hq (r:List Str):(lZ r).length≤r.length:=by
 unfold lZ
 split
 ·rw [List.length_take];omega
 exact Nat.le_refl _
theorem P9 {lo:Nat} {k:Str} (h:Strs lo w v (k::r)):Strs lo w (sH 1 v 1 (r.length+1)) r:=by
 have:=JH (l:=1) (h:=r.length+1) (h:Sl lo w _ _ _ _) omX spX
 have e:(((k::r).map str).drop (1*1)).take ((r.length+1-1)*1)=r.map str:=by simp;exact List.take_of_length_le spX
 rw [e,show r.length+1-1=r.length by omega] at this
 exact this
theorem gJ.cut {Q:Nat→Prop} {l h:Nat} (hv:gJ Q W v xs) (e:l≤h) (c:h≤xs.length):gJ Q W (sH 1 v l h) ((xs.drop l).take (h-l)):=by
 have a:((xs.drop l).take (h-l)).length=h-l:=by rw [List.length_take,List.length_drop];omega
 rcases hv with ⟨rfl,rfl⟩|⟨k,off,cap,cs,rfl,c1,c2,c3,c4,c5⟩
 ·simp only [List.length_nil] at c
  obtain rfl:h=0:=by omega
  obtain rfl:l=0:=by omega
  exact .inl ⟨rfl,rfl⟩
 by_cases b:cap=l
 ·refine .inr ⟨k,off,cap-l,cs,?_,omX,omX,c3,c4,?_⟩
  ·simp only [sH,if_pos b,a]
  rw [a,show h-l=0 by omega];simp
 by_cases d:l=0
 ·subst d
  refine .inr ⟨k,off,cap,cs,?_,omX,omX,c3,c4,?_⟩
  ·rw [a];simp only [sH,if_neg b,Option.map_some,Addr.add,Nat.zero_mul,if_true,Nat.sub_zero]
  rw [a,List.drop_zero,Nat.sub_zero,List.map_take,← c5,List.take_take,Nat.min_eq_left c]
 refine .inr ⟨k,off+l,cap-l,cs,?_,omX,omX,c3,c4,?_⟩
 ·simp only [sH,if_neg b,a,Option.map_some,Addr.add,Nat.mul_one,if_neg d]
 rw [a,← List.drop_drop,List.map_take,List.map_drop,← c5]
 rw [List.drop_take,List.take_take,Nat.min_eq_left omX]
theorem Qa {a b:Int} : 0≤mn a b↔0≤a∧0≤b:=by unfold mn;split <;> omega
def uAdd (d:RdD) (v:UnV) (uv:Value):RdD:={ d with uv:=uv,us:=d.us ++ [v] }
def zX (s:PS) (u:PU):PS:={ s with us:=s.us ++ [u] }
theorem RdK.Qb {d:RdD} {s:PS} {S:Nat→Prop} (h:RdK w0 b d s S W) {v:UnV} {u:PU} {a:Value} (r:∀ k,k<W.heap.size→k≠b→d.uv.ownBlock≠some k→W'.heap[k]?=W.heap[k]?) (w:Ext w0 W') (y:W.heap.size≤W'.heap.size)
  (hB:Blk W' b (dU (uAdd d v a) (zX s u)) 129) (hG:Bo d.uv.ownBlock W.heap.size 51 6 (d.us.length+1) (iR d.us++v.cells) a W') (hU:UnO (kE W.heap.size) W' v u):RdK w0 b (uAdd d v a) (zX s u) S W':=by
 have m:∀ j cs t,t≠51→RdQ w0 b S j→Blk W j cs t→RdQ w0 b S j∧Blk W' j cs t:=fun j cs t z q B=>⟨q,(r j B.lt q.2.1 (jY h.usr.1 B (Ne.symm z))).trans B⟩
 have l:∀ k cs,RdQ w0 b S k→Blk W k cs 3→RdQ w0 b S k∧Blk W' k cs 3:=fun k cs q B=>m k cs _ dcX q B
 have A:=Blk.lt (cs:=dU d s) h.row
 have C:=h.e.size
 have c:∀ k,W.heap.size≤k→RdQ w0 b S k:=fun k g=>⟨omX,omX,fun m=>by have:=(h.S k m).2.1;omega⟩
 have n:(uAdd d v a).us.length=d.us.length+1:=by simp [uAdd]
 have p:=h.usl
 refine ⟨w,h.lo,hB,h.pts.stay fun k cs q _ B=>m k cs _ dcX q B,h.fsr.stay fun k cs q _ B=>m k cs _ dcX q B,h.fsl,fun i hi=>?_,h.sep,⟨?_,fun k e=>?_⟩,by simp [uAdd,zX,p],fun i hi=>?_,h.big,fun j D=>by obtain ⟨E,a2,a3⟩:=h.S j D;exact ⟨E,Nat.lt_of_lt_of_le a2 y,a3⟩⟩
 ·have f:=h.fa i hi
  exact ⟨f.ox,f.oi.stay l,f.hx,f.hv.stay fun k cs q _ B=>m k cs _ dcX q B,fun x hx=>(f.ri x hx).stay l⟩
 ·have o:iR (uAdd d v a).us=iR d.us++v.cells:=by rw [show (uAdd d v a).us=d.us ++ [v] from rfl,rO,vk]
  rw [n,o];exact hG.1
 ·rcases hG.2 k e with g|g
  ·exact h.usr.2 k g
  exact c k g
 rw [n] at hi
 rcases Nat.lt_or_ge i d.us.length with g|g
 ·have e1:(uAdd d v a).us.getD i u0=d.us.getD i u0:=kV g
  have o:(zX s u).us.getD i pu0=s.us.getD i pu0:=kV omX
  rw [e1,o]
  exact (h.un i g).stay l
 have e1:(uAdd d v a).us.getD i u0=v:=jB omX
 have o:(zX s u).us.getD i pu0=u:=jB omX
 rw [e1,o]
 exact hU.stay fun k cs q B=>⟨c k q,B⟩
def afY (ob:Option Nat) (cs:List Value) (v:Value) (W:World):Prop:=∃ k,v = .slice (some ⟨k,0,none⟩) 1 1∧ob≠some k∧Blk W k cs 51
theorem afY.st {ob:Option Nat} : ∀ v w w',gB ob w w'→afY ob cs v w→afY ob cs v w':=fun _ _ _ h ⟨k,b,a,c⟩=>⟨k,b,a,h.blk c a⟩
theorem sK {k j:Nat} {a:List Value} {t t':TypeId} (h:Blk W k cs t) (c:Blk W j a t') (d:t≠t'):k≠j:=fun e=>by
 subst e
 have f:W.heap[k]?=_:=h
 have b:W.heap[k]?=_:=c
 rw [f] at b
 cases b
 exact d rfl
def pU (wt:Bool):List Value:=[str [],.int .i64 0,.slice none 0 0,.slice none 0 0,.slice none 0 0,.bool wt]
theorem pO (wt:Bool):∀ c∈pU wt,c.oneCell'=true:=fun c a=>by
 simp only [pU,List.mem_cons,List.not_mem_nil,or_false] at a
 rcases a with rfl|rfl|rfl|rfl|rfl|rfl <;> rfl
theorem zY:∀ (s cur:Str),(jo cur s).length≤s.length+(if cur = [] then 0 else 1)
 | [],cur=>by
  unfold jo
  split <;> simp
 | c::r,cur=>by
  have a:=zY r []
  have b:=zY r (cur ++ [c])
  rw [if_pos rfl] at a
  rw [if_neg spX] at b
  unfold jo
  split
  ·split
   ·simp only [List.length_cons];omega
   simp only [List.length_cons];omega
  simp only [List.length_cons];omega
theorem Hr {k:Str} (a:l.length≤100000) (hf:fieldsB l=k::r):r.length≤100000:=by
 have:=zY l []
 rw [← zV,hf,if_pos rfl] at this
 simp only [List.length_cons] at this
 omega
def JL:List Str→Option (List Int)
 | []=>some []
 | s::r=>match Z8 s,JL r with
  | some n,some ns=>some (n::ns)
  | _,_=>none
theorem JM:∀ ws,fQ ws=JL ws
 | []=>rfl
 | s::r=>by
  rw [fQ,JL,Z9,JM r]
  cases Z8 s <;> cases JL r <;> rfl
def adg (s:PS) (r:List Str):Option PU :=
 let wt:=decide (1<r.length) && decide (r.getD (r.length-1) []=ajz)
 let q:=if wt then r.take (r.length-1) else r
 if 0≤s.G∧0≤s.P∧0≤s.L∧(q.length:Int)=2+s.G+s.P+s.L then
  match JL (q.drop 1) with
  | some xs=>some ⟨q.getD 0 [],xs.getD 0 0,(xs.drop 1).take s.G.toNat,(xs.drop (1+s.G.toNat)).take s.P.toNat,xs.drop (1+s.G.toNat+s.P.toNat),wt⟩
  | none=>none
 else none
theorem aad (s:PS) (r:List Str):zU s r=adg s r:=by
 unfold zU adg
 simp only [JM]
 rfl
def aae (s:PS) (ws:List Str):Option PS:=match ws with
 | []=>some s
 | k::r =>
  if k=iI then
   (if s.last = []∧r.length=3 then (match JL r with|some xs=>some { s with G:=xs.getD 0 0,P:=xs.getD 1 0,L:=xs.getD 2 0,last:=k } | none=>none) else none)
  else if k=fC then
   (if s.last ∈ [iI,fC]∧r.length=2 then (match JL r with|some xs=>some { s with ps:=s.ps ++ [(xs.getD 0 0,xs.getD 1 0)],last:=k } | none=>none) else none)
  else if k=gq then
   (if s.last ∈ [iI,fC,gq,gy] then (match JL r with|some xs=>some { s with fs:=s.fs ++ [(xs,[])],last:=k } | none=>none) else none)
  else if k=gy then
   (if s.last ∈ [gq,gy] then (match JL r with|some xs=>some { s with fs:=Bl s.fs xs,last:=k } | none=>none) else none)
  else if k=lY then
   (if s.last ∉ [[],lU] then (match adg s r with|some u=>some { s with us:=s.us ++ [u],last:=k } | none=>none) else none)
  else if k=lU then
   (if s.last ∉ [[],lU]∧r.length=0 then some { s with last:=k } else none)
  else none
theorem aaf (s:PS) (l:Str):iE s l=aae s (jo [] l):=by
 unfold iE aae
 rw [zV]
 simp only [JM,aad]
 rfl
def aqt (w:Str):Prop:=w ≠ []∧∀ b∈w,b≠32
def Bnd (xs:List Int):Prop:=∀ x∈xs,-1000000000≤x∧x≤1000000000
def sN (f:FaV):List Int × List (List Int):=(f.o.xs,f.hs.map (·.xs))
def qm (u:UnV):PU:=⟨u.nm,u.pp,u.gs,u.vs,u.ps,u.wt⟩
structure afZ (c:CxV) (r:RoV):Prop where
 roll:Bnd [r.G,r.P,r.L]
 pts:∀ p∈c.ps,Bnd [p.1,p.2]
 fas:∀ f∈c.fs,Bnd f.o.xs∧∀ h∈f.hs,Bnd h.xs
 us:∀ u∈r.us,(u.gs.length:Int)=r.G∧(u.vs.length:Int)=r.P∧(u.ps.length:Int)=r.L∧Bnd (qU u)
 nms:∀ u∈r.us,aqt u.nm∧10∉u.nm
def jH (f:FaV):FaV:=⟨⟨undef,f.o.xs⟩,undef,f.hs.map fun h=>⟨undef,h.xs⟩⟩
def Et (c:CxV):CxV:=⟨undef,c.ps,undef,c.fs.map jH⟩
def qZ (u:UnV):UnV:=⟨u.nm,u.pp,.slice none 0 0,u.gs,.slice none 0 0,u.vs,.slice none 0 0,u.ps,u.wt⟩
def stripR (r:RoV):RoV:=⟨r.G,r.P,r.L,undef,r.us.map qZ⟩
theorem getD_map' {α β:Type} {f:α→β} {d:α} {e:β} (h:f d=e) (l:List α) (k:Nat):(l.map f).getD k e=f (l.getD k d):=by
 rw [List.getD_eq_getElem?_getD,List.getElem?_map,List.getD_eq_getElem?_getD]
 cases l[k]? with
 | none=>exact h.symm
 | some x=>rfl
theorem zZ (fs:List FaV) (k:Nat):(fs.map jH).getD k f0=jH (fs.getD k f0):=getD_map' (f:=jH) (d:=f0) rfl fs k
theorem Qc (f:FaV) (k:Nat):((jH f).ri.getD k r0).xs=(f.ri.getD k r0).xs:=by
 have e:(jH f).ri=f.ri.map fun h=>(⟨undef,h.xs⟩:RiV):=rfl
 rw [e]
 have:=getD_map' (f:=fun h:RiV=>(⟨undef,h.xs⟩:RiV)) (d:=r0) (e:=r0) rfl f.ri k
 rw [this]
theorem JO (f:FaV):(jH f).ri.length=f.ri.length:=by simp [jH,FaV.ri]
theorem Aa (f:FaV) (bad:Int→List Int→Bool):BL (jH f).ri bad=BL f.ri bad:=by
 unfold BL
 refine decide_eq_decide.2 ⟨?_,?_⟩
 ·rintro ⟨k,a,b⟩;exact ⟨k,by rwa [JO] at a,by rwa [Qc] at b⟩
 rintro ⟨k,a,b⟩;exact ⟨k,by rwa [JO],by rwa [Qc]⟩
theorem JQ (n:Nat) (f:FaV):jw n (jH f)=jw n f:=by
 unfold jw
 rw [Aa,show (jH f).hs.length=f.hs.length by simp [jH]]
theorem Eu (fs:List FaV) (p:FaV→Bool) (h:∀ f,p (jH f)=p f):(fs.map jH).any p=fs.any p:=by
 rw [List.any_map]
 congr 1
 funext f
 exact h f
theorem NJ (ps:List Pt) (t:Int) (f:FaV) (p:Pt):iZ ps t (jH f) p=iZ ps t f p:=by
 unfold iZ
 simp only [jH,List.all_map]
 rfl
theorem NK {α β:Type} (g:α→β):∀ (l:List α) (n:Nat),(l.map g).eraseIdx n=(l.eraseIdx n).map g
 | [],n=>rfl
 | a::l,0=>rfl
 | a::l,n+1=>by rw [List.map_cons,List.eraseIdx_cons_succ,List.eraseIdx_cons_succ,NK g l n];rfl
theorem Uu (ps:List Pt) (t:Int) (f:FaV) (r:Nat) (p:Pt):iZ ps t (TN (jH f) r) p=iZ ps t (TN f r) p:=by
 unfold iZ TN
 simp only [jH,NK,List.all_map]
 rfl
theorem XG (fs:List FaV):stL (fs.map jH)=stL fs:=by
 unfold stL
 rw [List.length_map]
 congr 1
 funext f
 unfold gF stF
 rw [zZ,JO]
 congr 1
 funext r
 unfold gR
 rw [Qc]
theorem Qd (ps:List Pt) (fs:List FaV):iG ps (fs.map jH)=iG ps fs:=by
 have a:lM ps (fs.map jH)=lM ps fs:=by
  funext s
  unfold lM
  rw [zZ,Uu]
 have b:pz ps (fs.map jH)=pz ps fs:=by
  funext s
  unfold pz
  rw [List.length_map]
  congr 1
  funext i
  unfold uN
  rw [zZ,NJ]
 unfold iG
 rw [XG,a,b]
theorem Qe (c:CxV):iq (Et c)=iq c:=by
 unfold iq sU Et
 simp only [List.length_map,Qd]
 rw [Eu _ _ (JQ _),Eu _ _ (fun f=>Aa f _),Eu _ _ (fun f=>Aa f _)]
theorem Ew (us:List UnV) (k:Nat):(us.map qZ).getD k u0=qZ (us.getD k u0):=getD_map' (f:=qZ) (d:=u0) rfl us k
theorem jq (r:RoV):gG (stripR r)↔gG r:=by
 have l:(stripR r).us.length=r.us.length:=List.length_map _
 have hb:Fp (stripR r)=Fp r:=by unfold Fp;rw [l];rfl
 have i:∀ j,GoodAt (stripR r) j↔GoodAt r j:=fun j=>by
  have e:∀ k,(stripR r).us.getD k u0=qZ (r.us.getD k u0):=Ew r.us
  constructor
  ·rintro ⟨a,b,d,f⟩
   refine ⟨?_,fun k c=>?_,fun k c=>?_,fun h=>?_⟩
   ·rw [e] at a;exact a
   ·have:=b k c;rw [e,e] at this;exact this
   ·have:=d k c;rw [e,e] at this;exact this
   have:=f h;rw [e] at this;exact this
  rintro ⟨a,b,d,f⟩
  refine ⟨?_,fun k c=>?_,fun k c=>?_,fun h=>?_⟩
  ·rw [e];exact a
  ·rw [e,e];exact b k c
  ·rw [e,e];exact d k c
  rw [e];exact f h
 constructor
 ·rintro ⟨a,b⟩
  exact ⟨by rw [hb] at a;exact a,fun j g=>(i j).1 (b j (by simpa [stripR] using g))⟩
 rintro ⟨a,b⟩
 exact ⟨by rw [hb];exact a,fun j g=>(i j).2 (b j (by simpa [stripR] using g))⟩
theorem JR (r:RoV):ji (stripR r)=ji r:=by
 by_cases h:gG r
 ·rw [jy h,jy ((jq r).2 h)]
 rw [gY h,gY (fun k=>h ((jq r).1 k))]
def PS.cx (s:PS):CxV:=⟨undef,s.ps,undef,s.fs.map fun f=>⟨⟨undef,f.1⟩,undef,f.2.map fun h=>⟨undef,h⟩⟩⟩
def PS.ro (s:PS):RoV:=⟨s.G,s.P,s.L,undef,s.us.map fun u=>⟨u.nm,u.pp,.slice none 0 0,u.gs,.slice none 0 0,u.vs,.slice none 0 0,u.qs,u.wt⟩⟩
noncomputable def XH (s:PS):Int:=gQ s.cx s.ro (iq s.cx)
structure Says (c:CxV) (r:RoV) (s:PS):Prop where
 ps:c.ps=s.ps
 fs:c.fs.map sN=s.fs
 G:r.G=s.G
 P:r.P=s.P
 L:r.L=s.L
 us:r.us.map qm=s.us
theorem Says.cx {c:CxV} {r:RoV} {s:PS} (h:Says c r s):s.cx=Et c:=by
 unfold PS.cx Et
 rw [← h.ps,← h.fs,List.map_map]
 congr 1
 refine List.map_congr_left fun f _=>?_
 simp only [Function.comp,sN,jH,List.map_map]
 rfl
theorem Says.ro {c:CxV} {r:RoV} {s:PS} (h:Says c r s):s.ro=stripR r:=by
 unfold PS.ro stripR
 rw [← h.G,← h.P,← h.L,← h.us,List.map_map]
 rfl
theorem Says.err {r:RoV} {s:PS} (h:Says c r s):gQ c r (iq c)=XH s:=by
 unfold XH
 rw [h.cx,h.ro,Qe]
 unfold gQ
 rw [JR]
 simp only [Et,stripR,List.length_map]
theorem Qg (c:CxV) (r:RoV):kY (Et c) (stripR r)=kY c r:=by
 unfold kY
 simp only [Et,stripR,lA,List.map_map,List.flatMap_map]
 congr 1
 congr 1
 congr 1
 congr 1
 funext f
 simp only [jH,wX,List.map_map]
 rfl
theorem XI {r:RoV} (h:gQ c r (iq c)=0):iq c=false∧gG r∧r.us.length=c.fs.length:=by
 unfold gQ at h
 cases hb:iq c with
 | true=>rw [hb,if_pos rfl] at h;cases h
 | false =>
  rw [hb,if_neg spX] at h
  have a:gG r:=Classical.byContradiction fun hn=>by
   rw [gY hn,if_pos dcX] at h;cases h
  rw [jy a,if_neg spX] at h
  refine ⟨rfl,a,Classical.byContradiction fun hn=>?_⟩
  rw [if_pos hn] at h
  cases h
theorem NM {c:UInt8} (h:kK c=true):c≠32∧c≠10:=⟨fun e=>by subst e;revert h;decide,fun e=>by subst e;revert h;decide⟩
theorem Ac {n m:Int} (h:dZ xs n m=true) (a:m≤1000000000):(xs.length:Int)=n∧∀ x∈xs,0≤x∧x≤1000000000:=by
 simp only [dZ,Bool.and_eq_true,decide_eq_true_eq,List.all_eq_true,inB] at h
 exact ⟨h.1,fun x hx=>by have:=h.2 x hx;omega⟩
theorem Ey {r:RoV} {u:UnV} (h:gK r u=true):(u.nm ≠ []∧u.nm.length≤12∧∀ c∈u.nm,kK c=true)∧(u.gs.length:Int)=r.G∧(u.vs.length:Int)=r.P∧(u.ps.length:Int)=r.L∧∀ x∈qU u,0≤x∧x≤1000000000:=by
 simp only [gK,zn,List.all_cons,List.all_nil,id,Bool.and_eq_true,and_true,Bool.not_eq_true',decide_eq_false_iff_not,decide_eq_true_eq,List.all_eq_true] at h
 obtain ⟨a,l,b,m,n,d,e,f⟩:=h
 have hv:gX u≤1000000000:=by unfold gX;split <;> decide
 have g:nK u≤1000000000:=by unfold nK;split <;> decide
 obtain ⟨g1,g2⟩:=Ac d omX
 obtain ⟨i,v2⟩:=Ac e hv
 obtain ⟨j,k⟩:=Ac f g
 refine ⟨⟨a,omX,b⟩,g1,i,j,fun x hx=>?_⟩
 simp only [qU,List.mem_cons,List.cons_append,List.append_assoc,List.mem_append] at hx
 rcases hx with rfl|hx|hx|hx
 ·omega
 ·exact g2 x hx
 ·exact v2 x hx
 exact k x hx
theorem NP {r:RoV} (h:gG r):(0≤r.G∧r.G≤6∧0≤r.P∧r.P≤12∧0≤r.L∧r.L≤3∧0<(r.us.length:Int)∧(r.us.length:Int)≤64)∧∀ u∈r.us,gK r u=true:=by
 refine ⟨Iy.1 h.bnd,fun u b=>?_⟩
 obtain ⟨k,a,rfl⟩:=List.getElem_of_mem b
 have:=(h.good k a).right
 rw [aX a] at this
 exact this
theorem Qh (h:iq c=false):(3≤c.ps.length∧c.ps.length≤120∧1≤c.fs.length∧c.fs.length≤64)∧(∀ p∈c.ps,(-1000000≤p.1∧p.1≤1000000) ∧ -1000000≤p.2∧p.2≤1000000)∧∀ f∈c.fs,f.hs.length≤8∧∀ x∈f.ri,(∀ n∈x.xs,0≤n∧n<c.ps.length)∧3≤x.xs.length∧x.xs.length≤40:=by
 simp only [iq,Bool.or_eq_false_iff] at h
 obtain ⟨a,b,m,d,_⟩:=h
 simp only [sU,Bool.or_eq_false_iff,decide_eq_false_iff_not] at a
 refine ⟨omX,fun p e=>mW (rY b p e),fun f hf=>?_⟩
 obtain ⟨g,j⟩:=V5 (rY d f hf)
 refine ⟨g,fun x hx=>?_⟩
 obtain ⟨k,l⟩:=j x hx
 refine ⟨fun n hn=>?_,l⟩
 obtain ⟨i,hi,rfl⟩:=List.getElem_of_mem hn
 have:=k i hi
 rw [aX hi] at this
 exact this
theorem RZ (h:∀ n∈xs,(0:Int)≤n∧n≤1000000000):Bnd xs:=fun n hn=>by have:=h n hn;omega
theorem XJ {r:RoV} (h:gQ c r (iq c)=0):afZ c r:=by
 obtain ⟨i,j,_⟩:=XI h
 obtain ⟨⟨q,a2,a3,a4⟩,a5,k⟩:=Qh i
 obtain ⟨b1,b2⟩:=NP j
 refine ⟨fun x hx=>?_,fun p l x hx=>?_,fun f hf=>?_,fun u g=>?_,fun u g=>?_⟩
 ·simp only [List.mem_cons,List.not_mem_nil,or_false] at hx
  rcases hx with rfl|rfl|rfl <;> omega
 ·have:=a5 p l
  simp only [List.mem_cons,List.not_mem_nil,or_false] at hx
  rcases hx with rfl|rfl <;> omega
 ·obtain ⟨a,d⟩:=k f hf
  have hb:∀ x∈f.ri,Bnd x.xs:=fun x hx=>RZ fun n hn=>by have:=(d x hx).1 n hn;omega
  exact ⟨hb f.o (List.mem_cons_self ..),fun x hx=>hb x (List.mem_cons_of_mem _ hx)⟩
 ·obtain ⟨_,a,d,e,m⟩:=Ey (b2 u g)
  exact ⟨a,d,e,RZ m⟩
 obtain ⟨⟨a,d,e⟩,_⟩:=Ey (b2 u g)
 exact ⟨⟨a,fun b hb=>(NM (e b hb)).1⟩,fun hb=>(NM (e _ hb)).2 rfl⟩
theorem qC (h:Bnd xs):Ku xs:=fun x hx=>by have:=h x hx;omega
theorem XK {ls:List Str} (h:∀ l∈ls,l.length≤m):(bZ ls).length≤ls.length*(m+1):=by
 induction ls with
 | nil=>simp [bZ]
 | cons l r ih =>
  have b:=h l (List.mem_cons_self ..)
  have c:=ih fun x hx=>h x (List.mem_cons_of_mem _ hx)
  have e:bZ (l::r)=l ++ [10]++bZ r:=by simp [bZ]
  have a:(l::r).length*(m+1)=r.length*(m+1)+1*(m+1):=by rw [List.length_cons,Nat.add_mul]
  rw [e,a,List.length_append,List.length_append]
  simp only [List.length_cons,List.length_nil]
  omega
theorem aag {α:Type} {f:α→List Str} {l:List α} (h:∀ x∈l,(f x).length≤m):(l.flatMap f).length≤l.length*m:=by
 induction l with
 | nil=>simp
 | cons a r ih =>
  have b:=h a (List.mem_cons_self ..)
  have c:=ih fun x hx=>h x (List.mem_cons_of_mem _ hx)
  rw [List.flatMap_cons,List.length_append,List.length_cons,Nat.add_mul]
  omega
theorem BR {r:RoV} (h:gQ c r (iq c)=0):qV c r:=by
 obtain ⟨j,m,_⟩:=XI h
 have hS:=XJ h
 obtain ⟨⟨n,a2,a3,a4⟩,a5,e⟩:=Qh j
 obtain ⟨b1,b2⟩:=NP m
 have g:∀ u∈r.us,(qU u).length≤22∧u.nm.length≤12:=fun u b=>by
  obtain ⟨⟨_,k,_⟩,q,s,t,_⟩:=Ey (b2 u b)
  refine ⟨?_,k⟩
  simp only [qU,List.length_cons,List.length_append,List.cons_append]
  omega
 refine ⟨qC hS.roll,fun p i=>qC (hS.pts p i),fun f hf=>?_,fun f hf x hx=>?_,fun u b=>?_,?_⟩
 ·have:=(e f hf).2 f.o (List.mem_cons_self ..)
  exact ⟨qC (hS.fas f hf).1,omX,omX⟩
 ·have:=(e f hf).2 x (List.mem_cons_of_mem _ hx)
  exact ⟨qC ((hS.fas f hf).2 x hx),omX,omX⟩
 ·have:=g u b
  exact ⟨qC (hS.us u b).2.2.2,omX,omX⟩
 have MF:∀ l∈kY c r,l.length≤1000:=by
  have a:∀ (k:Str) (xs:List Int),Ku xs→k.length≤20→xs.length≤40→(k++spell xs).length≤1000:=fun k xs hx v d=>by
   have:=iV xs hx
   rw [List.length_append];omega
  intro l d
  simp only [kY,lA,List.mem_append,List.mem_map,List.mem_flatMap,List.mem_cons,List.not_mem_nil,or_false] at d
  rcases d with (((rfl|⟨p,i,rfl⟩)|⟨f,hf,d⟩)|⟨u,b,rfl⟩)|rfl
  ·exact a _ _ (qC hS.roll) dcX spX
  ·exact a _ _ (qC (hS.pts p i)) dcX spX
  ·simp only [wX,List.mem_cons,List.mem_map] at d
   rcases d with rfl|⟨x,hx,rfl⟩
   ·exact a _ _ (qC (hS.fas f hf).1) dcX ((e f hf).2 f.o (List.mem_cons_self ..)).2.2
   exact a _ _ (qC ((hS.fas f hf).2 x hx)) dcX ((e f hf).2 x (List.mem_cons_of_mem _ hx)).2.2
  ·have j:=g u b
   have m:=iV (qU u) (qC (hS.us u b).2.2.2)
   rw [qA,List.length_append,List.length_append,List.length_append]
   have w:(if u.wt=true then G7 else []).length≤6:=by split <;> decide
   have y:PO.length=5:=rfl
   omega
  decide
 have hn:(kY c r).length≤900:=by
  have hf:(c.fs.flatMap wX).length≤c.fs.length*9:=aag fun f hf=>by
   have:=(e f hf).1
   simp only [wX,List.length_cons,List.length_map];omega
  simp only [kY,lA,List.length_append,List.length_map,List.length_cons,List.length_nil]
  omega
 have:=XK MF
 have:(kY c r).length*(1000+1)≤900*1001:=Nat.mul_le_mul_right _ hn
 omega
def RdJ (w0:World) (b:Nat) (s:PS) (S:Nat→Prop) (W:World):Prop:=RdI w0 b s S W∧∀ u∈s.us,u.nm.length≤100000
theorem RdJ.Lh (w0:World) (b:Nat):Kz (RdJ w0 b) :=
 ⟨fun s S S' W W' h k hS=>⟨(RdI.Lh w0 b).1 s S S' W W' h.1 k hS,h.2⟩,fun s S W W' j h a k=>⟨(RdI.Lh w0 b).2 s S W W' j h.1 a k,h.2⟩⟩
def aah (s:PS) (j:Nat):Prop:=PY s j∧(s.last ∈ [gq,gy]→s.fs ≠ [])
theorem aah.step (s:PS) (l:Str) (s':PS) (j:Nat) (h:aah s j) (hs:iE s l=some s'):aah s' (j+1):=⟨h.1.step hs,Uo hs h.2⟩
theorem step_nil {s:PS} (hf:fieldsB l = []):iE s l=some s:=by unfold iE;rw [hf]
theorem ru {s:PS} (hf:fieldsB l=iI::r):iE s l=if s.last = []∧r.length=3 then (match fQ r with|some xs=>some (PZ s xs)|none=>none) else none:=by
 unfold iE;rw [hf];simp only [];rw [if_pos trivial];rfl
theorem oV {s:PS} (hf:fieldsB l=fC::r):iE s l=if s.last ∈ [iI,fC]∧r.length=2 then (match fQ r with|some xs=>some (nO s xs)|none=>none) else none:=by
 unfold iE;rw [hf];simp only [];rw [if_neg dcX,if_pos trivial];rfl
theorem uU {s:PS} (hf:fieldsB l=gq::r):iE s l=if s.last ∈ [iI,fC,gq,gy] then (match fQ r with|some xs=>some (wY s xs)|none=>none) else none:=by
 unfold iE;rw [hf];simp only [];rw [if_neg dcX,if_neg dcX,if_pos trivial];rfl
theorem uV {s:PS} (hf:fieldsB l=gy::r):iE s l=if s.last ∈ [gq,gy] then (match fQ r with|some xs=>some (FX s xs)|none=>none) else none:=by
 unfold iE;rw [hf];simp only [];rw [if_neg dcX,if_neg dcX,if_neg dcX,if_pos trivial];rfl
theorem pR {s:PS} (hf:fieldsB l=lY::r):iE s l=if s.last ∉ [[],lU] then (match zU s r with|some u=>some { zX s u with last:=lY } | none=>none) else none:=by
 unfold iE;rw [hf];simp only [];rw [if_neg dcX,if_neg dcX,if_neg dcX,if_neg dcX,if_pos trivial];rfl
theorem step_end {s:PS} (hf:fieldsB l=lU::r):iE s l=if s.last ∉ [[],lU]∧r.length=0 then some { s with last:=lU } else none:=by
 unfold iE;rw [hf];simp only [];rw [if_neg dcX,if_neg dcX,if_neg dcX,if_neg dcX,if_neg dcX,if_pos trivial]
theorem step_bad {s:PS} {k:Str} (hf:fieldsB l=k::r) (a:k≠iI∧k≠fC∧k≠gq∧k≠gy∧k≠lY∧k≠lU):iE s l=none:=by
 obtain ⟨b,c,d,e,f,g⟩:=a
 unfold iE;rw [hf];simp only [];rw [if_neg b,if_neg c,if_neg d,if_neg e,if_neg f,if_neg g]
theorem XL {s:PS} {u:PU} (h:zU s r=some u) (a:∀ x∈r,x.length≤100000):u.nm.length≤100000:=by
 obtain ⟨nm,ws,xs,b,_,_,_,_,_,rfl⟩:=Ut h
 exact a nm (vN nm (by rw [b];exact List.mem_cons_self ..))
def XP (w0:World) (S:Nat→Prop) (W:World):Prop:=Ext w0 W∧∀ k,S k→w0.heap.size≤k
theorem gJ.lo {Q:Nat→Prop} {lo:Nat} {W:World} {v:Value} {xs:List Int} (h:gJ Q W v xs) (hQ:∀ k,Q k→lo≤k):Ints .i64 lo W v xs:=by
 rcases h with ⟨rfl,rfl⟩|⟨k,off,cap,cs,rfl,a,b,c,d,e⟩
 ·exact Sl.nil _ _ _
 refine ⟨spX,some ⟨k,off,none⟩,cap,rfl,a,b,.inr ⟨_,rfl,hQ k c,?_⟩⟩
 have:=((Row.bI d).drop off).take xs.length
 rw [e] at this
 exact this.of_eq (by rw [BU];simp)
theorem xC.sl {Q:Nat→Prop} {lo:Nat} {el:TypeId} {sz:Nat} {xs:List Value} (h:xC Q W el sz v n xs) (hQ:∀ k,Q k→lo≤k):Sl lo W v n sz xs:=by
 obtain ⟨⟨a,b⟩,c⟩:=h
 refine Sl.dD (base:=lo) (el:=el) ⟨a,?_⟩
 rcases b with d|⟨g,cap,cur,rfl,hb,e⟩
 ·exact .inl d
 exact .inr ⟨g,cap,cur,rfl,hQ g (c g rfl),e⟩
def rdC (d:RdD) (s:PS):CxV:=⟨d.pv,s.ps,d.fv,d.vs⟩
def rdR (d:RdD) (s:PS):RoV:=⟨s.G,s.P,s.L,d.uv,d.us⟩
theorem NQ {α β γ:Type} (f:α→γ) (g:β→γ) (a0:α) (b0:β):∀ (l:List α) (m:List β),l.length=m.length→(∀ i,i<l.length→f (l.getD i a0)=g (m.getD i b0))→l.map f=m.map g
 | [],[],_,_=>rfl
 | [],b::m,h,_=>by simp at h
 | a::l,[],h,_=>by simp at h
 | a::l,b::m,h,hi=>by
  rw [List.map_cons,List.map_cons,show f a=g b from hi 0 spX,NQ f g a0 b0 l m (by simpa using h) (fun i c=>hi (i+1) (by simpa using c))]
theorem RdK.land {d:RdD} {s:PS} {S:Nat→Prop} (h:RdK w0 b d s S W) (hn:∀ u∈s.us,u.nm.length≤100000):(rdC d s).ok w0.heap.size W∧(rdR d s).ok w0.heap.size W∧Says (rdC d s) (rdR d s) s:=by
 have hQ:∀ k,RdQ w0 b S k→w0.heap.size≤k:=fun k q=>q.1
 have a:=h.fsl
 have c:=h.usl
 refine ⟨⟨h.pts.sl hQ,h.fsr.sl hQ,fun f hf=>?_⟩,⟨h.usr.sl hQ,fun u e=>?_⟩,⟨rfl,?_,rfl,rfl,rfl,?_⟩⟩
 ·obtain ⟨i,hi,rfl⟩:=List.getElem_of_mem hf
  have k:=h.fa i hi
  rw [show d.vs.getD i f0=(rdC d s).fs[i] from aX hi] at k
  exact ⟨by have:=k.oi.lo hQ;rw [← k.ox] at this;exact this,k.hv.sl hQ,fun x hx=>(k.ri x hx).lo hQ⟩
 ·obtain ⟨i,hi,rfl⟩:=List.getElem_of_mem e
  have k:=h.un i hi
  rw [show d.us.getD i u0=(rdR d s).us[i] from aX hi] at k
  have m:(s.us.getD i pu0).nm.length≤100000:=hn _ (by rw [aX (by have:i<d.us.length:=hi;omega)];exact List.getElem_mem _)
  have e1:=k.nm
  have g:=k.gs
  have j:=k.vs
  have l:=k.qs
  exact ⟨by have:=k.gi.lo hQ;rw [← g] at this;exact this,by have:=k.vi.lo hQ;rw [← j] at this;exact this,by have:=k.qi.lo hQ;rw [← l] at this;exact this,by rw [e1];omega⟩
 ·show d.vs.map sN=s.fs
  have:=NQ sN id f0 ([],[]) d.vs s.fs a (fun i hi=>by
   have k:=h.fa i hi
   show ((d.vs.getD i f0).o.xs,(d.vs.getD i f0).hs.map (·.xs))=_
   rw [k.ox,k.hx];rfl)
  rw [List.map_id] at this
  exact this
 show d.us.map qm=s.us
 have:=NQ qm id u0 pu0 d.us s.us c (fun i hi=>by
  have k:=h.un i hi
  show (⟨_,_,_,_,_,_⟩:PU)=_
  rw [k.nm,k.pp,k.gs,k.vs,k.qs,k.wt];rfl)
 rw [List.map_id] at this
 exact this
noncomputable def iW (t:Str):PS ⊕ (Int × Int) :=
 if 40000<t.length then .inr (0,3) else match BH iE PS0 (dM 10 t) 1 with
 | .inr n=>.inr ((n:Int),5)
 | .inl s=>if s.last=lU then (if XH s=0 then .inl s else .inr (0,XH s)) else .inr (0,5)
def dX:List Value:=[.slice none 0 0,.slice none 0 0,.int .i64 0,.int .i64 0,.int .i64 0,.slice none 0 0]
def Ht (q:PS ⊕ (Int × Int)) (lo:Nat) (v:Value) (w:World):Prop:=match q with
 | .inr (n,e)=>v = .tuple #[.agg dX.toArray,.int .i64 n,.int .i64 e]
 | .inl s=>∃ c r,v = .tuple #[.agg (fA c r).toArray,.int .i64 0,.int .i64 0]∧c.ok lo w∧r.ok lo w∧Says c r s
def TkP (w0 w:World) (b:Nat) (o:Option PS) (S:Nat→Prop):Ending→World→Prop
 | .returned _,W'=>∃ s',o=some s'∧RdI w0 b s' S W'∧∀ k,S k→W'.heap[k]?=w.heap[k]?
 | .panicked ch,W'=>o=none∧ch=thrown nN∧Ext w W'
 | _,_=>False
theorem TkP.yes {s':PS} {S:Nat→Prop} {e:Ending} (h:TkP w0 w b (some s') S e W'):Ret (fun _ W'=>RdI w0 b s' S W'∧∀ k,S k→W'.heap[k]?=w.heap[k]?) e W':=by
 cases e with
 | returned v=>obtain ⟨d,a,c⟩:=h;cases a;exact c
 | panicked ch=>cases h.1
 | _=>exact h
theorem TkP.no {S:Nat→Prop} {e:Ending} (h:TkP w0 w b none S e W'):Pan nN (fun W'=>Ext w W') e W':=by
 cases e with
 | returned v=>obtain ⟨c,a,_⟩:=h;cases a
 | panicked ch=>exact h.2
 | _=>exact h
set_option maxHeartbeats 1000000 in
theorem Uw (w0:World) (b lo:Nat) (s:PS) (S:Nat→Prop) (p:Value) (r:List Str) (w:World) (hI:RdI w0 b s S w) (hL0:sF w0) (V:Strs lo w p r) (hs:∀ x∈r,x.length≤100000) (hr:r.length≤100000) (hc:s.us.length≤100000) :
  Calls Tryz.prog 123 #[.pointer (some ⟨b,0,none⟩),p] w (fun e W'=>TkP w0 w b ((zU s r).map (zX s)) S e W'):=by
 obtain ⟨d,hK⟩:=hI
 refine wM (vs:=[.pointer (some ⟨b,0,none⟩),p]) func123 Z ntmps123 Z ?_
 refine au (L.o (bU (v:=.agg (pU false).toArray) (parts:=[]) (vs:=[]) Z (fun w=>by kernel_rfl) (L.o (O.alloc zeroValue51 (fun b4 w4 ax az ai al=>?_)))))
 refine L.o (aK sizeOf51 Z Z Z al leX (pO false) (fun w9 I am=>?_))
 replace I:Upd b4 w4 w9:=I
 have X:Blk w9 b4 (pU false) 51:=am
 have t:Ext w w9:=ai.upd I (.inr omX)
 refine ak (aj (aQ Z (L.le Z (Sl.val V) (L.o (dh Z Z omX (ah Z (aj (?_))))))))
 refine dS (σ:=Unit) (fun _=>[(0,.pointer (some ⟨b,0,none⟩)),(1,p),(4,.pointer (some ⟨b4,0,none⟩)),(5,.int .i64 ((r.length:Int)-1)),(21,.bool (sW r))]) (fun _ w'=>w'=w9) ?_ ?_
 ·rcases Nat.lt_or_ge 1 r.length with U|U
  ·rw [show ((r.length:Int)-1)=((r.length-1:Nat):Int) by omega]
   refine aA (aO Z (iM Z Z omX (aN Z Z (L.m Z (dG Z Z (V.ext t) (cZ Z ((V.ext t).at (show r.length-1<r.length by omega)) (L.o (fM runUnderlying9 Z Z (fun Y=>?_) (fun Y=>?_)))))))))
   ·refine aG Z (ak (bC (()) ⟨rfl,rfl,rfl,rfl,?_,trivial⟩ Z))
    ·exact congrArg (fun z=>some (Value.bool z)) (by rw [sW,decide_eq_true U,Bool.true_and];exact (decide_eq_true Y).symm)
   refine aG Z (ak (bC (()) ⟨rfl,rfl,rfl,rfl,?_,trivial⟩ Z))
   ·exact congrArg (fun z=>some (Value.bool z)) (by rw [sW,decide_eq_true U,Bool.true_and];exact (decide_eq_false Y).symm)
  refine aA (aO Z (gW Z Z omX (L.m Z (L.pp (L.pp (L.p (aI Z (ak (bC (()) ⟨rfl,rfl,rfl,rfl,?_,trivial⟩ Z)))))))))
  ·exact congrArg (fun z=>some (Value.bool z)) (by rw [sW,decide_eq_false omX,Bool.false_and])
 rintro _ an rfl
 refine dS (σ:=Unit) (fun _=>[(0,.pointer (some ⟨b,0,none⟩)),(1,NI p r),(4,.pointer (some ⟨b4,0,none⟩))]) (fun _ W=>Ext w W∧Blk W b4 (pU (sW r)) 51) ?_ ?_
 ·rcases u:sW r with _|_
  ·refine bn (T.skip (bC (()) ⟨rfl,?_,rfl,trivial⟩ ⟨t,X⟩))
   ·exact congrArg some (by rw [NI,u];rfl)
  have U:1<r.length:=by unfold sW at u;simp only [Bool.and_eq_true,decide_eq_true_eq] at u;exact u.1
  rw [show ((r.length:Int)-1)=((r.length-1:Nat):Int) by omega]
  refine aZ (?_)
  refine T.any mixed 5 1 [1,5,4] Z [.is _,.is _,.is _,.is _,.is undef] [[],[],[0,1],[],[3]] [none,none,none,none,some 0] [[],[],[0,1],[],[3],[0,1,2,3,4]] (Us an b4 51 [pU false,(pU false).set 5 (.bool true)]) (fun _ _=>True) krX krX krX Z trivial (Us.start X (Keep.drew _ _)) ⟨fun c f hx=>ObK.op rfl (O.move Z ⟨⟨trivial,hx⟩,rfl⟩),
    fun c f hx=>ObK.op Z (O.move Z ⟨⟨trivial,hx⟩,rfl⟩),
    fun c f hx=>ObK.op Z (CZ runUnderlying61 sizeOf9 Z Z (V.ext (hx.1.ext t (fun k e ↦ by cases e;omega))) omX ⟨⟨trivial,hx⟩,rfl⟩),
    fun c f hx=>ObK.op Z (O.fa Z ⟨⟨trivial,hx⟩,rfl⟩),
    fun f hx=>ObK.op Z (bV sizeOf4 Z Z Z hx.2 (show (5:Nat)<6 by decide) (fun aB Oo Tv=>⟨⟨trivial,hx.next Oo Tv rfl⟩,rfl⟩)),
    trivial⟩ (fun aC aiE=>?_)
  obtain ⟨hB3,ao⟩:=aiE
  refine ah Z (bC (()) ⟨rfl,?_,rfl,trivial⟩ ⟨hB3.ext t (fun k e ↦ by cases e;omega),ao⟩)
  ·exact congrArg some (by rw [NI,u];rfl)
 rintro _ ap ⟨iK,U3⟩
 have ajA:=hK.ext iK
 have yT:Blk ap b (dU d s) 129:=ajA.row
 have j:=aac V
 have amO:=hL0.ext ajA.e
 have aw:=hK.big
 have aa:=Hq r
 rcases Classical.em (0≤s.G∧0≤s.P∧0≤s.L) with ⟨ab,hP0,amP⟩|h3
 ·refine aj (?_)
  refine uh mixed 44 [0,1] Z (.is _ :: .is _ :: .is _ :: .is _ :: .is _ :: .is _ :: .is _ :: .is _ :: .is _ :: .is _ :: .is _ :: .is _ :: .is _ :: .is _ :: .is _ :: .is _ :: .is _ :: .is _ :: .is _ :: .is _ :: .is _ :: .is _ :: .is _ :: .is _ :: .is _ :: .is _ :: .is _ :: .is _ :: .is _ :: .is _ :: .is _ :: .is _ :: .is _ :: .is _ :: .is _ :: .is _ :: .is _ :: .is _ :: .is _ :: .is _ :: .is _ :: .is _ :: .is _ :: .is _ :: []) ([] :: [0] :: [1] :: [2] :: [3] :: [4] :: [] :: [6] :: [7] :: [8] :: [9] :: [10] :: [] :: [12] :: [13] :: [14] :: [15] :: [16] :: [5,11,17] :: [18] :: [19] :: [20] :: [21,20] :: [20] :: [23,20] :: [24,20] :: [25,20] :: [26,20] :: [27,20] :: [28,20] :: [20] :: [30,20] :: [31,20] :: [32,20] :: [33,20] :: [34,20] :: [29,35,20] :: [20] :: [37,20] :: [38,20] :: [39,20] :: [40,20] :: [41,20] :: [36,42,20] :: []) ([] :: [0] :: [0,1] :: [0,1,2] :: [0,1,2,3] :: [0,1,2,3,4] :: [] :: [6] :: [6,7] :: [6,7,8] :: [6,7,8,9] :: [6,7,8,9,10] :: [] :: [12] :: [12,13] :: [12,13,14] :: [12,13,14,15] :: [12,13,14,15,16] :: [0,1,2,3,4,5,6,7,8,9,10,11,12,13,14,15,16,17] :: [0,1,2,3,4,5,6,7,8,9,10,11,12,13,14,15,16,17,18] :: [0,1,2,3,4,5,6,7,8,9,10,11,12,13,14,15,16,17,18,19] :: [0,1,2,3,4,5,6,7,8,9,10,11,12,13,14,15,16,17,18,19,20] :: [0,1,2,3,4,5,6,7,8,9,10,11,12,13,14,15,16,17,18,19,20,21] :: [0,1,2,3,4,5,6,7,8,9,10,11,12,13,14,15,16,17,18,19,20] :: [0,1,2,3,4,5,6,7,8,9,10,11,12,13,14,15,16,17,18,19,20,23] :: [0,1,2,3,4,5,6,7,8,9,10,11,12,13,14,15,16,17,18,19,20,23,24] :: [0,1,2,3,4,5,6,7,8,9,10,11,12,13,14,15,16,17,18,19,20,23,24,25] :: [0,1,2,3,4,5,6,7,8,9,10,11,12,13,14,15,16,17,18,19,20,23,24,25,26] :: [0,1,2,3,4,5,6,7,8,9,10,11,12,13,14,15,16,17,18,19,20,23,24,25,26,27] :: [0,1,2,3,4,5,6,7,8,9,10,11,12,13,14,15,16,17,18,19,20,23,24,25,26,27,28] :: [0,1,2,3,4,5,6,7,8,9,10,11,12,13,14,15,16,17,18,19,20] :: [0,1,2,3,4,5,6,7,8,9,10,11,12,13,14,15,16,17,18,19,20,30] :: [0,1,2,3,4,5,6,7,8,9,10,11,12,13,14,15,16,17,18,19,20,30,31] :: [0,1,2,3,4,5,6,7,8,9,10,11,12,13,14,15,16,17,18,19,20,30,31,32] :: [0,1,2,3,4,5,6,7,8,9,10,11,12,13,14,15,16,17,18,19,20,30,31,32,33] :: [0,1,2,3,4,5,6,7,8,9,10,11,12,13,14,15,16,17,18,19,20,30,31,32,33,34]::(0::1::2::3::4::5::6::7::8::9::10::11::12::13::14::15::16::17::18::19::20::23::24::25::26::27::28::29::30::31::32::33::34::35 :: []) :: [0,1,2,3,4,5,6,7,8,9,10,11,12,13,14,15,16,17,18,19,20] :: [0,1,2,3,4,5,6,7,8,9,10,11,12,13,14,15,16,17,18,19,20,37] :: [0,1,2,3,4,5,6,7,8,9,10,11,12,13,14,15,16,17,18,19,20,37,38] :: [0,1,2,3,4,5,6,7,8,9,10,11,12,13,14,15,16,17,18,19,20,37,38,39] :: [0,1,2,3,4,5,6,7,8,9,10,11,12,13,14,15,16,17,18,19,20,37,38,39,40] :: [0,1,2,3,4,5,6,7,8,9,10,11,12,13,14,15,16,17,18,19,20,37,38,39,40,41]::(0::1::2::3::4::5::6::7::8::9::10::11::12::13::14::15::16::17::18::19::20::23::24::25::26::27::28::29::30::31::32::33::34::35::36::37::38::39::40::41::42 :: [])::(0::1::2::3::4::5::6::7::8::9::10::11::12::13::14::15::16::17::18::19::20::21::22::23::24::25::26::27::28::29::30::31::32::33::34::35::36::37::38::39::40::41::42::43 :: [])::(0::1::2::3::4::5::6::7::8::9::10::11::12::13::14::15::16::17::18::19::20::21::22::23::24::25::26::27::28::29::30::31::32::33::34::35::36::37::38::39::40::41::42::43::44 :: [])::(0::1::2::3::4::5::6::7::8::9::10::11::12::13::14::15::16::17::18::19::20::21::22::23::24::25::26::27::28::29::30::31::32::33::34::35::36::37::38::39::40::41::42::43::44::45 :: []) :: []) krX krX Z krX trivial ⟨fun f hx=>aF rfl,
    fun f hx=>jF rfl,
    fun f hx=>Ob.fa rfl,
    fun f hx=>Ob.fa rfl,
    fun f hx=>Ob.fa rfl,
    fun f hx=>aS rfl ((Blk.ext yT hx).cell rfl),
    fun f hx=>aF rfl,
    fun f hx=>jF rfl,
    fun f hx=>Ob.fa rfl,
    fun f hx=>Ob.fa rfl,
    fun f hx=>Ob.fa rfl,
    fun f hx=>aS rfl ((Blk.ext yT hx).cell rfl),
    fun f hx=>aF rfl,
    fun f hx=>jF rfl,
    fun f hx=>Ob.fa rfl,
    fun f hx=>Ob.fa rfl,
    fun f hx=>Ob.fa rfl,
    fun f hx=>aS rfl ((Blk.ext yT hx).cell rfl),
    fun f hx=>Ob.o (NH Z Z Z kR),
    fun f hx=>Ob.o (mF Z Z (Qa.2 ⟨Qa.2 ⟨ab,hP0⟩,amP⟩) kR),
    fun f hx=>aF rfl,
    fun f hx=>aF rfl,
    fun f hx=>Ob.o (O.le Z (Sl.val (j.ext (iK.trans hx))) kR),
    fun f hx=>aF rfl,
    fun f hx=>jF rfl,
    fun f hx=>Ob.fa rfl,
    fun f hx=>Ob.fa rfl,
    fun f hx=>Ob.fa rfl,
    fun f hx=>aS rfl ((Blk.ext yT hx).cell rfl),
    fun f hx=>Ob.o (bG Z Z omX kR),
    fun f hx=>aF rfl,
    fun f hx=>jF rfl,
    fun f hx=>Ob.fa rfl,
    fun f hx=>Ob.fa rfl,
    fun f hx=>Ob.fa rfl,
    fun f hx=>aS rfl ((Blk.ext yT hx).cell rfl),
    fun f hx=>Ob.o (bG Z Z omX kR),
    fun f hx=>aF rfl,
    fun f hx=>jF rfl,
    fun f hx=>Ob.fa rfl,
    fun f hx=>Ob.fa rfl,
    fun f hx=>Ob.fa rfl,
    fun f hx=>aS rfl ((Blk.ext yT hx).cell rfl),
    fun f hx=>Ob.o (bG Z Z omX kR),
    trivial⟩ (fun y je=>?_)
  refine dK Z Z (fun J=>?_) (fun J=>?_)
  ·obtain ⟨nm,ws,n⟩:∃ nm ws,lZ r=nm::ws:=by
    cases n:lZ r with
    | nil=>rw [n] at J;simp only [List.length_nil] at J;omega
    | cons nm ws=>exact ⟨nm,ws,rfl⟩
   have aD:(ws.length:Int)=1+s.G+s.P+s.L:=by rw [n] at J;simp only [List.length_cons] at J;omega
   have A:zU s r=match fQ ws with|some xs=>some ⟨nm,xs.getD 0 0,(xs.drop 1).take s.G.toNat,(xs.drop (1+s.G.toNat)).take s.P.toNat,xs.drop (1+s.G.toNat+s.P.toNat),sW r⟩|none=>none:=by rw [kF,if_pos ⟨ab,hP0,amP,J⟩,n];rfl
   rw [n] at j
   rw [n] at aa
   simp only [List.length_cons] at aa
   refine aG Z (L.o (ay (xs:=[.tmp 71]) call108 Z Z (nC y) (fun v72 C n=>?_)))
   obtain rfl:=n
   have amQ:=ajA.ext je
   have amR:Blk C b (dU d s) 129:=amQ.row
   refine ak (au (aO Z (oU (l:=1) runUnderlying61 sizeOf9 Z Z j spX (?_))))
   rcases i:fQ ws with _|xs
   ·rw [i] at A
    refine dI (xs:=[.tmp 74]) Z call122 Z Z (qX lo _ ws C ((P9 j).ext (iK.trans je)) (amO.ext je) (fun x hx ↦ hs x (vN x (by rw [n];exact List.mem_cons_of_mem _ hx))) i omX) (fun w' a hR ha=>⟨ha.defers,by rw [A];rfl,rfl,(iK.trans je).trans hR⟩)
   rw [i] at A
   refine L.o (ay (xs:=[.tmp 74]) call122 Z Z (pJ lo _ ws xs C ((P9 j).ext (iK.trans je)) (amO.ext je) (fun x hx ↦ hs x (vN x (by rw [n];exact List.mem_cons_of_mem _ hx))) i omX) (fun v75 K n=>?_))
   obtain ⟨aqu,aej⟩:=n
   have aqv:=amQ.ext aej
   have Si:Blk K b (dU d s) 129:=aqv.row
   refine ah Z (aj (?_))
   refine dn mixed 22 [0] Z [.is _,.is _,.is _,.is _,.is _,.is _,.is _,.is _,.is _,.is _,.is _,.is _,.is _,.is _,.is _,.is _,.is _,.is _,.is _,.is _,.is _,.is _] [[],[0],[1],[2],[3],[4],[5],[],[7],[8],[9],[10],[11],[12],[],[14],[15],[16],[17],[18],[13,19],[6]] trivial ⟨fun f hx=>aF rfl,
     fun f hx=>jF rfl,
     fun f hx=>Ob.fa rfl,
     fun f hx=>Ob.fa rfl,
     fun f hx=>Ob.fa rfl,
     fun f hx=>aS rfl ((Blk.ext Si hx).cell rfl),
     fun f hx=>Ob.o (bG Z Z omX kR),
     fun f hx=>aF rfl,
     fun f hx=>jF rfl,
     fun f hx=>Ob.fa rfl,
     fun f hx=>Ob.fa rfl,
     fun f hx=>Ob.fa rfl,
     fun f hx=>aS rfl ((Blk.ext Si hx).cell rfl),
     fun f hx=>Ob.o (bG Z Z omX kR),
     fun f hx=>aF rfl,
     fun f hx=>jF rfl,
     fun f hx=>Ob.fa rfl,
     fun f hx=>Ob.fa rfl,
     fun f hx=>Ob.fa rfl,
     fun f hx=>aS rfl ((Blk.ext Si hx).cell rfl),
     fun f hx=>Ob.o (bG Z Z omX kR),
     fun f hx=>Ob.sg rfl,
     trivial⟩ (fun M Az=>?_)
   rw [show (1+s.G+s.P:Int)=((1+s.G.toNat+s.P.toNat:Nat):Int) by omega,show (1+s.G:Int)=((1+s.G.toNat:Nat):Int) by omega]
   have aE:=(jW ws xs i).1
   have adh:Ext w M:=((iK.trans je).trans aej).trans Az
   have amS:w.heap.size≤C.heap.size:=(iK.trans je).size
   have adi:gJ (kE w.heap.size) K v75 xs:=gJ.dD aqu (fun k h _ ↦ Nat.le_trans amS h)
   have D:=adi.cut (l:=1) (h:=1+s.G.toNat) omX omX
   have E:=adi.cut (l:=1+s.G.toNat) (h:=1+s.G.toNat+s.P.toNat) omX omX
   have F:=adi.cut (l:=1+s.G.toNat+s.P.toNat) (h:=xs.length) omX leX
   rw [List.take_of_length_le (by rw [List.length_drop];omega)] at F
   rw [show 1+s.G.toNat-1=s.G.toNat by omega] at D
   rw [show 1+s.G.toNat+s.P.toNat-(1+s.G.toNat)=s.P.toNat by omega] at E
   have aqw:=Blk.ext U3 ((je.trans aej).trans Az)
   have amT:=Blk.ext U3 (je.trans aej)
   have hint:∀ W,gB (some b4) M W→Ints .i64 0 W v75 xs:=fun W h ↦ (adi.stay (Q':=fun _ ↦ True) fun k cs q B ↦ ⟨trivial,h.blk (Blk.ext B Az) (fun e ↦ sK amT B dcX (by cases e;rfl))⟩).ints
   refine ah Z (aj (?_))
   refine T.any mixed 24 4 [1,6,7,8,4] Z [.is _,.is _,.is _,.is _,.is _,.is _,.is _,.is _,.is _,.is _,.is _,.is _,.is _,.is _,.is _,.is _,.is _,.is undef,.is _,.is undef,.is _,.is undef,.is _,.is undef] [[],[0],[1],[],[3],[4],[],[],[6,7],[],[],[],[9,10,11],[],[],[13,14],[],[16,2],[],[18,5],[],[20,8],[],[22,12]] [none,none,none,none,none,none,none,none,none,none,none,none,none,none,none,none,none,some 0,none,some 1,none,some 2,none,some 3] [[],[0],[0,1],[],[3],[3,4],[],[],[6,7],[],[],[],[9,10,11],[],[],[13,14],[0,1,2],[0,1,2,16],[0,1,2,3,4,5,16,17],[0,1,2,3,4,5,16,17,18],[0,1,2,3,4,5,6,7,8,16,17,18,19],[0,1,2,3,4,5,6,7,8,16,17,18,19,20],[0,1,2,3,4,5,6,7,8,9,10,11,12,16,17,18,19,20,21],[0,1,2,3,4,5,6,7,8,9,10,11,12,16,17,18,19,20,21,22],[0,1,2,3,4,5,6,7,8,9,10,11,12,13,14,15,16,17,18,19,20,21,22,23],[0,1,2,3,4,5,6,7,8,9,10,11,12,13,14,15,16,17,18,19,20,21,22,23,24]] (Us M b4 51 [pU (sW r),(pU (sW r)).set 0 (str nm),((pU (sW r)).set 0 (str nm)).set 1 (.int .i64 (xs.getD 0 0)),(((pU (sW r)).set 0 (str nm)).set 1 (.int .i64 (xs.getD 0 0))).set 2 (sH 1 v75 1 (1+s.G.toNat)),((((pU (sW r)).set 0 (str nm)).set 1 (.int .i64 (xs.getD 0 0))).set 2 (sH 1 v75 1 (1+s.G.toNat))).set 3 (sH 1 v75 (1+s.G.toNat) (1+s.G.toNat+s.P.toNat))]) (fun _ _=>True) krX krX krX Z trivial (Us.start aqw (Keep.drew _ _)) ⟨fun c f hx=>ObK.op rfl (O.move Z ⟨⟨trivial,hx⟩,rfl⟩),
     fun c f hx=>ObK.op Z (ig Z Z (j.ext (hx.1.ext adh (fun k e ↦ by cases e;omega))) dcX spX ⟨⟨trivial,hx⟩,rfl⟩),
     fun c f hx=>ObK.op Z (dR Z ((j.ext (hx.1.ext adh (fun k e ↦ by cases e;omega))).at (show 0<(nm::ws).length by simp)) ⟨⟨trivial,hx⟩,rfl⟩),
     fun c f hx=>ObK.op Z (O.move Z ⟨⟨trivial,hx⟩,rfl⟩),
     fun c f hx=>ObK.op Z (ig Z Z (hint _ hx.1) dcX omX ⟨⟨trivial,hx⟩,rfl⟩),
     fun c f hx=>ObK.op Z (dR Z (Ints.at (hint _ hx.1) (show 0<xs.length by omega)) ⟨⟨trivial,hx⟩,rfl⟩),
     fun c f hx=>ObK.op Z (O.move Z ⟨⟨trivial,hx⟩,rfl⟩),
     fun c f hx=>ObK.op Z (O.move Z ⟨⟨trivial,hx⟩,rfl⟩),
     fun c f hx=>ObK.op Z (sJ (l:=1) (h:=1+s.G.toNat) runUnderlying30 sizeOf3 Z Z Z adi.ints omX omX ⟨⟨trivial,hx⟩,rfl⟩),
     fun c f hx=>ObK.op Z (O.move Z ⟨⟨trivial,hx⟩,rfl⟩),
     fun c f hx=>ObK.op Z (O.move Z ⟨⟨trivial,hx⟩,rfl⟩),
     fun c f hx=>ObK.op Z (O.move Z ⟨⟨trivial,hx⟩,rfl⟩),
     fun c f hx=>ObK.op Z (sJ (l:=1+s.G.toNat) (h:=1+s.G.toNat+s.P.toNat) runUnderlying30 sizeOf3 Z Z Z adi.ints omX omX ⟨⟨trivial,hx⟩,rfl⟩),
     fun c f hx=>ObK.op Z (O.move Z ⟨⟨trivial,hx⟩,rfl⟩),
     fun c f hx=>ObK.op Z (O.move Z ⟨⟨trivial,hx⟩,rfl⟩),
     fun c f hx=>ObK.op Z (oU (l:=1+s.G.toNat+s.P.toNat) runUnderlying30 sizeOf3 Z Z adi.ints omX ⟨⟨trivial,hx⟩,rfl⟩),
     fun c f hx=>ObK.op Z (O.fa Z ⟨⟨trivial,hx⟩,rfl⟩),
     fun f hx=>ObK.op Z (bV sizeOf9 Z Z Z hx.2 (show (0:Nat)<6 by decide) (fun aqx Ux aai=>⟨⟨trivial,hx.next Ux aai rfl⟩,rfl⟩)),
     fun c f hx=>ObK.op Z (O.fa Z ⟨⟨trivial,hx⟩,rfl⟩),
     fun f hx=>ObK.op Z (bV sizeOf3 Z Z Z hx.2 (show (1:Nat)<6 by decide) (fun aqy ajB ajC=>⟨⟨trivial,hx.next ajB ajC rfl⟩,rfl⟩)),
     fun c f hx=>ObK.op Z (O.fa Z ⟨⟨trivial,hx⟩,rfl⟩),
     fun f hx=>ObK.op Z (bV sizeOf30 (Sl.one D.ints) Z Z hx.2 (show (2:Nat)<6 by decide) (fun aqo ajD aq=>⟨⟨trivial,hx.next ajD aq rfl⟩,rfl⟩)),
     fun c f hx=>ObK.op Z (O.fa Z ⟨⟨trivial,hx⟩,rfl⟩),
     fun f hx=>ObK.op Z (bV sizeOf30 (Sl.one E.ints) Z Z hx.2 (show (3:Nat)<6 by decide) (fun ajv ajE ajF=>⟨⟨trivial,hx.next ajE ajF rfl⟩,rfl⟩)),
     trivial⟩ (fun aJ aqz=>?_)
   obtain ⟨Ll,aqA⟩:=aqz
   refine L.fa Z (L.o (bV sizeOf30 (Sl.one F.ints) Z Z aqA (show (4:Nat)<6 by decide) (fun abv ac XM=>?_)))
   obtain ⟨vU,N⟩:∃ vU:UnV,vU=⟨nm,xs.getD 0 0,sH 1 v75 1 (1+s.G.toNat),(xs.drop 1).take s.G.toNat,sH 1 v75 (1+s.G.toNat) (1+s.G.toNat+s.P.toNat),(xs.drop (1+s.G.toNat)).take s.P.toNat,sH 1 v75 (1+s.G.toNat+s.P.toNat) xs.length,xs.drop (1+s.G.toNat+s.P.toNat),sW r⟩:=⟨_,rfl⟩
   have ajG:Blk abv b4 vU.cells 51:=by subst N;exact XM
   have He:Ext w abv:=(Ll.ext adh (fun k e ↦ by cases e;omega)).upd ac (.inr omX)
   have aaj:=hK.ext He
   have Qi:Blk abv b (dU d s) 129:=aaj.row
   have ad:∀ k,d.uv.ownBlock=some k→k<w.heap.size:=fun k e ↦ sV hK.usr.1 e
   have Q:d.uv.ownBlock≠some b:=fun e ↦ (hK.usr.2 b e).2.1 rfl
   have aqB:d.uv.ownBlock≠some b4:=fun e ↦ by have:=ad b4 e;omega
   have ae:∀ c∈vU.cells,c.oneCell'=true:=by
    subst N
    intro c hc
    simp only [UnV.cells,List.mem_cons,List.not_mem_nil,or_false] at hc
    rcases hc with rfl|rfl|rfl|rfl|rfl|rfl
    ·rfl
    ·rfl
    ·exact Sl.one D.ints
    ·exact Sl.one E.ints
    ·exact Sl.one F.ints
    rfl
   have aL:=hK.usl
   have aM:=He.size
   refine ak (?_)
   refine qJ mixed 10 0 [0,4] Z [.is _,.is _,.is _,.is _,.is _,.is _,.is _,.is _,.such (afY d.uv.ownBlock vU.cells),.such (fun _ _=>True)] [[],[],[1],[2],[3],[4],[5],[],[7],[6,8]] [none,none,none,none,none,none,none,none,none,none] [[],[],[1],[1,2],[1,2,3],[1,2,3,4],[1,2,3,4,5],[],[7],[1,2,3,4,5,6,7,8],[0,1,2,3,4,5,6,7,8,9],[0,1,2,3,4,5,6,7,8,9,10],[0,1,2,3,4,5,6,7,8,9,10,11],[0,1,2,3,4,5,6,7,8,9,10,11,12],[0,1,2,3,4,5,6,7,8,9,10,11,12,13]] (NC abv d.uv.ownBlock 9 (Bo d.uv.ownBlock w.heap.size 51 6 (d.us.length+1) (iR d.us++vU.cells))) (gB d.uv.ownBlock) krX krX krX Z ⟨afY.st,fun _ _ _ _ _=>trivial,trivial⟩ (.inl ⟨rfl,Keep.drew _ _⟩) ⟨fun c σ f hx hn H=>ObG.op rfl (O.move Z ⟨⟨gB.refl _ _,hx.nop (Keep.refl _ _) (fun _ g ↦ g) dcX⟩,rfl⟩),
     fun c σ f hx hn H=>ObG.op Z (O.move Z ⟨⟨gB.refl _ _,hx.nop (Keep.refl _ _) (fun _ g ↦ g) dcX⟩,rfl⟩),
     fun c σ f hx hn H=>ObG.op Z (gI Z ⟨⟨gB.refl _ _,hx.nop (Keep.refl _ _) (fun _ g ↦ g) dcX⟩,rfl⟩),
     fun c σ f hx hn H=>ObG.op Z (O.fa Z ⟨⟨gB.refl _ _,hx.nop (Keep.refl _ _) (fun _ g ↦ g) dcX⟩,rfl⟩),
     fun c σ f hx hn H=>ObG.op Z (O.fa Z ⟨⟨gB.refl _ _,hx.nop (Keep.refl _ _) (fun _ g ↦ g) dcX⟩,rfl⟩),
     fun c σ f hx hn H=>ObG.op Z (O.fa Z ⟨⟨gB.refl _ _,hx.nop (Keep.refl _ _) (fun _ g ↦ g) dcX⟩,rfl⟩),
     fun c σ f hx hn H=>ObG.op Z (dR Z ((hx.but.blk (cs:=dU d s) Qi Q).cell Z) ⟨⟨gB.refl _ _,hx.nop (Keep.refl _ _) (fun _ g ↦ g) dcX⟩,rfl⟩),
     fun c σ f hx hn H=>ObG.op Z (jC Z Z (Row.bI (hx.but.blk (cs:=vU.cells) ajG aqB)) ⟨⟨gB.refl _ _,hx.nop (Keep.refl _ _) (fun _ g ↦ g) dcX⟩,rfl⟩),
     fun c σ f hx hn H=>ObG.op Z (aH (el:=51) (parts:=[(0,.tmp 125)]) (vs:=[(0,_)]) (cs:=vU.cells) Z (fun w=>by kernel_rfl) (fun aqC atY aqD aqE adk ajH=>⟨⟨gB.dF adk,hx.nop adk (fun _ g ↦ g.ext adk) dcX⟩,aqC,rfl,fun e=>by have:=ad _ e;have:=hx.but.size;omega,ajH⟩)),
     fun c σ f hx hn aqF af H=>by { obtain ⟨bl,rfl,aP,ar⟩:=af;exact ObG.op rfl (iQ (size:=6) (bytes:=104) runUnderlying23 Tryz.Ig Z Z Z Z dcX rfl rfl (cO aaj.usr.1 (hx.PX hn) lzX) rfl (Row.bI ar) ae omX (by simp only [maxLen];omega) lzX (fun v127 atZ ajI ag ajJ=>⟨⟨gB.jV ag,hx.app hn ag ⟨ajI,fun k e=>(ajJ k e).imp id (fun h=>by have:=(hx.PX hn).size;omega)⟩⟩,trivial⟩)) },
     trivial⟩ (fun aR aT aqG aqF af v127 aqH aqI=>?_)
   obtain ⟨ET,amU⟩:=aqG.done (aqI 9 dcX _ _ rfl rfl).symm
   refine mG Z (L.fa Z (L.fa Z (L.fa Z (L.o (bV sizeOf23 (Sl.one (Sl.dD amU.1)) Z Z (ET.blk (cs:=dU d s) Qi Q) (show (5:Nat)<7 by decide) (fun abx XO ajK=>?_))))))
   have adl:=amU.updB XO (ET.blk (cs:=dU d s) Qi Q) dcX
   have ajL:Ext w0 abx:=(ET.ext aaj.e (fun k e ↦ (hK.usr.2 k e).1)).upd XO (.inr hK.lo)
   have ajM:w.heap.size≤abx.heap.size:=by have:=ET.size;have:=XO.size;omega
   have hkeep:∀ k,k<w.heap.size→k≠b→d.uv.ownBlock≠some k→abx.heap[k]?=w.heap[k]?:=fun k U Y h3 ↦ (XO.block k Y).trans ((ET.block k omX h3).trans (He.block k lzX U))
   have R:∀ k cs,kE w.heap.size k→Blk K k cs 3→kE w.heap.size k∧Blk abx k cs 3:=fun k cs q B ↦ by
    have n1:k≠b4:=fun e=>sK B amT dcX e
    have amV:=Blk.upd (Ll.blk (Blk.ext B Az) (fun e=>n1 (by cases e;rfl))) ac n1
    exact ⟨q,Blk.upd (ET.blk amV (jY aaj.usr.1 amV dcX)) XO (fun e=>sK B Si dcX e)⟩
   have av:UnO (kE w.heap.size) abx vU ⟨nm,xs.getD 0 0,(xs.drop 1).take s.G.toNat,(xs.drop (1+s.G.toNat)).take s.P.toNat,xs.drop (1+s.G.toNat+s.P.toNat),sW r⟩:=by
    subst N
    exact ⟨rfl,rfl,rfl,rfl,rfl,rfl,D.stay R,E.stay R,F.stay R⟩
   refine ak (nJ results123 ⟨_,by rw [A];rfl,⟨uAdd d vU v127,hK.Qb hkeep ajL ajM ajK adl av⟩,fun k hk=>?_⟩)
   have hs:=hK.S k hk
   exact hkeep k hs.2.1 hs.2.2 (fun e=>(hK.usr.2 k e).2.2 hk)
  refine aG Z (dI (xs:=[.tmp 71]) Z call108 Z Z (jc y) (fun w' a hR ha=>⟨ha.defers,by rw [kF,if_neg (fun h=>J h.2.2.2)];rfl,rfl,by rw [hR];exact iK.trans je⟩))
 refine aj (?_)
 refine uh mixed 44 [0,1] Z (.is _ :: .is _ :: .is _ :: .is _ :: .is _ :: .is _ :: .is _ :: .is _ :: .is _ :: .is _ :: .is _ :: .is _ :: .is _ :: .is _ :: .is _ :: .is _ :: .is _ :: .is _ :: .is _ :: .is _ :: .is _ :: .is undef :: .is undef :: .is undef :: .is undef :: .is undef :: .is undef :: .is undef :: .is undef :: .is undef :: .is undef :: .is undef :: .is undef :: .is undef :: .is undef :: .is undef :: .is undef :: .is undef :: .is undef :: .is undef :: .is undef :: .is undef :: .is undef :: .is undef :: []) ([] :: [0] :: [1] :: [2] :: [3] :: [4] :: [] :: [6] :: [7] :: [8] :: [9] :: [10] :: [] :: [12] :: [13] :: [14] :: [15] :: [16] :: [5,11,17] :: [18] :: [19] :: [20] :: [21,20] :: [20] :: [23,20] :: [24,20] :: [25,20] :: [26,20] :: [27,20] :: [28,20] :: [20] :: [30,20] :: [31,20] :: [32,20] :: [33,20] :: [34,20] :: [29,35,20] :: [20] :: [37,20] :: [38,20] :: [39,20] :: [40,20] :: [41,20] :: [36,42,20] :: []) ([] :: [0] :: [0,1] :: [0,1,2] :: [0,1,2,3] :: [0,1,2,3,4] :: [] :: [6] :: [6,7] :: [6,7,8] :: [6,7,8,9] :: [6,7,8,9,10] :: [] :: [12] :: [12,13] :: [12,13,14] :: [12,13,14,15] :: [12,13,14,15,16] :: [0,1,2,3,4,5,6,7,8,9,10,11,12,13,14,15,16,17] :: [0,1,2,3,4,5,6,7,8,9,10,11,12,13,14,15,16,17,18] :: [0,1,2,3,4,5,6,7,8,9,10,11,12,13,14,15,16,17,18,19] :: [0,1,2,3,4,5,6,7,8,9,10,11,12,13,14,15,16,17,18,19,20] :: [0,1,2,3,4,5,6,7,8,9,10,11,12,13,14,15,16,17,18,19,20,21] :: [0,1,2,3,4,5,6,7,8,9,10,11,12,13,14,15,16,17,18,19,20] :: [0,1,2,3,4,5,6,7,8,9,10,11,12,13,14,15,16,17,18,19,20,23] :: [0,1,2,3,4,5,6,7,8,9,10,11,12,13,14,15,16,17,18,19,20,23,24] :: [0,1,2,3,4,5,6,7,8,9,10,11,12,13,14,15,16,17,18,19,20,23,24,25] :: [0,1,2,3,4,5,6,7,8,9,10,11,12,13,14,15,16,17,18,19,20,23,24,25,26] :: [0,1,2,3,4,5,6,7,8,9,10,11,12,13,14,15,16,17,18,19,20,23,24,25,26,27] :: [0,1,2,3,4,5,6,7,8,9,10,11,12,13,14,15,16,17,18,19,20,23,24,25,26,27,28] :: [0,1,2,3,4,5,6,7,8,9,10,11,12,13,14,15,16,17,18,19,20] :: [0,1,2,3,4,5,6,7,8,9,10,11,12,13,14,15,16,17,18,19,20,30] :: [0,1,2,3,4,5,6,7,8,9,10,11,12,13,14,15,16,17,18,19,20,30,31] :: [0,1,2,3,4,5,6,7,8,9,10,11,12,13,14,15,16,17,18,19,20,30,31,32] :: [0,1,2,3,4,5,6,7,8,9,10,11,12,13,14,15,16,17,18,19,20,30,31,32,33] :: [0,1,2,3,4,5,6,7,8,9,10,11,12,13,14,15,16,17,18,19,20,30,31,32,33,34]::(0::1::2::3::4::5::6::7::8::9::10::11::12::13::14::15::16::17::18::19::20::23::24::25::26::27::28::29::30::31::32::33::34::35 :: []) :: [0,1,2,3,4,5,6,7,8,9,10,11,12,13,14,15,16,17,18,19,20] :: [0,1,2,3,4,5,6,7,8,9,10,11,12,13,14,15,16,17,18,19,20,37] :: [0,1,2,3,4,5,6,7,8,9,10,11,12,13,14,15,16,17,18,19,20,37,38] :: [0,1,2,3,4,5,6,7,8,9,10,11,12,13,14,15,16,17,18,19,20,37,38,39] :: [0,1,2,3,4,5,6,7,8,9,10,11,12,13,14,15,16,17,18,19,20,37,38,39,40] :: [0,1,2,3,4,5,6,7,8,9,10,11,12,13,14,15,16,17,18,19,20,37,38,39,40,41]::(0::1::2::3::4::5::6::7::8::9::10::11::12::13::14::15::16::17::18::19::20::23::24::25::26::27::28::29::30::31::32::33::34::35::36::37::38::39::40::41::42 :: [])::(0::1::2::3::4::5::6::7::8::9::10::11::12::13::14::15::16::17::18::19::20::21::22::23::24::25::26::27::28::29::30::31::32::33::34::35::36::37::38::39::40::41::42::43 :: [])::(0::1::2::3::4::5::6::7::8::9::10::11::12::13::14::15::16::17::18::19::20::21::22::23::24::25::26::27::28::29::30::31::32::33::34::35::36::37::38::39::40::41::42::43::44 :: [])::(0::1::2::3::4::5::6::7::8::9::10::11::12::13::14::15::16::17::18::19::20::21::22::23::24::25::26::27::28::29::30::31::32::33::34::35::36::37::38::39::40::41::42::43::44::45 :: []) :: []) krX krX Z krX trivial ⟨fun f hx=>aF rfl,
   fun f hx=>jF rfl,
   fun f hx=>Ob.fa rfl,
   fun f hx=>Ob.fa rfl,
   fun f hx=>Ob.fa rfl,
   fun f hx=>aS rfl ((Blk.ext yT hx).cell rfl),
   fun f hx=>aF rfl,
   fun f hx=>jF rfl,
   fun f hx=>Ob.fa rfl,
   fun f hx=>Ob.fa rfl,
   fun f hx=>Ob.fa rfl,
   fun f hx=>aS rfl ((Blk.ext yT hx).cell rfl),
   fun f hx=>aF rfl,
   fun f hx=>jF rfl,
   fun f hx=>Ob.fa rfl,
   fun f hx=>Ob.fa rfl,
   fun f hx=>Ob.fa rfl,
   fun f hx=>aS rfl ((Blk.ext yT hx).cell rfl),
   fun f hx=>Ob.o (NH Z Z Z kR),
   fun f hx=>Ob.o (oM Z Z (fun h=>h3 ⟨(Qa.1 (Qa.1 h).1).1,(Qa.1 (Qa.1 h).1).2,(Qa.1 h).2⟩) kR),
   fun f hx=>aF rfl,
   fun f hx=>aV rfl rfl,
   fun f hx=>aV rfl rfl,
   fun f hx=>aV rfl rfl,
   fun f hx=>aV rfl rfl,
   fun f hx=>aV rfl rfl,
   fun f hx=>aV rfl rfl,
   fun f hx=>aV rfl rfl,
   fun f hx=>aV rfl rfl,
   fun f hx=>aV rfl rfl,
   fun f hx=>aV rfl rfl,
   fun f hx=>aV rfl rfl,
   fun f hx=>aV rfl rfl,
   fun f hx=>aV rfl rfl,
   fun f hx=>aV rfl rfl,
   fun f hx=>aV rfl rfl,
   fun f hx=>aV rfl rfl,
   fun f hx=>aV rfl rfl,
   fun f hx=>aV rfl rfl,
   fun f hx=>aV rfl rfl,
   fun f hx=>aV rfl rfl,
   fun f hx=>aV rfl rfl,
   fun f hx=>aV rfl rfl,
   fun f hx=>aV rfl rfl,
   trivial⟩ (fun y je=>?_)
 refine L.p (aI Z (dI (xs:=[.tmp 71]) Z call108 Z Z (jc y) (fun w' a hR ha=>⟨ha.defers,by rw [kF,if_neg (fun h=>h3 ⟨h.1,h.2.1,h.2.2.1⟩)];rfl,rfl,by rw [hR];exact iK.trans je⟩)))
theorem Uy {k:List E.It} {e:Env} {P:Program} {fn:Func} {R:Ending→World→Prop} (b:fn.results=#[]) (h:R (.returned (.tuple #[])) w):T (abM P fn n R) (.code .ret::k) e w:=lq fun a ha=>⟨ha.defers,_,results_none b _ _ _,h⟩
theorem Hu {s:PS} (hf:fieldsB l=iI::r) (h:s.last = []∧r.length=3) (hn:fQ r=some xs):iE s l=some (PZ s xs):=by rw [ru hf,if_pos h,hn]
theorem Ez {s:PS} (hf:fieldsB l=fC::r) (h:s.last ∈ [iI,fC]∧r.length=2) (hn:fQ r=some xs):iE s l=some (nO s xs):=by rw [oV hf,if_pos h,hn]
theorem Hw {s:PS} (hf:fieldsB l=gq::r) (h:s.last ∈ [iI,fC,gq,gy]) (hn:fQ r=some xs):iE s l=some (wY s xs):=by rw [uU hf,if_pos h,hn]
theorem Hy {s:PS} (hf:fieldsB l=gy::r) (h:s.last ∈ [gq,gy]) (hn:fQ r=some xs):iE s l=some (FX s xs):=by rw [uV hf,if_pos h,hn]
set_option maxHeartbeats 4000000 in
theorem Uz (w0:World) (b:Nat) (s:PS) (S:Nat→Prop) (l:Str) (w:World) (hI:RdI w0 b s S w) (hL0:sF w0) (P:l.length≤100000) (hc:PY s 100000) (adn:s.last ∈ [gq,gy]→s.fs ≠ []) :
  Calls Tryz.prog 67 #[.pointer (some ⟨b,0,none⟩),str l] w (fun e W'=>TkP w0 w b (iE s l) S e W'):=by
 have hLw:sF w:=hL0.ext hI.PX
 refine wM (vs:=[.pointer (some ⟨b,0,none⟩),str l]) func67 Z ntmps67 Z ?_
 refine au (aO Z (ay (xs:=[.tmp 10,.func 121]) call120 Z Z (Nw l w P) (fun v1 w1 y=>?_)))
 obtain ⟨A,rfl,hS1,j⟩:=y
 obtain ⟨d,hK⟩:=hI
 have hK1:=hK.ext j
 rcases hf:fieldsB l with _|⟨k,r⟩
 ·rw [hf] at hS1
  refine ah Z (aj (aQ Z (L.le Z (Sl.val hS1) (L.o (eU Z Z spX (aW (Uy results67 ⟨s,step_nil hf,⟨d,hK1⟩,fun k z=>j.block k lzX (hK.S k z).2.1⟩)))))))
 rw [hf] at hS1
 have hw:=pK P hf
 have hr:=Hr P hf
 refine ah Z (aj (aQ Z (L.le Z (Sl.val hS1) (L.o (fV Z Z (by simp;omega) (aU (T.skip (aj (?_)))))))))
 refine dn mixed 6 [4] Z [.is _,.is _,.is _,.is _,.is _,.is _] [[],[0],[1],[],[3],[2]] trivial ⟨fun f hx=>aF rfl,
   fun f hx=>qc rfl rfl (hS1.ext hx) dcX spX,
   fun f hx=>aS rfl ((hS1.ext hx).at (show 0<(k::r).length by simp)),
   fun f hx=>aF rfl,
   fun f hx=>Ob.o (oU (l:=1) runUnderlying61 sizeOf9 Z Z hS1 spX kR),
   fun f hx=>Ob.sg rfl,
   trivial⟩ (fun w2 i=>?_)
 have C:=Ur (hS1.ext i) rfl
 refine L.a Z (?_)
 rcases Classical.em (k=iI) with rfl|G
 ·refine ak (aj (aQ Z (ak (T.block (au (L.o (fD runUnderlying9 Z Z Z (ah Z (aZ (au (aO Z (aH (el:=9) (parts:=[(0,_)]) (vs:=[(0,_)]) (cs:=([[]].map str)) Z (fun w=>by kernel_rfl) (fun bz a5 amW bA Qj Tv=>?_)))))))))))))
  have vX:=(hK1.ext i).ext Qj
  refine L.o (ay (xs:=[.tmp 24,.tmp 25]) call68 Z Z (kQ 0 _ [[]] b (dU d s) s.last a5 (Strs.bI Tv Z dcX lzX) vX.row rfl) (fun bB ag y=>?_))
  obtain ⟨rfl,rfl⟩:=y
  rcases Classical.em (s.last = []) with hlast|hlast
  ·rw [decide_eq_true (show s.last ∈ [[]] by rw [hlast];simp)]
   refine aN Z Z (L.le Z (Sl.val (C.ext Qj)) (?_))
   rcases Classical.em (r.length=3) with x|x
   ·refine L.o (eU Z Z omX (aG Z (L.o (ay (xs:=[.tmp 31]) call108 Z Z (nC ag) (fun bC ai y=>?_)))))
    obtain rfl:=y
    have Qk:=(j.trans i).trans Qj
    rcases hn:fQ r with _|xs
    ·refine ak (aQ Z (dI (xs:=[.tmp 33]) Z call122 Z Z (qX _ _ r ai (C.ext Qj) (hLw.ext Qk) hw hn omX) (fun w' a hR ha=>⟨ha.defers,by rw [ru hf,if_pos ⟨hlast,x⟩,hn],rfl,Qk.trans hR⟩)))
    refine ak (?_)
    have a6:xs.length=3:=by rw [← (jW r xs hn).1];exact x
    refine au (aO Z (ay (xs:=[.tmp 33]) call122 Z Z (pJ _ _ r xs ai (C.ext Qj) (hLw.ext Qk) hw hn omX) (fun a7 al y=>?_)))
    obtain ⟨Vx,am⟩:=y
    have amX:=vX.ext am
    have hz:=vX.e.size
    have aek:gJ (fun k ↦ ai.heap.size≤k) al a7 xs:=gJ.dD Vx (fun k h _ ↦ h)
    have aua:=Blk.lt (cs:=dU d s) vX.row
    refine ah Z (?_)
    refine T.any mixed 22 2 [0,7] Z [.is _,.is _,.is _,.is _,.is _,.is _,.is _,.is _,.is _,.is _,.is _,.is _,.is _,.is _,.is _,.is _,.is undef,.is _,.is _,.is _,.is _,.is undef] [[],[],[],[],[3],[4],[],[6],[7],[],[9],[10],[0],[12],[13],[14],[15,5],[1],[17],[18],[19],[20,8]] [none,none,none,none,none,none,none,none,none,none,none,none,none,none,none,none,some 0,none,none,none,none,some 1] [[],[],[],[],[3],[3,4],[],[6],[6,7],[],[9],[9,10],[0,3,4,5,6,7,8,9,10,11],[0,3,4,5,6,7,8,9,10,11,12],[0,3,4,5,6,7,8,9,10,11,12,13],[0,3,4,5,6,7,8,9,10,11,12,13,14],[0,3,4,5,6,7,8,9,10,11,12,13,14,15],[0,1,3,4,5,6,7,8,9,10,11,12,13,14,15,16],[0,1,3,4,5,6,7,8,9,10,11,12,13,14,15,16,17],[0,1,3,4,5,6,7,8,9,10,11,12,13,14,15,16,17,18],[0,1,3,4,5,6,7,8,9,10,11,12,13,14,15,16,17,18,19],[0,1,3,4,5,6,7,8,9,10,11,12,13,14,15,16,17,18,19,20],[0,1,2,3,4,5,6,7,8,9,10,11,12,13,14,15,16,17,18,19,20,21],[0,1,2,3,4,5,6,7,8,9,10,11,12,13,14,15,16,17,18,19,20,21,22],[0,1,2,3,4,5,6,7,8,9,10,11,12,13,14,15,16,17,18,19,20,21,22,23],[0,1,2,3,4,5,6,7,8,9,10,11,12,13,14,15,16,17,18,19,20,21,22,23,24],[0,1,2,3,4,5,6,7,8,9,10,11,12,13,14,15,16,17,18,19,20,21,22,23,24,25]] (Us al b 129 [dU d s,(dU d s).set 2 (.int .i64 (xs.getD 0 0)),((dU d s).set 2 (.int .i64 (xs.getD 0 0))).set 3 (.int .i64 (xs.getD 1 0))]) (fun _ _=>True) krX krX krX Z trivial (Us.start amX.row (Keep.drew _ _)) ⟨fun c f hx=>ObK.op rfl (O.move Z ⟨⟨trivial,hx⟩,rfl⟩),
      fun c f hx=>ObK.op Z (O.move Z ⟨⟨trivial,hx⟩,rfl⟩),
      fun c f hx=>ObK.op Z (O.move Z ⟨⟨trivial,hx⟩,rfl⟩),
      fun c f hx=>ObK.op Z (O.move Z ⟨⟨trivial,hx⟩,rfl⟩),
      fun c f hx=>ObK.op Z (ig Z Z (hx.ints aek (fun k h ↦ by omega)) dcX (by show (0:Int)<xs.length;omega) ⟨⟨trivial,hx⟩,rfl⟩),
      fun c f hx=>ObK.op Z (dR Z (Ints.at (hx.ints aek (fun k h ↦ by omega)) (show 0<xs.length by omega)) ⟨⟨trivial,hx⟩,rfl⟩),
      fun c f hx=>ObK.op Z (O.move Z ⟨⟨trivial,hx⟩,rfl⟩),
      fun c f hx=>ObK.op Z (ig Z Z (hx.ints aek (fun k h ↦ by omega)) dcX (by show (1:Int)<xs.length;omega) ⟨⟨trivial,hx⟩,rfl⟩),
      fun c f hx=>ObK.op Z (dR Z (Ints.at (hx.ints aek (fun k h ↦ by omega)) (show 1<xs.length by omega)) ⟨⟨trivial,hx⟩,rfl⟩),
      fun c f hx=>ObK.op Z (O.move Z ⟨⟨trivial,hx⟩,rfl⟩),
      fun c f hx=>ObK.op Z (ig Z Z (hx.ints aek (fun k h ↦ by omega)) dcX (by show (2:Int)<xs.length;omega) ⟨⟨trivial,hx⟩,rfl⟩),
      fun c f hx=>ObK.op Z (dR Z (Ints.at (hx.ints aek (fun k h ↦ by omega)) (show 2<xs.length by omega)) ⟨⟨trivial,hx⟩,rfl⟩),
      fun c f hx=>ObK.op Z (gI Z ⟨⟨trivial,hx⟩,rfl⟩),
      fun c f hx=>ObK.op Z (O.fa Z ⟨⟨trivial,hx⟩,rfl⟩),
      fun c f hx=>ObK.op Z (O.fa Z ⟨⟨trivial,hx⟩,rfl⟩),
      fun c f hx=>ObK.op Z (O.fa Z ⟨⟨trivial,hx⟩,rfl⟩),
      fun f hx=>ObK.op Z (bV sizeOf3 Z Z Z hx.2 (show (2:Nat)<7 by decide) (fun bD NR Xu=>⟨⟨trivial,hx.next NR Xu rfl⟩,rfl⟩)),
      fun c f hx=>ObK.op Z (gI Z ⟨⟨trivial,hx⟩,rfl⟩),
      fun c f hx=>ObK.op Z (O.fa Z ⟨⟨trivial,hx⟩,rfl⟩),
      fun c f hx=>ObK.op Z (O.fa Z ⟨⟨trivial,hx⟩,rfl⟩),
      fun c f hx=>ObK.op Z (O.fa Z ⟨⟨trivial,hx⟩,rfl⟩),
      fun f hx=>ObK.op Z (bV sizeOf3 Z Z Z hx.2 (show (3:Nat)<7 by decide) (fun bE aqJ ajN=>⟨⟨trivial,hx.next aqJ ajN rfl⟩,rfl⟩)),
      trivial⟩ (fun w8 a8=>?_)
    obtain ⟨a9,ba⟩:=a8
    refine mG Z (L.fa Z (L.fa Z (L.fa Z (L.o (bV sizeOf3 Z Z Z ba (show (4:Nat)<7 by decide) (fun bF R Zj=>?_))))))
    refine ak (T.blk (aA (aN Z Z (mG Z (L.fa Z (L.o (bV sizeOf9 Z Z Z Zj (show (6:Nat)<7 by decide) (fun Oy mY EC=>?_))))))))
    have bw:=Qk.size
    have az:gB (some b) al Oy:=a9.trans ⟨mY.os.trans R.os,mY.tape.trans R.tape,mY.output.trans R.output,Nat.le_of_eq ((mY.size.trans R.size).symm),fun k _ z ↦ (mY.block k (fun e ↦ z (congrArg some e.symm))).trans (R.block k (fun e ↦ z (congrArg some e.symm)))⟩
    refine ak (nJ results67 ⟨_,Hu hf ⟨hlast,x⟩ hn,⟨d,amX.ac9 ⟨BQ r xs hn 0 omX,BQ r xs hn 1 omX,BQ r xs hn 2 omX⟩ az EC⟩,fun k z=>?_⟩)
    have hs:=hK.S k z
    have z1:=am.size
    exact (az.block k omX (fun e=>hs.2.2 (by cases e;rfl))).trans ((am.block k lzX omX).trans (Qk.block k lzX hs.2.1))
   refine L.o (fV Z Z omX (aG Z (dI (xs:=[.tmp 31]) Z call108 Z Z (jc ag) (fun w' a hR ha=>⟨ha.defers,by rw [ru hf,if_neg (fun h=>x h.2)],rfl,by rw [hR];exact (j.trans i).trans Qj⟩))))
  rw [decide_eq_false (show s.last ∉ [[]] by simpa using hlast)]
  refine L.m Z (L.pp (L.p (aI Z (dI (xs:=[.tmp 31]) Z call108 Z Z (jc ag) (fun w' a hR ha=>⟨ha.defers,by rw [ru hf,if_neg (fun h=>hlast h.1)],rfl,by rw [hR];exact (j.trans i).trans Qj⟩)))))
 refine ak (aj (aQ Z (ak (T.block (au (L.o (fE runUnderlying9 Z Z G (?_))))))))
 rcases Classical.em (k=fC) with rfl|K
 ·refine ah Z (bn (au (L.o (fD runUnderlying9 Z Z Z (ah Z (aZ (au (aO Z (aH (el:=9) (parts:=[(0,_),(1,_)]) (vs:=[(0,_),(1,_)]) (cs:=([iI,fC].map str)) Z (fun w=>by kernel_rfl) (fun bG bb aub auc aak aeM=>?_))))))))))
  have vX:=(hK1.ext i).ext aak
  refine L.o (ay (xs:=[.tmp 61,.tmp 62]) call68 Z Z (kQ 0 _ [iI,fC] b (dU d s) s.last bb (Strs.bI aeM Z dcX lzX) vX.row rfl) (fun bH an y=>?_))
  obtain ⟨rfl,rfl⟩:=y
  rcases Classical.em (s.last ∈ [iI,fC]) with hlast|hlast
  ·rw [decide_eq_true hlast]
   refine aN Z Z (L.le Z (Sl.val (C.ext aak)) (?_))
   rcases Classical.em (r.length=2) with x|x
   ·refine L.o (eU Z Z omX (aG Z (L.o (ay (xs:=[.tmp 68]) call108 Z Z (nC an) (fun bJ ao y=>?_)))))
    obtain rfl:=y
    have XQ:=(j.trans i).trans aak
    rcases hn:fQ r with _|xs
    ·refine ak (aQ Z (dI (xs:=[.tmp 70]) Z call122 Z Z (qX _ _ r ao (C.ext aak) (hLw.ext XQ) hw hn omX) (fun w' a hR ha=>⟨ha.defers,by rw [oV hf,if_pos ⟨hlast,x⟩,hn],rfl,XQ.trans hR⟩)))
    refine ak (?_)
    have a6:xs.length=2:=by rw [← (jW r xs hn).1];exact x
    have bK:=hc.1
    refine au (aO Z (ay (xs:=[.tmp 70]) call122 Z Z (pJ _ _ r xs ao (C.ext aak) (hLw.ext XQ) hw hn omX) (fun aB H y=>?_)))
    obtain ⟨aqK,ajO⟩:=y
    have UA:=vX.ext ajO
    have aal:gJ (fun k ↦ ao.heap.size≤k) H aB xs:=gJ.dD aqK (fun k h _ ↦ h)
    have hint:∀ W,gB d.pv.ownBlock H W→Ints .i64 0 W aB xs:=fun W h ↦ (aal.stay (Q':=fun _ ↦ True) fun k cs q B ↦ ⟨trivial,h.blk B (jY UA.pts.1 B dcX)⟩).ints
    have F:d.pv.ownBlock≠some b:=fun e ↦ (UA.pts.2 b e).2.1 rfl
    refine ah Z (?_)
    refine qJ mixed 16 0 [0,8] Z [.is _,.is _,.is _,.is _,.is _,.is _,.is _,.is _,.is _,.is _,.is _,.is _,.is _,.is _,.such (ada d.pv.ownBlock 124 (pC (xs.getD 0 0,xs.getD 1 0))),.such (fun _ _=>True)] [[],[],[1],[2],[3],[4],[5],[],[7],[8],[],[10],[11],[9,12],[13],[6,14]] [none,none,none,none,none,none,none,none,none,none,none,none,none,none,none,none] [[],[],[1],[1,2],[1,2,3],[1,2,3,4],[1,2,3,4,5],[],[7],[7,8],[],[10],[10,11],[7,8,9,10,11,12],[7,8,9,10,11,12,13],[1,2,3,4,5,6,7,8,9,10,11,12,13,14],[0,1,2,3,4,5,6,7,8,9,10,11,12,13,14,15],[0,1,2,3,4,5,6,7,8,9,10,11,12,13,14,15,16],[0,1,2,3,4,5,6,7,8,9,10,11,12,13,14,15,16,17],[0,1,2,3,4,5,6,7,8,9,10,11,12,13,14,15,16,17,18],[0,1,2,3,4,5,6,7,8,9,10,11,12,13,14,15,16,17,18,19]] (NC H d.pv.ownBlock 15 (Bo d.pv.ownBlock H.heap.size 124 2 (s.ps.length+1) (pcs s.ps++pC (xs.getD 0 0,xs.getD 1 0)))) (gB d.pv.ownBlock) krX krX krX Z ⟨ada.st,fun _ _ _ _ _=>trivial,trivial⟩ (.inl ⟨rfl,Keep.drew _ _⟩) ⟨fun c σ f hx hn n=>ObG.op rfl (O.move Z ⟨⟨gB.refl _ _,hx.nop (Keep.refl _ _) (fun _ g ↦ g) dcX⟩,rfl⟩),
      fun c σ f hx hn n=>ObG.op Z (O.move Z ⟨⟨gB.refl _ _,hx.nop (Keep.refl _ _) (fun _ g ↦ g) dcX⟩,rfl⟩),
      fun c σ f hx hn n=>ObG.op Z (gI Z ⟨⟨gB.refl _ _,hx.nop (Keep.refl _ _) (fun _ g ↦ g) dcX⟩,rfl⟩),
      fun c σ f hx hn n=>ObG.op Z (O.fa Z ⟨⟨gB.refl _ _,hx.nop (Keep.refl _ _) (fun _ g ↦ g) dcX⟩,rfl⟩),
      fun c σ f hx hn n=>ObG.op Z (O.fa Z ⟨⟨gB.refl _ _,hx.nop (Keep.refl _ _) (fun _ g ↦ g) dcX⟩,rfl⟩),
      fun c σ f hx hn n=>ObG.op Z (O.fa Z ⟨⟨gB.refl _ _,hx.nop (Keep.refl _ _) (fun _ g ↦ g) dcX⟩,rfl⟩),
      fun c σ f hx hn n=>ObG.op Z (dR Z ((hx.but.blk (cs:=dU d s) UA.row F).cell Z) ⟨⟨gB.refl _ _,hx.nop (Keep.refl _ _) (fun _ g ↦ g) dcX⟩,rfl⟩),
      fun c σ f hx hn n=>ObG.op Z (O.move Z ⟨⟨gB.refl _ _,hx.nop (Keep.refl _ _) (fun _ g ↦ g) dcX⟩,rfl⟩),
      fun c σ f hx hn n=>ObG.op Z (ig Z Z (hint _ hx.but) dcX (by show (0:Int)<xs.length;omega) ⟨⟨gB.refl _ _,hx.nop (Keep.refl _ _) (fun _ g ↦ g) dcX⟩,rfl⟩),
      fun c σ f hx hn n=>ObG.op Z (dR Z (Ints.at (hint _ hx.but) (show 0<xs.length by omega)) ⟨⟨gB.refl _ _,hx.nop (Keep.refl _ _) (fun _ g ↦ g) dcX⟩,rfl⟩),
      fun c σ f hx hn n=>ObG.op Z (O.move Z ⟨⟨gB.refl _ _,hx.nop (Keep.refl _ _) (fun _ g ↦ g) dcX⟩,rfl⟩),
      fun c σ f hx hn n=>ObG.op Z (ig Z Z (hint _ hx.but) dcX (by show (1:Int)<xs.length;omega) ⟨⟨gB.refl _ _,hx.nop (Keep.refl _ _) (fun _ g ↦ g) dcX⟩,rfl⟩),
      fun c σ f hx hn n=>ObG.op Z (dR Z (Ints.at (hint _ hx.but) (show 1<xs.length by omega)) ⟨⟨gB.refl _ _,hx.nop (Keep.refl _ _) (fun _ g ↦ g) dcX⟩,rfl⟩),
      fun c σ f hx hn n=>ObG.op Z (bU (v:=.agg #[.int .i64 (xs.getD 0 0),.int .i64 (xs.getD 1 0)]) (parts:=[(0,.tmp 81),(1,.tmp 84)]) (vs:=[(0,_),(1,_)]) Z (fun w=>by kernel_rfl) ⟨⟨gB.refl _ _,hx.nop (Keep.refl _ _) (fun _ g ↦ g) dcX⟩,rfl⟩),
      fun c σ f hx hn n=>ObG.op Z (aH (el:=124) (parts:=[(0,.tmp 85)]) (vs:=[(0,_)]) (cs:=(pC (xs.getD 0 0,xs.getD 1 0))) Z (fun w=>by kernel_rfl) (fun bc bL aud aue ajP aqL=>⟨⟨gB.dF ajP,hx.nop ajP (fun _ g ↦ g.ext ajP) dcX⟩,bc,rfl,fun e=>by have:=sV UA.pts.1 e;have:=hx.but.size;omega,aqL⟩)),
      fun c σ f hx hn bd amY n=>by { obtain ⟨bl,rfl,aC,U⟩:=amY;exact ObG.op rfl (iQ (size:=2) (bytes:=16) runUnderlying43 Tryz.tY Z Z Z Z dcX rfl rfl (cO UA.pts.1 (hx.PX hn) lzX) rfl (Row.bI U) (gu _) omX (by simp only [maxLen];omega) lzX (fun ap bM aqM amZ aqN=>⟨⟨gB.jV amZ,hx.app hn amZ ⟨aqM,fun k e=>(aqN k e).imp id (fun h=>Nat.le_trans (hx.PX hn).size h)⟩⟩,trivial⟩)) },
      trivial⟩ (fun auf bN aqO bd amY ap bO aD=>?_)
    obtain ⟨Lp,aE⟩:=aqO.done (aD 15 dcX _ _ rfl rfl).symm
    refine mG Z (L.fa Z (L.fa Z (L.fa Z (L.o (bV sizeOf43 (Sl.one (Sl.dD aE.1)) Z Z (Lp.blk (cs:=dU d s) UA.row F) (show (0:Nat)<7 by decide) (fun bP ahB aJ=>?_))))))
    refine ak (T.blk (aA (aN Z Z (mG Z (L.fa Z (L.o (bV sizeOf9 Z Z Z aJ (show (6:Nat)<7 by decide) (fun Oy mY EC=>?_))))))))
    have ajQ:Bo d.pv.ownBlock H.heap.size 124 2 (s.ps.length+1) (pcs s.ps++pC (xs.getD 0 0,xs.getD 1 0)) ap Oy:=(aE.updB ahB (Lp.blk (cs:=dU d s) UA.row F) dcX).updB mY aJ dcX
    have XR:Ext w0 Oy:=((Lp.ext UA.e (fun k e ↦ (UA.pts.2 k e).1)).upd ahB (.inr UA.lo)).upd mY (.inr UA.lo)
    have XT:H.heap.size≤Oy.heap.size:=by have:=Lp.size;have:=ahB.size;have:=mY.size;omega
    have hkeep:∀ k,k<H.heap.size→k≠b→d.pv.ownBlock≠some k→Oy.heap[k]?=H.heap[k]?:=fun k G K x ↦ (mY.block k K).trans ((ahB.block k K).trans (Lp.block k G x))
    refine ak (nJ results67 ⟨_,Ez hf ⟨hlast,x⟩ hn,⟨{ d with pv:=ap },UA.JI hkeep XR XT EC ajQ⟩,fun k z=>?_⟩)
    have hs:=hK.S k z
    have z1:=ajO.size
    have z2:=XQ.size
    exact (hkeep k omX hs.2.2 (fun e=>(UA.pts.2 k e).2.2 z)).trans ((ajO.block k lzX omX).trans (XQ.block k lzX hs.2.1))
   refine L.o (fV Z Z omX (aG Z (dI (xs:=[.tmp 68]) Z call108 Z Z (jc an) (fun w' a hR ha=>⟨ha.defers,by rw [oV hf,if_neg (fun h=>x h.2)],rfl,by rw [hR];exact (j.trans i).trans aak⟩))))
  rw [decide_eq_false hlast]
  refine L.m Z (L.pp (L.p (aI Z (dI (xs:=[.tmp 68]) Z call108 Z Z (jc an) (fun w' a hR ha=>⟨ha.defers,by rw [oV hf,if_neg (fun h=>hlast h.1)],rfl,by rw [hR];exact (j.trans i).trans aak⟩)))))
 refine ah Z (bn (au (L.o (fE runUnderlying9 Z Z K (?_)))))
 rcases Classical.em (k=gq) with rfl|x
 ·refine ah Z (bn (au (L.o (fD runUnderlying9 Z Z Z (ah Z (aZ (au (aO Z (aH (el:=9) (parts:=[(0,_),(1,_),(2,_),(3,_)]) (vs:=[(0,_),(1,_),(2,_),(3,_)]) (cs:=([iI,fC,gq,gy].map str)) Z (fun w=>by kernel_rfl) (fun bQ be aug auh V aqP=>?_))))))))))
  have vX:=(hK1.ext i).ext V
  refine L.o (ay (xs:=[.tmp 94,.tmp 95]) call68 Z Z (kQ 0 _ [iI,fC,gq,gy] b (dU d s) s.last be (Strs.bI aqP Z dcX lzX) vX.row rfl) (fun bR aK y=>?_))
  obtain ⟨rfl,rfl⟩:=y
  rcases Classical.em (s.last ∈ [iI,fC,gq,gy]) with hlast|hlast
  ·rw [decide_eq_true hlast]
   refine L.o (ay (xs:=[.tmp 96]) call108 Z Z (nC aK) (fun bS E y=>?_))
   obtain rfl:=y
   have aam:=(j.trans i).trans V
   rcases hn:fQ r with _|xs
   ·refine ak (?_)
    have t:fQ r=none:=hn
    refine KH mixed 12 0 [0,6] Z [.is _,.is _,.is _,.is _,.is _,.is _,.is _,.is _,.such (fun _ _=>False),.such (fun _ _=>False),.such (fun _ _=>False),.such (fun _ _=>False)] [[],[],[1],[2],[3],[4],[5],[],[7],[8],[9],[6,10]] [none,none,none,none,none,none,none,none,none,none,none,none] [[],[],[1],[1,2],[1,2,3],[1,2,3,4],[1,2,3,4,5],[],[7],[7,8],[7,8,9],[1,2,3,4,5,6,7,8,9,10],[0,1,2,3,4,5,6,7,8,9,10,11],[0,1,2,3,4,5,6,7,8,9,10,11,12],[0,1,2,3,4,5,6,7,8,9,10,11,12,13],[0,1,2,3,4,5,6,7,8,9,10,11,12,13,14],[0,1,2,3,4,5,6,7,8,9,10,11,12,13,14,15]] (fun _ W=>Ext E W) (Ext) krX krX krX Z ⟨fun _ _ _ _ h=>h,fun _ _ _ _ h=>h,fun _ _ _ _ h=>h,fun _ _ _ _ h=>h,trivial⟩ (Keep.drew _ _) ⟨fun c f hx=>Gi.op rfl (O.move Z ⟨⟨Keep.refl _ _,hx⟩,rfl⟩),
      fun c f hx=>Gi.op Z (O.move Z ⟨⟨Keep.refl _ _,hx⟩,rfl⟩),
      fun c f hx=>Gi.op Z (gI Z ⟨⟨Keep.refl _ _,hx⟩,rfl⟩),
      fun c f hx=>Gi.op Z (O.fa Z ⟨⟨Keep.refl _ _,hx⟩,rfl⟩),
      fun c f hx=>Gi.op Z (O.fa Z ⟨⟨Keep.refl _ _,hx⟩,rfl⟩),
      fun c f hx=>Gi.op Z (O.fa Z ⟨⟨Keep.refl _ _,hx⟩,rfl⟩),
      fun c f hx=>Gi.op Z (dR Z ((Blk.ext (cs:=dU d s) vX.row hx).cell Z) ⟨⟨Keep.refl _ _,hx⟩,rfl⟩),
      fun c f hx=>Gi.op Z (O.move Z ⟨⟨Keep.refl _ _,hx⟩,rfl⟩),
      fun c f hx=>CB rfl (Aj (xs:=[.tmp 105]) call122 rfl rfl (qX _ _ r f ((C.ext V).ext hx) (hLw.ext (aam.trans hx)) hw t omX) (fun w' a hR ha=>⟨ha.defers,by rw [uU hf,if_pos hlast,t],rfl,(aam.trans hx).trans hR⟩)),
      fun c f hx ajR UC=>UC.elim,
      fun c f hx X Ql=>Ql.elim,
      fun c f hx aby XU=>XU.elim,
      trivial⟩ (fun bf aL ajR UC X Ql aby XU Y ajS=>?_)
    exact UC.elim
   refine ak (?_)
   have t:fQ r=some xs:=hn
   have bg:=hc.2.1
   have F:d.fv.ownBlock≠some b:=fun e ↦ (vX.fsr.2 b e).2.1 rfl
   have N:∀ k,d.fv.ownBlock=some k→k<E.heap.size:=fun k e ↦ sV vX.fsr.1 e
   have aM:=vX.fsl
   refine qJ mixed 12 0 [0,6] Z [.is _,.is _,.is _,.is _,.is _,.is _,.is _,.is _,.such (adb E.heap.size xs),.such (afU E.heap.size xs),.such (afV d.fv.ownBlock E.heap.size xs),.such (fun _ _=>True)] [[],[],[1],[2],[3],[4],[5],[],[7],[8],[9],[6,10]] [none,none,none,none,none,none,none,none,none,none,none,none] [[],[],[1],[1,2],[1,2,3],[1,2,3,4],[1,2,3,4,5],[],[7],[7,8],[7,8,9],[1,2,3,4,5,6,7,8,9,10],[0,1,2,3,4,5,6,7,8,9,10,11],[0,1,2,3,4,5,6,7,8,9,10,11,12],[0,1,2,3,4,5,6,7,8,9,10,11,12,13],[0,1,2,3,4,5,6,7,8,9,10,11,12,13,14],[0,1,2,3,4,5,6,7,8,9,10,11,12,13,14,15]] (NC E d.fv.ownBlock 11 (ade d.fv.ownBlock E.heap.size d.vs xs)) (gB d.fv.ownBlock) krX krX krX Z ⟨adb.st N,afU.st N,afV.st N,fun _ _ _ _ _=>trivial,trivial⟩ (.inl ⟨rfl,Keep.drew _ _⟩) ⟨fun c σ f hx hn n=>ObG.op rfl (O.move Z ⟨⟨gB.refl _ _,hx.nop (Keep.refl _ _) (fun _ g ↦ g) dcX⟩,rfl⟩),
     fun c σ f hx hn n=>ObG.op Z (O.move Z ⟨⟨gB.refl _ _,hx.nop (Keep.refl _ _) (fun _ g ↦ g) dcX⟩,rfl⟩),
     fun c σ f hx hn n=>ObG.op Z (gI Z ⟨⟨gB.refl _ _,hx.nop (Keep.refl _ _) (fun _ g ↦ g) dcX⟩,rfl⟩),
     fun c σ f hx hn n=>ObG.op Z (O.fa Z ⟨⟨gB.refl _ _,hx.nop (Keep.refl _ _) (fun _ g ↦ g) dcX⟩,rfl⟩),
     fun c σ f hx hn n=>ObG.op Z (O.fa Z ⟨⟨gB.refl _ _,hx.nop (Keep.refl _ _) (fun _ g ↦ g) dcX⟩,rfl⟩),
     fun c σ f hx hn n=>ObG.op Z (O.fa Z ⟨⟨gB.refl _ _,hx.nop (Keep.refl _ _) (fun _ g ↦ g) dcX⟩,rfl⟩),
     fun c σ f hx hn n=>ObG.op Z (dR Z ((hx.but.blk (cs:=dU d s) vX.row F).cell Z) ⟨⟨gB.refl _ _,hx.nop (Keep.refl _ _) (fun _ g ↦ g) dcX⟩,rfl⟩),
     fun c σ f hx hn n=>ObG.op Z (O.move Z ⟨⟨gB.refl _ _,hx.nop (Keep.refl _ _) (fun _ g ↦ g) dcX⟩,rfl⟩),
     fun c σ f hx hn n=>ObG.op Z (ay (xs:=[.tmp 105]) call122 Z Z (pJ 0 _ r xs f (Sl.mono (Sl.keep (Strs.ext C V) (hx.but.keep (lo:=w.heap.size) (fun k e ↦ sV hK.fsr.1 e))) lzX) (hL0.ext (hx.but.ext vX.e (fun k e ↦ (vX.fsr.2 k e).1))) (pK P hf) t omX) (fun v wy h=>⟨⟨gB.dF h.2,hx.nop h.2 (fun _ g ↦ g.ext h.2) dcX⟩,by obtain ⟨G,K⟩:=h;have hB:=gJ.dD (Q:=kE E.heap.size) G (fun k z _ ↦ Nat.le_trans hx.but.size z);obtain ⟨oa,cp,e⟩:=hB.form;exact ⟨oa,cp,e,hB⟩⟩)),
     fun c σ f hx hn ajR UC n=>by { obtain ⟨oa,cp,rfl,hI⟩:=UC;exact ObG.op rfl (bU (v:=.agg #[.slice oa xs.length cp,.slice none 0 0]) (parts:=[(0,.tmp 106)]) (vs:=[(0,_)]) Z (fun w=>by kernel_rfl) ⟨⟨gB.refl _ _,hx.nop (Keep.refl _ _) (fun _ g ↦ g) dcX⟩,oa,cp,rfl,hI⟩) },
     fun c σ f hx hn X Ql n=>by { obtain ⟨oa,cp,rfl,hI⟩:=Ql;exact ObG.op rfl (aH (el:=127) (parts:=[(0,.tmp 107)]) (vs:=[(0,_)]) (cs:=[.slice oa xs.length cp,.slice none 0 0]) Z (fun w=>by kernel_rfl) (fun aqQ ajT aqR aqS aan ajU=>⟨⟨gB.dF aan,hx.nop aan (fun _ g ↦ g.ext aan) dcX⟩,aqQ,oa,cp,rfl,fun e=>by have:=N _ e;have:=hx.but.size;omega,ajU,hI.abw N (gB.dF aan)⟩)) },
     fun c σ f hx hn aby XU n=>by { obtain ⟨bl,oa,cp,rfl,aC,U,ad⟩:=XU;exact ObG.op rfl (iQ (size:=2) (bytes:=48) runUnderlying44 Tryz.oW Z Z Z Z dcX rfl rfl (cO vX.fsr.1 (hx.PX hn) lzX) rfl (Row.bI U) (by intro u hu;simp at hu;obtain (rfl|rfl):=hu <;> rfl) omX (by simp only [maxLen];omega) lzX (fun Y aui ajV ado ajW=>⟨⟨gB.jV ado,hx.app hn ado ⟨.slice oa xs.length cp,⟨ajV,fun k e=>(ajW k e).imp id (fun h=>Nat.le_trans (hx.PX hn).size h)⟩,ad.abw N (gB.jV ado)⟩⟩,trivial⟩)) },
     trivial⟩ (fun auj bf aL ajR UC X Ql aby XU Y ajS ahc=>?_)
   obtain ⟨IK,ahw⟩:=aL.done (ahc 11 dcX _ _ rfl rfl).symm
   refine mG Z (L.fa Z (L.fa Z (L.fa Z (L.o (bV sizeOf44 (by obtain ⟨u,G,_⟩:=ahw;exact Sl.one (Sl.dD G.1)) rfl rfl (IK.blk (cs:=dU d s) vX.row F) (show (1:Nat)<7 by decide) (fun aqx Ux aai=>?_))))))
   refine ak (T.blk (aA (aN Z Z (mG Z (L.fa Z (L.o (bV sizeOf9 Z Z Z aai (show (6:Nat)<7 by decide) (fun Oy mY EC=>?_))))))))
   have aP:=Blk.lt (cs:=dU d s) vX.row
   obtain ⟨u,aq,ar⟩:=(ahw.updB Ux (IK.blk (cs:=dU d s) vX.row F) dcX aP).updB mY aai dcX aP
   have XR:Ext w0 Oy:=((IK.ext vX.e (fun k e ↦ (vX.fsr.2 k e).1)).upd Ux (.inr vX.lo)).upd mY (.inr vX.lo)
   have XT:E.heap.size≤Oy.heap.size:=by have:=IK.size;have:=Ux.size;have:=mY.size;omega
   have hkeep:∀ k,k<E.heap.size→k≠b→d.fv.ownBlock≠some k→Oy.heap[k]?=E.heap[k]?:=fun k G K x ↦ (mY.block k K).trans ((Ux.block k K).trans (IK.block k G x))
   refine ak (nJ results67 ⟨_,Hw hf hlast t,⟨oK d Y u xs,vX.P5 hkeep XR XT EC aq ar⟩,fun k z=>?_⟩)
   have hs:=hK.S k z
   have z2:=aam.size
   exact (hkeep k omX hs.2.2 (fun e=>(vX.fsr.2 k e).2.2 z)).trans (aam.block k lzX hs.2.1)
  rw [decide_eq_false hlast]
  refine dI (xs:=[.tmp 96]) Z call108 Z Z (jc aK) (fun w' a hR ha=>⟨ha.defers,by rw [uU hf,if_neg hlast],rfl,by rw [hR];exact (j.trans i).trans V⟩)
 refine ah Z (bn (au (L.o (fE runUnderlying9 Z Z x (?_)))))
 rcases Classical.em (k=gy) with rfl|h4
 ·refine ah Z (bn (au (L.o (fD runUnderlying9 Z Z Z (ah Z (aZ (au (aO Z (aH (el:=9) (parts:=[(0,_),(1,_)]) (vs:=[(0,_),(1,_)]) (cs:=([gq,gy].map str)) Z (fun w=>by kernel_rfl) (fun aqT abv ajX bW JE XM=>?_))))))))))
  have vX:=(hK1.ext i).ext JE
  refine L.o (ay (xs:=[.tmp 116,.tmp 117]) call68 Z Z (kQ 0 _ [gq,gy] b (dU d s) s.last abv (Strs.bI XM Z dcX lzX) vX.row rfl) (fun auk aR y=>?_))
  obtain ⟨rfl,rfl⟩:=y
  rcases Classical.em (s.last ∈ [gq,gy]) with hlast|hlast
  ·rw [decide_eq_true hlast]
   refine L.o (ay (xs:=[.tmp 118]) call108 Z Z (nC aR) (fun aul aqU y=>?_))
   obtain rfl:=y
   have abz:=(j.trans i).trans JE
   have bh:=adn hlast
   have bg:=hc.2.1
   have aM:=vX.fsl
   have aT:0<d.vs.length:=by rw [aM];exact List.length_pos_iff.2 bh
   obtain ⟨g,cap,cs,aV,ae,hgB,I,J,aa,ab⟩:=vX.fsr.form aT
   have aY:(dU d s)[1]?=some (.slice (some ⟨g,0,none⟩) d.vs.length cap):=by rw [← aV];rfl
   have abA:Blk aqU b (dU d s) 129:=vX.row
   refine ak (aj (?_))
   refine dn mixed 14 [0] Z [.is _,.is _,.is _,.is _,.is _,.is _,.is _,.is _,.is _,.is _,.is _,.is _,.is _,.is _] [[],[0],[1],[2],[3],[4],[],[6],[7],[8],[9],[10],[11],[12]] trivial ⟨fun f hx=>aF rfl,
     fun f hx=>jF rfl,
     fun f hx=>Ob.fa rfl,
     fun f hx=>Ob.fa rfl,
     fun f hx=>Ob.fa rfl,
     fun f hx=>aS rfl ((Blk.ext abA hx).cell aY),
     fun f hx=>aF rfl,
     fun f hx=>jF rfl,
     fun f hx=>Ob.fa rfl,
     fun f hx=>Ob.fa rfl,
     fun f hx=>Ob.fa rfl,
     fun f hx=>aS rfl ((Blk.ext abA hx).cell aY),
     fun f hx=>Ob.o (O.le Z (Sl.val (AU (Blk.ext hgB hx) I J aa ab)) kR),
     fun f hx=>Ob.o (dh Z Z omX kR),
     trivial⟩ (fun D xw=>?_)
   refine dG Z Z (AU (Blk.ext hgB xw) I J aa ab) (?_)
   have Sj:=vX.ext xw
   have adp:=Blk.ext hgB xw
   have M:xC (RdQ w0 b S) D 30 1 (eH d).hv (eH d).hs.length (dw (eH d).hs):=(Sj.fa (d.vs.length-1) omX).hv
   have bX:(eH d).hs.length≤100000:=by
    have G:=(Sj.fa (d.vs.length-1) omX).hx
    have K:=congrArg List.length G
    rw [List.length_map] at K
    have x:(eH d).hs.length=(s.fs.getD (d.vs.length-1) ([],[])).2.length:=K
    rw [x,aX omX]
    exact hc.2.2.2 _ (List.getElem_mem _)
   have N:∀ k,(eH d).hv.ownBlock=some k→k<D.heap.size:=fun k e ↦ sV M.1 e
   have F:(eH d).hv.ownBlock≠some b:=fun e ↦ (M.2 b e).2.1 rfl
   have av:(eH d).hv.ownBlock≠some g:=jY M.1 adp dcX
   have hj:((d.vs.length:Int)-1).toNat=d.vs.length-1:=by omega
   have hcell:(fO d.vs)[((d.vs.length:Int)-1).toNat*2+1]?=some (eH d).hv:=by rw [hj];exact Es d.vs _ omX
   have XV:Blk D b (dU d s) 129:=Sj.row
   have a0:=abz.trans xw
   rcases hn:fQ r with _|xs
   ·have t:fQ r=none:=hn
    refine ah Z (?_)
    refine KH mixed 9 0 [9,6] Z [.is _,.is _,.is _,.is _,.is _,.is _,.such (fun _ _=>False),.such (fun _ _=>False),.such (fun _ _=>False)] [[],[],[1],[2],[3],[],[5],[6],[4,7]] [none,none,none,none,none,none,none,none,none] [[],[],[1],[1,2],[1,2,3],[],[5],[5,6],[1,2,3,4,5,6,7],[0,1,2,3,4,5,6,7,8],[0,1,2,3,4,5,6,7,8,9],[0,1,2,3,4,5,6,7,8,9,10]] (fun _ W=>Ext D W) (Ext) krX krX krX Z ⟨fun _ _ _ _ h=>h,fun _ _ _ _ h=>h,fun _ _ _ _ h=>h,trivial⟩ (Keep.drew _ _) ⟨fun c f hx=>Gi.op rfl (O.move Z ⟨⟨Keep.refl _ _,hx⟩,rfl⟩),
      fun c f hx=>Gi.op Z (O.move Z ⟨⟨Keep.refl _ _,hx⟩,rfl⟩),
      fun c f hx=>Gi.op Z (gI Z ⟨⟨Keep.refl _ _,hx⟩,rfl⟩),
      fun c f hx=>Gi.op Z (O.fa Z ⟨⟨Keep.refl _ _,hx⟩,rfl⟩),
      fun c f hx=>Gi.op Z (dR Z (Sl.at (AU (Blk.ext adp hx) I J aa ab) hcell) ⟨⟨Keep.refl _ _,hx⟩,rfl⟩),
      fun c f hx=>Gi.op Z (O.move Z ⟨⟨Keep.refl _ _,hx⟩,rfl⟩),
      fun c f hx=>CB rfl (Aj (xs:=[.tmp 140]) call122 rfl rfl (qX _ _ r f ((C.ext JE).ext (xw.trans hx)) (hL0.ext (vX.e.trans (xw.trans hx))) hw t omX) (fun w' a hR ha=>⟨ha.defers,by rw [uV hf,if_pos hlast,t],rfl,(abz.trans (xw.trans hx)).trans hR⟩)),
      fun c f hx ac UD=>UD.elim,
      fun c f hx ajY XW=>XW.elim,
      trivial⟩ (fun bi a1 ac UD ajY XW v143 ajZ=>?_)
    exact UD.elim
   have t:fQ r=some xs:=hn
   refine ah Z (?_)
   refine qJ mixed 9 0 [9,6] Z [.is _,.is _,.is _,.is _,.is _,.is _,.such (adb D.heap.size xs),.such (afW (eH d).hv.ownBlock D.heap.size xs),.such (fun _ _=>True)] [[],[],[1],[2],[3],[],[5],[6],[4,7]] [none,none,none,none,none,none,none,none,none] [[],[],[1],[1,2],[1,2,3],[],[5],[5,6],[1,2,3,4,5,6,7],[0,1,2,3,4,5,6,7,8],[0,1,2,3,4,5,6,7,8,9],[0,1,2,3,4,5,6,7,8,9,10]] (NC D (eH d).hv.ownBlock 8 (adf (eH d).hv.ownBlock D.heap.size (eH d).hs xs)) (gB (eH d).hv.ownBlock) krX krX krX Z ⟨adb.st N,afW.st N,fun _ _ _ _ _=>trivial,trivial⟩ (.inl ⟨rfl,Keep.drew _ _⟩) ⟨fun c σ f hx hn n=>ObG.op rfl (O.move Z ⟨⟨gB.refl _ _,hx.nop (Keep.refl _ _) (fun _ g ↦ g) dcX⟩,rfl⟩),
     fun c σ f hx hn n=>ObG.op Z (O.move Z ⟨⟨gB.refl _ _,hx.nop (Keep.refl _ _) (fun _ g ↦ g) dcX⟩,rfl⟩),
     fun c σ f hx hn n=>ObG.op Z (gI Z ⟨⟨gB.refl _ _,hx.nop (Keep.refl _ _) (fun _ g ↦ g) dcX⟩,rfl⟩),
     fun c σ f hx hn n=>ObG.op Z (O.fa Z ⟨⟨gB.refl _ _,hx.nop (Keep.refl _ _) (fun _ g ↦ g) dcX⟩,rfl⟩),
     fun c σ f hx hn n=>ObG.op Z (dR Z (Sl.at (AU (hx.but.blk adp av) I J aa ab) hcell) ⟨⟨gB.refl _ _,hx.nop (Keep.refl _ _) (fun _ g ↦ g) dcX⟩,rfl⟩),
     fun c σ f hx hn n=>ObG.op Z (O.move Z ⟨⟨gB.refl _ _,hx.nop (Keep.refl _ _) (fun _ g ↦ g) dcX⟩,rfl⟩),
     fun c σ f hx hn n=>ObG.op Z (ay (xs:=[.tmp 140]) call122 Z Z (pJ 0 _ r xs f (Sl.mono (Sl.keep (Strs.ext (Strs.ext C JE) xw) (hx.but.keep (lo:=w.heap.size) (fun k e ↦ by have G:=sV (hK.fa (d.vs.length-1) omX).hv.1 e;exact G))) lzX) (hL0.ext (hx.but.ext Sj.e (fun k e ↦ (M.2 k e).1))) (pK P hf) t omX) (fun v wy h=>⟨⟨gB.dF h.2,hx.nop h.2 (fun _ g ↦ g.ext h.2) dcX⟩,by obtain ⟨G,K⟩:=h;have hB:=gJ.dD (Q:=kE D.heap.size) G (fun k z _ ↦ Nat.le_trans hx.but.size z);obtain ⟨oa,cp,e⟩:=hB.form;exact ⟨oa,cp,e,hB⟩⟩)),
     fun c σ f hx hn ac UD n=>by { obtain ⟨oa,cp,rfl,hI⟩:=UD;exact ObG.op rfl (aH (el:=30) (parts:=[(0,.tmp 141)]) (vs:=[(0,_)]) (cs:=[.slice oa xs.length cp]) Z (fun w=>by kernel_rfl) (fun aqV aum aqW aqX aao bj=>⟨⟨gB.dF aao,hx.nop aao (fun _ g ↦ g.ext aao) dcX⟩,aqV,.slice oa xs.length cp,rfl,fun e=>by have:=N _ e;have:=hx.but.size;omega,bj,hI.abw N (gB.dF aao)⟩)) },
     fun c σ f hx hn ajY XW n=>by { obtain ⟨bl,ul,rfl,aC,U,ad⟩:=XW;exact ObG.op rfl (iQ (size:=1) (bytes:=24) runUnderlying125 Tryz.rH Z Z Z Z dcX rfl rfl (cO M.1 (hx.PX hn) lzX) rfl (Row.bI U) (by intro u hu;simp at hu;obtain rfl:=hu;exact Sl.one ad.ints) omX (by simp only [maxLen];omega) lzX (fun v143 aun bk adq bm=>⟨⟨gB.jV adq,hx.app hn adq ⟨ul,⟨bk,fun k e=>(bm k e).imp id (fun h=>Nat.le_trans (hx.PX hn).size h)⟩,ad.abw N (gB.jV adq)⟩⟩,trivial⟩)) },
     trivial⟩ (fun auo bi a1 ac UD ajY XW v143 ajZ aqY=>?_)
   obtain ⟨Lm,a2⟩:=a1.done (aqY 8 dcX _ _ rfl rfl).symm
   refine mG Z (L.fa Z (L.o (uf sizeOf125 (by obtain ⟨u,G,_⟩:=a2;exact Sl.one (Sl.dD G.1)) rfl rfl (Lm.blk adp av) (by show 0+(((d.vs.length:Int)-1).toNat*2+1)<cs.length;omega) (fun aqZ UE adr=>?_))))
   have bo:0+(((d.vs.length:Int)-1).toNat*2+1)=(d.vs.length-1)*2+1:=by omega
   replace adr:Blk aqZ g (cs.set ((d.vs.length-1)*2+1) v143) 127:=by rw [← bo];exact adr
   have aw:b≠g:=fun e ↦ ae.2.1 e.symm
   refine ak (T.blk (aA (aN Z Z (mG Z (L.fa Z (L.o (bV sizeOf9 Z Z Z (Blk.upd (Lm.blk XV F) UE aw) (show (6:Nat)<7 by decide) (fun Oy mY EC=>?_))))))))
   have bp:=Blk.lt adp
   have a3:=Blk.lt XV
   obtain ⟨u,aq,ar⟩:=(a2.updB UE (Lm.blk adp av) dcX bp).updB mY (Blk.upd (Lm.blk XV F) UE aw) dcX a3
   have XR:Ext w0 Oy:=((Lm.ext Sj.e (fun k e ↦ (M.2 k e).1)).upd UE (.inr ae.1)).upd mY (.inr Sj.lo)
   have XT:D.heap.size≤Oy.heap.size:=by have:=Lm.size;have:=UE.size;have:=mY.size;omega
   have hkeep:∀ k,k<D.heap.size→k≠b→k≠g→(eH d).hv.ownBlock≠some k→Oy.heap[k]?=D.heap[k]?:=fun k G K x h4 ↦ (mY.block k K).trans ((UE.block k x).trans (Lm.block k G h4))
   have bq:=Blk.upd adr mY (Ne.symm aw)
   refine ak (nJ results67 ⟨_,Hy hf hlast t,⟨yS d v143 u xs,Sj.P8 aT aV ae adp I J aa ab hkeep XR XT EC bq aq ar⟩,fun k z=>?_⟩)
   have hs:=hK.S k z
   have z2:=a0.size
   exact (hkeep k omX hs.2.2 (fun e=>ae.2.2 (by rw [← e];exact z)) (fun e=>(M.2 k e).2.2 z)).trans (a0.block k lzX hs.2.1)
  rw [decide_eq_false hlast]
  refine dI (xs:=[.tmp 118]) Z call108 Z Z (jc aR) (fun w' a hR ha=>⟨ha.defers,by rw [uV hf,if_neg hlast],rfl,by rw [hR];exact (j.trans i).trans JE⟩)
 refine ah Z (bn (au (L.o (fE runUnderlying9 Z Z h4 (?_)))))
 rcases Classical.em (k=lY) with rfl|h5
 ·refine ah Z (bn (au (L.o (fD runUnderlying9 Z Z Z (ah Z (aZ (au (aO Z (aH (el:=9) (parts:=[(0,_),(1,_)]) (vs:=[(0,_),(1,_)]) (cs:=([[],lU].map str)) Z (fun w=>by kernel_rfl) (fun aup br bY bZ aap bs=>?_))))))))))
  have hK3:=(hK1.ext i).ext aap
  refine L.o (ay (xs:=[.tmp 148,.tmp 149]) call68 Z Z (kQ 0 _ [[],lU] b (dU d s) s.last br (Strs.bI bs Z dcX lzX) hK3.row rfl) (fun v3 w3 y=>?_))
  obtain ⟨rfl,rfl⟩:=y
  rcases Classical.em (s.last ∈ [[],lU]) with hlast|hlast
  ·rw [decide_eq_true hlast]
   refine bT Z (dI (xs:=[.tmp 151]) Z call108 Z Z (jc w3) (fun w' a hR ha=>⟨ha.defers,by rw [pR hf,if_neg (fun h=>h hlast)],rfl,by rw [hR];exact (j.trans i).trans aap⟩))
  rw [decide_eq_false hlast]
  refine bT Z (L.o (ay (xs:=[.tmp 151]) call108 Z Z (nC w3) (fun v4 w4 y=>?_)))
  obtain rfl:=y
  have xu:=(j.trans i).trans aap
  have af:=Uw w0 b _ s S _ r w4 ⟨d,hK3⟩ hL0 (C.ext aap) hw hr hc.2.2.1
  rcases hu:zU s r with _|u
  ·refine ak (?_)
   rw [hu] at af
   refine aA (aN Z Z (dI (xs:=[.tmp 153,.tmp 154]) Z call123 Z Z (af.mono fun e W' h ↦ TkP.no h) (fun w' a hR ha=>⟨ha.defers,by rw [pR hf,if_pos hlast,hu],rfl,xu.trans hR⟩)))
  refine ak (?_)
  rw [hu] at af
  refine aA (aN Z Z (L.o (ay (xs:=[.tmp 153,.tmp 154]) call123 Z Z (af.mono fun e W' h ↦ TkP.yes h) (fun v5 w5 y=>?_))))
  obtain ⟨⟨d',a4⟩,bt⟩:=y
  refine ak (T.blk (aA (aN Z Z (mG Z (L.fa Z (L.o (bV sizeOf9 Z Z Z a4.row (show (6:Nat)<7 by decide) (fun Oy mY EC=>?_))))))))
  refine ak (nJ results67 ⟨{ zX s u with last:=lY },by rw [pR hf,if_pos hlast,hu],⟨d',a4.setLast mY EC⟩,fun k z=>?_⟩)
  have x:=hK.S k z
  have z1:=xu.size
  exact (mY.block k x.2.2).trans ((bt k z).trans (xu.block k lzX x.2.1))
 refine ah Z (bn (au (L.o (fE runUnderlying9 Z Z h5 (?_)))))
 rcases Classical.em (k=lU) with rfl|h6
 ·refine ah Z (bn (au (L.o (fD runUnderlying9 Z Z Z (ah Z (aZ (aA (aO Z (aH (el:=9) (parts:=[(0,_),(1,_)]) (vs:=[(0,_),(1,_)]) (cs:=([[],lU].map str)) Z (fun w=>by kernel_rfl) (fun auq bu b0 b1 XY bv=>?_))))))))))
  have ads:=(hK1.ext i).ext XY
  refine L.o (ay (xs:=[.tmp 158,.tmp 159]) call68 Z Z (kQ 0 _ [[],lU] b (dU d s) s.last bu (Strs.bI bv Z dcX lzX) ads.row rfl) (fun bx ax y=>?_))
  obtain ⟨rfl,rfl⟩:=y
  rcases Classical.em (s.last ∈ [[],lU]) with hlast|hlast
  ·rw [decide_eq_true hlast]
   refine bT Z (L.m Z (L.pp (L.p (aI Z (dI (xs:=[.tmp 166]) Z call108 Z Z (jc ax) (fun w' a hR ha=>⟨ha.defers,by rw [step_end hf,if_neg (fun h=>h.1 hlast)],rfl,by rw [hR];exact (j.trans i).trans XY⟩))))))
  rw [decide_eq_false hlast]
  refine bT Z (aN Z Z (L.le Z (Sl.val (C.ext XY)) (?_)))
  rcases Classical.em (r.length=0) with x|x
  ·refine L.o (eU Z Z omX (aG Z (L.o (ay (xs:=[.tmp 166]) call108 Z Z (nC ax) (fun v167 aur y=>?_)))))
   obtain rfl:=y
   refine ak (T.blk (aA (aN Z Z (mG Z (L.fa Z (L.o (bV sizeOf9 Z Z Z ads.row (show (6:Nat)<7 by decide) (fun Oy mY EC=>?_))))))))
   refine ak (nJ results67 ⟨{ s with last:=lU },by rw [step_end hf,if_pos ⟨hlast,x⟩],⟨d,ads.setLast mY EC⟩,fun k z=>?_⟩)
   have x:=hK.S k z
   have z1:=j.size
   have z2:=i.size
   exact (mY.block k x.2.2).trans ((XY.block k lzX omX).trans ((i.block k lzX omX).trans (j.block k lzX x.2.1)))
  refine L.o (fV Z Z omX (aG Z (dI (xs:=[.tmp 166]) Z call108 Z Z (jc ax) (fun w' a hR ha=>⟨ha.defers,by rw [step_end hf,if_neg (fun h=>x h.2)],rfl,by rw [hR];exact (j.trans i).trans XY⟩))))
 refine ah Z (bn (au (L.o (fE runUnderlying9 Z Z h6 (ah Z (bn (aA (dI (xs:=[.const (.bool false)]) Z call108 Z Z (jc w2) (fun w' a hR ha=>⟨ha.defers,step_bad hf ⟨G,K,x,h4,h5,h6⟩,rfl,by rw [hR];exact j.trans i⟩)))))))))
theorem PY.mono {s:PS} {i j:Nat} (h:PY s i) (a:i≤j):PY s j:=⟨by have:=h.1;omega,by have:=h.2.1;omega,by have:=h.2.2.1;omega,fun f hf=>by have:=h.2.2.2 f hf;omega⟩
theorem Hz {s s':PS} (h:iE s l=some s') (a:l.length≤100000) (hn:∀ u∈s.us,u.nm.length≤100000):∀ u∈s'.us,u.nm.length≤100000:=by
 cases hf:fieldsB l with
 | nil=>rw [step_nil hf] at h;cases h;exact hn
 | cons k r =>
  by_cases e:k=lY
  ·subst e
   rw [pR hf] at h
   split at h
   ·split at h
    ·rename_i u b
     cases h
     intro x hx
     rcases List.mem_append.1 hx with hx|hx
     ·exact hn x hx
     rw [List.mem_singleton.1 hx];exact XL b (pK a hf)
    cases h
   cases h
  unfold iE at h
  rw [hf] at h
  simp only [] at h
  repeat' split at h
  all_goals first
   | (cases h;exact hn)
   | (cases h;done)
   | contradiction
theorem aaq (w0:World) (b:Nat) (hL:sF w0):DoC 67 #[.pointer (some ⟨b,0,none⟩)] #[] iE aah (RdJ w0 b) (XP w0):=by
 intro s S W l j hB i hI g
 obtain ⟨hI,f⟩:=hI
 have hS:∀ k,S k→w0.heap.size≤k∧k<W.heap.size:=fun k c=>by
  obtain ⟨d,hK⟩:=hI
  exact ⟨(hK.S k c).1,(hK.S k c).2.1⟩
 have h:=Uz w0 b s S l W hI hL g (hB.1.mono i) hB.2
 refine ⟨fun s' hs=>h.mono fun e W' hT=>?_,fun hs=>h.mono fun e W' hT=>?_⟩
 ·rw [hs] at hT
  have a:=hT.yes
  cases e with
  | returned v=>exact ⟨⟨a.1,Hz hs g f⟩,a.2⟩
  | _=>exact a
 rw [hs] at hT
 have a:=hT.no
 cases e with
 | panicked ch=>exact ⟨a.1,⟨hI.PX.trans a.2,fun k c=>(hS k c).1⟩,fun k c=>a.2.block k lzX (hS k c).2⟩
 | _=>exact a
theorem eP {k:List E.It} {e:Env} {P:Program} {fn:Func} {R:Value→World→Prop} {s c d:Tmp} {t:TypeId} {ad:Addr} {v2 v3:Value} (b:fn.results=#[.cell s t,.tmp c,.tmp d]) (f:∀ w,(isAgg t).run P w = .ok true w) (hs:∀ w,(sizeOf t).run P w = .ok m w) (hn:cs.length=m)
  (hv:E.look e s=some (.pointer (some ad))) (g:E.look e c=some v2) (i:E.look e d=some v3) (j:Row w ad cs) (h:R (.tuple #[.agg cs.toArray,v2,v3]) w):T (YP P fn n R) (.code .ret::k) e w :=
 lq fun a ha=>bodyPost_ret (v:=.tuple #[.agg cs.toArray,v2,v3]) (by
  subst hn
  have l:=ha.sat.get s _ hv
  have o:=ha.sat.get c _ g
  have p:=ha.sat.get d _ i
  simp [results,b,Array.getD_eq_getD_getElem?,l,o,p,loadVar,asAddr,f,hs,run_loadCells_list w ad cs j]) ha.defers h
theorem iC:∀ c∈dX,c.oneCell'=true:=fun c a=>by
 simp only [dX,List.mem_cons,List.not_mem_nil,or_false] at a
 rcases a with rfl|rfl|rfl|rfl|rfl|rfl <;> rfl
theorem lV {lo:Nat} {r:RoV} (a:c.ok lo w) (d:r.ok lo w):∀ u∈fA c r,u.oneCell'=true:=fun u b=>by
 simp only [fA,List.mem_cons,List.not_mem_nil,or_false] at b
 rcases b with rfl|rfl|rfl|rfl|rfl|rfl
 ·exact Sl.one a.p
 ·exact Sl.one a.sl
 ·rfl
 ·rfl
 ·rfl
 exact d.one
theorem aar (a:Ext w0 w) (hb:w0.heap.size≤b) (hB:Blk w b (dU ⟨.slice none 0 0,.slice none 0 0,.slice none 0 0,[],[]⟩ PS0) 129):RdJ w0 b PS0 (fun _=>False) w :=
 ⟨⟨⟨.slice none 0 0,.slice none 0 0,.slice none 0 0,[],[]⟩,a,hb,hB,xC.nil _ _ _ _,xC.nil _ _ _ _,rfl,fun i hi=>absurd hi (Nat.not_lt_zero _),fun i hi=>absurd hi (Nat.not_lt_zero _),xC.nil _ _ _ _,rfl,fun i hi=>absurd hi (Nat.not_lt_zero _),dcX,fun k c=>c.elim⟩,fun u d=>(by cases d)⟩
theorem NS:aah PS0 0:=⟨⟨Nat.le_refl _,Nat.le_refl _,Nat.le_refl _,fun f hf=>(by cases hf)⟩,fun h=>absurd h dcX⟩
set_option maxHeartbeats 1000000 in
theorem wZ (t:Str) (w:World) (hL:sF w) (ht:t.length≤9223372036854775807) :
  Calls Tryz.prog 21 #[str t] w (Ret fun v w'=>Ext w w'∧Ht (iW t) w.heap.size v w'):=by
 refine aJ (vs:=[str t]) func21 Z ntmps21 Z ?_
 refine au (L.o (O.alloc zeroValue48 (fun b2 u V X c hB2=>?_)))
 refine L.a Z (ah Z (aj (au (aO Z (dB runUnderlying9 Z (dY Z Z (fun x=>?_) (fun x=>?_)))))))
 ·refine ak (?_)
  have g:iW t = .inr (0,3):=by unfold iW;rw [if_pos omX]
  refine aZ (au (L.o (bU (v:=.agg dX.toArray) (parts:=[]) (vs:=[]) Z (fun w=>by kernel_rfl) (L.o (aK sizeOf48 Z Z Z hB2 leX iC (fun E nU rD=>?_))))))
  have Ud:Blk E b2 dX 48:=rD
  refine L.a Z (ah Z (eP results21 isAgg48 sizeOf48 Z Z Z Z (Row.bI Ud) ⟨c.upd nU (.inr omX),by rw [g];rfl⟩))
 refine ak (?_)
 have Y:t.length≤40000:=by omega
 refine bn (T.skip (au (L.o (O.alloc zeroValue129 (fun b5 w5 aa ab F G=>?_)))))
 have hL2:=hL.ext c
 refine ak (aj (au (aO Z (eG (fi:=[.tmp 5]) (ca:=[]) Z Z (L.o (ay (xs:=[.tmp 12,.tmp 13]) call66 Z Z (yL t 67 #[.pointer (some ⟨b5,0,none⟩)] #[] iE PS0 aah (RdJ u b5) (XP u) w5 omX call67 (RdJ.Lh u b5) (fun S W W' h k ↦ ⟨h.1.trans k,h.2⟩) (fun S W W' b h hb k ↦ ⟨h.1.upd k (.inr (h.2 b hb)),h.2⟩) (fun s S W h ↦ hL2.ext h.1.PX) (aaq u b5 hL2) NS aah.step (aar F omX G)) (fun ac H y=>?_)))))))
 obtain ⟨rfl,I,J⟩:=y
 rcases j:BH iE PS0 (dM 10 t) 1 with s|n
 ·obtain ⟨S,K⟩:=I s j
  obtain ⟨⟨d,ahC⟩,M⟩:=K
  refine ah Z (au (aO Z (gW Z Z (by simp [Jr]) (aO Z (aH (el:=9) (parts:=[(0,_)]) (vs:=[(0,_)]) (cs:=([lU].map str)) Z (fun w=>by kernel_rfl) (fun ad N ajd aje xw ET=>?_))))))
  have Sj:=ahC.ext xw
  refine L.o (ay (xs:=[.tmp 5,.tmp 18]) call68 Z Z (kQ 0 _ [lU] b5 (dU d s) s.last N (Strs.bI ET Z dcX lzX) Sj.row rfl) (fun ae l y=>?_))
  obtain ⟨rfl,rfl⟩:=y
  rcases Classical.em (s.last=lU) with r|r
  ·rw [decide_eq_true (show s.last ∈ [lU] by rw [r];simp)]
   obtain ⟨P,q,z⟩:=Sj.land M
   have i:Blk l b5 (dU d s) 129:=Sj.row
   refine bT Z (aI Z (aU (T.skip (aj (au (L.fa Z (aT Z Z ((Row.bI i).part 0 6) (L.o (ay (xs:=[.tmp 25]) call34 Z Z (AL u.heap.size (rdC d s) (rdR d s) l P q) (fun af A y=>?_))))))))))
   obtain ⟨rfl,GV⟩:=y
   rw [z.err]
   have YL:=Sj.e.trans GV
   refine ah Z (aQ Z (L.ne Z Z (fun R=>?_) (fun R=>?_)))
   ·refine ak (?_)
    have g:iW t = .inr (0,XH s):=by unfold iW;rw [if_neg omX,j];simp only [];rw [if_pos r,if_neg R]
    refine aZ (au (L.o (bU (v:=.agg dX.toArray) (parts:=[]) (vs:=[]) Z (fun w=>by kernel_rfl) (aO Z (aK sizeOf48 Z Z Z (Blk.ext hB2 YL) leX iC (fun B adt Zb=>?_))))))
    replace adt:Upd b2 A B:=adt
    have Q:Blk B b2 dX 48:=Zb
    refine L.a Z (ah Z (eP results21 isAgg48 sizeOf48 Z Z Z Z (Row.bI Q) ⟨(c.trans YL).upd adt (.inr omX),by rw [g];rfl⟩))
   refine ak (?_)
   have g:iW t = .inl s:=by unfold iW;rw [if_neg omX,j];simp only [];rw [if_pos r,if_pos omX]
   refine bn (T.skip (au (L.fa Z (aT Z Z ((Row.bI (Blk.ext i GV)).part 0 6) (L.o (aK sizeOf48 Z Z Z (Blk.ext hB2 YL) leX (lV P q) (fun C Qm aga=>?_)))))))
   replace Qm:Upd b2 A C:=Qm
   have akb:Blk C b2 (fA (rdC d s) (rdR d s)) 48:=aga
   have D:=Blk.lt hB2
   refine L.a Z (ah Z (eP results21 isAgg48 sizeOf48 Z Z Z Z (Row.bI akb) ⟨(c.trans YL).upd Qm (.inr omX),by rw [g];exact ⟨rdC d s,rdR d s,rfl,((P.ext GV).loc Qm D).mono omX,((q.ext GV).loc Qm D).mono omX,z⟩⟩))
  rw [decide_eq_false (show s.last ∉ [lU] by simpa using r)]
  have g:iW t = .inr (0,5):=by unfold iW;rw [if_neg omX,j];simp only [];rw [if_neg r]
  refine bT Z (aI Z (aW (au (L.o (bU (v:=.agg dX.toArray) (parts:=[]) (vs:=[]) Z (fun w=>by kernel_rfl) (aO Z (aK sizeOf48 Z Z Z (Blk.ext hB2 Sj.e) leX iC (fun f XZ ZA=>?_))))))))
  replace XZ:Upd b2 l f:=XZ
  have agb:Blk f b2 dX 48:=ZA
  refine L.a Z (ah Z (eP results21 isAgg48 sizeOf48 Z Z Z Z (Row.bI agb) ⟨(c.trans Sj.e).upd XZ (.inr omX),by rw [g];rfl⟩))
 obtain ⟨S,U⟩:=J n j
 refine ah Z (au (aO Z (iM Z Z (by have:=PE _ _ _ _ _ j;simp [Jr];omega) (?_))))
 have g:iW t = .inr ((n:Int),5):=by unfold iW;rw [if_neg omX,j]
 refine L.m Z (L.pp (L.p (aG Z (aW (au (L.o (bU (v:=.agg dX.toArray) (parts:=[]) (vs:=[]) Z (fun w=>by kernel_rfl) (aO Z (aK sizeOf48 Z Z Z (Blk.ext hB2 U.1) leX iC (fun f XZ ZA=>?_))))))))))
 replace XZ:Upd b2 H f:=XZ
 have agb:Blk f b2 dX 48:=ZA
 refine L.a Z (ah Z (eP results21 isAgg48 sizeOf48 Z Z Z Z (Row.bI agb) ⟨(c.trans U.1).upd XZ (.inr omX),by rw [g];rfl⟩))
end Go.Proofs.YtnlonpcbgjbbaaaGreatDoor
