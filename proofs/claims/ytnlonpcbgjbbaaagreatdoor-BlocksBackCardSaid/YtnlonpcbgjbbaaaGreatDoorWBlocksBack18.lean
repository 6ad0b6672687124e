/-
  BlocksBack, part 18 of its proof: that it returns true for every input, and each argument reads behind the call as it read before. Conditions: the listed variables read as the program's text lays them (tied by the card).
-/
import Derived.Test.YtnlonpcbgjbbaaaGreatDoorWBlocksBack16
import Derived.Lib.AtoiAllCases
import Derived.Test.YtnlonpcbgjbbaaaGreatDoorWBlocksBack17
set_option linter.unusedVariables false
set_option linter.unusedSimpArgs false
set_option maxRecDepth 20000
set_option linter.unusedVariables false
set_option linter.unusedSimpArgs false
set_option maxRecDepth 20000
namespace Go.Proofs.YtnlonpcbgjbbaaaGreatDoor
open Go.Proofs.Tryz (call108 call120 call122 call123 call34 call66 call67 call68 func123 func21 func67 isAgg125 isAgg23 isAgg3 isAgg44 isAgg48 isAgg51 isAgg9 ntmps123 ntmps21 ntmps67 results123 results21 results67 runUnderlying125 runUnderlying127 runUnderlying129 runUnderlying23 runUnderlying25 runUnderlying30 runUnderlying44 runUnderlying46 runUnderlying48 runUnderlying51 runUnderlying61 runUnderlying9 sizeOf125 sizeOf127 sizeOf23 sizeOf25 sizeOf3 sizeOf30 sizeOf4 sizeOf44 sizeOf46 sizeOf48 sizeOf51 sizeOf9 zeroValue129 zeroValue48 zeroValue51)
open Go Go.E RowKit
attribute [local irreducible] Go.E.T Go.E.L Go.E.O Go.E.Ob
def bH:Str→Str→List Str
 | cur,[]=>if cur = [] then [] else [cur]
 | cur,c::r=>if c=32 then (if cur = [] then bH [] r else cur::bH [] r) else bH (cur ++ [c]) r
theorem lN:∀ (u:Str) (cur r:Str),(∀ b∈u,b≠32)→bH cur (u++r)=bH (cur++u) r
 | [],cur,r,_=>by simp
 | c::u,cur,r,h=>by
  have hc:¬ c=32:=h c (List.mem_cons_self ..)
  rw [List.cons_append,bH,if_neg hc,lN u _ r (fun b hb=>h b (List.mem_cons_of_mem _ hb)),List.append_assoc];rfl
theorem Ef {n b0 b1 b2 b3:Nat} (h0:b0≠32):(Lib.decodeN n b0 b1 b2 b3).1≠32∧(Lib.decodeN n b0 b1 b2 b3).2≤4∧(1<(Lib.decodeN n b0 b1 b2 b3).2→b1≠32)∧(2<(Lib.decodeN n b0 b1 b2 b3).2→b2≠32)∧(3<(Lib.decodeN n b0 b1 b2 b3).2→b3≠32):=by
 unfold Lib.decodeN
 repeat' split
 all_goals (refine ⟨?_,?_,?_,?_,?_⟩ <;> (try simp only) <;> omega)
theorem oM {l:Str} {i:Nat} : (l.getD i 0).toNat=32↔l.getD i 0=32:=⟨fun h=>UInt8.toNat_inj.1 h,fun h=>by rw [h];rfl⟩
theorem JY (s:ByteArray) (pos:Nat) (h:s.data.toList.getD pos 0≠32):(Utf8.decode s pos).1≠32∧∀ b∈(s.data.toList.drop pos).take (Utf8.decode s pos).2,b≠32:=by
 obtain ⟨h1,h2,h3,h4,h5⟩:=Ef (n:=s.data.toList.length-pos) (b0:=(s.data.toList.getD pos 0).toNat) (b1:=(s.data.toList.getD (pos+1) 0).toNat) (b2:=(s.data.toList.getD (pos+2) 0).toNat) (b3:=(s.data.toList.getD (pos+3) 0).toNat) (fun e=>h (oM.1 e))
 rw [← Lib.decode_N] at h1 h2 h3 h4 h5
 refine ⟨h1,fun b hb=>?_⟩
 obtain ⟨j,hj,rfl⟩:=List.getElem_of_mem hb
 have hj':j<(Utf8.decode s pos).2:=by rw [List.length_take] at hj;omega
 have e:((s.data.toList.drop pos).take (Utf8.decode s pos).2)[j]=s.data.toList.getD (pos+j) 0:=by
  rw [List.getElem_take,List.getElem_drop,List.getD_eq_getElem?_getD,List.getElem?_eq_getElem];rfl
 rw [e]
 match j,hj' with
 | 0,_=>exact h
 | 1,hj=>exact fun e=>h3 hj (oM.2 e)
 | 2,hj=>exact fun e=>h4 hj (oM.2 e)
 | 3,hj=>exact fun e=>h5 hj (oM.2 e)
 | j+4,hj=>omega
theorem He (s:ByteArray) (pos:Nat) (h:s.data.toList.getD pos 0=32):Utf8.decode s pos=(32,1):=by
 rw [Lib.decode_N,h]
 rfl
theorem JZ (s:ByteArray):∀ (f pos:Nat) (st:Option Nat) (acc:List (Nat × Nat)),s.size≤pos+f→pos≤s.size→(∀ a,st=some a→a<pos) →
  acc.map (fun p=>Lib.pieceU s.data.toList p.1 p.2)++bH (Lib.openPiece s.data.toList st pos) (s.data.toList.drop pos)=(Lib.closeSpans s (Lib.spansFromP (fun r=>decide (r=32)) s f pos st acc)).map (fun p=>Lib.pieceU s.data.toList p.1 p.2):=by
 have hlen:s.data.toList.length=s.size:=(Lib.size_eq s).symm
 have hend:∀ (st:Option Nat) (acc:List (Nat × Nat)),(∀ a,st=some a→a<s.size)→acc.map (fun p=>Lib.pieceU s.data.toList p.1 p.2)++bH (Lib.openPiece s.data.toList st s.size) (s.data.toList.drop s.size)=(Lib.closeSpans s (acc,st)).map (fun p=>Lib.pieceU s.data.toList p.1 p.2):=by
  intro st acc hst
  rw [List.drop_eq_nil_of_le (by omega)]
  cases st with
  | none=>simp [Lib.closeSpans,Lib.openPiece,bH]
  | some a =>
   have:=Lib.pieceU_ne s.data.toList a s.size (hst a rfl) (by omega)
   simp [Lib.closeSpans,Lib.openPiece,bH,this]
 intro f
 induction f with
 | zero =>
  intro pos st acc h hp hst
  obtain rfl:pos=s.size:=by omega
  exact hend st acc hst
 | succ f ih =>
  intro pos st acc h hp hst
  by_cases hlt:pos<s.size
  ·have hw:=Lib.width_pos s pos
   have hwn:pos+(Utf8.decode s pos).2≤s.size:=by
    have:=Lib.decodeN_le_n' (s.size-pos) (s.get! pos).toNat (s.get! (pos+1)).toNat (s.get! (pos+2)).toNat (s.get! (pos+3)).toNat (by omega)
    rw [← Lib.decode_at] at this
    omega
   by_cases hb:s.data.toList.getD pos 0=32
   ·have hd:=He s pos hb
    have hcons:s.data.toList.drop pos=32::s.data.toList.drop (pos+1):=by
     rw [List.drop_eq_getElem_cons (by omega)]
     congr 1
     rw [← hb,List.getD_eq_getElem?_getD,List.getElem?_eq_getElem];rfl
    rw [hcons,bH,if_pos rfl]
    simp only [Lib.spansFromP,if_pos hlt,hd,decide_true,if_true]
    cases st with
    | none =>
     have:=ih (pos+1) none acc (by omega) (by omega) (fun a h=>by cases h)
     simpa [Lib.openPiece] using this
    | some a =>
     have hpn:=Lib.pieceU_ne s.data.toList a pos (hst a rfl) (by omega)
     have:=ih (pos+1) none (acc ++ [(a,pos)]) (by omega) (by omega) (fun a h=>by cases h)
     simpa [Lib.openPiece,hpn] using this
   obtain ⟨h1,h2⟩:=JY s pos hb
   have hsp:s.data.toList.drop pos=(s.data.toList.drop pos).take (Utf8.decode s pos).2++s.data.toList.drop (pos+(Utf8.decode s pos).2):=by
    rw [← List.drop_drop,List.take_append_drop]
   rw [hsp,lN _ _ _ h2]
   simp only [Lib.spansFromP,if_pos hlt,decide_eq_false h1,Bool.false_eq_true,if_false]
   cases st with
   | none =>
    have:=ih (pos+(Utf8.decode s pos).2) (some pos) acc (by omega) hwn (fun a h=>by cases h;omega)
    have e:([]:List UInt8)++(s.data.toList.drop pos).take (Utf8.decode s pos).2=Lib.pieceU s.data.toList pos (pos+(Utf8.decode s pos).2):=by
     unfold Lib.pieceU
     rw [List.nil_append,Nat.add_sub_cancel_left]
    simp only [Lib.openPiece] at this ⊢
    rw [e]
    exact this
   | some a =>
    have:=ih (pos+(Utf8.decode s pos).2) (some a) acc (by omega) hwn (fun b h=>by cases h;have:=hst a rfl;omega)
    simp only [Lib.openPiece] at this ⊢
    rw [Lib.pieceU_grow _ _ _ _ (Nat.le_of_lt (hst a rfl))]
    exact this
  obtain rfl:pos=s.size:=by omega
  rw [Lib.spansFromP_end _ _ _ _ _ _ hlt]
  exact hend st acc hst
theorem BL (s:Str):fieldsB s=bH [] s:=by
 have h:=JZ ⟨s.toArray⟩ s.length 0 none [] (by simp [ByteArray.size]) (Nat.zero_le _) (fun a h=>by cases h)
 simp only [List.map_nil,List.nil_append,Lib.openPiece,List.drop_zero] at h
 rw [h]
 simp only [fieldsB,Lib.goFieldsP,Lib.spansOfP,List.map_map]
 rw [show (⟨s.toArray⟩:ByteArray).size=s.length by simp [ByteArray.size]]
 congr 1
 funext p
 simp [Lib.pieceU]
theorem pW {w r:Str} (h0:w ≠ []) (h:∀ b∈w,b≠32):bH [] (w++32::r)=w::bH [] r:=by
 rw [lN w [] _ h,List.nil_append,bH,if_pos rfl,if_neg h0]
theorem J3 {w:Str} (h0:w ≠ []) (h:∀ b∈w,b≠32):bH [] w = [w]:=by
 have:=lN w [] [] h
 rw [List.append_nil,List.nil_append] at this
 rw [this,bH,if_neg h0]
def wide:Str→Str
 | []=>[]
 | c::r=>if c=32 then 32::32::32::wide r else c::wide r
open Go Go.E RowKit
def Hf (c:UInt8):Bool:=decide (48≤c.toNat) && decide (c.toNat≤57)
theorem iy {c:UInt8} : Hf c=true↔48≤c.toNat∧c.toNat≤57:=by simp [Hf]
def uo (acc:Nat) (s:Str):Nat:=s.foldl (fun a c=>a*10+(c.toNat-48)) acc
theorem wY (acc:Nat):uo acc []=acc:=by unfold uo;exact List.foldl_nil
theorem nH (acc:Nat) (c:UInt8) (r:Str):uo acc (c::r)=uo (acc*10+(c.toNat-48)) r:=by unfold uo;exact List.foldl_cons ..
theorem Hg (l:Str) (acc:Nat) (c:UInt8):uo acc (l ++ [c])=uo acc l*10+(c.toNat-48):=by
 unfold uo
 rw [List.foldl_append,List.foldl_cons,List.foldl_nil]
theorem Eh (c:UInt8):uo 0 [c]=c.toNat-48:=by rw [nH,wY];omega
theorem Tj (l:Str):∀ acc:Nat,acc≤uo acc l:=by
 induction l with
 | nil=>intro acc;rw [wY];exact Nat.le_refl _
 | cons c r ih=>intro acc;rw [nH];exact Nat.le_trans (by omega) (ih _)
def canon (s:Str):Bool:=!s.isEmpty && s.all Hf && (decide (s.length=1) || decide (s.getD 0 0≠48))
theorem dY {s:Str} : canon s=true↔s ≠ []∧(∀ c∈s,Hf c=true)∧(s.length=1∨s.getD 0 0≠48):=by
 simp only [canon,Bool.and_eq_true,Bool.or_eq_true,decide_eq_true_eq,List.all_eq_true,Bool.not_eq_true',List.isEmpty_eq_false_iff,and_assoc]
theorem BM {c:UInt8} (h:Hf c=true):UInt8.ofNat (48+(c.toNat-48))=c:=by
 obtain ⟨h1,h2⟩:=iy.1 h
 rw [show 48+(c.toNat-48)=c.toNat by omega]
 exact UInt8.ofNat_toNat
theorem Hl {d:Nat} (h:d<10):(UInt8.ofNat (48+d)).toNat=48+d:=by
 rw [UInt8.toNat_ofNat'];omega
theorem WI:∀ (s:Str),s ≠ []→(∀ c∈s,Hf c=true)→s.getD 0 0≠48→1≤uo 0 s
 | [],h,_,_=>absurd rfl h
 | c::r,_,hd,h=>by
  have h1:=(iy.1 (hd c (List.mem_cons_self ..))).1
  have h2:c≠48:=h
  have h3:c.toNat≠48:=fun e=>h2 (UInt8.toNat_inj.1 e)
  rw [nH]
  exact Nat.le_trans (by omega) (Tj r (0*10+(c.toNat-48)))
theorem jk:∀ (n:Nat) (s:Str),s.length=n→canon s=true→Lib.decDigits (uo 0 s)=s
 | 0,s,hl,h=>by
  obtain ⟨h1,_⟩:=dY.1 h
  exact absurd (List.eq_nil_of_length_eq_zero hl) h1
 | n+1,s,hl,h=>by
  obtain ⟨h1,h2,h3⟩:=dY.1 h
  obtain ⟨l,c,rfl⟩:∃ l c,s=l ++ [c]:=⟨s.dropLast,s.getLast h1,(List.dropLast_concat_getLast h1).symm⟩
  have hc:=h2 c (by simp)
  obtain ⟨hc1,hc2⟩:=iy.1 hc
  rw [Hg]
  cases l with
  | nil =>
   rw [wY,List.nil_append]
   rw [Lib.decDigits_one (by omega),show 0*10+(c.toNat-48)=c.toNat-48 by omega,BM hc]
  | cons d l =>
   have hd0:(d::l).getD 0 0≠48:=by
    rcases h3 with h3|h3
    ·simp at h3
    exact h3
   have hds:∀ c∈d::l,Hf c=true:=fun x hx=>h2 x (List.mem_append_left _ hx)
   have ih:=jk n (d::l) (by simp at hl ⊢;omega) (dY.2 ⟨by simp,hds,.inr hd0⟩)
   have hp:=WI (d::l) (by simp) hds hd0
   rw [Lib.decDigits,dif_neg (by omega),show (uo 0 (d::l)*10+(c.toNat-48)) / 10=uo 0 (d::l) by omega,show (uo 0 (d::l)*10+(c.toNat-48)) % 10=c.toNat-48 by omega,ih,BM hc]
theorem vG:∀ (f u:Nat),u<f→canon (Lib.decDigits u)=true∧uo 0 (Lib.decDigits u)=u
 | 0,u,h=>absurd h (Nat.not_lt_zero _)
 | f+1,u,h=>by
  by_cases hu:u<10
  ·rw [Lib.decDigits_one hu]
   have hv:=Hl hu
   refine ⟨dY.2 ⟨by simp,fun c hc=>?_,.inl rfl⟩,?_⟩
   ·rw [List.mem_singleton.1 hc,iy,hv];omega
   rw [Eh,hv];omega
  obtain ⟨h1,h2⟩:=vG f (u / 10) (by omega)
  have hv:=Hl (show u % 10<10 by omega)
  rw [Lib.decDigits,dif_neg hu]
  obtain ⟨k1,k2,k3⟩:=dY.1 h1
  refine ⟨dY.2 ⟨by simp,fun c hc=>?_,.inr ?_⟩,?_⟩
  ·rcases List.mem_append.1 hc with hc|hc
   ·exact k2 c hc
   rw [List.mem_singleton.1 hc,iy,hv];omega
  ·obtain ⟨d,l,e⟩:=List.exists_cons_of_ne_nil k1
   rw [e] at k3 h2 k2 ⊢
   rcases k3 with k3|k3
   ·have hl:l = []:=List.eq_nil_of_length_eq_zero (by simpa using k3)
    subst hl
    intro h0
    have h0':d=48:=h0
    subst h0'
    rw [Eh] at h2
    have:(48:UInt8).toNat-48=0:=rfl
    omega
   exact k3
  rw [Hg,h2,hv];omega
theorem jG (u:Nat):canon (Lib.decDigits u)=true∧uo 0 (Lib.decDigits u)=u:=vG (u+1) u (Nat.lt_succ_self u)
theorem jX:∀ (s:Str) (acc:Nat),(∀ c∈s,Hf c=true)→uo acc s≤1000000000→Lib.parseUint10 acc s = .ok (uo acc s)
 | [],acc,_,_=>by rw [wY];rfl
 | c::r,acc,hd,hv=>by
  have h1:=iy.1 (hd c (List.mem_cons_self ..))
  have h2:=Tj r (acc*10+(c.toNat-48))
  have hv':uo (acc*10+(c.toNat-48)) r≤1000000000:=by rw [nH] at hv;exact hv
  rw [Lib.parseUint10,if_pos h1,if_neg (by omega),if_neg (by omega),nH]
  exact jX r _ (fun x hx=>hd x (List.mem_cons_of_mem _ hx)) hv'
theorem Tm {n:Int} (h1 : -1000000000≤n) (h2:n≤1000000000):Lib.atoiAll (Lib.itoa n) = .ok n:=by
 unfold Lib.itoa
 split
 ·rename_i hn
  obtain ⟨k1,k2⟩:=jG n.natAbs
  obtain ⟨c1,c2,_⟩:=dY.1 k1
  have hp:=jX (Lib.decDigits n.natAbs) 0 c2 (by omega)
  rw [Lib.atoiAll]
  rw [if_pos (by right;rfl),Lib.parseMag,if_neg c1,hp,k2]
  simp only []
  rw [if_neg (by intro h;exact h.1 rfl),if_neg (by omega),if_pos (show (45:UInt8).toNat=45 from rfl)]
  congr 1
  omega
 rename_i hn
 obtain ⟨k1,k2⟩:=jG n.toNat
 obtain ⟨c1,c2,_⟩:=dY.1 k1
 have hp:=jX (Lib.decDigits n.toNat) 0 c2 (by omega)
 obtain ⟨d,l,e⟩:=List.exists_cons_of_ne_nil c1
 have hd:=iy.1 (c2 d (by rw [e];exact List.mem_cons_self ..))
 rw [e] at hp k2 ⊢
 rw [Lib.atoiAll]
 rw [if_neg (by omega),Lib.parseMag,if_neg (by simp),hp,k2]
 simp only []
 rw [if_neg (by omega),if_neg (by omega),if_neg (by omega)]
 congr 1
 omega
def WJ:Str→Option Int
 | []=>none
 | c::r=>if c=45 then (if canon r=true∧r ≠ [48]∧uo 0 r≤1000000000 then some (-(uo 0 r:Int)) else none) else if canon (c::r)=true∧uo 0 (c::r)≤1000000000 then some (uo 0 (c::r):Int) else none
theorem Ho {n:Int} (h1 : -1000000000≤n) (h2:n≤1000000000):WJ (Lib.itoa n)=some n:=by
 unfold Lib.itoa
 split
 ·rename_i hn
  obtain ⟨k1,k2⟩:=jG n.natAbs
  have hne:Lib.decDigits n.natAbs ≠ [48]:=fun e=>by
   rw [e,Eh] at k2
   have:(48:UInt8).toNat-48=0:=rfl
   omega
  rw [WJ,if_pos rfl,if_pos ⟨k1,hne,by omega⟩,k2]
  exact congrArg some (by omega)
 rename_i hn
 obtain ⟨k1,k2⟩:=jG n.toNat
 obtain ⟨c1,c2,_⟩:=dY.1 k1
 obtain ⟨d,l,e⟩:=List.exists_cons_of_ne_nil c1
 have hd:=iy.1 (c2 d (by rw [e];exact List.mem_cons_self ..))
 rw [e] at k1 k2 ⊢
 rw [WJ,if_neg (fun h=>by subst h;revert hd;decide),if_pos ⟨k1,by omega⟩,k2]
 exact congrArg some (by omega)
theorem Tn:∀ {s:Str} {n:Int},WJ s=some n→s=Lib.itoa n ∧ -1000000000≤n∧n≤1000000000
 | [],n,h=>by cases h
 | c::r,n,h=>by
  rw [WJ] at h
  split at h
  ·rename_i hc
   split at h
   ·rename_i hh
    obtain ⟨h1,h2,h3⟩:=hh
    cases h
    have hne:uo 0 r≠0:=fun e=>by
     have:=jk _ r rfl h1
     rw [e,Lib.decDigits_one (by decide)] at this
     exact h2 this.symm
    refine ⟨?_,by omega,by omega⟩
    rw [Lib.itoa,if_pos (by omega),hc,show (-(uo 0 r:Int)).natAbs=uo 0 r by omega,jk _ r rfl h1]
   cases h
  split at h
  ·rename_i hh
   obtain ⟨h1,h2⟩:=hh
   cases h
   refine ⟨?_,by omega,by omega⟩
   rw [Lib.itoa,if_neg (by omega),Int.toNat_natCast,jk _ _ rfl h1]
  cases h
theorem Oq {n:Int} (h1 : -1000000000≤n) (h2:n≤1000000000):pO (Lib.itoa n)=some n:=by rw [Md (Tm h1 h2),if_pos ⟨rfl,h1,h2⟩]
theorem WL (s:Str):pO s=WJ s:=by
 cases h:WJ s with
 | some n =>
  obtain ⟨h1,h2,h3⟩:=Tn h
  rw [h1];exact Oq h2 h3
 | none =>
  cases k:pO s with
  | none=>rfl
  | some n =>
   obtain ⟨_,k2,k3,k4⟩:=uh k
   rw [← k2,Ho k3 k4] at h
   cases h
theorem zl (u:Nat):∀ c∈Lib.decDigits u,c≠32∧c≠10:=fun c hc=>by
 have h:=iy.1 ((dY.1 (jG u).1).2.1 c hc)
 exact ⟨fun e=>by subst e;revert h;decide,fun e=>by subst e;revert h;decide⟩
theorem zn (n:Int):Lib.itoa n ≠ []∧∀ c∈Lib.itoa n,c≠32∧c≠10:=by
 unfold Lib.itoa
 split
 ·refine ⟨by simp,fun c hc=>?_⟩
  rcases List.mem_cons.1 hc with rfl|hc
  ·decide
  exact zl _ c hc
 exact ⟨(dY.1 (jG _).1).1,zl _⟩
open Go Go.E RowKit
attribute [local irreducible] Go.E.ObX Go.E.ObG Go.E.ObK
theorem BJ.form {Q:Nat→Prop} {W:World} {el:TypeId} {sz n:Nat} {v:Value} {xs:List Value} (h:BJ Q W el sz v n xs) (hn:0<n):∃ g cap cs,v = .slice (some ⟨g,0,none⟩) n cap∧Q g∧Blk W g cs el∧n≤cap∧cap≤maxLen∧cs.length=cap*sz∧cs.take (n*sz)=xs:=by
 obtain ⟨⟨_,h2⟩,h3⟩:=h
 rcases h2 with ⟨_,h4⟩|⟨g,cap,cur,rfl,hb,hg,hn',hm,hsz,htk⟩
 ·omega
 exact ⟨g,cap,cur.toList,rfl,h3 g rfl,by unfold Blk;simpa using hg,hn',hm,by simpa using hsz,by simpa using htk⟩
theorem BN:∀ (vs:List FaV) (i:Nat) (f:FaV),i<vs.length→f.o.v=(vs.getD i f0).o.v→bP (vs.set i f)=(bP vs).set (i*2+1) f.hv
 | [],i,f,hi,_=>absurd hi (Nat.not_lt_zero _)
 | a::r,0,f,_,h=>by
  have h':f.o.v=a.o.v:=h
  simp [bP,FaV.cells,h']
 | a::r,i+1,f,hi,h=>by
  have ih:=BN r i f (by simpa using hi) h
  have e:∀ (x:FaV) (l:List FaV),bP (x::l)=x.o.v::x.hv::bP l:=fun x l=>rfl
  rw [List.set_cons_succ,e,e,ih,show (i+1)*2+1=(i*2+1)+1+1 by omega,List.set_cons_succ,List.set_cons_succ]
theorem zo {α:Type} {l:List α} {i j:Nat} {x d:α} : (l.set i x).getD j d=if i=j∧i<l.length then x else l.getD j d:=by
 simp only [List.getD_eq_getElem?_getD,List.getElem?_set]
 by_cases h:i=j
 ·subst h
  by_cases hl:i<l.length
  ·simp [hl]
  simp [hl]
 simp [h]
theorem Hq {fs:List (List Int × List (List Int))} {x:List Int} (h:fs ≠ []):rM fs x=fs.set (fs.length-1) ((fs.getD (fs.length-1) ([],[])).1,(fs.getD (fs.length-1) ([],[])).2 ++ [x]):=by
 have e:=List.dropLast_concat_getLast h
 generalize fs.getLast h=f at e
 generalize fs.dropLast=l at e
 subst e
 simp [rM,List.getD]
def J4 (s:PS) (xs:List Int):PS:={ s with fs:=rM s.fs xs,last:=aZ }
def dZ (d:RdD):FaV:=d.vs.getD (d.vs.length-1) f0
def J5 (d:RdD) (u x:Value) (xs:List Int):RdD:={ d with vs:=d.vs.set (d.vs.length-1) ⟨(dZ d).o,u,(dZ d).hs ++ [⟨x,xs⟩]⟩ }
def Zv (ob:Option Nat) (m:Nat) (hs:List RiV) (xs:List Int) (v:Value) (W:World):Prop:=∃ u,JW ob m 30 1 (hs.length+1) (aJ hs ++ [u]) v W∧dO (BK m) W u xs
theorem Zv.ext {ob:Option Nat} {m:Nat} {hs:List RiV} {xs:List Int} {v:Value} {W W':World} (h:Zv ob m hs xs v W) (k:Ext W W'):Zv ob m hs xs v W':=by
 obtain ⟨u,h1,h2⟩:=h
 exact ⟨u,h1.ext k,h2.stay fun j cs q B=>⟨q,Blk.ext B k⟩⟩
theorem Zv.updB {ob:Option Nat} {m b:Nat} {t:TypeId} {hs:List RiV} {xs:List Int} {cs:List Value} {v:Value} {W W':World} (h:Zv ob m hs xs v W) (k:Upd b W W') (hB:Blk W b cs t) (ht:30≠t) (hm:b<m):Zv ob m hs xs v W':=by
 obtain ⟨u,h1,h2⟩:=h
 exact ⟨u,h1.updB k hB ht,h2.stay fun j cs q B=>⟨q,Blk.upd B k (fun e=>by unfold BK at q;omega)⟩⟩
def acE (ob:Option Nat) (m:Nat) (xs:List Int) (v:Value) (W:World):Prop:=∃ k u,v = .slice (some ⟨k,0,none⟩) 1 1∧ob≠some k∧Blk W k [u] 30∧dO (BK m) W u xs
theorem acE.st {ob:Option Nat} {m:Nat} {xs:List Int} (hm:∀ k,ob=some k→k<m):∀ v w w',dI ob w w'→acE ob m xs v w→acE ob m xs v w':=fun _ _ _ h ⟨k,u,h1,h2,h3,h4⟩=>⟨k,u,h1,h2,h.blk (cs:=[u]) h3 h2,h4.X0 hm h⟩
theorem RdK.Zw {w0:World} {b g:Nat} {d:RdD} {s:PS} {S:Nat→Prop} {W W':World} (h:RdK w0 b d s S W) {xs:List Int} {u x:Value} {cap:Nat} {cs:List Value} (hn:0<d.vs.length) (hfv:d.fv = .slice (some ⟨g,0,none⟩) d.vs.length cap) (hgq:RdQ w0 b S g) (hgB:Blk W g cs 127) (hcap:d.vs.length≤cap) (hmax:cap≤maxLen) (hcs:cs.length=cap*2) (htk:cs.take (d.vs.length*2)=bP d.vs)
  (hu:∀ k,k<W.heap.size→k≠b→k≠g→(dZ d).hv.ownBlock≠some k→W'.heap[k]?=W.heap[k]?) (he:Ext w0 W') (hz:W.heap.size≤W'.heap.size)
  (hB:Blk W' b (aH (J5 d u x xs) (J4 s xs)) 129) (hg':Blk W' g (cs.set ((d.vs.length-1)*2+1) u) 127) (hG:JW (dZ d).hv.ownBlock W.heap.size 30 1 ((dZ d).hs.length+1) (aJ (dZ d).hs ++ [x]) u W') (hI:dO (BK W.heap.size) W' x xs):RdK w0 b (J5 d u x xs) (J4 s xs) S W':=by
 have hfa:=h.fa (d.vs.length-1) (by omega)
 have hfl:=h.fsl
 have ah5:s.fs ≠ []:=fun e=>by rw [e] at hfl;simp only [List.length_nil] at hfl;omega
 have hhv:BJ (RdQ w0 b S) W 30 1 (dZ d).hv (dZ d).hs.length (aJ (dZ d).hs):=hfa.hv
 have hk:∀ j cs t,t≠127→t≠30→RdQ w0 b S j→Blk W j cs t→RdQ w0 b S j∧Blk W' j cs t:=fun j cs t ht ht2 q B=>⟨q,(hu j B.lt q.2.1 (fun e=>by
  subst e
  have h1:W.heap[j]?=_:=B
  have h2:W.heap[j]?=_:=hgB
  rw [h1] at h2
  cases h2
  exact ht rfl) (nG hhv.1 B (Ne.symm ht2))).trans B⟩
 have hkI:∀ k cs,RdQ w0 b S k→Blk W k cs 3→RdQ w0 b S k∧Blk W' k cs 3:=fun k cs q B=>hk k cs _ (by decide) (by decide) q B
 have hlt:=Blk.lt (cs:=aH d s) h.row
 have hz0:=h.e.size
 have hnew:∀ k,W.heap.size≤k→RdQ w0 b S k:=fun k h1=>⟨by omega,by omega,fun hk=>by have:=(h.S k hk).2.1;omega⟩
 have hvl:(J5 d u x xs).vs.length=d.vs.length:=by simp [J5]
 have hsl:(J4 s xs).fs.length=s.fs.length:=by
  show (rM s.fs xs).length=_
  rw [Hq ah5];simp
 have hvg:∀ i,(J5 d u x xs).vs.getD i f0=if d.vs.length-1=i then ⟨(dZ d).o,u,(dZ d).hs ++ [⟨x,xs⟩]⟩ else d.vs.getD i f0:=fun i=>by
  show (d.vs.set _ _).getD i f0=_
  rw [zo]
  by_cases e:d.vs.length-1=i
  ·rw [if_pos ⟨e,by omega⟩,if_pos e]
  rw [if_neg (fun h=>e h.1),if_neg e]
 have hsg:∀ i,(J4 s xs).fs.getD i ([],[])=if s.fs.length-1=i then ((s.fs.getD (s.fs.length-1) ([],[])).1,(s.fs.getD (s.fs.length-1) ([],[])).2 ++ [xs]) else s.fs.getD i ([],[]):=fun i=>by
  show (rM s.fs xs).getD i ([],[])=_
  rw [Hq ah5,zo]
  by_cases e:s.fs.length-1=i
  ·rw [if_pos ⟨e,by omega⟩,if_pos e]
  rw [if_neg (fun h=>e h.1),if_neg e]
 have hfc:(cs.set ((d.vs.length-1)*2+1) u).take (d.vs.length*2)=bP (J5 d u x xs).vs:=by
  rw [List.take_set,htk]
  exact (BN d.vs (d.vs.length-1) ⟨(dZ d).o,u,(dZ d).hs ++ [⟨x,xs⟩]⟩ (by omega) rfl).symm
 refine ⟨he,h.lo,hB,h.pts.stay fun k cs q _ B=>hk k cs _ (by decide) (by decide) q B,⟨?_,fun k e=>?_⟩,by rw [hvl,hsl,hfl],fun i hi=>?_,fun i hi k e=>?_,h.usr.stay fun k cs q _ B=>hk k cs _ (by decide) (by decide) q B,h.usl,fun i hi=>(h.un i hi).stay hkI,h.big,fun j hj=>by obtain ⟨a1,a2,a3⟩:=h.S j hj;exact ⟨a1,Nat.lt_of_lt_of_le a2 hz,a3⟩⟩
 ·rw [hvl,← hfc]
  show W'.ownsRow 0 _ 2 d.fv d.vs.length _
  rw [hfv]
  exact kX hg' (Nat.zero_le _) hcap hmax (by rw [List.length_set];exact hcs)
 ·exact h.fsr.2 k e
 ·rw [hvl] at hi
  rw [hvg,hsg]
  by_cases e:d.vs.length-1=i
  ·have f:=hfa
   rw [if_pos e,if_pos (by omega)]
   rw [hfl] at f
   refine ⟨?_,?_,?_,⟨?_,fun k e=>?_⟩,fun y hy=>?_⟩
   ·show (dZ d).o.xs=_
    exact hfl▸f.ox
   ·exact (show dO _ W (dZ d).o.v _ from hfl▸f.oi).stay hkI
   ·show ((dZ d).hs ++ [(⟨x,xs⟩:RiV)]).map (·.xs)=_
    rw [List.map_append]
    congr 1
    exact hfl▸f.hx
   ·have e1:((dZ d).hs ++ [(⟨x,xs⟩:RiV)]).length=(dZ d).hs.length+1:=by simp
    have e2:aJ ((dZ d).hs ++ [(⟨x,xs⟩:RiV)])=aJ (dZ d).hs ++ [x]:=by simp [aJ]
    show W'.ownsRow 0 _ 1 u ((dZ d).hs ++ [(⟨x,xs⟩:RiV)]).length (aJ ((dZ d).hs ++ [(⟨x,xs⟩:RiV)]))
    rw [e1,e2];exact hG.1
   ·rcases hG.2 k e with h1|h1
    ·exact hhv.2 k h1
    exact hnew k h1
   rcases List.mem_append.1 hy with hy|hy
   ·exact (show dO _ W y.v y.xs from hfa.ri y hy).stay hkI
   rw [List.mem_singleton.1 hy]
   exact hI.stay fun k cs q B=>⟨hnew k q,B⟩
  rw [if_neg e,if_neg (by omega)]
  have f:=h.fa i hi
  refine ⟨f.ox,f.oi.stay hkI,f.hx,f.hv.stay fun k cs q ho B=>⟨q,(hu k B.lt q.2.1 (fun e=>by
   subst e
   have h1:W.heap[k]?=_:=B
   have h2:W.heap[k]?=_:=hgB
   rw [h1] at h2
   cases h2) (fun e2=>h.sep i (by omega) k e2 ho)).trans B⟩,fun x hx=>(f.ri x hx).stay hkI⟩
 rw [hvl] at hi e
 rw [hvg,if_pos rfl] at e
 rw [hvg,if_neg (by omega)]
 rcases hG.2 k e with h1|h1
 ·exact h.sep i hi k h1
 intro h2
 have:=y7 (h.fa i (by omega)).hv.1 h2
 omega
theorem zq {W:World} {g n cap sz:Nat} {el:TypeId} {cs xs:List Value} (hB:Blk W g cs el) (h1:n≤cap) (h2:cap≤maxLen) (h3:cs.length=cap*sz) (h4:cs.take (n*sz)=xs):Sl 0 W (.slice (some ⟨g,0,none⟩) n cap) n sz xs:=by
 rw [← h4];exact Sl.aT (kX hB (Nat.zero_le _) h1 h2 h3)
theorem zu:∀ (vs:List FaV) (i:Nat),i<vs.length→(bP vs)[i*2+1]?=some (vs.getD i f0).hv
 | [],i,h=>absurd h (Nat.not_lt_zero _)
 | a::r,0,_=>rfl
 | a::r,i+1,h=>by
  have e:bP (a::r)=a.o.v::a.hv::bP r:=rfl
  rw [e,show (i+1)*2+1=(i*2+1)+1+1 by omega]
  exact zu r i (by simpa using h)
set_option maxHeartbeats 1000000 in
theorem Tq (w0:World) (b:Nat) (s:PS) (S:Nat→Prop) (l:Str) (r:List Str) (xs:List Int) (w:World) (hI:RdI w0 b s S w) (hL0:jc w0) (hll:l.length≤100000) (hf:fieldsB l=aZ::r) (hlast:s.last ∈ [aY,aZ]) (hfs:s.fs ≠ []) (hr:r.length≤100000) (hnum:dV r=some xs) (hc:∀ f∈s.fs,f.2.length≤100000) (hc2:s.fs.length≤100000) :
  Calls Tryz.prog 67 #[.pointer (some ⟨b,0,none⟩),str l] w (Ret fun v w'=>RdI w0 b (J4 s xs) S w'∧∀ k,S k→w'.heap[k]?=w.heap[k]?):=by
 refine T.enter (vs:=[.pointer (some ⟨b,0,none⟩),str l]) func67 rfl ntmps67 rfl ?_
 refine T.q (L.m rfl (L.o (O.call (xs:=[.tmp 10,.func 121]) call120 rfl rfl (aP l w hll) (fun v1 w1 hq=>?_))))
 obtain ⟨A,rfl,hS1,he1⟩:=hq
 obtain ⟨d,hK⟩:=hI
 have hK1:=hK.ext he1
 rw [hf]
 rw [hf] at hS1
 refine L.a rfl (L.nil (T.seq (T.q (L.m rfl (L.o (O.len runUnderlying61 rfl (Sl.val hS1) (L.o (O.gX rfl rfl (by simp;omega) (L.nil (T.cf (T.skip (T.seq (?_)))))))))))))
 refine T.fJ mixed 6 [4] rfl [.is _,.is _,.is _,.is _,.is _,.is _] [[],[0],[1],[],[3],[2]] [[],[0],[0,1],[],[3],[0,1,2],[0,1,2,3,4,5]] (by kernel_rfl) (by kernel_rfl) rfl (by kernel_rfl) trivial ⟨fun wx hx=>Ob.o (O.move rfl kR),
   fun wx hx=>Ob.o (O.indexAddr runUnderlying61 sizeOf9 rfl rfl (hS1.ext hx) (by decide) (by simp) kR),
   fun wx hx=>Ob.o (O.load isAgg9 rfl ((hS1.ext hx).at (show 0<(aZ::r).length by simp)) kR),
   fun wx hx=>Ob.o (O.move rfl kR),
   fun wx hx=>Ob.o (O.ji (l:=1) runUnderlying61 sizeOf9 rfl rfl hS1 (by simp) kR),
   fun wx hx=>Ob.o (O.assign rfl kR),
   trivial⟩ (fun w2 he2=>?_)
 have hR2:=bC (hS1.ext he2) rfl
 refine L.a rfl (L.nil (T.seq (T.q (L.m rfl (L.nil (T.block (T.q (L.o (O.aA runUnderlying9 rfl rfl (show ¬ aZ=bn by decide) (L.a rfl (L.nil (T.cf (T.q (L.o (O.aA runUnderlying9 rfl rfl (show ¬ aZ=aK by decide) (L.a rfl (L.nil (T.cf (T.q (L.o (O.aA runUnderlying9 rfl rfl (show ¬ aZ=aY by decide) (L.a rfl (?_)))))))))))))))))))))))
 refine L.nil (T.cf (T.q (L.o (O.aX runUnderlying9 rfl rfl rfl (L.a rfl (L.nil (T.ct (T.q (L.m rfl (L.o (O.buildSlice (el:=9) (parts:=[(0,_),(1,_)]) (vs:=[(0,_),(1,_)]) (cs:=([aY,aZ].map str)) rfl (fun w=>by kernel_rfl) (fun ah3 SK acA Zu wB JX=>?_))))))))))))
 have pU:=(hK1.ext he2).ext wB
 refine L.o (O.call (xs:=[.tmp 116,.tmp 117]) call68 rfl rfl (aW 0 _ [aY,aZ] b (aH d s) s.last SK (Strs.ay JX rfl (by decide) (Nat.zero_le _)) pU.row rfl) (fun anf ak1 hq=>?_))
 obtain ⟨rfl,rfl⟩:=hq
 rw [decide_eq_true hlast]
 refine L.o (O.call (xs:=[.tmp 118]) call108 rfl rfl (dK ak1) (fun ang ak2 hq=>?_))
 obtain rfl:=hq
 have acF:=(he1.trans he2).trans wB
 have hvl:=pU.fsl
 have hvn:0<d.vs.length:=by rw [hvl];exact List.length_pos_iff.2 hfs
 obtain ⟨g,cap,cs,hfv,hgq,hgB,hcap,hmax,hcs,htk⟩:=pU.fsr.form hvn
 have hc1:(aH d s)[1]?=some (.slice (some ⟨g,0,none⟩) d.vs.length cap):=by rw [← hfv];rfl
 have Hr:Blk ak2 b (aH d s) 129:=pU.row
 refine L.nil (T.seq (?_))
 refine T.fJ mixed 14 [0] rfl [.is _,.is _,.is _,.is _,.is _,.is _,.is _,.is _,.is _,.is _,.is _,.is _,.is _,.is _] [[],[0],[1],[2],[3],[4],[],[6],[7],[8],[9],[10],[11],[12]] [[],[0],[0,1],[0,1,2],[0,1,2,3],[0,1,2,3,4],[],[6],[6,7],[6,7,8],[6,7,8,9],[6,7,8,9,10],[6,7,8,9,10,11],[6,7,8,9,10,11,12],[0,1,2,3,4,5,6,7,8,9,10,11,12,13],[0,1,2,3,4,5,6,7,8,9,10,11,12,13,14]] (by kernel_rfl) (by kernel_rfl) rfl (by kernel_rfl) trivial ⟨fun wx hx=>Ob.o (O.move rfl kR),
   fun wx hx=>Ob.o (O.nilCheck rfl kR),
   fun wx hx=>Ob.o (O.fieldAddr runUnderlying129 rfl sizeOf48 rfl kR),
   fun wx hx=>Ob.o (O.fieldAddr runUnderlying48 rfl sizeOf46 rfl kR),
   fun wx hx=>Ob.o (O.fieldAddr runUnderlying46 rfl sizeOf44 rfl kR),
   fun wx hx=>Ob.o (O.load isAgg44 rfl ((Blk.ext Hr hx).cell hc1) kR),
   fun wx hx=>Ob.o (O.move rfl kR),
   fun wx hx=>Ob.o (O.nilCheck rfl kR),
   fun wx hx=>Ob.o (O.fieldAddr runUnderlying129 rfl sizeOf48 rfl kR),
   fun wx hx=>Ob.o (O.fieldAddr runUnderlying48 rfl sizeOf46 rfl kR),
   fun wx hx=>Ob.o (O.fieldAddr runUnderlying46 rfl sizeOf44 rfl kR),
   fun wx hx=>Ob.o (O.load isAgg44 rfl ((Blk.ext Hr hx).cell hc1) kR),
   fun wx hx=>Ob.o (O.len runUnderlying44 rfl (Sl.val (zq (Blk.ext hgB hx) hcap hmax hcs htk)) kR),
   fun wx hx=>Ob.o (O.gq rfl rfl (by omega) kR),
   trivial⟩ (fun w18 lZ=>?_)
 refine L.o (O.indexAddr runUnderlying44 sizeOf127 rfl rfl (zq (Blk.ext hgB lZ) hcap hmax hcs htk) (by omega) (by omega) (?_))
 have MC:=pU.ext lZ
 have X3:=Blk.ext hgB lZ
 have hhv:BJ (RdQ w0 b S) w18 30 1 (dZ d).hv (dZ d).hs.length (aJ (dZ d).hs):=(MC.fa (d.vs.length-1) (by omega)).hv
 have hhl:(dZ d).hs.length≤100000:=by
  have h1:=(MC.fa (d.vs.length-1) (by omega)).hx
  have h2:=congrArg List.length h1
  rw [List.length_map] at h2
  have h3:(dZ d).hs.length=(s.fs.getD (d.vs.length-1) ([],[])).2.length:=h2
  rw [h3,au (by omega)]
  exact hc _ (List.getElem_mem _)
 have hm:∀ k,(dZ d).hv.ownBlock=some k→k<w18.heap.size:=fun k e ↦ y7 hhv.1 e
 have hpb:(dZ d).hv.ownBlock≠some b:=fun e ↦ (hhv.2 b e).2.1 rfl
 have hne:(dZ d).hv.ownBlock≠some g:=nG hhv.1 X3 (by decide)
 have hj:((d.vs.length:Int)-1).toNat=d.vs.length-1:=by omega
 have hcell:(bP d.vs)[((d.vs.length:Int)-1).toNat*2+1]?=some (dZ d).hv:=by rw [hj];exact zu d.vs _ (by omega)
 have Tt:Blk w18 b (aH d s) 129:=MC.row
 have acG:=acF.trans lZ
 refine L.a rfl (L.nil (?_))
 refine T.ac6 mixed 9 0 [9,6] rfl [.is _,.is _,.is _,.is _,.is _,.is _,.such (Zp w18.heap.size xs),.such (acE (dZ d).hv.ownBlock w18.heap.size xs),.such (fun _ _=>True)] [[],[],[1],[2],[3],[],[5],[6],[4,7]] [none,none,none,none,none,none,none,none,none] [[],[],[1],[1,2],[1,2,3],[],[5],[5,6],[1,2,3,4,5,6,7],[0,1,2,3,4,5,6,7,8],[0,1,2,3,4,5,6,7,8,9],[0,1,2,3,4,5,6,7,8,9,10]] (Iz w18 (dZ d).hv.ownBlock 8 (Zv (dZ d).hv.ownBlock w18.heap.size (dZ d).hs xs)) (dI (dZ d).hv.ownBlock) (by kernel_rfl) (by kernel_rfl) (by kernel_rfl) rfl ⟨Zp.st hm,acE.st hm,fun _ _ _ _ _=>trivial,trivial⟩ (.inl ⟨rfl,Keep.drew _ _⟩) ⟨fun c σ wx hx hn hl=>ObG.op rfl (O.move rfl ⟨⟨dI.refl _ _,hx.nop (Keep.refl _ _) (fun _ g ↦ g) (by decide)⟩,rfl⟩),
   fun c σ wx hx hn hl=>ObG.op rfl (O.move rfl ⟨⟨dI.refl _ _,hx.nop (Keep.refl _ _) (fun _ g ↦ g) (by decide)⟩,rfl⟩),
   fun c σ wx hx hn hl=>ObG.op rfl (O.nilCheck rfl ⟨⟨dI.refl _ _,hx.nop (Keep.refl _ _) (fun _ g ↦ g) (by decide)⟩,rfl⟩),
   fun c σ wx hx hn hl=>ObG.op rfl (O.fieldAddr runUnderlying127 rfl sizeOf125 rfl ⟨⟨dI.refl _ _,hx.nop (Keep.refl _ _) (fun _ g ↦ g) (by decide)⟩,rfl⟩),
   fun c σ wx hx hn hl=>ObG.op rfl (O.load isAgg125 rfl (Sl.at (zq (hx.but.blk X3 hne) hcap hmax hcs htk) hcell) ⟨⟨dI.refl _ _,hx.nop (Keep.refl _ _) (fun _ g ↦ g) (by decide)⟩,rfl⟩),
   fun c σ wx hx hn hl=>ObG.op rfl (O.move rfl ⟨⟨dI.refl _ _,hx.nop (Keep.refl _ _) (fun _ g ↦ g) (by decide)⟩,rfl⟩),
   fun c σ wx hx hn hl=>ObG.op rfl (O.call (xs:=[.tmp 140]) call122 rfl rfl (jF 0 _ r xs wx (Sl.mono (Sl.keep (Strs.ext (Strs.ext hR2 wB) lZ) (hx.but.keep (lo:=w.heap.size) (fun k e ↦ by have h1:=y7 (hK.fa (d.vs.length-1) (by omega)).hv.1 e;exact h1))) (Nat.zero_le _)) (hL0.ext (hx.but.ext MC.e (fun k e ↦ (hhv.2 k e).1))) (dh hll hf) hnum (by omega)) (fun v wy h=>⟨⟨dI.aV h.2,hx.nop h.2 (fun _ g ↦ g.ext h.2) (by decide)⟩,by obtain ⟨h1,h2⟩:=h;have hB:=dO.aT (Q:=BK w18.heap.size) h1 (fun k hk _ ↦ Nat.le_trans hx.but.size hk);obtain ⟨oa,cp,e⟩:=hB.form;exact ⟨oa,cp,e,hB⟩⟩)),
   fun c σ wx hx hn v141 Ot hl=>by { obtain ⟨oa,cp,rfl,hI⟩:=Ot;exact ObG.op rfl (O.buildSlice (el:=30) (parts:=[(0,.tmp 141)]) (vs:=[(0,_)]) (cs:=[.slice oa xs.length cp]) rfl (fun w=>by kernel_rfl) (fun ak3 anh ak4 ak5 WM afV=>⟨⟨dI.aV WM,hx.nop WM (fun _ g ↦ g.ext WM) (by decide)⟩,ak3,.slice oa xs.length cp,rfl,fun e=>by have:=hm _ e;have:=hx.but.size;omega,afV,hI.X0 hm (dI.aV WM)⟩)) },
   fun c σ wx hx hn afW Tv hl=>by { obtain ⟨bl,ul,rfl,hbn,hBl,hIl⟩:=Tv;exact ObG.op rfl (O.xw (size:=1) (bytes:=24) runUnderlying125 Tryz.nT rfl rfl rfl rfl (by decide) rfl rfl (aG hhv.1 (hx.Oi hn) (Nat.zero_le _)) rfl (Row.ay hBl) (by intro u hu;simp at hu;obtain rfl:=hu;exact Sl.one hIl.ints) (by omega) (by simp only [maxLen];omega) (Nat.zero_le _) (fun v143 ani afX Zx afY=>⟨⟨dI.jh Zx,hx.app hn Zx ⟨ul,⟨afX,fun k e=>(afY k e).imp id (fun h=>Nat.le_trans (hx.Oi hn).size h)⟩,hIl.X0 hm (dI.jh Zx)⟩⟩,trivial⟩)) },
   trivial⟩ (fun anj w19 ah6 v141 Ot afW Tv v143 afZ ak6=>?_)
 obtain ⟨Ba,ah7⟩:=ah6.done (ak6 8 (by decide) _ _ rfl rfl).symm
 refine L.o (O.nilCheck rfl (L.o (O.fieldAddr runUnderlying127 rfl sizeOf125 rfl (L.o (O.MR sizeOf125 (by obtain ⟨u,h1,_⟩:=ah7;exact Sl.one (Sl.aT h1.1)) rfl rfl (Ba.blk X3 hne) (by show 0+(((d.vs.length:Int)-1).toNat*2+1)<cs.length;omega) (fun ak7 Ou Zy=>?_))))))
 have hix:0+(((d.vs.length:Int)-1).toNat*2+1)=(d.vs.length-1)*2+1:=by omega
 replace Zy:Blk ak7 g (cs.set ((d.vs.length-1)*2+1) v143) 127:=by rw [← hix];exact Zy
 have hbg:b≠g:=fun e ↦ hgq.2.1 e.symm
 refine L.nil (T.blk (T.region (L.m rfl (L.m rfl (L.o (O.nilCheck rfl (L.o (O.fieldAddr runUnderlying129 rfl sizeOf9 rfl (L.o (O.bD sizeOf9 rfl rfl rfl (Blk.upd (Ba.blk Tt hpb) Ou hbg) (show (6:Nat)<7 by decide) (fun Iy iO yZ=>?_)))))))))))
 have ak8:=Blk.lt X3
 have hblt:=Blk.lt Tt
 obtain ⟨u,hGu,hIu⟩:=(ah7.updB Ou (Ba.blk X3 hne) (by decide) ak8).updB iO (Blk.upd (Ba.blk Tt hpb) Ou hbg) (by decide) hblt
 have SY:Ext w0 Iy:=((Ba.ext MC.e (fun k e ↦ (hhv.2 k e).1)).upd Ou (.inr hgq.1)).upd iO (.inr MC.lo)
 have S9:w18.heap.size≤Iy.heap.size:=by have:=Ba.size;have:=Ou.size;have:=iO.size;omega
 have hkeep:∀ k,k<w18.heap.size→k≠b→k≠g→(dZ d).hv.ownBlock≠some k→Iy.heap[k]?=w18.heap[k]?:=fun k h1 h2 h3 h4 ↦ (iO.block k h2).trans ((Ou.block k h3).trans (Ba.block k h1 h4))
 have af0:=Blk.upd Zy iO (Ne.symm hbg)
 refine L.nil (T.Po results67 ⟨⟨J5 d v143 u xs,MC.Zw hvn hfv hgq X3 hcap hmax hcs htk hkeep SY S9 yZ af0 hGu hIu⟩,fun k hk=>?_⟩)
 have hs:=hK.S k hk
 have z2:=acG.size
 exact (hkeep k (by omega) hs.2.2 (fun e=>hgq.2.2 (by rw [← e];exact hk)) (fun e=>(hhv.2 k e).2.2 hk)).trans (acG.block k (Nat.zero_le _) hs.2.1)
open Go Go.E RowKit
theorem O.adU {C:Cx} {e:Env} {w:World} {K:Value→World→Prop} {d:Option Tmp} {ty:TypeId} {pos:String} {aft:Array Edge} {g:Option (Nat × Bool)} {tys:Array TypeId} {x y z:Operand} {a b c:Int} (h1:ev e x=some (.int .i64 a)) (h2:ev e y=some (.int .i64 b)) (h3:ev e z=some (.int .i64 c)) (h:K (.int .i64 (mn (mn a b) c)) w) :
  O C e ⟨d,.call { callee:=.builtin .min,args:=#[x,y,z],argTypes:=tys },ty,pos,aft,g⟩ w K :=
 O.of_run (by simp) (fun q hq=>by
  simp [execOp,resolve,invoke,builtin,hq.eval h1,hq.eval h2,hq.eval h3,Builtin.min_,Builtin.min2,mn];rfl) h
def vH (r:List Str):Bool:=decide (1<r.length) && decide (r.getD (r.length-1) []=Iw)
def jH (r:List Str):List Str:=if vH r=true then r.take (r.length-1) else r
theorem Ht (s:PS) (r:List Str):um s r=if 0≤s.G∧0≤s.P∧0≤s.L∧((jH r).length:Int)=2+s.G+s.P+s.L then (match dV ((jH r).drop 1) with
  | some xs=>some ⟨(jH r).getD 0 [],xs.getD 0 0,(xs.drop 1).take s.G.toNat,(xs.drop (1+s.G.toNat)).take s.P.toNat,xs.drop (1+s.G.toNat+s.P.toNat),vH r⟩
  | none=>none) else none:=rfl
theorem BO {s:PS} {r:List Str} {u:PU} (h:um s r=some u):∃ (nm:Str) (ws:List Str) (xs:List Int),jH r=nm::ws∧0≤s.G∧0≤s.P∧0≤s.L∧((ws.length:Int)=1+s.G+s.P+s.L)∧dV ws=some xs∧u=⟨nm,xs.getD 0 0,(xs.drop 1).take s.G.toNat,(xs.drop (1+s.G.toNat)).take s.P.toNat,xs.drop (1+s.G.toNat+s.P.toNat),vH r⟩:=by
 rw [Ht] at h
 split at h
 ·rename_i hc
  obtain ⟨c1,c2,c3,c4⟩:=hc
  split at h
  ·rename_i xs hx
   cases h
   cases hq:jH r with
   | nil=>rw [hq] at c4;simp only [List.length_nil] at c4;omega
   | cons nm ws =>
    rw [hq] at c4 hx
    refine ⟨nm,ws,xs,rfl,c1,c2,c3,by simp only [List.length_cons] at c4;omega,hx,?_⟩
    rfl
  cases h
 cases h
theorem Ov {s:PS} {r:List Str} (h:um s r=none):¬ (0≤s.G∧0≤s.P∧0≤s.L)∨((0≤s.G∧0≤s.P∧0≤s.L)∧¬ ((jH r).length:Int)=2+s.G+s.P+s.L)∨((0≤s.G∧0≤s.P∧0≤s.L)∧((jH r).length:Int)=2+s.G+s.P+s.L∧∃ nm ws,jH r=nm::ws∧dV ws=none):=by
 rw [Ht] at h
 split at h
 ·rename_i hc
  obtain ⟨c1,c2,c3,c4⟩:=hc
  split at h
  ·cases h
  rename_i hx
  cases hq:jH r with
  | nil=>rw [hq] at c4;simp only [List.length_nil] at c4;omega
  | cons nm ws =>
   rw [hq] at c4 hx
   exact .inr (.inr ⟨⟨c1,c2,c3⟩,c4,nm,ws,rfl,hx⟩)
 rename_i hc
 by_cases h3:0≤s.G∧0≤s.P∧0≤s.L
 ·exact .inr (.inl ⟨h3,fun e=>hc ⟨h3.1,h3.2.1,h3.2.2,e⟩⟩)
 exact .inl h3
def vI (p:Value) (r:List Str):Value:=if vH r=true then O6 p (r.length-1) else p
theorem MF {lo:Nat} {w:World} {p:Value} {r:List Str} (h:Strs lo w p r):Strs lo w (vI p r) (jH r):=by
 unfold vI jH
 cases vH r with
 | false=>exact h
 | true =>
  have:=Qk (m:=r.length-1) h (Nat.sub_le _ _)
  have e:((r.map str).take ((r.length-1)*1))=(r.take (r.length-1)).map str:=by rw [Nat.mul_one,List.map_take]
  have e2:(r.take (r.length-1)).length=r.length-1:=by rw [List.length_take];omega
  rw [e] at this
  show Sl lo w (O6 p (r.length-1)) (r.take (r.length-1)).length 1 _
  rw [e2];exact this
theorem uq {r:List Str} : ∀ x∈jH r,x∈r:=fun x hx=>by
 unfold jH at hx
 split at hx
 ·exact (List.take_sublist _ _).subset hx
 exact hx
theorem BP (r:List Str):(jH r).length≤r.length:=by
 unfold jH
 split
 ·rw [List.length_take];omega
 exact Nat.le_refl _
theorem Tz {lo:Nat} {w:World} {v:Value} {k:Str} {r:List Str} (h:Strs lo w v (k::r)):Strs lo w (pR 1 v 1 (r.length+1)) r:=by
 have:=MB (l:=1) (h:=r.length+1) (h:Sl lo w _ _ _ _) (by omega) (by simp)
 have e:(((k::r).map str).drop (1*1)).take ((r.length+1-1)*1)=r.map str:=by simp;exact List.take_of_length_le (by simp)
 rw [e,show r.length+1-1=r.length by omega] at this
 exact this
theorem dO.cut {Q:Nat→Prop} {W:World} {v:Value} {xs:List Int} {l h:Nat} (hv:dO Q W v xs) (h1:l≤h) (h2:h≤xs.length):dO Q W (pR 1 v l h) ((xs.drop l).take (h-l)):=by
 have hlen:((xs.drop l).take (h-l)).length=h-l:=by rw [List.length_take,List.length_drop];omega
 rcases hv with ⟨rfl,rfl⟩|⟨k,off,cap,cs,rfl,c1,c2,c3,c4,c5⟩
 ·simp only [List.length_nil] at h2
  obtain rfl:h=0:=by omega
  obtain rfl:l=0:=by omega
  exact .inl ⟨rfl,rfl⟩
 by_cases hc:cap=l
 ·refine .inr ⟨k,off,cap-l,cs,?_,by omega,by omega,c3,c4,?_⟩
  ·simp only [pR,if_pos hc,hlen]
  rw [hlen,show h-l=0 by omega];simp
 by_cases hl:l=0
 ·subst hl
  refine .inr ⟨k,off,cap,cs,?_,by omega,by omega,c3,c4,?_⟩
  ·rw [hlen];simp only [pR,if_neg hc,Option.map_some,Addr.add,Nat.zero_mul,if_true,Nat.sub_zero]
  rw [hlen,List.drop_zero,Nat.sub_zero,List.map_take,← c5,List.take_take,Nat.min_eq_left h2]
 refine .inr ⟨k,off+l,cap-l,cs,?_,by omega,by omega,c3,c4,?_⟩
 ·simp only [pR,if_neg hc,hlen,Option.map_some,Addr.add,Nat.mul_one,if_neg hl]
 rw [hlen,← List.drop_drop,List.map_take,List.map_drop,← c5]
 rw [List.drop_take,List.take_take,Nat.min_eq_left (by omega)]
theorem zx {a b:Int} : 0≤mn a b↔0≤a∧0≤b:=by unfold mn;split <;> omega
def uAdd (d:RdD) (v:UnV) (uv:Value):RdD:={ d with uv:=uv,us:=d.us ++ [v] }
def Hu (s:PS) (u:PU):PS:={ s with us:=s.us ++ [u] }
theorem RdK.Zz {w0:World} {b:Nat} {d:RdD} {s:PS} {S:Nat→Prop} {W W':World} (h:RdK w0 b d s S W) {v:UnV} {u:PU} {uv':Value} (hu:∀ k,k<W.heap.size→k≠b→d.uv.ownBlock≠some k→W'.heap[k]?=W.heap[k]?) (he:Ext w0 W') (hz:W.heap.size≤W'.heap.size)
  (hB:Blk W' b (aH (uAdd d v uv') (Hu s u)) 129) (hG:JW d.uv.ownBlock W.heap.size 51 6 (d.us.length+1) (fF d.us++v.cells) uv' W') (hU:UnO (BK W.heap.size) W' v u):RdK w0 b (uAdd d v uv') (Hu s u) S W':=by
 have hk:∀ j cs t,t≠51→RdQ w0 b S j→Blk W j cs t→RdQ w0 b S j∧Blk W' j cs t:=fun j cs t ht q B=>⟨q,(hu j B.lt q.2.1 (nG h.usr.1 B (Ne.symm ht))).trans B⟩
 have hkI:∀ k cs,RdQ w0 b S k→Blk W k cs 3→RdQ w0 b S k∧Blk W' k cs 3:=fun k cs q B=>hk k cs _ (by decide) q B
 have hlt:=Blk.lt (cs:=aH d s) h.row
 have hz0:=h.e.size
 have hnew:∀ k,W.heap.size≤k→RdQ w0 b S k:=fun k h1=>⟨by omega,by omega,fun hk=>by have:=(h.S k hk).2.1;omega⟩
 have hul:(uAdd d v uv').us.length=d.us.length+1:=by simp [uAdd]
 have hsl:=h.usl
 refine ⟨he,h.lo,hB,h.pts.stay fun k cs q _ B=>hk k cs _ (by decide) q B,h.fsr.stay fun k cs q _ B=>hk k cs _ (by decide) q B,h.fsl,fun i hi=>?_,h.sep,⟨?_,fun k e=>?_⟩,by simp [uAdd,Hu,hsl],fun i hi=>?_,h.big,fun j hj=>by obtain ⟨a1,a2,a3⟩:=h.S j hj;exact ⟨a1,Nat.lt_of_lt_of_le a2 hz,a3⟩⟩
 ·have f:=h.fa i hi
  exact ⟨f.ox,f.oi.stay hkI,f.hx,f.hv.stay fun k cs q _ B=>hk k cs _ (by decide) q B,fun x hx=>(f.ri x hx).stay hkI⟩
 ·have e2:fF (uAdd d v uv').us=fF d.us++v.cells:=by rw [show (uAdd d v uv').us=d.us ++ [v] from rfl,qG,sF]
  rw [hul,e2];exact hG.1
 ·rcases hG.2 k e with h1|h1
  ·exact h.usr.2 k h1
  exact hnew k h1
 rw [hul] at hi
 rcases Nat.lt_or_ge i d.us.length with h1|h1
 ·have e1:(uAdd d v uv').us.getD i u0=d.us.getD i u0:=oL h1
  have e2:(Hu s u).us.getD i pu0=s.us.getD i pu0:=oL (by omega)
  rw [e1,e2]
  exact (h.un i h1).stay hkI
 have e1:(uAdd d v uv').us.getD i u0=v:=kT (by omega)
 have e2:(Hu s u).us.getD i pu0=u:=kT (by omega)
 rw [e1,e2]
 exact hU.stay fun k cs q B=>⟨hnew k q,B⟩
def acH (ob:Option Nat) (cs:List Value) (v:Value) (W:World):Prop:=∃ k,v = .slice (some ⟨k,0,none⟩) 1 1∧ob≠some k∧Blk W k cs 51
theorem acH.st {ob:Option Nat} {cs:List Value} : ∀ v w w',dI ob w w'→acH ob cs v w→acH ob cs v w':=fun _ _ _ h ⟨k,h1,h2,h3⟩=>⟨k,h1,h2,h.blk h3 h2⟩
theorem J6 {W:World} {k j:Nat} {cs cs':List Value} {t t':TypeId} (h:Blk W k cs t) (h':Blk W j cs' t') (ht:t≠t'):k≠j:=fun e=>by
 subst e
 have h1:W.heap[k]?=_:=h
 have h2:W.heap[k]?=_:=h'
 rw [h1] at h2
 cases h2
 exact ht rfl
def nJ (wt:Bool):List Value:=[str [],.int .i64 0,.slice none 0 0,.slice none 0 0,.slice none 0 0,.bool wt]
theorem Hw (wt:Bool):∀ c∈nJ wt,c.oneCell'=true:=fun c hc=>by
 simp only [nJ,List.mem_cons,List.not_mem_nil,or_false] at hc
 rcases hc with rfl|rfl|rfl|rfl|rfl|rfl <;> rfl
set_option maxHeartbeats 1000000 in
theorem WO (w0:World) (b lo:Nat) (s:PS) (S:Nat→Prop) (p:Value) (r:List Str) (u:PU) (w:World) (hI:RdI w0 b s S w) (hL0:jc w0) (hp:Strs lo w p r) (hs:∀ x∈r,x.length≤100000) (hr:r.length≤100000) (hu:um s r=some u) (hc:s.us.length≤100000) :
  Calls Tryz.prog 123 #[.pointer (some ⟨b,0,none⟩),p] w (Ret fun v w'=>RdI w0 b (Hu s u) S w'∧∀ k,S k→w'.heap[k]?=w.heap[k]?):=by
 obtain ⟨d,hK⟩:=hI
 obtain ⟨nm,ws,xs,hq,hG0,hP0,ak9,hwl,hnum,rfl⟩:=BO hu
 refine T.enter (vs:=[.pointer (some ⟨b,0,none⟩),p]) func123 rfl ntmps123 rfl ?_
 refine T.q (L.o (O.build (v:=.agg (nJ false).toArray) (parts:=[]) (vs:=[]) rfl (fun w=>by kernel_rfl) (L.o (O.alloc zeroValue51 (fun b4 w4 hb4 hz4 he4 hB4=>?_)))))
 refine L.o (O.aC sizeOf51 rfl rfl rfl hB4 (Nat.le_refl _) (Hw false) (fun w9 hu9 hB9=>?_))
 replace hu9:Upd b4 w4 w9:=hu9
 have hU9:Blk w9 b4 (nJ false) 51:=hB9
 have he9:Ext w w9:=he4.upd hu9 (.inr (by omega))
 refine L.nil (T.seq (T.q (L.m rfl (L.o (O.len runUnderlying61 rfl (Sl.val hp) (L.o (O.gq rfl rfl (by omega) (L.a rfl (L.nil (T.seq (?_)))))))))))
 refine T.join (σ:=Unit) (fun _=>[(0,.pointer (some ⟨b,0,none⟩)),(1,p),(4,.pointer (some ⟨b4,0,none⟩)),(5,.int .i64 ((r.length:Int)-1)),(21,.bool (vH r))]) (fun _ w'=>w'=w9) ?_ ?_
 ·rcases Nat.lt_or_ge 1 r.length with h1|h1
  ·rw [show ((r.length:Int)-1)=((r.length-1:Nat):Int) by omega]
   refine T.region (L.m rfl (L.o (O.Cm rfl rfl (by omega) (L.m rfl (L.m rfl (L.m rfl (L.o (O.indexAddr runUnderlying61 sizeOf9 rfl rfl (hp.ext he9) (by omega) (by omega) (L.o (O.load isAgg9 rfl ((hp.ext he9).at (show r.length-1<r.length by omega)) (L.o (O.qx runUnderlying9 rfl rfl (fun h2=>?_) (fun h2=>?_)))))))))))))
   ·refine L.o (O.ah rfl rfl (L.nil (T.meet (()) ⟨rfl,rfl,rfl,rfl,?_,trivial⟩ rfl)))
    ·exact congrArg (fun z=>some (Value.bool z)) (by rw [vH,decide_eq_true h1,Bool.true_and];exact (decide_eq_true h2).symm)
   refine L.o (O.ah rfl rfl (L.nil (T.meet (()) ⟨rfl,rfl,rfl,rfl,?_,trivial⟩ rfl)))
   ·exact congrArg (fun z=>some (Value.bool z)) (by rw [vH,decide_eq_true h1,Bool.true_and];exact (decide_eq_false h2).symm)
  refine T.region (L.m rfl (L.o (O.zS rfl rfl (by omega) (L.m rfl (L.p (L.p (L.p (L.p (L.p (L.o (O.aj rfl rfl (L.nil (T.meet (()) ⟨rfl,rfl,rfl,rfl,?_,trivial⟩ rfl)))))))))))))
  ·exact congrArg (fun z=>some (Value.bool z)) (by rw [vH,decide_eq_false (by omega),Bool.false_and])
 rintro _ w10 rfl
 refine T.join (σ:=Unit) (fun _=>[(0,.pointer (some ⟨b,0,none⟩)),(1,vI p r),(4,.pointer (some ⟨b4,0,none⟩))]) (fun _ W=>Ext w W∧Blk W b4 (nJ (vH r)) 51) ?_ ?_
 ·rcases hwt:vH r with _|_
  ·refine T.cf (T.skip (T.meet (()) ⟨rfl,?_,rfl,trivial⟩ ⟨he9,hU9⟩))
   ·exact congrArg some (by rw [vI,hwt];rfl)
  have h1:1<r.length:=by unfold vH at hwt;simp only [Bool.and_eq_true,decide_eq_true_eq] at hwt;exact hwt.1
  rw [show ((r.length:Int)-1)=((r.length-1:Nat):Int) by omega]
  refine T.ct (?_)
  refine T.any mixed 5 1 [1,5,4] rfl [.is _,.is _,.is _,.is _,.is undef] [[],[],[0,1],[],[3]] [none,none,none,none,some 0] [[],[],[0,1],[],[3],[0,1,2,3,4]] (JV w10 b4 51 [nJ false,(nJ false).set 5 (.bool true)]) (fun _ _=>True) (by kernel_rfl) (by kernel_rfl) (by kernel_rfl) rfl trivial (JV.start hU9 (Keep.drew _ _)) ⟨fun c wx hx=>ObK.op rfl (O.move rfl ⟨⟨trivial,hx⟩,rfl⟩),
    fun c wx hx=>ObK.op rfl (O.move rfl ⟨⟨trivial,hx⟩,rfl⟩),
    fun c wx hx=>ObK.op rfl (O.O6 runUnderlying61 sizeOf9 rfl rfl (hp.ext (hx.1.ext he9 (fun k e ↦ by cases e;omega))) (by omega) ⟨⟨trivial,hx⟩,rfl⟩),
    fun c wx hx=>ObK.op rfl (O.fieldAddr runUnderlying51 rfl sizeOf4 rfl ⟨⟨trivial,hx⟩,rfl⟩),
    fun wx hx=>ObK.op rfl (O.bD sizeOf4 rfl rfl rfl hx.2 (show (5:Nat)<6 by decide) (fun w25 KR Dj=>⟨⟨trivial,hx.next KR Dj rfl⟩,rfl⟩)),
    trivial⟩ (fun w13 abk=>?_)
  obtain ⟨hB3,hR3⟩:=abk
  refine L.a rfl (L.nil (T.meet (()) ⟨rfl,?_,rfl,trivial⟩ ⟨hB3.ext he9 (fun k e ↦ by cases e;omega),hR3⟩))
  ·exact congrArg some (by rw [vI,hwt];rfl)
 rintro _ w11 ⟨eH,aap⟩
 have aau:=hK.ext eH
 have fU:Blk w11 b (aH d s) 129:=aau.row
 have hws:=MF hp
 have af2:=hL0.ext aau.e
 rw [hq] at hws
 have hbig:=hK.big
 have hql:=BP r
 rw [hq] at hql
 simp only [List.length_cons] at hql
 refine T.seq (?_)
 refine T.fJ mixed 44 [0,1] rfl (.is _ :: .is _ :: .is _ :: .is _ :: .is _ :: .is _ :: .is _ :: .is _ :: .is _ :: .is _ :: .is _ :: .is _ :: .is _ :: .is _ :: .is _ :: .is _ :: .is _ :: .is _ :: .is _ :: .is _ :: .is _ :: .is _ :: .is _ :: .is _ :: .is _ :: .is _ :: .is _ :: .is _ :: .is _ :: .is _ :: .is _ :: .is _ :: .is _ :: .is _ :: .is _ :: .is _ :: .is _ :: .is _ :: .is _ :: .is _ :: .is _ :: .is _ :: .is _ :: .is _ :: []) ([] :: [0] :: [1] :: [2] :: [3] :: [4] :: [] :: [6] :: [7] :: [8] :: [9] :: [10] :: [] :: [12] :: [13] :: [14] :: [15] :: [16] :: [5,11,17] :: [18] :: [19] :: [20] :: [21,20] :: [20] :: [23,20] :: [24,20] :: [25,20] :: [26,20] :: [27,20] :: [28,20] :: [20] :: [30,20] :: [31,20] :: [32,20] :: [33,20] :: [34,20] :: [29,35,20] :: [20] :: [37,20] :: [38,20] :: [39,20] :: [40,20] :: [41,20] :: [36,42,20] :: []) ([] :: [0] :: [0,1] :: [0,1,2] :: [0,1,2,3] :: [0,1,2,3,4] :: [] :: [6] :: [6,7] :: [6,7,8] :: [6,7,8,9] :: [6,7,8,9,10] :: [] :: [12] :: [12,13] :: [12,13,14] :: [12,13,14,15] :: [12,13,14,15,16] :: [0,1,2,3,4,5,6,7,8,9,10,11,12,13,14,15,16,17] :: [0,1,2,3,4,5,6,7,8,9,10,11,12,13,14,15,16,17,18] :: [0,1,2,3,4,5,6,7,8,9,10,11,12,13,14,15,16,17,18,19] :: [0,1,2,3,4,5,6,7,8,9,10,11,12,13,14,15,16,17,18,19,20] :: [0,1,2,3,4,5,6,7,8,9,10,11,12,13,14,15,16,17,18,19,20,21] :: [0,1,2,3,4,5,6,7,8,9,10,11,12,13,14,15,16,17,18,19,20] :: [0,1,2,3,4,5,6,7,8,9,10,11,12,13,14,15,16,17,18,19,20,23] :: [0,1,2,3,4,5,6,7,8,9,10,11,12,13,14,15,16,17,18,19,20,23,24] :: [0,1,2,3,4,5,6,7,8,9,10,11,12,13,14,15,16,17,18,19,20,23,24,25] :: [0,1,2,3,4,5,6,7,8,9,10,11,12,13,14,15,16,17,18,19,20,23,24,25,26] :: [0,1,2,3,4,5,6,7,8,9,10,11,12,13,14,15,16,17,18,19,20,23,24,25,26,27] :: [0,1,2,3,4,5,6,7,8,9,10,11,12,13,14,15,16,17,18,19,20,23,24,25,26,27,28] :: [0,1,2,3,4,5,6,7,8,9,10,11,12,13,14,15,16,17,18,19,20] :: [0,1,2,3,4,5,6,7,8,9,10,11,12,13,14,15,16,17,18,19,20,30] :: [0,1,2,3,4,5,6,7,8,9,10,11,12,13,14,15,16,17,18,19,20,30,31] :: [0,1,2,3,4,5,6,7,8,9,10,11,12,13,14,15,16,17,18,19,20,30,31,32] :: [0,1,2,3,4,5,6,7,8,9,10,11,12,13,14,15,16,17,18,19,20,30,31,32,33] :: [0,1,2,3,4,5,6,7,8,9,10,11,12,13,14,15,16,17,18,19,20,30,31,32,33,34]::(0::1::2::3::4::5::6::7::8::9::10::11::12::13::14::15::16::17::18::19::20::23::24::25::26::27::28::29::30::31::32::33::34::35 :: []) :: [0,1,2,3,4,5,6,7,8,9,10,11,12,13,14,15,16,17,18,19,20] :: [0,1,2,3,4,5,6,7,8,9,10,11,12,13,14,15,16,17,18,19,20,37] :: [0,1,2,3,4,5,6,7,8,9,10,11,12,13,14,15,16,17,18,19,20,37,38] :: [0,1,2,3,4,5,6,7,8,9,10,11,12,13,14,15,16,17,18,19,20,37,38,39] :: [0,1,2,3,4,5,6,7,8,9,10,11,12,13,14,15,16,17,18,19,20,37,38,39,40] :: [0,1,2,3,4,5,6,7,8,9,10,11,12,13,14,15,16,17,18,19,20,37,38,39,40,41]::(0::1::2::3::4::5::6::7::8::9::10::11::12::13::14::15::16::17::18::19::20::23::24::25::26::27::28::29::30::31::32::33::34::35::36::37::38::39::40::41::42 :: [])::(0::1::2::3::4::5::6::7::8::9::10::11::12::13::14::15::16::17::18::19::20::21::22::23::24::25::26::27::28::29::30::31::32::33::34::35::36::37::38::39::40::41::42::43 :: [])::(0::1::2::3::4::5::6::7::8::9::10::11::12::13::14::15::16::17::18::19::20::21::22::23::24::25::26::27::28::29::30::31::32::33::34::35::36::37::38::39::40::41::42::43::44 :: [])::(0::1::2::3::4::5::6::7::8::9::10::11::12::13::14::15::16::17::18::19::20::21::22::23::24::25::26::27::28::29::30::31::32::33::34::35::36::37::38::39::40::41::42::43::44::45 :: []) :: []) (by kernel_rfl) (by kernel_rfl) rfl (by kernel_rfl) trivial ⟨fun wx hx=>Ob.o (O.move rfl kR),
   fun wx hx=>Ob.o (O.nilCheck rfl kR),
   fun wx hx=>Ob.o (O.fieldAddr runUnderlying129 rfl sizeOf48 rfl kR),
   fun wx hx=>Ob.o (O.fieldAddr runUnderlying48 rfl sizeOf25 rfl kR),
   fun wx hx=>Ob.o (O.fieldAddr runUnderlying25 rfl sizeOf3 rfl kR),
   fun wx hx=>Ob.o (O.load isAgg3 rfl ((Blk.ext fU hx).cell rfl) kR),
   fun wx hx=>Ob.o (O.move rfl kR),
   fun wx hx=>Ob.o (O.nilCheck rfl kR),
   fun wx hx=>Ob.o (O.fieldAddr runUnderlying129 rfl sizeOf48 rfl kR),
   fun wx hx=>Ob.o (O.fieldAddr runUnderlying48 rfl sizeOf25 rfl kR),
   fun wx hx=>Ob.o (O.fieldAddr runUnderlying25 rfl sizeOf3 rfl kR),
   fun wx hx=>Ob.o (O.load isAgg3 rfl ((Blk.ext fU hx).cell rfl) kR),
   fun wx hx=>Ob.o (O.move rfl kR),
   fun wx hx=>Ob.o (O.nilCheck rfl kR),
   fun wx hx=>Ob.o (O.fieldAddr runUnderlying129 rfl sizeOf48 rfl kR),
   fun wx hx=>Ob.o (O.fieldAddr runUnderlying48 rfl sizeOf25 rfl kR),
   fun wx hx=>Ob.o (O.fieldAddr runUnderlying25 rfl sizeOf3 rfl kR),
   fun wx hx=>Ob.o (O.load isAgg3 rfl ((Blk.ext fU hx).cell rfl) kR),
   fun wx hx=>Ob.o (O.adU rfl rfl rfl kR),
   fun wx hx=>Ob.o (O.IE rfl rfl (zx.2 ⟨zx.2 ⟨hG0,hP0⟩,ak9⟩) kR),
   fun wx hx=>Ob.o (O.move rfl kR),
   fun wx hx=>Ob.o (O.move rfl kR),
   fun wx hx=>Ob.o (O.len runUnderlying61 rfl (Sl.val (hws.ext (eH.trans hx))) kR),
   fun wx hx=>Ob.o (O.move rfl kR),
   fun wx hx=>Ob.o (O.nilCheck rfl kR),
   fun wx hx=>Ob.o (O.fieldAddr runUnderlying129 rfl sizeOf48 rfl kR),
   fun wx hx=>Ob.o (O.fieldAddr runUnderlying48 rfl sizeOf25 rfl kR),
   fun wx hx=>Ob.o (O.fieldAddr runUnderlying25 rfl sizeOf3 rfl kR),
   fun wx hx=>Ob.o (O.load isAgg3 rfl ((Blk.ext fU hx).cell rfl) kR),
   fun wx hx=>Ob.o (O.aI rfl rfl (by omega) kR),
   fun wx hx=>Ob.o (O.move rfl kR),
   fun wx hx=>Ob.o (O.nilCheck rfl kR),
   fun wx hx=>Ob.o (O.fieldAddr runUnderlying129 rfl sizeOf48 rfl kR),
   fun wx hx=>Ob.o (O.fieldAddr runUnderlying48 rfl sizeOf25 rfl kR),
   fun wx hx=>Ob.o (O.fieldAddr runUnderlying25 rfl sizeOf3 rfl kR),
   fun wx hx=>Ob.o (O.load isAgg3 rfl ((Blk.ext fU hx).cell rfl) kR),
   fun wx hx=>Ob.o (O.aI rfl rfl (by omega) kR),
   fun wx hx=>Ob.o (O.move rfl kR),
   fun wx hx=>Ob.o (O.nilCheck rfl kR),
   fun wx hx=>Ob.o (O.fieldAddr runUnderlying129 rfl sizeOf48 rfl kR),
   fun wx hx=>Ob.o (O.fieldAddr runUnderlying48 rfl sizeOf25 rfl kR),
   fun wx hx=>Ob.o (O.fieldAddr runUnderlying25 rfl sizeOf3 rfl kR),
   fun wx hx=>Ob.o (O.load isAgg3 rfl ((Blk.ext fU hx).cell rfl) kR),
   fun wx hx=>Ob.o (O.aI rfl rfl (by omega) kR),
   trivial⟩ (fun w14 eX=>?_)
 refine L.o (O.iF rfl rfl (by simp only [List.length_cons];omega) (L.o (O.ah rfl rfl (L.o (O.call (xs:=[.tmp 71]) call108 rfl rfl (dK w14) (fun v72 w72 hq=>?_))))))
 obtain rfl:=hq
 have ah8:=aau.ext eX
 have ah9:Blk w72 b (aH d s) 129:=ah8.row
 refine L.nil (T.q (L.m rfl (L.o (O.ji (l:=1) runUnderlying61 sizeOf9 rfl rfl hws (by simp) (L.o (O.call (xs:=[.tmp 74]) call122 rfl rfl (jF lo _ ws xs w72 ((Tz hws).ext (eH.trans eX)) (af2.ext eX) (fun x hx ↦ hs x (uq x (by rw [hq];exact List.mem_cons_of_mem _ hx))) hnum (by omega)) (fun v75 w75 hq=>?_)))))))
 obtain ⟨ala,aav⟩:=hq
 have alb:=ah8.ext aav
 have MG:Blk w75 b (aH d s) 129:=alb.row
 refine L.a rfl (L.nil (T.seq (?_)))
 refine T.fJ mixed 22 [0] rfl [.is _,.is _,.is _,.is _,.is _,.is _,.is _,.is _,.is _,.is _,.is _,.is _,.is _,.is _,.is _,.is _,.is _,.is _,.is _,.is _,.is _,.is _] [[],[0],[1],[2],[3],[4],[5],[],[7],[8],[9],[10],[11],[12],[],[14],[15],[16],[17],[18],[13,19],[6]] [[],[0],[0,1],[0,1,2],[0,1,2,3],[0,1,2,3,4],[0,1,2,3,4,5],[],[7],[7,8],[7,8,9],[7,8,9,10],[7,8,9,10,11],[7,8,9,10,11,12],[],[14],[14,15],[14,15,16],[14,15,16,17],[14,15,16,17,18],[7,8,9,10,11,12,13,14,15,16,17,18,19],[0,1,2,3,4,5,6],[0,1,2,3,4,5,6,7,8,9,10,11,12,13,14,15,16,17,18,19,20,21]] (by kernel_rfl) (by kernel_rfl) rfl (by kernel_rfl) trivial ⟨fun wx hx=>Ob.o (O.move rfl kR),
   fun wx hx=>Ob.o (O.nilCheck rfl kR),
   fun wx hx=>Ob.o (O.fieldAddr runUnderlying129 rfl sizeOf48 rfl kR),
   fun wx hx=>Ob.o (O.fieldAddr runUnderlying48 rfl sizeOf25 rfl kR),
   fun wx hx=>Ob.o (O.fieldAddr runUnderlying25 rfl sizeOf3 rfl kR),
   fun wx hx=>Ob.o (O.load isAgg3 rfl ((Blk.ext MG hx).cell rfl) kR),
   fun wx hx=>Ob.o (O.aI rfl rfl (by omega) kR),
   fun wx hx=>Ob.o (O.move rfl kR),
   fun wx hx=>Ob.o (O.nilCheck rfl kR),
   fun wx hx=>Ob.o (O.fieldAddr runUnderlying129 rfl sizeOf48 rfl kR),
   fun wx hx=>Ob.o (O.fieldAddr runUnderlying48 rfl sizeOf25 rfl kR),
   fun wx hx=>Ob.o (O.fieldAddr runUnderlying25 rfl sizeOf3 rfl kR),
   fun wx hx=>Ob.o (O.load isAgg3 rfl ((Blk.ext MG hx).cell rfl) kR),
   fun wx hx=>Ob.o (O.aI rfl rfl (by omega) kR),
   fun wx hx=>Ob.o (O.move rfl kR),
   fun wx hx=>Ob.o (O.nilCheck rfl kR),
   fun wx hx=>Ob.o (O.fieldAddr runUnderlying129 rfl sizeOf48 rfl kR),
   fun wx hx=>Ob.o (O.fieldAddr runUnderlying48 rfl sizeOf25 rfl kR),
   fun wx hx=>Ob.o (O.fieldAddr runUnderlying25 rfl sizeOf3 rfl kR),
   fun wx hx=>Ob.o (O.load isAgg3 rfl ((Blk.ext MG hx).cell rfl) kR),
   fun wx hx=>Ob.o (O.aI rfl rfl (by omega) kR),
   fun wx hx=>Ob.o (O.assign rfl kR),
   trivial⟩ (fun w16 Ad=>?_)
 rw [show (1+s.G+s.P:Int)=((1+s.G.toNat+s.P.toNat:Nat):Int) by omega,show (1+s.G:Int)=((1+s.G.toNat:Nat):Int) by omega]
 have hxl:=(jr ws xs hnum).1
 have ZA:Ext w w16:=((eH.trans eX).trans aav).trans Ad
 have aia:w.heap.size≤w72.heap.size:=(eH.trans eX).size
 have ZB:dO (BK w.heap.size) w75 v75 xs:=dO.aT ala (fun k h _ ↦ Nat.le_trans aia h)
 have hIg:=ZB.cut (l:=1) (h:=1+s.G.toNat) (by omega) (by omega)
 have hIv:=ZB.cut (l:=1+s.G.toNat) (h:=1+s.G.toNat+s.P.toNat) (by omega) (by omega)
 have hIq:=ZB.cut (l:=1+s.G.toNat+s.P.toNat) (h:=xs.length) (by omega) (Nat.le_refl _)
 rw [List.take_of_length_le (by rw [List.length_drop];omega)] at hIq
 rw [show 1+s.G.toNat-1=s.G.toNat by omega] at hIg
 rw [show 1+s.G.toNat+s.P.toNat-(1+s.G.toNat)=s.P.toNat by omega] at hIv
 have alc:=Blk.ext aap ((eX.trans aav).trans Ad)
 have aib:=Blk.ext aap (eX.trans aav)
 have hint:∀ W,dI (some b4) w16 W→Ints .i64 0 W v75 xs:=fun W h ↦ (ZB.stay (Q':=fun _ ↦ True) fun k cs q B ↦ ⟨trivial,h.blk (Blk.ext B Ad) (fun e ↦ J6 aib B (by decide) (by cases e;rfl))⟩).ints
 refine L.a rfl (L.nil (T.seq (?_)))
 refine T.any mixed 24 4 [1,6,7,8,4] rfl [.is _,.is _,.is _,.is _,.is _,.is _,.is _,.is _,.is _,.is _,.is _,.is _,.is _,.is _,.is _,.is _,.is _,.is undef,.is _,.is undef,.is _,.is undef,.is _,.is undef] [[],[0],[1],[],[3],[4],[],[],[6,7],[],[],[],[9,10,11],[],[],[13,14],[],[16,2],[],[18,5],[],[20,8],[],[22,12]] [none,none,none,none,none,none,none,none,none,none,none,none,none,none,none,none,none,some 0,none,some 1,none,some 2,none,some 3] [[],[0],[0,1],[],[3],[3,4],[],[],[6,7],[],[],[],[9,10,11],[],[],[13,14],[0,1,2],[0,1,2,16],[0,1,2,3,4,5,16,17],[0,1,2,3,4,5,16,17,18],[0,1,2,3,4,5,6,7,8,16,17,18,19],[0,1,2,3,4,5,6,7,8,16,17,18,19,20],[0,1,2,3,4,5,6,7,8,9,10,11,12,16,17,18,19,20,21],[0,1,2,3,4,5,6,7,8,9,10,11,12,16,17,18,19,20,21,22],[0,1,2,3,4,5,6,7,8,9,10,11,12,13,14,15,16,17,18,19,20,21,22,23],[0,1,2,3,4,5,6,7,8,9,10,11,12,13,14,15,16,17,18,19,20,21,22,23,24]] (JV w16 b4 51 [nJ (vH r),(nJ (vH r)).set 0 (str nm),((nJ (vH r)).set 0 (str nm)).set 1 (.int .i64 (xs.getD 0 0)),(((nJ (vH r)).set 0 (str nm)).set 1 (.int .i64 (xs.getD 0 0))).set 2 (pR 1 v75 1 (1+s.G.toNat)),((((nJ (vH r)).set 0 (str nm)).set 1 (.int .i64 (xs.getD 0 0))).set 2 (pR 1 v75 1 (1+s.G.toNat))).set 3 (pR 1 v75 (1+s.G.toNat) (1+s.G.toNat+s.P.toNat))]) (fun _ _=>True) (by kernel_rfl) (by kernel_rfl) (by kernel_rfl) rfl trivial (JV.start alc (Keep.drew _ _)) ⟨fun c wx hx=>ObK.op rfl (O.move rfl ⟨⟨trivial,hx⟩,rfl⟩),
   fun c wx hx=>ObK.op rfl (O.indexAddr runUnderlying61 sizeOf9 rfl rfl (hws.ext (hx.1.ext ZA (fun k e ↦ by cases e;omega))) (by decide) (by simp) ⟨⟨trivial,hx⟩,rfl⟩),
   fun c wx hx=>ObK.op rfl (O.load isAgg9 rfl ((hws.ext (hx.1.ext ZA (fun k e ↦ by cases e;omega))).at (show 0<(nm::ws).length by simp)) ⟨⟨trivial,hx⟩,rfl⟩),
   fun c wx hx=>ObK.op rfl (O.move rfl ⟨⟨trivial,hx⟩,rfl⟩),
   fun c wx hx=>ObK.op rfl (O.indexAddr runUnderlying30 sizeOf3 rfl rfl (hint _ hx.1) (by decide) (by omega) ⟨⟨trivial,hx⟩,rfl⟩),
   fun c wx hx=>ObK.op rfl (O.load isAgg3 rfl (Ints.at (hint _ hx.1) (show 0<xs.length by omega)) ⟨⟨trivial,hx⟩,rfl⟩),
   fun c wx hx=>ObK.op rfl (O.move rfl ⟨⟨trivial,hx⟩,rfl⟩),
   fun c wx hx=>ObK.op rfl (O.move rfl ⟨⟨trivial,hx⟩,rfl⟩),
   fun c wx hx=>ObK.op rfl (O.XZ (l:=1) (h:=1+s.G.toNat) runUnderlying30 sizeOf3 rfl rfl rfl ZB.ints (by omega) (by omega) ⟨⟨trivial,hx⟩,rfl⟩),
   fun c wx hx=>ObK.op rfl (O.move rfl ⟨⟨trivial,hx⟩,rfl⟩),
   fun c wx hx=>ObK.op rfl (O.move rfl ⟨⟨trivial,hx⟩,rfl⟩),
   fun c wx hx=>ObK.op rfl (O.move rfl ⟨⟨trivial,hx⟩,rfl⟩),
   fun c wx hx=>ObK.op rfl (O.XZ (l:=1+s.G.toNat) (h:=1+s.G.toNat+s.P.toNat) runUnderlying30 sizeOf3 rfl rfl rfl ZB.ints (by omega) (by omega) ⟨⟨trivial,hx⟩,rfl⟩),
   fun c wx hx=>ObK.op rfl (O.move rfl ⟨⟨trivial,hx⟩,rfl⟩),
   fun c wx hx=>ObK.op rfl (O.move rfl ⟨⟨trivial,hx⟩,rfl⟩),
   fun c wx hx=>ObK.op rfl (O.ji (l:=1+s.G.toNat+s.P.toNat) runUnderlying30 sizeOf3 rfl rfl ZB.ints (by omega) ⟨⟨trivial,hx⟩,rfl⟩),
   fun c wx hx=>ObK.op rfl (O.fieldAddr runUnderlying51 rfl sizeOf9 rfl ⟨⟨trivial,hx⟩,rfl⟩),
   fun wx hx=>ObK.op rfl (O.bD sizeOf9 rfl rfl rfl hx.2 (show (0:Nat)<6 by decide) (fun ak0 Oo WG=>⟨⟨trivial,hx.next Oo WG rfl⟩,rfl⟩)),
   fun c wx hx=>ObK.op rfl (O.fieldAddr runUnderlying51 rfl sizeOf3 rfl ⟨⟨trivial,hx⟩,rfl⟩),
   fun wx hx=>ObK.op rfl (O.bD sizeOf3 rfl rfl rfl hx.2 (show (1:Nat)<6 by decide) (fun adV af4 af5=>⟨⟨trivial,hx.next af4 af5 rfl⟩,rfl⟩)),
   fun c wx hx=>ObK.op rfl (O.fieldAddr runUnderlying51 rfl sizeOf30 rfl ⟨⟨trivial,hx⟩,rfl⟩),
   fun wx hx=>ObK.op rfl (O.bD sizeOf30 (Sl.one hIg.ints) rfl rfl hx.2 (show (2:Nat)<6 by decide) (fun akI af6 Zj=>⟨⟨trivial,hx.next af6 Zj rfl⟩,rfl⟩)),
   fun c wx hx=>ObK.op rfl (O.fieldAddr runUnderlying51 rfl sizeOf30 rfl ⟨⟨trivial,hx⟩,rfl⟩),
   fun wx hx=>ObK.op rfl (O.bD sizeOf30 (Sl.one hIv.ints) rfl rfl hx.2 (show (3:Nat)<6 by decide) (fun afE af7 af8=>⟨⟨trivial,hx.next af7 af8 rfl⟩,rfl⟩)),
   trivial⟩ (fun w17 ald=>?_)
 obtain ⟨FK,ale⟩:=ald
 refine L.o (O.fieldAddr runUnderlying51 rfl sizeOf30 rfl (L.o (O.bD sizeOf30 (Sl.one hIq.ints) rfl rfl ale (show (4:Nat)<6 by decide) (fun SK acI JX=>?_))))
 obtain ⟨vU,hvU⟩:∃ vU:UnV,vU=⟨nm,xs.getD 0 0,pR 1 v75 1 (1+s.G.toNat),(xs.drop 1).take s.G.toNat,pR 1 v75 (1+s.G.toNat) (1+s.G.toNat+s.P.toNat),(xs.drop (1+s.G.toNat)).take s.P.toNat,pR 1 v75 (1+s.G.toNat+s.P.toNat) xs.length,xs.drop (1+s.G.toNat+s.P.toNat),vH r⟩:=⟨_,rfl⟩
 have af9:Blk SK b4 vU.cells 51:=by subst hvU;exact JX
 have BG:Ext w SK:=(FK.ext ZA (fun k e ↦ by cases e;omega)).upd acI (.inr (by omega))
 have WQ:=hK.ext BG
 have J7:Blk SK b (aH d s) 129:=WQ.row
 have hlt:∀ k,d.uv.ownBlock=some k→k<w.heap.size:=fun k e ↦ y7 hK.usr.1 e
 have hpb:d.uv.ownBlock≠some b:=fun e ↦ (hK.usr.2 b e).2.1 rfl
 have alf:d.uv.ownBlock≠some b4:=fun e ↦ by have:=hlt b4 e;omega
 have hone:∀ c∈vU.cells,c.oneCell'=true:=by
  subst hvU
  intro c hc
  simp only [UnV.cells,List.mem_cons,List.not_mem_nil,or_false] at hc
  rcases hc with rfl|rfl|rfl|rfl|rfl|rfl
  ·rfl
  ·rfl
  ·exact Sl.one hIg.ints
  ·exact Sl.one hIv.ints
  ·exact Sl.one hIq.ints
  rfl
 have hul:=hK.usl
 have Zu:=BG.size
 refine L.nil (?_)
 refine T.ac6 mixed 10 0 [0,4] rfl [.is _,.is _,.is _,.is _,.is _,.is _,.is _,.is _,.such (acH d.uv.ownBlock vU.cells),.such (fun _ _=>True)] [[],[],[1],[2],[3],[4],[5],[],[7],[6,8]] [none,none,none,none,none,none,none,none,none,none] [[],[],[1],[1,2],[1,2,3],[1,2,3,4],[1,2,3,4,5],[],[7],[1,2,3,4,5,6,7,8],[0,1,2,3,4,5,6,7,8,9],[0,1,2,3,4,5,6,7,8,9,10],[0,1,2,3,4,5,6,7,8,9,10,11],[0,1,2,3,4,5,6,7,8,9,10,11,12],[0,1,2,3,4,5,6,7,8,9,10,11,12,13]] (Iz SK d.uv.ownBlock 9 (JW d.uv.ownBlock w.heap.size 51 6 (d.us.length+1) (fF d.us++vU.cells))) (dI d.uv.ownBlock) (by kernel_rfl) (by kernel_rfl) (by kernel_rfl) rfl ⟨acH.st,fun _ _ _ _ _=>trivial,trivial⟩ (.inl ⟨rfl,Keep.drew _ _⟩) ⟨fun c σ wx hx hn hl=>ObG.op rfl (O.move rfl ⟨⟨dI.refl _ _,hx.nop (Keep.refl _ _) (fun _ g ↦ g) (by decide)⟩,rfl⟩),
   fun c σ wx hx hn hl=>ObG.op rfl (O.move rfl ⟨⟨dI.refl _ _,hx.nop (Keep.refl _ _) (fun _ g ↦ g) (by decide)⟩,rfl⟩),
   fun c σ wx hx hn hl=>ObG.op rfl (O.nilCheck rfl ⟨⟨dI.refl _ _,hx.nop (Keep.refl _ _) (fun _ g ↦ g) (by decide)⟩,rfl⟩),
   fun c σ wx hx hn hl=>ObG.op rfl (O.fieldAddr runUnderlying129 rfl sizeOf48 rfl ⟨⟨dI.refl _ _,hx.nop (Keep.refl _ _) (fun _ g ↦ g) (by decide)⟩,rfl⟩),
   fun c σ wx hx hn hl=>ObG.op rfl (O.fieldAddr runUnderlying48 rfl sizeOf25 rfl ⟨⟨dI.refl _ _,hx.nop (Keep.refl _ _) (fun _ g ↦ g) (by decide)⟩,rfl⟩),
   fun c σ wx hx hn hl=>ObG.op rfl (O.fieldAddr runUnderlying25 rfl sizeOf23 rfl ⟨⟨dI.refl _ _,hx.nop (Keep.refl _ _) (fun _ g ↦ g) (by decide)⟩,rfl⟩),
   fun c σ wx hx hn hl=>ObG.op rfl (O.load isAgg23 rfl ((hx.but.blk (cs:=aH d s) J7 hpb).cell rfl) ⟨⟨dI.refl _ _,hx.nop (Keep.refl _ _) (fun _ g ↦ g) (by decide)⟩,rfl⟩),
   fun c σ wx hx hn hl=>ObG.op rfl (O.ak isAgg51 sizeOf51 rfl rfl (Row.ay (hx.but.blk (cs:=vU.cells) af9 alf)) ⟨⟨dI.refl _ _,hx.nop (Keep.refl _ _) (fun _ g ↦ g) (by decide)⟩,rfl⟩),
   fun c σ wx hx hn hl=>ObG.op rfl (O.buildSlice (el:=51) (parts:=[(0,.tmp 125)]) (vs:=[(0,_)]) (cs:=vU.cells) rfl (fun w=>by kernel_rfl) (fun alg ank alh ali ZC aga=>⟨⟨dI.aV ZC,hx.nop ZC (fun _ g ↦ g.ext ZC) (by decide)⟩,alg,rfl,fun e=>by have:=hlt _ e;have:=hx.but.size;omega,aga⟩)),
   fun c σ wx hx hn alj acJ hl=>by { obtain ⟨bl,rfl,hbn,hBl⟩:=acJ;exact ObG.op rfl (O.xw (size:=6) (bytes:=104) runUnderlying23 Tryz.KC rfl rfl rfl rfl (by decide) rfl rfl (aG WQ.usr.1 (hx.Oi hn) (Nat.zero_le _)) rfl (Row.ay hBl) hone (by omega) (by simp only [maxLen];omega) (Nat.zero_le _) (fun v127 anl agb acK agc=>⟨⟨dI.jh acK,hx.app hn acK ⟨agb,fun k e=>(agc k e).imp id (fun h=>by have:=(hx.Oi hn).size;omega)⟩⟩,trivial⟩)) },
   trivial⟩ (fun anm w18 alk alj acJ v127 alm aln=>?_)
 obtain ⟨uT,aic⟩:=alk.done (aln 9 (by decide) _ _ rfl rfl).symm
 refine L.o (O.nilCheck rfl (L.o (O.fieldAddr runUnderlying129 rfl sizeOf48 rfl (L.o (O.fieldAddr runUnderlying48 rfl sizeOf25 rfl (L.o (O.fieldAddr runUnderlying25 rfl sizeOf23 rfl (L.o (O.bD sizeOf23 (Sl.one (Sl.aT aic.1)) rfl rfl (uT.blk (cs:=aH d s) J7 hpb) (show (5:Nat)<7 by decide) (fun acL TA agd=>?_))))))))))
 have agf:=aic.updB TA (uT.blk (cs:=aH d s) J7 hpb) (by decide)
 have agh:Ext w0 acL:=(uT.ext WQ.e (fun k e ↦ (hK.usr.2 k e).1)).upd TA (.inr hK.lo)
 have agi:w.heap.size≤acL.heap.size:=by have:=uT.size;have:=TA.size;omega
 have hkeep:∀ k,k<w.heap.size→k≠b→d.uv.ownBlock≠some k→acL.heap[k]?=w.heap[k]?:=fun k h1 h2 h3 ↦ (TA.block k h2).trans ((uT.block k (by omega) h3).trans (BG.block k (Nat.zero_le _) h1))
 have hst:∀ k cs,BK w.heap.size k→Blk w75 k cs 3→BK w.heap.size k∧Blk acL k cs 3:=fun k cs q B ↦ by
  have n1:k≠b4:=fun e=>J6 B aib (by decide) e
  have aie:=Blk.upd (FK.blk (Blk.ext B Ad) (fun e=>n1 (by cases e;rfl))) acI n1
  exact ⟨q,Blk.upd (uT.blk aie (nG WQ.usr.1 aie (by decide))) TA (fun e=>J6 B MG (by decide) e)⟩
 have hUn:UnO (BK w.heap.size) acL vU ⟨nm,xs.getD 0 0,(xs.drop 1).take s.G.toNat,(xs.drop (1+s.G.toNat)).take s.P.toNat,xs.drop (1+s.G.toNat+s.P.toNat),vH r⟩:=by
  subst hvU
  exact ⟨rfl,rfl,rfl,rfl,rfl,rfl,hIg.stay hst,hIv.stay hst,hIq.stay hst⟩
 refine L.nil (T.Po results123 ⟨⟨uAdd d vU v127,hK.Zz hkeep agh agi agd agf hUn⟩,fun k hk=>?_⟩)
 have hs:=hK.S k hk
 exact hkeep k hs.2.1 hs.2.2 (fun e=>(hK.usr.2 k e).2.2 hk)
theorem ZE (w0:World) (b lo:Nat) (s:PS) (S:Nat→Prop) (p:Value) (r:List Str) (w:World) (hI:RdI w0 b s S w) (hL0:jc w0) (hp:Strs lo w p r) (hs:∀ x∈r,x.length≤100000) (hr:r.length≤100000) (hu:um s r=none) :
  Calls Tryz.prog 123 #[.pointer (some ⟨b,0,none⟩),p] w (Pan (bQ) fun w'=>Ext w w'):=by
 obtain ⟨d,hK⟩:=hI
 refine T.fP (vs:=[.pointer (some ⟨b,0,none⟩),p]) func123 rfl ntmps123 rfl ?_
 refine T.q (L.o (O.build (v:=.agg (nJ false).toArray) (parts:=[]) (vs:=[]) rfl (fun w=>by kernel_rfl) (L.o (O.alloc zeroValue51 (fun b4 w4 hb4 hz4 he4 hB4=>?_)))))
 refine L.o (O.aC sizeOf51 rfl rfl rfl hB4 (Nat.le_refl _) (Hw false) (fun w9 hu9 hB9=>?_))
 replace hu9:Upd b4 w4 w9:=hu9
 have hU9:Blk w9 b4 (nJ false) 51:=hB9
 have he9:Ext w w9:=he4.upd hu9 (.inr (by omega))
 refine L.nil (T.seq (T.q (L.m rfl (L.o (O.len runUnderlying61 rfl (Sl.val hp) (L.o (O.gq rfl rfl (by omega) (L.a rfl (L.nil (T.seq (?_)))))))))))
 refine T.join (σ:=Unit) (fun _=>[(0,.pointer (some ⟨b,0,none⟩)),(1,p),(4,.pointer (some ⟨b4,0,none⟩)),(5,.int .i64 ((r.length:Int)-1)),(21,.bool (vH r))]) (fun _ w'=>w'=w9) ?_ ?_
 ·rcases Nat.lt_or_ge 1 r.length with h1|h1
  ·rw [show ((r.length:Int)-1)=((r.length-1:Nat):Int) by omega]
   refine T.region (L.m rfl (L.o (O.Cm rfl rfl (by omega) (L.m rfl (L.m rfl (L.m rfl (L.o (O.indexAddr runUnderlying61 sizeOf9 rfl rfl (hp.ext he9) (by omega) (by omega) (L.o (O.load isAgg9 rfl ((hp.ext he9).at (show r.length-1<r.length by omega)) (L.o (O.qx runUnderlying9 rfl rfl (fun h2=>?_) (fun h2=>?_)))))))))))))
   ·refine L.o (O.ah rfl rfl (L.nil (T.meet (()) ⟨rfl,rfl,rfl,rfl,?_,trivial⟩ rfl)))
    ·exact congrArg (fun z=>some (Value.bool z)) (by rw [vH,decide_eq_true h1,Bool.true_and];exact (decide_eq_true h2).symm)
   refine L.o (O.ah rfl rfl (L.nil (T.meet (()) ⟨rfl,rfl,rfl,rfl,?_,trivial⟩ rfl)))
   ·exact congrArg (fun z=>some (Value.bool z)) (by rw [vH,decide_eq_true h1,Bool.true_and];exact (decide_eq_false h2).symm)
  refine T.region (L.m rfl (L.o (O.zS rfl rfl (by omega) (L.m rfl (L.p (L.p (L.p (L.p (L.p (L.o (O.aj rfl rfl (L.nil (T.meet (()) ⟨rfl,rfl,rfl,rfl,?_,trivial⟩ rfl)))))))))))))
  ·exact congrArg (fun z=>some (Value.bool z)) (by rw [vH,decide_eq_false (by omega),Bool.false_and])
 rintro _ w10 rfl
 refine T.join (σ:=Unit) (fun _=>[(0,.pointer (some ⟨b,0,none⟩)),(1,vI p r),(4,.pointer (some ⟨b4,0,none⟩))]) (fun _ W=>Ext w W∧Blk W b4 (nJ (vH r)) 51) ?_ ?_
 ·rcases hwt:vH r with _|_
  ·refine T.cf (T.skip (T.meet (()) ⟨rfl,?_,rfl,trivial⟩ ⟨he9,hU9⟩))
   ·exact congrArg some (by rw [vI,hwt];rfl)
  have h1:1<r.length:=by unfold vH at hwt;simp only [Bool.and_eq_true,decide_eq_true_eq] at hwt;exact hwt.1
  rw [show ((r.length:Int)-1)=((r.length-1:Nat):Int) by omega]
  refine T.ct (?_)
  refine T.any mixed 5 1 [1,5,4] rfl [.is _,.is _,.is _,.is _,.is undef] [[],[],[0,1],[],[3]] [none,none,none,none,some 0] [[],[],[0,1],[],[3],[0,1,2,3,4]] (JV w10 b4 51 [nJ false,(nJ false).set 5 (.bool true)]) (fun _ _=>True) (by kernel_rfl) (by kernel_rfl) (by kernel_rfl) rfl trivial (JV.start hU9 (Keep.drew _ _)) ⟨fun c wx hx=>ObK.op rfl (O.move rfl ⟨⟨trivial,hx⟩,rfl⟩),
    fun c wx hx=>ObK.op rfl (O.move rfl ⟨⟨trivial,hx⟩,rfl⟩),
    fun c wx hx=>ObK.op rfl (O.O6 runUnderlying61 sizeOf9 rfl rfl (hp.ext (hx.1.ext he9 (fun k e ↦ by cases e;omega))) (by omega) ⟨⟨trivial,hx⟩,rfl⟩),
    fun c wx hx=>ObK.op rfl (O.fieldAddr runUnderlying51 rfl sizeOf4 rfl ⟨⟨trivial,hx⟩,rfl⟩),
    fun wx hx=>ObK.op rfl (O.bD sizeOf4 rfl rfl rfl hx.2 (show (5:Nat)<6 by decide) (fun w25 KR Dj=>⟨⟨trivial,hx.next KR Dj rfl⟩,rfl⟩)),
    trivial⟩ (fun w13 abk=>?_)
  obtain ⟨hB3,hR3⟩:=abk
  refine L.a rfl (L.nil (T.meet (()) ⟨rfl,?_,rfl,trivial⟩ ⟨hB3.ext he9 (fun k e ↦ by cases e;omega),hR3⟩))
  ·exact congrArg some (by rw [vI,hwt];rfl)
 rintro _ w11 ⟨eH,aap⟩
 have aau:=hK.ext eH
 have fU:Blk w11 b (aH d s) 129:=aau.row
 have hws:=MF hp
 have af2:=hL0.ext aau.e
 have hbig:=hK.big
 have hql:=BP r
 rcases Ov hu with h3|⟨⟨g1,g2,g3⟩,h4⟩|⟨⟨g1,g2,g3⟩,h4,nm,ws,hq,hnum⟩
 ·refine T.seq (?_)
  refine T.fJ mixed 44 [0,1] rfl (.is _ :: .is _ :: .is _ :: .is _ :: .is _ :: .is _ :: .is _ :: .is _ :: .is _ :: .is _ :: .is _ :: .is _ :: .is _ :: .is _ :: .is _ :: .is _ :: .is _ :: .is _ :: .is _ :: .is _ :: .is _ :: .is undef :: .is undef :: .is undef :: .is undef :: .is undef :: .is undef :: .is undef :: .is undef :: .is undef :: .is undef :: .is undef :: .is undef :: .is undef :: .is undef :: .is undef :: .is undef :: .is undef :: .is undef :: .is undef :: .is undef :: .is undef :: .is undef :: .is undef :: []) ([] :: [0] :: [1] :: [2] :: [3] :: [4] :: [] :: [6] :: [7] :: [8] :: [9] :: [10] :: [] :: [12] :: [13] :: [14] :: [15] :: [16] :: [5,11,17] :: [18] :: [19] :: [20] :: [21,20] :: [20] :: [23,20] :: [24,20] :: [25,20] :: [26,20] :: [27,20] :: [28,20] :: [20] :: [30,20] :: [31,20] :: [32,20] :: [33,20] :: [34,20] :: [29,35,20] :: [20] :: [37,20] :: [38,20] :: [39,20] :: [40,20] :: [41,20] :: [36,42,20] :: []) ([] :: [0] :: [0,1] :: [0,1,2] :: [0,1,2,3] :: [0,1,2,3,4] :: [] :: [6] :: [6,7] :: [6,7,8] :: [6,7,8,9] :: [6,7,8,9,10] :: [] :: [12] :: [12,13] :: [12,13,14] :: [12,13,14,15] :: [12,13,14,15,16] :: [0,1,2,3,4,5,6,7,8,9,10,11,12,13,14,15,16,17] :: [0,1,2,3,4,5,6,7,8,9,10,11,12,13,14,15,16,17,18] :: [0,1,2,3,4,5,6,7,8,9,10,11,12,13,14,15,16,17,18,19] :: [0,1,2,3,4,5,6,7,8,9,10,11,12,13,14,15,16,17,18,19,20] :: [0,1,2,3,4,5,6,7,8,9,10,11,12,13,14,15,16,17,18,19,20,21] :: [0,1,2,3,4,5,6,7,8,9,10,11,12,13,14,15,16,17,18,19,20] :: [0,1,2,3,4,5,6,7,8,9,10,11,12,13,14,15,16,17,18,19,20,23] :: [0,1,2,3,4,5,6,7,8,9,10,11,12,13,14,15,16,17,18,19,20,23,24] :: [0,1,2,3,4,5,6,7,8,9,10,11,12,13,14,15,16,17,18,19,20,23,24,25] :: [0,1,2,3,4,5,6,7,8,9,10,11,12,13,14,15,16,17,18,19,20,23,24,25,26] :: [0,1,2,3,4,5,6,7,8,9,10,11,12,13,14,15,16,17,18,19,20,23,24,25,26,27] :: [0,1,2,3,4,5,6,7,8,9,10,11,12,13,14,15,16,17,18,19,20,23,24,25,26,27,28] :: [0,1,2,3,4,5,6,7,8,9,10,11,12,13,14,15,16,17,18,19,20] :: [0,1,2,3,4,5,6,7,8,9,10,11,12,13,14,15,16,17,18,19,20,30] :: [0,1,2,3,4,5,6,7,8,9,10,11,12,13,14,15,16,17,18,19,20,30,31] :: [0,1,2,3,4,5,6,7,8,9,10,11,12,13,14,15,16,17,18,19,20,30,31,32] :: [0,1,2,3,4,5,6,7,8,9,10,11,12,13,14,15,16,17,18,19,20,30,31,32,33] :: [0,1,2,3,4,5,6,7,8,9,10,11,12,13,14,15,16,17,18,19,20,30,31,32,33,34]::(0::1::2::3::4::5::6::7::8::9::10::11::12::13::14::15::16::17::18::19::20::23::24::25::26::27::28::29::30::31::32::33::34::35 :: []) :: [0,1,2,3,4,5,6,7,8,9,10,11,12,13,14,15,16,17,18,19,20] :: [0,1,2,3,4,5,6,7,8,9,10,11,12,13,14,15,16,17,18,19,20,37] :: [0,1,2,3,4,5,6,7,8,9,10,11,12,13,14,15,16,17,18,19,20,37,38] :: [0,1,2,3,4,5,6,7,8,9,10,11,12,13,14,15,16,17,18,19,20,37,38,39] :: [0,1,2,3,4,5,6,7,8,9,10,11,12,13,14,15,16,17,18,19,20,37,38,39,40] :: [0,1,2,3,4,5,6,7,8,9,10,11,12,13,14,15,16,17,18,19,20,37,38,39,40,41]::(0::1::2::3::4::5::6::7::8::9::10::11::12::13::14::15::16::17::18::19::20::23::24::25::26::27::28::29::30::31::32::33::34::35::36::37::38::39::40::41::42 :: [])::(0::1::2::3::4::5::6::7::8::9::10::11::12::13::14::15::16::17::18::19::20::21::22::23::24::25::26::27::28::29::30::31::32::33::34::35::36::37::38::39::40::41::42::43 :: [])::(0::1::2::3::4::5::6::7::8::9::10::11::12::13::14::15::16::17::18::19::20::21::22::23::24::25::26::27::28::29::30::31::32::33::34::35::36::37::38::39::40::41::42::43::44 :: [])::(0::1::2::3::4::5::6::7::8::9::10::11::12::13::14::15::16::17::18::19::20::21::22::23::24::25::26::27::28::29::30::31::32::33::34::35::36::37::38::39::40::41::42::43::44::45 :: []) :: []) (by kernel_rfl) (by kernel_rfl) rfl (by kernel_rfl) trivial ⟨fun wx hx=>Ob.o (O.move rfl kR),
    fun wx hx=>Ob.o (O.nilCheck rfl kR),
    fun wx hx=>Ob.o (O.fieldAddr runUnderlying129 rfl sizeOf48 rfl kR),
    fun wx hx=>Ob.o (O.fieldAddr runUnderlying48 rfl sizeOf25 rfl kR),
    fun wx hx=>Ob.o (O.fieldAddr runUnderlying25 rfl sizeOf3 rfl kR),
    fun wx hx=>Ob.o (O.load isAgg3 rfl ((Blk.ext fU hx).cell rfl) kR),
    fun wx hx=>Ob.o (O.move rfl kR),
    fun wx hx=>Ob.o (O.nilCheck rfl kR),
    fun wx hx=>Ob.o (O.fieldAddr runUnderlying129 rfl sizeOf48 rfl kR),
    fun wx hx=>Ob.o (O.fieldAddr runUnderlying48 rfl sizeOf25 rfl kR),
    fun wx hx=>Ob.o (O.fieldAddr runUnderlying25 rfl sizeOf3 rfl kR),
    fun wx hx=>Ob.o (O.load isAgg3 rfl ((Blk.ext fU hx).cell rfl) kR),
    fun wx hx=>Ob.o (O.move rfl kR),
    fun wx hx=>Ob.o (O.nilCheck rfl kR),
    fun wx hx=>Ob.o (O.fieldAddr runUnderlying129 rfl sizeOf48 rfl kR),
    fun wx hx=>Ob.o (O.fieldAddr runUnderlying48 rfl sizeOf25 rfl kR),
    fun wx hx=>Ob.o (O.fieldAddr runUnderlying25 rfl sizeOf3 rfl kR),
    fun wx hx=>Ob.o (O.load isAgg3 rfl ((Blk.ext fU hx).cell rfl) kR),
    fun wx hx=>Ob.o (O.adU rfl rfl rfl kR),
    fun wx hx=>Ob.o (O.Pq rfl rfl (fun h=>h3 ⟨(zx.1 (zx.1 h).1).1,(zx.1 (zx.1 h).1).2,(zx.1 h).2⟩) kR),
    fun wx hx=>Ob.o (O.move rfl kR),
    fun wx hx=>Ob.pass rfl rfl,
    fun wx hx=>Ob.pass rfl rfl,
    fun wx hx=>Ob.pass rfl rfl,
    fun wx hx=>Ob.pass rfl rfl,
    fun wx hx=>Ob.pass rfl rfl,
    fun wx hx=>Ob.pass rfl rfl,
    fun wx hx=>Ob.pass rfl rfl,
    fun wx hx=>Ob.pass rfl rfl,
    fun wx hx=>Ob.pass rfl rfl,
    fun wx hx=>Ob.pass rfl rfl,
    fun wx hx=>Ob.pass rfl rfl,
    fun wx hx=>Ob.pass rfl rfl,
    fun wx hx=>Ob.pass rfl rfl,
    fun wx hx=>Ob.pass rfl rfl,
    fun wx hx=>Ob.pass rfl rfl,
    fun wx hx=>Ob.pass rfl rfl,
    fun wx hx=>Ob.pass rfl rfl,
    fun wx hx=>Ob.pass rfl rfl,
    fun wx hx=>Ob.pass rfl rfl,
    fun wx hx=>Ob.pass rfl rfl,
    fun wx hx=>Ob.pass rfl rfl,
    fun wx hx=>Ob.pass rfl rfl,
    fun wx hx=>Ob.pass rfl rfl,
    trivial⟩ (fun w14 eX=>?_)
  refine L.p (L.o (O.aj rfl rfl (L.bJ (xs:=[.tmp 71]) rfl call108 rfl rfl (dG w14) (fun w' a hR ha=>⟨ha.defers,rfl,by rw [hR];exact eH.trans eX⟩))))
 ·refine T.seq (?_)
  refine T.fJ mixed 44 [0,1] rfl (.is _ :: .is _ :: .is _ :: .is _ :: .is _ :: .is _ :: .is _ :: .is _ :: .is _ :: .is _ :: .is _ :: .is _ :: .is _ :: .is _ :: .is _ :: .is _ :: .is _ :: .is _ :: .is _ :: .is _ :: .is _ :: .is _ :: .is _ :: .is _ :: .is _ :: .is _ :: .is _ :: .is _ :: .is _ :: .is _ :: .is _ :: .is _ :: .is _ :: .is _ :: .is _ :: .is _ :: .is _ :: .is _ :: .is _ :: .is _ :: .is _ :: .is _ :: .is _ :: .is _ :: []) ([] :: [0] :: [1] :: [2] :: [3] :: [4] :: [] :: [6] :: [7] :: [8] :: [9] :: [10] :: [] :: [12] :: [13] :: [14] :: [15] :: [16] :: [5,11,17] :: [18] :: [19] :: [20] :: [21,20] :: [20] :: [23,20] :: [24,20] :: [25,20] :: [26,20] :: [27,20] :: [28,20] :: [20] :: [30,20] :: [31,20] :: [32,20] :: [33,20] :: [34,20] :: [29,35,20] :: [20] :: [37,20] :: [38,20] :: [39,20] :: [40,20] :: [41,20] :: [36,42,20] :: []) ([] :: [0] :: [0,1] :: [0,1,2] :: [0,1,2,3] :: [0,1,2,3,4] :: [] :: [6] :: [6,7] :: [6,7,8] :: [6,7,8,9] :: [6,7,8,9,10] :: [] :: [12] :: [12,13] :: [12,13,14] :: [12,13,14,15] :: [12,13,14,15,16] :: [0,1,2,3,4,5,6,7,8,9,10,11,12,13,14,15,16,17] :: [0,1,2,3,4,5,6,7,8,9,10,11,12,13,14,15,16,17,18] :: [0,1,2,3,4,5,6,7,8,9,10,11,12,13,14,15,16,17,18,19] :: [0,1,2,3,4,5,6,7,8,9,10,11,12,13,14,15,16,17,18,19,20] :: [0,1,2,3,4,5,6,7,8,9,10,11,12,13,14,15,16,17,18,19,20,21] :: [0,1,2,3,4,5,6,7,8,9,10,11,12,13,14,15,16,17,18,19,20] :: [0,1,2,3,4,5,6,7,8,9,10,11,12,13,14,15,16,17,18,19,20,23] :: [0,1,2,3,4,5,6,7,8,9,10,11,12,13,14,15,16,17,18,19,20,23,24] :: [0,1,2,3,4,5,6,7,8,9,10,11,12,13,14,15,16,17,18,19,20,23,24,25] :: [0,1,2,3,4,5,6,7,8,9,10,11,12,13,14,15,16,17,18,19,20,23,24,25,26] :: [0,1,2,3,4,5,6,7,8,9,10,11,12,13,14,15,16,17,18,19,20,23,24,25,26,27] :: [0,1,2,3,4,5,6,7,8,9,10,11,12,13,14,15,16,17,18,19,20,23,24,25,26,27,28] :: [0,1,2,3,4,5,6,7,8,9,10,11,12,13,14,15,16,17,18,19,20] :: [0,1,2,3,4,5,6,7,8,9,10,11,12,13,14,15,16,17,18,19,20,30] :: [0,1,2,3,4,5,6,7,8,9,10,11,12,13,14,15,16,17,18,19,20,30,31] :: [0,1,2,3,4,5,6,7,8,9,10,11,12,13,14,15,16,17,18,19,20,30,31,32] :: [0,1,2,3,4,5,6,7,8,9,10,11,12,13,14,15,16,17,18,19,20,30,31,32,33] :: [0,1,2,3,4,5,6,7,8,9,10,11,12,13,14,15,16,17,18,19,20,30,31,32,33,34]::(0::1::2::3::4::5::6::7::8::9::10::11::12::13::14::15::16::17::18::19::20::23::24::25::26::27::28::29::30::31::32::33::34::35 :: []) :: [0,1,2,3,4,5,6,7,8,9,10,11,12,13,14,15,16,17,18,19,20] :: [0,1,2,3,4,5,6,7,8,9,10,11,12,13,14,15,16,17,18,19,20,37] :: [0,1,2,3,4,5,6,7,8,9,10,11,12,13,14,15,16,17,18,19,20,37,38] :: [0,1,2,3,4,5,6,7,8,9,10,11,12,13,14,15,16,17,18,19,20,37,38,39] :: [0,1,2,3,4,5,6,7,8,9,10,11,12,13,14,15,16,17,18,19,20,37,38,39,40] :: [0,1,2,3,4,5,6,7,8,9,10,11,12,13,14,15,16,17,18,19,20,37,38,39,40,41]::(0::1::2::3::4::5::6::7::8::9::10::11::12::13::14::15::16::17::18::19::20::23::24::25::26::27::28::29::30::31::32::33::34::35::36::37::38::39::40::41::42 :: [])::(0::1::2::3::4::5::6::7::8::9::10::11::12::13::14::15::16::17::18::19::20::21::22::23::24::25::26::27::28::29::30::31::32::33::34::35::36::37::38::39::40::41::42::43 :: [])::(0::1::2::3::4::5::6::7::8::9::10::11::12::13::14::15::16::17::18::19::20::21::22::23::24::25::26::27::28::29::30::31::32::33::34::35::36::37::38::39::40::41::42::43::44 :: [])::(0::1::2::3::4::5::6::7::8::9::10::11::12::13::14::15::16::17::18::19::20::21::22::23::24::25::26::27::28::29::30::31::32::33::34::35::36::37::38::39::40::41::42::43::44::45 :: []) :: []) (by kernel_rfl) (by kernel_rfl) rfl (by kernel_rfl) trivial ⟨fun wx hx=>Ob.o (O.move rfl kR),
    fun wx hx=>Ob.o (O.nilCheck rfl kR),
    fun wx hx=>Ob.o (O.fieldAddr runUnderlying129 rfl sizeOf48 rfl kR),
    fun wx hx=>Ob.o (O.fieldAddr runUnderlying48 rfl sizeOf25 rfl kR),
    fun wx hx=>Ob.o (O.fieldAddr runUnderlying25 rfl sizeOf3 rfl kR),
    fun wx hx=>Ob.o (O.load isAgg3 rfl ((Blk.ext fU hx).cell rfl) kR),
    fun wx hx=>Ob.o (O.move rfl kR),
    fun wx hx=>Ob.o (O.nilCheck rfl kR),
    fun wx hx=>Ob.o (O.fieldAddr runUnderlying129 rfl sizeOf48 rfl kR),
    fun wx hx=>Ob.o (O.fieldAddr runUnderlying48 rfl sizeOf25 rfl kR),
    fun wx hx=>Ob.o (O.fieldAddr runUnderlying25 rfl sizeOf3 rfl kR),
    fun wx hx=>Ob.o (O.load isAgg3 rfl ((Blk.ext fU hx).cell rfl) kR),
    fun wx hx=>Ob.o (O.move rfl kR),
    fun wx hx=>Ob.o (O.nilCheck rfl kR),
    fun wx hx=>Ob.o (O.fieldAddr runUnderlying129 rfl sizeOf48 rfl kR),
    fun wx hx=>Ob.o (O.fieldAddr runUnderlying48 rfl sizeOf25 rfl kR),
    fun wx hx=>Ob.o (O.fieldAddr runUnderlying25 rfl sizeOf3 rfl kR),
    fun wx hx=>Ob.o (O.load isAgg3 rfl ((Blk.ext fU hx).cell rfl) kR),
    fun wx hx=>Ob.o (O.adU rfl rfl rfl kR),
    fun wx hx=>Ob.o (O.IE rfl rfl (zx.2 ⟨zx.2 ⟨g1,g2⟩,g3⟩) kR),
    fun wx hx=>Ob.o (O.move rfl kR),
    fun wx hx=>Ob.o (O.move rfl kR),
    fun wx hx=>Ob.o (O.len runUnderlying61 rfl (Sl.val (hws.ext (eH.trans hx))) kR),
    fun wx hx=>Ob.o (O.move rfl kR),
    fun wx hx=>Ob.o (O.nilCheck rfl kR),
    fun wx hx=>Ob.o (O.fieldAddr runUnderlying129 rfl sizeOf48 rfl kR),
    fun wx hx=>Ob.o (O.fieldAddr runUnderlying48 rfl sizeOf25 rfl kR),
    fun wx hx=>Ob.o (O.fieldAddr runUnderlying25 rfl sizeOf3 rfl kR),
    fun wx hx=>Ob.o (O.load isAgg3 rfl ((Blk.ext fU hx).cell rfl) kR),
    fun wx hx=>Ob.o (O.aI rfl rfl (by omega) kR),
    fun wx hx=>Ob.o (O.move rfl kR),
    fun wx hx=>Ob.o (O.nilCheck rfl kR),
    fun wx hx=>Ob.o (O.fieldAddr runUnderlying129 rfl sizeOf48 rfl kR),
    fun wx hx=>Ob.o (O.fieldAddr runUnderlying48 rfl sizeOf25 rfl kR),
    fun wx hx=>Ob.o (O.fieldAddr runUnderlying25 rfl sizeOf3 rfl kR),
    fun wx hx=>Ob.o (O.load isAgg3 rfl ((Blk.ext fU hx).cell rfl) kR),
    fun wx hx=>Ob.o (O.aI rfl rfl (by omega) kR),
    fun wx hx=>Ob.o (O.move rfl kR),
    fun wx hx=>Ob.o (O.nilCheck rfl kR),
    fun wx hx=>Ob.o (O.fieldAddr runUnderlying129 rfl sizeOf48 rfl kR),
    fun wx hx=>Ob.o (O.fieldAddr runUnderlying48 rfl sizeOf25 rfl kR),
    fun wx hx=>Ob.o (O.fieldAddr runUnderlying25 rfl sizeOf3 rfl kR),
    fun wx hx=>Ob.o (O.load isAgg3 rfl ((Blk.ext fU hx).cell rfl) kR),
    fun wx hx=>Ob.o (O.aI rfl rfl (by omega) kR),
    trivial⟩ (fun w14 eX=>?_)
  refine L.o (O.gX rfl rfl h4 (L.o (O.ah rfl rfl (L.bJ (xs:=[.tmp 71]) rfl call108 rfl rfl (dG w14) (fun w' a hR ha=>⟨ha.defers,rfl,by rw [hR];exact eH.trans eX⟩)))))
 refine T.seq (?_)
 refine T.fJ mixed 44 [0,1] rfl (.is _ :: .is _ :: .is _ :: .is _ :: .is _ :: .is _ :: .is _ :: .is _ :: .is _ :: .is _ :: .is _ :: .is _ :: .is _ :: .is _ :: .is _ :: .is _ :: .is _ :: .is _ :: .is _ :: .is _ :: .is _ :: .is _ :: .is _ :: .is _ :: .is _ :: .is _ :: .is _ :: .is _ :: .is _ :: .is _ :: .is _ :: .is _ :: .is _ :: .is _ :: .is _ :: .is _ :: .is _ :: .is _ :: .is _ :: .is _ :: .is _ :: .is _ :: .is _ :: .is _ :: []) ([] :: [0] :: [1] :: [2] :: [3] :: [4] :: [] :: [6] :: [7] :: [8] :: [9] :: [10] :: [] :: [12] :: [13] :: [14] :: [15] :: [16] :: [5,11,17] :: [18] :: [19] :: [20] :: [21,20] :: [20] :: [23,20] :: [24,20] :: [25,20] :: [26,20] :: [27,20] :: [28,20] :: [20] :: [30,20] :: [31,20] :: [32,20] :: [33,20] :: [34,20] :: [29,35,20] :: [20] :: [37,20] :: [38,20] :: [39,20] :: [40,20] :: [41,20] :: [36,42,20] :: []) ([] :: [0] :: [0,1] :: [0,1,2] :: [0,1,2,3] :: [0,1,2,3,4] :: [] :: [6] :: [6,7] :: [6,7,8] :: [6,7,8,9] :: [6,7,8,9,10] :: [] :: [12] :: [12,13] :: [12,13,14] :: [12,13,14,15] :: [12,13,14,15,16] :: [0,1,2,3,4,5,6,7,8,9,10,11,12,13,14,15,16,17] :: [0,1,2,3,4,5,6,7,8,9,10,11,12,13,14,15,16,17,18] :: [0,1,2,3,4,5,6,7,8,9,10,11,12,13,14,15,16,17,18,19] :: [0,1,2,3,4,5,6,7,8,9,10,11,12,13,14,15,16,17,18,19,20] :: [0,1,2,3,4,5,6,7,8,9,10,11,12,13,14,15,16,17,18,19,20,21] :: [0,1,2,3,4,5,6,7,8,9,10,11,12,13,14,15,16,17,18,19,20] :: [0,1,2,3,4,5,6,7,8,9,10,11,12,13,14,15,16,17,18,19,20,23] :: [0,1,2,3,4,5,6,7,8,9,10,11,12,13,14,15,16,17,18,19,20,23,24] :: [0,1,2,3,4,5,6,7,8,9,10,11,12,13,14,15,16,17,18,19,20,23,24,25] :: [0,1,2,3,4,5,6,7,8,9,10,11,12,13,14,15,16,17,18,19,20,23,24,25,26] :: [0,1,2,3,4,5,6,7,8,9,10,11,12,13,14,15,16,17,18,19,20,23,24,25,26,27] :: [0,1,2,3,4,5,6,7,8,9,10,11,12,13,14,15,16,17,18,19,20,23,24,25,26,27,28] :: [0,1,2,3,4,5,6,7,8,9,10,11,12,13,14,15,16,17,18,19,20] :: [0,1,2,3,4,5,6,7,8,9,10,11,12,13,14,15,16,17,18,19,20,30] :: [0,1,2,3,4,5,6,7,8,9,10,11,12,13,14,15,16,17,18,19,20,30,31] :: [0,1,2,3,4,5,6,7,8,9,10,11,12,13,14,15,16,17,18,19,20,30,31,32] :: [0,1,2,3,4,5,6,7,8,9,10,11,12,13,14,15,16,17,18,19,20,30,31,32,33] :: [0,1,2,3,4,5,6,7,8,9,10,11,12,13,14,15,16,17,18,19,20,30,31,32,33,34]::(0::1::2::3::4::5::6::7::8::9::10::11::12::13::14::15::16::17::18::19::20::23::24::25::26::27::28::29::30::31::32::33::34::35 :: []) :: [0,1,2,3,4,5,6,7,8,9,10,11,12,13,14,15,16,17,18,19,20] :: [0,1,2,3,4,5,6,7,8,9,10,11,12,13,14,15,16,17,18,19,20,37] :: [0,1,2,3,4,5,6,7,8,9,10,11,12,13,14,15,16,17,18,19,20,37,38] :: [0,1,2,3,4,5,6,7,8,9,10,11,12,13,14,15,16,17,18,19,20,37,38,39] :: [0,1,2,3,4,5,6,7,8,9,10,11,12,13,14,15,16,17,18,19,20,37,38,39,40] :: [0,1,2,3,4,5,6,7,8,9,10,11,12,13,14,15,16,17,18,19,20,37,38,39,40,41]::(0::1::2::3::4::5::6::7::8::9::10::11::12::13::14::15::16::17::18::19::20::23::24::25::26::27::28::29::30::31::32::33::34::35::36::37::38::39::40::41::42 :: [])::(0::1::2::3::4::5::6::7::8::9::10::11::12::13::14::15::16::17::18::19::20::21::22::23::24::25::26::27::28::29::30::31::32::33::34::35::36::37::38::39::40::41::42::43 :: [])::(0::1::2::3::4::5::6::7::8::9::10::11::12::13::14::15::16::17::18::19::20::21::22::23::24::25::26::27::28::29::30::31::32::33::34::35::36::37::38::39::40::41::42::43::44 :: [])::(0::1::2::3::4::5::6::7::8::9::10::11::12::13::14::15::16::17::18::19::20::21::22::23::24::25::26::27::28::29::30::31::32::33::34::35::36::37::38::39::40::41::42::43::44::45 :: []) :: []) (by kernel_rfl) (by kernel_rfl) rfl (by kernel_rfl) trivial ⟨fun wx hx=>Ob.o (O.move rfl kR),
   fun wx hx=>Ob.o (O.nilCheck rfl kR),
   fun wx hx=>Ob.o (O.fieldAddr runUnderlying129 rfl sizeOf48 rfl kR),
   fun wx hx=>Ob.o (O.fieldAddr runUnderlying48 rfl sizeOf25 rfl kR),
   fun wx hx=>Ob.o (O.fieldAddr runUnderlying25 rfl sizeOf3 rfl kR),
   fun wx hx=>Ob.o (O.load isAgg3 rfl ((Blk.ext fU hx).cell rfl) kR),
   fun wx hx=>Ob.o (O.move rfl kR),
   fun wx hx=>Ob.o (O.nilCheck rfl kR),
   fun wx hx=>Ob.o (O.fieldAddr runUnderlying129 rfl sizeOf48 rfl kR),
   fun wx hx=>Ob.o (O.fieldAddr runUnderlying48 rfl sizeOf25 rfl kR),
   fun wx hx=>Ob.o (O.fieldAddr runUnderlying25 rfl sizeOf3 rfl kR),
   fun wx hx=>Ob.o (O.load isAgg3 rfl ((Blk.ext fU hx).cell rfl) kR),
   fun wx hx=>Ob.o (O.move rfl kR),
   fun wx hx=>Ob.o (O.nilCheck rfl kR),
   fun wx hx=>Ob.o (O.fieldAddr runUnderlying129 rfl sizeOf48 rfl kR),
   fun wx hx=>Ob.o (O.fieldAddr runUnderlying48 rfl sizeOf25 rfl kR),
   fun wx hx=>Ob.o (O.fieldAddr runUnderlying25 rfl sizeOf3 rfl kR),
   fun wx hx=>Ob.o (O.load isAgg3 rfl ((Blk.ext fU hx).cell rfl) kR),
   fun wx hx=>Ob.o (O.adU rfl rfl rfl kR),
   fun wx hx=>Ob.o (O.IE rfl rfl (zx.2 ⟨zx.2 ⟨g1,g2⟩,g3⟩) kR),
   fun wx hx=>Ob.o (O.move rfl kR),
   fun wx hx=>Ob.o (O.move rfl kR),
   fun wx hx=>Ob.o (O.len runUnderlying61 rfl (Sl.val (hws.ext (eH.trans hx))) kR),
   fun wx hx=>Ob.o (O.move rfl kR),
   fun wx hx=>Ob.o (O.nilCheck rfl kR),
   fun wx hx=>Ob.o (O.fieldAddr runUnderlying129 rfl sizeOf48 rfl kR),
   fun wx hx=>Ob.o (O.fieldAddr runUnderlying48 rfl sizeOf25 rfl kR),
   fun wx hx=>Ob.o (O.fieldAddr runUnderlying25 rfl sizeOf3 rfl kR),
   fun wx hx=>Ob.o (O.load isAgg3 rfl ((Blk.ext fU hx).cell rfl) kR),
   fun wx hx=>Ob.o (O.aI rfl rfl (by omega) kR),
   fun wx hx=>Ob.o (O.move rfl kR),
   fun wx hx=>Ob.o (O.nilCheck rfl kR),
   fun wx hx=>Ob.o (O.fieldAddr runUnderlying129 rfl sizeOf48 rfl kR),
   fun wx hx=>Ob.o (O.fieldAddr runUnderlying48 rfl sizeOf25 rfl kR),
   fun wx hx=>Ob.o (O.fieldAddr runUnderlying25 rfl sizeOf3 rfl kR),
   fun wx hx=>Ob.o (O.load isAgg3 rfl ((Blk.ext fU hx).cell rfl) kR),
   fun wx hx=>Ob.o (O.aI rfl rfl (by omega) kR),
   fun wx hx=>Ob.o (O.move rfl kR),
   fun wx hx=>Ob.o (O.nilCheck rfl kR),
   fun wx hx=>Ob.o (O.fieldAddr runUnderlying129 rfl sizeOf48 rfl kR),
   fun wx hx=>Ob.o (O.fieldAddr runUnderlying48 rfl sizeOf25 rfl kR),
   fun wx hx=>Ob.o (O.fieldAddr runUnderlying25 rfl sizeOf3 rfl kR),
   fun wx hx=>Ob.o (O.load isAgg3 rfl ((Blk.ext fU hx).cell rfl) kR),
   fun wx hx=>Ob.o (O.aI rfl rfl (by omega) kR),
   trivial⟩ (fun w14 eX=>?_)
 refine L.o (O.iF rfl rfl h4 (L.o (O.ah rfl rfl (L.o (O.call (xs:=[.tmp 71]) call108 rfl rfl (dK w14) (fun v72 w72 hq=>?_))))))
 obtain rfl:=hq
 rw [hq] at hws hql
 simp only [List.length_cons] at hql
 refine L.nil (T.q (L.m rfl (L.o (O.ji (l:=1) runUnderlying61 sizeOf9 rfl rfl hws (by simp) (L.bJ (xs:=[.tmp 74]) rfl call122 rfl rfl (kQ lo _ ws w72 ((Tz hws).ext (eH.trans eX)) (af2.ext eX) (fun x hx ↦ hs x (uq x (by rw [hq];exact List.mem_cons_of_mem _ hx))) hnum (by omega)) (fun w' a hR ha=>⟨ha.defers,rfl,(eH.trans eX).trans hR⟩))))))
open Go Go.E RowKit
theorem uw:∀ (s cur:Str),(bH cur s).length≤s.length+(if cur = [] then 0 else 1)
 | [],cur=>by
  unfold bH
  split <;> simp
 | c::r,cur=>by
  have h1:=uw r []
  have h2:=uw r (cur ++ [c])
  rw [if_pos rfl] at h1
  rw [if_neg (by simp)] at h2
  unfold bH
  split
  ·split
   ·simp only [List.length_cons];omega
   simp only [List.length_cons];omega
  simp only [List.length_cons];omega
theorem oN {l:Str} {k:Str} {r:List Str} (hl:l.length≤100000) (hf:fieldsB l=k::r):r.length≤100000:=by
 have:=uw l []
 rw [← BL,hf,if_pos rfl] at this
 simp only [List.length_cons] at this
 omega
theorem TB (w0:World) (b:Nat) (s:PS) (S:Nat→Prop) (l:Str) (r:List Str) (u:PU) (w:World) (hI:RdI w0 b s S w) (hL0:jc w0) (hll:l.length≤100000) (hf:fieldsB l=bK::r) (hlast:s.last ∉ [[],fA]) (hu:um s r=some u) (hc:s.us.length≤100000) :
  Calls Tryz.prog 67 #[.pointer (some ⟨b,0,none⟩),str l] w (Ret fun v w'=>RdI w0 b { Hu s u with last:=bK } S w'∧∀ k,S k→w'.heap[k]?=w.heap[k]?):=by
 refine T.enter (vs:=[.pointer (some ⟨b,0,none⟩),str l]) func67 rfl ntmps67 rfl ?_
 refine T.q (L.m rfl (L.o (O.call (xs:=[.tmp 10,.func 121]) call120 rfl rfl (aP l w hll) (fun v1 w1 hq=>?_))))
 obtain ⟨A,rfl,hS1,he1⟩:=hq
 obtain ⟨d,hK⟩:=hI
 have hK1:=hK.ext he1
 rw [hf]
 rw [hf] at hS1
 refine L.a rfl (L.nil (T.seq (T.q (L.m rfl (L.o (O.len runUnderlying61 rfl (Sl.val hS1) (L.o (O.gX rfl rfl (by simp;omega) (L.nil (T.cf (T.skip (T.seq (?_)))))))))))))
 refine T.fJ mixed 6 [4] rfl [.is _,.is _,.is _,.is _,.is _,.is _] [[],[0],[1],[],[3],[2]] [[],[0],[0,1],[],[3],[0,1,2],[0,1,2,3,4,5]] (by kernel_rfl) (by kernel_rfl) rfl (by kernel_rfl) trivial ⟨fun wx hx=>Ob.o (O.move rfl kR),
   fun wx hx=>Ob.o (O.indexAddr runUnderlying61 sizeOf9 rfl rfl (hS1.ext hx) (by decide) (by simp) kR),
   fun wx hx=>Ob.o (O.load isAgg9 rfl ((hS1.ext hx).at (show 0<(bK::r).length by simp)) kR),
   fun wx hx=>Ob.o (O.move rfl kR),
   fun wx hx=>Ob.o (O.ji (l:=1) runUnderlying61 sizeOf9 rfl rfl hS1 (by simp) kR),
   fun wx hx=>Ob.o (O.assign rfl kR),
   trivial⟩ (fun w2 he2=>?_)
 have hR2:=bC (hS1.ext he2) rfl
 refine L.a rfl (L.nil (T.seq (T.q (L.m rfl (L.nil (T.block (T.q (L.o (O.aA runUnderlying9 rfl rfl (show ¬ bK=bn by decide) (L.a rfl (L.nil (T.cf (T.q (L.o (O.aA runUnderlying9 rfl rfl (show ¬ bK=aK by decide) (L.a rfl (L.nil (T.cf (T.q (L.o (O.aA runUnderlying9 rfl rfl (show ¬ bK=aY by decide) (L.a rfl (?_)))))))))))))))))))))))
 refine L.nil (T.cf (T.q (L.o (O.aA runUnderlying9 rfl rfl (show ¬ bK=aZ by decide) (L.a rfl (L.nil (T.cf (T.q (L.o (O.aX runUnderlying9 rfl rfl rfl (L.a rfl (L.nil (T.ct (T.q (L.m rfl (L.o (O.buildSlice (el:=9) (parts:=[(0,_),(1,_)]) (vs:=[(0,_),(1,_)]) (cs:=([[],fA].map str)) rfl (fun w=>by kernel_rfl) (fun ah4 acB acC acD Ai Ti=>?_))))))))))))))))))
 have hK3:=(hK1.ext he2).ext Ai
 refine L.o (O.call (xs:=[.tmp 148,.tmp 149]) call68 rfl rfl (aW 0 _ [[],fA] b (aH d s) s.last acB (Strs.ay Ti rfl (by decide) (Nat.zero_le _)) hK3.row rfl) (fun v3 w3 hq=>?_))
 obtain ⟨rfl,rfl⟩:=hq
 rw [decide_eq_false hlast]
 refine L.o (O.not rfl (L.o (O.call (xs:=[.tmp 151]) call108 rfl rfl (dK w3) (fun v4 w4 hq=>?_))))
 obtain rfl:=hq
 have uP:=(he1.trans he2).trans Ai
 refine L.nil (T.region (L.m rfl (L.m rfl (L.o (O.call (xs:=[.tmp 153,.tmp 154]) call123 rfl rfl (WO w0 b _ s S _ r u w4 ⟨d,hK3⟩ hL0 (hR2.ext Ai) (dh hll hf) (oN hll hf) hu hc) (fun v5 w5 hq=>?_))))))
 obtain ⟨hI5,hS5⟩:=hq
 obtain ⟨d',hK5⟩:=hI5
 refine L.nil (T.blk (T.region (L.m rfl (L.m rfl (L.o (O.nilCheck rfl (L.o (O.fieldAddr runUnderlying129 rfl sizeOf9 rfl (L.o (O.bD sizeOf9 rfl rfl rfl hK5.row (by simp [aH]) (fun Iy iO yZ=>?_)))))))))))
 refine L.nil (T.Po results67 ⟨⟨d',hK5.setLast iO yZ⟩,fun k hk=>?_⟩)
 have h3:=hK.S k hk
 have z1:=uP.size
 exact (iO.block k h3.2.2).trans ((hS5 k hk).trans (uP.block k (Nat.zero_le _) h3.2.1))
theorem Ei (w0:World) (b:Nat) (s:PS) (S:Nat→Prop) (l:Str) (r:List Str) (w:World) (hI:RdI w0 b s S w) (hL0:jc w0) (hll:l.length≤100000) (hf:fieldsB l=bK::r) (hlast:s.last ∉ [[],fA]) (hu:um s r=none) :
  Calls Tryz.prog 67 #[.pointer (some ⟨b,0,none⟩),str l] w (Pan (bQ) fun w'=>Ext w w'):=by
 refine T.fP (vs:=[.pointer (some ⟨b,0,none⟩),str l]) func67 rfl ntmps67 rfl ?_
 refine T.q (L.m rfl (L.o (O.call (xs:=[.tmp 10,.func 121]) call120 rfl rfl (aP l w hll) (fun v1 w1 hq=>?_))))
 obtain ⟨A,rfl,hS1,he1⟩:=hq
 obtain ⟨d,hK⟩:=hI
 have hK1:=hK.ext he1
 rw [hf]
 rw [hf] at hS1
 refine L.a rfl (L.nil (T.seq (T.q (L.m rfl (L.o (O.len runUnderlying61 rfl (Sl.val hS1) (L.o (O.gX rfl rfl (by simp;omega) (L.nil (T.cf (T.skip (T.seq (?_)))))))))))))
 refine T.fJ mixed 6 [4] rfl [.is _,.is _,.is _,.is _,.is _,.is _] [[],[0],[1],[],[3],[2]] [[],[0],[0,1],[],[3],[0,1,2],[0,1,2,3,4,5]] (by kernel_rfl) (by kernel_rfl) rfl (by kernel_rfl) trivial ⟨fun wx hx=>Ob.o (O.move rfl kR),
   fun wx hx=>Ob.o (O.indexAddr runUnderlying61 sizeOf9 rfl rfl (hS1.ext hx) (by decide) (by simp) kR),
   fun wx hx=>Ob.o (O.load isAgg9 rfl ((hS1.ext hx).at (show 0<(bK::r).length by simp)) kR),
   fun wx hx=>Ob.o (O.move rfl kR),
   fun wx hx=>Ob.o (O.ji (l:=1) runUnderlying61 sizeOf9 rfl rfl hS1 (by simp) kR),
   fun wx hx=>Ob.o (O.assign rfl kR),
   trivial⟩ (fun w2 he2=>?_)
 have hR2:=bC (hS1.ext he2) rfl
 refine L.a rfl (L.nil (T.seq (T.q (L.m rfl (L.nil (T.block (T.q (L.o (O.aA runUnderlying9 rfl rfl (show ¬ bK=bn by decide) (L.a rfl (L.nil (T.cf (T.q (L.o (O.aA runUnderlying9 rfl rfl (show ¬ bK=aK by decide) (L.a rfl (L.nil (T.cf (T.q (L.o (O.aA runUnderlying9 rfl rfl (show ¬ bK=aY by decide) (L.a rfl (?_)))))))))))))))))))))))
 refine L.nil (T.cf (T.q (L.o (O.aA runUnderlying9 rfl rfl (show ¬ bK=aZ by decide) (L.a rfl (L.nil (T.cf (T.q (L.o (O.aX runUnderlying9 rfl rfl rfl (L.a rfl (L.nil (T.ct (T.q (L.m rfl (L.o (O.buildSlice (el:=9) (parts:=[(0,_),(1,_)]) (vs:=[(0,_),(1,_)]) (cs:=([[],fA].map str)) rfl (fun w=>by kernel_rfl) (fun ah4 acB acC acD Ai Ti=>?_))))))))))))))))))
 have hK3:=(hK1.ext he2).ext Ai
 refine L.o (O.call (xs:=[.tmp 148,.tmp 149]) call68 rfl rfl (aW 0 _ [[],fA] b (aH d s) s.last acB (Strs.ay Ti rfl (by decide) (Nat.zero_le _)) hK3.row rfl) (fun v3 w3 hq=>?_))
 obtain ⟨rfl,rfl⟩:=hq
 rw [decide_eq_false hlast]
 refine L.o (O.not rfl (L.o (O.call (xs:=[.tmp 151]) call108 rfl rfl (dK w3) (fun v4 w4 hq=>?_))))
 obtain rfl:=hq
 have uP:=(he1.trans he2).trans Ai
 refine L.nil (T.region (L.m rfl (L.m rfl (L.bJ (xs:=[.tmp 153,.tmp 154]) rfl call123 rfl rfl (ZE w0 b _ s S _ r w4 ⟨d,hK3⟩ hL0 (hR2.ext Ai) (dh hll hf) (oN hll hf) hu) (fun w' a hR ha=>⟨ha.defers,rfl,uP.trans hR⟩)))))
theorem Aq (w0:World) (b:Nat) (s:PS) (S:Nat→Prop) (l:Str) (r:List Str) (w:World) (hI:RdI w0 b s S w) (hL0:jc w0) (hll:l.length≤100000) (hf:fieldsB l=aZ::r) (hlast:s.last ∈ [aY,aZ]) (hfs:s.fs ≠ []) (hn:dV r=none) :
  Calls Tryz.prog 67 #[.pointer (some ⟨b,0,none⟩),str l] w (Pan (bQ) fun w'=>Ext w w'):=by
 refine T.fP (vs:=[.pointer (some ⟨b,0,none⟩),str l]) func67 rfl ntmps67 rfl ?_
 refine T.q (L.m rfl (L.o (O.call (xs:=[.tmp 10,.func 121]) call120 rfl rfl (aP l w hll) (fun v1 w1 hq=>?_))))
 obtain ⟨A,rfl,hS1,he1⟩:=hq
 obtain ⟨d,hK⟩:=hI
 have hK1:=hK.ext he1
 rw [hf]
 rw [hf] at hS1
 refine L.a rfl (L.nil (T.seq (T.q (L.m rfl (L.o (O.len runUnderlying61 rfl (Sl.val hS1) (L.o (O.gX rfl rfl (by simp;omega) (L.nil (T.cf (T.skip (T.seq (?_)))))))))))))
 refine T.fJ mixed 6 [4] rfl [.is _,.is _,.is _,.is _,.is _,.is _] [[],[0],[1],[],[3],[2]] [[],[0],[0,1],[],[3],[0,1,2],[0,1,2,3,4,5]] (by kernel_rfl) (by kernel_rfl) rfl (by kernel_rfl) trivial ⟨fun wx hx=>Ob.o (O.move rfl kR),
   fun wx hx=>Ob.o (O.indexAddr runUnderlying61 sizeOf9 rfl rfl (hS1.ext hx) (by decide) (by simp) kR),
   fun wx hx=>Ob.o (O.load isAgg9 rfl ((hS1.ext hx).at (show 0<(aZ::r).length by simp)) kR),
   fun wx hx=>Ob.o (O.move rfl kR),
   fun wx hx=>Ob.o (O.ji (l:=1) runUnderlying61 sizeOf9 rfl rfl hS1 (by simp) kR),
   fun wx hx=>Ob.o (O.assign rfl kR),
   trivial⟩ (fun w2 he2=>?_)
 have hR2:=bC (hS1.ext he2) rfl
 refine L.a rfl (L.nil (T.seq (T.q (L.m rfl (L.nil (T.block (T.q (L.o (O.aA runUnderlying9 rfl rfl (show ¬ aZ=bn by decide) (L.a rfl (L.nil (T.cf (T.q (L.o (O.aA runUnderlying9 rfl rfl (show ¬ aZ=aK by decide) (L.a rfl (L.nil (T.cf (T.q (L.o (O.aA runUnderlying9 rfl rfl (show ¬ aZ=aY by decide) (L.a rfl (?_)))))))))))))))))))))))
 refine L.nil (T.cf (T.q (L.o (O.aX runUnderlying9 rfl rfl rfl (L.a rfl (L.nil (T.ct (T.q (L.m rfl (L.o (O.buildSlice (el:=9) (parts:=[(0,_),(1,_)]) (vs:=[(0,_),(1,_)]) (cs:=([aY,aZ].map str)) rfl (fun w=>by kernel_rfl) (fun ah3 SK acA Zu wB JX=>?_))))))))))))
 have hK3:=(hK1.ext he2).ext wB
 refine L.o (O.call (xs:=[.tmp 116,.tmp 117]) call68 rfl rfl (aW 0 _ [aY,aZ] b (aH d s) s.last SK (Strs.ay JX rfl (by decide) (Nat.zero_le _)) hK3.row rfl) (fun v3 w3 hq=>?_))
 obtain ⟨rfl,rfl⟩:=hq
 rw [decide_eq_true hlast]
 refine L.o (O.call (xs:=[.tmp 118]) call108 rfl rfl (dK w3) (fun v4 w4 hq=>?_))
 obtain rfl:=hq
 have uP:=(he1.trans he2).trans wB
 have hvl:=hK3.fsl
 have hvn:0<d.vs.length:=by rw [hvl];exact List.length_pos_iff.2 hfs
 obtain ⟨g,cap,cs,hfv,hgq,hgB,hcap,hmax,hcs,htk⟩:=hK3.fsr.form hvn
 have hc1:(aH d s)[1]?=some (.slice (some ⟨g,0,none⟩) d.vs.length cap):=by rw [← hfv];rfl
 have Hr:Blk w4 b (aH d s) 129:=hK3.row
 refine L.nil (T.seq (?_))
 refine T.fJ mixed 14 [0] rfl [.is _,.is _,.is _,.is _,.is _,.is _,.is _,.is _,.is _,.is _,.is _,.is _,.is _,.is _] [[],[0],[1],[2],[3],[4],[],[6],[7],[8],[9],[10],[11],[12]] [[],[0],[0,1],[0,1,2],[0,1,2,3],[0,1,2,3,4],[],[6],[6,7],[6,7,8],[6,7,8,9],[6,7,8,9,10],[6,7,8,9,10,11],[6,7,8,9,10,11,12],[0,1,2,3,4,5,6,7,8,9,10,11,12,13],[0,1,2,3,4,5,6,7,8,9,10,11,12,13,14]] (by kernel_rfl) (by kernel_rfl) rfl (by kernel_rfl) trivial ⟨fun wx hx=>Ob.o (O.move rfl kR),
   fun wx hx=>Ob.o (O.nilCheck rfl kR),
   fun wx hx=>Ob.o (O.fieldAddr runUnderlying129 rfl sizeOf48 rfl kR),
   fun wx hx=>Ob.o (O.fieldAddr runUnderlying48 rfl sizeOf46 rfl kR),
   fun wx hx=>Ob.o (O.fieldAddr runUnderlying46 rfl sizeOf44 rfl kR),
   fun wx hx=>Ob.o (O.load isAgg44 rfl ((Blk.ext Hr hx).cell hc1) kR),
   fun wx hx=>Ob.o (O.move rfl kR),
   fun wx hx=>Ob.o (O.nilCheck rfl kR),
   fun wx hx=>Ob.o (O.fieldAddr runUnderlying129 rfl sizeOf48 rfl kR),
   fun wx hx=>Ob.o (O.fieldAddr runUnderlying48 rfl sizeOf46 rfl kR),
   fun wx hx=>Ob.o (O.fieldAddr runUnderlying46 rfl sizeOf44 rfl kR),
   fun wx hx=>Ob.o (O.load isAgg44 rfl ((Blk.ext Hr hx).cell hc1) kR),
   fun wx hx=>Ob.o (O.len runUnderlying44 rfl (Sl.val (zq (Blk.ext hgB hx) hcap hmax hcs htk)) kR),
   fun wx hx=>Ob.o (O.gq rfl rfl (by have:=hcap;have:=hmax;simp only [maxLen] at this;omega) kR),
   trivial⟩ (fun w18 lZ=>?_)
 refine L.o (O.indexAddr runUnderlying44 sizeOf127 rfl rfl (zq (Blk.ext hgB lZ) hcap hmax hcs htk) (by omega) (by omega) (?_))
 have X3:=Blk.ext hgB lZ
 have hj:((d.vs.length:Int)-1).toNat=d.vs.length-1:=by omega
 have hcell:(bP d.vs)[((d.vs.length:Int)-1).toNat*2+1]?=some (dZ d).hv:=by rw [hj];exact zu d.vs _ (by omega)
 refine L.a rfl (L.nil (?_))
 refine T.agT mixed 9 0 [9,6] rfl [.is _,.is _,.is _,.is _,.is _,.is _,.such (fun _ _=>False),.such (fun _ _=>False),.such (fun _ _=>False)] [[],[],[1],[2],[3],[],[5],[6],[4,7]] [none,none,none,none,none,none,none,none,none] [[],[],[1],[1,2],[1,2,3],[],[5],[5,6],[1,2,3,4,5,6,7],[0,1,2,3,4,5,6,7,8],[0,1,2,3,4,5,6,7,8,9],[0,1,2,3,4,5,6,7,8,9,10]] (fun _ W=>Ext w18 W) (Ext) (by kernel_rfl) (by kernel_rfl) (by kernel_rfl) rfl ⟨fun _ _ _ _ h=>h,fun _ _ _ _ h=>h,fun _ _ _ _ h=>h,trivial⟩ (Keep.drew _ _) ⟨fun c wx hx=>wP.op rfl (O.move rfl ⟨⟨Keep.refl _ _,hx⟩,rfl⟩),
   fun c wx hx=>wP.op rfl (O.move rfl ⟨⟨Keep.refl _ _,hx⟩,rfl⟩),
   fun c wx hx=>wP.op rfl (O.nilCheck rfl ⟨⟨Keep.refl _ _,hx⟩,rfl⟩),
   fun c wx hx=>wP.op rfl (O.fieldAddr runUnderlying127 rfl sizeOf125 rfl ⟨⟨Keep.refl _ _,hx⟩,rfl⟩),
   fun c wx hx=>wP.op rfl (O.load isAgg125 rfl (Sl.at (zq (Blk.ext X3 hx) hcap hmax hcs htk) hcell) ⟨⟨Keep.refl _ _,hx⟩,rfl⟩),
   fun c wx hx=>wP.op rfl (O.move rfl ⟨⟨Keep.refl _ _,hx⟩,rfl⟩),
   fun c wx hx=>wP.pan rfl (Z5.call (xs:=[.tmp 140]) call122 rfl rfl (kQ _ _ r wx ((hR2.ext wB).ext (lZ.trans hx)) (hL0.ext (hK3.e.trans (lZ.trans hx))) (dh hll hf) hn (by have:=oN hll hf;omega)) (fun w' a hR ha=>⟨ha.defers,rfl,(uP.trans (lZ.trans hx)).trans hR⟩)),
   fun c wx hx v141 Ot=>Ot.elim,
   fun c wx hx afW Tv=>Tv.elim,
   trivial⟩ (fun w19 ah6 v141 Ot afW Tv v143 afZ=>?_)
 exact Ot.elim
open Go Go.E RowKit
def wG:List Str→Option (List Int)
 | []=>some []
 | s::r=>match WJ s,wG r with
  | some n,some ns=>some (n::ns)
  | _,_=>none
theorem Ej:∀ ws,dV ws=wG ws
 | []=>rfl
 | s::r=>by
  rw [dV,wG,WL,Ej r]
  cases WJ s <;> cases wG r <;> rfl
def Ox (s:PS) (r:List Str):Option PU :=
 let wt:=decide (1<r.length) && decide (r.getD (r.length-1) []=Iw)
 let q:=if wt then r.take (r.length-1) else r
 if 0≤s.G∧0≤s.P∧0≤s.L∧(q.length:Int)=2+s.G+s.P+s.L then
  match wG (q.drop 1) with
  | some xs=>some ⟨q.getD 0 [],xs.getD 0 0,(xs.drop 1).take s.G.toNat,(xs.drop (1+s.G.toNat)).take s.P.toNat,xs.drop (1+s.G.toNat+s.P.toNat),wt⟩
  | none=>none
 else none
theorem WR (s:PS) (r:List Str):um s r=Ox s r:=by
 unfold um Ox
 simp only [Ej]
 rfl
def jJ (s:PS) (ws:List Str):Option PS:=match ws with
 | []=>some s
 | k::r =>
  if k=bn then
   (if s.last = []∧r.length=3 then (match wG r with|some xs=>some { s with G:=xs.getD 0 0,P:=xs.getD 1 0,L:=xs.getD 2 0,last:=k } | none=>none) else none)
  else if k=aK then
   (if s.last ∈ [bn,aK]∧r.length=2 then (match wG r with|some xs=>some { s with ps:=s.ps ++ [(xs.getD 0 0,xs.getD 1 0)],last:=k } | none=>none) else none)
  else if k=aY then
   (if s.last ∈ [bn,aK,aY,aZ] then (match wG r with|some xs=>some { s with fs:=s.fs ++ [(xs,[])],last:=k } | none=>none) else none)
  else if k=aZ then
   (if s.last ∈ [aY,aZ] then (match wG r with|some xs=>some { s with fs:=rM s.fs xs,last:=k } | none=>none) else none)
  else if k=bK then
   (if s.last ∉ [[],fA] then (match Ox s r with|some u=>some { s with us:=s.us ++ [u],last:=k } | none=>none) else none)
  else if k=fA then
   (if s.last ∉ [[],fA]∧r.length=0 then some { s with last:=k } else none)
  else none
theorem MH (s:PS) (l:Str):iw s l=jJ s (bH [] l):=by
 unfold iw jJ
 rw [BL]
 simp only [Ej,WR]
 rfl
def bI (s:PS):List (List Str)→Option PS
 | []=>some s
 | w::ws=>match jJ s w with
  | some s'=>bI s' ws
  | none=>none
theorem jv {s s1:PS} : ∀ {a:List (List Str)} (b:List (List Str)),bI s a=some s1→bI s (a++b)=bI s1 b:=by
 intro a
 induction a generalizing s with
 | nil=>intro b h;cases h;rfl
 | cons w ws ih =>
  intro b h
  unfold bI at h
  split at h
  ·rename_i s' hs
   show (match jJ s w with|some s'=>bI s' (ws++b)|none=>none)=_
   rw [hs];exact ih b h
  cases h
theorem jl:∀ (ws:List (List Str)) (s:PS),bI s (ws.filter fun w=>!w.isEmpty)=bI s ws
 | [],s=>rfl
 | []::ws,s=>by
  show bI s (ws.filter _)=bI s ws
  exact jl ws s
 | (a::w)::ws,s=>by
  rw [List.filter_cons_of_pos (by simp),bI,bI]
  split
  ·exact jl ws _
  rfl
theorem MI:∀ (ls:List Str) (s s':PS) (n:Nat),sD iw s ls n = .inl s'↔bI s (ls.map (bH []))=some s'
 | [],s,s',n=>by simp [sD,bI]
 | l::ls,s,s',n=>by
  rw [sD,List.map_cons,bI,MH]
  cases jJ s (bH [] l) with
  | none=>exact ⟨fun h=>(by cases h),fun h=>(by cases h)⟩
  | some s1=>exact MI ls s1 s' (n+1)
def ZF (w:Str):Prop:=w ≠ []∧∀ b∈w,b≠32
theorem TD (n:Int):ZF (Lib.itoa n):=⟨(zn n).1,fun b hb=>((zn n).2 b hb).1⟩
theorem pX:∀ (xs:List Int) (w t:Str),ZF w→(t = []∨∃ r,t=32::r)→bH [] (w++(spell xs++t))=w::xs.map Lib.itoa++bH [] t
 | [],w,t,hw,ht=>by
  rcases ht with rfl|⟨r,rfl⟩
  ·show bH [] (w++([] ++ []))=_
   rw [List.append_nil,List.append_nil,J3 hw.1 hw.2];rfl
  show bH [] (w++([]++32::r))=_
  rw [List.nil_append,pW hw.1 hw.2];rfl
 | x::xs,w,t,hw,ht=>by
  have e:spell (x::xs)++t=32::(Lib.itoa x++(spell xs++t)):=by simp [spell]
  rw [e,pW hw.1 hw.2,pX xs (Lib.itoa x) t (TD x) ht];rfl
theorem jP (xs:List Int) (w:Str) (hw:ZF w):bH [] (w++spell xs)=w::xs.map Lib.itoa:=by
 have:=pX xs w [] hw (.inl rfl)
 rw [List.append_nil] at this
 rw [this];simp [bH]
def WS (r:RoV):List Str:=bn :: [r.G,r.P,r.L].map Lib.itoa
def ptW (p:Pt):List Str:=aK :: [p.1,p.2].map Lib.itoa
def ZG (h:List Int):List Str:=aZ::h.map Lib.itoa
def J8 (f:FaV):List (List Str):=(aY::f.o.xs.map Lib.itoa)::f.hs.map fun h=>ZG h.xs
def Oy (u:UnV):List Str:=bK::u.nm::((dw u).map Lib.itoa++if u.wt=true then [Iw] else [])
def textW (c:CxV) (r:RoV):List (List Str):=[WS r]++c.ps.map ptW++c.fs.flatMap J8++r.us.map Oy ++ [[fA]]
theorem Em {w:Str} (h:(!w.isEmpty && w.all fun b=>!decide (b=32))=true):ZF w:=by
 simp only [Bool.and_eq_true,Bool.not_eq_true',List.isEmpty_eq_false_iff,List.all_eq_true,decide_eq_false_iff_not] at h
 exact h
theorem WT (p:Pt):bH [] (ptL p)=ptW p:=jP _ _ (Em (by decide))
theorem Oz (f:FaV):(uf f).map (bH [])=J8 f:=by
 rw [uf,J8,List.map_cons,List.map_map,jP _ _ (Em (by decide))]
 congr 1
 exact List.map_congr_left fun h _=>jP _ _ (Em (by decide))
theorem OA (u:UnV) (h:ZF u.nm):bH [] (wz u)=Oy u:=by
 have e:wz u=bK++32::(u.nm++(spell (dw u)++(if u.wt=true then GY else []))):=by
  simp [wz,Sr,bK]
 rw [e,pW (by decide) (by decide),pX _ _ _ h (by
  split
  ·exact .inr ⟨Iw,rfl⟩
  exact .inl rfl),Oy,List.cons_append]
 have hw:bH [] (if u.wt=true then GY else [])=if u.wt=true then [Iw] else []:=by
  split
  ·decide
  rfl
 rw [hw]
theorem OB (c:CxV) (r:RoV) (h:∀ u∈r.us,ZF u.nm):(fM c r).map (bH [])=textW c r:=by
 rw [fM,textW,List.map_append,List.map_append,List.map_append,List.map_append,lA,List.map_map,List.map_map,List.map_flatMap]
 congr 1
 ·congr 1
  ·congr 1
   ·congr 1
    ·exact congrArg (fun x=>[x]) (jP _ _ (Em (by decide)))
    exact List.map_congr_left fun p _=>WT p
   congr 1
   funext f
   exact Oz f
  exact List.map_congr_left fun u hu=>OA u (h u hu)
def Bnd (xs:List Int):Prop:=∀ x∈xs,-1000000000≤x∧x≤1000000000
theorem kU:∀ (xs:List Int),Bnd xs→wG (xs.map Lib.itoa)=some xs
 | [],_=>rfl
 | x::xs,h=>by
  have hx:=h x (List.mem_cons_self ..)
  rw [List.map_cons,wG,Ho hx.1 hx.2,kU xs (fun y hy=>h y (List.mem_cons_of_mem _ hy))]
theorem OC {s:PS} {r:RoV} (hs:s.last = []) (h:Bnd [r.G,r.P,r.L]):jJ s (WS r)=some { s with G:=r.G,P:=r.P,L:=r.L,last:=bn }:=by
 show jJ s (bn :: [r.G,r.P,r.L].map Lib.itoa)=_
 rw [jJ,if_pos rfl,if_pos ⟨hs,rfl⟩,kU _ h]
 rfl
theorem WU {s:PS} {p:Pt} (hs:s.last ∈ [bn,aK]) (h:Bnd [p.1,p.2]):jJ s (ptW p)=some { s with ps:=s.ps ++ [p],last:=aK }:=by
 show jJ s (aK :: [p.1,p.2].map Lib.itoa)=_
 rw [jJ,if_neg (by decide),if_pos rfl,if_pos ⟨hs,rfl⟩,kU _ h]
 rfl
theorem OD {s:PS} {xs:List Int} (hs:s.last ∈ [bn,aK,aY,aZ]) (h:Bnd xs):jJ s (aY::xs.map Lib.itoa)=some { s with fs:=s.fs ++ [(xs,[])],last:=aY }:=by
 rw [jJ,if_neg (by decide),if_neg (by decide),if_pos rfl,if_pos hs,kU _ h]
theorem OE {s:PS} {xs:List Int} (hs:s.last ∈ [aY,aZ]) (h:Bnd xs):jJ s (ZG xs)=some { s with fs:=rM s.fs xs,last:=aZ }:=by
 show jJ s (aZ::xs.map Lib.itoa)=_
 rw [jJ,if_neg (by decide),if_neg (by decide),if_neg (by decide),if_pos rfl,if_pos hs,kU _ h]
theorem BQ:∀ (ps:List Pt) (s:PS),s.last ∈ [bn,aK]→(∀ p∈ps,Bnd [p.1,p.2])→∃ k ∈ [bn,aK],bI s (ps.map ptW)=some { s with ps:=s.ps++ps,last:=k }
 | [],s,hs,_=>⟨s.last,hs,by simp [bI]⟩
 | p::ps,s,hs,h=>by
  rw [List.map_cons,bI,WU hs (h p (List.mem_cons_self ..))]
  obtain ⟨k,hk,e⟩:=BQ ps { s with ps:=s.ps ++ [p],last:=aK } (by simp) (fun q hq=>h q (List.mem_cons_of_mem _ hq))
  exact ⟨k,hk,by simp only [];rw [e,List.append_assoc];rfl⟩
theorem OG (fs:List (List Int × List (List Int))) (o:List Int) (hs:List (List Int)) (x:List Int):rM (fs ++ [(o,hs)]) x=fs ++ [(o,hs ++ [x])]:=by
 simp [rM]
theorem vJ:∀ (hs:List RiV) (s:PS) (fs:List (List Int × List (List Int))) (o:List Int) (h0:List (List Int)),s.last ∈ [aY,aZ]→s.fs=fs ++ [(o,h0)]→(∀ h∈hs,Bnd h.xs)→∃ k ∈ [aY,aZ],bI s (hs.map fun h=>ZG h.xs)=some { s with fs:=fs ++ [(o,h0++hs.map (·.xs))],last:=k }
 | [],s,fs,o,h0,hs,e,_=>⟨s.last,hs,by simp [bI,← e]⟩
 | x::xs,s,fs,o,h0,hs,e,h=>by
  rw [List.map_cons,bI,OE hs (h x (List.mem_cons_self ..))]
  obtain ⟨k,hk,e2⟩:=vJ xs { s with fs:=rM s.fs x.xs,last:=aZ } fs o (h0 ++ [x.xs]) (by simp) (by rw [e,OG]) (fun y hy=>h y (List.mem_cons_of_mem _ hy))
  exact ⟨k,hk,by simp only [];rw [e2];simp⟩
def jK (f:FaV):List Int × List (List Int):=(f.o.xs,f.hs.map (·.xs))
theorem vK:∀ (fs:List FaV) (s:PS),s.last ∈ [bn,aK,aY,aZ]→(∀ f∈fs,Bnd f.o.xs∧∀ h∈f.hs,Bnd h.xs)→∃ k ∈ [bn,aK,aY,aZ],bI s (fs.flatMap J8)=some { s with fs:=s.fs++fs.map jK,last:=k }
 | [],s,hs,_=>⟨s.last,hs,by simp [bI]⟩
 | f::fs,s,hs,h=>by
  obtain ⟨h1,h2⟩:=h f (List.mem_cons_self ..)
  obtain ⟨k1,hk1,e1⟩:=vJ f.hs { s with fs:=s.fs ++ [(f.o.xs,[])],last:=aY } s.fs f.o.xs [] (by simp) rfl h2
  have e0:bI s (J8 f)=some { s with fs:=s.fs ++ [jK f],last:=k1 }:=by
   rw [J8,bI,OD hs h1]
   simp only []
   rw [e1];rfl
  obtain ⟨k,hk,e2⟩:=vK fs { s with fs:=s.fs ++ [jK f],last:=k1 } (by
   simp only [List.mem_cons,List.not_mem_nil,or_false] at hk1 ⊢
   rcases hk1 with rfl|rfl <;> simp) (fun g hg=>h g (List.mem_cons_of_mem _ hg))
  exact ⟨k,hk,by rw [List.flatMap_cons,jv _ e0,e2];simp⟩
def iC (u:UnV):PU:=⟨u.nm,u.pp,u.gs,u.vs,u.ps,u.wt⟩
theorem ZH (n:Int):Lib.itoa n≠Iw:=fun e=>by
 have h:=(dY.1 (jG n.natAbs).1).2.1
 unfold Lib.itoa at e
 split at e
 ·rename_i hn
  have:=congrArg List.head? e
  simp [Iw] at this
 rename_i hn
 rw [show n.toNat=n.natAbs by omega] at e
 have:=h 119 (by rw [e];decide)
 exact absurd this (by decide)
theorem OH {s:PS} {u:UnV} (hg:(u.gs.length:Int)=s.G) (hv:(u.vs.length:Int)=s.P) (hq:(u.ps.length:Int)=s.L) (h:Bnd (dw u)):Ox s (u.nm::((dw u).map Lib.itoa++if u.wt=true then [Iw] else []))=some (iC u):=by
 have hl:(dw u).length=1+u.gs.length+u.vs.length+u.ps.length:=by simp [dw];omega
 have hgn:s.G.toNat=u.gs.length:=by omega
 have hvn:s.P.toNat=u.vs.length:=by omega
 have hnum:wG ((dw u).map Lib.itoa)=some (dw u):=kU _ h
 have hcut:(⟨u.nm,(dw u).getD 0 0,((dw u).drop 1).take u.gs.length,((dw u).drop (1+u.gs.length)).take u.vs.length,(dw u).drop (1+u.gs.length+u.vs.length),u.wt⟩:PU)=iC u:=by
  have e1:(dw u).drop 1=u.gs++u.vs++u.ps:=by simp [dw]
  have e2:(dw u).drop (1+u.gs.length)=u.vs++u.ps:=by rw [← List.drop_drop,e1];simp
  have e3:(dw u).drop (1+u.gs.length+u.vs.length)=u.ps:=by rw [← List.drop_drop,e2];simp
  rw [e1,e2,e3]
  simp [iC,dw]
 cases hw:u.wt with
 | false =>
  have hlast:((u.nm::(dw u).map Lib.itoa).getD ((u.nm::(dw u).map Lib.itoa).length-1) [])≠Iw:=by
   have e:(u.nm::(dw u).map Lib.itoa).length-1=((dw u).length-1)+1:=by simp;omega
   rw [e,List.getD_cons_succ,List.getD_eq_getElem?_getD,List.getElem?_map,List.getElem?_eq_getElem (by omega)]
   exact ZH _
  rw [if_neg (by simp),List.append_nil]
  unfold Ox
  simp only []
  rw [decide_eq_false hlast,Bool.and_false]
  simp only [Bool.false_eq_true,if_false]
  rw [if_pos ⟨by omega,by omega,by omega,by simp;omega⟩,List.drop_succ_cons,List.drop_zero,hnum]
  simp only [List.getD_cons_zero]
  rw [hgn,hvn,← hcut,hw]
 | true =>
  rw [if_pos rfl]
  have hlen:(u.nm::((dw u).map Lib.itoa ++ [Iw])).length=(dw u).length+2:=by simp
  have hlast:((u.nm::((dw u).map Lib.itoa ++ [Iw])).getD ((u.nm::((dw u).map Lib.itoa ++ [Iw])).length-1) [])=Iw:=by
   rw [hlen,show (dw u).length+2-1=(dw u).length+1 by omega,List.getD_cons_succ,List.getD_eq_getElem?_getD,List.getElem?_append_right (by simp)]
   simp
  have htake:(u.nm::((dw u).map Lib.itoa ++ [Iw])).take ((u.nm::((dw u).map Lib.itoa ++ [Iw])).length-1)=u.nm::(dw u).map Lib.itoa:=by
   rw [hlen,show (dw u).length+2-1=(dw u).length+1 by omega,List.take_succ_cons]
   congr 1
   rw [List.take_append_of_le_length (by simp),List.take_of_length_le (by simp)]
  unfold Ox
  simp only []
  rw [decide_eq_true hlast,decide_eq_true (by rw [hlen];omega),Bool.and_true,if_pos rfl,htake]
  rw [if_pos ⟨by omega,by omega,by omega,by simp;omega⟩,List.drop_succ_cons,List.drop_zero,hnum]
  simp only [List.getD_cons_zero]
  rw [hgn,hvn,← hcut,hw]
theorem vM:∀ (us:List UnV) (s:PS),s.last ∉ [[],fA]→(∀ u∈us,(u.gs.length:Int)=s.G∧(u.vs.length:Int)=s.P∧(u.ps.length:Int)=s.L∧Bnd (dw u))→∃ k,k ∉ [[],fA]∧bI s (us.map Oy)=some { s with us:=s.us++us.map iC,last:=k }
 | [],s,hs,_=>⟨s.last,hs,by simp [bI]⟩
 | u::us,s,hs,h=>by
  obtain ⟨h1,h2,h3,h4⟩:=h u (List.mem_cons_self ..)
  have e0:jJ s (Oy u)=some { s with us:=s.us ++ [iC u],last:=bK }:=by
   show jJ s (bK::_)=_
   rw [jJ,if_neg (by decide),if_neg (by decide),if_neg (by decide),if_neg (by decide),if_pos rfl,if_pos hs,OH h1 h2 h3 h4]
  rw [List.map_cons,bI,e0]
  obtain ⟨k,hk,e⟩:=vM us { s with us:=s.us ++ [iC u],last:=bK } (show bK ∉ [[],fA] by decide) (fun q hq=>h q (List.mem_cons_of_mem _ hq))
  exact ⟨k,hk,by simp only [];rw [e];simp⟩
structure Hy (c:CxV) (r:RoV):Prop where
 roll:Bnd [r.G,r.P,r.L]
 pts:∀ p∈c.ps,Bnd [p.1,p.2]
 fas:∀ f∈c.fs,Bnd f.o.xs∧∀ h∈f.hs,Bnd h.xs
 us:∀ u∈r.us,(u.gs.length:Int)=r.G∧(u.vs.length:Int)=r.P∧(u.ps.length:Int)=r.L∧Bnd (dw u)
 nms:∀ u∈r.us,ZF u.nm∧10∉u.nm
def Hz (c:CxV) (r:RoV):PS:=⟨c.ps,c.fs.map jK,r.G,r.P,r.L,r.us.map iC,fA⟩
theorem J9 {c:CxV} {r:RoV} (h:Hy c r):∃ k,k ∉ [[],fA]∧bI PS0 ([WS r]++c.ps.map ptW++c.fs.flatMap J8++r.us.map Oy)=some { Hz c r with last:=k }:=by
 have e1:bI PS0 [WS r]=some { PS0 with G:=r.G,P:=r.P,L:=r.L,last:=bn }:=by rw [bI,OC rfl h.roll];rfl
 obtain ⟨k2,hk2,e2⟩:=BQ c.ps { PS0 with G:=r.G,P:=r.P,L:=r.L,last:=bn } (by simp) h.pts
 obtain ⟨k3,hk3,e3⟩:=vK c.fs { PS0 with ps:=PS0.ps++c.ps,G:=r.G,P:=r.P,L:=r.L,last:=k2 } (by
  simp only [List.mem_cons,List.not_mem_nil,or_false] at hk2 ⊢
  rcases hk2 with rfl|rfl <;> simp) h.fas
 obtain ⟨k4,hk4,e4⟩:=vM r.us { PS0 with ps:=PS0.ps++c.ps,fs:=PS0.fs++c.fs.map jK,G:=r.G,P:=r.P,L:=r.L,last:=k3 } (by
  simp only [List.mem_cons,List.not_mem_nil,or_false] at hk3 ⊢
  rcases hk3 with rfl|rfl|rfl|rfl <;> decide) h.us
 refine ⟨k4,hk4,?_⟩
 rw [List.append_assoc,List.append_assoc,jv _ e1,jv _ e2,jv _ e3,e4]
 rfl
theorem OI {c:CxV} {r:RoV} (h:Hy c r):bI PS0 (textW c r)=some (Hz c r):=by
 obtain ⟨k,hk,e⟩:=J9 h
 rw [textW,jv _ e,bI,jJ,if_neg (by decide),if_neg (by decide),if_neg (by decide),if_neg (by decide),if_neg (by decide),if_pos rfl,if_pos ⟨hk,rfl⟩]
 rfl
open Go Go.E RowKit
def eP (f:FaV):FaV:=⟨⟨undef,f.o.xs⟩,undef,f.hs.map fun h=>⟨undef,h.xs⟩⟩
def zy (c:CxV):CxV:=⟨undef,c.ps,undef,c.fs.map eP⟩
def kV (u:UnV):UnV:=⟨u.nm,u.pp,.slice none 0 0,u.gs,.slice none 0 0,u.vs,.slice none 0 0,u.ps,u.wt⟩
def stripR (r:RoV):RoV:=⟨r.G,r.P,r.L,undef,r.us.map kV⟩
theorem getD_map' {α β:Type} {f:α→β} {d:α} {e:β} (h:f d=e) (l:List α) (k:Nat):(l.map f).getD k e=f (l.getD k d):=by
 rw [List.getD_eq_getElem?_getD,List.getElem?_map,List.getD_eq_getElem?_getD]
 cases l[k]? with
 | none=>exact h.symm
 | some x=>rfl
theorem uy (fs:List FaV) (k:Nat):(fs.map eP).getD k f0=eP (fs.getD k f0):=getD_map' (f:=eP) (d:=f0) rfl fs k
theorem Ko (f:FaV) (k:Nat):((eP f).ri.getD k r0).xs=(f.ri.getD k r0).xs:=by
 have e:(eP f).ri=f.ri.map fun h=>(⟨undef,h.xs⟩:RiV):=rfl
 rw [e]
 have:=getD_map' (f:=fun h:RiV=>(⟨undef,h.xs⟩:RiV)) (d:=r0) (e:=r0) rfl f.ri k
 rw [this]
theorem En (f:FaV):(eP f).ri.length=f.ri.length:=by simp [eP,FaV.ri]
theorem uz (f:FaV) (bad:Int→List Int→Bool):rW (eP f).ri bad=rW f.ri bad:=by
 unfold rW
 refine decide_eq_decide.2 ⟨?_,?_⟩
 ·rintro ⟨k,h1,h2⟩;exact ⟨k,by rwa [En] at h1,by rwa [Ko] at h2⟩
 rintro ⟨k,h1,h2⟩;exact ⟨k,by rwa [En],by rwa [Ko]⟩
theorem Eo (n:Nat) (f:FaV):dU n (eP f)=dU n f:=by
 unfold dU
 rw [uz,show (eP f).hs.length=f.hs.length by simp [eP]]
theorem zA (fs:List FaV) (p:FaV→Bool) (h:∀ f,p (eP f)=p f):(fs.map eP).any p=fs.any p:=by
 rw [List.any_map]
 congr 1
 funext f
 exact h f
theorem HY (ps:List Pt) (t:Int) (f:FaV) (p:Pt):dF ps t (eP f) p=dF ps t f p:=by
 unfold dF
 simp only [eP,List.all_map]
 rfl
theorem H6 {α β:Type} (g:α→β):∀ (l:List α) (n:Nat),(l.map g).eraseIdx n=(l.eraseIdx n).map g
 | [],n=>rfl
 | a::l,0=>rfl
 | a::l,n+1=>by rw [List.map_cons,List.eraseIdx_cons_succ,List.eraseIdx_cons_succ,H6 g l n];rfl
theorem OJ (ps:List Pt) (t:Int) (f:FaV) (r:Nat) (p:Pt):dF ps t (NQ (eP f) r) p=dF ps t (NQ f r) p:=by
 unfold dF NQ
 simp only [eP,H6,List.all_map]
 rfl
theorem TF (fs:List FaV):stL (fs.map eP)=stL fs:=by
 unfold stL
 rw [List.length_map]
 congr 1
 funext f
 unfold gF stF
 rw [uy,En]
 congr 1
 funext r
 unfold gR
 rw [Ko]
theorem Kq (ps:List Pt) (fs:List FaV):bV ps (fs.map eP)=bV ps fs:=by
 have h1:dM ps (fs.map eP)=dM ps fs:=by
  funext s
  unfold dM
  rw [uy,OJ]
 have h2:fV ps (fs.map eP)=fV ps fs:=by
  funext s
  unfold fV
  rw [List.length_map]
  congr 1
  funext i
  unfold jC
  rw [uy,HY]
 unfold bV
 rw [TF,h1,h2]
theorem Kr (c:CxV):cu (zy c)=cu c:=by
 unfold cu jM zy
 simp only [List.length_map,Kq]
 rw [zA _ _ (Eo _),zA _ _ (fun f=>uz f _),zA _ _ (fun f=>uz f _)]
theorem zB (us:List UnV) (k:Nat):(us.map kV).getD k u0=kV (us.getD k u0):=getD_map' (f:=kV) (d:=u0) rfl us k
theorem dS (r:RoV):bG (stripR r)↔bG r:=by
 have hl:(stripR r).us.length=r.us.length:=List.length_map _
 have hb:zZ (stripR r)=zZ r:=by unfold zZ;rw [hl];rfl
 have hg:∀ j,GoodAt (stripR r) j↔GoodAt r j:=fun j=>by
  have e:∀ k,(stripR r).us.getD k u0=kV (r.us.getD k u0):=zB r.us
  constructor
  ·rintro ⟨h1,h2,h3,h4⟩
   refine ⟨?_,fun k hk=>?_,fun k hk=>?_,fun h=>?_⟩
   ·rw [e] at h1;exact h1
   ·have:=h2 k hk;rw [e,e] at this;exact this
   ·have:=h3 k hk;rw [e,e] at this;exact this
   have:=h4 h;rw [e] at this;exact this
  rintro ⟨h1,h2,h3,h4⟩
  refine ⟨?_,fun k hk=>?_,fun k hk=>?_,fun h=>?_⟩
  ·rw [e];exact h1
  ·rw [e,e];exact h2 k hk
  ·rw [e,e];exact h3 k hk
  rw [e];exact h4 h
 constructor
 ·rintro ⟨h1,h2⟩
  exact ⟨by rw [hb] at h1;exact h1,fun j hj=>(hg j).1 (h2 j (by simpa [stripR] using hj))⟩
 rintro ⟨h1,h2⟩
 exact ⟨by rw [hb];exact h1,fun j hj=>(hg j).2 (h2 j (by simpa [stripR] using hj))⟩
theorem Ep (r:RoV):fG (stripR r)=fG r:=by
 by_cases h:bG r
 ·rw [eu h,eu ((dS r).2 h)]
 rw [dA h,dA (fun k=>h ((dS r).1 k))]
def PS.cx (s:PS):CxV:=⟨undef,s.ps,undef,s.fs.map fun f=>⟨⟨undef,f.1⟩,undef,f.2.map fun h=>⟨undef,h⟩⟩⟩
def PS.ro (s:PS):RoV:=⟨s.G,s.P,s.L,undef,s.us.map fun u=>⟨u.nm,u.pp,.slice none 0 0,u.gs,.slice none 0 0,u.vs,.slice none 0 0,u.qs,u.wt⟩⟩
noncomputable def TG (s:PS):Int:=dN s.cx s.ro (cu s.cx)
structure Says (c:CxV) (r:RoV) (s:PS):Prop where
 ps:c.ps=s.ps
 fs:c.fs.map jK=s.fs
 G:r.G=s.G
 P:r.P=s.P
 L:r.L=s.L
 us:r.us.map iC=s.us
theorem uD (c:CxV) (r:RoV):Says c r (Hz c r):=⟨rfl,rfl,rfl,rfl,rfl,rfl⟩
theorem Says.cx {c:CxV} {r:RoV} {s:PS} (h:Says c r s):s.cx=zy c:=by
 unfold PS.cx zy
 rw [← h.ps,← h.fs,List.map_map]
 congr 1
 refine List.map_congr_left fun f _=>?_
 simp only [Function.comp,jK,eP,List.map_map]
 rfl
theorem Says.ro {c:CxV} {r:RoV} {s:PS} (h:Says c r s):s.ro=stripR r:=by
 unfold PS.ro stripR
 rw [← h.G,← h.P,← h.L,← h.us,List.map_map]
 rfl
theorem Says.err {c:CxV} {r:RoV} {s:PS} (h:Says c r s):dN c r (cu c)=TG s:=by
 unfold TG
 rw [h.cx,h.ro,Kr]
 unfold dN
 rw [Ep]
 simp only [zy,stripR,List.length_map]
theorem pY (c:CxV) (r:RoV):fM (zy c) (stripR r)=fM c r:=by
 unfold fM
 simp only [zy,stripR,lA,List.map_map,List.flatMap_map]
 congr 1
 congr 1
 congr 1
 congr 1
 funext f
 simp only [eP,uf,List.map_map]
 rfl
theorem Says.text {c c':CxV} {r r':RoV} {s:PS} (h:Says c r s) (h':Says c' r' s):fM c r=fM c' r':=by
 rw [← pY c r,← pY c' r',← h.cx,← h'.cx,← h.ro,← h'.ro]
theorem TI {c:CxV} {r:RoV} (h:dN c r (cu c)=0):cu c=false∧bG r∧r.us.length=c.fs.length:=by
 unfold dN at h
 cases hb:cu c with
 | true=>rw [hb,if_pos rfl] at h;cases h
 | false =>
  rw [hb,if_neg (by simp)] at h
  have hr:bG r:=Classical.byContradiction fun hn=>by
   rw [dA hn,if_pos (by decide)] at h;cases h
  rw [eu hr,if_neg (by simp)] at h
  refine ⟨rfl,hr,Classical.byContradiction fun hn=>?_⟩
  rw [if_pos hn] at h
  cases h
theorem zC {c:UInt8} (h:gU c=true):c≠32∧c≠10:=⟨fun e=>by subst e;revert h;decide,fun e=>by subst e;revert h;decide⟩
theorem uF {xs:List Int} {n m:Int} (h:bM xs n m=true) (hm:m≤1000000000):(xs.length:Int)=n∧∀ x∈xs,0≤x∧x≤1000000000:=by
 simp only [bM,Bool.and_eq_true,decide_eq_true_eq,List.all_eq_true,inB] at h
 exact ⟨h.1,fun x hx=>by have:=h.2 x hx;omega⟩
theorem nK {r:RoV} {u:UnV} (h:bU r u=true):(u.nm ≠ []∧u.nm.length≤12∧∀ c∈u.nm,gU c=true)∧(u.gs.length:Int)=r.G∧(u.vs.length:Int)=r.P∧(u.ps.length:Int)=r.L∧∀ x∈dw u,0≤x∧x≤1000000000:=by
 simp only [bU,sG,List.all_cons,List.all_nil,id,Bool.and_eq_true,and_true,Bool.not_eq_true',decide_eq_false_iff_not,decide_eq_true_eq,List.all_eq_true] at h
 obtain ⟨h1,h2,h3,h4,h5,h6,h7,h8⟩:=h
 have hv:fK u≤1000000000:=by unfold fK;split <;> decide
 have hp:mF u≤1000000000:=by unfold mF;split <;> decide
 obtain ⟨g1,g2⟩:=uF h6 (by omega)
 obtain ⟨v1,v2⟩:=uF h7 hv
 obtain ⟨p1,p2⟩:=uF h8 hp
 refine ⟨⟨h1,by omega,h3⟩,g1,v1,p1,fun x hx=>?_⟩
 simp only [dw,List.mem_cons,List.cons_append,List.append_assoc,List.mem_append] at hx
 rcases hx with rfl|hx|hx|hx
 ·omega
 ·exact g2 x hx
 ·exact v2 x hx
 exact p2 x hx
theorem zD {r:RoV} (h:bG r):(0≤r.G∧r.G≤6∧0≤r.P∧r.P≤12∧0≤r.L∧r.L≤3∧0<(r.us.length:Int)∧(r.us.length:Int)≤64)∧∀ u∈r.us,bU r u=true:=by
 refine ⟨Jc.1 h.bnd,fun u hu=>?_⟩
 obtain ⟨k,hk,rfl⟩:=List.getElem_of_mem hu
 have:=(h.good k hk).right
 rw [au hk] at this
 exact this
theorem yj {c:CxV} (h:cu c=false):(3≤c.ps.length∧c.ps.length≤120∧1≤c.fs.length∧c.fs.length≤64)∧(∀ p∈c.ps,(-1000000≤p.1∧p.1≤1000000) ∧ -1000000≤p.2∧p.2≤1000000)∧∀ f∈c.fs,f.hs.length≤8∧∀ x∈f.ri,(∀ n∈x.xs,0≤n∧n<c.ps.length)∧3≤x.xs.length∧x.xs.length≤40:=by
 simp only [cu,Bool.or_eq_false_iff] at h
 obtain ⟨h1,h2,h3,h4,_⟩:=h
 simp only [jM,Bool.or_eq_false_iff,decide_eq_false_iff_not] at h1
 refine ⟨by omega,fun p hp=>mV (lM h2 p hp),fun f hf=>?_⟩
 obtain ⟨k1,k2⟩:=QX (lM h4 f hf)
 refine ⟨k1,fun x hx=>?_⟩
 obtain ⟨k3,k4⟩:=k2 x hx
 refine ⟨fun n hn=>?_,k4⟩
 obtain ⟨i,hi,rfl⟩:=List.getElem_of_mem hn
 have:=k3 i hi
 rw [au hi] at this
 exact this
theorem MJ {xs:List Int} (h:∀ n∈xs,(0:Int)≤n∧n≤1000000000):Bnd xs:=fun n hn=>by have:=h n hn;omega
theorem H7 {c:CxV} {r:RoV} (h:dN c r (cu c)=0):Hy c r:=by
 obtain ⟨h1,h2,_⟩:=TI h
 obtain ⟨⟨a1,a2,a3,a4⟩,a5,a6⟩:=yj h1
 obtain ⟨b1,b2⟩:=zD h2
 refine ⟨fun x hx=>?_,fun p hp x hx=>?_,fun f hf=>?_,fun u hu=>?_,fun u hu=>?_⟩
 ·simp only [List.mem_cons,List.not_mem_nil,or_false] at hx
  rcases hx with rfl|rfl|rfl <;> omega
 ·have:=a5 p hp
  simp only [List.mem_cons,List.not_mem_nil,or_false] at hx
  rcases hx with rfl|rfl <;> omega
 ·obtain ⟨k1,k2⟩:=a6 f hf
  have hb:∀ x∈f.ri,Bnd x.xs:=fun x hx=>MJ fun n hn=>by have:=(k2 x hx).1 n hn;omega
  exact ⟨hb f.o (List.mem_cons_self ..),fun x hx=>hb x (List.mem_cons_of_mem _ hx)⟩
 ·obtain ⟨_,k1,k2,k3,k4⟩:=nK (b2 u hu)
  exact ⟨k1,k2,k3,MJ k4⟩
 obtain ⟨⟨k1,k2,k3⟩,_⟩:=nK (b2 u hu)
 exact ⟨⟨k1,fun b hb=>(zC (k3 b hb)).1⟩,fun hb=>(zC (k3 _ hb)).2 rfl⟩
theorem jY {xs:List Int} (h:Bnd xs):Pn xs:=fun x hx=>by have:=h x hx;omega
theorem OL (a b:List Str):aF (a++b)=aF a++aF b:=by simp [aF]
theorem H8 {ls:List Str} {m:Nat} (h:∀ l∈ls,l.length≤m):(aF ls).length≤ls.length*(m+1):=by
 induction ls with
 | nil=>simp [aF]
 | cons l r ih =>
  have h1:=h l (List.mem_cons_self ..)
  have h2:=ih fun x hx=>h x (List.mem_cons_of_mem _ hx)
  have e:aF (l::r)=l ++ [10]++aF r:=by simp [aF]
  have e2:(l::r).length*(m+1)=r.length*(m+1)+1*(m+1):=by rw [List.length_cons,Nat.add_mul]
  rw [e,e2,List.length_append,List.length_append]
  simp only [List.length_cons,List.length_nil]
  omega
theorem WV {α:Type} {f:α→List Str} {l:List α} {m:Nat} (h:∀ x∈l,(f x).length≤m):(l.flatMap f).length≤l.length*m:=by
 induction l with
 | nil=>simp
 | cons a r ih =>
  have h1:=h a (List.mem_cons_self ..)
  have h2:=ih fun x hx=>h x (List.mem_cons_of_mem _ hx)
  rw [List.flatMap_cons,List.length_append,List.length_cons,Nat.add_mul]
  omega
theorem Es {c:CxV} {r:RoV} (h:dN c r (cu c)=0):vF c r:=by
 obtain ⟨h1,h2,_⟩:=TI h
 have hS:=H7 h
 obtain ⟨⟨a1,a2,a3,a4⟩,a5,a6⟩:=yj h1
 obtain ⟨b1,b2⟩:=zD h2
 have hnu:∀ u∈r.us,(dw u).length≤22∧u.nm.length≤12:=fun u hu=>by
  obtain ⟨⟨_,k,_⟩,k1,k2,k3,_⟩:=nK (b2 u hu)
  refine ⟨?_,k⟩
  simp only [dw,List.length_cons,List.length_append,List.cons_append]
  omega
 refine ⟨jY hS.roll,fun p hp=>jY (hS.pts p hp),fun f hf=>?_,fun f hf x hx=>?_,fun u hu=>?_,?_⟩
 ·have:=(a6 f hf).2 f.o (List.mem_cons_self ..)
  exact ⟨jY (hS.fas f hf).1,by omega,by omega⟩
 ·have:=(a6 f hf).2 x (List.mem_cons_of_mem _ hx)
  exact ⟨jY ((hS.fas f hf).2 x hx),by omega,by omega⟩
 ·have:=hnu u hu
  exact ⟨jY (hS.us u hu).2.2.2,by omega,by omega⟩
 have agj:∀ l∈fM c r,l.length≤1000:=by
  have hsp:∀ (k:Str) (xs:List Int),Pn xs→k.length≤20→xs.length≤40→(k++spell xs).length≤1000:=fun k xs hx hk hl=>by
   have:=nD xs hx
   rw [List.length_append];omega
  intro l hl
  simp only [fM,lA,List.mem_append,List.mem_map,List.mem_flatMap,List.mem_cons,List.not_mem_nil,or_false] at hl
  rcases hl with (((rfl|⟨p,hp,rfl⟩)|⟨f,hf,hl⟩)|⟨u,hu,rfl⟩)|rfl
  ·exact hsp _ _ (jY hS.roll) (by decide) (by simp)
  ·exact hsp _ _ (jY (hS.pts p hp)) (by decide) (by simp)
  ·simp only [uf,List.mem_cons,List.mem_map] at hl
   rcases hl with rfl|⟨x,hx,rfl⟩
   ·exact hsp _ _ (jY (hS.fas f hf).1) (by decide) ((a6 f hf).2 f.o (List.mem_cons_self ..)).2.2
   exact hsp _ _ (jY ((hS.fas f hf).2 x hx)) (by decide) ((a6 f hf).2 x (List.mem_cons_of_mem _ hx)).2.2
  ·have h1:=hnu u hu
   have h2:=nD (dw u) (jY (hS.us u hu).2.2.2)
   rw [wz,List.length_append,List.length_append,List.length_append]
   have h3:(if u.wt=true then GY else []).length≤6:=by split <;> decide
   have h4:Sr.length=5:=rfl
   omega
  decide
 have hn:(fM c r).length≤900:=by
  have hf:(c.fs.flatMap uf).length≤c.fs.length*9:=WV fun f hf=>by
   have:=(a6 f hf).1
   simp only [uf,List.length_cons,List.length_map];omega
  simp only [fM,lA,List.length_append,List.length_map,List.length_cons,List.length_nil]
  omega
 have:=H8 agj
 have:(fM c r).length*(1000+1)≤900*1001:=Nat.mul_le_mul_right _ hn
 omega
theorem nM:∀ (ls:List Str),(∀ l∈ls,(10:UInt8)∉l)→aS 10 (aF ls)=ls ++ [[]]
 | [],_=>rfl
 | l::r,h=>by
  have e:aF (l::r)=l++10::aF r:=by simp [aF]
  rw [e,nX (h l (List.mem_cons_self ..)),nM r (fun x hx=>h x (List.mem_cons_of_mem _ hx))];rfl
theorem uG:∀ (xs:List Int),(10:UInt8)∉spell xs
 | []=>by simp [spell]
 | x::xs=>by
  have e:spell (x::xs)=32::(Lib.itoa x++spell xs):=by simp [spell]
  rw [e]
  intro h
  rcases List.mem_cons.1 h with h|h
  ·exact absurd h (by decide)
  rcases List.mem_append.1 h with h|h
  ·exact ((zn x).2 _ h).2 rfl
  exact uG xs h
theorem TJ {c:CxV} {r:RoV} (h:∀ u∈r.us,(10:UInt8)∉u.nm):∀ l∈fM c r,(10:UInt8)∉l:=by
 have hsp:∀ (k:Str) (xs:List Int),(10:UInt8)∉k→(10:UInt8)∉k++spell xs:=fun k xs hk hm=>by
  rcases List.mem_append.1 hm with hm|hm
  ·exact hk hm
  exact uG xs hm
 intro l hl
 simp only [fM,lA,List.mem_append,List.mem_map,List.mem_flatMap,List.mem_cons,List.not_mem_nil,or_false] at hl
 rcases hl with (((rfl|⟨p,hp,rfl⟩)|⟨f,hf,hl⟩)|⟨u,hu,rfl⟩)|rfl
 ·exact hsp _ _ (by decide)
 ·exact hsp _ _ (by decide)
 ·simp only [uf,List.mem_cons,List.mem_map] at hl
  rcases hl with rfl|⟨x,hx,rfl⟩
  ·exact hsp _ _ (by decide)
  exact hsp _ _ (by decide)
 ·intro hm
  simp only [wz,List.mem_append] at hm
  rcases hm with ((hm|hm)|hm)|hm
  ·exact absurd hm (by decide)
  ·exact h u hu hm
  ·exact uG _ hm
  split at hm
  ·exact absurd hm (by decide)
  cases hm
 decide
theorem TK {c:CxV} {r:RoV} (h:Hy c r):bI PS0 ((aS 10 (aF (fM c r))).map (bH []))=some (Hz c r):=by
 rw [nM _ (TJ fun u hu=>(h.nms u hu).2),List.map_append,OB c r (fun u hu=>(h.nms u hu).1),jv _ (OI h)]
 rfl
open Go Go.E RowKit
def RdJ (w0:World) (b:Nat) (s:PS) (S:Nat→Prop) (W:World):Prop:=RdI w0 b s S W∧∀ u∈s.us,u.nm.length≤100000
theorem RdJ.FH (w0:World) (b:Nat):zU (RdJ w0 b) :=
 ⟨fun s S S' W W' h k hS=>⟨(RdI.FH w0 b).1 s S S' W W' h.1 k hS,h.2⟩,fun s S W W' j h hj k=>⟨(RdI.FH w0 b).2 s S W W' j h.1 hj k,h.2⟩⟩
def ZI (s:PS) (j:Nat):Prop:=UG s j∧(s.last ∈ [aY,aZ]→s.fs ≠ [])
theorem ZI.step (s:PS) (l:Str) (s':PS) (j:Nat) (h:ZI s j) (hs:iw s l=some s'):ZI s' (j+1):=⟨h.1.step hs,Oh hs h.2⟩
theorem step_nil {s:PS} {l:Str} (hf:fieldsB l = []):iw s l=some s:=by unfold iw;rw [hf]
theorem TL {s:PS} {l:Str} {r:List Str} (hf:fieldsB l=bn::r):iw s l=if s.last = []∧r.length=3 then (match dV r with|some xs=>some (SV s xs)|none=>none) else none:=by
 unfold iw;rw [hf];simp only [];rw [if_pos trivial];rfl
theorem OM {s:PS} {l:Str} {r:List Str} (hf:fieldsB l=aK::r):iw s l=if s.last ∈ [bn,aK]∧r.length=2 then (match dV r with|some xs=>some (rO s xs)|none=>none) else none:=by
 unfold iw;rw [hf];simp only [];rw [if_neg (by decide),if_pos trivial];rfl
theorem TM {s:PS} {l:Str} {r:List Str} (hf:fieldsB l=aY::r):iw s l=if s.last ∈ [bn,aK,aY,aZ] then (match dV r with|some xs=>some (G9 s xs)|none=>none) else none:=by
 unfold iw;rw [hf];simp only [];rw [if_neg (by decide),if_neg (by decide),if_pos trivial];rfl
theorem TN {s:PS} {l:Str} {r:List Str} (hf:fieldsB l=aZ::r):iw s l=if s.last ∈ [aY,aZ] then (match dV r with|some xs=>some (J4 s xs)|none=>none) else none:=by
 unfold iw;rw [hf];simp only [];rw [if_neg (by decide),if_neg (by decide),if_neg (by decide),if_pos trivial];rfl
theorem TP {s:PS} {l:Str} {r:List Str} (hf:fieldsB l=bK::r):iw s l=if s.last ∉ [[],fA] then (match um s r with|some u=>some { Hu s u with last:=bK } | none=>none) else none:=by
 unfold iw;rw [hf];simp only [];rw [if_neg (by decide),if_neg (by decide),if_neg (by decide),if_neg (by decide),if_pos trivial];rfl
theorem step_end {s:PS} {l:Str} {r:List Str} (hf:fieldsB l=fA::r):iw s l=if s.last ∉ [[],fA]∧r.length=0 then some { s with last:=fA } else none:=by
 unfold iw;rw [hf];simp only [];rw [if_neg (by decide),if_neg (by decide),if_neg (by decide),if_neg (by decide),if_neg (by decide),if_pos trivial]
theorem step_bad {s:PS} {l k:Str} {r:List Str} (hf:fieldsB l=k::r) (hk:k≠bn∧k≠aK∧k≠aY∧k≠aZ∧k≠bK∧k≠fA):iw s l=none:=by
 obtain ⟨h1,h2,h3,h4,h5,h6⟩:=hk
 unfold iw;rw [hf];simp only [];rw [if_neg h1,if_neg h2,if_neg h3,if_neg h4,if_neg h5,if_neg h6]
theorem TQ {s:PS} {r:List Str} {u:PU} (h:um s r=some u) (hr:∀ x∈r,x.length≤100000):u.nm.length≤100000:=by
 obtain ⟨nm,ws,xs,hq,_,_,_,_,_,rfl⟩:=BO h
 exact hr nm (uq nm (by rw [hq];exact List.mem_cons_self ..))
def XP (w0:World) (S:Nat→Prop) (W:World):Prop:=Ext w0 W∧∀ k,S k→w0.heap.size≤k
theorem ZJ (w0:World) (b:Nat) (hL:jc w0):DoC 67 #[.pointer (some ⟨b,0,none⟩)] #[] iw ZI (RdJ w0 b) (XP w0):=by
 intro s S W l j hB hj hI hl
 obtain ⟨hI,hnm⟩:=hI
 obtain ⟨⟨c1,c2,c3,c4⟩,hfs⟩:=hB
 have hLW:jc W:=hL.ext hI.Oi
 have hS:∀ k,S k→w0.heap.size≤k∧k<W.heap.size:=fun k hk=>by
  obtain ⟨d,hK⟩:=hI
  exact ⟨(hK.S k hk).1,(hK.S k hk).2.1⟩
 have bad:∀ {e:Ending} {W':World},Pan bQ (fun w'=>Ext W w') e W'→Pan bQ (fun W'=>XP w0 S W'∧∀ k,S k→W'.heap[k]?=W.heap[k]?) e W':=by
  rintro (_|_|_) W' h <;> first|exact ⟨h.1,⟨hI.Oi.trans h.2,fun k hk=>(hS k hk).1⟩,fun k hk=>h.2.block k (Nat.zero_le _) (hS k hk).2⟩|exact h
 have good:∀ {s':PS},(∀ u∈s'.us,u.nm.length≤100000)→∀ {e:Ending} {W':World},Ret (fun _ W'=>RdI w0 b s' S W'∧∀ k,S k→W'.heap[k]?=W.heap[k]?) e W'→Ret (fun _ W'=>RdJ w0 b s' S W'∧∀ k,S k→W'.heap[k]?=W.heap[k]?) e W':=by
  rintro s' hn (_|_|_) W' h <;> first|exact ⟨⟨h.1,hn⟩,h.2⟩|exact h
 cases hf:fieldsB l with
 | nil =>
  refine ⟨fun s' hs=>?_,fun hs=>?_⟩
  ·rw [step_nil hf] at hs
   cases hs
   exact (SQ w0 b s S l W hI hl hf).mono fun e W' h=>good hnm h
  rw [step_nil hf] at hs;cases hs
 | cons k r =>
  have hr:=oN hl hf
  by_cases h1:k=bn
  ·subst h1
   rw [TL hf]
   by_cases ha:s.last = []
   ·by_cases hc:r.length=3
    ·rw [if_pos ⟨ha,hc⟩]
     cases hn:dV r with
     | some xs=>exact ⟨fun s' hs=>(by cases hs;exact (SX w0 b s S l r xs W hI hLW hl hf ha hc hn).mono fun e W' h=>good (s':=SV s xs) hnm h),fun hs=>(by cases hs)⟩
     | none=>exact ⟨fun s' hs=>(by cases hs),fun _=>(Ak w0 b s S l r W hI hl hf (by rw [ha];simp) hc hLW hn).mono fun e W' h=>bad h⟩
    rw [if_neg (fun h=>hc h.2)]
    exact ⟨fun s' hs=>(by cases hs),fun _=>(zi w0 b s S l r W hI hl hf (by rw [ha];simp) hc).mono fun e W' h=>bad h⟩
   rw [if_neg (fun h=>ha h.1)]
   exact ⟨fun s' hs=>(by cases hs),fun _=>(y9 w0 b s S l r W hI hl hf (by simpa using ha)).mono fun e W' h=>bad h⟩
  by_cases h2:k=aK
  ·subst h2
   rw [OM hf]
   by_cases ha:s.last ∈ [bn,aK]
   ·by_cases hc:r.length=2
    ·rw [if_pos ⟨ha,hc⟩]
     cases hn:dV r with
     | some xs=>exact ⟨fun s' hs=>(by cases hs;exact (Oj w0 b s S l r xs W hI hLW hl hf ha hc hn (by omega)).mono fun e W' h=>good (s':=rO s xs) hnm h),fun hs=>(by cases hs)⟩
     | none=>exact ⟨fun s' hs=>(by cases hs),fun _=>(zk w0 b s S l r W hI hl hf ha hc hLW hn).mono fun e W' h=>bad h⟩
    rw [if_neg (fun h=>hc h.2)]
    exact ⟨fun s' hs=>(by cases hs),fun _=>(wF w0 b s S l r W hI hl hf ha hc).mono fun e W' h=>bad h⟩
   rw [if_neg (fun h=>ha h.1)]
   exact ⟨fun s' hs=>(by cases hs),fun _=>(wC w0 b s S l r W hI hl hf ha).mono fun e W' h=>bad h⟩
  by_cases h3:k=aY
  ·subst h3
   rw [TM hf]
   by_cases ha:s.last ∈ [bn,aK,aY,aZ]
   ·rw [if_pos ha]
    cases hn:dV r with
    | some xs=>exact ⟨fun s' hs=>(by cases hs;exact (Tc w0 b s S l r xs W hI hL hl hf ha hr hn (by omega)).mono fun e W' h=>good (s':=G9 s xs) hnm h),fun hs=>(by cases hs)⟩
    | none=>exact ⟨fun s' hs=>(by cases hs),fun _=>(Ap w0 b s S l r W hI hl hf ha hLW hn hr).mono fun e W' h=>bad h⟩
   rw [if_neg ha]
   exact ⟨fun s' hs=>(by cases hs),fun _=>(zf w0 b s S l r W hI hl hf ha).mono fun e W' h=>bad h⟩
  by_cases h4:k=aZ
  ·subst h4
   rw [TN hf]
   by_cases ha:s.last ∈ [aY,aZ]
   ·rw [if_pos ha]
    cases hn:dV r with
    | some xs=>exact ⟨fun s' hs=>(by cases hs;exact (Tq w0 b s S l r xs W hI hL hl hf ha (hfs ha) hr hn (fun f hf=>by have:=c4 f hf;omega) (by omega)).mono fun e W' h=>good (s':=J4 s xs) hnm h),fun hs=>(by cases hs)⟩
    | none=>exact ⟨fun s' hs=>(by cases hs),fun _=>(Aq w0 b s S l r W hI hL hl hf ha (hfs ha) hn).mono fun e W' h=>bad h⟩
   rw [if_neg ha]
   exact ⟨fun s' hs=>(by cases hs),fun _=>(zh w0 b s S l r W hI hl hf ha).mono fun e W' h=>bad h⟩
  by_cases h5:k=bK
  ·subst h5
   rw [TP hf]
   by_cases ha:s.last ∉ [[],fA]
   ·rw [if_pos ha]
    cases hn:um s r with
    | some u =>
     refine ⟨fun s' hs=>?_,fun hs=>(by cases hs)⟩
     cases hs
     refine (TB w0 b s S l r u W hI hL hl hf ha hn (by omega)).mono fun e W' h=>good (fun x hx=>?_) h
     rcases List.mem_append.1 hx with hx|hx
     ·exact hnm x hx
     rw [List.mem_singleton.1 hx];exact TQ hn (dh hl hf)
    | none=>exact ⟨fun s' hs=>(by cases hs),fun _=>(Ei w0 b s S l r W hI hL hl hf ha hn).mono fun e W' h=>bad h⟩
   rw [if_neg ha]
   exact ⟨fun s' hs=>(by cases hs),fun _=>(wE w0 b s S l r W hI hl hf (Classical.not_not.1 ha)).mono fun e W' h=>bad h⟩
  by_cases h6:k=fA
  ·subst h6
   rw [step_end hf]
   by_cases ha:s.last ∉ [[],fA]
   ·by_cases hc:r.length=0
    ·rw [if_pos ⟨ha,hc⟩]
     exact ⟨fun s' hs=>(by cases hs;exact (WB w0 b s S l W hI hl (by rw [hf,List.eq_nil_of_length_eq_zero hc]) ha).mono fun e W' h=>good (s':={ s with last:=fA }) hnm h),fun hs=>(by cases hs)⟩
    rw [if_neg (fun h=>hc h.2)]
    exact ⟨fun s' hs=>(by cases hs),fun _=>(Am w0 b s S l r W hI hl hf ha hc).mono fun e W' h=>bad h⟩
   rw [if_neg (fun h=>ha h.1)]
   exact ⟨fun s' hs=>(by cases hs),fun _=>(Aj w0 b s S l r W hI hl hf (Classical.not_not.1 ha)).mono fun e W' h=>bad h⟩
  have hk:k≠bn∧k≠aK∧k≠aY∧k≠aZ∧k≠bK∧k≠fA:=⟨h1,h2,h3,h4,h5,h6⟩
  rw [step_bad hf hk]
  exact ⟨fun s' hs=>(by cases hs),fun _=>(WH w0 b s S l r W hI hl k hf hk).mono fun e W' h=>bad h⟩
theorem dO.lo {Q:Nat→Prop} {lo:Nat} {W:World} {v:Value} {xs:List Int} (h:dO Q W v xs) (hQ:∀ k,Q k→lo≤k):Ints .i64 lo W v xs:=by
 rcases h with ⟨rfl,rfl⟩|⟨k,off,cap,cs,rfl,h1,h2,h3,h4,h5⟩
 ·exact Sl.nil _ _ _
 refine ⟨by simp,some ⟨k,off,none⟩,cap,rfl,h1,h2,.inr ⟨_,rfl,hQ k h3,?_⟩⟩
 have:=((Row.ay h4).drop off).take xs.length
 rw [h5] at this
 exact this.of_eq (by rw [xg];simp)
theorem BJ.sl {Q:Nat→Prop} {lo:Nat} {W:World} {el:TypeId} {sz n:Nat} {v:Value} {xs:List Value} (h:BJ Q W el sz v n xs) (hQ:∀ k,Q k→lo≤k):Sl lo W v n sz xs:=by
 obtain ⟨⟨h1,h2⟩,h3⟩:=h
 refine Sl.aT (base:=lo) (el:=el) ⟨h1,?_⟩
 rcases h2 with h4|⟨g,cap,cur,rfl,hb,h5⟩
 ·exact .inl h4
 exact .inr ⟨g,cap,cur,rfl,hQ g (h3 g rfl),h5⟩
def rdC (d:RdD) (s:PS):CxV:=⟨d.pv,s.ps,d.fv,d.vs⟩
def rdR (d:RdD) (s:PS):RoV:=⟨s.G,s.P,s.L,d.uv,d.us⟩
theorem TR {α β γ:Type} (f:α→γ) (g:β→γ) (a0:α) (b0:β):∀ (l:List α) (m:List β),l.length=m.length→(∀ i,i<l.length→f (l.getD i a0)=g (m.getD i b0))→l.map f=m.map g
 | [],[],_,_=>rfl
 | [],b::m,h,_=>by simp at h
 | a::l,[],h,_=>by simp at h
 | a::l,b::m,h,hi=>by
  rw [List.map_cons,List.map_cons,show f a=g b from hi 0 (by simp),TR f g a0 b0 l m (by simpa using h) (fun i h2=>hi (i+1) (by simpa using h2))]
theorem RdK.land {w0:World} {b:Nat} {d:RdD} {s:PS} {S:Nat→Prop} {W:World} (h:RdK w0 b d s S W) (hn:∀ u∈s.us,u.nm.length≤100000):(rdC d s).ok w0.heap.size W∧(rdR d s).ok w0.heap.size W∧Says (rdC d s) (rdR d s) s:=by
 have hQ:∀ k,RdQ w0 b S k→w0.heap.size≤k:=fun k q=>q.1
 have hfl:=h.fsl
 have hul:=h.usl
 refine ⟨⟨h.pts.sl hQ,h.fsr.sl hQ,fun f hf=>?_⟩,⟨h.usr.sl hQ,fun u hu=>?_⟩,⟨rfl,?_,rfl,rfl,rfl,?_⟩⟩
 ·obtain ⟨i,hi,rfl⟩:=List.getElem_of_mem hf
  have k:=h.fa i hi
  rw [show d.vs.getD i f0=(rdC d s).fs[i] from au hi] at k
  exact ⟨by have:=k.oi.lo hQ;rw [← k.ox] at this;exact this,k.hv.sl hQ,fun x hx=>(k.ri x hx).lo hQ⟩
 ·obtain ⟨i,hi,rfl⟩:=List.getElem_of_mem hu
  have k:=h.un i hi
  rw [show d.us.getD i u0=(rdR d s).us[i] from au hi] at k
  have hm:(s.us.getD i pu0).nm.length≤100000:=hn _ (by rw [au (by have:i<d.us.length:=hi;omega)];exact List.getElem_mem _)
  have e1:=k.nm
  have e2:=k.gs
  have e3:=k.vs
  have e4:=k.qs
  exact ⟨by have:=k.gi.lo hQ;rw [← e2] at this;exact this,by have:=k.vi.lo hQ;rw [← e3] at this;exact this,by have:=k.qi.lo hQ;rw [← e4] at this;exact this,by rw [e1];omega⟩
 ·show d.vs.map jK=s.fs
  have:=TR jK id f0 ([],[]) d.vs s.fs hfl (fun i hi=>by
   have k:=h.fa i hi
   show ((d.vs.getD i f0).o.xs,(d.vs.getD i f0).hs.map (·.xs))=_
   rw [k.ox,k.hx];rfl)
  rw [List.map_id] at this
  exact this
 show d.us.map iC=s.us
 have:=TR iC id u0 pu0 d.us s.us hul (fun i hi=>by
  have k:=h.un i hi
  show (⟨_,_,_,_,_,_⟩:PU)=_
  rw [k.nm,k.pp,k.gs,k.vs,k.qs,k.wt];rfl)
 rw [List.map_id] at this
 exact this
noncomputable def iU (t:Str):PS ⊕ (Int × Int) :=
 if 40000<t.length then .inr (0,3) else match sD iw PS0 (aS 10 t) 1 with
 | .inr n=>.inr ((n:Int),5)
 | .inl s=>if s.last=fA then (if TG s=0 then .inl s else .inr (0,TG s)) else .inr (0,5)
def eU:List Value:=[.slice none 0 0,.slice none 0 0,.int .i64 0,.int .i64 0,.int .i64 0,.slice none 0 0]
def acM (q:PS ⊕ (Int × Int)) (lo:Nat) (v:Value) (w:World):Prop:=match q with
 | .inr (n,e)=>v = .tuple #[.agg eU.toArray,.int .i64 n,.int .i64 e]
 | .inl s=>∃ c r,v = .tuple #[.agg (eY c r).toArray,.int .i64 0,.int .i64 0]∧c.ok lo w∧r.ok lo w∧Says c r s
open Go Go.E RowKit
theorem T.H9 {k:List E.It} {e:Env} {w:World} {P:Program} {fn:Func} {n m:Nat} {R:Value→World→Prop} {s s2 s3:Tmp} {t:TypeId} {ad:Addr} {cs:List Value} {v2 v3:Value} (hres:fn.results=#[.cell s t,.tmp s2,.tmp s3]) (hg:∀ w,(isAgg t).run P w = .ok true w) (hs:∀ w,(sizeOf t).run P w = .ok m w) (hn:cs.length=m)
  (hv:E.look e s=some (.pointer (some ad))) (h2:E.look e s2=some v2) (h3:E.look e s3=some v3) (hr:Row w ad cs) (h:R (.tuple #[.agg cs.toArray,v2,v3]) w):T (UK P fn n R) (.code .ret::k) e w :=
 T.ret fun a ha=>bodyPost_ret (v:=.tuple #[.agg cs.toArray,v2,v3]) (by
  subst hn
  have h1:=ha.sat.get s _ hv
  have e2:=ha.sat.get s2 _ h2
  have e3:=ha.sat.get s3 _ h3
  simp [results,hres,Array.getD_eq_getD_getElem?,h1,e2,e3,loadVar,asAddr,hg,hs,run_loadCells_list w ad cs hr]) ha.defers h
theorem gJ:∀ c∈eU,c.oneCell'=true:=fun c hc=>by
 simp only [eU,List.mem_cons,List.not_mem_nil,or_false] at hc
 rcases hc with rfl|rfl|rfl|rfl|rfl|rfl <;> rfl
theorem nN {lo:Nat} {w:World} {c:CxV} {r:RoV} (hc:c.ok lo w) (hr:r.ok lo w):∀ u∈eY c r,u.oneCell'=true:=fun u hu=>by
 simp only [eY,List.mem_cons,List.not_mem_nil,or_false] at hu
 rcases hu with rfl|rfl|rfl|rfl|rfl|rfl
 ·exact Sl.one hc.p
 ·exact Sl.one hc.sl
 ·rfl
 ·rfl
 ·rfl
 exact hr.one
theorem WW {w0 w:World} {b:Nat} (he:Ext w0 w) (hb:w0.heap.size≤b) (hB:Blk w b (aH ⟨.slice none 0 0,.slice none 0 0,.slice none 0 0,[],[]⟩ PS0) 129):RdJ w0 b PS0 (fun _=>False) w :=
 ⟨⟨⟨.slice none 0 0,.slice none 0 0,.slice none 0 0,[],[]⟩,he,hb,hB,BJ.nil _ _ _ _,BJ.nil _ _ _ _,rfl,fun i hi=>absurd hi (Nat.not_lt_zero _),fun i hi=>absurd hi (Nat.not_lt_zero _),BJ.nil _ _ _ _,rfl,fun i hi=>absurd hi (Nat.not_lt_zero _),by decide,fun k hk=>hk.elim⟩,fun u hu=>(by cases hu)⟩
theorem TS:ZI PS0 0:=⟨⟨Nat.le_refl _,Nat.le_refl _,Nat.le_refl _,fun f hf=>(by cases hf)⟩,fun h=>absurd h (by decide)⟩
set_option maxHeartbeats 1000000 in
theorem lQ (t:Str) (w:World) (hL:jc w) (ht:t.length≤9223372036854775807) :
  Calls Tryz.prog 21 #[str t] w (Ret fun v w'=>Ext w w'∧acM (iU t) w.heap.size v w'):=by
 refine T.enter (vs:=[str t]) func21 rfl ntmps21 rfl ?_
 refine T.q (L.o (O.alloc zeroValue48 (fun b2 w2 hb2 hz2 he2 hB2=>?_)))
 refine L.a rfl (L.a rfl (L.nil (T.seq (T.q (L.m rfl (L.o (O.gu runUnderlying9 rfl (L.o (O.jS rfl rfl (fun hbig=>?_) (fun hbig=>?_))))))))))
 ·refine L.nil (?_)
  have hp:iU t = .inr (0,3):=by unfold iU;rw [if_pos (by omega)]
  refine T.ct (T.q (L.o (O.build (v:=.agg eU.toArray) (parts:=[]) (vs:=[]) rfl (fun w=>by kernel_rfl) (L.o (O.aC sizeOf48 rfl rfl rfl hB2 (Nat.le_refl _) gJ (fun w11 jg oV=>?_))))))
  have afc:Blk w11 b2 eU 48:=oV
  refine L.a rfl (L.a rfl (L.nil (T.H9 results21 isAgg48 sizeOf48 rfl rfl rfl rfl (Row.ay afc) ⟨he2.upd jg (.inr (by omega)),by rw [hp];rfl⟩)))
 refine L.nil (?_)
 have hsm:t.length≤40000:=by omega
 refine T.cf (T.skip (T.q (L.o (O.alloc zeroValue129 (fun b5 w5 hb5 hz5 he5 hB5=>?_)))))
 have hL2:=hL.ext he2
 refine L.nil (T.seq (T.q (L.m rfl (L.o (O.makeFunc (fi:=[.tmp 5]) (ca:=[]) rfl rfl (L.o (O.call (xs:=[.tmp 12,.tmp 13]) call66 rfl rfl (rC t 67 #[.pointer (some ⟨b5,0,none⟩)] #[] iw PS0 ZI (RdJ w2 b5) (XP w2) w5 (by omega) call67 (RdJ.FH w2 b5) (fun S W W' h k ↦ ⟨h.1.trans k,h.2⟩) (fun S W W' b h hb k ↦ ⟨h.1.upd k (.inr (h.2 b hb)),h.2⟩) (fun s S W h ↦ hL2.ext h.1.Oi) (ZJ w2 b5 hL2) TS ZI.step (WW he5 (by omega) hB5)) (fun v14 w14 hq=>?_))))))))
 obtain ⟨rfl,alo,alp⟩:=hq
 rcases hr:sD iw PS0 (aS 10 t) 1 with s|n
 ·obtain ⟨S,alq⟩:=alo s hr
  obtain ⟨⟨d,alr⟩,als⟩:=alq
  refine L.a rfl (L.nil (T.q (L.m rfl (L.o (O.zS rfl rfl (by simp [DY]) (L.m rfl (L.o (O.buildSlice (el:=9) (parts:=[(0,_)]) (vs:=[(0,_)]) (cs:=([fA].map str)) rfl (fun w=>by kernel_rfl) (fun b18 w18 ab4 ab5 lZ uT=>?_)))))))))
  have MC:=alr.ext lZ
  refine L.o (O.call (xs:=[.tmp 5,.tmp 18]) call68 rfl rfl (aW 0 _ [fA] b5 (aH d s) s.last w18 (Strs.ay uT rfl (by decide) (Nat.zero_le _)) MC.row rfl) (fun v19 w19 hq=>?_))
  obtain ⟨rfl,rfl⟩:=hq
  rcases Classical.em (s.last=fA) with hk|hk
  ·rw [decide_eq_true (show s.last ∈ [fA] by rw [hk];simp)]
   obtain ⟨hc,hro,aif⟩:=MC.land als
   have hrow:Blk w19 b5 (aH d s) 129:=MC.row
   refine L.o (O.not rfl (L.o (O.aj rfl rfl (L.nil (T.cf (T.skip (T.seq (T.q (L.o (O.fieldAddr runUnderlying129 rfl sizeOf48 rfl (L.o (O.ak isAgg48 sizeOf48 rfl rfl ((Row.ay hrow).part 0 6) (L.o (O.call (xs:=[.tmp 25]) call34 rfl rfl (uZ w2.heap.size (rdC d s) (rdR d s) w19 hc hro) (fun v26 w26 hq=>?_)))))))))))))))
   obtain ⟨rfl,ZK⟩:=hq
   rw [aif.err]
   have ZL:=MC.e.trans ZK
   refine L.a rfl (L.nil (T.q (L.m rfl (L.o (O.jT rfl rfl (fun he=>?_) (fun he=>?_))))))
   ·refine L.nil (?_)
    have hp:iU t = .inr (0,TG s):=by unfold iU;rw [if_neg (by omega),hr];simp only [];rw [if_pos hk,if_neg he]
    refine T.ct (T.q (L.o (O.build (v:=.agg eU.toArray) (parts:=[]) (vs:=[]) rfl (fun w=>by kernel_rfl) (L.m rfl (L.o (O.aC sizeOf48 rfl rfl rfl (Blk.ext hB2 ZL) (Nat.le_refl _) gJ (fun w29 agk aa3=>?_)))))))
    replace agk:Upd b2 w26 w29:=agk
    have alu:Blk w29 b2 eU 48:=aa3
    refine L.a rfl (L.a rfl (L.nil (T.H9 results21 isAgg48 sizeOf48 rfl rfl rfl rfl (Row.ay alu) ⟨(he2.trans ZL).upd agk (.inr (by omega)),by rw [hp];rfl⟩)))
   refine L.nil (?_)
   have hp:iU t = .inl s:=by unfold iU;rw [if_neg (by omega),hr];simp only [];rw [if_pos hk,if_pos (by omega)]
   refine T.cf (T.skip (T.q (L.o (O.fieldAddr runUnderlying129 rfl sizeOf48 rfl (L.o (O.ak isAgg48 sizeOf48 rfl rfl ((Row.ay (Blk.ext hrow ZK)).part 0 6) (L.o (O.aC sizeOf48 rfl rfl rfl (Blk.ext hB2 ZL) (Nat.le_refl _) (nN hc hro) (fun w32 acN alv=>?_)))))))))
   replace acN:Upd b2 w26 w32:=acN
   have alx:Blk w32 b2 (eY (rdC d s) (rdR d s)) 48:=alv
   have aii:=Blk.lt hB2
   refine L.a rfl (L.a rfl (L.nil (T.H9 results21 isAgg48 sizeOf48 rfl rfl rfl rfl (Row.ay alx) ⟨(he2.trans ZL).upd acN (.inr (by omega)),by rw [hp];exact ⟨rdC d s,rdR d s,rfl,((hc.ext ZK).loc acN aii).mono (by omega),((hro.ext ZK).loc acN aii).mono (by omega),aif⟩⟩)))
  rw [decide_eq_false (show s.last ∉ [fA] by simpa using hk)]
  have hp:iU t = .inr (0,5):=by unfold iU;rw [if_neg (by omega),hr];simp only [];rw [if_neg hk]
  refine L.o (O.not rfl (L.o (O.aj rfl rfl (L.nil (T.ct (T.q (L.o (O.build (v:=.agg eU.toArray) (parts:=[]) (vs:=[]) rfl (fun w=>by kernel_rfl) (L.m rfl (L.o (O.aC sizeOf48 rfl rfl rfl (Blk.ext hB2 MC.e) (Nat.le_refl _) gJ (fun w22 ZM agl=>?_))))))))))))
  replace ZM:Upd b2 w19 w22:=ZM
  have agm:Blk w22 b2 eU 48:=agl
  refine L.a rfl (L.a rfl (L.nil (T.H9 results21 isAgg48 sizeOf48 rfl rfl rfl rfl (Row.ay agm) ⟨(he2.trans MC.e).upd ZM (.inr (by omega)),by rw [hp];rfl⟩)))
 obtain ⟨S,EM⟩:=alp n hr
 refine L.a rfl (L.nil (T.q (L.m rfl (L.o (O.Cm rfl rfl (by have:=JK _ _ _ _ _ hr;simp [DY];omega) (?_))))))
 have hp:iU t = .inr ((n:Int),5):=by unfold iU;rw [if_neg (by omega),hr]
 refine L.m rfl (L.p (L.p (L.p (L.o (O.ah rfl rfl (L.nil (T.ct (T.q (L.o (O.build (v:=.agg eU.toArray) (parts:=[]) (vs:=[]) rfl (fun w=>by kernel_rfl) (L.m rfl (L.o (O.aC sizeOf48 rfl rfl rfl (Blk.ext hB2 EM.1) (Nat.le_refl _) gJ (fun w22 ZM agl=>?_))))))))))))))
 replace ZM:Upd b2 w14 w22:=ZM
 have agm:Blk w22 b2 eU 48:=agl
 refine L.a rfl (L.a rfl (L.nil (T.H9 results21 isAgg48 sizeOf48 rfl rfl rfl rfl (Row.ay agm) ⟨(he2.trans EM.1).upd ZM (.inr (by omega)),by rw [hp];rfl⟩)))
end Go.Proofs.YtnlonpcbgjbbaaaGreatDoor
