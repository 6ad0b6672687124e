/-
  BlocksReads, part 17 of its proof: that it returns true for every input, and each argument reads behind the call as it read before. Conditions: the listed variables read as the program's text lays them (tied by the card).
-/
import Derived.Test.YtnlonpcbgjbbaaaGreatDoorWBlocksReads15
import Derived.Lib.AtoiAllCases
import Derived.Test.YtnlonpcbgjbbaaaGreatDoorWBlocksReads16
set_option linter.unusedVariables false
set_option linter.unusedSimpArgs false
set_option maxRecDepth 20000
set_option linter.unusedVariables false
set_option linter.unusedSimpArgs false
set_option maxRecDepth 20000
namespace Go.Proofs.YtnlonpcbgjbbaaaGreatDoor
open Go.Proofs.Tryz (call108 call120 call122 call123 call34 call66 call67 call68 func123 func21 func67 isAgg125 isAgg23 isAgg3 isAgg44 isAgg48 isAgg51 isAgg9 ntmps123 ntmps21 ntmps67 results123 results21 results67 runUnderlying125 runUnderlying127 runUnderlying129 runUnderlying23 runUnderlying25 runUnderlying30 runUnderlying44 runUnderlying46 runUnderlying48 runUnderlying51 runUnderlying61 runUnderlying9 sizeOf125 sizeOf127 sizeOf23 sizeOf25 sizeOf3 sizeOf30 sizeOf4 sizeOf44 sizeOf46 sizeOf48 sizeOf51 sizeOf9 zeroValue129 zeroValue48 zeroValue51)
open Go Go.E RowKit
attribute [local irreducible] Go.E.T Go.E.L Go.E.O Go.E.Ob
def iw:Str→Str→List Str
 | cur,[]=>if cur = [] then [] else [cur]
 | cur,c::r=>if c=32 then (if cur = [] then iw [] r else cur::iw [] r) else iw (cur ++ [c]) r
theorem yG:∀ (u:Str) (cur r:Str),(∀ b∈u,b≠32)→iw cur (u++r)=iw (cur++u) r
 | [],cur,r,_=>by simp
 | c::u,cur,r,h=>by
  have hc:¬ c=32:=h c (List.mem_cons_self ..)
  rw [List.cons_append,iw,if_neg hc,yG u _ r (fun b hb=>h b (List.mem_cons_of_mem _ hb)),List.append_assoc];rfl
theorem Dx {n b0 b1 b2 b3:Nat} (h0:b0≠32):(Lib.decodeN n b0 b1 b2 b3).1≠32∧(Lib.decodeN n b0 b1 b2 b3).2≤4∧(1<(Lib.decodeN n b0 b1 b2 b3).2→b1≠32)∧(2<(Lib.decodeN n b0 b1 b2 b3).2→b2≠32)∧(3<(Lib.decodeN n b0 b1 b2 b3).2→b3≠32):=by
 unfold Lib.decodeN
 repeat' split
 all_goals (refine ⟨?_,?_,?_,?_,?_⟩ <;> (try simp only) <;> omega)
theorem oz {l:Str} {i:Nat} : (l.getD i 0).toNat=32↔l.getD i 0=32:=⟨fun h=>UInt8.toNat_inj.1 h,fun h=>by rw [h];rfl⟩
theorem Ja (s:ByteArray) (pos:Nat) (h:s.data.toList.getD pos 0≠32):(Utf8.decode s pos).1≠32∧∀ b∈(s.data.toList.drop pos).take (Utf8.decode s pos).2,b≠32:=by
 obtain ⟨h1,h2,h3,h4,h5⟩:=Dx (n:=s.data.toList.length-pos) (b0:=(s.data.toList.getD pos 0).toNat) (b1:=(s.data.toList.getD (pos+1) 0).toNat) (b2:=(s.data.toList.getD (pos+2) 0).toNat) (b3:=(s.data.toList.getD (pos+3) 0).toNat) (fun e=>h (oz.1 e))
 rw [← Lib.decode_N] at h1 h2 h3 h4 h5
 refine ⟨h1,fun b hb=>?_⟩
 obtain ⟨j,hj,rfl⟩:=List.getElem_of_mem hb
 have hj':j<(Utf8.decode s pos).2:=by rw [List.length_take] at hj;omega
 have e:((s.data.toList.drop pos).take (Utf8.decode s pos).2)[j]=s.data.toList.getD (pos+j) 0:=by
  rw [List.getElem_take,List.getElem_drop,List.getD_eq_getElem?_getD,List.getElem?_eq_getElem];rfl
 rw [e]
 match j,hj' with
 | 0,_=>exact h
 | 1,hj=>exact fun e=>h3 hj (oz.2 e)
 | 2,hj=>exact fun e=>h4 hj (oz.2 e)
 | 3,hj=>exact fun e=>h5 hj (oz.2 e)
 | j+4,hj=>omega
theorem F8 (s:ByteArray) (pos:Nat) (h:s.data.toList.getD pos 0=32):Utf8.decode s pos=(32,1):=by
 rw [Lib.decode_N,h]
 rfl
theorem Jb (s:ByteArray):∀ (f pos:Nat) (st:Option Nat) (acc:List (Nat × Nat)),s.size≤pos+f→pos≤s.size→(∀ a,st=some a→a<pos) →
  acc.map (fun p=>Lib.pieceU s.data.toList p.1 p.2)++iw (Lib.openPiece s.data.toList st pos) (s.data.toList.drop pos)=(Lib.closeSpans s (Lib.spansFromP (fun r=>decide (r=32)) s f pos st acc)).map (fun p=>Lib.pieceU s.data.toList p.1 p.2):=by
 have hlen:s.data.toList.length=s.size:=(Lib.size_eq s).symm
 have hend:∀ (st:Option Nat) (acc:List (Nat × Nat)),(∀ a,st=some a→a<s.size)→acc.map (fun p=>Lib.pieceU s.data.toList p.1 p.2)++iw (Lib.openPiece s.data.toList st s.size) (s.data.toList.drop s.size)=(Lib.closeSpans s (acc,st)).map (fun p=>Lib.pieceU s.data.toList p.1 p.2):=by
  intro st acc hst
  rw [List.drop_eq_nil_of_le (by omega)]
  cases st with
  | none=>simp [Lib.closeSpans,Lib.openPiece,iw]
  | some a =>
   have:=Lib.pieceU_ne s.data.toList a s.size (hst a rfl) (by omega)
   simp [Lib.closeSpans,Lib.openPiece,iw,this]
 intro f
 induction f with
 | zero =>
  intro pos st acc h hp hst
  obtain rfl:pos=s.size:=by omega
  exact hend st acc hst
 | succ f ih =>
  intro pos st acc h hp hst
  by_cases hlt:pos<s.size
  ·have hw:=Lib.width_pos s pos
   have hwn:pos+(Utf8.decode s pos).2≤s.size:=by
    have:=Lib.decodeN_le_n' (s.size-pos) (s.get! pos).toNat (s.get! (pos+1)).toNat (s.get! (pos+2)).toNat (s.get! (pos+3)).toNat (by omega)
    rw [← Lib.decode_at] at this
    omega
   by_cases hb:s.data.toList.getD pos 0=32
   ·have hd:=F8 s pos hb
    have hcons:s.data.toList.drop pos=32::s.data.toList.drop (pos+1):=by
     rw [List.drop_eq_getElem_cons (by omega)]
     congr 1
     rw [← hb,List.getD_eq_getElem?_getD,List.getElem?_eq_getElem];rfl
    rw [hcons,iw,if_pos rfl]
    simp only [Lib.spansFromP,if_pos hlt,hd,decide_true,if_true]
    cases st with
    | none =>
     have:=ih (pos+1) none acc (by omega) (by omega) (fun a h=>by cases h)
     simpa [Lib.openPiece] using this
    | some a =>
     have hpn:=Lib.pieceU_ne s.data.toList a pos (hst a rfl) (by omega)
     have:=ih (pos+1) none (acc ++ [(a,pos)]) (by omega) (by omega) (fun a h=>by cases h)
     simpa [Lib.openPiece,hpn] using this
   obtain ⟨h1,h2⟩:=Ja s pos hb
   have hsp:s.data.toList.drop pos=(s.data.toList.drop pos).take (Utf8.decode s pos).2++s.data.toList.drop (pos+(Utf8.decode s pos).2):=by
    rw [← List.drop_drop,List.take_append_drop]
   rw [hsp,yG _ _ _ h2]
   simp only [Lib.spansFromP,if_pos hlt,decide_eq_false h1,Bool.false_eq_true,if_false]
   cases st with
   | none =>
    have:=ih (pos+(Utf8.decode s pos).2) (some pos) acc (by omega) hwn (fun a h=>by cases h;omega)
    have e:([]:List UInt8)++(s.data.toList.drop pos).take (Utf8.decode s pos).2=Lib.pieceU s.data.toList pos (pos+(Utf8.decode s pos).2):=by
     unfold Lib.pieceU
     rw [List.nil_append,Nat.add_sub_cancel_left]
    simp only [Lib.openPiece] at this ⊢
    rw [e]
    exact this
   | some a =>
    have:=ih (pos+(Utf8.decode s pos).2) (some a) acc (by omega) hwn (fun b h=>by cases h;have:=hst a rfl;omega)
    simp only [Lib.openPiece] at this ⊢
    rw [Lib.pieceU_grow _ _ _ _ (Nat.le_of_lt (hst a rfl))]
    exact this
  obtain rfl:pos=s.size:=by omega
  rw [Lib.spansFromP_end _ _ _ _ _ _ hlt]
  exact hend st acc hst
theorem AY (s:Str):fieldsB s=iw [] s:=by
 have h:=Jb ⟨s.toArray⟩ s.length 0 none [] (by simp [ByteArray.size]) (Nat.zero_le _) (fun a h=>by cases h)
 simp only [List.map_nil,List.nil_append,Lib.openPiece,List.drop_zero] at h
 rw [h]
 simp only [fieldsB,Lib.goFieldsP,Lib.spansOfP,List.map_map]
 rw [show (⟨s.toArray⟩:ByteArray).size=s.length by simp [ByteArray.size]]
 congr 1
 funext p
 simp [Lib.pieceU]
def wide:Str→Str
 | []=>[]
 | c::r=>if c=32 then 32::32::32::wide r else c::wide r
open Go Go.E RowKit
def F9 (c:UInt8):Bool:=decide (48≤c.toNat) && decide (c.toNat≤57)
theorem iR {c:UInt8} : F9 c=true↔48≤c.toNat∧c.toNat≤57:=by simp [F9]
def tX (acc:Nat) (s:Str):Nat:=s.foldl (fun a c=>a*10+(c.toNat-48)) acc
theorem wI (acc:Nat):tX acc []=acc:=by unfold tX;exact List.foldl_nil
theorem ny (acc:Nat) (c:UInt8) (r:Str):tX acc (c::r)=tX (acc*10+(c.toNat-48)) r:=by unfold tX;exact List.foldl_cons ..
theorem Gf (l:Str) (acc:Nat) (c:UInt8):tX acc (l ++ [c])=tX acc l*10+(c.toNat-48):=by
 unfold tX
 rw [List.foldl_append,List.foldl_cons,List.foldl_nil]
theorem Dy (c:UInt8):tX 0 [c]=c.toNat-48:=by rw [ny,wI];omega
theorem Qg (l:Str):∀ acc:Nat,acc≤tX acc l:=by
 induction l with
 | nil=>intro acc;rw [wI];exact Nat.le_refl _
 | cons c r ih=>intro acc;rw [ny];exact Nat.le_trans (by omega) (ih _)
def canon (s:Str):Bool:=!s.isEmpty && s.all F9 && (decide (s.length=1) || decide (s.getD 0 0≠48))
theorem ig {s:Str} : canon s=true↔s ≠ []∧(∀ c∈s,F9 c=true)∧(s.length=1∨s.getD 0 0≠48):=by
 simp only [canon,Bool.and_eq_true,Bool.or_eq_true,decide_eq_true_eq,List.all_eq_true,Bool.not_eq_true',List.isEmpty_eq_false_iff,and_assoc]
theorem AZ {c:UInt8} (h:F9 c=true):UInt8.ofNat (48+(c.toNat-48))=c:=by
 obtain ⟨h1,h2⟩:=iR.1 h
 rw [show 48+(c.toNat-48)=c.toNat by omega]
 exact UInt8.ofNat_toNat
theorem Gg {d:Nat} (h:d<10):(UInt8.ofNat (48+d)).toNat=48+d:=by
 rw [UInt8.toNat_ofNat'];omega
theorem TY:∀ (s:Str),s ≠ []→(∀ c∈s,F9 c=true)→s.getD 0 0≠48→1≤tX 0 s
 | [],h,_,_=>absurd rfl h
 | c::r,_,hd,h=>by
  have h1:=(iR.1 (hd c (List.mem_cons_self ..))).1
  have h2:c≠48:=h
  have h3:c.toNat≠48:=fun e=>h2 (UInt8.toNat_inj.1 e)
  rw [ny]
  exact Nat.le_trans (by omega) (Qg r (0*10+(c.toNat-48)))
theorem jl:∀ (n:Nat) (s:Str),s.length=n→canon s=true→Lib.decDigits (tX 0 s)=s
 | 0,s,hl,h=>by
  obtain ⟨h1,_⟩:=ig.1 h
  exact absurd (List.eq_nil_of_length_eq_zero hl) h1
 | n+1,s,hl,h=>by
  obtain ⟨h1,h2,h3⟩:=ig.1 h
  obtain ⟨l,c,rfl⟩:∃ l c,s=l ++ [c]:=⟨s.dropLast,s.getLast h1,(List.dropLast_concat_getLast h1).symm⟩
  have hc:=h2 c (by simp)
  obtain ⟨hc1,hc2⟩:=iR.1 hc
  rw [Gf]
  cases l with
  | nil =>
   rw [wI,List.nil_append]
   rw [Lib.decDigits_one (by omega),show 0*10+(c.toNat-48)=c.toNat-48 by omega,AZ hc]
  | cons d l =>
   have hd0:(d::l).getD 0 0≠48:=by
    rcases h3 with h3|h3
    ·simp at h3
    exact h3
   have hds:∀ c∈d::l,F9 c=true:=fun x hx=>h2 x (List.mem_append_left _ hx)
   have ih:=jl n (d::l) (by simp at hl ⊢;omega) (ig.2 ⟨by simp,hds,.inr hd0⟩)
   have hp:=TY (d::l) (by simp) hds hd0
   rw [Lib.decDigits,dif_neg (by omega),show (tX 0 (d::l)*10+(c.toNat-48)) / 10=tX 0 (d::l) by omega,show (tX 0 (d::l)*10+(c.toNat-48)) % 10=c.toNat-48 by omega,ih,AZ hc]
theorem uX:∀ (f u:Nat),u<f→canon (Lib.decDigits u)=true∧tX 0 (Lib.decDigits u)=u
 | 0,u,h=>absurd h (Nat.not_lt_zero _)
 | f+1,u,h=>by
  by_cases hu:u<10
  ·rw [Lib.decDigits_one hu]
   have hv:=Gg hu
   refine ⟨ig.2 ⟨by simp,fun c hc=>?_,.inl rfl⟩,?_⟩
   ·rw [List.mem_singleton.1 hc,iR,hv];omega
   rw [Dy,hv];omega
  obtain ⟨h1,h2⟩:=uX f (u / 10) (by omega)
  have hv:=Gg (show u % 10<10 by omega)
  rw [Lib.decDigits,dif_neg hu]
  obtain ⟨k1,k2,k3⟩:=ig.1 h1
  refine ⟨ig.2 ⟨by simp,fun c hc=>?_,.inr ?_⟩,?_⟩
  ·rcases List.mem_append.1 hc with hc|hc
   ·exact k2 c hc
   rw [List.mem_singleton.1 hc,iR,hv];omega
  ·obtain ⟨d,l,e⟩:=List.exists_cons_of_ne_nil k1
   rw [e] at k3 h2 k2 ⊢
   rcases k3 with k3|k3
   ·have hl:l = []:=List.eq_nil_of_length_eq_zero (by simpa using k3)
    subst hl
    intro h0
    have h0':d=48:=h0
    subst h0'
    rw [Dy] at h2
    have:(48:UInt8).toNat-48=0:=rfl
    omega
   exact k3
  rw [Gf,h2,hv];omega
theorem rC (u:Nat):canon (Lib.decDigits u)=true∧tX 0 (Lib.decDigits u)=u:=uX (u+1) u (Nat.lt_succ_self u)
theorem jL:∀ (s:Str) (acc:Nat),(∀ c∈s,F9 c=true)→tX acc s≤1000000000→Lib.parseUint10 acc s = .ok (tX acc s)
 | [],acc,_,_=>by rw [wI];rfl
 | c::r,acc,hd,hv=>by
  have h1:=iR.1 (hd c (List.mem_cons_self ..))
  have h2:=Qg r (acc*10+(c.toNat-48))
  have hv':tX (acc*10+(c.toNat-48)) r≤1000000000:=by rw [ny] at hv;exact hv
  rw [Lib.parseUint10,if_pos h1,if_neg (by omega),if_neg (by omega),ny]
  exact jL r _ (fun x hx=>hd x (List.mem_cons_of_mem _ hx)) hv'
theorem Qh {n:Int} (h1 : -1000000000≤n) (h2:n≤1000000000):Lib.atoiAll (Lib.itoa n) = .ok n:=by
 unfold Lib.itoa
 split
 ·rename_i hn
  obtain ⟨k1,k2⟩:=rC n.natAbs
  obtain ⟨c1,c2,_⟩:=ig.1 k1
  have hp:=jL (Lib.decDigits n.natAbs) 0 c2 (by omega)
  rw [Lib.atoiAll]
  rw [if_pos (by right;rfl),Lib.parseMag,if_neg c1,hp,k2]
  simp only []
  rw [if_neg (by intro h;exact h.1 rfl),if_neg (by omega),if_pos (show (45:UInt8).toNat=45 from rfl)]
  congr 1
  omega
 rename_i hn
 obtain ⟨k1,k2⟩:=rC n.toNat
 obtain ⟨c1,c2,_⟩:=ig.1 k1
 have hp:=jL (Lib.decDigits n.toNat) 0 c2 (by omega)
 obtain ⟨d,l,e⟩:=List.exists_cons_of_ne_nil c1
 have hd:=iR.1 (c2 d (by rw [e];exact List.mem_cons_self ..))
 rw [e] at hp k2 ⊢
 rw [Lib.atoiAll]
 rw [if_neg (by omega),Lib.parseMag,if_neg (by simp),hp,k2]
 simp only []
 rw [if_neg (by omega),if_neg (by omega),if_neg (by omega)]
 congr 1
 omega
def Ua:Str→Option Int
 | []=>none
 | c::r=>if c=45 then (if canon r=true∧r ≠ [48]∧tX 0 r≤1000000000 then some (-(tX 0 r:Int)) else none) else if canon (c::r)=true∧tX 0 (c::r)≤1000000000 then some (tX 0 (c::r):Int) else none
theorem Qi {n:Int} (h1 : -1000000000≤n) (h2:n≤1000000000):Ua (Lib.itoa n)=some n:=by
 unfold Lib.itoa
 split
 ·rename_i hn
  obtain ⟨k1,k2⟩:=rC n.natAbs
  have hne:Lib.decDigits n.natAbs ≠ [48]:=fun e=>by
   rw [e,Dy] at k2
   have:(48:UInt8).toNat-48=0:=rfl
   omega
  rw [Ua,if_pos rfl,if_pos ⟨k1,hne,by omega⟩,k2]
  exact congrArg some (by omega)
 rename_i hn
 obtain ⟨k1,k2⟩:=rC n.toNat
 obtain ⟨c1,c2,_⟩:=ig.1 k1
 obtain ⟨d,l,e⟩:=List.exists_cons_of_ne_nil c1
 have hd:=iR.1 (c2 d (by rw [e];exact List.mem_cons_self ..))
 rw [e] at k1 k2 ⊢
 rw [Ua,if_neg (fun h=>by subst h;revert hd;decide),if_pos ⟨k1,by omega⟩,k2]
 exact congrArg some (by omega)
theorem Qj:∀ {s:Str} {n:Int},Ua s=some n→s=Lib.itoa n ∧ -1000000000≤n∧n≤1000000000
 | [],n,h=>by cases h
 | c::r,n,h=>by
  rw [Ua] at h
  split at h
  ·rename_i hc
   split at h
   ·rename_i hh
    obtain ⟨h1,h2,h3⟩:=hh
    cases h
    have hne:tX 0 r≠0:=fun e=>by
     have:=jl _ r rfl h1
     rw [e,Lib.decDigits_one (by decide)] at this
     exact h2 this.symm
    refine ⟨?_,by omega,by omega⟩
    rw [Lib.itoa,if_pos (by omega),hc,show (-(tX 0 r:Int)).natAbs=tX 0 r by omega,jl _ r rfl h1]
   cases h
  split at h
  ·rename_i hh
   obtain ⟨h1,h2⟩:=hh
   cases h
   refine ⟨?_,by omega,by omega⟩
   rw [Lib.itoa,if_neg (by omega),Int.toNat_natCast,jl _ _ rfl h1]
  cases h
theorem MH {n:Int} (h1 : -1000000000≤n) (h2:n≤1000000000):pO (Lib.itoa n)=some n:=by rw [Ko (Qh h1 h2),if_pos ⟨rfl,h1,h2⟩]
theorem Ub (s:Str):pO s=Ua s:=by
 cases h:Ua s with
 | some n =>
  obtain ⟨h1,h2,h3⟩:=Qj h
  rw [h1];exact MH h2 h3
 | none =>
  cases k:pO s with
  | none=>rfl
  | some n =>
   obtain ⟨_,k2,k3,k4⟩:=tN k
   rw [← k2,Qi k3 k4] at h
   cases h
open Go Go.E RowKit
attribute [local irreducible] Go.E.ObX Go.E.ObG Go.E.ObK
theorem AV.form {Q:Nat→Prop} {W:World} {el:TypeId} {sz n:Nat} {v:Value} {xs:List Value} (h:AV Q W el sz v n xs) (hn:0<n):∃ g cap cs,v = .slice (some ⟨g,0,none⟩) n cap∧Q g∧Blk W g cs el∧n≤cap∧cap≤maxLen∧cs.length=cap*sz∧cs.take (n*sz)=xs:=by
 obtain ⟨⟨_,h2⟩,h3⟩:=h
 rcases h2 with ⟨_,h4⟩|⟨g,cap,cur,rfl,hb,hg,hn',hm,hsz,htk⟩
 ·omega
 exact ⟨g,cap,cur.toList,rfl,h3 g rfl,by unfold Blk;simpa using hg,hn',hm,by simpa using hsz,by simpa using htk⟩
theorem A8:∀ (vs:List FaV) (i:Nat) (f:FaV),i<vs.length→f.o.v=(vs.getD i f0).o.v→dI (vs.set i f)=(dI vs).set (i*2+1) f.hv
 | [],i,f,hi,_=>absurd hi (Nat.not_lt_zero _)
 | a::r,0,f,_,h=>by
  have h':f.o.v=a.o.v:=h
  simp [dI,FaV.cells,h']
 | a::r,i+1,f,hi,h=>by
  have ih:=A8 r i f (by simpa using hi) h
  have e:∀ (x:FaV) (l:List FaV),dI (x::l)=x.o.v::x.hv::dI l:=fun x l=>rfl
  rw [List.set_cons_succ,e,e,ih,show (i+1)*2+1=(i*2+1)+1+1 by omega,List.set_cons_succ,List.set_cons_succ]
theorem Gh {α:Type} {l:List α} {i j:Nat} {x d:α} : (l.set i x).getD j d=if i=j∧i<l.length then x else l.getD j d:=by
 simp only [List.getD_eq_getElem?_getD,List.getElem?_set]
 by_cases h:i=j
 ·subst h
  by_cases hl:i<l.length
  ·simp [hl]
  simp [hl]
 simp [h]
theorem Gi {fs:List (List Int × List (List Int))} {x:List Int} (h:fs ≠ []):zx fs x=fs.set (fs.length-1) ((fs.getD (fs.length-1) ([],[])).1,(fs.getD (fs.length-1) ([],[])).2 ++ [x]):=by
 have e:=List.dropLast_concat_getLast h
 generalize fs.getLast h=f at e
 generalize fs.dropLast=l at e
 subst e
 simp [zx,List.getD]
def Jc (s:PS) (xs:List Int):PS:={ s with fs:=zx s.fs xs,last:=bG }
def dR (d:RdD):FaV:=d.vs.getD (d.vs.length-1) f0
def Jd (d:RdD) (u x:Value) (xs:List Int):RdD:={ d with vs:=d.vs.set (d.vs.length-1) ⟨(dR d).o,u,(dR d).hs ++ [⟨x,xs⟩]⟩ }
def Xe (ob:Option Nat) (m:Nat) (hs:List RiV) (xs:List Int) (v:Value) (W:World):Prop:=∃ u,I8 ob m 30 1 (hs.length+1) (aJ hs ++ [u]) v W∧dJ (AX m) W u xs
theorem Xe.ext {ob:Option Nat} {m:Nat} {hs:List RiV} {xs:List Int} {v:Value} {W W':World} (h:Xe ob m hs xs v W) (k:Ext W W'):Xe ob m hs xs v W':=by
 obtain ⟨u,h1,h2⟩:=h
 exact ⟨u,h1.ext k,h2.stay fun j cs q B=>⟨q,Blk.ext B k⟩⟩
theorem Xe.updB {ob:Option Nat} {m b:Nat} {t:TypeId} {hs:List RiV} {xs:List Int} {cs:List Value} {v:Value} {W W':World} (h:Xe ob m hs xs v W) (k:Upd b W W') (hB:Blk W b cs t) (ht:30≠t) (hm:b<m):Xe ob m hs xs v W':=by
 obtain ⟨u,h1,h2⟩:=h
 exact ⟨u,h1.updB k hB ht,h2.stay fun j cs q B=>⟨q,Blk.upd B k (fun e=>by unfold AX at q;omega)⟩⟩
def ZN (ob:Option Nat) (m:Nat) (xs:List Int) (v:Value) (W:World):Prop:=∃ k u,v = .slice (some ⟨k,0,none⟩) 1 1∧ob≠some k∧Blk W k [u] 30∧dJ (AX m) W u xs
theorem ZN.st {ob:Option Nat} {m:Nat} {xs:List Int} (hm:∀ k,ob=some k→k<m):∀ v w w',dA ob w w'→ZN ob m xs v w→ZN ob m xs v w':=fun _ _ _ h ⟨k,u,h1,h2,h3,h4⟩=>⟨k,u,h1,h2,h.blk (cs:=[u]) h3 h2,h4.Vb hm h⟩
theorem RdK.Xf {w0:World} {b g:Nat} {d:RdD} {s:PS} {S:Nat→Prop} {W W':World} (h:RdK w0 b d s S W) {xs:List Int} {u x:Value} {cap:Nat} {cs:List Value} (hn:0<d.vs.length) (hfv:d.fv = .slice (some ⟨g,0,none⟩) d.vs.length cap) (hgq:RdQ w0 b S g) (hgB:Blk W g cs 127) (hcap:d.vs.length≤cap) (hmax:cap≤maxLen) (hcs:cs.length=cap*2) (htk:cs.take (d.vs.length*2)=dI d.vs)
  (hu:∀ k,k<W.heap.size→k≠b→k≠g→(dR d).hv.ownBlock≠some k→W'.heap[k]?=W.heap[k]?) (he:Ext w0 W') (hz:W.heap.size≤W'.heap.size)
  (hB:Blk W' b (aG (Jd d u x xs) (Jc s xs)) 129) (hg':Blk W' g (cs.set ((d.vs.length-1)*2+1) u) 127) (hG:I8 (dR d).hv.ownBlock W.heap.size 30 1 ((dR d).hs.length+1) (aJ (dR d).hs ++ [x]) u W') (hI:dJ (AX W.heap.size) W' x xs):RdK w0 b (Jd d u x xs) (Jc s xs) S W':=by
 have hfa:=h.fa (d.vs.length-1) (by omega)
 have hfl:=h.fsl
 have afE:s.fs ≠ []:=fun e=>by rw [e] at hfl;simp only [List.length_nil] at hfl;omega
 have hhv:AV (RdQ w0 b S) W 30 1 (dR d).hv (dR d).hs.length (aJ (dR d).hs):=hfa.hv
 have hk:∀ j cs t,t≠127→t≠30→RdQ w0 b S j→Blk W j cs t→RdQ w0 b S j∧Blk W' j cs t:=fun j cs t ht ht2 q B=>⟨q,(hu j B.lt q.2.1 (fun e=>by
  subst e
  have h1:W.heap[j]?=_:=B
  have h2:W.heap[j]?=_:=hgB
  rw [h1] at h2
  cases h2
  exact ht rfl) (ng hhv.1 B (Ne.symm ht2))).trans B⟩
 have hkI:∀ k cs,RdQ w0 b S k→Blk W k cs 3→RdQ w0 b S k∧Blk W' k cs 3:=fun k cs q B=>hk k cs _ (by decide) (by decide) q B
 have hlt:=Blk.lt (cs:=aG d s) h.row
 have hz0:=h.e.size
 have hnew:∀ k,W.heap.size≤k→RdQ w0 b S k:=fun k h1=>⟨by omega,by omega,fun hk=>by have:=(h.S k hk).2.1;omega⟩
 have hvl:(Jd d u x xs).vs.length=d.vs.length:=by simp [Jd]
 have hsl:(Jc s xs).fs.length=s.fs.length:=by
  show (zx s.fs xs).length=_
  rw [Gi afE];simp
 have hvg:∀ i,(Jd d u x xs).vs.getD i f0=if d.vs.length-1=i then ⟨(dR d).o,u,(dR d).hs ++ [⟨x,xs⟩]⟩ else d.vs.getD i f0:=fun i=>by
  show (d.vs.set _ _).getD i f0=_
  rw [Gh]
  by_cases e:d.vs.length-1=i
  ·rw [if_pos ⟨e,by omega⟩,if_pos e]
  rw [if_neg (fun h=>e h.1),if_neg e]
 have hsg:∀ i,(Jc s xs).fs.getD i ([],[])=if s.fs.length-1=i then ((s.fs.getD (s.fs.length-1) ([],[])).1,(s.fs.getD (s.fs.length-1) ([],[])).2 ++ [xs]) else s.fs.getD i ([],[]):=fun i=>by
  show (zx s.fs xs).getD i ([],[])=_
  rw [Gi afE,Gh]
  by_cases e:s.fs.length-1=i
  ·rw [if_pos ⟨e,by omega⟩,if_pos e]
  rw [if_neg (fun h=>e h.1),if_neg e]
 have hfc:(cs.set ((d.vs.length-1)*2+1) u).take (d.vs.length*2)=dI (Jd d u x xs).vs:=by
  rw [List.take_set,htk]
  exact (A8 d.vs (d.vs.length-1) ⟨(dR d).o,u,(dR d).hs ++ [⟨x,xs⟩]⟩ (by omega) rfl).symm
 refine ⟨he,h.lo,hB,h.pts.stay fun k cs q _ B=>hk k cs _ (by decide) (by decide) q B,⟨?_,fun k e=>?_⟩,by rw [hvl,hsl,hfl],fun i hi=>?_,fun i hi k e=>?_,h.usr.stay fun k cs q _ B=>hk k cs _ (by decide) (by decide) q B,h.usl,fun i hi=>(h.un i hi).stay hkI,h.big,fun j hj=>by obtain ⟨a1,a2,a3⟩:=h.S j hj;exact ⟨a1,Nat.lt_of_lt_of_le a2 hz,a3⟩⟩
 ·rw [hvl,← hfc]
  show W'.ownsRow 0 _ 2 d.fv d.vs.length _
  rw [hfv]
  exact kL hg' (Nat.zero_le _) hcap hmax (by rw [List.length_set];exact hcs)
 ·exact h.fsr.2 k e
 ·rw [hvl] at hi
  rw [hvg,hsg]
  by_cases e:d.vs.length-1=i
  ·have f:=hfa
   rw [if_pos e,if_pos (by omega)]
   rw [hfl] at f
   refine ⟨?_,?_,?_,⟨?_,fun k e=>?_⟩,fun y hy=>?_⟩
   ·show (dR d).o.xs=_
    exact hfl▸f.ox
   ·exact (show dJ _ W (dR d).o.v _ from hfl▸f.oi).stay hkI
   ·show ((dR d).hs ++ [(⟨x,xs⟩:RiV)]).map (·.xs)=_
    rw [List.map_append]
    congr 1
    exact hfl▸f.hx
   ·have e1:((dR d).hs ++ [(⟨x,xs⟩:RiV)]).length=(dR d).hs.length+1:=by simp
    have e2:aJ ((dR d).hs ++ [(⟨x,xs⟩:RiV)])=aJ (dR d).hs ++ [x]:=by simp [aJ]
    show W'.ownsRow 0 _ 1 u ((dR d).hs ++ [(⟨x,xs⟩:RiV)]).length (aJ ((dR d).hs ++ [(⟨x,xs⟩:RiV)]))
    rw [e1,e2];exact hG.1
   ·rcases hG.2 k e with h1|h1
    ·exact hhv.2 k h1
    exact hnew k h1
   rcases List.mem_append.1 hy with hy|hy
   ·exact (show dJ _ W y.v y.xs from hfa.ri y hy).stay hkI
   rw [List.mem_singleton.1 hy]
   exact hI.stay fun k cs q B=>⟨hnew k q,B⟩
  rw [if_neg e,if_neg (by omega)]
  have f:=h.fa i hi
  refine ⟨f.ox,f.oi.stay hkI,f.hx,f.hv.stay fun k cs q ho B=>⟨q,(hu k B.lt q.2.1 (fun e=>by
   subst e
   have h1:W.heap[k]?=_:=B
   have h2:W.heap[k]?=_:=hgB
   rw [h1] at h2
   cases h2) (fun e2=>h.sep i (by omega) k e2 ho)).trans B⟩,fun x hx=>(f.ri x hx).stay hkI⟩
 rw [hvl] at hi e
 rw [hvg,if_pos rfl] at e
 rw [hvg,if_neg (by omega)]
 rcases hG.2 k e with h1|h1
 ·exact h.sep i hi k h1
 intro h2
 have:=yx (h.fa i (by omega)).hv.1 h2
 omega
theorem Ba {W:World} {g n cap sz:Nat} {el:TypeId} {cs xs:List Value} (hB:Blk W g cs el) (h1:n≤cap) (h2:cap≤maxLen) (h3:cs.length=cap*sz) (h4:cs.take (n*sz)=xs):Sl 0 W (.slice (some ⟨g,0,none⟩) n cap) n sz xs:=by
 rw [← h4];exact Sl.aU (kL hB (Nat.zero_le _) h1 h2 h3)
theorem yH:∀ (vs:List FaV) (i:Nat),i<vs.length→(dI vs)[i*2+1]?=some (vs.getD i f0).hv
 | [],i,h=>absurd h (Nat.not_lt_zero _)
 | a::r,0,_=>rfl
 | a::r,i+1,h=>by
  have e:dI (a::r)=a.o.v::a.hv::dI r:=rfl
  rw [e,show (i+1)*2+1=(i*2+1)+1+1 by omega]
  exact yH r i (by simpa using h)
set_option maxHeartbeats 1000000 in
theorem Qk (w0:World) (b:Nat) (s:PS) (S:Nat→Prop) (l:Str) (r:List Str) (xs:List Int) (w:World) (hI:RdI w0 b s S w) (hL0:ji w0) (hll:l.length≤100000) (hf:fieldsB l=bG::r) (hlast:s.last ∈ [bF,bG]) (hfs:s.fs ≠ []) (hr:r.length≤100000) (hnum:dN r=some xs) (hc:∀ f∈s.fs,f.2.length≤100000) (hc2:s.fs.length≤100000) :
  Calls Tryz.prog 67 #[.pointer (some ⟨b,0,none⟩),str l] w (Ret fun v w'=>RdI w0 b (Jc s xs) S w'∧∀ k,S k→w'.heap[k]?=w.heap[k]?):=by
 refine T.enter (vs:=[.pointer (some ⟨b,0,none⟩),str l]) func67 rfl ntmps67 rfl ?_
 refine T.q (L.m rfl (L.o (O.call (xs:=[.tmp 10,.func 121]) call120 rfl rfl (aQ l w hll) (fun v1 w1 hq=>?_))))
 obtain ⟨A,rfl,hS1,he1⟩:=hq
 obtain ⟨d,hK⟩:=hI
 have hK1:=hK.ext he1
 rw [hf]
 rw [hf] at hS1
 refine L.a rfl (L.nil (T.seq (T.q (L.m rfl (L.o (O.len runUnderlying61 rfl (Sl.val hS1) (L.o (O.dY rfl rfl (by simp;omega) (L.nil (T.cf (T.skip (T.seq (?_)))))))))))))
 refine T.dL mixed 6 [4] rfl [.is _,.is _,.is _,.is _,.is _,.is _] [[],[0],[1],[],[3],[2]] [[],[0],[0,1],[],[3],[0,1,2],[0,1,2,3,4,5]] (by kernel_rfl) (by kernel_rfl) rfl (by kernel_rfl) trivial ⟨fun wx hx=>Ob.o (O.move rfl kR),
   fun wx hx=>Ob.o (O.indexAddr runUnderlying61 sizeOf9 rfl rfl (hS1.ext hx) (by decide) (by simp) kR),
   fun wx hx=>Ob.o (O.load isAgg9 rfl ((hS1.ext hx).at (show 0<(bG::r).length by simp)) kR),
   fun wx hx=>Ob.o (O.move rfl kR),
   fun wx hx=>Ob.o (O.jk (l:=1) runUnderlying61 sizeOf9 rfl rfl hS1 (by simp) kR),
   fun wx hx=>Ob.o (O.assign rfl kR),
   trivial⟩ (fun w2 he2=>?_)
 have hR2:=bC (hS1.ext he2) rfl
 refine L.a rfl (L.nil (T.seq (T.q (L.m rfl (L.nil (T.block (T.q (L.o (O.aA runUnderlying9 rfl rfl (show ¬ bG=bH by decide) (L.a rfl (L.nil (T.cf (T.q (L.o (O.aA runUnderlying9 rfl rfl (show ¬ bG=aS by decide) (L.a rfl (L.nil (T.cf (T.q (L.o (O.aA runUnderlying9 rfl rfl (show ¬ bG=bF by decide) (L.a rfl (?_)))))))))))))))))))))))
 refine L.nil (T.cf (T.q (L.o (O.aY runUnderlying9 rfl rfl rfl (L.a rfl (L.nil (T.ct (T.q (L.m rfl (L.o (O.buildSlice (el:=9) (parts:=[(0,_),(1,_)]) (vs:=[(0,_),(1,_)]) (cs:=([bF,bG].map str)) rfl (fun w=>by kernel_rfl) (fun afC PX ZJ Xd vN I9=>?_))))))))))))
 have pU:=(hK1.ext he2).ext vN
 refine L.o (O.call (xs:=[.tmp 116,.tmp 117]) call68 rfl rfl (aX 0 _ [bF,bG] b (aG d s) s.last PX (Strs.ay I9 rfl (by decide) (Nat.zero_le _)) pU.row rfl) (fun akW aiC hq=>?_))
 obtain ⟨rfl,rfl⟩:=hq
 rw [decide_eq_true hlast]
 refine L.o (O.call (xs:=[.tmp 118]) call108 rfl rfl (dF aiC) (fun akX aiD hq=>?_))
 obtain rfl:=hq
 have ZO:=(he1.trans he2).trans vN
 have hvl:=pU.fsl
 have hvn:0<d.vs.length:=by rw [hvl];exact List.length_pos_iff.2 hfs
 obtain ⟨g,cap,cs,hfv,hgq,hgB,hcap,hmax,hcs,htk⟩:=pU.fsr.form hvn
 have hc1:(aG d s)[1]?=some (.slice (some ⟨g,0,none⟩) d.vs.length cap):=by rw [← hfv];rfl
 have Gj:Blk aiD b (aG d s) 129:=pU.row
 refine L.nil (T.seq (?_))
 refine T.dL mixed 14 [0] rfl [.is _,.is _,.is _,.is _,.is _,.is _,.is _,.is _,.is _,.is _,.is _,.is _,.is _,.is _] [[],[0],[1],[2],[3],[4],[],[6],[7],[8],[9],[10],[11],[12]] [[],[0],[0,1],[0,1,2],[0,1,2,3],[0,1,2,3,4],[],[6],[6,7],[6,7,8],[6,7,8,9],[6,7,8,9,10],[6,7,8,9,10,11],[6,7,8,9,10,11,12],[0,1,2,3,4,5,6,7,8,9,10,11,12,13],[0,1,2,3,4,5,6,7,8,9,10,11,12,13,14]] (by kernel_rfl) (by kernel_rfl) rfl (by kernel_rfl) trivial ⟨fun wx hx=>Ob.o (O.move rfl kR),
   fun wx hx=>Ob.o (O.nilCheck rfl kR),
   fun wx hx=>Ob.o (O.fieldAddr runUnderlying129 rfl sizeOf48 rfl kR),
   fun wx hx=>Ob.o (O.fieldAddr runUnderlying48 rfl sizeOf46 rfl kR),
   fun wx hx=>Ob.o (O.fieldAddr runUnderlying46 rfl sizeOf44 rfl kR),
   fun wx hx=>Ob.o (O.load isAgg44 rfl ((Blk.ext Gj hx).cell hc1) kR),
   fun wx hx=>Ob.o (O.move rfl kR),
   fun wx hx=>Ob.o (O.nilCheck rfl kR),
   fun wx hx=>Ob.o (O.fieldAddr runUnderlying129 rfl sizeOf48 rfl kR),
   fun wx hx=>Ob.o (O.fieldAddr runUnderlying48 rfl sizeOf46 rfl kR),
   fun wx hx=>Ob.o (O.fieldAddr runUnderlying46 rfl sizeOf44 rfl kR),
   fun wx hx=>Ob.o (O.load isAgg44 rfl ((Blk.ext Gj hx).cell hc1) kR),
   fun wx hx=>Ob.o (O.len runUnderlying44 rfl (Sl.val (Ba (Blk.ext hgB hx) hcap hmax hcs htk)) kR),
   fun wx hx=>Ob.o (O.fC rfl rfl (by omega) kR),
   trivial⟩ (fun w18 oH=>?_)
 refine L.o (O.indexAddr runUnderlying44 sizeOf127 rfl rfl (Ba (Blk.ext hgB oH) hcap hmax hcs htk) (by omega) (by omega) (?_))
 have Kt:=pU.ext oH
 have Vd:=Blk.ext hgB oH
 have hhv:AV (RdQ w0 b S) w18 30 1 (dR d).hv (dR d).hs.length (aJ (dR d).hs):=(Kt.fa (d.vs.length-1) (by omega)).hv
 have hhl:(dR d).hs.length≤100000:=by
  have h1:=(Kt.fa (d.vs.length-1) (by omega)).hx
  have h2:=congrArg List.length h1
  rw [List.length_map] at h2
  have h3:(dR d).hs.length=(s.fs.getD (d.vs.length-1) ([],[])).2.length:=h2
  rw [h3,au (by omega)]
  exact hc _ (List.getElem_mem _)
 have hm:∀ k,(dR d).hv.ownBlock=some k→k<w18.heap.size:=fun k e ↦ yx hhv.1 e
 have hpb:(dR d).hv.ownBlock≠some b:=fun e ↦ (hhv.2 b e).2.1 rfl
 have hne:(dR d).hv.ownBlock≠some g:=ng hhv.1 Vd (by decide)
 have hj:((d.vs.length:Int)-1).toNat=d.vs.length-1:=by omega
 have hcell:(dI d.vs)[((d.vs.length:Int)-1).toNat*2+1]?=some (dR d).hv:=by rw [hj];exact yH d.vs _ (by omega)
 have Ql:Blk w18 b (aG d s) 129:=Kt.row
 have Qm:=ZO.trans oH
 refine L.a rfl (L.nil (?_))
 refine T.aaz mixed 9 0 [9,6] rfl [.is _,.is _,.is _,.is _,.is _,.is _,.such (W9 w18.heap.size xs),.such (ZN (dR d).hv.ownBlock w18.heap.size xs),.such (fun _ _=>True)] [[],[],[1],[2],[3],[],[5],[6],[4,7]] [none,none,none,none,none,none,none,none,none] [[],[],[1],[1,2],[1,2,3],[],[5],[5,6],[1,2,3,4,5,6,7],[0,1,2,3,4,5,6,7,8],[0,1,2,3,4,5,6,7,8,9],[0,1,2,3,4,5,6,7,8,9,10]] (G5 w18 (dR d).hv.ownBlock 8 (Xe (dR d).hv.ownBlock w18.heap.size (dR d).hs xs)) (dA (dR d).hv.ownBlock) (by kernel_rfl) (by kernel_rfl) (by kernel_rfl) rfl ⟨W9.st hm,ZN.st hm,fun _ _ _ _ _=>trivial,trivial⟩ (.inl ⟨rfl,Keep.drew _ _⟩) ⟨fun c σ wx hx hn hl=>ObG.op rfl (O.move rfl ⟨⟨dA.refl _ _,hx.nop (Keep.refl _ _) (fun _ g ↦ g) (by decide)⟩,rfl⟩),
   fun c σ wx hx hn hl=>ObG.op rfl (O.move rfl ⟨⟨dA.refl _ _,hx.nop (Keep.refl _ _) (fun _ g ↦ g) (by decide)⟩,rfl⟩),
   fun c σ wx hx hn hl=>ObG.op rfl (O.nilCheck rfl ⟨⟨dA.refl _ _,hx.nop (Keep.refl _ _) (fun _ g ↦ g) (by decide)⟩,rfl⟩),
   fun c σ wx hx hn hl=>ObG.op rfl (O.fieldAddr runUnderlying127 rfl sizeOf125 rfl ⟨⟨dA.refl _ _,hx.nop (Keep.refl _ _) (fun _ g ↦ g) (by decide)⟩,rfl⟩),
   fun c σ wx hx hn hl=>ObG.op rfl (O.load isAgg125 rfl (Sl.at (Ba (hx.but.blk Vd hne) hcap hmax hcs htk) hcell) ⟨⟨dA.refl _ _,hx.nop (Keep.refl _ _) (fun _ g ↦ g) (by decide)⟩,rfl⟩),
   fun c σ wx hx hn hl=>ObG.op rfl (O.move rfl ⟨⟨dA.refl _ _,hx.nop (Keep.refl _ _) (fun _ g ↦ g) (by decide)⟩,rfl⟩),
   fun c σ wx hx hn hl=>ObG.op rfl (O.call (xs:=[.tmp 140]) call122 rfl rfl (jB 0 _ r xs wx (Sl.mono (Sl.keep (Strs.ext (Strs.ext hR2 vN) oH) (hx.but.keep (lo:=w.heap.size) (fun k e ↦ by have h1:=yx (hK.fa (d.vs.length-1) (by omega)).hv.1 e;exact h1))) (Nat.zero_le _)) (hL0.ext (hx.but.ext Kt.e (fun k e ↦ (hhv.2 k e).1))) (bZ hll hf) hnum (by omega)) (fun v wy h=>⟨⟨dA.aW h.2,hx.nop h.2 (fun _ g ↦ g.ext h.2) (by decide)⟩,by obtain ⟨h1,h2⟩:=h;have hB:=dJ.aU (Q:=AX w18.heap.size) h1 (fun k hk _ ↦ Nat.le_trans hx.but.size hk);obtain ⟨oa,cp,e⟩:=hB.form;exact ⟨oa,cp,e,hB⟩⟩)),
   fun c σ wx hx hn v141 MI hl=>by { obtain ⟨oa,cp,rfl,hI⟩:=MI;exact ObG.op rfl (O.buildSlice (el:=30) (parts:=[(0,.tmp 141)]) (vs:=[(0,_)]) (cs:=[.slice oa xs.length cp]) rfl (fun w=>by kernel_rfl) (fun aiE akY aiF aiG Uc adt=>⟨⟨dA.aW Uc,hx.nop Uc (fun _ g ↦ g.ext Uc) (by decide)⟩,aiE,.slice oa xs.length cp,rfl,fun e=>by have:=hm _ e;have:=hx.but.size;omega,adt,hI.Vb hm (dA.aW Uc)⟩)) },
   fun c σ wx hx hn adu Qn hl=>by { obtain ⟨bl,ul,rfl,hbn,hBl,hIl⟩:=Qn;exact ObG.op rfl (O.wM (size:=1) (bytes:=24) runUnderlying125 Tryz.nH rfl rfl rfl rfl (by decide) rfl rfl (aH hhv.1 (hx.Me hn) (Nat.zero_le _)) rfl (Row.ay hBl) (by intro u hu;simp at hu;obtain rfl:=hu;exact Sl.one hIl.ints) (by omega) (by simp only [maxLen];omega) (Nat.zero_le _) (fun v143 akZ adv Xg adw=>⟨⟨dA.jh Xg,hx.app hn Xg ⟨ul,⟨adv,fun k e=>(adw k e).imp id (fun h=>Nat.le_trans (hx.Me hn).size h)⟩,hIl.Vb hm (dA.jh Xg)⟩⟩,trivial⟩)) },
   trivial⟩ (fun ak0 w19 afF v141 MI adu Qn v143 adx aiH=>?_)
 obtain ⟨CB,afG⟩:=afF.done (aiH 8 (by decide) _ _ rfl rfl).symm
 refine L.o (O.nilCheck rfl (L.o (O.fieldAddr runUnderlying127 rfl sizeOf125 rfl (L.o (O.KE sizeOf125 (by obtain ⟨u,h1,_⟩:=afG;exact Sl.one (Sl.aU h1.1)) rfl rfl (CB.blk Vd hne) (by show 0+(((d.vs.length:Int)-1).toNat*2+1)<cs.length;omega) (fun aiI MJ Xh=>?_))))))
 have hix:0+(((d.vs.length:Int)-1).toNat*2+1)=(d.vs.length-1)*2+1:=by omega
 replace Xh:Blk aiI g (cs.set ((d.vs.length-1)*2+1) v143) 127:=by rw [← hix];exact Xh
 have hbg:b≠g:=fun e ↦ hgq.2.1 e.symm
 refine L.nil (T.blk (T.region (L.m rfl (L.m rfl (L.o (O.nilCheck rfl (L.o (O.fieldAddr runUnderlying129 rfl sizeOf9 rfl (L.o (O.bf sizeOf9 rfl rfl rfl (Blk.upd (CB.blk Ql hpb) MJ hbg) (show (6:Nat)<7 by decide) (fun GZ iJ yw=>?_)))))))))))
 have aiJ:=Blk.lt Vd
 have hblt:=Blk.lt Ql
 obtain ⟨u,hGu,hIu⟩:=(afG.updB MJ (CB.blk Vd hne) (by decide) aiJ).updB iJ (Blk.upd (CB.blk Ql hpb) MJ hbg) (by decide) hblt
 have P9:Ext w0 GZ:=((CB.ext Kt.e (fun k e ↦ (hhv.2 k e).1)).upd MJ (.inr hgq.1)).upd iJ (.inr Kt.lo)
 have Qa:w18.heap.size≤GZ.heap.size:=by have:=CB.size;have:=MJ.size;have:=iJ.size;omega
 have hkeep:∀ k,k<w18.heap.size→k≠b→k≠g→(dR d).hv.ownBlock≠some k→GZ.heap[k]?=w18.heap[k]?:=fun k h1 h2 h3 h4 ↦ (iJ.block k h2).trans ((MJ.block k h3).trans (CB.block k h1 h4))
 have ady:=Blk.upd Xh iJ (Ne.symm hbg)
 refine L.nil (T.Nw results67 ⟨⟨Jd d v143 u xs,Kt.Xf hvn hfv hgq Vd hcap hmax hcs htk hkeep P9 Qa yw ady hGu hIu⟩,fun k hk=>?_⟩)
 have hs:=hK.S k hk
 have z2:=Qm.size
 exact (hkeep k (by omega) hs.2.2 (fun e=>hgq.2.2 (by rw [← e];exact hk)) (fun e=>(hhv.2 k e).2.2 hk)).trans (Qm.block k (Nat.zero_le _) hs.2.1)
open Go Go.E RowKit
theorem O.abf {C:Cx} {e:Env} {w:World} {K:Value→World→Prop} {d:Option Tmp} {ty:TypeId} {pos:String} {aft:Array Edge} {g:Option (Nat × Bool)} {tys:Array TypeId} {x y z:Operand} {a b c:Int} (h1:ev e x=some (.int .i64 a)) (h2:ev e y=some (.int .i64 b)) (h3:ev e z=some (.int .i64 c)) (h:K (.int .i64 (mn (mn a b) c)) w) :
  O C e ⟨d,.call { callee:=.builtin .min,args:=#[x,y,z],argTypes:=tys },ty,pos,aft,g⟩ w K :=
 O.of_run (by simp) (fun q hq=>by
  simp [execOp,resolve,invoke,builtin,hq.eval h1,hq.eval h2,hq.eval h3,Builtin.min_,Builtin.min2,mn];rfl) h
def uY (r:List Str):Bool:=decide (1<r.length) && decide (r.getD (r.length-1) []=ade)
def jC (r:List Str):List Str:=if uY r=true then r.take (r.length-1) else r
theorem Gl (s:PS) (r:List Str):tV s r=if 0≤s.G∧0≤s.P∧0≤s.L∧((jC r).length:Int)=2+s.G+s.P+s.L then (match dN ((jC r).drop 1) with
  | some xs=>some ⟨(jC r).getD 0 [],xs.getD 0 0,(xs.drop 1).take s.G.toNat,(xs.drop (1+s.G.toNat)).take s.P.toNat,xs.drop (1+s.G.toNat+s.P.toNat),uY r⟩
  | none=>none) else none:=rfl
theorem Bc {s:PS} {r:List Str} {u:PU} (h:tV s r=some u):∃ (nm:Str) (ws:List Str) (xs:List Int),jC r=nm::ws∧0≤s.G∧0≤s.P∧0≤s.L∧((ws.length:Int)=1+s.G+s.P+s.L)∧dN ws=some xs∧u=⟨nm,xs.getD 0 0,(xs.drop 1).take s.G.toNat,(xs.drop (1+s.G.toNat)).take s.P.toNat,xs.drop (1+s.G.toNat+s.P.toNat),uY r⟩:=by
 rw [Gl] at h
 split at h
 ·rename_i hc
  obtain ⟨c1,c2,c3,c4⟩:=hc
  split at h
  ·rename_i xs hx
   cases h
   cases hq:jC r with
   | nil=>rw [hq] at c4;simp only [List.length_nil] at c4;omega
   | cons nm ws =>
    rw [hq] at c4 hx
    refine ⟨nm,ws,xs,rfl,c1,c2,c3,by simp only [List.length_cons] at c4;omega,hx,?_⟩
    rfl
  cases h
 cases h
theorem MK {s:PS} {r:List Str} (h:tV s r=none):¬ (0≤s.G∧0≤s.P∧0≤s.L)∨((0≤s.G∧0≤s.P∧0≤s.L)∧¬ ((jC r).length:Int)=2+s.G+s.P+s.L)∨((0≤s.G∧0≤s.P∧0≤s.L)∧((jC r).length:Int)=2+s.G+s.P+s.L∧∃ nm ws,jC r=nm::ws∧dN ws=none):=by
 rw [Gl] at h
 split at h
 ·rename_i hc
  obtain ⟨c1,c2,c3,c4⟩:=hc
  split at h
  ·cases h
  rename_i hx
  cases hq:jC r with
  | nil=>rw [hq] at c4;simp only [List.length_nil] at c4;omega
  | cons nm ws =>
   rw [hq] at c4 hx
   exact .inr (.inr ⟨⟨c1,c2,c3⟩,c4,nm,ws,rfl,hx⟩)
 rename_i hc
 by_cases h3:0≤s.G∧0≤s.P∧0≤s.L
 ·exact .inr (.inl ⟨h3,fun e=>hc ⟨h3.1,h3.2.1,h3.2.2,e⟩⟩)
 exact .inl h3
def uZ (p:Value) (r:List Str):Value:=if uY r=true then Es p (r.length-1) else p
theorem Ku {lo:Nat} {w:World} {p:Value} {r:List Str} (h:Strs lo w p r):Strs lo w (uZ p r) (jC r):=by
 unfold uZ jC
 cases uY r with
 | false=>exact h
 | true =>
  have:=rX (m:=r.length-1) h (Nat.sub_le _ _)
  have e:((r.map str).take ((r.length-1)*1))=(r.take (r.length-1)).map str:=by rw [Nat.mul_one,List.map_take]
  have e2:(r.take (r.length-1)).length=r.length-1:=by rw [List.length_take];omega
  rw [e] at this
  show Sl lo w (Es p (r.length-1)) (r.take (r.length-1)).length 1 _
  rw [e2];exact this
theorem tY {r:List Str} : ∀ x∈jC r,x∈r:=fun x hx=>by
 unfold jC at hx
 split at hx
 ·exact (List.take_sublist _ _).subset hx
 exact hx
theorem Bd (r:List Str):(jC r).length≤r.length:=by
 unfold jC
 split
 ·rw [List.length_take];omega
 exact Nat.le_refl _
theorem Qo {lo:Nat} {w:World} {v:Value} {k:Str} {r:List Str} (h:Strs lo w v (k::r)):Strs lo w (pR 1 v 1 (r.length+1)) r:=by
 have:=Kr (l:=1) (h:=r.length+1) (h:Sl lo w _ _ _ _) (by omega) (by simp)
 have e:(((k::r).map str).drop (1*1)).take ((r.length+1-1)*1)=r.map str:=by simp;exact List.take_of_length_le (by simp)
 rw [e,show r.length+1-1=r.length by omega] at this
 exact this
theorem dJ.cut {Q:Nat→Prop} {W:World} {v:Value} {xs:List Int} {l h:Nat} (hv:dJ Q W v xs) (h1:l≤h) (h2:h≤xs.length):dJ Q W (pR 1 v l h) ((xs.drop l).take (h-l)):=by
 have hlen:((xs.drop l).take (h-l)).length=h-l:=by rw [List.length_take,List.length_drop];omega
 rcases hv with ⟨rfl,rfl⟩|⟨k,off,cap,cs,rfl,c1,c2,c3,c4,c5⟩
 ·simp only [List.length_nil] at h2
  obtain rfl:h=0:=by omega
  obtain rfl:l=0:=by omega
  exact .inl ⟨rfl,rfl⟩
 by_cases hc:cap=l
 ·refine .inr ⟨k,off,cap-l,cs,?_,by omega,by omega,c3,c4,?_⟩
  ·simp only [pR,if_pos hc,hlen]
  rw [hlen,show h-l=0 by omega];simp
 by_cases hl:l=0
 ·subst hl
  refine .inr ⟨k,off,cap,cs,?_,by omega,by omega,c3,c4,?_⟩
  ·rw [hlen];simp only [pR,if_neg hc,Option.map_some,Addr.add,Nat.zero_mul,if_true,Nat.sub_zero]
  rw [hlen,List.drop_zero,Nat.sub_zero,List.map_take,← c5,List.take_take,Nat.min_eq_left h2]
 refine .inr ⟨k,off+l,cap-l,cs,?_,by omega,by omega,c3,c4,?_⟩
 ·simp only [pR,if_neg hc,hlen,Option.map_some,Addr.add,Nat.mul_one,if_neg hl]
 rw [hlen,← List.drop_drop,List.map_take,List.map_drop,← c5]
 rw [List.drop_take,List.take_take,Nat.min_eq_left (by omega)]
theorem yI {a b:Int} : 0≤mn a b↔0≤a∧0≤b:=by unfold mn;split <;> omega
def uAdd (d:RdD) (v:UnV) (uv:Value):RdD:={ d with uv:=uv,us:=d.us ++ [v] }
def Gm (s:PS) (u:PU):PS:={ s with us:=s.us ++ [u] }
theorem RdK.Xi {w0:World} {b:Nat} {d:RdD} {s:PS} {S:Nat→Prop} {W W':World} (h:RdK w0 b d s S W) {v:UnV} {u:PU} {uv':Value} (hu:∀ k,k<W.heap.size→k≠b→d.uv.ownBlock≠some k→W'.heap[k]?=W.heap[k]?) (he:Ext w0 W') (hz:W.heap.size≤W'.heap.size)
  (hB:Blk W' b (aG (uAdd d v uv') (Gm s u)) 129) (hG:I8 d.uv.ownBlock W.heap.size 51 6 (d.us.length+1) (eH d.us++v.cells) uv' W') (hU:UnO (AX W.heap.size) W' v u):RdK w0 b (uAdd d v uv') (Gm s u) S W':=by
 have hk:∀ j cs t,t≠51→RdQ w0 b S j→Blk W j cs t→RdQ w0 b S j∧Blk W' j cs t:=fun j cs t ht q B=>⟨q,(hu j B.lt q.2.1 (ng h.usr.1 B (Ne.symm ht))).trans B⟩
 have hkI:∀ k cs,RdQ w0 b S k→Blk W k cs 3→RdQ w0 b S k∧Blk W' k cs 3:=fun k cs q B=>hk k cs _ (by decide) q B
 have hlt:=Blk.lt (cs:=aG d s) h.row
 have hz0:=h.e.size
 have hnew:∀ k,W.heap.size≤k→RdQ w0 b S k:=fun k h1=>⟨by omega,by omega,fun hk=>by have:=(h.S k hk).2.1;omega⟩
 have hul:(uAdd d v uv').us.length=d.us.length+1:=by simp [uAdd]
 have hsl:=h.usl
 refine ⟨he,h.lo,hB,h.pts.stay fun k cs q _ B=>hk k cs _ (by decide) q B,h.fsr.stay fun k cs q _ B=>hk k cs _ (by decide) q B,h.fsl,fun i hi=>?_,h.sep,⟨?_,fun k e=>?_⟩,by simp [uAdd,Gm,hsl],fun i hi=>?_,h.big,fun j hj=>by obtain ⟨a1,a2,a3⟩:=h.S j hj;exact ⟨a1,Nat.lt_of_lt_of_le a2 hz,a3⟩⟩
 ·have f:=h.fa i hi
  exact ⟨f.ox,f.oi.stay hkI,f.hx,f.hv.stay fun k cs q _ B=>hk k cs _ (by decide) q B,fun x hx=>(f.ri x hx).stay hkI⟩
 ·have e2:eH (uAdd d v uv').us=eH d.us++v.cells:=by rw [show (uAdd d v uv').us=d.us ++ [v] from rfl,qB,rV]
  rw [hul,e2];exact hG.1
 ·rcases hG.2 k e with h1|h1
  ·exact h.usr.2 k h1
  exact hnew k h1
 rw [hul] at hi
 rcases Nat.lt_or_ge i d.us.length with h1|h1
 ·have e1:(uAdd d v uv').us.getD i u0=d.us.getD i u0:=ou h1
  have e2:(Gm s u).us.getD i pu0=s.us.getD i pu0:=ou (by omega)
  rw [e1,e2]
  exact (h.un i h1).stay hkI
 have e1:(uAdd d v uv').us.getD i u0=v:=kG (by omega)
 have e2:(Gm s u).us.getD i pu0=u:=kG (by omega)
 rw [e1,e2]
 exact hU.stay fun k cs q B=>⟨hnew k q,B⟩
def ZP (ob:Option Nat) (cs:List Value) (v:Value) (W:World):Prop:=∃ k,v = .slice (some ⟨k,0,none⟩) 1 1∧ob≠some k∧Blk W k cs 51
theorem ZP.st {ob:Option Nat} {cs:List Value} : ∀ v w w',dA ob w w'→ZP ob cs v w→ZP ob cs v w':=fun _ _ _ h ⟨k,h1,h2,h3⟩=>⟨k,h1,h2,h.blk h3 h2⟩
theorem Je {W:World} {k j:Nat} {cs cs':List Value} {t t':TypeId} (h:Blk W k cs t) (h':Blk W j cs' t') (ht:t≠t'):k≠j:=fun e=>by
 subst e
 have h1:W.heap[k]?=_:=h
 have h2:W.heap[k]?=_:=h'
 rw [h1] at h2
 cases h2
 exact ht rfl
def nC (wt:Bool):List Value:=[str [],.int .i64 0,.slice none 0 0,.slice none 0 0,.slice none 0 0,.bool wt]
theorem Gn (wt:Bool):∀ c∈nC wt,c.oneCell'=true:=fun c hc=>by
 simp only [nC,List.mem_cons,List.not_mem_nil,or_false] at hc
 rcases hc with rfl|rfl|rfl|rfl|rfl|rfl <;> rfl
set_option maxHeartbeats 1000000 in
theorem Ud (w0:World) (b lo:Nat) (s:PS) (S:Nat→Prop) (p:Value) (r:List Str) (u:PU) (w:World) (hI:RdI w0 b s S w) (hL0:ji w0) (hp:Strs lo w p r) (hs:∀ x∈r,x.length≤100000) (hr:r.length≤100000) (hu:tV s r=some u) (hc:s.us.length≤100000) :
  Calls Tryz.prog 123 #[.pointer (some ⟨b,0,none⟩),p] w (Ret fun v w'=>RdI w0 b (Gm s u) S w'∧∀ k,S k→w'.heap[k]?=w.heap[k]?):=by
 obtain ⟨d,hK⟩:=hI
 obtain ⟨nm,ws,xs,hq,hG0,hP0,aiK,hwl,hnum,rfl⟩:=Bc hu
 refine T.enter (vs:=[.pointer (some ⟨b,0,none⟩),p]) func123 rfl ntmps123 rfl ?_
 refine T.q (L.o (O.build (v:=.agg (nC false).toArray) (parts:=[]) (vs:=[]) rfl (fun w=>by kernel_rfl) (L.o (O.alloc zeroValue51 (fun b4 w4 hb4 hz4 he4 hB4=>?_)))))
 refine L.o (O.aF sizeOf51 rfl rfl rfl hB4 (Nat.le_refl _) (Gn false) (fun w9 hu9 hB9=>?_))
 replace hu9:Upd b4 w4 w9:=hu9
 have hU9:Blk w9 b4 (nC false) 51:=hB9
 have he9:Ext w w9:=he4.upd hu9 (.inr (by omega))
 refine L.nil (T.seq (T.q (L.m rfl (L.o (O.len runUnderlying61 rfl (Sl.val hp) (L.o (O.fC rfl rfl (by omega) (L.a rfl (L.nil (T.seq (?_)))))))))))
 refine T.join (σ:=Unit) (fun _=>[(0,.pointer (some ⟨b,0,none⟩)),(1,p),(4,.pointer (some ⟨b4,0,none⟩)),(5,.int .i64 ((r.length:Int)-1)),(21,.bool (uY r))]) (fun _ w'=>w'=w9) ?_ ?_
 ·rcases Nat.lt_or_ge 1 r.length with h1|h1
  ·rw [show ((r.length:Int)-1)=((r.length-1:Nat):Int) by omega]
   refine T.region (L.m rfl (L.o (O.Bq rfl rfl (by omega) (L.m rfl (L.m rfl (L.m rfl (L.o (O.indexAddr runUnderlying61 sizeOf9 rfl rfl (hp.ext he9) (by omega) (by omega) (L.o (O.load isAgg9 rfl ((hp.ext he9).at (show r.length-1<r.length by omega)) (L.o (O.lY runUnderlying9 rfl rfl (fun h2=>?_) (fun h2=>?_)))))))))))))
   ·refine L.o (O.aj rfl rfl (L.nil (T.meet (()) ⟨rfl,rfl,rfl,rfl,?_,trivial⟩ rfl)))
    ·exact congrArg (fun z=>some (Value.bool z)) (by rw [uY,decide_eq_true h1,Bool.true_and];exact (decide_eq_true h2).symm)
   refine L.o (O.aj rfl rfl (L.nil (T.meet (()) ⟨rfl,rfl,rfl,rfl,?_,trivial⟩ rfl)))
   ·exact congrArg (fun z=>some (Value.bool z)) (by rw [uY,decide_eq_true h1,Bool.true_and];exact (decide_eq_false h2).symm)
  refine T.region (L.m rfl (L.o (O.y9 rfl rfl (by omega) (L.m rfl (L.p (L.p (L.p (L.p (L.p (L.o (O.ah rfl rfl (L.nil (T.meet (()) ⟨rfl,rfl,rfl,rfl,?_,trivial⟩ rfl)))))))))))))
  ·exact congrArg (fun z=>some (Value.bool z)) (by rw [uY,decide_eq_false (by omega),Bool.false_and])
 rintro _ w10 rfl
 refine T.join (σ:=Unit) (fun _=>[(0,.pointer (some ⟨b,0,none⟩)),(1,uZ p r),(4,.pointer (some ⟨b4,0,none⟩))]) (fun _ W=>Ext w W∧Blk W b4 (nC (uY r)) 51) ?_ ?_
 ·rcases hwt:uY r with _|_
  ·refine T.cf (T.skip (T.meet (()) ⟨rfl,?_,rfl,trivial⟩ ⟨he9,hU9⟩))
   ·exact congrArg some (by rw [uZ,hwt];rfl)
  have h1:1<r.length:=by unfold uY at hwt;simp only [Bool.and_eq_true,decide_eq_true_eq] at hwt;exact hwt.1
  rw [show ((r.length:Int)-1)=((r.length-1:Nat):Int) by omega]
  refine T.ct (?_)
  refine T.any mixed 5 1 [1,5,4] rfl [.is _,.is _,.is _,.is _,.is undef] [[],[],[0,1],[],[3]] [none,none,none,none,some 0] [[],[],[0,1],[],[3],[0,1,2,3,4]] (I7 w10 b4 51 [nC false,(nC false).set 5 (.bool true)]) (fun _ _=>True) (by kernel_rfl) (by kernel_rfl) (by kernel_rfl) rfl trivial (I7.start hU9 (Keep.drew _ _)) ⟨fun c wx hx=>ObK.op rfl (O.move rfl ⟨⟨trivial,hx⟩,rfl⟩),
    fun c wx hx=>ObK.op rfl (O.move rfl ⟨⟨trivial,hx⟩,rfl⟩),
    fun c wx hx=>ObK.op rfl (O.Es runUnderlying61 sizeOf9 rfl rfl (hp.ext (hx.1.ext he9 (fun k e ↦ by cases e;omega))) (by omega) ⟨⟨trivial,hx⟩,rfl⟩),
    fun c wx hx=>ObK.op rfl (O.fieldAddr runUnderlying51 rfl sizeOf4 rfl ⟨⟨trivial,hx⟩,rfl⟩),
    fun wx hx=>ObK.op rfl (O.bf sizeOf4 rfl rfl rfl hx.2 (show (5:Nat)<6 by decide) (fun w25 EG yZ=>⟨⟨trivial,hx.next EG yZ rfl⟩,rfl⟩)),
    trivial⟩ (fun w13 YX=>?_)
  obtain ⟨hB3,hR3⟩:=YX
  refine L.a rfl (L.nil (T.meet (()) ⟨rfl,?_,rfl,trivial⟩ ⟨hB3.ext he9 (fun k e ↦ by cases e;omega),hR3⟩))
  ·exact congrArg some (by rw [uZ,hwt];rfl)
 rintro _ w11 ⟨eU,X7⟩
 have Ye:=hK.ext eU
 have fB:Blk w11 b (aG d s) 129:=Ye.row
 have hws:=Ku hp
 have adz:=hL0.ext Ye.e
 rw [hq] at hws
 have hbig:=hK.big
 have hql:=Bd r
 rw [hq] at hql
 simp only [List.length_cons] at hql
 refine T.seq (?_)
 refine T.dL mixed 44 [0,1] rfl (.is _ :: .is _ :: .is _ :: .is _ :: .is _ :: .is _ :: .is _ :: .is _ :: .is _ :: .is _ :: .is _ :: .is _ :: .is _ :: .is _ :: .is _ :: .is _ :: .is _ :: .is _ :: .is _ :: .is _ :: .is _ :: .is _ :: .is _ :: .is _ :: .is _ :: .is _ :: .is _ :: .is _ :: .is _ :: .is _ :: .is _ :: .is _ :: .is _ :: .is _ :: .is _ :: .is _ :: .is _ :: .is _ :: .is _ :: .is _ :: .is _ :: .is _ :: .is _ :: .is _ :: []) ([] :: [0] :: [1] :: [2] :: [3] :: [4] :: [] :: [6] :: [7] :: [8] :: [9] :: [10] :: [] :: [12] :: [13] :: [14] :: [15] :: [16] :: [5,11,17] :: [18] :: [19] :: [20] :: [21,20] :: [20] :: [23,20] :: [24,20] :: [25,20] :: [26,20] :: [27,20] :: [28,20] :: [20] :: [30,20] :: [31,20] :: [32,20] :: [33,20] :: [34,20] :: [29,35,20] :: [20] :: [37,20] :: [38,20] :: [39,20] :: [40,20] :: [41,20] :: [36,42,20] :: []) ([] :: [0] :: [0,1] :: [0,1,2] :: [0,1,2,3] :: [0,1,2,3,4] :: [] :: [6] :: [6,7] :: [6,7,8] :: [6,7,8,9] :: [6,7,8,9,10] :: [] :: [12] :: [12,13] :: [12,13,14] :: [12,13,14,15] :: [12,13,14,15,16] :: [0,1,2,3,4,5,6,7,8,9,10,11,12,13,14,15,16,17] :: [0,1,2,3,4,5,6,7,8,9,10,11,12,13,14,15,16,17,18] :: [0,1,2,3,4,5,6,7,8,9,10,11,12,13,14,15,16,17,18,19] :: [0,1,2,3,4,5,6,7,8,9,10,11,12,13,14,15,16,17,18,19,20] :: [0,1,2,3,4,5,6,7,8,9,10,11,12,13,14,15,16,17,18,19,20,21] :: [0,1,2,3,4,5,6,7,8,9,10,11,12,13,14,15,16,17,18,19,20] :: [0,1,2,3,4,5,6,7,8,9,10,11,12,13,14,15,16,17,18,19,20,23] :: [0,1,2,3,4,5,6,7,8,9,10,11,12,13,14,15,16,17,18,19,20,23,24] :: [0,1,2,3,4,5,6,7,8,9,10,11,12,13,14,15,16,17,18,19,20,23,24,25] :: [0,1,2,3,4,5,6,7,8,9,10,11,12,13,14,15,16,17,18,19,20,23,24,25,26] :: [0,1,2,3,4,5,6,7,8,9,10,11,12,13,14,15,16,17,18,19,20,23,24,25,26,27] :: [0,1,2,3,4,5,6,7,8,9,10,11,12,13,14,15,16,17,18,19,20,23,24,25,26,27,28] :: [0,1,2,3,4,5,6,7,8,9,10,11,12,13,14,15,16,17,18,19,20] :: [0,1,2,3,4,5,6,7,8,9,10,11,12,13,14,15,16,17,18,19,20,30] :: [0,1,2,3,4,5,6,7,8,9,10,11,12,13,14,15,16,17,18,19,20,30,31] :: [0,1,2,3,4,5,6,7,8,9,10,11,12,13,14,15,16,17,18,19,20,30,31,32] :: [0,1,2,3,4,5,6,7,8,9,10,11,12,13,14,15,16,17,18,19,20,30,31,32,33] :: [0,1,2,3,4,5,6,7,8,9,10,11,12,13,14,15,16,17,18,19,20,30,31,32,33,34]::(0::1::2::3::4::5::6::7::8::9::10::11::12::13::14::15::16::17::18::19::20::23::24::25::26::27::28::29::30::31::32::33::34::35 :: []) :: [0,1,2,3,4,5,6,7,8,9,10,11,12,13,14,15,16,17,18,19,20] :: [0,1,2,3,4,5,6,7,8,9,10,11,12,13,14,15,16,17,18,19,20,37] :: [0,1,2,3,4,5,6,7,8,9,10,11,12,13,14,15,16,17,18,19,20,37,38] :: [0,1,2,3,4,5,6,7,8,9,10,11,12,13,14,15,16,17,18,19,20,37,38,39] :: [0,1,2,3,4,5,6,7,8,9,10,11,12,13,14,15,16,17,18,19,20,37,38,39,40] :: [0,1,2,3,4,5,6,7,8,9,10,11,12,13,14,15,16,17,18,19,20,37,38,39,40,41]::(0::1::2::3::4::5::6::7::8::9::10::11::12::13::14::15::16::17::18::19::20::23::24::25::26::27::28::29::30::31::32::33::34::35::36::37::38::39::40::41::42 :: [])::(0::1::2::3::4::5::6::7::8::9::10::11::12::13::14::15::16::17::18::19::20::21::22::23::24::25::26::27::28::29::30::31::32::33::34::35::36::37::38::39::40::41::42::43 :: [])::(0::1::2::3::4::5::6::7::8::9::10::11::12::13::14::15::16::17::18::19::20::21::22::23::24::25::26::27::28::29::30::31::32::33::34::35::36::37::38::39::40::41::42::43::44 :: [])::(0::1::2::3::4::5::6::7::8::9::10::11::12::13::14::15::16::17::18::19::20::21::22::23::24::25::26::27::28::29::30::31::32::33::34::35::36::37::38::39::40::41::42::43::44::45 :: []) :: []) (by kernel_rfl) (by kernel_rfl) rfl (by kernel_rfl) trivial ⟨fun wx hx=>Ob.o (O.move rfl kR),
   fun wx hx=>Ob.o (O.nilCheck rfl kR),
   fun wx hx=>Ob.o (O.fieldAddr runUnderlying129 rfl sizeOf48 rfl kR),
   fun wx hx=>Ob.o (O.fieldAddr runUnderlying48 rfl sizeOf25 rfl kR),
   fun wx hx=>Ob.o (O.fieldAddr runUnderlying25 rfl sizeOf3 rfl kR),
   fun wx hx=>Ob.o (O.load isAgg3 rfl ((Blk.ext fB hx).cell rfl) kR),
   fun wx hx=>Ob.o (O.move rfl kR),
   fun wx hx=>Ob.o (O.nilCheck rfl kR),
   fun wx hx=>Ob.o (O.fieldAddr runUnderlying129 rfl sizeOf48 rfl kR),
   fun wx hx=>Ob.o (O.fieldAddr runUnderlying48 rfl sizeOf25 rfl kR),
   fun wx hx=>Ob.o (O.fieldAddr runUnderlying25 rfl sizeOf3 rfl kR),
   fun wx hx=>Ob.o (O.load isAgg3 rfl ((Blk.ext fB hx).cell rfl) kR),
   fun wx hx=>Ob.o (O.move rfl kR),
   fun wx hx=>Ob.o (O.nilCheck rfl kR),
   fun wx hx=>Ob.o (O.fieldAddr runUnderlying129 rfl sizeOf48 rfl kR),
   fun wx hx=>Ob.o (O.fieldAddr runUnderlying48 rfl sizeOf25 rfl kR),
   fun wx hx=>Ob.o (O.fieldAddr runUnderlying25 rfl sizeOf3 rfl kR),
   fun wx hx=>Ob.o (O.load isAgg3 rfl ((Blk.ext fB hx).cell rfl) kR),
   fun wx hx=>Ob.o (O.abf rfl rfl rfl kR),
   fun wx hx=>Ob.o (O.Bv rfl rfl (yI.2 ⟨yI.2 ⟨hG0,hP0⟩,aiK⟩) kR),
   fun wx hx=>Ob.o (O.move rfl kR),
   fun wx hx=>Ob.o (O.move rfl kR),
   fun wx hx=>Ob.o (O.len runUnderlying61 rfl (Sl.val (hws.ext (eU.trans hx))) kR),
   fun wx hx=>Ob.o (O.move rfl kR),
   fun wx hx=>Ob.o (O.nilCheck rfl kR),
   fun wx hx=>Ob.o (O.fieldAddr runUnderlying129 rfl sizeOf48 rfl kR),
   fun wx hx=>Ob.o (O.fieldAddr runUnderlying48 rfl sizeOf25 rfl kR),
   fun wx hx=>Ob.o (O.fieldAddr runUnderlying25 rfl sizeOf3 rfl kR),
   fun wx hx=>Ob.o (O.load isAgg3 rfl ((Blk.ext fB hx).cell rfl) kR),
   fun wx hx=>Ob.o (O.aC rfl rfl (by omega) kR),
   fun wx hx=>Ob.o (O.move rfl kR),
   fun wx hx=>Ob.o (O.nilCheck rfl kR),
   fun wx hx=>Ob.o (O.fieldAddr runUnderlying129 rfl sizeOf48 rfl kR),
   fun wx hx=>Ob.o (O.fieldAddr runUnderlying48 rfl sizeOf25 rfl kR),
   fun wx hx=>Ob.o (O.fieldAddr runUnderlying25 rfl sizeOf3 rfl kR),
   fun wx hx=>Ob.o (O.load isAgg3 rfl ((Blk.ext fB hx).cell rfl) kR),
   fun wx hx=>Ob.o (O.aC rfl rfl (by omega) kR),
   fun wx hx=>Ob.o (O.move rfl kR),
   fun wx hx=>Ob.o (O.nilCheck rfl kR),
   fun wx hx=>Ob.o (O.fieldAddr runUnderlying129 rfl sizeOf48 rfl kR),
   fun wx hx=>Ob.o (O.fieldAddr runUnderlying48 rfl sizeOf25 rfl kR),
   fun wx hx=>Ob.o (O.fieldAddr runUnderlying25 rfl sizeOf3 rfl kR),
   fun wx hx=>Ob.o (O.load isAgg3 rfl ((Blk.ext fB hx).cell rfl) kR),
   fun wx hx=>Ob.o (O.aC rfl rfl (by omega) kR),
   trivial⟩ (fun w14 dU=>?_)
 refine L.o (O.iW rfl rfl (by simp only [List.length_cons];omega) (L.o (O.aj rfl rfl (L.o (O.call (xs:=[.tmp 71]) call108 rfl rfl (dF w14) (fun v72 w72 hq=>?_))))))
 obtain rfl:=hq
 have afH:=Ye.ext dU
 have afI:Blk w72 b (aG d s) 129:=afH.row
 refine L.nil (T.q (L.m rfl (L.o (O.jk (l:=1) runUnderlying61 sizeOf9 rfl rfl hws (by simp) (L.o (O.call (xs:=[.tmp 74]) call122 rfl rfl (jB lo _ ws xs w72 ((Qo hws).ext (eU.trans dU)) (adz.ext dU) (fun x hx ↦ hs x (tY x (by rw [hq];exact List.mem_cons_of_mem _ hx))) hnum (by omega)) (fun v75 w75 hq=>?_)))))))
 obtain ⟨aiL,Yf⟩:=hq
 have aiM:=afH.ext Yf
 have Kv:Blk w75 b (aG d s) 129:=aiM.row
 refine L.a rfl (L.nil (T.seq (?_)))
 refine T.dL mixed 22 [0] rfl [.is _,.is _,.is _,.is _,.is _,.is _,.is _,.is _,.is _,.is _,.is _,.is _,.is _,.is _,.is _,.is _,.is _,.is _,.is _,.is _,.is _,.is _] [[],[0],[1],[2],[3],[4],[5],[],[7],[8],[9],[10],[11],[12],[],[14],[15],[16],[17],[18],[13,19],[6]] [[],[0],[0,1],[0,1,2],[0,1,2,3],[0,1,2,3,4],[0,1,2,3,4,5],[],[7],[7,8],[7,8,9],[7,8,9,10],[7,8,9,10,11],[7,8,9,10,11,12],[],[14],[14,15],[14,15,16],[14,15,16,17],[14,15,16,17,18],[7,8,9,10,11,12,13,14,15,16,17,18,19],[0,1,2,3,4,5,6],[0,1,2,3,4,5,6,7,8,9,10,11,12,13,14,15,16,17,18,19,20,21]] (by kernel_rfl) (by kernel_rfl) rfl (by kernel_rfl) trivial ⟨fun wx hx=>Ob.o (O.move rfl kR),
   fun wx hx=>Ob.o (O.nilCheck rfl kR),
   fun wx hx=>Ob.o (O.fieldAddr runUnderlying129 rfl sizeOf48 rfl kR),
   fun wx hx=>Ob.o (O.fieldAddr runUnderlying48 rfl sizeOf25 rfl kR),
   fun wx hx=>Ob.o (O.fieldAddr runUnderlying25 rfl sizeOf3 rfl kR),
   fun wx hx=>Ob.o (O.load isAgg3 rfl ((Blk.ext Kv hx).cell rfl) kR),
   fun wx hx=>Ob.o (O.aC rfl rfl (by omega) kR),
   fun wx hx=>Ob.o (O.move rfl kR),
   fun wx hx=>Ob.o (O.nilCheck rfl kR),
   fun wx hx=>Ob.o (O.fieldAddr runUnderlying129 rfl sizeOf48 rfl kR),
   fun wx hx=>Ob.o (O.fieldAddr runUnderlying48 rfl sizeOf25 rfl kR),
   fun wx hx=>Ob.o (O.fieldAddr runUnderlying25 rfl sizeOf3 rfl kR),
   fun wx hx=>Ob.o (O.load isAgg3 rfl ((Blk.ext Kv hx).cell rfl) kR),
   fun wx hx=>Ob.o (O.aC rfl rfl (by omega) kR),
   fun wx hx=>Ob.o (O.move rfl kR),
   fun wx hx=>Ob.o (O.nilCheck rfl kR),
   fun wx hx=>Ob.o (O.fieldAddr runUnderlying129 rfl sizeOf48 rfl kR),
   fun wx hx=>Ob.o (O.fieldAddr runUnderlying48 rfl sizeOf25 rfl kR),
   fun wx hx=>Ob.o (O.fieldAddr runUnderlying25 rfl sizeOf3 rfl kR),
   fun wx hx=>Ob.o (O.load isAgg3 rfl ((Blk.ext Kv hx).cell rfl) kR),
   fun wx hx=>Ob.o (O.aC rfl rfl (by omega) kR),
   fun wx hx=>Ob.o (O.assign rfl kR),
   trivial⟩ (fun w16 Ac=>?_)
 rw [show (1+s.G+s.P:Int)=((1+s.G.toNat+s.P.toNat:Nat):Int) by omega,show (1+s.G:Int)=((1+s.G.toNat:Nat):Int) by omega]
 have hxl:=(jq ws xs hnum).1
 have Xj:Ext w w16:=((eU.trans dU).trans Yf).trans Ac
 have afJ:w.heap.size≤w72.heap.size:=(eU.trans dU).size
 have Xk:dJ (AX w.heap.size) w75 v75 xs:=dJ.aU aiL (fun k h _ ↦ Nat.le_trans afJ h)
 have hIg:=Xk.cut (l:=1) (h:=1+s.G.toNat) (by omega) (by omega)
 have hIv:=Xk.cut (l:=1+s.G.toNat) (h:=1+s.G.toNat+s.P.toNat) (by omega) (by omega)
 have hIq:=Xk.cut (l:=1+s.G.toNat+s.P.toNat) (h:=xs.length) (by omega) (Nat.le_refl _)
 rw [List.take_of_length_le (by rw [List.length_drop];omega)] at hIq
 rw [show 1+s.G.toNat-1=s.G.toNat by omega] at hIg
 rw [show 1+s.G.toNat+s.P.toNat-(1+s.G.toNat)=s.P.toNat by omega] at hIv
 have aiN:=Blk.ext X7 ((dU.trans Yf).trans Ac)
 have afK:=Blk.ext X7 (dU.trans Yf)
 have hint:∀ W,dA (some b4) w16 W→Ints .i64 0 W v75 xs:=fun W h ↦ (Xk.stay (Q':=fun _ ↦ True) fun k cs q B ↦ ⟨trivial,h.blk (Blk.ext B Ac) (fun e ↦ Je afK B (by decide) (by cases e;rfl))⟩).ints
 refine L.a rfl (L.nil (T.seq (?_)))
 refine T.any mixed 24 4 [1,6,7,8,4] rfl [.is _,.is _,.is _,.is _,.is _,.is _,.is _,.is _,.is _,.is _,.is _,.is _,.is _,.is _,.is _,.is _,.is _,.is undef,.is _,.is undef,.is _,.is undef,.is _,.is undef] [[],[0],[1],[],[3],[4],[],[],[6,7],[],[],[],[9,10,11],[],[],[13,14],[],[16,2],[],[18,5],[],[20,8],[],[22,12]] [none,none,none,none,none,none,none,none,none,none,none,none,none,none,none,none,none,some 0,none,some 1,none,some 2,none,some 3] [[],[0],[0,1],[],[3],[3,4],[],[],[6,7],[],[],[],[9,10,11],[],[],[13,14],[0,1,2],[0,1,2,16],[0,1,2,3,4,5,16,17],[0,1,2,3,4,5,16,17,18],[0,1,2,3,4,5,6,7,8,16,17,18,19],[0,1,2,3,4,5,6,7,8,16,17,18,19,20],[0,1,2,3,4,5,6,7,8,9,10,11,12,16,17,18,19,20,21],[0,1,2,3,4,5,6,7,8,9,10,11,12,16,17,18,19,20,21,22],[0,1,2,3,4,5,6,7,8,9,10,11,12,13,14,15,16,17,18,19,20,21,22,23],[0,1,2,3,4,5,6,7,8,9,10,11,12,13,14,15,16,17,18,19,20,21,22,23,24]] (I7 w16 b4 51 [nC (uY r),(nC (uY r)).set 0 (str nm),((nC (uY r)).set 0 (str nm)).set 1 (.int .i64 (xs.getD 0 0)),(((nC (uY r)).set 0 (str nm)).set 1 (.int .i64 (xs.getD 0 0))).set 2 (pR 1 v75 1 (1+s.G.toNat)),((((nC (uY r)).set 0 (str nm)).set 1 (.int .i64 (xs.getD 0 0))).set 2 (pR 1 v75 1 (1+s.G.toNat))).set 3 (pR 1 v75 (1+s.G.toNat) (1+s.G.toNat+s.P.toNat))]) (fun _ _=>True) (by kernel_rfl) (by kernel_rfl) (by kernel_rfl) rfl trivial (I7.start aiN (Keep.drew _ _)) ⟨fun c wx hx=>ObK.op rfl (O.move rfl ⟨⟨trivial,hx⟩,rfl⟩),
   fun c wx hx=>ObK.op rfl (O.indexAddr runUnderlying61 sizeOf9 rfl rfl (hws.ext (hx.1.ext Xj (fun k e ↦ by cases e;omega))) (by decide) (by simp) ⟨⟨trivial,hx⟩,rfl⟩),
   fun c wx hx=>ObK.op rfl (O.load isAgg9 rfl ((hws.ext (hx.1.ext Xj (fun k e ↦ by cases e;omega))).at (show 0<(nm::ws).length by simp)) ⟨⟨trivial,hx⟩,rfl⟩),
   fun c wx hx=>ObK.op rfl (O.move rfl ⟨⟨trivial,hx⟩,rfl⟩),
   fun c wx hx=>ObK.op rfl (O.indexAddr runUnderlying30 sizeOf3 rfl rfl (hint _ hx.1) (by decide) (by omega) ⟨⟨trivial,hx⟩,rfl⟩),
   fun c wx hx=>ObK.op rfl (O.load isAgg3 rfl (Ints.at (hint _ hx.1) (show 0<xs.length by omega)) ⟨⟨trivial,hx⟩,rfl⟩),
   fun c wx hx=>ObK.op rfl (O.move rfl ⟨⟨trivial,hx⟩,rfl⟩),
   fun c wx hx=>ObK.op rfl (O.move rfl ⟨⟨trivial,hx⟩,rfl⟩),
   fun c wx hx=>ObK.op rfl (O.Va (l:=1) (h:=1+s.G.toNat) runUnderlying30 sizeOf3 rfl rfl rfl Xk.ints (by omega) (by omega) ⟨⟨trivial,hx⟩,rfl⟩),
   fun c wx hx=>ObK.op rfl (O.move rfl ⟨⟨trivial,hx⟩,rfl⟩),
   fun c wx hx=>ObK.op rfl (O.move rfl ⟨⟨trivial,hx⟩,rfl⟩),
   fun c wx hx=>ObK.op rfl (O.move rfl ⟨⟨trivial,hx⟩,rfl⟩),
   fun c wx hx=>ObK.op rfl (O.Va (l:=1+s.G.toNat) (h:=1+s.G.toNat+s.P.toNat) runUnderlying30 sizeOf3 rfl rfl rfl Xk.ints (by omega) (by omega) ⟨⟨trivial,hx⟩,rfl⟩),
   fun c wx hx=>ObK.op rfl (O.move rfl ⟨⟨trivial,hx⟩,rfl⟩),
   fun c wx hx=>ObK.op rfl (O.move rfl ⟨⟨trivial,hx⟩,rfl⟩),
   fun c wx hx=>ObK.op rfl (O.jk (l:=1+s.G.toNat+s.P.toNat) runUnderlying30 sizeOf3 rfl rfl Xk.ints (by omega) ⟨⟨trivial,hx⟩,rfl⟩),
   fun c wx hx=>ObK.op rfl (O.fieldAddr runUnderlying51 rfl sizeOf9 rfl ⟨⟨trivial,hx⟩,rfl⟩),
   fun wx hx=>ObK.op rfl (O.bf sizeOf9 rfl rfl rfl hx.2 (show (0:Nat)<6 by decide) (fun aiB MG TV=>⟨⟨trivial,hx.next MG TV rfl⟩,rfl⟩)),
   fun c wx hx=>ObK.op rfl (O.fieldAddr runUnderlying51 rfl sizeOf3 rfl ⟨⟨trivial,hx⟩,rfl⟩),
   fun wx hx=>ObK.op rfl (O.bf sizeOf3 rfl rfl rfl hx.2 (show (1:Nat)<6 by decide) (fun ak1 adA adB=>⟨⟨trivial,hx.next adA adB rfl⟩,rfl⟩)),
   fun c wx hx=>ObK.op rfl (O.fieldAddr runUnderlying51 rfl sizeOf30 rfl ⟨⟨trivial,hx⟩,rfl⟩),
   fun wx hx=>ObK.op rfl (O.bf sizeOf30 (Sl.one hIg.ints) rfl rfl hx.2 (show (2:Nat)<6 by decide) (fun aij adC WT=>⟨⟨trivial,hx.next adC WT rfl⟩,rfl⟩)),
   fun c wx hx=>ObK.op rfl (O.fieldAddr runUnderlying51 rfl sizeOf30 rfl ⟨⟨trivial,hx⟩,rfl⟩),
   fun wx hx=>ObK.op rfl (O.bf sizeOf30 (Sl.one hIv.ints) rfl rfl hx.2 (show (3:Nat)<6 by decide) (fun ac8 adD adE=>⟨⟨trivial,hx.next adD adE rfl⟩,rfl⟩)),
   trivial⟩ (fun w17 aiO=>?_)
 obtain ⟨Cm,aiP⟩:=aiO
 refine L.o (O.fieldAddr runUnderlying51 rfl sizeOf30 rfl (L.o (O.bf sizeOf30 (Sl.one hIq.ints) rfl rfl aiP (show (4:Nat)<6 by decide) (fun PX ZQ I9=>?_))))
 obtain ⟨vU,hvU⟩:∃ vU:UnV,vU=⟨nm,xs.getD 0 0,pR 1 v75 1 (1+s.G.toNat),(xs.drop 1).take s.G.toNat,pR 1 v75 (1+s.G.toNat) (1+s.G.toNat+s.P.toNat),(xs.drop (1+s.G.toNat)).take s.P.toNat,pR 1 v75 (1+s.G.toNat+s.P.toNat) xs.length,xs.drop (1+s.G.toNat+s.P.toNat),uY r⟩:=⟨_,rfl⟩
 have adF:Blk PX b4 vU.cells 51:=by subst hvU;exact I9
 have AP:Ext w PX:=(Cm.ext Xj (fun k e ↦ by cases e;omega)).upd ZQ (.inr (by omega))
 have Ue:=hK.ext AP
 have Jf:Blk PX b (aG d s) 129:=Ue.row
 have hlt:∀ k,d.uv.ownBlock=some k→k<w.heap.size:=fun k e ↦ yx hK.usr.1 e
 have hpb:d.uv.ownBlock≠some b:=fun e ↦ (hK.usr.2 b e).2.1 rfl
 have aiQ:d.uv.ownBlock≠some b4:=fun e ↦ by have:=hlt b4 e;omega
 have hone:∀ c∈vU.cells,c.oneCell'=true:=by
  subst hvU
  intro c hc
  simp only [UnV.cells,List.mem_cons,List.not_mem_nil,or_false] at hc
  rcases hc with rfl|rfl|rfl|rfl|rfl|rfl
  ·rfl
  ·rfl
  ·exact Sl.one hIg.ints
  ·exact Sl.one hIv.ints
  ·exact Sl.one hIq.ints
  rfl
 have hul:=hK.usl
 have Xd:=AP.size
 refine L.nil (?_)
 refine T.aaz mixed 10 0 [0,4] rfl [.is _,.is _,.is _,.is _,.is _,.is _,.is _,.is _,.such (ZP d.uv.ownBlock vU.cells),.such (fun _ _=>True)] [[],[],[1],[2],[3],[4],[5],[],[7],[6,8]] [none,none,none,none,none,none,none,none,none,none] [[],[],[1],[1,2],[1,2,3],[1,2,3,4],[1,2,3,4,5],[],[7],[1,2,3,4,5,6,7,8],[0,1,2,3,4,5,6,7,8,9],[0,1,2,3,4,5,6,7,8,9,10],[0,1,2,3,4,5,6,7,8,9,10,11],[0,1,2,3,4,5,6,7,8,9,10,11,12],[0,1,2,3,4,5,6,7,8,9,10,11,12,13]] (G5 PX d.uv.ownBlock 9 (I8 d.uv.ownBlock w.heap.size 51 6 (d.us.length+1) (eH d.us++vU.cells))) (dA d.uv.ownBlock) (by kernel_rfl) (by kernel_rfl) (by kernel_rfl) rfl ⟨ZP.st,fun _ _ _ _ _=>trivial,trivial⟩ (.inl ⟨rfl,Keep.drew _ _⟩) ⟨fun c σ wx hx hn hl=>ObG.op rfl (O.move rfl ⟨⟨dA.refl _ _,hx.nop (Keep.refl _ _) (fun _ g ↦ g) (by decide)⟩,rfl⟩),
   fun c σ wx hx hn hl=>ObG.op rfl (O.move rfl ⟨⟨dA.refl _ _,hx.nop (Keep.refl _ _) (fun _ g ↦ g) (by decide)⟩,rfl⟩),
   fun c σ wx hx hn hl=>ObG.op rfl (O.nilCheck rfl ⟨⟨dA.refl _ _,hx.nop (Keep.refl _ _) (fun _ g ↦ g) (by decide)⟩,rfl⟩),
   fun c σ wx hx hn hl=>ObG.op rfl (O.fieldAddr runUnderlying129 rfl sizeOf48 rfl ⟨⟨dA.refl _ _,hx.nop (Keep.refl _ _) (fun _ g ↦ g) (by decide)⟩,rfl⟩),
   fun c σ wx hx hn hl=>ObG.op rfl (O.fieldAddr runUnderlying48 rfl sizeOf25 rfl ⟨⟨dA.refl _ _,hx.nop (Keep.refl _ _) (fun _ g ↦ g) (by decide)⟩,rfl⟩),
   fun c σ wx hx hn hl=>ObG.op rfl (O.fieldAddr runUnderlying25 rfl sizeOf23 rfl ⟨⟨dA.refl _ _,hx.nop (Keep.refl _ _) (fun _ g ↦ g) (by decide)⟩,rfl⟩),
   fun c σ wx hx hn hl=>ObG.op rfl (O.load isAgg23 rfl ((hx.but.blk (cs:=aG d s) Jf hpb).cell rfl) ⟨⟨dA.refl _ _,hx.nop (Keep.refl _ _) (fun _ g ↦ g) (by decide)⟩,rfl⟩),
   fun c σ wx hx hn hl=>ObG.op rfl (O.ak isAgg51 sizeOf51 rfl rfl (Row.ay (hx.but.blk (cs:=vU.cells) adF aiQ)) ⟨⟨dA.refl _ _,hx.nop (Keep.refl _ _) (fun _ g ↦ g) (by decide)⟩,rfl⟩),
   fun c σ wx hx hn hl=>ObG.op rfl (O.buildSlice (el:=51) (parts:=[(0,.tmp 125)]) (vs:=[(0,_)]) (cs:=vU.cells) rfl (fun w=>by kernel_rfl) (fun aiR ak2 aiS aiT Xl adG=>⟨⟨dA.aW Xl,hx.nop Xl (fun _ g ↦ g.ext Xl) (by decide)⟩,aiR,rfl,fun e=>by have:=hlt _ e;have:=hx.but.size;omega,adG⟩)),
   fun c σ wx hx hn aiU ZR hl=>by { obtain ⟨bl,rfl,hbn,hBl⟩:=ZR;exact ObG.op rfl (O.wM (size:=6) (bytes:=104) runUnderlying23 Tryz.Jq rfl rfl rfl rfl (by decide) rfl rfl (aH Ue.usr.1 (hx.Me hn) (Nat.zero_le _)) rfl (Row.ay hBl) hone (by omega) (by simp only [maxLen];omega) (Nat.zero_le _) (fun v127 ak3 adH ZT adI=>⟨⟨dA.jh ZT,hx.app hn ZT ⟨adH,fun k e=>(adI k e).imp id (fun h=>by have:=(hx.Me hn).size;omega)⟩⟩,trivial⟩)) },
   trivial⟩ (fun ak4 w18 aiV aiU ZR v127 aiW aiX=>?_)
 obtain ⟨wB,afL⟩:=aiV.done (aiX 9 (by decide) _ _ rfl rfl).symm
 refine L.o (O.nilCheck rfl (L.o (O.fieldAddr runUnderlying129 rfl sizeOf48 rfl (L.o (O.fieldAddr runUnderlying48 rfl sizeOf25 rfl (L.o (O.fieldAddr runUnderlying25 rfl sizeOf23 rfl (L.o (O.bf sizeOf23 (Sl.one (Sl.aU afL.1)) rfl rfl (wB.blk (cs:=aG d s) Jf hpb) (show (5:Nat)<7 by decide) (fun ZU Qq adJ=>?_))))))))))
 have adK:=afL.updB Qq (wB.blk (cs:=aG d s) Jf hpb) (by decide)
 have adL:Ext w0 ZU:=(wB.ext Ue.e (fun k e ↦ (hK.usr.2 k e).1)).upd Qq (.inr hK.lo)
 have adM:w.heap.size≤ZU.heap.size:=by have:=wB.size;have:=Qq.size;omega
 have hkeep:∀ k,k<w.heap.size→k≠b→d.uv.ownBlock≠some k→ZU.heap[k]?=w.heap[k]?:=fun k h1 h2 h3 ↦ (Qq.block k h2).trans ((wB.block k (by omega) h3).trans (AP.block k (Nat.zero_le _) h1))
 have hst:∀ k cs,AX w.heap.size k→Blk w75 k cs 3→AX w.heap.size k∧Blk ZU k cs 3:=fun k cs q B ↦ by
  have n1:k≠b4:=fun e=>Je B afK (by decide) e
  have afM:=Blk.upd (Cm.blk (Blk.ext B Ac) (fun e=>n1 (by cases e;rfl))) ZQ n1
  exact ⟨q,Blk.upd (wB.blk afM (ng Ue.usr.1 afM (by decide))) Qq (fun e=>Je B Kv (by decide) e)⟩
 have hUn:UnO (AX w.heap.size) ZU vU ⟨nm,xs.getD 0 0,(xs.drop 1).take s.G.toNat,(xs.drop (1+s.G.toNat)).take s.P.toNat,xs.drop (1+s.G.toNat+s.P.toNat),uY r⟩:=by
  subst hvU
  exact ⟨rfl,rfl,rfl,rfl,rfl,rfl,hIg.stay hst,hIv.stay hst,hIq.stay hst⟩
 refine L.nil (T.Nw results123 ⟨⟨uAdd d vU v127,hK.Xi hkeep adL adM adJ adK hUn⟩,fun k hk=>?_⟩)
 have hs:=hK.S k hk
 exact hkeep k hs.2.1 hs.2.2 (fun e=>(hK.usr.2 k e).2.2 hk)
theorem Xm (w0:World) (b lo:Nat) (s:PS) (S:Nat→Prop) (p:Value) (r:List Str) (w:World) (hI:RdI w0 b s S w) (hL0:ji w0) (hp:Strs lo w p r) (hs:∀ x∈r,x.length≤100000) (hr:r.length≤100000) (hu:tV s r=none) :
  Calls Tryz.prog 123 #[.pointer (some ⟨b,0,none⟩),p] w (Pan (bU) fun w'=>Ext w w'):=by
 obtain ⟨d,hK⟩:=hI
 refine T.fA (vs:=[.pointer (some ⟨b,0,none⟩),p]) func123 rfl ntmps123 rfl ?_
 refine T.q (L.o (O.build (v:=.agg (nC false).toArray) (parts:=[]) (vs:=[]) rfl (fun w=>by kernel_rfl) (L.o (O.alloc zeroValue51 (fun b4 w4 hb4 hz4 he4 hB4=>?_)))))
 refine L.o (O.aF sizeOf51 rfl rfl rfl hB4 (Nat.le_refl _) (Gn false) (fun w9 hu9 hB9=>?_))
 replace hu9:Upd b4 w4 w9:=hu9
 have hU9:Blk w9 b4 (nC false) 51:=hB9
 have he9:Ext w w9:=he4.upd hu9 (.inr (by omega))
 refine L.nil (T.seq (T.q (L.m rfl (L.o (O.len runUnderlying61 rfl (Sl.val hp) (L.o (O.fC rfl rfl (by omega) (L.a rfl (L.nil (T.seq (?_)))))))))))
 refine T.join (σ:=Unit) (fun _=>[(0,.pointer (some ⟨b,0,none⟩)),(1,p),(4,.pointer (some ⟨b4,0,none⟩)),(5,.int .i64 ((r.length:Int)-1)),(21,.bool (uY r))]) (fun _ w'=>w'=w9) ?_ ?_
 ·rcases Nat.lt_or_ge 1 r.length with h1|h1
  ·rw [show ((r.length:Int)-1)=((r.length-1:Nat):Int) by omega]
   refine T.region (L.m rfl (L.o (O.Bq rfl rfl (by omega) (L.m rfl (L.m rfl (L.m rfl (L.o (O.indexAddr runUnderlying61 sizeOf9 rfl rfl (hp.ext he9) (by omega) (by omega) (L.o (O.load isAgg9 rfl ((hp.ext he9).at (show r.length-1<r.length by omega)) (L.o (O.lY runUnderlying9 rfl rfl (fun h2=>?_) (fun h2=>?_)))))))))))))
   ·refine L.o (O.aj rfl rfl (L.nil (T.meet (()) ⟨rfl,rfl,rfl,rfl,?_,trivial⟩ rfl)))
    ·exact congrArg (fun z=>some (Value.bool z)) (by rw [uY,decide_eq_true h1,Bool.true_and];exact (decide_eq_true h2).symm)
   refine L.o (O.aj rfl rfl (L.nil (T.meet (()) ⟨rfl,rfl,rfl,rfl,?_,trivial⟩ rfl)))
   ·exact congrArg (fun z=>some (Value.bool z)) (by rw [uY,decide_eq_true h1,Bool.true_and];exact (decide_eq_false h2).symm)
  refine T.region (L.m rfl (L.o (O.y9 rfl rfl (by omega) (L.m rfl (L.p (L.p (L.p (L.p (L.p (L.o (O.ah rfl rfl (L.nil (T.meet (()) ⟨rfl,rfl,rfl,rfl,?_,trivial⟩ rfl)))))))))))))
  ·exact congrArg (fun z=>some (Value.bool z)) (by rw [uY,decide_eq_false (by omega),Bool.false_and])
 rintro _ w10 rfl
 refine T.join (σ:=Unit) (fun _=>[(0,.pointer (some ⟨b,0,none⟩)),(1,uZ p r),(4,.pointer (some ⟨b4,0,none⟩))]) (fun _ W=>Ext w W∧Blk W b4 (nC (uY r)) 51) ?_ ?_
 ·rcases hwt:uY r with _|_
  ·refine T.cf (T.skip (T.meet (()) ⟨rfl,?_,rfl,trivial⟩ ⟨he9,hU9⟩))
   ·exact congrArg some (by rw [uZ,hwt];rfl)
  have h1:1<r.length:=by unfold uY at hwt;simp only [Bool.and_eq_true,decide_eq_true_eq] at hwt;exact hwt.1
  rw [show ((r.length:Int)-1)=((r.length-1:Nat):Int) by omega]
  refine T.ct (?_)
  refine T.any mixed 5 1 [1,5,4] rfl [.is _,.is _,.is _,.is _,.is undef] [[],[],[0,1],[],[3]] [none,none,none,none,some 0] [[],[],[0,1],[],[3],[0,1,2,3,4]] (I7 w10 b4 51 [nC false,(nC false).set 5 (.bool true)]) (fun _ _=>True) (by kernel_rfl) (by kernel_rfl) (by kernel_rfl) rfl trivial (I7.start hU9 (Keep.drew _ _)) ⟨fun c wx hx=>ObK.op rfl (O.move rfl ⟨⟨trivial,hx⟩,rfl⟩),
    fun c wx hx=>ObK.op rfl (O.move rfl ⟨⟨trivial,hx⟩,rfl⟩),
    fun c wx hx=>ObK.op rfl (O.Es runUnderlying61 sizeOf9 rfl rfl (hp.ext (hx.1.ext he9 (fun k e ↦ by cases e;omega))) (by omega) ⟨⟨trivial,hx⟩,rfl⟩),
    fun c wx hx=>ObK.op rfl (O.fieldAddr runUnderlying51 rfl sizeOf4 rfl ⟨⟨trivial,hx⟩,rfl⟩),
    fun wx hx=>ObK.op rfl (O.bf sizeOf4 rfl rfl rfl hx.2 (show (5:Nat)<6 by decide) (fun w25 EG yZ=>⟨⟨trivial,hx.next EG yZ rfl⟩,rfl⟩)),
    trivial⟩ (fun w13 YX=>?_)
  obtain ⟨hB3,hR3⟩:=YX
  refine L.a rfl (L.nil (T.meet (()) ⟨rfl,?_,rfl,trivial⟩ ⟨hB3.ext he9 (fun k e ↦ by cases e;omega),hR3⟩))
  ·exact congrArg some (by rw [uZ,hwt];rfl)
 rintro _ w11 ⟨eU,X7⟩
 have Ye:=hK.ext eU
 have fB:Blk w11 b (aG d s) 129:=Ye.row
 have hws:=Ku hp
 have adz:=hL0.ext Ye.e
 have hbig:=hK.big
 have hql:=Bd r
 rcases MK hu with h3|⟨⟨g1,g2,g3⟩,h4⟩|⟨⟨g1,g2,g3⟩,h4,nm,ws,hq,hnum⟩
 ·refine T.seq (?_)
  refine T.dL mixed 44 [0,1] rfl (.is _ :: .is _ :: .is _ :: .is _ :: .is _ :: .is _ :: .is _ :: .is _ :: .is _ :: .is _ :: .is _ :: .is _ :: .is _ :: .is _ :: .is _ :: .is _ :: .is _ :: .is _ :: .is _ :: .is _ :: .is _ :: .is undef :: .is undef :: .is undef :: .is undef :: .is undef :: .is undef :: .is undef :: .is undef :: .is undef :: .is undef :: .is undef :: .is undef :: .is undef :: .is undef :: .is undef :: .is undef :: .is undef :: .is undef :: .is undef :: .is undef :: .is undef :: .is undef :: .is undef :: []) ([] :: [0] :: [1] :: [2] :: [3] :: [4] :: [] :: [6] :: [7] :: [8] :: [9] :: [10] :: [] :: [12] :: [13] :: [14] :: [15] :: [16] :: [5,11,17] :: [18] :: [19] :: [20] :: [21,20] :: [20] :: [23,20] :: [24,20] :: [25,20] :: [26,20] :: [27,20] :: [28,20] :: [20] :: [30,20] :: [31,20] :: [32,20] :: [33,20] :: [34,20] :: [29,35,20] :: [20] :: [37,20] :: [38,20] :: [39,20] :: [40,20] :: [41,20] :: [36,42,20] :: []) ([] :: [0] :: [0,1] :: [0,1,2] :: [0,1,2,3] :: [0,1,2,3,4] :: [] :: [6] :: [6,7] :: [6,7,8] :: [6,7,8,9] :: [6,7,8,9,10] :: [] :: [12] :: [12,13] :: [12,13,14] :: [12,13,14,15] :: [12,13,14,15,16] :: [0,1,2,3,4,5,6,7,8,9,10,11,12,13,14,15,16,17] :: [0,1,2,3,4,5,6,7,8,9,10,11,12,13,14,15,16,17,18] :: [0,1,2,3,4,5,6,7,8,9,10,11,12,13,14,15,16,17,18,19] :: [0,1,2,3,4,5,6,7,8,9,10,11,12,13,14,15,16,17,18,19,20] :: [0,1,2,3,4,5,6,7,8,9,10,11,12,13,14,15,16,17,18,19,20,21] :: [0,1,2,3,4,5,6,7,8,9,10,11,12,13,14,15,16,17,18,19,20] :: [0,1,2,3,4,5,6,7,8,9,10,11,12,13,14,15,16,17,18,19,20,23] :: [0,1,2,3,4,5,6,7,8,9,10,11,12,13,14,15,16,17,18,19,20,23,24] :: [0,1,2,3,4,5,6,7,8,9,10,11,12,13,14,15,16,17,18,19,20,23,24,25] :: [0,1,2,3,4,5,6,7,8,9,10,11,12,13,14,15,16,17,18,19,20,23,24,25,26] :: [0,1,2,3,4,5,6,7,8,9,10,11,12,13,14,15,16,17,18,19,20,23,24,25,26,27] :: [0,1,2,3,4,5,6,7,8,9,10,11,12,13,14,15,16,17,18,19,20,23,24,25,26,27,28] :: [0,1,2,3,4,5,6,7,8,9,10,11,12,13,14,15,16,17,18,19,20] :: [0,1,2,3,4,5,6,7,8,9,10,11,12,13,14,15,16,17,18,19,20,30] :: [0,1,2,3,4,5,6,7,8,9,10,11,12,13,14,15,16,17,18,19,20,30,31] :: [0,1,2,3,4,5,6,7,8,9,10,11,12,13,14,15,16,17,18,19,20,30,31,32] :: [0,1,2,3,4,5,6,7,8,9,10,11,12,13,14,15,16,17,18,19,20,30,31,32,33] :: [0,1,2,3,4,5,6,7,8,9,10,11,12,13,14,15,16,17,18,19,20,30,31,32,33,34]::(0::1::2::3::4::5::6::7::8::9::10::11::12::13::14::15::16::17::18::19::20::23::24::25::26::27::28::29::30::31::32::33::34::35 :: []) :: [0,1,2,3,4,5,6,7,8,9,10,11,12,13,14,15,16,17,18,19,20] :: [0,1,2,3,4,5,6,7,8,9,10,11,12,13,14,15,16,17,18,19,20,37] :: [0,1,2,3,4,5,6,7,8,9,10,11,12,13,14,15,16,17,18,19,20,37,38] :: [0,1,2,3,4,5,6,7,8,9,10,11,12,13,14,15,16,17,18,19,20,37,38,39] :: [0,1,2,3,4,5,6,7,8,9,10,11,12,13,14,15,16,17,18,19,20,37,38,39,40] :: [0,1,2,3,4,5,6,7,8,9,10,11,12,13,14,15,16,17,18,19,20,37,38,39,40,41]::(0::1::2::3::4::5::6::7::8::9::10::11::12::13::14::15::16::17::18::19::20::23::24::25::26::27::28::29::30::31::32::33::34::35::36::37::38::39::40::41::42 :: [])::(0::1::2::3::4::5::6::7::8::9::10::11::12::13::14::15::16::17::18::19::20::21::22::23::24::25::26::27::28::29::30::31::32::33::34::35::36::37::38::39::40::41::42::43 :: [])::(0::1::2::3::4::5::6::7::8::9::10::11::12::13::14::15::16::17::18::19::20::21::22::23::24::25::26::27::28::29::30::31::32::33::34::35::36::37::38::39::40::41::42::43::44 :: [])::(0::1::2::3::4::5::6::7::8::9::10::11::12::13::14::15::16::17::18::19::20::21::22::23::24::25::26::27::28::29::30::31::32::33::34::35::36::37::38::39::40::41::42::43::44::45 :: []) :: []) (by kernel_rfl) (by kernel_rfl) rfl (by kernel_rfl) trivial ⟨fun wx hx=>Ob.o (O.move rfl kR),
    fun wx hx=>Ob.o (O.nilCheck rfl kR),
    fun wx hx=>Ob.o (O.fieldAddr runUnderlying129 rfl sizeOf48 rfl kR),
    fun wx hx=>Ob.o (O.fieldAddr runUnderlying48 rfl sizeOf25 rfl kR),
    fun wx hx=>Ob.o (O.fieldAddr runUnderlying25 rfl sizeOf3 rfl kR),
    fun wx hx=>Ob.o (O.load isAgg3 rfl ((Blk.ext fB hx).cell rfl) kR),
    fun wx hx=>Ob.o (O.move rfl kR),
    fun wx hx=>Ob.o (O.nilCheck rfl kR),
    fun wx hx=>Ob.o (O.fieldAddr runUnderlying129 rfl sizeOf48 rfl kR),
    fun wx hx=>Ob.o (O.fieldAddr runUnderlying48 rfl sizeOf25 rfl kR),
    fun wx hx=>Ob.o (O.fieldAddr runUnderlying25 rfl sizeOf3 rfl kR),
    fun wx hx=>Ob.o (O.load isAgg3 rfl ((Blk.ext fB hx).cell rfl) kR),
    fun wx hx=>Ob.o (O.move rfl kR),
    fun wx hx=>Ob.o (O.nilCheck rfl kR),
    fun wx hx=>Ob.o (O.fieldAddr runUnderlying129 rfl sizeOf48 rfl kR),
    fun wx hx=>Ob.o (O.fieldAddr runUnderlying48 rfl sizeOf25 rfl kR),
    fun wx hx=>Ob.o (O.fieldAddr runUnderlying25 rfl sizeOf3 rfl kR),
    fun wx hx=>Ob.o (O.load isAgg3 rfl ((Blk.ext fB hx).cell rfl) kR),
    fun wx hx=>Ob.o (O.abf rfl rfl rfl kR),
    fun wx hx=>Ob.o (O.KD rfl rfl (fun h=>h3 ⟨(yI.1 (yI.1 h).1).1,(yI.1 (yI.1 h).1).2,(yI.1 h).2⟩) kR),
    fun wx hx=>Ob.o (O.move rfl kR),
    fun wx hx=>Ob.pass rfl rfl,
    fun wx hx=>Ob.pass rfl rfl,
    fun wx hx=>Ob.pass rfl rfl,
    fun wx hx=>Ob.pass rfl rfl,
    fun wx hx=>Ob.pass rfl rfl,
    fun wx hx=>Ob.pass rfl rfl,
    fun wx hx=>Ob.pass rfl rfl,
    fun wx hx=>Ob.pass rfl rfl,
    fun wx hx=>Ob.pass rfl rfl,
    fun wx hx=>Ob.pass rfl rfl,
    fun wx hx=>Ob.pass rfl rfl,
    fun wx hx=>Ob.pass rfl rfl,
    fun wx hx=>Ob.pass rfl rfl,
    fun wx hx=>Ob.pass rfl rfl,
    fun wx hx=>Ob.pass rfl rfl,
    fun wx hx=>Ob.pass rfl rfl,
    fun wx hx=>Ob.pass rfl rfl,
    fun wx hx=>Ob.pass rfl rfl,
    fun wx hx=>Ob.pass rfl rfl,
    fun wx hx=>Ob.pass rfl rfl,
    fun wx hx=>Ob.pass rfl rfl,
    fun wx hx=>Ob.pass rfl rfl,
    fun wx hx=>Ob.pass rfl rfl,
    trivial⟩ (fun w14 dU=>?_)
  refine L.p (L.o (O.ah rfl rfl (L.bJ (xs:=[.tmp 71]) rfl call108 rfl rfl (dw w14) (fun w' a hR ha=>⟨ha.defers,rfl,by rw [hR];exact eU.trans dU⟩))))
 ·refine T.seq (?_)
  refine T.dL mixed 44 [0,1] rfl (.is _ :: .is _ :: .is _ :: .is _ :: .is _ :: .is _ :: .is _ :: .is _ :: .is _ :: .is _ :: .is _ :: .is _ :: .is _ :: .is _ :: .is _ :: .is _ :: .is _ :: .is _ :: .is _ :: .is _ :: .is _ :: .is _ :: .is _ :: .is _ :: .is _ :: .is _ :: .is _ :: .is _ :: .is _ :: .is _ :: .is _ :: .is _ :: .is _ :: .is _ :: .is _ :: .is _ :: .is _ :: .is _ :: .is _ :: .is _ :: .is _ :: .is _ :: .is _ :: .is _ :: []) ([] :: [0] :: [1] :: [2] :: [3] :: [4] :: [] :: [6] :: [7] :: [8] :: [9] :: [10] :: [] :: [12] :: [13] :: [14] :: [15] :: [16] :: [5,11,17] :: [18] :: [19] :: [20] :: [21,20] :: [20] :: [23,20] :: [24,20] :: [25,20] :: [26,20] :: [27,20] :: [28,20] :: [20] :: [30,20] :: [31,20] :: [32,20] :: [33,20] :: [34,20] :: [29,35,20] :: [20] :: [37,20] :: [38,20] :: [39,20] :: [40,20] :: [41,20] :: [36,42,20] :: []) ([] :: [0] :: [0,1] :: [0,1,2] :: [0,1,2,3] :: [0,1,2,3,4] :: [] :: [6] :: [6,7] :: [6,7,8] :: [6,7,8,9] :: [6,7,8,9,10] :: [] :: [12] :: [12,13] :: [12,13,14] :: [12,13,14,15] :: [12,13,14,15,16] :: [0,1,2,3,4,5,6,7,8,9,10,11,12,13,14,15,16,17] :: [0,1,2,3,4,5,6,7,8,9,10,11,12,13,14,15,16,17,18] :: [0,1,2,3,4,5,6,7,8,9,10,11,12,13,14,15,16,17,18,19] :: [0,1,2,3,4,5,6,7,8,9,10,11,12,13,14,15,16,17,18,19,20] :: [0,1,2,3,4,5,6,7,8,9,10,11,12,13,14,15,16,17,18,19,20,21] :: [0,1,2,3,4,5,6,7,8,9,10,11,12,13,14,15,16,17,18,19,20] :: [0,1,2,3,4,5,6,7,8,9,10,11,12,13,14,15,16,17,18,19,20,23] :: [0,1,2,3,4,5,6,7,8,9,10,11,12,13,14,15,16,17,18,19,20,23,24] :: [0,1,2,3,4,5,6,7,8,9,10,11,12,13,14,15,16,17,18,19,20,23,24,25] :: [0,1,2,3,4,5,6,7,8,9,10,11,12,13,14,15,16,17,18,19,20,23,24,25,26] :: [0,1,2,3,4,5,6,7,8,9,10,11,12,13,14,15,16,17,18,19,20,23,24,25,26,27] :: [0,1,2,3,4,5,6,7,8,9,10,11,12,13,14,15,16,17,18,19,20,23,24,25,26,27,28] :: [0,1,2,3,4,5,6,7,8,9,10,11,12,13,14,15,16,17,18,19,20] :: [0,1,2,3,4,5,6,7,8,9,10,11,12,13,14,15,16,17,18,19,20,30] :: [0,1,2,3,4,5,6,7,8,9,10,11,12,13,14,15,16,17,18,19,20,30,31] :: [0,1,2,3,4,5,6,7,8,9,10,11,12,13,14,15,16,17,18,19,20,30,31,32] :: [0,1,2,3,4,5,6,7,8,9,10,11,12,13,14,15,16,17,18,19,20,30,31,32,33] :: [0,1,2,3,4,5,6,7,8,9,10,11,12,13,14,15,16,17,18,19,20,30,31,32,33,34]::(0::1::2::3::4::5::6::7::8::9::10::11::12::13::14::15::16::17::18::19::20::23::24::25::26::27::28::29::30::31::32::33::34::35 :: []) :: [0,1,2,3,4,5,6,7,8,9,10,11,12,13,14,15,16,17,18,19,20] :: [0,1,2,3,4,5,6,7,8,9,10,11,12,13,14,15,16,17,18,19,20,37] :: [0,1,2,3,4,5,6,7,8,9,10,11,12,13,14,15,16,17,18,19,20,37,38] :: [0,1,2,3,4,5,6,7,8,9,10,11,12,13,14,15,16,17,18,19,20,37,38,39] :: [0,1,2,3,4,5,6,7,8,9,10,11,12,13,14,15,16,17,18,19,20,37,38,39,40] :: [0,1,2,3,4,5,6,7,8,9,10,11,12,13,14,15,16,17,18,19,20,37,38,39,40,41]::(0::1::2::3::4::5::6::7::8::9::10::11::12::13::14::15::16::17::18::19::20::23::24::25::26::27::28::29::30::31::32::33::34::35::36::37::38::39::40::41::42 :: [])::(0::1::2::3::4::5::6::7::8::9::10::11::12::13::14::15::16::17::18::19::20::21::22::23::24::25::26::27::28::29::30::31::32::33::34::35::36::37::38::39::40::41::42::43 :: [])::(0::1::2::3::4::5::6::7::8::9::10::11::12::13::14::15::16::17::18::19::20::21::22::23::24::25::26::27::28::29::30::31::32::33::34::35::36::37::38::39::40::41::42::43::44 :: [])::(0::1::2::3::4::5::6::7::8::9::10::11::12::13::14::15::16::17::18::19::20::21::22::23::24::25::26::27::28::29::30::31::32::33::34::35::36::37::38::39::40::41::42::43::44::45 :: []) :: []) (by kernel_rfl) (by kernel_rfl) rfl (by kernel_rfl) trivial ⟨fun wx hx=>Ob.o (O.move rfl kR),
    fun wx hx=>Ob.o (O.nilCheck rfl kR),
    fun wx hx=>Ob.o (O.fieldAddr runUnderlying129 rfl sizeOf48 rfl kR),
    fun wx hx=>Ob.o (O.fieldAddr runUnderlying48 rfl sizeOf25 rfl kR),
    fun wx hx=>Ob.o (O.fieldAddr runUnderlying25 rfl sizeOf3 rfl kR),
    fun wx hx=>Ob.o (O.load isAgg3 rfl ((Blk.ext fB hx).cell rfl) kR),
    fun wx hx=>Ob.o (O.move rfl kR),
    fun wx hx=>Ob.o (O.nilCheck rfl kR),
    fun wx hx=>Ob.o (O.fieldAddr runUnderlying129 rfl sizeOf48 rfl kR),
    fun wx hx=>Ob.o (O.fieldAddr runUnderlying48 rfl sizeOf25 rfl kR),
    fun wx hx=>Ob.o (O.fieldAddr runUnderlying25 rfl sizeOf3 rfl kR),
    fun wx hx=>Ob.o (O.load isAgg3 rfl ((Blk.ext fB hx).cell rfl) kR),
    fun wx hx=>Ob.o (O.move rfl kR),
    fun wx hx=>Ob.o (O.nilCheck rfl kR),
    fun wx hx=>Ob.o (O.fieldAddr runUnderlying129 rfl sizeOf48 rfl kR),
    fun wx hx=>Ob.o (O.fieldAddr runUnderlying48 rfl sizeOf25 rfl kR),
    fun wx hx=>Ob.o (O.fieldAddr runUnderlying25 rfl sizeOf3 rfl kR),
    fun wx hx=>Ob.o (O.load isAgg3 rfl ((Blk.ext fB hx).cell rfl) kR),
    fun wx hx=>Ob.o (O.abf rfl rfl rfl kR),
    fun wx hx=>Ob.o (O.Bv rfl rfl (yI.2 ⟨yI.2 ⟨g1,g2⟩,g3⟩) kR),
    fun wx hx=>Ob.o (O.move rfl kR),
    fun wx hx=>Ob.o (O.move rfl kR),
    fun wx hx=>Ob.o (O.len runUnderlying61 rfl (Sl.val (hws.ext (eU.trans hx))) kR),
    fun wx hx=>Ob.o (O.move rfl kR),
    fun wx hx=>Ob.o (O.nilCheck rfl kR),
    fun wx hx=>Ob.o (O.fieldAddr runUnderlying129 rfl sizeOf48 rfl kR),
    fun wx hx=>Ob.o (O.fieldAddr runUnderlying48 rfl sizeOf25 rfl kR),
    fun wx hx=>Ob.o (O.fieldAddr runUnderlying25 rfl sizeOf3 rfl kR),
    fun wx hx=>Ob.o (O.load isAgg3 rfl ((Blk.ext fB hx).cell rfl) kR),
    fun wx hx=>Ob.o (O.aC rfl rfl (by omega) kR),
    fun wx hx=>Ob.o (O.move rfl kR),
    fun wx hx=>Ob.o (O.nilCheck rfl kR),
    fun wx hx=>Ob.o (O.fieldAddr runUnderlying129 rfl sizeOf48 rfl kR),
    fun wx hx=>Ob.o (O.fieldAddr runUnderlying48 rfl sizeOf25 rfl kR),
    fun wx hx=>Ob.o (O.fieldAddr runUnderlying25 rfl sizeOf3 rfl kR),
    fun wx hx=>Ob.o (O.load isAgg3 rfl ((Blk.ext fB hx).cell rfl) kR),
    fun wx hx=>Ob.o (O.aC rfl rfl (by omega) kR),
    fun wx hx=>Ob.o (O.move rfl kR),
    fun wx hx=>Ob.o (O.nilCheck rfl kR),
    fun wx hx=>Ob.o (O.fieldAddr runUnderlying129 rfl sizeOf48 rfl kR),
    fun wx hx=>Ob.o (O.fieldAddr runUnderlying48 rfl sizeOf25 rfl kR),
    fun wx hx=>Ob.o (O.fieldAddr runUnderlying25 rfl sizeOf3 rfl kR),
    fun wx hx=>Ob.o (O.load isAgg3 rfl ((Blk.ext fB hx).cell rfl) kR),
    fun wx hx=>Ob.o (O.aC rfl rfl (by omega) kR),
    trivial⟩ (fun w14 dU=>?_)
  refine L.o (O.dY rfl rfl h4 (L.o (O.aj rfl rfl (L.bJ (xs:=[.tmp 71]) rfl call108 rfl rfl (dw w14) (fun w' a hR ha=>⟨ha.defers,rfl,by rw [hR];exact eU.trans dU⟩)))))
 refine T.seq (?_)
 refine T.dL mixed 44 [0,1] rfl (.is _ :: .is _ :: .is _ :: .is _ :: .is _ :: .is _ :: .is _ :: .is _ :: .is _ :: .is _ :: .is _ :: .is _ :: .is _ :: .is _ :: .is _ :: .is _ :: .is _ :: .is _ :: .is _ :: .is _ :: .is _ :: .is _ :: .is _ :: .is _ :: .is _ :: .is _ :: .is _ :: .is _ :: .is _ :: .is _ :: .is _ :: .is _ :: .is _ :: .is _ :: .is _ :: .is _ :: .is _ :: .is _ :: .is _ :: .is _ :: .is _ :: .is _ :: .is _ :: .is _ :: []) ([] :: [0] :: [1] :: [2] :: [3] :: [4] :: [] :: [6] :: [7] :: [8] :: [9] :: [10] :: [] :: [12] :: [13] :: [14] :: [15] :: [16] :: [5,11,17] :: [18] :: [19] :: [20] :: [21,20] :: [20] :: [23,20] :: [24,20] :: [25,20] :: [26,20] :: [27,20] :: [28,20] :: [20] :: [30,20] :: [31,20] :: [32,20] :: [33,20] :: [34,20] :: [29,35,20] :: [20] :: [37,20] :: [38,20] :: [39,20] :: [40,20] :: [41,20] :: [36,42,20] :: []) ([] :: [0] :: [0,1] :: [0,1,2] :: [0,1,2,3] :: [0,1,2,3,4] :: [] :: [6] :: [6,7] :: [6,7,8] :: [6,7,8,9] :: [6,7,8,9,10] :: [] :: [12] :: [12,13] :: [12,13,14] :: [12,13,14,15] :: [12,13,14,15,16] :: [0,1,2,3,4,5,6,7,8,9,10,11,12,13,14,15,16,17] :: [0,1,2,3,4,5,6,7,8,9,10,11,12,13,14,15,16,17,18] :: [0,1,2,3,4,5,6,7,8,9,10,11,12,13,14,15,16,17,18,19] :: [0,1,2,3,4,5,6,7,8,9,10,11,12,13,14,15,16,17,18,19,20] :: [0,1,2,3,4,5,6,7,8,9,10,11,12,13,14,15,16,17,18,19,20,21] :: [0,1,2,3,4,5,6,7,8,9,10,11,12,13,14,15,16,17,18,19,20] :: [0,1,2,3,4,5,6,7,8,9,10,11,12,13,14,15,16,17,18,19,20,23] :: [0,1,2,3,4,5,6,7,8,9,10,11,12,13,14,15,16,17,18,19,20,23,24] :: [0,1,2,3,4,5,6,7,8,9,10,11,12,13,14,15,16,17,18,19,20,23,24,25] :: [0,1,2,3,4,5,6,7,8,9,10,11,12,13,14,15,16,17,18,19,20,23,24,25,26] :: [0,1,2,3,4,5,6,7,8,9,10,11,12,13,14,15,16,17,18,19,20,23,24,25,26,27] :: [0,1,2,3,4,5,6,7,8,9,10,11,12,13,14,15,16,17,18,19,20,23,24,25,26,27,28] :: [0,1,2,3,4,5,6,7,8,9,10,11,12,13,14,15,16,17,18,19,20] :: [0,1,2,3,4,5,6,7,8,9,10,11,12,13,14,15,16,17,18,19,20,30] :: [0,1,2,3,4,5,6,7,8,9,10,11,12,13,14,15,16,17,18,19,20,30,31] :: [0,1,2,3,4,5,6,7,8,9,10,11,12,13,14,15,16,17,18,19,20,30,31,32] :: [0,1,2,3,4,5,6,7,8,9,10,11,12,13,14,15,16,17,18,19,20,30,31,32,33] :: [0,1,2,3,4,5,6,7,8,9,10,11,12,13,14,15,16,17,18,19,20,30,31,32,33,34]::(0::1::2::3::4::5::6::7::8::9::10::11::12::13::14::15::16::17::18::19::20::23::24::25::26::27::28::29::30::31::32::33::34::35 :: []) :: [0,1,2,3,4,5,6,7,8,9,10,11,12,13,14,15,16,17,18,19,20] :: [0,1,2,3,4,5,6,7,8,9,10,11,12,13,14,15,16,17,18,19,20,37] :: [0,1,2,3,4,5,6,7,8,9,10,11,12,13,14,15,16,17,18,19,20,37,38] :: [0,1,2,3,4,5,6,7,8,9,10,11,12,13,14,15,16,17,18,19,20,37,38,39] :: [0,1,2,3,4,5,6,7,8,9,10,11,12,13,14,15,16,17,18,19,20,37,38,39,40] :: [0,1,2,3,4,5,6,7,8,9,10,11,12,13,14,15,16,17,18,19,20,37,38,39,40,41]::(0::1::2::3::4::5::6::7::8::9::10::11::12::13::14::15::16::17::18::19::20::23::24::25::26::27::28::29::30::31::32::33::34::35::36::37::38::39::40::41::42 :: [])::(0::1::2::3::4::5::6::7::8::9::10::11::12::13::14::15::16::17::18::19::20::21::22::23::24::25::26::27::28::29::30::31::32::33::34::35::36::37::38::39::40::41::42::43 :: [])::(0::1::2::3::4::5::6::7::8::9::10::11::12::13::14::15::16::17::18::19::20::21::22::23::24::25::26::27::28::29::30::31::32::33::34::35::36::37::38::39::40::41::42::43::44 :: [])::(0::1::2::3::4::5::6::7::8::9::10::11::12::13::14::15::16::17::18::19::20::21::22::23::24::25::26::27::28::29::30::31::32::33::34::35::36::37::38::39::40::41::42::43::44::45 :: []) :: []) (by kernel_rfl) (by kernel_rfl) rfl (by kernel_rfl) trivial ⟨fun wx hx=>Ob.o (O.move rfl kR),
   fun wx hx=>Ob.o (O.nilCheck rfl kR),
   fun wx hx=>Ob.o (O.fieldAddr runUnderlying129 rfl sizeOf48 rfl kR),
   fun wx hx=>Ob.o (O.fieldAddr runUnderlying48 rfl sizeOf25 rfl kR),
   fun wx hx=>Ob.o (O.fieldAddr runUnderlying25 rfl sizeOf3 rfl kR),
   fun wx hx=>Ob.o (O.load isAgg3 rfl ((Blk.ext fB hx).cell rfl) kR),
   fun wx hx=>Ob.o (O.move rfl kR),
   fun wx hx=>Ob.o (O.nilCheck rfl kR),
   fun wx hx=>Ob.o (O.fieldAddr runUnderlying129 rfl sizeOf48 rfl kR),
   fun wx hx=>Ob.o (O.fieldAddr runUnderlying48 rfl sizeOf25 rfl kR),
   fun wx hx=>Ob.o (O.fieldAddr runUnderlying25 rfl sizeOf3 rfl kR),
   fun wx hx=>Ob.o (O.load isAgg3 rfl ((Blk.ext fB hx).cell rfl) kR),
   fun wx hx=>Ob.o (O.move rfl kR),
   fun wx hx=>Ob.o (O.nilCheck rfl kR),
   fun wx hx=>Ob.o (O.fieldAddr runUnderlying129 rfl sizeOf48 rfl kR),
   fun wx hx=>Ob.o (O.fieldAddr runUnderlying48 rfl sizeOf25 rfl kR),
   fun wx hx=>Ob.o (O.fieldAddr runUnderlying25 rfl sizeOf3 rfl kR),
   fun wx hx=>Ob.o (O.load isAgg3 rfl ((Blk.ext fB hx).cell rfl) kR),
   fun wx hx=>Ob.o (O.abf rfl rfl rfl kR),
   fun wx hx=>Ob.o (O.Bv rfl rfl (yI.2 ⟨yI.2 ⟨g1,g2⟩,g3⟩) kR),
   fun wx hx=>Ob.o (O.move rfl kR),
   fun wx hx=>Ob.o (O.move rfl kR),
   fun wx hx=>Ob.o (O.len runUnderlying61 rfl (Sl.val (hws.ext (eU.trans hx))) kR),
   fun wx hx=>Ob.o (O.move rfl kR),
   fun wx hx=>Ob.o (O.nilCheck rfl kR),
   fun wx hx=>Ob.o (O.fieldAddr runUnderlying129 rfl sizeOf48 rfl kR),
   fun wx hx=>Ob.o (O.fieldAddr runUnderlying48 rfl sizeOf25 rfl kR),
   fun wx hx=>Ob.o (O.fieldAddr runUnderlying25 rfl sizeOf3 rfl kR),
   fun wx hx=>Ob.o (O.load isAgg3 rfl ((Blk.ext fB hx).cell rfl) kR),
   fun wx hx=>Ob.o (O.aC rfl rfl (by omega) kR),
   fun wx hx=>Ob.o (O.move rfl kR),
   fun wx hx=>Ob.o (O.nilCheck rfl kR),
   fun wx hx=>Ob.o (O.fieldAddr runUnderlying129 rfl sizeOf48 rfl kR),
   fun wx hx=>Ob.o (O.fieldAddr runUnderlying48 rfl sizeOf25 rfl kR),
   fun wx hx=>Ob.o (O.fieldAddr runUnderlying25 rfl sizeOf3 rfl kR),
   fun wx hx=>Ob.o (O.load isAgg3 rfl ((Blk.ext fB hx).cell rfl) kR),
   fun wx hx=>Ob.o (O.aC rfl rfl (by omega) kR),
   fun wx hx=>Ob.o (O.move rfl kR),
   fun wx hx=>Ob.o (O.nilCheck rfl kR),
   fun wx hx=>Ob.o (O.fieldAddr runUnderlying129 rfl sizeOf48 rfl kR),
   fun wx hx=>Ob.o (O.fieldAddr runUnderlying48 rfl sizeOf25 rfl kR),
   fun wx hx=>Ob.o (O.fieldAddr runUnderlying25 rfl sizeOf3 rfl kR),
   fun wx hx=>Ob.o (O.load isAgg3 rfl ((Blk.ext fB hx).cell rfl) kR),
   fun wx hx=>Ob.o (O.aC rfl rfl (by omega) kR),
   trivial⟩ (fun w14 dU=>?_)
 refine L.o (O.iW rfl rfl h4 (L.o (O.aj rfl rfl (L.o (O.call (xs:=[.tmp 71]) call108 rfl rfl (dF w14) (fun v72 w72 hq=>?_))))))
 obtain rfl:=hq
 rw [hq] at hws hql
 simp only [List.length_cons] at hql
 refine L.nil (T.q (L.m rfl (L.o (O.jk (l:=1) runUnderlying61 sizeOf9 rfl rfl hws (by simp) (L.bJ (xs:=[.tmp 74]) rfl call122 rfl rfl (kF lo _ ws w72 ((Qo hws).ext (eU.trans dU)) (adz.ext dU) (fun x hx ↦ hs x (tY x (by rw [hq];exact List.mem_cons_of_mem _ hx))) hnum (by omega)) (fun w' a hR ha=>⟨ha.defers,rfl,(eU.trans dU).trans hR⟩))))))
open Go Go.E RowKit
theorem tZ:∀ (s cur:Str),(iw cur s).length≤s.length+(if cur = [] then 0 else 1)
 | [],cur=>by
  unfold iw
  split <;> simp
 | c::r,cur=>by
  have h1:=tZ r []
  have h2:=tZ r (cur ++ [c])
  rw [if_pos rfl] at h1
  rw [if_neg (by simp)] at h2
  unfold iw
  split
  ·split
   ·simp only [List.length_cons];omega
   simp only [List.length_cons];omega
  simp only [List.length_cons];omega
theorem oC {l:Str} {k:Str} {r:List Str} (hl:l.length≤100000) (hf:fieldsB l=k::r):r.length≤100000:=by
 have:=tZ l []
 rw [← AY,hf,if_pos rfl] at this
 simp only [List.length_cons] at this
 omega
theorem Qr (w0:World) (b:Nat) (s:PS) (S:Nat→Prop) (l:Str) (r:List Str) (u:PU) (w:World) (hI:RdI w0 b s S w) (hL0:ji w0) (hll:l.length≤100000) (hf:fieldsB l=cO::r) (hlast:s.last ∉ [[],fH]) (hu:tV s r=some u) (hc:s.us.length≤100000) :
  Calls Tryz.prog 67 #[.pointer (some ⟨b,0,none⟩),str l] w (Ret fun v w'=>RdI w0 b { Gm s u with last:=cO } S w'∧∀ k,S k→w'.heap[k]?=w.heap[k]?):=by
 refine T.enter (vs:=[.pointer (some ⟨b,0,none⟩),str l]) func67 rfl ntmps67 rfl ?_
 refine T.q (L.m rfl (L.o (O.call (xs:=[.tmp 10,.func 121]) call120 rfl rfl (aQ l w hll) (fun v1 w1 hq=>?_))))
 obtain ⟨A,rfl,hS1,he1⟩:=hq
 obtain ⟨d,hK⟩:=hI
 have hK1:=hK.ext he1
 rw [hf]
 rw [hf] at hS1
 refine L.a rfl (L.nil (T.seq (T.q (L.m rfl (L.o (O.len runUnderlying61 rfl (Sl.val hS1) (L.o (O.dY rfl rfl (by simp;omega) (L.nil (T.cf (T.skip (T.seq (?_)))))))))))))
 refine T.dL mixed 6 [4] rfl [.is _,.is _,.is _,.is _,.is _,.is _] [[],[0],[1],[],[3],[2]] [[],[0],[0,1],[],[3],[0,1,2],[0,1,2,3,4,5]] (by kernel_rfl) (by kernel_rfl) rfl (by kernel_rfl) trivial ⟨fun wx hx=>Ob.o (O.move rfl kR),
   fun wx hx=>Ob.o (O.indexAddr runUnderlying61 sizeOf9 rfl rfl (hS1.ext hx) (by decide) (by simp) kR),
   fun wx hx=>Ob.o (O.load isAgg9 rfl ((hS1.ext hx).at (show 0<(cO::r).length by simp)) kR),
   fun wx hx=>Ob.o (O.move rfl kR),
   fun wx hx=>Ob.o (O.jk (l:=1) runUnderlying61 sizeOf9 rfl rfl hS1 (by simp) kR),
   fun wx hx=>Ob.o (O.assign rfl kR),
   trivial⟩ (fun w2 he2=>?_)
 have hR2:=bC (hS1.ext he2) rfl
 refine L.a rfl (L.nil (T.seq (T.q (L.m rfl (L.nil (T.block (T.q (L.o (O.aA runUnderlying9 rfl rfl (show ¬ cO=bH by decide) (L.a rfl (L.nil (T.cf (T.q (L.o (O.aA runUnderlying9 rfl rfl (show ¬ cO=aS by decide) (L.a rfl (L.nil (T.cf (T.q (L.o (O.aA runUnderlying9 rfl rfl (show ¬ cO=bF by decide) (L.a rfl (?_)))))))))))))))))))))))
 refine L.nil (T.cf (T.q (L.o (O.aA runUnderlying9 rfl rfl (show ¬ cO=bG by decide) (L.a rfl (L.nil (T.cf (T.q (L.o (O.aY runUnderlying9 rfl rfl rfl (L.a rfl (L.nil (T.ct (T.q (L.m rfl (L.o (O.buildSlice (el:=9) (parts:=[(0,_),(1,_)]) (vs:=[(0,_),(1,_)]) (cs:=([[],fH].map str)) rfl (fun w=>by kernel_rfl) (fun afD ZK ZL ZM zC Qe=>?_))))))))))))))))))
 have hK3:=(hK1.ext he2).ext zC
 refine L.o (O.call (xs:=[.tmp 148,.tmp 149]) call68 rfl rfl (aX 0 _ [[],fH] b (aG d s) s.last ZK (Strs.ay Qe rfl (by decide) (Nat.zero_le _)) hK3.row rfl) (fun v3 w3 hq=>?_))
 obtain ⟨rfl,rfl⟩:=hq
 rw [decide_eq_false hlast]
 refine L.o (O.not rfl (L.o (O.call (xs:=[.tmp 151]) call108 rfl rfl (dF w3) (fun v4 w4 hq=>?_))))
 obtain rfl:=hq
 have jV:=(he1.trans he2).trans zC
 refine L.nil (T.region (L.m rfl (L.m rfl (L.o (O.call (xs:=[.tmp 153,.tmp 154]) call123 rfl rfl (Ud w0 b _ s S _ r u w4 ⟨d,hK3⟩ hL0 (hR2.ext zC) (bZ hll hf) (oC hll hf) hu hc) (fun v5 w5 hq=>?_))))))
 obtain ⟨hI5,hS5⟩:=hq
 obtain ⟨d',hK5⟩:=hI5
 refine L.nil (T.blk (T.region (L.m rfl (L.m rfl (L.o (O.nilCheck rfl (L.o (O.fieldAddr runUnderlying129 rfl sizeOf9 rfl (L.o (O.bf sizeOf9 rfl rfl rfl hK5.row (by simp [aG]) (fun GZ iJ yw=>?_)))))))))))
 refine L.nil (T.Nw results67 ⟨⟨d',hK5.setLast iJ yw⟩,fun k hk=>?_⟩)
 have h3:=hK.S k hk
 have z1:=jV.size
 exact (iJ.block k h3.2.2).trans ((hS5 k hk).trans (jV.block k (Nat.zero_le _) h3.2.1))
theorem Dz (w0:World) (b:Nat) (s:PS) (S:Nat→Prop) (l:Str) (r:List Str) (w:World) (hI:RdI w0 b s S w) (hL0:ji w0) (hll:l.length≤100000) (hf:fieldsB l=cO::r) (hlast:s.last ∉ [[],fH]) (hu:tV s r=none) :
  Calls Tryz.prog 67 #[.pointer (some ⟨b,0,none⟩),str l] w (Pan (bU) fun w'=>Ext w w'):=by
 refine T.fA (vs:=[.pointer (some ⟨b,0,none⟩),str l]) func67 rfl ntmps67 rfl ?_
 refine T.q (L.m rfl (L.o (O.call (xs:=[.tmp 10,.func 121]) call120 rfl rfl (aQ l w hll) (fun v1 w1 hq=>?_))))
 obtain ⟨A,rfl,hS1,he1⟩:=hq
 obtain ⟨d,hK⟩:=hI
 have hK1:=hK.ext he1
 rw [hf]
 rw [hf] at hS1
 refine L.a rfl (L.nil (T.seq (T.q (L.m rfl (L.o (O.len runUnderlying61 rfl (Sl.val hS1) (L.o (O.dY rfl rfl (by simp;omega) (L.nil (T.cf (T.skip (T.seq (?_)))))))))))))
 refine T.dL mixed 6 [4] rfl [.is _,.is _,.is _,.is _,.is _,.is _] [[],[0],[1],[],[3],[2]] [[],[0],[0,1],[],[3],[0,1,2],[0,1,2,3,4,5]] (by kernel_rfl) (by kernel_rfl) rfl (by kernel_rfl) trivial ⟨fun wx hx=>Ob.o (O.move rfl kR),
   fun wx hx=>Ob.o (O.indexAddr runUnderlying61 sizeOf9 rfl rfl (hS1.ext hx) (by decide) (by simp) kR),
   fun wx hx=>Ob.o (O.load isAgg9 rfl ((hS1.ext hx).at (show 0<(cO::r).length by simp)) kR),
   fun wx hx=>Ob.o (O.move rfl kR),
   fun wx hx=>Ob.o (O.jk (l:=1) runUnderlying61 sizeOf9 rfl rfl hS1 (by simp) kR),
   fun wx hx=>Ob.o (O.assign rfl kR),
   trivial⟩ (fun w2 he2=>?_)
 have hR2:=bC (hS1.ext he2) rfl
 refine L.a rfl (L.nil (T.seq (T.q (L.m rfl (L.nil (T.block (T.q (L.o (O.aA runUnderlying9 rfl rfl (show ¬ cO=bH by decide) (L.a rfl (L.nil (T.cf (T.q (L.o (O.aA runUnderlying9 rfl rfl (show ¬ cO=aS by decide) (L.a rfl (L.nil (T.cf (T.q (L.o (O.aA runUnderlying9 rfl rfl (show ¬ cO=bF by decide) (L.a rfl (?_)))))))))))))))))))))))
 refine L.nil (T.cf (T.q (L.o (O.aA runUnderlying9 rfl rfl (show ¬ cO=bG by decide) (L.a rfl (L.nil (T.cf (T.q (L.o (O.aY runUnderlying9 rfl rfl rfl (L.a rfl (L.nil (T.ct (T.q (L.m rfl (L.o (O.buildSlice (el:=9) (parts:=[(0,_),(1,_)]) (vs:=[(0,_),(1,_)]) (cs:=([[],fH].map str)) rfl (fun w=>by kernel_rfl) (fun afD ZK ZL ZM zC Qe=>?_))))))))))))))))))
 have hK3:=(hK1.ext he2).ext zC
 refine L.o (O.call (xs:=[.tmp 148,.tmp 149]) call68 rfl rfl (aX 0 _ [[],fH] b (aG d s) s.last ZK (Strs.ay Qe rfl (by decide) (Nat.zero_le _)) hK3.row rfl) (fun v3 w3 hq=>?_))
 obtain ⟨rfl,rfl⟩:=hq
 rw [decide_eq_false hlast]
 refine L.o (O.not rfl (L.o (O.call (xs:=[.tmp 151]) call108 rfl rfl (dF w3) (fun v4 w4 hq=>?_))))
 obtain rfl:=hq
 have jV:=(he1.trans he2).trans zC
 refine L.nil (T.region (L.m rfl (L.m rfl (L.bJ (xs:=[.tmp 153,.tmp 154]) rfl call123 rfl rfl (Xm w0 b _ s S _ r w4 ⟨d,hK3⟩ hL0 (hR2.ext zC) (bZ hll hf) (oC hll hf) hu) (fun w' a hR ha=>⟨ha.defers,rfl,jV.trans hR⟩)))))
theorem zI (w0:World) (b:Nat) (s:PS) (S:Nat→Prop) (l:Str) (r:List Str) (w:World) (hI:RdI w0 b s S w) (hL0:ji w0) (hll:l.length≤100000) (hf:fieldsB l=bG::r) (hlast:s.last ∈ [bF,bG]) (hfs:s.fs ≠ []) (hn:dN r=none) :
  Calls Tryz.prog 67 #[.pointer (some ⟨b,0,none⟩),str l] w (Pan (bU) fun w'=>Ext w w'):=by
 refine T.fA (vs:=[.pointer (some ⟨b,0,none⟩),str l]) func67 rfl ntmps67 rfl ?_
 refine T.q (L.m rfl (L.o (O.call (xs:=[.tmp 10,.func 121]) call120 rfl rfl (aQ l w hll) (fun v1 w1 hq=>?_))))
 obtain ⟨A,rfl,hS1,he1⟩:=hq
 obtain ⟨d,hK⟩:=hI
 have hK1:=hK.ext he1
 rw [hf]
 rw [hf] at hS1
 refine L.a rfl (L.nil (T.seq (T.q (L.m rfl (L.o (O.len runUnderlying61 rfl (Sl.val hS1) (L.o (O.dY rfl rfl (by simp;omega) (L.nil (T.cf (T.skip (T.seq (?_)))))))))))))
 refine T.dL mixed 6 [4] rfl [.is _,.is _,.is _,.is _,.is _,.is _] [[],[0],[1],[],[3],[2]] [[],[0],[0,1],[],[3],[0,1,2],[0,1,2,3,4,5]] (by kernel_rfl) (by kernel_rfl) rfl (by kernel_rfl) trivial ⟨fun wx hx=>Ob.o (O.move rfl kR),
   fun wx hx=>Ob.o (O.indexAddr runUnderlying61 sizeOf9 rfl rfl (hS1.ext hx) (by decide) (by simp) kR),
   fun wx hx=>Ob.o (O.load isAgg9 rfl ((hS1.ext hx).at (show 0<(bG::r).length by simp)) kR),
   fun wx hx=>Ob.o (O.move rfl kR),
   fun wx hx=>Ob.o (O.jk (l:=1) runUnderlying61 sizeOf9 rfl rfl hS1 (by simp) kR),
   fun wx hx=>Ob.o (O.assign rfl kR),
   trivial⟩ (fun w2 he2=>?_)
 have hR2:=bC (hS1.ext he2) rfl
 refine L.a rfl (L.nil (T.seq (T.q (L.m rfl (L.nil (T.block (T.q (L.o (O.aA runUnderlying9 rfl rfl (show ¬ bG=bH by decide) (L.a rfl (L.nil (T.cf (T.q (L.o (O.aA runUnderlying9 rfl rfl (show ¬ bG=aS by decide) (L.a rfl (L.nil (T.cf (T.q (L.o (O.aA runUnderlying9 rfl rfl (show ¬ bG=bF by decide) (L.a rfl (?_)))))))))))))))))))))))
 refine L.nil (T.cf (T.q (L.o (O.aY runUnderlying9 rfl rfl rfl (L.a rfl (L.nil (T.ct (T.q (L.m rfl (L.o (O.buildSlice (el:=9) (parts:=[(0,_),(1,_)]) (vs:=[(0,_),(1,_)]) (cs:=([bF,bG].map str)) rfl (fun w=>by kernel_rfl) (fun afC PX ZJ Xd vN I9=>?_))))))))))))
 have hK3:=(hK1.ext he2).ext vN
 refine L.o (O.call (xs:=[.tmp 116,.tmp 117]) call68 rfl rfl (aX 0 _ [bF,bG] b (aG d s) s.last PX (Strs.ay I9 rfl (by decide) (Nat.zero_le _)) hK3.row rfl) (fun v3 w3 hq=>?_))
 obtain ⟨rfl,rfl⟩:=hq
 rw [decide_eq_true hlast]
 refine L.o (O.call (xs:=[.tmp 118]) call108 rfl rfl (dF w3) (fun v4 w4 hq=>?_))
 obtain rfl:=hq
 have jV:=(he1.trans he2).trans vN
 have hvl:=hK3.fsl
 have hvn:0<d.vs.length:=by rw [hvl];exact List.length_pos_iff.2 hfs
 obtain ⟨g,cap,cs,hfv,hgq,hgB,hcap,hmax,hcs,htk⟩:=hK3.fsr.form hvn
 have hc1:(aG d s)[1]?=some (.slice (some ⟨g,0,none⟩) d.vs.length cap):=by rw [← hfv];rfl
 have Gj:Blk w4 b (aG d s) 129:=hK3.row
 refine L.nil (T.seq (?_))
 refine T.dL mixed 14 [0] rfl [.is _,.is _,.is _,.is _,.is _,.is _,.is _,.is _,.is _,.is _,.is _,.is _,.is _,.is _] [[],[0],[1],[2],[3],[4],[],[6],[7],[8],[9],[10],[11],[12]] [[],[0],[0,1],[0,1,2],[0,1,2,3],[0,1,2,3,4],[],[6],[6,7],[6,7,8],[6,7,8,9],[6,7,8,9,10],[6,7,8,9,10,11],[6,7,8,9,10,11,12],[0,1,2,3,4,5,6,7,8,9,10,11,12,13],[0,1,2,3,4,5,6,7,8,9,10,11,12,13,14]] (by kernel_rfl) (by kernel_rfl) rfl (by kernel_rfl) trivial ⟨fun wx hx=>Ob.o (O.move rfl kR),
   fun wx hx=>Ob.o (O.nilCheck rfl kR),
   fun wx hx=>Ob.o (O.fieldAddr runUnderlying129 rfl sizeOf48 rfl kR),
   fun wx hx=>Ob.o (O.fieldAddr runUnderlying48 rfl sizeOf46 rfl kR),
   fun wx hx=>Ob.o (O.fieldAddr runUnderlying46 rfl sizeOf44 rfl kR),
   fun wx hx=>Ob.o (O.load isAgg44 rfl ((Blk.ext Gj hx).cell hc1) kR),
   fun wx hx=>Ob.o (O.move rfl kR),
   fun wx hx=>Ob.o (O.nilCheck rfl kR),
   fun wx hx=>Ob.o (O.fieldAddr runUnderlying129 rfl sizeOf48 rfl kR),
   fun wx hx=>Ob.o (O.fieldAddr runUnderlying48 rfl sizeOf46 rfl kR),
   fun wx hx=>Ob.o (O.fieldAddr runUnderlying46 rfl sizeOf44 rfl kR),
   fun wx hx=>Ob.o (O.load isAgg44 rfl ((Blk.ext Gj hx).cell hc1) kR),
   fun wx hx=>Ob.o (O.len runUnderlying44 rfl (Sl.val (Ba (Blk.ext hgB hx) hcap hmax hcs htk)) kR),
   fun wx hx=>Ob.o (O.fC rfl rfl (by have:=hcap;have:=hmax;simp only [maxLen] at this;omega) kR),
   trivial⟩ (fun w18 oH=>?_)
 refine L.o (O.indexAddr runUnderlying44 sizeOf127 rfl rfl (Ba (Blk.ext hgB oH) hcap hmax hcs htk) (by omega) (by omega) (?_))
 have Vd:=Blk.ext hgB oH
 have hj:((d.vs.length:Int)-1).toNat=d.vs.length-1:=by omega
 have hcell:(dI d.vs)[((d.vs.length:Int)-1).toNat*2+1]?=some (dR d).hv:=by rw [hj];exact yH d.vs _ (by omega)
 refine L.a rfl (L.nil (?_))
 refine T.aen mixed 9 0 [9,6] rfl [.is _,.is _,.is _,.is _,.is _,.is _,.such (fun _ _=>False),.such (fun _ _=>False),.such (fun _ _=>False)] [[],[],[1],[2],[3],[],[5],[6],[4,7]] [none,none,none,none,none,none,none,none,none] [[],[],[1],[1,2],[1,2,3],[],[5],[5,6],[1,2,3,4,5,6,7],[0,1,2,3,4,5,6,7,8],[0,1,2,3,4,5,6,7,8,9],[0,1,2,3,4,5,6,7,8,9,10]] (fun _ W=>Ext w18 W) (Ext) (by kernel_rfl) (by kernel_rfl) (by kernel_rfl) rfl ⟨fun _ _ _ _ h=>h,fun _ _ _ _ h=>h,fun _ _ _ _ h=>h,trivial⟩ (Keep.drew _ _) ⟨fun c wx hx=>vZ.op rfl (O.move rfl ⟨⟨Keep.refl _ _,hx⟩,rfl⟩),
   fun c wx hx=>vZ.op rfl (O.move rfl ⟨⟨Keep.refl _ _,hx⟩,rfl⟩),
   fun c wx hx=>vZ.op rfl (O.nilCheck rfl ⟨⟨Keep.refl _ _,hx⟩,rfl⟩),
   fun c wx hx=>vZ.op rfl (O.fieldAddr runUnderlying127 rfl sizeOf125 rfl ⟨⟨Keep.refl _ _,hx⟩,rfl⟩),
   fun c wx hx=>vZ.op rfl (O.load isAgg125 rfl (Sl.at (Ba (Blk.ext Vd hx) hcap hmax hcs htk) hcell) ⟨⟨Keep.refl _ _,hx⟩,rfl⟩),
   fun c wx hx=>vZ.op rfl (O.move rfl ⟨⟨Keep.refl _ _,hx⟩,rfl⟩),
   fun c wx hx=>vZ.pan rfl (XL.call (xs:=[.tmp 140]) call122 rfl rfl (kF _ _ r wx ((hR2.ext vN).ext (oH.trans hx)) (hL0.ext (hK3.e.trans (oH.trans hx))) (bZ hll hf) hn (by have:=oC hll hf;omega)) (fun w' a hR ha=>⟨ha.defers,rfl,(jV.trans (oH.trans hx)).trans hR⟩)),
   fun c wx hx v141 MI=>MI.elim,
   fun c wx hx adu Qn=>Qn.elim,
   trivial⟩ (fun w19 afF v141 MI adu Qn v143 adx=>?_)
 exact MI.elim
open Go Go.E RowKit
def DC:List Str→Option (List Int)
 | []=>some []
 | s::r=>match Ua s,DC r with
  | some n,some ns=>some (n::ns)
  | _,_=>none
theorem DF:∀ ws,dN ws=DC ws
 | []=>rfl
 | s::r=>by
  rw [dN,DC,Ub,DF r]
  cases Ua s <;> cases DC r <;> rfl
def Xn (s:PS) (r:List Str):Option PU :=
 let wt:=decide (1<r.length) && decide (r.getD (r.length-1) []=ade)
 let q:=if wt then r.take (r.length-1) else r
 if 0≤s.G∧0≤s.P∧0≤s.L∧(q.length:Int)=2+s.G+s.P+s.L then
  match DC (q.drop 1) with
  | some xs=>some ⟨q.getD 0 [],xs.getD 0 0,(xs.drop 1).take s.G.toNat,(xs.drop (1+s.G.toNat)).take s.P.toNat,xs.drop (1+s.G.toNat+s.P.toNat),wt⟩
  | none=>none
 else none
theorem Uf (s:PS) (r:List Str):tV s r=Xn s r:=by
 unfold tV Xn
 simp only [DF]
 rfl
def Ug (s:PS) (ws:List Str):Option PS:=match ws with
 | []=>some s
 | k::r =>
  if k=bH then
   (if s.last = []∧r.length=3 then (match DC r with|some xs=>some { s with G:=xs.getD 0 0,P:=xs.getD 1 0,L:=xs.getD 2 0,last:=k } | none=>none) else none)
  else if k=aS then
   (if s.last ∈ [bH,aS]∧r.length=2 then (match DC r with|some xs=>some { s with ps:=s.ps ++ [(xs.getD 0 0,xs.getD 1 0)],last:=k } | none=>none) else none)
  else if k=bF then
   (if s.last ∈ [bH,aS,bF,bG] then (match DC r with|some xs=>some { s with fs:=s.fs ++ [(xs,[])],last:=k } | none=>none) else none)
  else if k=bG then
   (if s.last ∈ [bF,bG] then (match DC r with|some xs=>some { s with fs:=zx s.fs xs,last:=k } | none=>none) else none)
  else if k=cO then
   (if s.last ∉ [[],fH] then (match Xn s r with|some u=>some { s with us:=s.us ++ [u],last:=k } | none=>none) else none)
  else if k=fH then
   (if s.last ∉ [[],fH]∧r.length=0 then some { s with last:=k } else none)
  else none
theorem Uh (s:PS) (l:Str):iq s l=Ug s (iw [] l):=by
 unfold iq Ug
 rw [AY]
 simp only [DF,Uf]
 rfl
def aiY (w:Str):Prop:=w ≠ []∧∀ b∈w,b≠32
def Bnd (xs:List Int):Prop:=∀ x∈xs,-1000000000≤x∧x≤1000000000
def nD (f:FaV):List Int × List (List Int):=(f.o.xs,f.hs.map (·.xs))
def lQ (u:UnV):PU:=⟨u.nm,u.pp,u.gs,u.vs,u.ps,u.wt⟩
structure ZV (c:CxV) (r:RoV):Prop where
 roll:Bnd [r.G,r.P,r.L]
 pts:∀ p∈c.ps,Bnd [p.1,p.2]
 fas:∀ f∈c.fs,Bnd f.o.xs∧∀ h∈f.hs,Bnd h.xs
 us:∀ u∈r.us,(u.gs.length:Int)=r.G∧(u.vs.length:Int)=r.P∧(u.ps.length:Int)=r.L∧Bnd (vM u)
 nms:∀ u∈r.us,aiY u.nm∧10∉u.nm
open Go Go.E RowKit
def dX (f:FaV):FaV:=⟨⟨undef,f.o.xs⟩,undef,f.hs.map fun h=>⟨undef,h.xs⟩⟩
def yJ (c:CxV):CxV:=⟨undef,c.ps,undef,c.fs.map dX⟩
def kH (u:UnV):UnV:=⟨u.nm,u.pp,.slice none 0 0,u.gs,.slice none 0 0,u.vs,.slice none 0 0,u.ps,u.wt⟩
def stripR (r:RoV):RoV:=⟨r.G,r.P,r.L,undef,r.us.map kH⟩
theorem getD_map' {α β:Type} {f:α→β} {d:α} {e:β} (h:f d=e) (l:List α) (k:Nat):(l.map f).getD k e=f (l.getD k d):=by
 rw [List.getD_eq_getElem?_getD,List.getElem?_map,List.getD_eq_getElem?_getD]
 cases l[k]? with
 | none=>exact h.symm
 | some x=>rfl
theorem uf (fs:List FaV) (k:Nat):(fs.map dX).getD k f0=dX (fs.getD k f0):=getD_map' (f:=dX) (d:=f0) rfl fs k
theorem Jg (f:FaV) (k:Nat):((dX f).ri.getD k r0).xs=(f.ri.getD k r0).xs:=by
 have e:(dX f).ri=f.ri.map fun h=>(⟨undef,h.xs⟩:RiV):=rfl
 rw [e]
 have:=getD_map' (f:=fun h:RiV=>(⟨undef,h.xs⟩:RiV)) (d:=r0) (e:=r0) rfl f.ri k
 rw [this]
theorem DI (f:FaV):(dX f).ri.length=f.ri.length:=by simp [dX,FaV.ri]
theorem ug (f:FaV) (bad:Int→List Int→Bool):Ai (dX f).ri bad=Ai f.ri bad:=by
 unfold Ai
 refine decide_eq_decide.2 ⟨?_,?_⟩
 ·rintro ⟨k,h1,h2⟩;exact ⟨k,by rwa [DI] at h1,by rwa [Jg] at h2⟩
 rintro ⟨k,h1,h2⟩;exact ⟨k,by rwa [DI],by rwa [Jg]⟩
theorem DJ (n:Nat) (f:FaV):fO n (dX f)=fO n f:=by
 unfold fO
 rw [ug,show (dX f).hs.length=f.hs.length by simp [dX]]
theorem yK (fs:List FaV) (p:FaV→Bool) (h:∀ f,p (dX f)=p f):(fs.map dX).any p=fs.any p:=by
 rw [List.any_map]
 congr 1
 funext f
 exact h f
theorem Gp (ps:List Pt) (t:Int) (f:FaV) (p:Pt):fM ps t (dX f) p=fM ps t f p:=by
 unfold fM
 simp only [dX,List.all_map]
 rfl
theorem Gq {α β:Type} (g:α→β):∀ (l:List α) (n:Nat),(l.map g).eraseIdx n=(l.eraseIdx n).map g
 | [],n=>rfl
 | a::l,0=>rfl
 | a::l,n+1=>by rw [List.map_cons,List.eraseIdx_cons_succ,List.eraseIdx_cons_succ,Gq g l n];rfl
theorem ML (ps:List Pt) (t:Int) (f:FaV) (r:Nat) (p:Pt):fM ps t (SI (dX f) r) p=fM ps t (SI f r) p:=by
 unfold fM SI
 simp only [dX,Gq,List.all_map]
 rfl
theorem Qs (fs:List FaV):stL (fs.map dX)=stL fs:=by
 unfold stL
 rw [List.length_map]
 congr 1
 funext f
 unfold gF stF
 rw [uf,DI]
 congr 1
 funext r
 unfold gR
 rw [Jg]
theorem Jh (ps:List Pt) (fs:List FaV):dD ps (fs.map dX)=dD ps fs:=by
 have h1:jc ps (fs.map dX)=jc ps fs:=by
  funext s
  unfold jc
  rw [uf,ML]
 have h2:kZ ps (fs.map dX)=kZ ps fs:=by
  funext s
  unfold kZ
  rw [List.length_map]
  congr 1
  funext i
  unfold sV
  rw [uf,Gp]
 unfold dD
 rw [Qs,h1,h2]
theorem Ji (c:CxV):dZ (yJ c)=dZ c:=by
 unfold dZ oM yJ
 simp only [List.length_map,Jh]
 rw [yK _ _ (DJ _),yK _ _ (fun f=>ug f _),yK _ _ (fun f=>ug f _)]
theorem yL (us:List UnV) (k:Nat):(us.map kH).getD k u0=kH (us.getD k u0):=getD_map' (f:=kH) (d:=u0) rfl us k
theorem dK (r:RoV):bD (stripR r)↔bD r:=by
 have hl:(stripR r).us.length=r.us.length:=List.length_map _
 have hb:zl (stripR r)=zl r:=by unfold zl;rw [hl];rfl
 have hg:∀ j,GoodAt (stripR r) j↔GoodAt r j:=fun j=>by
  have e:∀ k,(stripR r).us.getD k u0=kH (r.us.getD k u0):=yL r.us
  constructor
  ·rintro ⟨h1,h2,h3,h4⟩
   refine ⟨?_,fun k hk=>?_,fun k hk=>?_,fun h=>?_⟩
   ·rw [e] at h1;exact h1
   ·have:=h2 k hk;rw [e,e] at this;exact this
   ·have:=h3 k hk;rw [e,e] at this;exact this
   have:=h4 h;rw [e] at this;exact this
  rintro ⟨h1,h2,h3,h4⟩
  refine ⟨?_,fun k hk=>?_,fun k hk=>?_,fun h=>?_⟩
  ·rw [e];exact h1
  ·rw [e,e];exact h2 k hk
  ·rw [e,e];exact h3 k hk
  rw [e];exact h4 h
 constructor
 ·rintro ⟨h1,h2⟩
  exact ⟨by rw [hb] at h1;exact h1,fun j hj=>(hg j).1 (h2 j (by simpa [stripR] using hj))⟩
 rintro ⟨h1,h2⟩
 exact ⟨by rw [hb];exact h1,fun j hj=>(hg j).2 (h2 j (by simpa [stripR] using hj))⟩
theorem DK (r:RoV):dG (stripR r)=dG r:=by
 by_cases h:bD r
 ·rw [dS h,dS ((dK r).2 h)]
 rw [bT h,bT (fun k=>h ((dK r).1 k))]
def PS.cx (s:PS):CxV:=⟨undef,s.ps,undef,s.fs.map fun f=>⟨⟨undef,f.1⟩,undef,f.2.map fun h=>⟨undef,h⟩⟩⟩
def PS.ro (s:PS):RoV:=⟨s.G,s.P,s.L,undef,s.us.map fun u=>⟨u.nm,u.pp,.slice none 0 0,u.gs,.slice none 0 0,u.vs,.slice none 0 0,u.qs,u.wt⟩⟩
noncomputable def Ui (s:PS):Int:=fE s.cx s.ro (dZ s.cx)
structure Says (c:CxV) (r:RoV) (s:PS):Prop where
 ps:c.ps=s.ps
 fs:c.fs.map nD=s.fs
 G:r.G=s.G
 P:r.P=s.P
 L:r.L=s.L
 us:r.us.map lQ=s.us
theorem Says.cx {c:CxV} {r:RoV} {s:PS} (h:Says c r s):s.cx=yJ c:=by
 unfold PS.cx yJ
 rw [← h.ps,← h.fs,List.map_map]
 congr 1
 refine List.map_congr_left fun f _=>?_
 simp only [Function.comp,nD,dX,List.map_map]
 rfl
theorem Says.ro {c:CxV} {r:RoV} {s:PS} (h:Says c r s):s.ro=stripR r:=by
 unfold PS.ro stripR
 rw [← h.G,← h.P,← h.L,← h.us,List.map_map]
 rfl
theorem Says.err {c:CxV} {r:RoV} {s:PS} (h:Says c r s):fE c r (dZ c)=Ui s:=by
 unfold Ui
 rw [h.cx,h.ro,Ji]
 unfold fE
 rw [DK]
 simp only [yJ,stripR,List.length_map]
theorem Jj (c:CxV) (r:RoV):jA (yJ c) (stripR r)=jA c r:=by
 unfold jA
 simp only [yJ,stripR,lA,List.map_map,List.flatMap_map]
 congr 1
 congr 1
 congr 1
 congr 1
 funext f
 simp only [dX,zu,List.map_map]
 rfl
theorem Qu {c:CxV} {r:RoV} (h:fE c r (dZ c)=0):dZ c=false∧bD r∧r.us.length=c.fs.length:=by
 unfold fE at h
 cases hb:dZ c with
 | true=>rw [hb,if_pos rfl] at h;cases h
 | false =>
  rw [hb,if_neg (by simp)] at h
  have hr:bD r:=Classical.byContradiction fun hn=>by
   rw [bT hn,if_pos (by decide)] at h;cases h
  rw [dS hr,if_neg (by simp)] at h
  refine ⟨rfl,hr,Classical.byContradiction fun hn=>?_⟩
  rw [if_pos hn] at h
  cases h
theorem yM {c:UInt8} (h:fD c=true):c≠32∧c≠10:=⟨fun e=>by subst e;revert h;decide,fun e=>by subst e;revert h;decide⟩
theorem uh {xs:List Int} {n m:Int} (h:aZ xs n m=true) (hm:m≤1000000000):(xs.length:Int)=n∧∀ x∈xs,0≤x∧x≤1000000000:=by
 simp only [aZ,Bool.and_eq_true,decide_eq_true_eq,List.all_eq_true,inB] at h
 exact ⟨h.1,fun x hx=>by have:=h.2 x hx;omega⟩
theorem nG {r:RoV} {u:UnV} (h:bK r u=true):(u.nm ≠ []∧u.nm.length≤12∧∀ c∈u.nm,fD c=true)∧(u.gs.length:Int)=r.G∧(u.vs.length:Int)=r.P∧(u.ps.length:Int)=r.L∧∀ x∈vM u,0≤x∧x≤1000000000:=by
 simp only [bK,rW,List.all_cons,List.all_nil,id,Bool.and_eq_true,and_true,Bool.not_eq_true',decide_eq_false_iff_not,decide_eq_true_eq,List.all_eq_true] at h
 obtain ⟨h1,h2,h3,h4,h5,h6,h7,h8⟩:=h
 have hv:bM u≤1000000000:=by unfold bM;split <;> decide
 have hp:gU u≤1000000000:=by unfold gU;split <;> decide
 obtain ⟨g1,g2⟩:=uh h6 (by omega)
 obtain ⟨v1,v2⟩:=uh h7 hv
 obtain ⟨p1,p2⟩:=uh h8 hp
 refine ⟨⟨h1,by omega,h3⟩,g1,v1,p1,fun x hx=>?_⟩
 simp only [vM,List.mem_cons,List.cons_append,List.append_assoc,List.mem_append] at hx
 rcases hx with rfl|hx|hx|hx
 ·omega
 ·exact g2 x hx
 ·exact v2 x hx
 exact p2 x hx
theorem yN {r:RoV} (h:bD r):(0≤r.G∧r.G≤6∧0≤r.P∧r.P≤12∧0≤r.L∧r.L≤3∧0<(r.us.length:Int)∧(r.us.length:Int)≤64)∧∀ u∈r.us,bK r u=true:=by
 refine ⟨wW.1 h.bnd,fun u hu=>?_⟩
 obtain ⟨k,hk,rfl⟩:=List.getElem_of_mem hu
 have:=(h.good k hk).right
 rw [au hk] at this
 exact this
theorem Qv {c:CxV} (h:dZ c=false):(3≤c.ps.length∧c.ps.length≤120∧1≤c.fs.length∧c.fs.length≤64)∧(∀ p∈c.ps,(-1000000≤p.1∧p.1≤1000000) ∧ -1000000≤p.2∧p.2≤1000000)∧∀ f∈c.fs,f.hs.length≤8∧∀ x∈f.ri,(∀ n∈x.xs,0≤n∧n<c.ps.length)∧3≤x.xs.length∧x.xs.length≤40:=by
 simp only [dZ,Bool.or_eq_false_iff] at h
 obtain ⟨h1,h2,h3,h4,_⟩:=h
 simp only [oM,Bool.or_eq_false_iff,decide_eq_false_iff_not] at h1
 refine ⟨by omega,fun p hp=>mP (lu h2 p hp),fun f hf=>?_⟩
 obtain ⟨k1,k2⟩:=OY (lu h4 f hf)
 refine ⟨k1,fun x hx=>?_⟩
 obtain ⟨k3,k4⟩:=k2 x hx
 refine ⟨fun n hn=>?_,k4⟩
 obtain ⟨i,hi,rfl⟩:=List.getElem_of_mem hn
 have:=k3 i hi
 rw [au hi] at this
 exact this
theorem Kw {xs:List Int} (h:∀ n∈xs,(0:Int)≤n∧n≤1000000000):Bnd xs:=fun n hn=>by have:=h n hn;omega
theorem Qw {c:CxV} {r:RoV} (h:fE c r (dZ c)=0):ZV c r:=by
 obtain ⟨h1,h2,_⟩:=Qu h
 obtain ⟨⟨a1,a2,a3,a4⟩,a5,a6⟩:=Qv h1
 obtain ⟨b1,b2⟩:=yN h2
 refine ⟨fun x hx=>?_,fun p hp x hx=>?_,fun f hf=>?_,fun u hu=>?_,fun u hu=>?_⟩
 ·simp only [List.mem_cons,List.not_mem_nil,or_false] at hx
  rcases hx with rfl|rfl|rfl <;> omega
 ·have:=a5 p hp
  simp only [List.mem_cons,List.not_mem_nil,or_false] at hx
  rcases hx with rfl|rfl <;> omega
 ·obtain ⟨k1,k2⟩:=a6 f hf
  have hb:∀ x∈f.ri,Bnd x.xs:=fun x hx=>Kw fun n hn=>by have:=(k2 x hx).1 n hn;omega
  exact ⟨hb f.o (List.mem_cons_self ..),fun x hx=>hb x (List.mem_cons_of_mem _ hx)⟩
 ·obtain ⟨_,k1,k2,k3,k4⟩:=nG (b2 u hu)
  exact ⟨k1,k2,k3,Kw k4⟩
 obtain ⟨⟨k1,k2,k3⟩,_⟩:=nG (b2 u hu)
 exact ⟨⟨k1,fun b hb=>(yM (k3 b hb)).1⟩,fun hb=>(yM (k3 _ hb)).2 rfl⟩
theorem jM {xs:List Int} (h:Bnd xs):Nu xs:=fun x hx=>by have:=h x hx;omega
theorem Gs {ls:List Str} {m:Nat} (h:∀ l∈ls,l.length≤m):(aO ls).length≤ls.length*(m+1):=by
 induction ls with
 | nil=>simp [aO]
 | cons l r ih =>
  have h1:=h l (List.mem_cons_self ..)
  have h2:=ih fun x hx=>h x (List.mem_cons_of_mem _ hx)
  have e:aO (l::r)=l ++ [10]++aO r:=by simp [aO]
  have e2:(l::r).length*(m+1)=r.length*(m+1)+1*(m+1):=by rw [List.length_cons,Nat.add_mul]
  rw [e,e2,List.length_append,List.length_append]
  simp only [List.length_cons,List.length_nil]
  omega
theorem Uj {α:Type} {f:α→List Str} {l:List α} {m:Nat} (h:∀ x∈l,(f x).length≤m):(l.flatMap f).length≤l.length*m:=by
 induction l with
 | nil=>simp
 | cons a r ih =>
  have h1:=h a (List.mem_cons_self ..)
  have h2:=ih fun x hx=>h x (List.mem_cons_of_mem _ hx)
  rw [List.flatMap_cons,List.length_append,List.length_cons,Nat.add_mul]
  omega
theorem Uk {c:CxV} {r:RoV} (h:fE c r (dZ c)=0):uV c r:=by
 obtain ⟨h1,h2,_⟩:=Qu h
 have hS:=Qw h
 obtain ⟨⟨a1,a2,a3,a4⟩,a5,a6⟩:=Qv h1
 obtain ⟨b1,b2⟩:=yN h2
 have hnu:∀ u∈r.us,(vM u).length≤22∧u.nm.length≤12:=fun u hu=>by
  obtain ⟨⟨_,k,_⟩,k1,k2,k3,_⟩:=nG (b2 u hu)
  refine ⟨?_,k⟩
  simp only [vM,List.length_cons,List.length_append,List.cons_append]
  omega
 refine ⟨jM hS.roll,fun p hp=>jM (hS.pts p hp),fun f hf=>?_,fun f hf x hx=>?_,fun u hu=>?_,?_⟩
 ·have:=(a6 f hf).2 f.o (List.mem_cons_self ..)
  exact ⟨jM (hS.fas f hf).1,by omega,by omega⟩
 ·have:=(a6 f hf).2 x (List.mem_cons_of_mem _ hx)
  exact ⟨jM ((hS.fas f hf).2 x hx),by omega,by omega⟩
 ·have:=hnu u hu
  exact ⟨jM (hS.us u hu).2.2.2,by omega,by omega⟩
 have adN:∀ l∈jA c r,l.length≤1000:=by
  have hsp:∀ (k:Str) (xs:List Int),Nu xs→k.length≤20→xs.length≤40→(k++spell xs).length≤1000:=fun k xs hx hk hl=>by
   have:=mZ xs hx
   rw [List.length_append];omega
  intro l hl
  simp only [jA,lA,List.mem_append,List.mem_map,List.mem_flatMap,List.mem_cons,List.not_mem_nil,or_false] at hl
  rcases hl with (((rfl|⟨p,hp,rfl⟩)|⟨f,hf,hl⟩)|⟨u,hu,rfl⟩)|rfl
  ·exact hsp _ _ (jM hS.roll) (by decide) (by simp)
  ·exact hsp _ _ (jM (hS.pts p hp)) (by decide) (by simp)
  ·simp only [zu,List.mem_cons,List.mem_map] at hl
   rcases hl with rfl|⟨x,hx,rfl⟩
   ·exact hsp _ _ (jM (hS.fas f hf).1) (by decide) ((a6 f hf).2 f.o (List.mem_cons_self ..)).2.2
   exact hsp _ _ (jM ((hS.fas f hf).2 x hx)) (by decide) ((a6 f hf).2 x (List.mem_cons_of_mem _ hx)).2.2
  ·have h1:=hnu u hu
   have h2:=mZ (vM u) (jM (hS.us u hu).2.2.2)
   rw [FV,List.length_append,List.length_append,List.length_append]
   have h3:(if u.wt=true then PD else []).length≤6:=by split <;> decide
   have h4:TJ.length=5:=rfl
   omega
  decide
 have hn:(jA c r).length≤900:=by
  have hf:(c.fs.flatMap zu).length≤c.fs.length*9:=Uj fun f hf=>by
   have:=(a6 f hf).1
   simp only [zu,List.length_cons,List.length_map];omega
  simp only [jA,lA,List.length_append,List.length_map,List.length_cons,List.length_nil]
  omega
 have:=Gs adN
 have:(jA c r).length*(1000+1)≤900*1001:=Nat.mul_le_mul_right _ hn
 omega
open Go Go.E RowKit
def RdJ (w0:World) (b:Nat) (s:PS) (S:Nat→Prop) (W:World):Prop:=RdI w0 b s S W∧∀ u∈s.us,u.nm.length≤100000
theorem RdJ.EL (w0:World) (b:Nat):zf (RdJ w0 b) :=
 ⟨fun s S S' W W' h k hS=>⟨(RdI.EL w0 b).1 s S S' W W' h.1 k hS,h.2⟩,fun s S W W' j h hj k=>⟨(RdI.EL w0 b).2 s S W W' j h.1 hj k,h.2⟩⟩
def Xo (s:PS) (j:Nat):Prop:=Rj s j∧(s.last ∈ [bF,bG]→s.fs ≠ [])
theorem Xo.step (s:PS) (l:Str) (s':PS) (j:Nat) (h:Xo s j) (hs:iq s l=some s'):Xo s' (j+1):=⟨h.1.step hs,Md hs h.2⟩
theorem step_nil {s:PS} {l:Str} (hf:fieldsB l = []):iq s l=some s:=by unfold iq;rw [hf]
theorem Qx {s:PS} {l:Str} {r:List Str} (hf:fieldsB l=bH::r):iq s l=if s.last = []∧r.length=3 then (match dN r with|some xs=>some (P7 s xs)|none=>none) else none:=by
 unfold iq;rw [hf];simp only [];rw [if_pos trivial];rfl
theorem MN {s:PS} {l:Str} {r:List Str} (hf:fieldsB l=aS::r):iq s l=if s.last ∈ [bH,aS]∧r.length=2 then (match dN r with|some xs=>some (ru s xs)|none=>none) else none:=by
 unfold iq;rw [hf];simp only [];rw [if_neg (by decide),if_pos trivial];rfl
theorem Qy {s:PS} {l:Str} {r:List Str} (hf:fieldsB l=bF::r):iq s l=if s.last ∈ [bH,aS,bF,bG] then (match dN r with|some xs=>some (F7 s xs)|none=>none) else none:=by
 unfold iq;rw [hf];simp only [];rw [if_neg (by decide),if_neg (by decide),if_pos trivial];rfl
theorem Qz {s:PS} {l:Str} {r:List Str} (hf:fieldsB l=bG::r):iq s l=if s.last ∈ [bF,bG] then (match dN r with|some xs=>some (Jc s xs)|none=>none) else none:=by
 unfold iq;rw [hf];simp only [];rw [if_neg (by decide),if_neg (by decide),if_neg (by decide),if_pos trivial];rfl
theorem QA {s:PS} {l:Str} {r:List Str} (hf:fieldsB l=cO::r):iq s l=if s.last ∉ [[],fH] then (match tV s r with|some u=>some { Gm s u with last:=cO } | none=>none) else none:=by
 unfold iq;rw [hf];simp only [];rw [if_neg (by decide),if_neg (by decide),if_neg (by decide),if_neg (by decide),if_pos trivial];rfl
theorem step_end {s:PS} {l:Str} {r:List Str} (hf:fieldsB l=fH::r):iq s l=if s.last ∉ [[],fH]∧r.length=0 then some { s with last:=fH } else none:=by
 unfold iq;rw [hf];simp only [];rw [if_neg (by decide),if_neg (by decide),if_neg (by decide),if_neg (by decide),if_neg (by decide),if_pos trivial]
theorem step_bad {s:PS} {l k:Str} {r:List Str} (hf:fieldsB l=k::r) (hk:k≠bH∧k≠aS∧k≠bF∧k≠bG∧k≠cO∧k≠fH):iq s l=none:=by
 obtain ⟨h1,h2,h3,h4,h5,h6⟩:=hk
 unfold iq;rw [hf];simp only [];rw [if_neg h1,if_neg h2,if_neg h3,if_neg h4,if_neg h5,if_neg h6]
theorem QB {s:PS} {r:List Str} {u:PU} (h:tV s r=some u) (hr:∀ x∈r,x.length≤100000):u.nm.length≤100000:=by
 obtain ⟨nm,ws,xs,hq,_,_,_,_,_,rfl⟩:=Bc h
 exact hr nm (tY nm (by rw [hq];exact List.mem_cons_self ..))
def XP (w0:World) (S:Nat→Prop) (W:World):Prop:=Ext w0 W∧∀ k,S k→w0.heap.size≤k
theorem Xp (w0:World) (b:Nat) (hL:ji w0):DoC 67 #[.pointer (some ⟨b,0,none⟩)] #[] iq Xo (RdJ w0 b) (XP w0):=by
 intro s S W l j hB hj hI hl
 obtain ⟨hI,hnm⟩:=hI
 obtain ⟨⟨c1,c2,c3,c4⟩,hfs⟩:=hB
 have hLW:ji W:=hL.ext hI.Me
 have hS:∀ k,S k→w0.heap.size≤k∧k<W.heap.size:=fun k hk=>by
  obtain ⟨d,hK⟩:=hI
  exact ⟨(hK.S k hk).1,(hK.S k hk).2.1⟩
 have bad:∀ {e:Ending} {W':World},Pan bU (fun w'=>Ext W w') e W'→Pan bU (fun W'=>XP w0 S W'∧∀ k,S k→W'.heap[k]?=W.heap[k]?) e W':=by
  rintro (_|_|_) W' h <;> first|exact ⟨h.1,⟨hI.Me.trans h.2,fun k hk=>(hS k hk).1⟩,fun k hk=>h.2.block k (Nat.zero_le _) (hS k hk).2⟩|exact h
 have good:∀ {s':PS},(∀ u∈s'.us,u.nm.length≤100000)→∀ {e:Ending} {W':World},Ret (fun _ W'=>RdI w0 b s' S W'∧∀ k,S k→W'.heap[k]?=W.heap[k]?) e W'→Ret (fun _ W'=>RdJ w0 b s' S W'∧∀ k,S k→W'.heap[k]?=W.heap[k]?) e W':=by
  rintro s' hn (_|_|_) W' h <;> first|exact ⟨⟨h.1,hn⟩,h.2⟩|exact h
 cases hf:fieldsB l with
 | nil =>
  refine ⟨fun s' hs=>?_,fun hs=>?_⟩
  ·rw [step_nil hf] at hs
   cases hs
   exact (P5 w0 b s S l W hI hl hf).mono fun e W' h=>good hnm h
  rw [step_nil hf] at hs;cases hs
 | cons k r =>
  have hr:=oC hl hf
  by_cases h1:k=bH
  ·subst h1
   rw [Qx hf]
   by_cases ha:s.last = []
   ·by_cases hc:r.length=3
    ·rw [if_pos ⟨ha,hc⟩]
     cases hn:dN r with
     | some xs=>exact ⟨fun s' hs=>(by cases hs;exact (P8 w0 b s S l r xs W hI hLW hl hf ha hc hn).mono fun e W' h=>good (s':=P7 s xs) hnm h),fun hs=>(by cases hs)⟩
     | none=>exact ⟨fun s' hs=>(by cases hs),fun _=>(zF w0 b s S l r W hI hl hf (by rw [ha];simp) hc hLW hn).mono fun e W' h=>bad h⟩
    rw [if_neg (fun h=>hc h.2)]
    exact ⟨fun s' hs=>(by cases hs),fun _=>(yE w0 b s S l r W hI hl hf (by rw [ha];simp) hc).mono fun e W' h=>bad h⟩
   rw [if_neg (fun h=>ha h.1)]
   exact ⟨fun s' hs=>(by cases hs),fun _=>(yB w0 b s S l r W hI hl hf (by simpa using ha)).mono fun e W' h=>bad h⟩
  by_cases h2:k=aS
  ·subst h2
   rw [MN hf]
   by_cases ha:s.last ∈ [bH,aS]
   ·by_cases hc:r.length=2
    ·rw [if_pos ⟨ha,hc⟩]
     cases hn:dN r with
     | some xs=>exact ⟨fun s' hs=>(by cases hs;exact (MB w0 b s S l r xs W hI hLW hl hf ha hc hn (by omega)).mono fun e W' h=>good (s':=ru s xs) hnm h),fun hs=>(by cases hs)⟩
     | none=>exact ⟨fun s' hs=>(by cases hs),fun _=>(yF w0 b s S l r W hI hl hf ha hc hLW hn).mono fun e W' h=>bad h⟩
    rw [if_neg (fun h=>hc h.2)]
    exact ⟨fun s' hs=>(by cases hs),fun _=>(vS w0 b s S l r W hI hl hf ha hc).mono fun e W' h=>bad h⟩
   rw [if_neg (fun h=>ha h.1)]
   exact ⟨fun s' hs=>(by cases hs),fun _=>(vO w0 b s S l r W hI hl hf ha).mono fun e W' h=>bad h⟩
  by_cases h3:k=bF
  ·subst h3
   rw [Qy hf]
   by_cases ha:s.last ∈ [bH,aS,bF,bG]
   ·rw [if_pos ha]
    cases hn:dN r with
    | some xs=>exact ⟨fun s' hs=>(by cases hs;exact (Qb w0 b s S l r xs W hI hL hl hf ha hr hn (by omega)).mono fun e W' h=>good (s':=F7 s xs) hnm h),fun hs=>(by cases hs)⟩
    | none=>exact ⟨fun s' hs=>(by cases hs),fun _=>(zH w0 b s S l r W hI hl hf ha hLW hn hr).mono fun e W' h=>bad h⟩
   rw [if_neg ha]
   exact ⟨fun s' hs=>(by cases hs),fun _=>(yC w0 b s S l r W hI hl hf ha).mono fun e W' h=>bad h⟩
  by_cases h4:k=bG
  ·subst h4
   rw [Qz hf]
   by_cases ha:s.last ∈ [bF,bG]
   ·rw [if_pos ha]
    cases hn:dN r with
    | some xs=>exact ⟨fun s' hs=>(by cases hs;exact (Qk w0 b s S l r xs W hI hL hl hf ha (hfs ha) hr hn (fun f hf=>by have:=c4 f hf;omega) (by omega)).mono fun e W' h=>good (s':=Jc s xs) hnm h),fun hs=>(by cases hs)⟩
    | none=>exact ⟨fun s' hs=>(by cases hs),fun _=>(zI w0 b s S l r W hI hL hl hf ha (hfs ha) hn).mono fun e W' h=>bad h⟩
   rw [if_neg ha]
   exact ⟨fun s' hs=>(by cases hs),fun _=>(yD w0 b s S l r W hI hl hf ha).mono fun e W' h=>bad h⟩
  by_cases h5:k=cO
  ·subst h5
   rw [QA hf]
   by_cases ha:s.last ∉ [[],fH]
   ·rw [if_pos ha]
    cases hn:tV s r with
    | some u =>
     refine ⟨fun s' hs=>?_,fun hs=>(by cases hs)⟩
     cases hs
     refine (Qr w0 b s S l r u W hI hL hl hf ha hn (by omega)).mono fun e W' h=>good (fun x hx=>?_) h
     rcases List.mem_append.1 hx with hx|hx
     ·exact hnm x hx
     rw [List.mem_singleton.1 hx];exact QB hn (bZ hl hf)
    | none=>exact ⟨fun s' hs=>(by cases hs),fun _=>(Dz w0 b s S l r W hI hL hl hf ha hn).mono fun e W' h=>bad h⟩
   rw [if_neg ha]
   exact ⟨fun s' hs=>(by cases hs),fun _=>(vP w0 b s S l r W hI hl hf (Classical.not_not.1 ha)).mono fun e W' h=>bad h⟩
  by_cases h6:k=fH
  ·subst h6
   rw [step_end hf]
   by_cases ha:s.last ∉ [[],fH]
   ·by_cases hc:r.length=0
    ·rw [if_pos ⟨ha,hc⟩]
     exact ⟨fun s' hs=>(by cases hs;exact (TS w0 b s S l W hI hl (by rw [hf,List.eq_nil_of_length_eq_zero hc]) ha).mono fun e W' h=>good (s':={ s with last:=fH }) hnm h),fun hs=>(by cases hs)⟩
    rw [if_neg (fun h=>hc h.2)]
    exact ⟨fun s' hs=>(by cases hs),fun _=>(zG w0 b s S l r W hI hl hf ha hc).mono fun e W' h=>bad h⟩
   rw [if_neg (fun h=>ha h.1)]
   exact ⟨fun s' hs=>(by cases hs),fun _=>(zD w0 b s S l r W hI hl hf (Classical.not_not.1 ha)).mono fun e W' h=>bad h⟩
  have hk:k≠bH∧k≠aS∧k≠bF∧k≠bG∧k≠cO∧k≠fH:=⟨h1,h2,h3,h4,h5,h6⟩
  rw [step_bad hf hk]
  exact ⟨fun s' hs=>(by cases hs),fun _=>(TW w0 b s S l r W hI hl k hf hk).mono fun e W' h=>bad h⟩
theorem dJ.lo {Q:Nat→Prop} {lo:Nat} {W:World} {v:Value} {xs:List Int} (h:dJ Q W v xs) (hQ:∀ k,Q k→lo≤k):Ints .i64 lo W v xs:=by
 rcases h with ⟨rfl,rfl⟩|⟨k,off,cap,cs,rfl,h1,h2,h3,h4,h5⟩
 ·exact Sl.nil _ _ _
 refine ⟨by simp,some ⟨k,off,none⟩,cap,rfl,h1,h2,.inr ⟨_,rfl,hQ k h3,?_⟩⟩
 have:=((Row.ay h4).drop off).take xs.length
 rw [h5] at this
 exact this.of_eq (by rw [zS];simp)
theorem AV.sl {Q:Nat→Prop} {lo:Nat} {W:World} {el:TypeId} {sz n:Nat} {v:Value} {xs:List Value} (h:AV Q W el sz v n xs) (hQ:∀ k,Q k→lo≤k):Sl lo W v n sz xs:=by
 obtain ⟨⟨h1,h2⟩,h3⟩:=h
 refine Sl.aU (base:=lo) (el:=el) ⟨h1,?_⟩
 rcases h2 with h4|⟨g,cap,cur,rfl,hb,h5⟩
 ·exact .inl h4
 exact .inr ⟨g,cap,cur,rfl,hQ g (h3 g rfl),h5⟩
def rdC (d:RdD) (s:PS):CxV:=⟨d.pv,s.ps,d.fv,d.vs⟩
def rdR (d:RdD) (s:PS):RoV:=⟨s.G,s.P,s.L,d.uv,d.us⟩
theorem QC {α β γ:Type} (f:α→γ) (g:β→γ) (a0:α) (b0:β):∀ (l:List α) (m:List β),l.length=m.length→(∀ i,i<l.length→f (l.getD i a0)=g (m.getD i b0))→l.map f=m.map g
 | [],[],_,_=>rfl
 | [],b::m,h,_=>by simp at h
 | a::l,[],h,_=>by simp at h
 | a::l,b::m,h,hi=>by
  rw [List.map_cons,List.map_cons,show f a=g b from hi 0 (by simp),QC f g a0 b0 l m (by simpa using h) (fun i h2=>hi (i+1) (by simpa using h2))]
theorem RdK.land {w0:World} {b:Nat} {d:RdD} {s:PS} {S:Nat→Prop} {W:World} (h:RdK w0 b d s S W) (hn:∀ u∈s.us,u.nm.length≤100000):(rdC d s).ok w0.heap.size W∧(rdR d s).ok w0.heap.size W∧Says (rdC d s) (rdR d s) s:=by
 have hQ:∀ k,RdQ w0 b S k→w0.heap.size≤k:=fun k q=>q.1
 have hfl:=h.fsl
 have hul:=h.usl
 refine ⟨⟨h.pts.sl hQ,h.fsr.sl hQ,fun f hf=>?_⟩,⟨h.usr.sl hQ,fun u hu=>?_⟩,⟨rfl,?_,rfl,rfl,rfl,?_⟩⟩
 ·obtain ⟨i,hi,rfl⟩:=List.getElem_of_mem hf
  have k:=h.fa i hi
  rw [show d.vs.getD i f0=(rdC d s).fs[i] from au hi] at k
  exact ⟨by have:=k.oi.lo hQ;rw [← k.ox] at this;exact this,k.hv.sl hQ,fun x hx=>(k.ri x hx).lo hQ⟩
 ·obtain ⟨i,hi,rfl⟩:=List.getElem_of_mem hu
  have k:=h.un i hi
  rw [show d.us.getD i u0=(rdR d s).us[i] from au hi] at k
  have hm:(s.us.getD i pu0).nm.length≤100000:=hn _ (by rw [au (by have:i<d.us.length:=hi;omega)];exact List.getElem_mem _)
  have e1:=k.nm
  have e2:=k.gs
  have e3:=k.vs
  have e4:=k.qs
  exact ⟨by have:=k.gi.lo hQ;rw [← e2] at this;exact this,by have:=k.vi.lo hQ;rw [← e3] at this;exact this,by have:=k.qi.lo hQ;rw [← e4] at this;exact this,by rw [e1];omega⟩
 ·show d.vs.map nD=s.fs
  have:=QC nD id f0 ([],[]) d.vs s.fs hfl (fun i hi=>by
   have k:=h.fa i hi
   show ((d.vs.getD i f0).o.xs,(d.vs.getD i f0).hs.map (·.xs))=_
   rw [k.ox,k.hx];rfl)
  rw [List.map_id] at this
  exact this
 show d.us.map lQ=s.us
 have:=QC lQ id u0 pu0 d.us s.us hul (fun i hi=>by
  have k:=h.un i hi
  show (⟨_,_,_,_,_,_⟩:PU)=_
  rw [k.nm,k.pp,k.gs,k.vs,k.qs,k.wt];rfl)
 rw [List.map_id] at this
 exact this
noncomputable def kJ (t:Str):PS ⊕ (Int × Int) :=
 if 40000<t.length then .inr (0,3) else match rQ iq PS0 (aK 10 t) 1 with
 | .inr n=>.inr ((n:Int),5)
 | .inl s=>if s.last=fH then (if Ui s=0 then .inl s else .inr (0,Ui s)) else .inr (0,5)
def eY:List Value:=[.slice none 0 0,.slice none 0 0,.int .i64 0,.int .i64 0,.int .i64 0,.slice none 0 0]
def ZW (q:PS ⊕ (Int × Int)) (lo:Nat) (v:Value) (w:World):Prop:=match q with
 | .inr (n,e)=>v = .tuple #[.agg eY.toArray,.int .i64 n,.int .i64 e]
 | .inl s=>∃ c r,v = .tuple #[.agg (gZ c r).toArray,.int .i64 0,.int .i64 0]∧c.ok lo w∧r.ok lo w∧Says c r s
open Go Go.E RowKit
theorem T.Gt {k:List E.It} {e:Env} {w:World} {P:Program} {fn:Func} {n m:Nat} {R:Value→World→Prop} {s s2 s3:Tmp} {t:TypeId} {ad:Addr} {cs:List Value} {v2 v3:Value} (hres:fn.results=#[.cell s t,.tmp s2,.tmp s3]) (hg:∀ w,(isAgg t).run P w = .ok true w) (hs:∀ w,(sizeOf t).run P w = .ok m w) (hn:cs.length=m)
  (hv:E.look e s=some (.pointer (some ad))) (h2:E.look e s2=some v2) (h3:E.look e s3=some v3) (hr:Row w ad cs) (h:R (.tuple #[.agg cs.toArray,v2,v3]) w):T (Rn P fn n R) (.code .ret::k) e w :=
 T.ret fun a ha=>bodyPost_ret (v:=.tuple #[.agg cs.toArray,v2,v3]) (by
  subst hn
  have h1:=ha.sat.get s _ hv
  have e2:=ha.sat.get s2 _ h2
  have e3:=ha.sat.get s3 _ h3
  simp [results,hres,Array.getD_eq_getD_getElem?,h1,e2,e3,loadVar,asAddr,hg,hs,run_loadCells_list w ad cs hr]) ha.defers h
theorem iT:∀ c∈eY,c.oneCell'=true:=fun c hc=>by
 simp only [eY,List.mem_cons,List.not_mem_nil,or_false] at hc
 rcases hc with rfl|rfl|rfl|rfl|rfl|rfl <;> rfl
theorem yO {lo:Nat} {w:World} {c:CxV} {r:RoV} (hc:c.ok lo w) (hr:r.ok lo w):∀ u∈gZ c r,u.oneCell'=true:=fun u hu=>by
 simp only [gZ,List.mem_cons,List.not_mem_nil,or_false] at hu
 rcases hu with rfl|rfl|rfl|rfl|rfl|rfl
 ·exact Sl.one hc.p
 ·exact Sl.one hc.sl
 ·rfl
 ·rfl
 ·rfl
 exact hr.one
theorem Ul {w0 w:World} {b:Nat} (he:Ext w0 w) (hb:w0.heap.size≤b) (hB:Blk w b (aG ⟨.slice none 0 0,.slice none 0 0,.slice none 0 0,[],[]⟩ PS0) 129):RdJ w0 b PS0 (fun _=>False) w :=
 ⟨⟨⟨.slice none 0 0,.slice none 0 0,.slice none 0 0,[],[]⟩,he,hb,hB,AV.nil _ _ _ _,AV.nil _ _ _ _,rfl,fun i hi=>absurd hi (Nat.not_lt_zero _),fun i hi=>absurd hi (Nat.not_lt_zero _),AV.nil _ _ _ _,rfl,fun i hi=>absurd hi (Nat.not_lt_zero _),by decide,fun k hk=>hk.elim⟩,fun u hu=>(by cases hu)⟩
theorem QD:Xo PS0 0:=⟨⟨Nat.le_refl _,Nat.le_refl _,Nat.le_refl _,fun f hf=>(by cases hf)⟩,fun h=>absurd h (by decide)⟩
set_option maxHeartbeats 1000000 in
theorem yP (t:Str) (w:World) (hL:ji w) (ht:t.length≤9223372036854775807) :
  Calls Tryz.prog 21 #[str t] w (Ret fun v w'=>Ext w w'∧ZW (kJ t) w.heap.size v w'):=by
 refine T.enter (vs:=[str t]) func21 rfl ntmps21 rfl ?_
 refine T.q (L.o (O.alloc zeroValue48 (fun b2 w2 hb2 hz2 he2 hB2=>?_)))
 refine L.a rfl (L.a rfl (L.nil (T.seq (T.q (L.m rfl (L.o (O.bP runUnderlying9 rfl (L.o (O.fG rfl rfl (fun hbig=>?_) (fun hbig=>?_))))))))))
 ·refine L.nil (?_)
  have hp:kJ t = .inr (0,3):=by unfold kJ;rw [if_pos (by omega)]
  refine T.ct (T.q (L.o (O.build (v:=.agg eY.toArray) (parts:=[]) (vs:=[]) rfl (fun w=>by kernel_rfl) (L.o (O.aF sizeOf48 rfl rfl rfl hB2 (Nat.le_refl _) iT (fun w11 jg nR=>?_))))))
  have abx:Blk w11 b2 eY 48:=nR
  refine L.a rfl (L.a rfl (L.nil (T.Gt results21 isAgg48 sizeOf48 rfl rfl rfl rfl (Row.ay abx) ⟨he2.upd jg (.inr (by omega)),by rw [hp];rfl⟩)))
 refine L.nil (?_)
 have hsm:t.length≤40000:=by omega
 refine T.cf (T.skip (T.q (L.o (O.alloc zeroValue129 (fun b5 w5 hb5 hz5 he5 hB5=>?_)))))
 have hL2:=hL.ext he2
 refine L.nil (T.seq (T.q (L.m rfl (L.o (O.makeFunc (fi:=[.tmp 5]) (ca:=[]) rfl rfl (L.o (O.call (xs:=[.tmp 12,.tmp 13]) call66 rfl rfl (qR t 67 #[.pointer (some ⟨b5,0,none⟩)] #[] iq PS0 Xo (RdJ w2 b5) (XP w2) w5 (by omega) call67 (RdJ.EL w2 b5) (fun S W W' h k ↦ ⟨h.1.trans k,h.2⟩) (fun S W W' b h hb k ↦ ⟨h.1.upd k (.inr (h.2 b hb)),h.2⟩) (fun s S W h ↦ hL2.ext h.1.Me) (Xp w2 b5 hL2) QD Xo.step (Ul he5 (by omega) hB5)) (fun v14 w14 hq=>?_))))))))
 obtain ⟨rfl,aiZ,ai0⟩:=hq
 rcases hr:rQ iq PS0 (aK 10 t) 1 with s|n
 ·obtain ⟨S,ai1⟩:=aiZ s hr
  obtain ⟨⟨d,ai2⟩,ai3⟩:=ai1
  refine L.a rfl (L.nil (T.q (L.m rfl (L.o (O.y9 rfl rfl (by simp [C9]) (L.m rfl (L.o (O.buildSlice (el:=9) (parts:=[(0,_)]) (vs:=[(0,_)]) (cs:=([fH].map str)) rfl (fun w=>by kernel_rfl) (fun b18 w18 acL acM oH wB=>?_)))))))))
  have Kt:=ai2.ext oH
  refine L.o (O.call (xs:=[.tmp 5,.tmp 18]) call68 rfl rfl (aX 0 _ [fH] b5 (aG d s) s.last w18 (Strs.ay wB rfl (by decide) (Nat.zero_le _)) Kt.row rfl) (fun v19 w19 hq=>?_))
  obtain ⟨rfl,rfl⟩:=hq
  rcases Classical.em (s.last=fH) with hk|hk
  ·rw [decide_eq_true (show s.last ∈ [fH] by rw [hk];simp)]
   obtain ⟨hc,hro,afN⟩:=Kt.land ai3
   have hrow:Blk w19 b5 (aG d s) 129:=Kt.row
   refine L.o (O.not rfl (L.o (O.ah rfl rfl (L.nil (T.cf (T.skip (T.seq (T.q (L.o (O.fieldAddr runUnderlying129 rfl sizeOf48 rfl (L.o (O.ak isAgg48 sizeOf48 rfl rfl ((Row.ay hrow).part 0 6) (L.o (O.call (xs:=[.tmp 25]) call34 rfl rfl (uO w2.heap.size (rdC d s) (rdR d s) w19 hc hro) (fun v26 w26 hq=>?_)))))))))))))))
   obtain ⟨rfl,Ri⟩:=hq
   rw [afN.err]
   have Xq:=Kt.e.trans Ri
   refine L.a rfl (L.nil (T.q (L.m rfl (L.o (O.gK rfl rfl (fun he=>?_) (fun he=>?_))))))
   ·refine L.nil (?_)
    have hp:kJ t = .inr (0,Ui s):=by unfold kJ;rw [if_neg (by omega),hr];simp only [];rw [if_pos hk,if_neg he]
    refine T.ct (T.q (L.o (O.build (v:=.agg eY.toArray) (parts:=[]) (vs:=[]) rfl (fun w=>by kernel_rfl) (L.m rfl (L.o (O.aF sizeOf48 rfl rfl rfl (Blk.ext hB2 Xq) (Nat.le_refl _) iT (fun w29 adO VL=>?_)))))))
    replace adO:Upd b2 w26 w29:=adO
    have ai4:Blk w29 b2 eY 48:=VL
    refine L.a rfl (L.a rfl (L.nil (T.Gt results21 isAgg48 sizeOf48 rfl rfl rfl rfl (Row.ay ai4) ⟨(he2.trans Xq).upd adO (.inr (by omega)),by rw [hp];rfl⟩)))
   refine L.nil (?_)
   have hp:kJ t = .inl s:=by unfold kJ;rw [if_neg (by omega),hr];simp only [];rw [if_pos hk,if_pos (by omega)]
   refine T.cf (T.skip (T.q (L.o (O.fieldAddr runUnderlying129 rfl sizeOf48 rfl (L.o (O.ak isAgg48 sizeOf48 rfl rfl ((Row.ay (Blk.ext hrow Ri)).part 0 6) (L.o (O.aF sizeOf48 rfl rfl rfl (Blk.ext hB2 Xq) (Nat.le_refl _) (yO hc hro) (fun w32 ZX ai5=>?_)))))))))
   replace ZX:Upd b2 w26 w32:=ZX
   have ai6:Blk w32 b2 (gZ (rdC d s) (rdR d s)) 48:=ai5
   have afO:=Blk.lt hB2
   refine L.a rfl (L.a rfl (L.nil (T.Gt results21 isAgg48 sizeOf48 rfl rfl rfl rfl (Row.ay ai6) ⟨(he2.trans Xq).upd ZX (.inr (by omega)),by rw [hp];exact ⟨rdC d s,rdR d s,rfl,((hc.ext Ri).loc ZX afO).mono (by omega),((hro.ext Ri).loc ZX afO).mono (by omega),afN⟩⟩)))
  rw [decide_eq_false (show s.last ∉ [fH] by simpa using hk)]
  have hp:kJ t = .inr (0,5):=by unfold kJ;rw [if_neg (by omega),hr];simp only [];rw [if_neg hk]
  refine L.o (O.not rfl (L.o (O.ah rfl rfl (L.nil (T.ct (T.q (L.o (O.build (v:=.agg eY.toArray) (parts:=[]) (vs:=[]) rfl (fun w=>by kernel_rfl) (L.m rfl (L.o (O.aF sizeOf48 rfl rfl rfl (Blk.ext hB2 Kt.e) (Nat.le_refl _) iT (fun w22 QE ZY=>?_))))))))))))
  replace QE:Upd b2 w19 w22:=QE
  have adP:Blk w22 b2 eY 48:=ZY
  refine L.a rfl (L.a rfl (L.nil (T.Gt results21 isAgg48 sizeOf48 rfl rfl rfl rfl (Row.ay adP) ⟨(he2.trans Kt.e).upd QE (.inr (by omega)),by rw [hp];rfl⟩)))
 obtain ⟨S,DY⟩:=ai0 n hr
 refine L.a rfl (L.nil (T.q (L.m rfl (L.o (O.Bq rfl rfl (by have:=IL _ _ _ _ _ hr;simp [C9];omega) (?_))))))
 have hp:kJ t = .inr ((n:Int),5):=by unfold kJ;rw [if_neg (by omega),hr]
 refine L.m rfl (L.p (L.p (L.p (L.o (O.aj rfl rfl (L.nil (T.ct (T.q (L.o (O.build (v:=.agg eY.toArray) (parts:=[]) (vs:=[]) rfl (fun w=>by kernel_rfl) (L.m rfl (L.o (O.aF sizeOf48 rfl rfl rfl (Blk.ext hB2 DY.1) (Nat.le_refl _) iT (fun w22 QE ZY=>?_))))))))))))))
 replace QE:Upd b2 w14 w22:=QE
 have adP:Blk w22 b2 eY 48:=ZY
 refine L.a rfl (L.a rfl (L.nil (T.Gt results21 isAgg48 sizeOf48 rfl rfl rfl rfl (Row.ay adP) ⟨(he2.trans DY.1).upd QE (.inr (by omega)),by rw [hp];rfl⟩)))
end Go.Proofs.YtnlonpcbgjbbaaaGreatDoor
