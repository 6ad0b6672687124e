/-
  BlocksBlanks, part 20 of its proof: that it returns true for every input, and each argument reads behind the call as it read before. Conditions: the listed variables read as the program's text lays them (tied by the card).
-/
import Derived.Test.YtnlonpcbgjbbaaaGreatDoorWBlocksBlanks19
import Derived.Test.YtnlonpcbgjbbaaaGreatDoorWBlocksBlanks13
set_option linter.unusedVariables false
set_option linter.unusedSimpArgs false
set_option maxRecDepth 20000
set_option linter.unusedVariables false
set_option linter.unusedSimpArgs false
set_option maxRecDepth 20000
namespace Go.Proofs.YtnlonpcbgjbbaaaGreatDoor
open Go.Proofs.Tryz (call10 call15 call17 call19 call21 call22 call23 call24 call25 call26 call27 call28 call29 call71 func24 func4 isAgg48 isAgg59 isAgg9 ntmps24 ntmps4 results24 results4 runUnderlying3 runUnderlying5 runUnderlying61 runUnderlying9 sizeOf48 sizeOf59 sizeOf9 zeroValue48 zeroValue65)
open Go Go.E RowKit
attribute [local irreducible] Go.E.T Go.E.L Go.E.O Go.E.Ob
attribute [local irreducible] Go.E.ObX Go.E.ObG Go.E.ObK
def aY (d:UInt8):Str→List Str
 | []=>[[]]
 | c::r=>if c=d then [c]::aY d r else match aY d r with
  | []=>[[c]]
  | w::ws=>(c::w)::ws
theorem TY (d:UInt8):∀ s,aY d s ≠ []
 | []=>by simp [aY]
 | c::r=>by
  unfold aY
  split
  ·simp
  split <;> simp
theorem jZ (d:UInt8):∀ s,Lib.splitK [d] 1 (Lib.count s [d]) s=aY d s
 | []=>by rw [Lib.count_miss (by simp [Lib.index])];rfl
 | c::r=>by
  have ih:=jZ d r
  by_cases hc:c=d
  ·subst hc
   rw [Lib.count_cons_eq,Nat.add_comm,Lib.splitK,pF,aY,if_pos rfl,if_neg (by decide)]
   simp [ih]
  rw [Lib.count_cons_ne c d r hc,aY,if_neg hc]
  by_cases hm:Lib.index r [d] = -1
  ·rw [Lib.count_miss hm] at ih ⊢
   rw [← ih];rfl
  have hge:=Lib.index_ge r [d]
  obtain ⟨j,hj⟩:∃ j:Nat,Lib.index r [d]=j:=⟨(Lib.index r [d]).toNat,by omega⟩
  rw [Lib.count_hit (by simp) hj,Nat.add_comm] at ih ⊢
  have hmr:¬ (Lib.index r [d] == -1)=true:=fun e=>hm (beq_iff_eq.1 e)
  have e1:Lib.index (c::r) [d]=((j+1:Nat):Int):=by rw [lN c d r hc,if_neg hmr,hj];omega
  have hmc:¬ (Lib.index (c::r) [d] == -1)=true:=fun e=>by have:=beq_iff_eq.1 e;omega
  rw [Lib.splitK,if_neg hmr,hj] at ih
  rw [Lib.splitK,if_neg hmc,e1,← ih]
  have e2:((j+1:Nat):Int).toNat+1=((j:Int).toNat+1)+1:=by omega
  simp [e2]
theorem H9 (s:Str) (d:UInt8):(Lib.splitB ⟨#[d]⟩ 1 (Lib.countB ⟨s.toArray⟩ ⟨#[d]⟩) ⟨s.toArray⟩).map (·.data.toList)=aY d s:=by
 rw [Lib.splitB_data]
 exact jZ d s
theorem BU {d:UInt8} {t:Str} : ∀ {w:Str},d∉w→aY d (w++d::t)=(w ++ [d])::aY d t
 | [],_=>by
  show aY d (d::t)=_
  unfold aY
  rw [if_pos rfl]
  cases t <;> rfl
 | c::r,hw=>by
  have hc:¬ c=d:=fun e=>hw (by rw [e];exact List.mem_cons_self ..)
  show aY d (c::(r++d::t))=_
  rw [aY,if_neg hc,BU (fun h=>hw (List.mem_cons_of_mem _ h))]
  rfl
theorem vO:∀ ls:List Str,(∀ l∈ls,(10:UInt8)∉l)→aY 10 (ay ls)=ls.map (· ++ [10]) ++ [[]]
 | [],_=>rfl
 | l::r,h=>by
  have e:ay (l::r)=l++10::ay r:=by simp [ay]
  rw [e,BU (h l (List.mem_cons_self ..)),vO r (fun x hx=>h x (List.mem_cons_of_mem _ hx))];rfl
theorem vP:∀ s:Str,Lib.replaceK [32] [32,32,32] (Lib.count s [32]) s=wide s
 | []=>by rw [Lib.count_miss (by simp [Lib.index])];rfl
 | c::r=>by
  have ih:=vP r
  by_cases hc:c=32
  ·subst hc
   rw [Lib.count_cons_eq,Nat.add_comm,Lib.replaceK_hit _ _ _ _ 0 (pF 32 r)]
   show [] ++ [32,32,32]++Lib.replaceK [32] [32,32,32] (Lib.count r [32]) r=_
   rw [ih,wide,if_pos rfl];rfl
  rw [Lib.count_cons_ne c 32 r hc,wide,if_neg hc]
  by_cases hm:Lib.index r [32] = -1
  ·rw [Lib.count_miss hm] at ih ⊢
   have ih':r=wide r:=ih
   show c::r=_
   rw [← ih']
  have hge:=Lib.index_ge r [32]
  obtain ⟨j,hj⟩:∃ j:Nat,Lib.index r [32]=j:=⟨(Lib.index r [32]).toNat,by omega⟩
  have hmr:¬ (Lib.index r [32] == -1)=true:=fun e=>hm (beq_iff_eq.1 e)
  have e1:Lib.index (c::r) [32]=((j+1:Nat):Int):=by rw [lN c 32 r hc,if_neg hmr,hj];omega
  rw [Lib.count_hit (by simp) hj,Nat.add_comm] at ih ⊢
  rw [Lib.replaceK_hit _ _ _ _ j hj] at ih
  rw [Lib.replaceK_hit _ _ _ _ (j+1) e1,← ih]
  simp
theorem zA (s:Str):Lib.replaceAll s [32] [32,32,32]=wide s:=by
 rw [Lib.replaceAll,Lib.replace,if_neg (by decide),Lib.replaceNum,if_pos (.inl (by decide))]
 exact vP s
theorem BX:∀ s:Str,aK 10 (wide s)=(aK 10 s).map wide
 | []=>rfl
 | c::r=>by
  have ih:=BX r
  by_cases h10:c=10
  ·subst h10
   rw [wide,if_neg (by decide),kX rfl,kX rfl,ih];rfl
  obtain ⟨w,ws,hw⟩:=List.exists_cons_of_ne_nil (qH 10 r)
  rw [hw] at ih
  rw [gu h10 hw]
  by_cases h32:c=32
  ·subst h32
   have h1:=gu (c:=32) (d:=10) (by decide) ih
   have h2:=gu (c:=32) (d:=10) (by decide) h1
   have h3:=gu (c:=32) (d:=10) (by decide) h2
   rw [wide,if_pos rfl,h3,List.map_cons,wide,if_pos rfl]
  rw [wide,if_neg h32,gu h10 ih,List.map_cons,wide,if_neg h32]
def nz (ws:List (List Str)):List (List Str):=ws.filter fun w=>!w.isEmpty
def jR (t:Str):List (List Str):=(aK 10 t).map (aW [])
theorem Ia (a b:List (List Str)):nz (a++b)=nz a++nz b:=by unfold nz;exact List.filter_append ..
theorem WS {s:PS} {a b:List (List Str)} (h:nz a=nz b):bK s a=bK s b:=by
 rw [← jw a,← jw b]
 exact congrArg (bK s) h
theorem OI (t:Str):jR (wide t)=jR t:=by
 unfold jR
 rw [BX,List.map_map]
 exact List.map_congr_left fun l _=>pY l []
theorem MH (u p:Str):Lib.trimSuffix (u++p) p=u:=by
 have hs:Lib.hasSuffix (u++p) p=true:=by rw [Lib.hasSuffix];exact List.isSuffixOf_iff_suffix.2 ⟨u,rfl⟩
 rw [Lib.trimSuffix,if_pos hs]
 simp
theorem Ua (u:Str):nz (jR (u ++ [10]))=nz (jR u):=by
 have:aK 10 (u ++ [10])=aK 10 u ++ [[]]:=ug 10 [] u
 unfold jR
 rw [this,List.map_append,Ia]
 have e:nz (([[]]:List Str).map (aW [])) = []:=rfl
 rw [e,List.append_nil]
theorem OJ (t:Str):nz (jR (t ++ [10,32,10]))=nz (jR t):=by
 have:aK 10 (t ++ [10,32,10])=aK 10 t++aK 10 [32,10]:=ug 10 [32,10] t
 unfold jR
 rw [this,List.map_append,Ia]
 have e:nz ((aK 10 [32,10]).map (aW [])) = []:=by decide
 rw [e,List.append_nil]
def seg (k:Nat) (l:Str):Str:=List.replicate (k % 3) 32++(l++List.replicate (k % 2) 10)
def gq (k:Nat):List Str→Str
 | []=>[]
 | l::ls=>seg k l++gq (k+1) ls
theorem zB:∀ (ls:List Str) (k:Nat) (l:Str),gq k (ls ++ [l])=gq k ls++seg (k+ls.length) l
 | [],k,l=>by simp [gq]
 | x::ls,k,l=>by
  rw [List.cons_append,gq,zB ls (k+1) l,gq,List.append_assoc,List.length_cons]
  congr 3
  omega
theorem Es (n:Nat):(10:UInt8)∉List.replicate n (32:UInt8):=fun h=>absurd (List.eq_of_mem_replicate h) (by decide)
theorem BZ:∀ (m:Nat) (x:Str),aK 10 (List.replicate m 10++x)=List.replicate m []++aK 10 x
 | 0,x=>rfl
 | m+1,x=>by rw [List.replicate_succ,List.cons_append,kX rfl,BZ m x];rfl
theorem WT (m:Nat):nz ((List.replicate m ([]:Str)).map (aW [])) = []:=by
 induction m with
 | zero=>rfl
 | succ m ih =>
  rw [List.replicate_succ,List.map_cons]
  exact ih
theorem Ib (n:Nat):aW [] (List.replicate n 32) = []:=by
 have:=lY n []
 rw [List.append_nil] at this
 exact this
theorem zC:∀ (ls:List Str) (k:Nat),(∀ l∈ls,(10:UInt8)∉l)→nz (jR (gq k (ls.map (· ++ [10]) ++ [[]])))=nz (ls.map (aW []))
 | [],k,_=>by
  have e:gq k (([]:List Str).map (· ++ [10]) ++ [[]])=List.replicate (k % 3) 32++List.replicate (k % 2) 10:=by simp [gq,seg]
  rw [e]
  rcases Nat.mod_two_eq_zero_or_one k with h|h
  ·rw [h]
   unfold jR
   rw [List.replicate_zero,List.append_nil,sG (Es _),List.map_cons,Ib]
   rfl
  rw [h]
  unfold jR
  rw [show List.replicate 1 (10:UInt8)=10 :: [] from rfl,iG (Es _),List.map_cons,Ib]
  rfl
 | l::ls,k,h=>by
  have ih:=zC ls (k+1) (fun x hx=>h x (List.mem_cons_of_mem _ hx))
  have hl:=h l (List.mem_cons_self ..)
  have hf:(10:UInt8)∉List.replicate (k % 3) 32++l:=fun hm=>by
   rcases List.mem_append.1 hm with hm|hm
   ·exact Es _ hm
   exact hl hm
  have e:gq k ((l::ls).map (· ++ [10]) ++ [[]])=(List.replicate (k % 3) 32++l)++10::(List.replicate (k % 2) 10++gq (k+1) (ls.map (· ++ [10]) ++ [[]])):=by
   simp [gq,seg]
  rw [e]
  unfold jR at ih ⊢
  rw [iG hf,BZ,List.map_cons,List.map_append,List.map_cons,lY]
  have e1:∀ (a:List Str) (b:List (List Str)),nz (a::b)=nz [a]++nz b:=fun a b=>Ia [a] b
  rw [e1,Ia,WT,List.nil_append,ih,e1 _ (ls.map (aW []))]
theorem WU {t:Str} {s:PS} (hl:t.length≤40000) (h:bK PS0 (jR t)=some s) (hk:s.last=dL) (he:Tv s=0):fU t = .inl s:=by
 have h1:=(wY (aK 10 t) PS0 s 1).2 h
 unfold fU
 rw [if_neg (by omega),h1]
 simp only []
 rw [if_pos hk,if_pos he]
structure Written (c:CxV) (r:RoV):Prop where
 sp:Hu c r
 er:Tv (Ei c r)=0
theorem Written.of {c:CxV} {r:RoV} (h:dX c r (cZ c)=0):Written c r:=⟨H6 h,by rw [← (BP c r).err];exact h⟩
theorem Written.parse {c:CxV} {r:RoV} (h:Written c r) {t:Str} (hl:t.length≤40000) (ht:nz (jR t)=nz (jR (ay (bI c r)))):fU t = .inl (Ei c r) :=
 WU hl (by rw [WS ht];exact TB h.sp) rfl h.er
theorem Written.lines {c:CxV} {r:RoV} (h:Written c r):aK 10 (ay (bI c r))=bI c r ++ [[]]:=iU _ (lF fun u hu=>(h.sp.nms u hu).2)
theorem WV {c:CxV} {r:RoV} (h:Written c r):nz (jR (ay (bI c r)))=nz ((bI c r).map (aW [])):=by
 unfold jR
 rw [h.lines,List.map_append,Ia]
 have e:nz (([[]]:List Str).map (aW [])) = []:=rfl
 rw [e,List.append_nil]
theorem end_none {s:PS} (h:s.last=dL∨s.last = []):eP s dL=none:=by
 have hf:fieldsB dL=dL :: []:=by rw [uq];decide
 rw [step_end hf,if_neg]
 intro hh
 rcases h with h|h
 ·exact hh.1 (by rw [h];simp)
 exact hh.1 (by rw [h];simp)
theorem Written.more {c:CxV} {r:RoV} (h:Written c r) (hl:(ay (bI c r) ++ [101,110,100,10]).length≤40000):fU (ay (bI c r) ++ [101,110,100,10]) = .inr (((bI c r).length+1:Nat),5):=by
 have hfree:=lF (c:=c) (r:=r) fun u hu=>(h.sp.nms u hu).2
 have e:ay (bI c r) ++ [101,110,100,10]=ay (bI c r ++ [dL]):=by rw [uI];rfl
 have hw:aK 10 (ay (bI c r ++ [dL]))=bI c r++([dL] ++ [[]]):=by
  rw [iU _ (fun l hl=>by
   rcases List.mem_append.1 hl with hl|hl
   ·exact hfree l hl
   rw [List.mem_singleton.1 hl];decide),List.append_assoc]
 have hrun:oP eP PS0 (bI c r) 1 = .inl (Ei c r):=(wY _ _ _ _).2 (by rw [uD c r (fun u hu=>(h.sp.nms u hu).1)];exact BO h.sp)
 rw [e] at hl ⊢
 have hr2:oP eP PS0 (aK 10 (ay (bI c r ++ [dL]))) 1 = .inr (1+(bI c r).length):=by
  rw [hw,MB _ _ _ _ _ hrun,List.singleton_append,oP,end_none (.inl rfl)]
 unfold fU
 rw [if_neg (by omega),hr2]
 simp only []
 rw [Nat.add_comm 1]
theorem Written.first {c:CxV} {r:RoV} (h:Written c r) (hl:([101,110,100,10]++ay (bI c r)).length≤40000):fU ([101,110,100,10]++ay (bI c r)) = .inr (1,5):=by
 have hw:aK 10 ([101,110,100,10]++ay (bI c r))=dL::aK 10 (ay (bI c r)):=iG (w:=dL) (by decide)
 have hr2:oP eP PS0 (aK 10 ([101,110,100,10]++ay (bI c r))) 1 = .inr 1:=by
  rw [hw,oP,end_none (.inr rfl)]
 unfold fU
 rw [if_neg (by omega),hr2]
 rfl
def wG (c:CxV) (r:RoV):List Str:=lA r++c.ps.map ptL++c.fs.flatMap rF++r.us.map uh
theorem rV (c:CxV) (r:RoV):bI c r=wG c r ++ [dL]:=rfl
theorem Written.less {c:CxV} {r:RoV} (h:Written c r) (hl:(ay (wG c r)).length≤40000):fU (ay (wG c r)) = .inr (0,5):=by
 have hfree:=lF (c:=c) (r:=r) fun u hu=>(h.sp.nms u hu).2
 have hw:aK 10 (ay (wG c r))=wG c r ++ [[]]:=iU _ (fun l hl=>hfree l (by rw [rV];exact List.mem_append_left _ hl))
 have ht:=uD c r (fun u hu=>(h.sp.nms u hu).1)
 rw [rV,List.map_append,textW] at ht
 have hh:(wG c r).map (aW []) = [Tq r]++c.ps.map ptW++c.fs.flatMap Ht++r.us.map J4:=List.append_inj_left' ht (by simp)
 obtain ⟨k,hk,he⟩:=zl h.sp
 have hrun:oP eP PS0 (aK 10 (ay (wG c r))) 1 = .inl { Ei c r with last:=k }:=(wY _ _ _ _).2 (by
  rw [hw,List.map_append,hh,iO _ he];rfl)
 unfold fU
 rw [if_neg (by omega),hrun]
 simp only []
 rw [if_neg (fun e=>hk (by rw [e];simp))]
theorem vS:∀ ls:List Str,(∀ l∈ls,(10:UInt8)∉l)→Lib.countByte (ay ls) 10=ls.length
 | [],_=>rfl
 | l::r,h=>by
  have e:ay (l::r)=l++([10]++ay r):=by simp [ay]
  have ih:=vS r (fun x hx=>h x (List.mem_cons_of_mem _ hx))
  unfold Lib.countByte at ih ⊢
  rw [e,List.count_append,List.count_append,ih,List.count_eq_zero.2 (h l (List.mem_cons_self ..)),List.length_cons]
  show 0+(1+r.length)=_
  omega
open Go Go.E RowKit
open Geo (DC)
theorem Ic {n:Nat} (h:n<10):gY (UInt8.ofNat (48+n))=true:=by
 rw [UC,UInt8.toNat_ofNat_of_lt' (by show _<256;omega)];omega
theorem acD {i:Nat} (h:i<100):EZ (dNm i)=true:=by
 have h1:=Ic (n:=i / 10) (by omega)
 have h2:=Ic (n:=i % 10) (by omega)
 simp only [EZ,dNm,UH,List.singleton_append,List.all_cons,List.all_nil,h1,h2,Bool.and_true,List.length_cons,List.length_nil]
 rfl
theorem ZH {i j:Nat} (hi:i<100) (hj:j<100) (h:dNm i=dNm j):i=j:=by
 simp only [dNm,UH,List.singleton_append,List.cons.injEq,and_true,true_and] at h
 have h1:=congrArg UInt8.toNat h.1
 have h2:=congrArg UInt8.toNat h.2
 rw [UInt8.toNat_ofNat_of_lt' (by show _<256;omega),UInt8.toNat_ofNat_of_lt' (by show _<256;omega)] at h1 h2
 omega
theorem agf {d:Dr} {n i:Nat} (hn:∀ j,j<d.ns.length→0≤d.ns.getD j 0∧d.ns.getD j 0≤65535):0≤dP d n i∧dP d n i≤65535:=by
 unfold dP
 have:=xI hn i
 split <;> omega
theorem Et {d:Dr} {n i:Nat} {r:RoV} (h:sS d n r) (hn:∀ j,j<d.ns.length→0≤d.ns.getD j 0∧d.ns.getD j 0≤65535) (hg:vY d.g) (hp:vY d.p) (hl:vY d.l) (hi:i<n):cu r (r.us.getD i u0)=true:=by
 have u:=h.u i hi
 have h24:=h.n2
 unfold vY at hg hp hl
 have hdp:=agf (n:=n) (i:=i) hn
 have e1:r.G=d.g % 3:=h.g
 have e2:r.P=d.p % 4:=h.p
 have e3:r.L=d.l % 4:=h.l
 have hvm:fJ (r.us.getD i u0)=if dWt d n i then 0 else 1000000000:=by rw [fJ,u.wt]
 have hpm:mV (r.us.getD i u0)=if dWt d n i then 0 else 63:=by rw [mV,u.wt]
 have hpw:dWt d n i=true→dP d n i=0:=fun hw=>by rw [dP,hw];rfl
 rw [P7,u.nm,u.pp,u.gs,u.vs,u.ps,hvm,hpm]
 refine ⟨acD (by omega),hdp.1,?_,?_,?_,?_⟩
 ·split
  ·rename_i hw;rw [hpw hw];exact Int.le_refl _
  omega
 ·refine within_iff.2 ⟨by rw [dZ];omega,fun j hj=>?_⟩
  rw [dZ] at hj
  rw [xK hj,dG1]
  have:=Int.emod_nonneg (Ez d.ns (3*i+j+1)) (show dP d n i+1≠0 by omega)
  have:=Int.emod_lt_of_pos (Ez d.ns (3*i+j+1)) (show 0<dP d n i+1 by omega)
  omega
 ·refine within_iff.2 ⟨by rw [dZ];omega,fun j hj=>?_⟩
  rw [dZ] at hj
  rw [xK hj,dV1]
  have:=xI hn (5*i+j+2)
  split <;> omega
 refine within_iff.2 ⟨by rw [dZ];omega,fun j hj=>?_⟩
 rw [dZ] at hj
 rw [xK hj,dL1]
 split
 ·omega
 have h1:(Ez d.ns (i+11) % 16).toNat≤15:=by omega
 have h2:=Nat.div_le_self (Ez d.ns (i+11) % 16).toNat (2 ^ j)
 obtain ⟨q,hq⟩:∃ q:Nat,q=(Ez d.ns (i+11) % 16).toNat / 2 ^ j:=⟨_,rfl⟩
 rw [← hq] at h2 ⊢
 omega
theorem Ub {d:Dr} {n:Nat} (hn:1≤n) (ha:vY d.wa):0≤Fb d n∧Fb d n<n:=by
 unfold vY at ha
 unfold Fb
 have:=Int.emod_nonneg d.wa (show ((n / 3+1:Nat):Int)≠0 by omega)
 have:=Int.emod_lt_of_pos d.wa (show (0:Int)<((n / 3+1:Nat):Int) by omega)
 omega
theorem OL {d:Dr} {n:Nat} {r:RoV} (h:sS d n r) (hn:∀ j,j<d.ns.length→0≤d.ns.getD j 0∧d.ns.getD j 0≤65535) (hg:vY d.g) (hp:vY d.p) (hl:vY d.l) (ha:vY d.wa):bJ r:=by
 have h1:=h.n1
 have h24:=h.n2
 have hlen:=h.len
 have hw:=Ub h1 ha
 have hg':=hg
 have hp':=hp
 have hl':=hl
 unfold vY at hg' hp' hl'
 refine ⟨I9.2 ⟨by rw [h.g];omega,by rw [h.g];omega,by rw [h.p];omega,by rw [h.p];omega,by rw [h.l];omega,by rw [h.l];omega,by omega,by omega⟩,fun j hj=>?_⟩
 have uj:=h.u j (by omega)
 refine ⟨Et h hn hg hp hl (by omega),fun k hk e=>?_,fun k hk hkw=>?_,fun e=>?_⟩
 ·have uk:=h.u k (by omega)
  rw [uk.nm,uj.nm] at e
  have:=ZH (by omega) (by omega) e
  omega
 ·have uk:=h.u k (by omega)
  rw [uk.wt,dWt,decide_eq_true_eq] at hkw
  rw [uj.wt,dWt,decide_eq_true_eq];omega
 subst e
 rw [uj.wt,dWt,decide_eq_false_iff_not];omega
theorem Ie {d:Dr} {n lo:Nat} {r:RoV} {w:World} (h:sS d n r) (hd:d.ok lo w):bJ r:=OL h hd.nl hd.g0 hd.p0 hd.l0 hd.a0
theorem Uc {d:Dr} {lo:Nat} {w:World} {c:CxV} {r:RoV} (hd:d.ok lo w) (h1:sS d c.fs.length r) (h2:DC c (dW d) (dH d) d.ho d.ss d.cs) (hW:1≤dW d∧dW d≤4) (hH:1≤dH d∧dH d≤3):dX c r (cZ c)=0:=by
 rw [(pK h2 hW hH).1,dX,if_neg (by simp),eG (Ie h1 hd),if_neg (by simp),if_neg (by rw [h1.len];simp)]
open Go Go.E RowKit
theorem uN (sep:Str) (sv:Nat):∀ (k:Nat) (s:Str),(Lib.splitK sep sv k s).length≤k+1
 | 0,s=>by simp [Lib.splitK]
 | k+1,s=>by
  unfold Lib.splitK
  split
  ·simp
  have:=uN sep sv k (s.drop ((Lib.index s sep).toNat+sep.length))
  simp only [List.length_cons];omega
theorem Eu (s:Str):(⟨s.toArray⟩:ByteArray).size=s.length:=by simp [ByteArray.size]
theorem Aq (s:Str) (w:World) (hL:je w) (hs:s.length≤1000000):Calls Tryz.prog 71 #[str s,str [10],.int .i64 1,.int .i64 (-1)] w (Ret fun v w'=>∃ A cap,v = .slice (some ⟨A,0,none⟩) (aY 10 s).length cap∧w.heap.size≤A∧(∃ cs,Blk w' A cs 9∧cs.length=cap∧cap≤maxLen∧(aY 10 s).length≤cap∧cs.take (aY 10 s).length=(aY 10 s).map str)∧Ext w w'):=by
 obtain ⟨m,hm⟩:=hL.mx
 have hz:=Eu s
 have hc:=Lib.countB_le ⟨#[10]⟩ (by decide) s.length ⟨s.toArray⟩ (by omega)
 have hsp:=H9 s 10
 have hlen:(Lib.splitB ⟨#[10]⟩ 1 (Lib.countB ⟨s.toArray⟩ ⟨#[10]⟩) ⟨s.toArray⟩).length=(aY 10 s).length:=by rw [← hsp,List.length_map]
 have hmap:(Lib.splitB ⟨#[10]⟩ 1 (Lib.countB ⟨s.toArray⟩ ⟨#[10]⟩) ⟨s.toArray⟩).map Value.string=(aY 10 s).map str:=by
  rw [← hsp,List.map_map]
  exact List.map_congr_left fun x _=>rfl
 have hk:(aY 10 s).length≤Lib.countB ⟨s.toArray⟩ ⟨#[10]⟩+1:=by
  rw [← jZ]
  exact uN _ _ _ _
 refine (Tryz.strings_genSplit ⟨s.toArray⟩ ⟨#[10]⟩ 1 (-1) (Lib.countB ⟨s.toArray⟩ ⟨#[10]⟩+1) m w (by omega) hm (by decide) (by decide) (by decide) (by decide) (by rw [if_pos (by decide)];omega)).mono ?_
 rintro e w' ⟨rfl,rfl⟩
 rw [Nat.add_sub_cancel]
 have hcell:(Lib.cellsOf (Lib.splitB ⟨#[10]⟩ 1 (Lib.countB ⟨s.toArray⟩ ⟨#[10]⟩) ⟨s.toArray⟩) (Lib.countB ⟨s.toArray⟩ ⟨#[10]⟩+1)).toList=(aY 10 s).map str++List.replicate (Lib.countB ⟨s.toArray⟩ ⟨#[10]⟩+1-(aY 10 s).length) (Value.string ByteArray.empty):=by
  rw [← hmap,← hlen];rfl
 refine ⟨w.heap.size,Lib.countB ⟨s.toArray⟩ ⟨#[10]⟩+1,by rw [hlen],Nat.le_refl _,⟨(aY 10 s).map str++List.replicate (Lib.countB ⟨s.toArray⟩ ⟨#[10]⟩+1-(aY 10 s).length) (Value.string ByteArray.empty),?_,?_,by simp only [maxLen];omega,hk,?_⟩,?_⟩
 ·unfold Blk
  rw [← hcell,Array.toArray_toList]
  exact Array.getElem?_push_size ..
 ·simp;omega
 ·rw [List.take_append_of_le_length (by simp),List.take_of_length_le (by simp)]
 exact Keep.alloc 0 w _
theorem wH (s:Str) (w:World) (hL:je w) (hs:s.length≤1000000):Calls Tryz.prog 23 #[str s,str [32],str [32,32,32]] w (Ret fun v w'=>v=str (wide s)∧Ext w w'):=by
 obtain ⟨m,hm⟩:=hL.mx
 have hz:=Eu s
 have hc:=Lib.countB_le ⟨#[32]⟩ (by decide) s.length ⟨s.toArray⟩ (by omega)
 have h3:(⟨#[32,32,32]⟩:ByteArray).size=3:=rfl
 refine LK ((Tryz.strings_ReplaceAll ⟨s.toArray⟩ ⟨#[32]⟩ ⟨#[32,32,32]⟩ m w (by omega) hm (by decide) (by rw [h3];omega)).mono ?_)
 rintro e w' ⟨rfl,hb⟩
 refine ⟨?_,hb⟩
 show Ending.returned (str (Lib.replaceAll s [32] [32,32,32]))=_
 rw [zA]
theorem Ud (c:UInt8) (n:Nat):Lib.repeatL [c] n=List.replicate n c:=by
 have:=Lib.repeatL_replicate c 1 n
 rw [Nat.mul_one] at this
 exact this
theorem MI:∀ s:Str,(wide s).length≤3*s.length
 | []=>Nat.le_refl _
 | c::r=>by
  have:=MI r
  unfold wide
  split <;> simp only [List.length_cons] <;> omega
theorem zD:∀ (ls:List Str) (k:Nat),(gq k ls).length≤ls.flatten.length+3*ls.length
 | [],k=>by simp [gq]
 | l::ls,k=>by
  have:=zD ls (k+1)
  simp only [gq,seg,List.length_append,List.length_replicate,List.flatten_cons,List.length_cons]
  omega
theorem uO (d:UInt8):∀ s:Str,(aY d s).flatten=s
 | []=>rfl
 | c::r=>by
  have ih:=uO d r
  unfold aY
  split
  ·rw [List.flatten_cons,ih];rfl
  split
  ·rename_i h;exact absurd h (TY d r)
  rename_i w ws h
  rw [h] at ih
  rw [List.flatten_cons] at ih ⊢
  rw [List.cons_append,ih]
theorem Ew (ls:List Str) (i:Nat):(ls.take i).flatten.length≤ls.flatten.length:=by
 have:ls.flatten=(ls.take i).flatten++(ls.drop i).flatten:=by rw [← List.flatten_append,List.take_append_drop]
 rw [this,List.length_append];omega
theorem Ig (s:Str):(aY 10 s).length≤s.length+1:=by
 have h1:=uN [10] 1 (Lib.count s [10]) s
 rw [jZ] at h1
 have hc:=Lib.countB_le ⟨#[10]⟩ (by decide) s.length ⟨s.toArray⟩ (by rw [Eu];exact Nat.le_refl _)
 have e:Lib.countB ⟨s.toArray⟩ ⟨#[10]⟩=Lib.count s [10]:=rfl
 rw [Eu] at hc
 omega
def Ey (m:Nat) (t u:Str):List Str:=[wide t,gq m (aY 10 t),u,t ++ [10,32,10]]
theorem WW {c:CxV} {r:RoV} (h:Written c r) {m:Nat} {u:Str} (hu:ay (bI c r)=u ++ [10]) (hl:(ay (bI c r)).length≤40000):∀ x∈Ey m (ay (bI c r)) u,nz (jR x)=nz (jR (ay (bI c r)))∧x.length≤1000000:=by
 have hfree:=lF (c:=c) (r:=r) fun u hu=>(h.sp.nms u hu).2
 have h1:=MI (ay (bI c r))
 have h2:=zD (aY 10 (ay (bI c r))) m
 have h3:=Ig (ay (bI c r))
 rw [uO] at h2
 have h4:=congrArg List.length hu
 rw [List.length_append] at h4
 intro x hx
 simp only [Ey,List.mem_cons,List.not_mem_nil,or_false] at hx
 rcases hx with rfl|rfl|rfl|rfl
 ·exact ⟨by rw [OI],by omega⟩
 ·refine ⟨?_,by omega⟩
  rw [vO _ hfree,zC _ _ hfree,WV h]
 ·exact ⟨by rw [hu,Ua],by omega⟩
 exact ⟨OJ _,by rw [List.length_append];show _+3≤_;omega⟩
theorem WX (c:CxV) (r:RoV):ay (bI c r)=(ay (wG c r)++dL) ++ [10]:=by
 rw [rV,uI,List.append_assoc];rfl
theorem Ih (c:CxV) (r:RoV):ay (bI c r)=ay (wG c r) ++ [101,110,100,10]:=by
 rw [rV,uI];rfl
theorem Kr {c:CxV} (h:cZ c=false):∀ f∈c.fs,f.hs.length≤100000:=fun f hf=>by
 have:=((yg h).2.2 f hf).1;omega
theorem wI (s:Str) (w:World) (hL:je w) (hs:s.length≤1000000) :
  Calls Tryz.prog 24 #[str s,str [10]] w (Ret fun v w'=>∃ A cap,v = .slice (some ⟨A,0,none⟩) (aY 10 s).length cap∧w.heap.size≤A∧(∃ cs,Blk w' A cs 9∧cs.length=cap∧cap≤maxLen∧(aY 10 s).length≤cap∧cs.take (aY 10 s).length=(aY 10 s).map str)∧Ext w w'):=by
 refine T.enter (vs:=[str s,str [10]]) func24 rfl ntmps24 rfl ?_
 refine T.q (L.a rfl (L.nil (T.q (L.m rfl (L.m rfl (L.m rfl (L.o (O.fB runUnderlying9 rfl (L.o (O.call (xs:=[.tmp 5,.tmp 6,.tmp 8,.const (.int .i64 (-1))]) call71 rfl rfl (Aq s w hL hs) (fun v9 w9 hq=>?_)))))))))))
 obtain ⟨A,cap,rfl,hA,hC,he⟩:=hq
 refine L.a rfl (L.nil (T.aU results24 rfl ⟨A,cap,rfl,hA,hC,he⟩))
set_option maxHeartbeats 4000000 in
theorem rW (lo:Nat) (d:Dr) (m:Nat) (w:World) (hd:d.ok lo w) (hL:je w) (hm:m<256) :
  Calls Tryz.prog 4 #[d.val,.int .u8 m] w (Ret fun v w'=>v = .bool true∧Ext w w'):=by
 refine T.enter (vs:=[d.val,.int .u8 m]) func4 rfl ntmps4 rfl ?_
 refine T.q (L.o (O.box rfl (fun b2 w2 hb2 hz2 he2 hB2=>?_)))
 have hD2:Blk w2 b2 d.cells 59:=hB2
 refine L.a rfl (L.nil (T.seq (T.q (L.o (O.call (xs:=[]) call10 rfl rfl (Kq w2 (hL.ext he2)) (fun v19 w19 hq=>?_))))))
 obtain ⟨rfl,OY⟩:=hq
 have acE:=he2.trans OY
 refine L.o (O.not rfl (L.nil (T.cf (T.skip (T.q (L.o (O.ak isAgg59 sizeOf59 rfl rfl (Row.aA (Blk.ext (cs:=d.cells) hD2 OY)) (L.o (O.call (xs:=[.tmp 21]) call22 rfl rfl (Gn lo d w19 (hd.ext acE)) (fun v22 w22 hq=>?_))))))))))
 obtain ⟨aa8,c,r,rfl,hc,hr,hdr,hdc,hWb,hHb⟩:=hq
 have herr:=Uc hd hdr hdc hWb hHb
 have hWr:=Written.of herr
 have hbad:=(pK hdc hWb hHb).1
 refine L.o (O.alloc zeroValue48 (fun b5 w5 hb5 hz5 he5 hB5=>?_))
 refine L.o (O.aF sizeOf48 rfl rfl rfl hB5 (Nat.le_refl _) (nS hc hr) (fun w6 hu6 hB6=>?_))
 replace hu6:Upd b5 w5 w6:=hu6
 have hX6:Blk w6 b5 (fG c r) 48:=hB6
 have he6:Ext w22 w6:=he5.upd hu6 (.inr (by omega))
 have hA6:=(acE.trans aa8).trans he6
 have hc6:=hc.ext he6
 have hr6:=hr.ext he6
 refine L.nil (T.q (L.o (O.ak isAgg48 sizeOf48 rfl rfl (Row.aA hX6) (L.o (O.call (xs:=[.tmp 24]) call19 rfl rfl (Bz _ c r w6 hc6 hr6 (hL.ext hA6) Eo) (fun v25 w25 hq=>?_))))))
 obtain ⟨rfl,wW⟩:=hq
 obtain ⟨t,ht⟩:∃ t,t=ay (bI c r):=⟨_,rfl⟩
 have agh:=hA6.trans wW
 rcases Nat.lt_or_ge 40000 t.length with hbig|hsm
 ·rw [herr,show jI c r 0=([],3) from by rw [jI,if_neg (fun x=>x rfl),if_pos (by rw [← ht];exact hbig)]]
  refine L.m rfl (L.o (O.extract rfl rfl (L.o (O.extract rfl rfl (L.a rfl (L.a rfl (L.nil (T.seq (T.q (L.m rfl (L.o (O.IC rfl rfl (by decide) (L.nil (T.ct (T.q (L.m rfl (L.o (O.eql rfl rfl (L.a rfl (L.nil (T.aU results4 rfl ⟨congrArg Value.bool (decide_eq_true rfl),agh⟩)))))))))))))))))))))
 rw [herr,show jI c r 0=(t,0) from by rw [jI,if_neg (fun x=>x rfl),if_neg (by rw [← ht];omega),ht]]
 refine L.m rfl (L.o (O.extract rfl rfl (L.o (O.extract rfl rfl (L.a rfl (L.a rfl (L.nil (T.seq (T.q (L.m rfl (L.o (O.o8 rfl rfl rfl (L.nil (T.cf (T.skip (T.q (L.m rfl (L.o (O.call (xs:=[.tmp 32,_,_]) call23 rfl rfl (wH t w25 (hL.ext agh) (by omega)) (fun v33 w33 hq=>?_))))))))))))))))))))
 obtain ⟨rfl,Uh⟩:=hq
 have ahR:=agh.trans Uh
 refine L.a rfl (L.nil (T.q (L.m rfl (L.o (O.call (xs:=[.tmp 34,_]) call24 rfl rfl (wI t w33 (hL.ext ahR) (by omega)) (fun v35 w35 hq=>?_))))))
 obtain ⟨A,cap,rfl,hA,⟨cs,hCB,hC1,hC2,hC3,hC4⟩,Jh⟩:=hq
 have ahS:=ahR.trans Jh
 have hlen:=Ig t
 have hSt:Strs 0 w35 (.slice (some ⟨A,0,none⟩) (aY 10 t).length cap) (aY 10 t):=zh hCB hC3 hC2 (by omega) (by rw [Nat.mul_one];exact hC4)
 refine L.a rfl (L.nil (T.q (L.o (O.alloc zeroValue65 (fun b10 w10 acU X8 fZ EC=>?_)))))
 have hb0:Bld w35.heap.size b10 [] w10:=Bld.new EC (by omega)
 refine L.nil (T.seq (T.q (L.m rfl (L.o (O.len runUnderlying61 rfl (Sl.val (hSt.ext fZ)) (L.m rfl (L.nil (T.block (?_)))))))))
 refine T.loop (σ:=Nat) (fun i=>[(1,.int .u8 m),(5,.pointer (some ⟨b5,0,none⟩)),(6,str t),(8,str (wide t)),(10,.pointer (some ⟨b10,0,none⟩)),(36,.slice (some ⟨A,0,none⟩) (aY 10 t).length cap),(37,.int .i64 (aY 10 t).length),(38,.int .i64 i)]) (fun i w'=>i≤(aY 10 t).length∧Ext w35 w'∧Bld w35.heap.size b10 (gq m ((aY 10 t).take i)) w') (fun i=>(aY 10 t).length-i) (0) ⟨rfl,rfl,rfl,rfl,rfl,rfl,rfl,rfl,trivial⟩ ⟨Nat.zero_le _,fZ,hb0⟩ ?_
 rintro i w11 ⟨hi,dQ,XA⟩
 refine T.q (L.o (O.bH rfl rfl (fun hlt=>?_) (fun hlt=>?_)))
 ·refine L.nil (?_)
  have hlt':i<(aY 10 t).length:=by omega
  have hsn:gq m ((aY 10 t).take (i+1))=gq m ((aY 10 t).take i)++seg (m+i) ((aY 10 t).getD i []):=by
   rw [List.take_succ_eq_append_getElem hlt',zB,au hlt',List.length_take,Nat.min_eq_left (by omega)]
  have alo:(gq m ((aY 10 t).take (i+1))).length≤1000000:=by
   have h1:=zD ((aY 10 t).take (i+1)) m
   have h2:=Ew (aY 10 t) (i+1)
   rw [uO] at h2
   rw [List.length_take] at h1
   omega
  rw [hsn,List.length_append,seg,List.length_append,List.length_append,List.length_replicate,List.length_replicate] at alo
  refine T.seq (T.ct (T.skip (T.seq (T.block (T.q (L.m rfl (L.o (O.indexAddr runUnderlying61 sizeOf9 rfl rfl (hSt.ext dQ) (by omega) (by omega) (L.o (O.load isAgg9 rfl ((hSt.ext dQ).at hlt') (L.a rfl (L.a rfl (L.nil (T.q (L.m rfl (L.m rfl (L.o (O.fA rfl (fun w=>⟨_,runUnderlying5 w⟩) runUnderlying3 (IntWalk.i64_in _ ⟨by omega,by omega⟩) (L.o (O.aH rfl rfl (by omega) (L.o (O.rem rfl rfl (by omega) (by omega) (?_)))))))))))))))))))))))
  rw [show ((i:Int)+(m:Int)) % 3=(((m+i) % 3:Nat):Int) by omega]
  refine L.o (O.call (xs:=[_,.tmp 47]) call15 rfl rfl (vC [32] ((m+i) % 3) w11 (by omega) (by show 1*_≤_;omega)) (fun v48 w48 hq=>?_))
  obtain ⟨rfl,Ql⟩:=hq
  rw [Ud]
  refine L.o (O.call (xs:=[.tmp 10,.tmp 48]) call25 rfl rfl (LM w35.heap.size b10 (gq m ((aY 10 t).take i)) (List.replicate ((m+i) % 3) 32) w48 (XA.ext Ql) (by rw [List.length_replicate];omega) (dQ.trans Ql).size) (fun v49 w49 hq=>?_))
  obtain ⟨rfl,alp,alq⟩:=hq
  have Xq:=Ext.iL (dQ.trans Ql) alq
  refine L.nil (T.q (L.m rfl (L.o (O.call (xs:=[.tmp 10,.tmp 50]) call25 rfl rfl (LM w35.heap.size b10 _ ((aY 10 t).getD i []) w49 alp (by rw [List.length_append,List.length_replicate];omega) Xq.size) (fun v51 w51 hq=>?_)))))
  obtain ⟨rfl,alr,als⟩:=hq
  have ahT:=Ext.iL Xq als
  refine L.nil (T.region (L.m rfl (L.m rfl (L.o (O.fA rfl (fun w=>⟨_,runUnderlying5 w⟩) runUnderlying3 (IntWalk.i64_in _ ⟨by omega,by omega⟩) (L.o (O.aH rfl rfl (by omega) (L.o (O.rem rfl rfl (by omega) (by omega) (?_))))))))))
  rw [show ((i:Int)+(m:Int)) % 2=(((m+i) % 2:Nat):Int) by omega]
  refine L.o (O.call (xs:=[_,.tmp 56]) call15 rfl rfl (vC [10] ((m+i) % 2) w51 (by omega) (by show 1*_≤_;omega)) (fun v57 w57 hq=>?_))
  obtain ⟨rfl,zX⟩:=hq
  rw [Ud]
  refine L.o (O.call (xs:=[.tmp 10,.tmp 57]) call25 rfl rfl (LM w35.heap.size b10 _ (List.replicate ((m+i) % 2) 10) w57 (alr.ext zX) (by simp only [List.length_append,List.length_replicate];omega) (ahT.trans zX).size) (fun v58 w58 hq=>?_))
  obtain ⟨rfl,aaY,alu⟩:=hq
  have U9:=Ext.iL (ahT.trans zX) alu
  refine L.nil (T.blk (T.region (L.o (O.aH rfl rfl (by omega) (L.m rfl (L.nil (T.again (i+1) (by omega) ⟨rfl,rfl,rfl,rfl,rfl,rfl,rfl,rfl,trivial⟩ ⟨hlt',U9,by rw [hsn,seg,← List.append_assoc,← List.append_assoc];exact aaY⟩)))))))
 refine L.nil (?_)
 obtain rfl:i=(aY 10 t).length:=by omega
 rw [List.take_length] at XA
 have agx:=ahS.trans dQ
 refine T.seq (T.cf (T.exit rfl (T.seq (T.q (L.m rfl (L.o (O.call (xs:=[.tmp 10]) call26 rfl rfl (Gs w35.heap.size b10 _ w11 XA dQ.size) (fun v61 w61 hq=>?_))))))))
 obtain ⟨rfl,alv⟩:=hq
 have ahU:=Ext.iL dQ alv
 have alx:=ahS.trans ahU
 obtain ⟨u,hu⟩:∃ u,t=u ++ [10]:=⟨_,by rw [ht];exact WX c r⟩
 refine L.m rfl (L.o (O.call (xs:=[.tmp 62,_]) call27 rfl rfl (jf t [10] w61 (by omega)) (fun v63 w63 hq=>?_)))
 obtain ⟨rfl,rfl⟩:=hq
 rw [show Lib.trimSuffix t [10]=u from by rw [hu];exact MH u [10]]
 refine L.m rfl (L.o (O.iY rfl rfl (by show t.length+3≤_;omega) (L.o (O.buildSlice (el:=9) (parts:=[(0,.tmp 60),(1,.tmp 61),(2,.tmp 63),(3,.tmp 65)]) (vs:=[(0,_),(1,_),(2,_),(3,_)]) (cs:=((Ey m t u).map str)) rfl (fun w=>by kernel_rfl) (fun b66 w66 ajM ajN abP ae4=>?_)))))
 have hF:Strs 0 w66 (.slice (some ⟨b66,0,none⟩) 4 4) (Ey m t u):=Strs.aA ae4 rfl (by decide) (Nat.zero_le _)
 have hFl:(Ey m t u).length=4:=rfl
 have ahV:=alx.trans abP
 have agi:Ext w6 w66:=(((wW.trans Uh).trans Jh).trans ahU).trans abP
 have aly:∀ x∈Ey m t u,nz (jR x)=nz (jR (ay (bI c r)))∧x.length≤1000000:=by subst ht;exact WW hWr hu hsm
 refine L.o (O.len runUnderlying61 rfl (Sl.val hF) (L.m rfl (L.nil (T.block (?_)))))
 refine T.loop (σ:=Nat) (fun i=>[(5,.pointer (some ⟨b5,0,none⟩)),(6,str t),(66,.slice (some ⟨b66,0,none⟩) 4 4),(67,.int .i64 4),(68,.int .i64 i)]) (fun i w'=>i≤4∧Ext w66 w') (fun i=>4-i) (0) ⟨rfl,rfl,rfl,rfl,rfl,trivial⟩ ⟨Nat.zero_le _,Keep.refl _ _⟩ ?_
 rintro i w18 ⟨hi4,kV⟩
 refine T.q (L.o (O.bH rfl rfl (fun hlt4=>?_) (fun hlt4=>?_)))
 ·refine L.nil (?_)
  have hlt':i<4:=by omega
  obtain ⟨x,hx⟩:∃ x,x=(Ey m t u).getD i []:=⟨_,rfl⟩
  have hmem:x∈Ey m t u:=by rw [hx,au (by omega)];exact List.getElem_mem _
  obtain ⟨hx1,hx2⟩:=aly x hmem
  refine T.seq (T.ct (T.skip (T.seq (T.block (T.q (L.o (O.indexAddr runUnderlying61 sizeOf9 rfl rfl (hF.ext kV) (by omega) (by omega) (L.o (O.load isAgg9 rfl (hx▸(hF.ext kV).at (show i<(Ey m t u).length by omega)) (L.a rfl (L.nil (T.seq (T.q (L.m rfl (L.o (O.fB runUnderlying9 rfl (L.o (O.jM rfl rfl (fun hxb=>?_) (fun hxb=>?_)))))))))))))))))))
  ·refine L.nil (T.ct (T.exit rfl (T.region (L.o (O.aH rfl rfl (by omega) (L.m rfl (L.nil (T.again (i+1) (by omega) ⟨rfl,rfl,rfl,rfl,rfl,trivial⟩ ⟨hlt',kV⟩))))))))
  refine L.nil (?_)
  have hpx:=hWr.parse (t:=x) (by omega) hx1
  have acF:=ahV.trans kV
  refine T.cf (T.skip (T.q (L.m rfl (L.o (O.call (xs:=[.tmp 76]) call21 rfl rfl (qg x w18 (hL.ext acF) (by omega)) (fun v77 w77 hq=>?_))))))
  obtain ⟨Z9,ahW⟩:=hq
  rw [hpx] at ahW
  obtain ⟨c2,r2,rfl,hc2,hr2,hs2⟩:=ahW
  refine L.m rfl (L.o (O.extract rfl rfl (L.o (O.extract rfl rfl (L.o (O.extract rfl rfl (L.o (O.alloc zeroValue48 (fun b15 w15 ag4 Yk jh zZ=>?_)))))))))
  refine L.o (O.aF sizeOf48 rfl rfl rfl zZ (Nat.le_refl _) (nS hc2 hr2) (fun w16 xQ EH=>?_))
  replace xQ:Upd b15 w15 w16:=xQ
  have alz:Blk w16 b15 (fG c2 r2) 48:=EH
  have uX:Ext w77 w16:=jh.upd xQ (.inr (by omega))
  have ZI:=(agi.trans kV).trans (Z9.trans uX)
  refine L.a rfl (L.a rfl (L.nil (T.q (L.m rfl (L.o (O.o8 rfl rfl rfl (L.m rfl (L.m rfl (L.o (O.o8 rfl rfl rfl (L.o (O.aj rfl rfl (L.m rfl (L.o (O.ak isAgg48 sizeOf48 rfl rfl (Row.aA (Blk.ext hX6 ZI)) (L.o (O.ak isAgg48 sizeOf48 rfl rfl (Row.aA alz) (L.o (O.call (xs:=[.tmp 88,.tmp 89]) call28 rfl rfl (MF _ _ c c2 r r2 (Ei c r) w16 (hc6.ext ZI) (hr6.ext ZI) (hc2.ext uX) (hr2.ext uX) (BP c r) hs2 (Kr hbad)) (fun v90 w90 hq=>?_))))))))))))))))))))
  obtain ⟨rfl,tX⟩:=hq
  refine L.o (O.not rfl (L.o (O.aj rfl rfl (L.nil (T.cf (T.skip (T.blk (T.region (L.o (O.aH rfl rfl (by omega) (L.m rfl (L.nil (T.again (i+1) (by omega) ⟨rfl,rfl,rfl,rfl,rfl,trivial⟩ ⟨hlt',kV.trans ((Z9.trans uX).trans tX)⟩)))))))))))))
 refine L.nil (?_)
 have acF:=ahV.trans kV
 refine T.seq (T.cf (T.exit rfl (T.seq (T.q (L.m rfl (L.o (O.fB runUnderlying9 rfl (L.o (O.jM rfl rfl (fun hfew=>?_) (fun hfew=>?_))))))))))
 ·refine L.nil (T.ct (T.q (L.a rfl (L.nil (T.aU results4 rfl ⟨rfl,acF⟩)))))
 refine L.nil (?_)
 have am0:t.length≤39990:=by omega
 refine T.cf (T.skip (T.q (L.m rfl (L.o (O.call (xs:=[.tmp 97,_]) call29 rfl rfl (JB t 10 w18) (fun v98 w98 hq=>?_))))))
 obtain ⟨rfl,rfl⟩:=hq
 have hcnt:Lib.countByte t 10=(bI c r).length:=by rw [ht];exact vS _ (lF fun u hu=>(hWr.sp.nms u hu).2)
 rw [hcnt]
 refine L.a rfl (L.nil (T.q (L.m rfl (L.o (O.iY rfl rfl (by show t.length+4≤_;omega) (?_))))))
 have hhl:=hWr.sp
 have hnl:(bI c r).length≤1000000:=(Eo herr).lines
 refine L.m rfl (L.o (O.aH rfl rfl (by omega) (?_)))
 have hm1:BR (t ++ [101,110,100,10]) = .inr (((bI c r).length:Int)+1,5):=by
  rw [← nT];subst ht
  rw [hWr.more (by rw [List.length_append];show _+4≤_;omega)]
  rfl
 refine L.o (O.call (xs:=[.tmp 100,.tmp 102,.const (.int .i64 5)]) call17 rfl rfl (lZ (t ++ [101,110,100,10]) (((bI c r).length:Int)+1) 5 w98 (hL.ext acF) (by rw [List.length_append];show _+4≤_;omega) hm1) (fun am1 adx hq=>?_))
 obtain ⟨rfl,Sr⟩:=hq
 have acG:=acF.trans Sr
 refine L.m rfl (L.m rfl (L.o (O.call (xs:=[.tmp 105,_]) call27 rfl rfl (jf t [101,110,100,10] adx (by omega)) (fun adz alA hq=>?_))))
 obtain ⟨rfl,rfl⟩:=hq
 rw [show Lib.trimSuffix t [101,110,100,10]=ay (wG c r) from by rw [ht,Ih];exact MH _ _]
 have hhd:(ay (wG c r)).length≤40000:=by
  have:=congrArg List.length (Ih c r)
  rw [List.length_append,← ht] at this
  omega
 refine L.o (O.call (xs:=[.tmp 106,.const (.int .i64 0),.const (.int .i64 5)]) call17 rfl rfl (lZ (ay (wG c r)) 0 5 alA (hL.ext acG) (by omega) (by rw [← nT];exact hWr.less hhd)) (fun v107 alB hq=>?_))
 obtain ⟨rfl,agj⟩:=hq
 have acH:=acG.trans agj
 refine L.o (O.ah rfl rfl (L.m rfl (L.m rfl (L.o (O.iY rfl rfl (by show 4+t.length≤_;omega) (L.o (O.call (xs:=[.tmp 111,.const (.int .i64 1),.const (.int .i64 5)]) call17 rfl rfl (lZ ([101,110,100,10]++t) 1 5 alB (hL.ext acH) (by rw [List.length_append];show 4+t.length≤_;omega) (by rw [← nT];subst ht;exact hWr.first (by rw [List.length_append];show 4+_≤_;omega))) (fun aho ahp hq=>?_))))))))
 obtain ⟨rfl,agk⟩:=hq
 refine L.o (O.ah rfl rfl (L.a rfl (L.nil (T.aU results4 rfl ⟨rfl,acH.trans agk⟩))))
end Go.Proofs.YtnlonpcbgjbbaaaGreatDoor
