/-
  BlocksOver, part 19 of its proof: that it returns true for every input, and each argument reads behind the call as it read before. Conditions: the listed variables read as the program's text lays them (tied by the card).
-/
import Derived.Test.YtnlonpcbgjbbaaaGreatDoorWBlocksOver18
import Derived.Test.YtnlonpcbgjbbaaaGreatDoorWBlocksOver12
set_option linter.unusedVariables false
set_option linter.unusedSimpArgs false
set_option maxRecDepth 20000
set_option linter.unusedVariables false
set_option linter.unusedSimpArgs false
set_option maxRecDepth 20000
namespace Go.Proofs.YtnlonpcbgjbbaaaGreatDoor
open Go.Proofs.Tryz (call10 call12 call14 call24 call39 call40 call41 call46 call71 func24 func40 func8 isAgg23 isAgg25 isAgg3 isAgg4 isAgg5 isAgg51 isAgg59 isAgg9 ntmps24 ntmps40 ntmps8 results24 results40 results8 runUnderlying23 runUnderlying25 runUnderlying3 runUnderlying31 runUnderlying5 runUnderlying51 runUnderlying54 runUnderlying61 runUnderlying9 sizeOf23 sizeOf25 sizeOf3 sizeOf4 sizeOf5 sizeOf51 sizeOf59 sizeOf9 zeroValue25 zeroValue51)
open Go Go.E RowKit
attribute [local irreducible] Go.E.T Go.E.L Go.E.O Go.E.Ob

attribute [local irreducible] Go.E.ObX Go.E.ObG Go.E.ObK
/-- Divided behind each octet. -/
def afterL (d:UInt8):Str→List Str
 | []=>[[]]
 | c::r=>if c=d then [c]::afterL d r else match afterL d r with
  | []=>[[c]]
  | w::ws=>(c::w)::ws
theorem split_afterL (d:UInt8):∀ s,Lib.splitK [d] 1 (Lib.count s [d]) s=afterL d s
 | []=>by rw [Lib.count_miss (by simp [Lib.index])];rfl
 | c::r=>by
  have ih:=split_afterL d r
  by_cases hc:c=d
  ·subst hc
   rw [Lib.count_cons_eq,Nat.add_comm,Lib.splitK,idx_cons_eq,afterL,if_pos rfl,if_neg (by decide)]
   simp [ih]
  ·rw [Lib.count_cons_ne c d r hc,afterL,if_neg hc]
   by_cases hm:Lib.index r [d] = -1
   ·rw [Lib.count_miss hm] at ih ⊢
    rw [← ih];rfl
   ·have hge:=Lib.index_ge r [d]
    obtain ⟨j,hj⟩:∃ j:Nat,Lib.index r [d]=j:=⟨(Lib.index r [d]).toNat,by omega⟩
    rw [Lib.count_hit (by simp) hj,Nat.add_comm] at ih ⊢
    have hmr:¬ (Lib.index r [d] == -1)=true:=fun e=>hm (beq_iff_eq.1 e)
    have e1:Lib.index (c::r) [d]=((j+1:Nat):Int):=by rw [idx_cons_ne c d r hc,if_neg hmr,hj];omega
    have hmc:¬ (Lib.index (c::r) [d] == -1)=true:=fun e=>by have:=beq_iff_eq.1 e;omega
    rw [Lib.splitK,if_neg hmr,hj] at ih
    rw [Lib.splitK,if_neg hmc,e1,← ih]
    have e2:((j+1:Nat):Int).toNat+1=((j:Int).toNat+1)+1:=by omega
    simp [e2]
theorem splitB_after (s:Str) (d:UInt8):(Lib.splitB ⟨#[d]⟩ 1 (Lib.countB ⟨s.toArray⟩ ⟨#[d]⟩) ⟨s.toArray⟩).map (·.data.toList)=afterL d s:=by
 rw [Lib.splitB_data]
 exact split_afterL d s
theorem afterL_pre {d:UInt8} {t:Str} : ∀ {w:Str},d∉w→afterL d (w++d::t)=(w ++ [d])::afterL d t
 | [],_=>by
  show afterL d (d::t)=_
  unfold afterL
  rw [if_pos rfl]
  cases t <;> rfl
 | c::r,hw=>by
  have hc:¬ c=d:=fun e=>hw (by rw [e];exact List.mem_cons_self ..)
  show afterL d (c::(r++d::t))=_
  rw [afterL,if_neg hc,afterL_pre (fun h=>hw (List.mem_cons_of_mem _ h))]
  rfl
theorem after_joined:∀ ls:List Str,(∀ l∈ls,(10:UInt8)∉l)→afterL 10 (joinedL ls)=ls.map (· ++ [10]) ++ [[]]
 | [],_=>rfl
 | l::r,h=>by
  have e:joinedL (l::r)=l++10::joinedL r:=by simp [joinedL]
  rw [e,afterL_pre (h l (List.mem_cons_self ..)),after_joined r (fun x hx=>h x (List.mem_cons_of_mem _ hx))];rfl
open Go Go.E RowKit

theorem goodC_dig {n:Nat} (h:n<10):goodC (UInt8.ofNat (48+n))=true:=by
 rw [good_iff,UInt8.toNat_ofNat_of_lt' (by show _<256;omega)];omega
theorem dNm_ok {i:Nat} (h:i<100):nameOk (dNm i)=true:=by
 have h1:=goodC_dig (n:=i / 10) (by omega)
 have h2:=goodC_dig (n:=i % 10) (by omega)
 simp only [nameOk,dNm,dig2,List.singleton_append,List.all_cons,List.all_nil,h1,h2,Bool.and_true,List.length_cons,List.length_nil]
 rfl
theorem dNm_inj {i j:Nat} (hi:i<100) (hj:j<100) (h:dNm i=dNm j):i=j:=by
 simp only [dNm,dig2,List.singleton_append,List.cons.injEq,and_true,true_and] at h
 have h1:=congrArg UInt8.toNat h.1
 have h2:=congrArg UInt8.toNat h.2
 rw [UInt8.toNat_ofNat_of_lt' (by show _<256;omega),UInt8.toNat_ofNat_of_lt' (by show _<256;omega)] at h1 h2
 omega
theorem dP_le {d:Dr} {n i:Nat} (hn:∀ j,j<d.ns.length→0≤d.ns.getD j 0∧d.ns.getD j 0≤65535):0≤dP d n i∧dP d n i≤65535:=by
 unfold dP
 have:=numD_le hn i
 split <;> omega
/-- A drafted roll is valid. -/
theorem drafted_right {d:Dr} {n i:Nat} {r:RoV} (h:Drafted d n r) (hn:∀ j,j<d.ns.length→0≤d.ns.getD j 0∧d.ns.getD j 0≤65535) (hg:Low8 d.g) (hp:Low8 d.p) (hl:Low8 d.l) (hi:i<n):rightOk r (r.us.getD i u0)=true:=by
 have u:=h.u i hi
 have h24:=h.n2
 unfold Low8 at hg hp hl
 have hdp:=dP_le (n:=n) (i:=i) hn
 have e1:r.G=d.g % 3:=h.g
 have e2:r.P=d.p % 4:=h.p
 have e3:r.L=d.l % 4:=h.l
 have hvm:votesMax (r.us.getD i u0)=if dWt d n i then 0 else 1000000000:=by rw [votesMax,u.wt]
 have hpm:parMax (r.us.getD i u0)=if dWt d n i then 0 else 63:=by rw [parMax,u.wt]
 have hpw:dWt d n i=true→dP d n i=0:=fun hw=>by rw [dP,hw];rfl
 rw [right_iff,u.nm,u.pp,u.gs,u.vs,u.ps,hvm,hpm]
 refine ⟨dNm_ok (by omega),hdp.1,?_,?_,?_,?_⟩
 ·split
  ·rename_i hw;rw [hpw hw];exact Int.le_refl _
  ·omega
 ·refine within_iff.2 ⟨by rw [dList_len];omega,fun j hj=>?_⟩
  rw [dList_len] at hj
  rw [dList_get hj,dG1]
  have:=Int.emod_nonneg (numD d.ns (3*i+j+1)) (show dP d n i+1≠0 by omega)
  have:=Int.emod_lt_of_pos (numD d.ns (3*i+j+1)) (show 0<dP d n i+1 by omega)
  omega
 ·refine within_iff.2 ⟨by rw [dList_len];omega,fun j hj=>?_⟩
  rw [dList_len] at hj
  rw [dList_get hj,dV1]
  have:=numD_le hn (5*i+j+2)
  split <;> omega
 ·refine within_iff.2 ⟨by rw [dList_len];omega,fun j hj=>?_⟩
  rw [dList_len] at hj
  rw [dList_get hj,dL1]
  split
  ·omega
  ·have h1:(numD d.ns (i+11) % 16).toNat≤15:=by omega
   have h2:=Nat.div_le_self (numD d.ns (i+11) % 16).toNat (2 ^ j)
   obtain ⟨q,hq⟩:∃ q:Nat,q=(numD d.ns (i+11) % 16).toNat / 2 ^ j:=⟨_,rfl⟩
   rw [← hq] at h2 ⊢
   omega
theorem dWater_lt {d:Dr} {n:Nat} (hn:1≤n) (ha:Low8 d.wa):0≤dWater d n∧dWater d n<n:=by
 unfold Low8 at ha
 unfold dWater
 have:=Int.emod_nonneg d.wa (show ((n / 3+1:Nat):Int)≠0 by omega)
 have:=Int.emod_lt_of_pos d.wa (show (0:Int)<((n / 3+1:Nat):Int) by omega)
 omega
theorem drafted_ok {d:Dr} {n:Nat} {r:RoV} (h:Drafted d n r) (hn:∀ j,j<d.ns.length→0≤d.ns.getD j 0∧d.ns.getD j 0≤65535) (hg:Low8 d.g) (hp:Low8 d.p) (hl:Low8 d.l) (ha:Low8 d.wa):RollOk r:=by
 have h1:=h.n1
 have h24:=h.n2
 have hlen:=h.len
 have hw:=dWater_lt h1 ha
 have hg':=hg
 have hp':=hp
 have hl':=hl
 unfold Low8 at hg' hp' hl'
 refine ⟨bnd_iff.2 ⟨by rw [h.g];omega,by rw [h.g];omega,by rw [h.p];omega,by rw [h.p];omega,by rw [h.l];omega,by rw [h.l];omega,by omega,by omega⟩,fun j hj=>?_⟩
 have uj:=h.u j (by omega)
 refine ⟨drafted_right h hn hg hp hl (by omega),fun k hk e=>?_,fun k hk hkw=>?_,fun e=>?_⟩
 ·have uk:=h.u k (by omega)
  rw [uk.nm,uj.nm] at e
  have:=dNm_inj (by omega) (by omega) e
  omega
 ·have uk:=h.u k (by omega)
  rw [uk.wt,dWt,decide_eq_true_eq] at hkw
  rw [uj.wt,dWt,decide_eq_true_eq];omega
 ·subst e
  rw [uj.wt,dWt,decide_eq_false_iff_not];omega
theorem drafted_roll {d:Dr} {n lo:Nat} {r:RoV} {w:World} (h:Drafted d n r) (hd:d.ok lo w):RollOk r:=drafted_ok h hd.nl hd.g0 hd.p0 hd.l0 hd.a0
open Go Go.E RowKit

theorem splitK_len (sep:Str) (sv:Nat):∀ (k:Nat) (s:Str),(Lib.splitK sep sv k s).length≤k+1
 | 0,s=>by simp [Lib.splitK]
 | k+1,s=>by
  unfold Lib.splitK
  split
  ·simp
  ·have:=splitK_len sep sv k (s.drop ((Lib.index s sep).toNat+sep.length))
   simp only [List.length_cons];omega
theorem size_of (s:Str):(⟨s.toArray⟩:ByteArray).size=s.length:=by simp [ByteArray.size]
theorem genSplit_calls (s:Str) (w:World) (hL:LibM w) (hs:s.length≤1000000):Calls Tryz.prog 71 #[str s,str [10],.int .i64 1,.int .i64 (-1)] w (Ret fun v w'=>∃ A cap,v = .slice (some ⟨A,0,none⟩) (afterL 10 s).length cap∧w.heap.size≤A∧(∃ cs,Blk w' A cs 9∧cs.length=cap∧cap≤maxLen∧(afterL 10 s).length≤cap∧cs.take (afterL 10 s).length=(afterL 10 s).map str)∧Ext w w'):=by
 obtain ⟨m,hm⟩:=hL.mx
 have hz:=size_of s
 have hc:=Lib.countB_le ⟨#[10]⟩ (by decide) s.length ⟨s.toArray⟩ (by omega)
 have hsp:=splitB_after s 10
 have hlen:(Lib.splitB ⟨#[10]⟩ 1 (Lib.countB ⟨s.toArray⟩ ⟨#[10]⟩) ⟨s.toArray⟩).length=(afterL 10 s).length:=by rw [← hsp,List.length_map]
 have hmap:(Lib.splitB ⟨#[10]⟩ 1 (Lib.countB ⟨s.toArray⟩ ⟨#[10]⟩) ⟨s.toArray⟩).map Value.string=(afterL 10 s).map str:=by
  rw [← hsp,List.map_map]
  exact List.map_congr_left fun x _=>rfl
 have hk:(afterL 10 s).length≤Lib.countB ⟨s.toArray⟩ ⟨#[10]⟩+1:=by
  rw [← split_afterL]
  exact splitK_len _ _ _ _
 refine (Tryz.strings_genSplit ⟨s.toArray⟩ ⟨#[10]⟩ 1 (-1) (Lib.countB ⟨s.toArray⟩ ⟨#[10]⟩+1) m w (by omega) hm (by decide) (by decide) (by decide) (by decide) (by rw [if_pos (by decide)];omega)).mono ?_
 rintro e w' ⟨rfl,rfl⟩
 rw [Nat.add_sub_cancel]
 have hcell:(Lib.cellsOf (Lib.splitB ⟨#[10]⟩ 1 (Lib.countB ⟨s.toArray⟩ ⟨#[10]⟩) ⟨s.toArray⟩) (Lib.countB ⟨s.toArray⟩ ⟨#[10]⟩+1)).toList=(afterL 10 s).map str++List.replicate (Lib.countB ⟨s.toArray⟩ ⟨#[10]⟩+1-(afterL 10 s).length) (Value.string ByteArray.empty):=by
  rw [← hmap,← hlen];rfl
 refine ⟨w.heap.size,Lib.countB ⟨s.toArray⟩ ⟨#[10]⟩+1,by rw [hlen],Nat.le_refl _,⟨(afterL 10 s).map str++List.replicate (Lib.countB ⟨s.toArray⟩ ⟨#[10]⟩+1-(afterL 10 s).length) (Value.string ByteArray.empty),?_,?_,by simp only [maxLen];omega,hk,?_⟩,?_⟩
 ·unfold Blk
  rw [← hcell,Array.toArray_toList]
  exact Array.getElem?_push_size ..
 ·simp;omega
 ·rw [List.take_append_of_le_length (by simp),List.take_of_length_le (by simp)]
 ·exact Keep.alloc 0 w _
theorem splitAfter_calls (s:Str) (w:World) (hL:LibM w) (hs:s.length≤1000000) :
  Calls Tryz.prog 24 #[str s,str [10]] w (Ret fun v w'=>∃ A cap,v = .slice (some ⟨A,0,none⟩) (afterL 10 s).length cap∧w.heap.size≤A∧(∃ cs,Blk w' A cs 9∧cs.length=cap∧cap≤maxLen∧(afterL 10 s).length≤cap∧cs.take (afterL 10 s).length=(afterL 10 s).map str)∧Ext w w'):=by
 refine T.enter (vs:=[str s,str [10]]) func24 rfl ntmps24 rfl ?_
 refine T.q (L.a rfl (L.nil (T.q (L.m rfl (L.m rfl (L.m rfl (L.o (O.len_str runUnderlying9 rfl (L.o (O.call (xs:=[.tmp 5,.tmp 6,.tmp 8,.const (.int .i64 (-1))]) call71 rfl rfl (genSplit_calls s w hL hs) (fun v9 w9 hq=>?_)))))))))))
 obtain ⟨A,cap,rfl,hA,hC,he⟩:=hq
 refine L.a rfl (L.nil (T.ret1 results24 rfl ⟨A,cap,rfl,hA,hC,he⟩))

open Go Go.E RowKit

theorem dig_of {d:Nat} (hd:d<8):(UInt8.ofNat (49+d)).toNat=49+d:=by rw [UInt8.toNat_ofNat'];omega
theorem cut_line {s:Str} {d:Nat} (h:(44:UInt8)∉s) (hd:d<8):Lib.cut (s ++ [44]++Lib.itoa ((d:Int)+1)) [44]=(s,[UInt8.ofNat (49+d)],true):=by
 rw [itoa_one hd,List.append_assoc,List.singleton_append,cut_yes h]
/-- Names without a comma and an end, and numbers below 8. -/
structure LineOk (nm:Nat→Str) (n:Nat) (qs:List Int):Prop where
 ok:NmOk nm n
 nl:∀ i,i<n→(10:UInt8)∉nm i
 sh:∀ i,i<n→(nm i).length≤12
 few:n≤64
 q:∀ i,i<n→∃ d:Nat,d<8∧qs.getD i 0=(d:Int)
theorem stepA_line {nm:Nat→Str} {n i:Nat} {qs pl:List Int} {kv:List (Str × Nat)} (h:LineOk nm n qs) (hi:i<n) (hg:getG kv (nm i)=some i):stepA (false,kv,pl) (lineA nm qs i)=some (false,delG kv (nm i),pl.set i (qs.getD i 0)):=by
 obtain ⟨d,hd,e⟩:=h.q i hi
 have hv:=dig_of hd
 unfold lineA stepA
 simp only []
 rw [e,cut_line (h.ok.comma i hi) hd]
 simp only []
 rw [hg]
 simp only []
 rw [if_pos ⟨rfl,by simp only [List.getD_cons_zero,hv];omega,by simp only [List.getD_cons_zero,hv];omega⟩]
 simp only [List.getD_cons_zero,hv]
 congr 4
 omega
theorem stepA_gone {nm:Nat→Str} {n i:Nat} {qs pl:List Int} {kv:List (Str × Nat)} (h:LineOk nm n qs) (hi:i<n) (hg:getG kv (nm i)=none):stepA (false,kv,pl) (lineA nm qs i)=none:=by
 obtain ⟨d,hd,e⟩:=h.q i hi
 unfold lineA stepA
 simp only []
 rw [e,cut_line (h.ok.comma i hi) hd]
 simp only []
 rw [hg]
def setAll (qs:List Int) (pl:List Int) (is:List Nat):List Int:=is.foldl (fun p i=>p.set i (qs.getD i 0)) pl
theorem setAll_len (qs:List Int):∀ (is:List Nat) (pl:List Int),(setAll qs pl is).length=pl.length
 | [],pl=>rfl
 | i::is,pl=>by
  show (setAll qs (pl.set i (qs.getD i 0)) is).length=_
  rw [setAll_len qs is,List.length_set]
theorem setAll_get (qs:List Int) (j:Nat):∀ (is:List Nat) (pl:List Int),(∀ i∈is,i<pl.length)→(setAll qs pl is).getD j 0=if j∈is then qs.getD j 0 else pl.getD j 0
 | [],pl,_=>by simp [setAll]
 | i::is,pl,h=>by
  show (setAll qs (pl.set i (qs.getD i 0)) is).getD j 0=_
  rw [setAll_get qs j is _ (fun k hk=>by rw [List.length_set];exact h k (List.mem_cons_of_mem _ hk)),getD_set']
  by_cases hj:j∈is
  ·rw [if_pos hj,if_pos (List.mem_cons_of_mem _ hj)]
  ·rw [if_neg hj]
   by_cases e:i=j
   ·subst e
    rw [if_pos ⟨rfl,h i (List.mem_cons_self ..)⟩,if_pos (List.mem_cons_self ..)]
   ·rw [if_neg (fun x=>e x.1),if_neg (fun x=>by
     rcases List.mem_cons.1 x with x|x
     ·exact e x.symm
     ·exact hj x)]
theorem nm_ne {nm:Nat→Str} {n i j:Nat} (h:NmOk nm n) (hi:i<n) (hj:j<n) (e:i≠j):nm i≠nm j:=by
 rcases Nat.lt_or_gt_of_ne e with h1|h1
 ·exact h.diff i j h1 hj
 ·exact Ne.symm (h.diff j i h1 hi)
theorem run_lines {nm:Nat→Str} {n:Nat} {qs:List Int} (h:LineOk nm n qs):∀ (is:List Nat) (kv:List (Str × Nat)) (pl:List Int) (k:Nat),(kv.map (·.1)).Nodup→is.Nodup→(∀ i∈is,i<n∧getG kv (nm i)=some i) →
  ∃ kv',runL stepA (false,kv,pl) (is.map (lineA nm qs)) k = .inl (false,kv',setAll qs pl is)∧∀ i∈is,getG kv' (nm i)=none
 | [],kv,pl,k,_,_,_=>⟨kv,rfl,fun i hi=>by cases hi⟩
 | i::is,kv,pl,k,hd,hn,hi=>by
  obtain ⟨hi1,hi2⟩:=hi i (List.mem_cons_self ..)
  have hnn:=List.nodup_cons.1 hn
  have hd2:((delG kv (nm i)).map (·.1)).Nodup:=(delG_keys kv (nm i)).nodup hd
  have hrest:∀ j∈is,j<n∧getG (delG kv (nm i)) (nm j)=some j:=fun j hj=>by
   obtain ⟨h1,h2⟩:=hi j (List.mem_cons_of_mem _ hj)
   refine ⟨h1,?_⟩
   rw [getG_del kv (nm i) (nm j) hd,if_neg (nm_ne h.ok h1 hi1 (fun e=>hnn.1 (e▸hj))),h2]
  obtain ⟨kv',h1,h2⟩:=run_lines h is (delG kv (nm i)) (pl.set i (qs.getD i 0)) (k+1) hd2 hnn.2 hrest
  have hmono:∀ (is:List Nat) (kv:List (Str × Nat)) (pl:List Int) (k:Nat) (kv':List (Str × Nat)) (pl':List Int),(kv.map (·.1)).Nodup→(∀ j∈is,j<n)→runL stepA (false,kv,pl) (is.map (lineA nm qs)) k = .inl (false,kv',pl')→getG kv (nm i)=none→getG kv' (nm i)=none:=by
   intro is
   induction is with
   | nil=>intro kv pl k kv' pl' _ _ e hg;simp only [List.map_nil,runL] at e;cases e;exact hg
   | cons j is ih =>
    intro kv pl k kv' pl' hd hlt e hg
    rw [List.map_cons,runL] at e
    cases hj:getG kv (nm j) with
    | none=>rw [stepA_gone h (hlt j (List.mem_cons_self ..)) hj] at e;cases e
    | some v =>
     obtain ⟨d,hd8,eq⟩:=h.q j (hlt j (List.mem_cons_self ..))
     have hs:∃ pl2,stepA (false,kv,pl) (lineA nm qs j)=some (false,delG kv (nm j),pl2):=by
      have hv:=dig_of hd8
      unfold lineA stepA
      simp only []
      rw [eq,cut_line (h.ok.comma j (hlt j (List.mem_cons_self ..))) hd8]
      simp only []
      rw [hj]
      simp only []
      rw [if_pos ⟨rfl,by simp only [List.getD_cons_zero,hv];omega,by simp only [List.getD_cons_zero,hv];omega⟩]
      exact ⟨_,rfl⟩
     obtain ⟨pl2,hs⟩:=hs
     rw [hs] at e
     refine ih (delG kv (nm j)) pl2 (k+1) kv' pl' ((delG_keys kv (nm j)).nodup hd) (fun x hx=>hlt x (List.mem_cons_of_mem _ hx)) e ?_
     rw [getG_del kv (nm j) (nm i) hd]
     split
     ·rfl
     ·exact hg
  refine ⟨kv',?_,fun j hj=>?_⟩
  ·rw [List.map_cons,runL,stepA_line h hi1 hi2]
   exact h1
  ·rcases List.mem_cons.1 hj with rfl|hj
   ·exact hmono is _ _ _ _ _ hd2 (fun x hx=>(hrest x hx).1) h1 (by rw [getG_del kv (nm j) (nm j) hd,if_pos rfl])
   ·exact h2 j hj
theorem line_free {nm:Nat→Str} {n i:Nat} {qs:List Int} (h:LineOk nm n qs) (hi:i<n):(10:UInt8)∉lineA nm qs i∧(lineA nm qs i).length≤14:=by
 obtain ⟨d,hd,e⟩:=h.q i hi
 have hs:=h.sh i hi
 unfold lineA
 rw [e,itoa_one hd]
 refine ⟨fun hm=>?_,by simp only [List.length_append,List.length_cons,List.length_nil];omega⟩
 rcases List.mem_append.1 hm with hm|hm
 ·rcases List.mem_append.1 hm with hm|hm
  ·exact h.nl i hi hm
  ·exact absurd hm (by decide)
 ·have:=List.mem_singleton.1 hm
  have hv:=congrArg UInt8.toNat this
  rw [dig_of hd] at hv
  have:(10:UInt8).toNat=10:=rfl
  omega
theorem body_joined {ls:List Str} (h:ls ≠ []) (hf:∀ l∈ls,(10:UInt8)∉l):wordsL 10 (bodyL (joinedL ls))=ls:=by
 obtain ⟨u,hu⟩:∃ u,joinedL ls=u ++ [10]:=by
  refine ⟨joinedL ls.dropLast++ls.getLast h,?_⟩
  conv=>lhs;rw [← List.dropLast_concat_getLast h]
  rw [joined_app,List.append_assoc]
  simp [joinedL]
 rw [bodyL_suf u hu]
 have h1:=words_joined ls hf
 have h2:wordsL 10 (u ++ [10])=wordsL 10 u ++ [[]]:=wordsL_app 10 [] u
 rw [hu,h2] at h1
 exact List.append_cancel_right h1
theorem short_lines {nm:Nat→Str} {n:Nat} {qs:List Int} (h:LineOk nm n qs) {is:List Nat} (hi:∀ i∈is,i<n) (hl:is.length≤100):(joinedL (hdrL::is.map (lineA nm qs))).length≤40000∧∀ l∈hdrL::is.map (lineA nm qs),(10:UInt8)∉l:=by
 have hm:∀ l∈hdrL::is.map (lineA nm qs),(10:UInt8)∉l∧l.length≤14:=fun l hl=>by
  rcases List.mem_cons.1 hl with rfl|hl
  ·exact ⟨by decide,by decide⟩
  ·obtain ⟨i,hi2,rfl⟩:=List.mem_map.1 hl
   exact line_free h (hi i hi2)
 have:=joined_le fun l hl=>(hm l hl).2
 simp only [List.length_cons,List.length_map] at this
 exact ⟨by omega,fun l hl=>(hm l hl).1⟩
theorem asg_lines {nm:Nat→Str} {n:Nat} {qs xs:List Int} (h:LineOk nm n qs) (hx:xs.length=n) {is:List Nat} (hn:is.Nodup) (hi:∀ i∈is,i<n) (hl:is.length≤100):asgRes nm xs (joinedL (hdrL::is.map (lineA nm qs)))=(setAll qs xs is,0,0):=by
 obtain ⟨h1,h2⟩:=short_lines h hi hl
 obtain ⟨kv',h3,_⟩:=run_lines h is (keysA nm n) xs 2 (keysA_nodup h.ok) hn (fun i hi2=>⟨hi i hi2,keysA_get h.ok i (hi i hi2)⟩)
 have hs:stepA (true,keysA nm xs.length,xs) hdrL=some (false,keysA nm n,xs):=by rw [hx];simp [stepA]
 rw [asgRes,if_neg (by omega),body_joined (by simp) h2,runL,hs]
 simp only []
 rw [h3]
/-- A line that comes twice is wrong. -/
theorem asg_twice {nm:Nat→Str} {n i:Nat} {qs xs:List Int} (h:LineOk nm n qs) (hx:xs.length=n) (hi:i<n):asgRes nm xs (joinedL (hdrL :: [i,i].map (lineA nm qs)))=([],3,5):=by
 obtain ⟨h1,h2⟩:=short_lines h (is:=[i,i]) (fun j hj=>by simp at hj;omega) (by simp)
 have hg:=keysA_get h.ok i hi
 have hd:=keysA_nodup h.ok
 have hs:stepA (true,keysA nm xs.length,xs) hdrL=some (false,keysA nm n,xs):=by rw [hx];simp [stepA]
 have hs2:=stepA_line (pl:=xs) h hi hg
 have hs3:=stepA_gone (pl:=xs.set i (qs.getD i 0)) (kv:=delG (keysA nm n) (nm i)) h hi (by rw [getG_del _ _ _ hd,if_pos rfl])
 rw [asgRes,if_neg (by omega),body_joined (by simp) h2,runL,hs]
 simp only [List.map_cons,List.map_nil]
 rw [runL,hs2]
 simp only []
 rw [runL,hs3]
theorem setAll_all {qs xs:List Int} {is:List Nat} (hl:qs.length=xs.length) (hi:∀ i∈is,i<xs.length) (ha:∀ j,j<xs.length→j∈is):setAll qs xs is=qs :=
 ints_ext (by rw [setAll_len,hl]) fun j hj=>by
  rw [setAll_len] at hj
  rw [setAll_get qs j is xs hi,if_pos (ha j hj)]
theorem LineOk.of_roll {r:RoV} (h:RollOk r) {n:Nat} (hn:n≤r.us.length) {qs:List Int} (hq:∀ i,i<n→∃ d:Nat,d<8∧qs.getD i 0=(d:Int)):LineOk (nmA r.us) n qs:=by
 obtain ⟨hb,hu⟩:=roll_good h
 have hr:∀ i,i<n→rightOk r (r.us.getD i u0)=true:=fun i hi=>(h.good i (by omega)).right
 refine ⟨nm_ok h hn,fun i hi hm=>?_,fun i hi=>?_,by omega,hq⟩
 ·obtain ⟨⟨_,_,k⟩,_⟩:=unit_good (hr i hi)
  exact (good_free (k _ hm)).2 rfl
 ·obtain ⟨⟨_,k,_⟩,_⟩:=unit_good (hr i hi)
  exact k
/-- A plan for a roll, from small numbers. -/
def planI (small:List Int) (i:Nat):Int:=(if 0<small.length then small.getD (i % small.length) 0 else (i:Int)) % 8
def planR (small:List Int) (n:Nat):List Int:=(List.range n).map (planI small)
theorem planR_succ (small:List Int) (n:Nat):planR small (n+1)=planR small n ++ [planI small n]:=by simp [planR,List.range_succ]
theorem planR_len (small:List Int) (n:Nat):(planR small n).length=n:=by simp [planR]
theorem planR_get {small:List Int} {n i:Nat} (h:i<n):(planR small n).getD i 0=planI small i:=by
 simp [planR,List.getD,h]
theorem planI_dig (small:List Int) (i:Nat):∃ d:Nat,d<8∧planI small i=(d:Int):=by
 unfold planI
 have h1:=Int.emod_nonneg (if 0<small.length then small.getD (i % small.length) 0 else (i:Int)) (show (8:Int)≠0 by decide)
 have h2:=Int.emod_lt_of_pos (if 0<small.length then small.getD (i % small.length) 0 else (i:Int)) (show (0:Int)<8 by decide)
 exact ⟨((if 0<small.length then small.getD (i % small.length) 0 else (i:Int)) % 8).toNat,by omega,by omega⟩
theorem planR_dig {small:List Int} {n:Nat} : ∀ i,i<n→∃ d:Nat,d<8∧(planR small n).getD i 0=(d:Int):=fun i hi=>by
 rw [planR_get hi];exact planI_dig small i
theorem fits_of {xs:List Int} {n:Nat} (hl:xs.length=n) (h:∀ i,i<n→∃ d:Nat,d<8∧xs.getD i 0=(d:Int)):fitsB xs n=true:=by
 unfold fitsB
 rw [Bool.and_eq_true,decide_eq_true_eq,List.all_eq_true]
 refine ⟨by omega,fun x hx=>?_⟩
 obtain ⟨i,hi,rfl⟩:=List.getElem_of_mem hx
 obtain ⟨d,hd,e⟩:=h i (by omega)
 rw [getD_get hi] at e
 rw [e,outD]
 simp
 omega
theorem lands_at:∀ (us:List UnV) (i:Nat),(∀ k,k<i→(us.getD k u0).wt=false)→i≤us.length→(i=us.length∨(us.getD i u0).wt=true)→landsN us=i
 | [],i,_,h,_=>by simp only [List.length_nil] at h;rw [landsN];omega
 | u::us,0,_,_,h=>by
  rcases h with h|h
  ·simp at h
  ·have h':u.wt=true:=h
   rw [landsN,h'];rfl
 | u::us,i+1,h1,h2,h3=>by
  have hu:u.wt=false:=h1 0 (by omega)
  have ih:=lands_at us i (fun k hk=>h1 (k+1) (by omega)) (by simpa using h2) (by simpa using h3)
  rw [landsN,hu,ih];rfl
open Go Go.E RowKit

theorem equalPl_yes (lo lo2:Nat) (p q:Value) (xs ys:List Int) (w:World) (hp:Ints .i64 lo w p xs) (hq:Ints .i64 lo2 w q ys) (h:xs=ys):Calls Tryz.prog 46 #[p,q] w (Ret fun v w'=>v = .bool true∧Ext w w'):=by
 refine (equalPl_calls lo lo2 p q xs ys w hp hq).mono ?_
 rintro (v|_|_) w' hh
 ·exact ⟨by rw [hh.1,decide_eq_true h],hh.2⟩
 ·exact hh
 ·exact hh
theorem plan_calls (lo lo2:Nat) (r:RoV) (q:Value) (small:List Int) (w:World) (hr:r.ok lo w) (hq:Ints .u8 lo2 w q small) (hlow:∀ j,j<small.length→Low8 (small.getD j 0)) (hfew:r.us.length≤100000) :
  Calls Tryz.prog 40 #[r.val,q] w (Ret fun v w'=>Ext w w'∧Ints .i64 0 w' v (planR small (landsN r.us))):=by
 refine T.enter (vs:=[r.val,q]) func40 rfl ntmps40 rfl ?_
 refine T.q (L.o (O.box rfl (fun b2 w2 hb2 hz2 he2 hB2=>?_)))
 have hC2:Blk w2 b2 r.cells 25:=hB2
 have hr:Units lo w r.uv r.us:=hr
 refine L.a rfl (L.nil (T.q (L.a rfl (L.nil (T.seq (T.q (L.o (O.fieldAddr runUnderlying25 rfl sizeOf23 rfl (L.o (O.load isAgg23 rfl (hC2.cell rfl) (L.o (O.len runUnderlying23 rfl (Sl.val ((hr.ext he2).sl)) (L.m rfl (L.nil (T.block (?_))))))))))))))))
 refine T.loop (σ:=Nat × Value) (fun g=>[(1,q),(5,g.2),(10,r.uv),(11,.int .i64 r.us.length),(12,.int .i64 g.1)]) (fun g W=>g.1≤r.us.length∧Ext w W∧(∀ k,k<g.1→(r.us.getD k u0).wt=false)∧W.ownsRow w.heap.size 3 1 g.2 g.1 ((planR small g.1).map (Value.int .i64))) (fun g=>r.us.length-g.1) ((0,.slice none 0 0)) ⟨rfl,rfl,rfl,rfl,rfl,trivial⟩ ⟨Nat.zero_le _,he2,fun k hk=>absurd hk (Nat.not_lt_zero _),owns_nil _ _ _ _⟩ ?_
 rintro ⟨i,lv⟩ w3 ⟨hi,he3,hdry,hO3⟩
 simp only at hi hO3 hdry
 refine T.q (L.o (O.lss_s rfl rfl (fun hlt=>?_) (fun hlt=>?_)))
 ·refine L.nil (?_)
  have hlt':i<r.us.length:=by simp only at hlt;omega
  have hU3:=hr.ext he3
  refine T.seq (T.ct (T.skip (T.seq (T.block (T.q (L.m rfl (L.o (O.indexAddr runUnderlying23 sizeOf51 rfl rfl hU3.sl (by omega) (by omega) (L.o (O.loadAgg isAgg51 sizeOf51 rfl rfl (hU3.row hlt') (L.o (O.alloc zeroValue51 (fun b7 w7 hb7 hz7 he7 hB7=>?_)))))))))))))
  refine L.a rfl (L.o (O.storeAgg sizeOf51 rfl rfl rfl hB7 (Nat.le_refl _) (hU3.at hlt').one (fun w8 hu8 hB8=>?_)))
  have hU8:Blk w8 b7 (r.us.getD i u0).cells 51:=hB8
  have he38:Ext w3 w8:=he7.upd hu8 (.inr (by omega))
  refine L.nil (T.seq (T.q (L.o (O.fieldAddr runUnderlying51 rfl sizeOf4 rfl (L.o (O.load isAgg4 rfl (hU8.cell rfl) (?_)))))))
  have hq8:=hq.ext (he3.trans he38)
  rcases hwt:(r.us.getD i u0).wt with _|_
  ·refine L.nil (?_)
   have hdry2:∀ k,k<i+1→(r.us.getD k u0).wt=false:=fun k hk ↦ by
    rcases Nat.lt_or_ge k i with h|h
    ·exact hdry k h
    ·obtain rfl:k=i:=by omega
     exact hwt
   refine T.cf (T.skip (T.q (L.m rfl (L.a rfl (L.nil (T.seq (T.q (L.m rfl (L.o (O.len runUnderlying54 rfl (Sl.val hq8) (L.o (O.gtr_s rfl rfl (fun hpos=>?_) (fun hpos=>?_)))))))))))))
   ·refine L.nil (?_)
    have hpos':0<small.length:=by omega
    have hmod:=Nat.mod_lt i hpos'
    have hlw:=hlow (i % small.length) hmod
    unfold Low8 at hlw
    refine T.ct (T.region (L.m rfl (L.m rfl (L.m rfl (L.o (O.len runUnderlying54 rfl (Sl.val hq8) (L.o (O.rem rfl rfl (by simp only;omega) (by omega) (?_)))))))))
    rw [show ((i:Int)) % ((small.length:Nat):Int)=((i % small.length:Nat):Int) from (Int.natCast_emod _ _).symm]
    refine L.o (O.indexAddr runUnderlying54 sizeOf5 rfl rfl hq8 (by omega) (by omega) (L.o (O.load isAgg5 rfl (Ints.at hq8 hmod) (L.o (O.conv_to rfl (fun w=>⟨_,runUnderlying5 w⟩) runUnderlying3 (IntWalk.i64_in _ ⟨by omega,by omega⟩) (L.a rfl (L.nil (T.region (L.m rfl (L.m rfl (L.o (O.rem rfl rfl (by omega) (by decide) (?_)))))))))))))
    rw [show small.getD (i % small.length) 0 % 8=planI small i from by rw [planI,if_pos hpos']]
    refine L.o (O.buildSlice (el:=3) (parts:=[(0,.tmp 33)]) (vs:=[(0,_)]) (cs:=[.int .i64 (planI small i)]) rfl (fun w=>by kernel_rfl) (fun b34 w34 hb34 hz34 he34 hB34=>?_))
    have he334:=he38.trans he34
    refine L.o (O.append (size:=1) (bytes:=8) runUnderlying31 Tryz.infoOf3 rfl rfl rfl rfl (by decide) rfl rfl (owns_keep hO3 (he334.mono (Nat.zero_le _)) (Nat.le_refl _)) (Sl.of_blk (lo:=0) (n:=1) (sz:=1) hB34 rfl (Nat.le_refl 1) (by decide) (Nat.zero_le _)) (by intro u hu;simp at hu;subst hu;rfl) (by omega) (by simp only [maxLen];omega) (by have:=he3.size;have:=he334.size;omega) (fun v35 w35 hO35 hG35=>?_))
    have he35:Ext w w35:=Keep.grown0 (he3.trans he334) (owns_keep hO3 (he334.mono (Nat.zero_le _)) (Nat.le_refl _)) hG35 (Nat.le_refl _)
    refine L.a rfl (L.nil (T.blk (T.region (L.o (O.add64 rfl rfl (by (try dsimp only);omega) (L.m rfl (L.nil (T.again ((i+1,v35)) (show r.us.length-(i+1)<r.us.length-i by omega) ⟨rfl,rfl,rfl,rfl,rfl,trivial⟩ ⟨hlt',he35,hdry2,by rw [planR_succ,List.map_append];exact hO35⟩))))))))
   ·refine L.nil (T.cf (T.skip (T.region (L.m rfl (L.m rfl (L.o (O.rem rfl rfl (by simp only;omega) (by decide) (?_))))))))
    rw [show (i:Int) % 8=planI small i from by rw [planI,if_neg (by omega)]]
    refine L.o (O.buildSlice (el:=3) (parts:=[(0,.tmp 33)]) (vs:=[(0,_)]) (cs:=[.int .i64 (planI small i)]) rfl (fun w=>by kernel_rfl) (fun b34 w34 hb34 hz34 he34 hB34=>?_))
    have he334:=he38.trans he34
    refine L.o (O.append (size:=1) (bytes:=8) runUnderlying31 Tryz.infoOf3 rfl rfl rfl rfl (by decide) rfl rfl (owns_keep hO3 (he334.mono (Nat.zero_le _)) (Nat.le_refl _)) (Sl.of_blk (lo:=0) (n:=1) (sz:=1) hB34 rfl (Nat.le_refl 1) (by decide) (Nat.zero_le _)) (by intro u hu;simp at hu;subst hu;rfl) (by omega) (by simp only [maxLen];omega) (by have:=he3.size;have:=he334.size;omega) (fun v35 w35 hO35 hG35=>?_))
    have he35:Ext w w35:=Keep.grown0 (he3.trans he334) (owns_keep hO3 (he334.mono (Nat.zero_le _)) (Nat.le_refl _)) hG35 (Nat.le_refl _)
    refine L.a rfl (L.nil (T.blk (T.region (L.o (O.add64 rfl rfl (by (try dsimp only);omega) (L.m rfl (L.nil (T.again ((i+1,v35)) (show r.us.length-(i+1)<r.us.length-i by omega) ⟨rfl,rfl,rfl,rfl,rfl,trivial⟩ ⟨hlt',he35,hdry2,by rw [planR_succ,List.map_append];exact hO35⟩))))))))
  ·refine L.nil (?_)
   have hln:landsN r.us=i:=lands_at r.us i hdry hi (.inr hwt)
   refine T.ct (T.exit rfl (T.q (L.m rfl (L.a rfl (L.nil (T.ret1 results40 rfl ⟨he3.trans he38,by rw [hln];have:=((Sl.of_owns hO3).ext he38).mono (Nat.zero_le _);show Sl 0 w8 lv (planR small i).length 1 _;rw [planR_len];exact this⟩))))))
 ·refine L.nil (?_)
  have hln:landsN r.us=i:=lands_at r.us i hdry hi (.inl (by simp only at hlt;omega))
  refine T.seq (T.cf (T.exit rfl (T.q (L.m rfl (L.a rfl (L.nil (T.ret1 results40 rfl ⟨he3,by rw [hln];have:=(Sl.of_owns hO3).mono (Nat.zero_le _);show Sl 0 w3 lv (planR small i).length 1 _;rw [planR_len];exact this⟩)))))))

/-- What Overlay gives, in memory. -/
def OvP (r:RoV) (xs:List Int) (t:Str) (v:Value) (w:World):Prop:=∃ pv,v = .tuple #[pv,.int .i64 ((overRes r xs t).2.1:Int),.int .i64 (overRes r xs t).2.2]∧Ints .i64 0 w pv (overRes r xs t).1
theorem OvP.st {r:RoV} {xs:List Int} {t:Str} : ∀ v w w',Ext w w'→OvP r xs t v w→OvP r xs t v w':=fun _ _ _ k ⟨pv,h1,h2⟩=>⟨pv,h1,h2.ext k⟩
theorem over_ok {r:RoV} {xs:List Int} {t:Str} (h:RollOk r) (hx:xs.length=landsN r.us) (hd:∀ i,i<landsN r.us→∃ d:Nat,d<8∧xs.getD i 0=(d:Int)):overRes r xs t=asgRes (nmA r.us) xs t:=by
 rw [overRes_ok h,if_pos (fits_of hx hd)]
theorem asn_ok {r:RoV} {xs:List Int} (h:RollOk r) (hx:xs.length=landsN r.us) (hd:∀ i,i<landsN r.us→∃ d:Nat,d<8∧xs.getD i 0=(d:Int)):asnRes r xs=(joinedL (hdrL::(List.range (landsN r.us)).map (lineA (nmA r.us) xs)),0):=by
 rw [asnRes_ok h,if_pos (fits_of hx hd),linesA,hx]
set_option maxHeartbeats 4000000 in
theorem BlocksOver_calls (lo:Nat) (d:Dr) (qa qb:Value) (sa sb:List Int) (m:Nat) (w:World) (hd:d.ok lo w) (hqa:Ints .u8 lo w qa sa) (hqb:Ints .u8 lo w qb sb) (hla:∀ j,j<sa.length→Low8 (sa.getD j 0)) (hlb:∀ j,j<sb.length→Low8 (sb.getD j 0)) (hL:LibM w) (hm:m<256) :
  Calls Tryz.prog 8 #[d.val,qa,qb,.int .u8 m] w (Ret fun v w'=>v = .bool true∧Ext w w'):=by
 refine T.enter (vs:=[d.val,qa,qb,.int .u8 m]) func8 rfl ntmps8 rfl ?_
 refine T.q (L.o (O.box rfl (fun b4 w4 hb4 hz4 he4 hB4=>?_)))
 have hD4:Blk w4 b4 d.cells 59:=hB4
 refine L.a rfl (L.nil (T.seq (T.q (L.o (O.call (xs:=[]) call10 rfl rfl (wakes_calls w4 (hL.ext he4)) (fun v24 w24 hq=>?_))))))
 obtain ⟨rfl,he24⟩:=hq
 have he024:=he4.trans he24
 refine L.o (O.not rfl (L.nil (T.cf (T.skip (T.q (L.o (O.loadAgg isAgg59 sizeOf59 rfl rfl (Row.of_blk (Blk.ext (cs:=d.cells) hD4 he24)) (L.o (O.call (xs:=[.tmp 26]) call39 rfl rfl (DRoll_calls lo d w24 (hd.ext he024)) (fun v27 w27 hq=>?_))))))))))
 obtain ⟨he27,n0,r,rfl,hr,hdr⟩:=hq
 have hok:=drafted_roll hdr hd
 have hpos:=lands_pos hok
 refine L.o (O.alloc zeroValue25 (fun b9 w9 hb9 hz9 he9 hB9=>?_))
 refine L.o (O.storeAgg sizeOf25 rfl rfl rfl hB9 (Nat.le_refl _) (rollK_one r hr.one) (fun w10 hu10 hB10=>?_))
 replace hu10:Upd b9 w9 w10:=hu10
 have hX:Blk w10 b9 r.cells 25:=hB10
 have he10:Ext w27 w10:=he9.upd hu10 (.inr (by omega))
 have hA10:=(he024.trans he27).trans he10
 have hr10:=hr.ext he10
 refine L.nil (T.seq (?_))
 refine T.anyE mixed 5 [9,1,2] rfl [.is _,.is _,.such (IntsP (planR sa (landsN r.us))),.is _,.is _] [[],[],[0,1],[],[]] [[],[],[0,1],[],[],[0,1,2,3,4],[0,1,2,3,4,5],[0,1,2,3,4,5,6]] (by kernel_rfl) (by kernel_rfl) rfl (by kernel_rfl) ⟨IntsP.st,trivial⟩ ⟨fun wx hx=>Ob.o (O.loadAgg isAgg25 sizeOf25 rfl rfl (Row.of_blk (Blk.ext (cs:=r.cells) hX hx)) kR),
   fun wx hx=>Ob.o (O.move rfl kR),
   fun wx hx=>Ob.o (O.call (xs:=[.tmp 28,.tmp 29]) call40 rfl rfl (plan_calls _ lo r qa sa wx (hr10.ext hx) (hqa.ext (hA10.trans hx)) hla (by omega)) (fun v wy h=>⟨h.1,h.2⟩)),
   fun wx hx=>Ob.o (O.loadAgg isAgg25 sizeOf25 rfl rfl (Row.of_blk (Blk.ext (cs:=r.cells) hX hx)) kR),
   fun wx hx=>Ob.o (O.move rfl kR),
   trivial⟩ (fun w14 he14 v30 hv30=>?_)
 refine L.o (O.call (xs:=[.tmp 31,.tmp 32]) call40 rfl rfl (plan_calls _ lo r qb sb w14 (hr10.ext he14) (hqb.ext (hA10.trans he14)) hlb (by omega)) (fun v33 w33 hq=>?_))
 obtain ⟨he33,hq33⟩:=hq
 have he1033:=he14.trans he33
 have hA33:=hA10.trans he1033
 have hp33:Ints .i64 0 w33 v30 (planR sa (landsN r.us)):=Ints.ext hv30 he33
 obtain ⟨n,hn⟩:∃ n,n=landsN r.us:=⟨_,rfl⟩
 obtain ⟨ps,hps⟩:∃ ps,ps=planR sa (landsN r.us):=⟨_,rfl⟩
 obtain ⟨qs,hqs⟩:∃ qs,qs=planR sb (landsN r.us):=⟨_,rfl⟩
 rw [← hps] at hp33
 rw [← hqs] at hq33
 have hpl:ps.length=n:=by rw [hps,planR_len,hn]
 have hql:qs.length=n:=by rw [hqs,planR_len,hn]
 have hpd:∀ i,i<n→∃ d:Nat,d<8∧ps.getD i 0=(d:Int):=by rw [hps,hn];exact planR_dig
 have hqd:∀ i,i<n→∃ d:Nat,d<8∧qs.getD i 0=(d:Int):=by rw [hqs,hn];exact planR_dig
 rw [← hn] at hpos
 have hLq:LineOk (nmA r.us) n qs:=LineOk.of_roll hok (by omega) hqd
 obtain ⟨S,hS⟩:∃ S,S=joinedL (hdrL::(List.range n).map (lineA (nmA r.us) qs)):=⟨_,rfl⟩
 have hrl:(List.range n).length≤100:=by rw [List.length_range];omega
 obtain ⟨hSl,hSf⟩:=short_lines hLq (is:=List.range n) (fun i hi ↦ List.mem_range.1 hi) hrl
 rw [← hS] at hSl
 have hLA:∀ W,Ext w33 W→LibM W:=fun W h ↦ hL.ext (hA33.trans h)
 have hrA:∀ W,Ext w33 W→r.ok w24.heap.size W:=fun W h ↦ hr10.ext (he1033.trans h)
 have hXA:∀ W,Ext w33 W→Blk W b9 r.cells 25:=fun W h ↦ Blk.ext (cs:=r.cells) hX (he1033.trans h)
 refine L.a rfl (L.a rfl (L.nil (T.q (L.o (O.loadAgg isAgg25 sizeOf25 rfl rfl (Row.of_blk (cs:=r.cells) (hXA w33 (Keep.refl _ _))) (L.m rfl (L.o (O.call (xs:=[.tmp 35,.tmp 36]) call12 rfl rfl (Assign_calls _ r v33 qs w33 (hrA w33 (Keep.refl _ _)) hq33 (hLA w33 (Keep.refl _ _))) (fun v37 w37 hq=>?_)))))))))
 obtain ⟨rfl,he37⟩:=hq
 rw [asn_ok hok (by rw [hql,hn]) (by rw [← hn];exact hqd),← hn,← hS]
 refine L.m rfl (L.o (O.extract rfl rfl (L.o (O.extract rfl rfl (L.a rfl (L.a rfl (L.nil (T.q (L.o (O.loadAgg isAgg25 sizeOf25 rfl rfl (Row.of_blk (cs:=r.cells) (hXA w37 he37)) (L.m rfl (L.m rfl (L.o (O.call (xs:=[.tmp 41,.tmp 42,.tmp 43]) call14 rfl rfl (Overlay_calls _ r v30 ps S w37 (hrA w37 he37) (hp33.ext he37) (hLA w37 he37) (by omega)) (fun v44 w44 hq=>?_)))))))))))))))
 obtain ⟨px,rfl,hpx,he44⟩:=hq
 have hov1:overRes r ps S=(qs,0,0):=by
  rw [over_ok hok (by rw [hpl,hn]) (by rw [← hn];exact hpd),hS,asg_lines hLq hpl List.nodup_range (fun i hi=>List.mem_range.1 hi) hrl,setAll_all (by rw [hql,hpl]) (fun i hi=>by rw [hpl];exact List.mem_range.1 hi) (fun j hj=>List.mem_range.2 (by omega))]
 rw [hov1] at hpx
 rw [hov1]
 have he3344:=he37.trans he44
 refine L.m rfl (L.o (O.extract rfl rfl (L.o (O.extract rfl rfl (L.o (O.extract rfl rfl (L.a rfl (L.a rfl (L.a rfl (L.nil (T.q (L.o (O.loadAgg isAgg25 sizeOf25 rfl rfl (Row.of_blk (cs:=r.cells) (hXA w44 he3344)) (L.m rfl (L.o (O.call (xs:=[.tmp 49,.tmp 50,_]) call14 rfl rfl (Overlay_calls _ r v30 ps (joinedL (hdrL::([]:List Nat).map (lineA (nmA r.us) qs))) w44 (hrA w44 he3344) (hp33.ext he3344) (hLA w44 he3344) (show (joinedL [hdrL]).length≤1000000 by decide)) (fun v51 w51 hq=>?_)))))))))))))))))
 obtain ⟨py,rfl,hpy,he51⟩:=hq
 have hov2:overRes r ps (joinedL (hdrL::([]:List Nat).map (lineA (nmA r.us) qs)))=(ps,0,0):=by
  rw [over_ok hok (by rw [hpl,hn]) (by rw [← hn];exact hpd),asg_lines hLq hpl List.nodup_nil (fun i hi=>by cases hi) (by simp)]
  rfl
 rw [hov2] at hpy
 rw [hov2]
 have he3351:=he3344.trans he51
 refine L.m rfl (L.o (O.extract rfl rfl (L.o (O.extract rfl rfl (L.o (O.extract rfl rfl (L.a rfl (L.a rfl (L.a rfl (L.nil (T.seq (T.q (L.m rfl (L.o (O.neq_f rfl rfl rfl (L.m rfl (L.m rfl (L.o (O.neq_f rfl rfl rfl (L.o (O.pick_false rfl rfl (L.m rfl (L.m rfl (L.o (O.neq_f rfl rfl rfl (L.o (O.pick_false rfl rfl (L.m rfl (L.m rfl (L.o (O.neq_f rfl rfl rfl (?_))))))))))))))))))))))))))))))))
 refine L.o (O.pick_false rfl rfl (L.m rfl (L.m rfl (L.o (O.neq_f rfl rfl rfl (L.o (O.pick_false rfl rfl (L.m rfl (L.m rfl (L.m rfl (L.o (O.call (xs:=[.tmp 74,.tmp 75]) call46 rfl rfl (equalPl_yes 0 0 px v33 qs qs w51 (hpx.ext he51) (hq33.ext he3351) rfl) (fun v76 w76 hq=>?_)))))))))))))
 obtain ⟨rfl,he76⟩:=hq
 refine L.o (O.not rfl (L.o (O.pick_false rfl rfl (L.m rfl (L.m rfl (L.m rfl (L.o (O.call (xs:=[.tmp 80,.tmp 81]) call46 rfl rfl (equalPl_yes 0 0 py v30 ps ps w76 (hpy.ext he76) (hp33.ext (he3351.trans he76)) rfl) (fun v82 w82 hq=>?_)))))))))
 obtain ⟨rfl,he82⟩:=hq
 have he3382:=(he3351.trans he76).trans he82
 have hp82:=hp33.ext he3382
 refine L.o (O.not rfl (L.o (O.pick_false rfl rfl (L.nil (T.cf (T.skip (T.q (L.m rfl (L.o (O.conv_to rfl (fun w=>⟨_,runUnderlying5 w⟩) runUnderlying3 (IntWalk.i64_in _ ⟨by omega,by omega⟩) (L.m rfl (L.o (O.len runUnderlying31 rfl (Sl.val hp82) (L.o (O.rem rfl rfl (by omega) (by omega) (?_))))))))))))))))
 obtain ⟨i,hi⟩:∃ i,i=m % ps.length:=⟨_,rfl⟩
 rw [show ((m:Int)) % ((ps.length:Nat):Int)=((i:Nat):Int) from by rw [hi];exact (Int.natCast_emod _ _).symm]
 have hin:i<n:=by rw [hi,hpl];exact Nat.mod_lt _ (by omega)
 refine L.a rfl (L.nil (T.q (L.m rfl (L.o (O.call (xs:=[.tmp 90,_]) call24 rfl rfl (splitAfter_calls S w82 (hLA w82 he3382) (by omega)) (fun v91 w91 hq=>?_))))))
 obtain ⟨A,cap,rfl,hAs,⟨cs,hCB,hC1,hC2,hC3,hC4⟩,he91⟩:=hq
 have haf:afterL 10 S=(hdrL::(List.range n).map (lineA (nmA r.us) qs)).map (· ++ [10]) ++ [[]]:=by rw [hS];exact after_joined _ hSf
 have hafl:(afterL 10 S).length=n+2:=by rw [haf];simp
 have hSt:Strs 0 w91 (.slice (some ⟨A,0,none⟩) (afterL 10 S).length cap) (afterL 10 S):=own_sl hCB hC3 hC2 (by omega) (by rw [Nat.mul_one];exact hC4)
 have hg0:(afterL 10 S).getD 0 []=hdrL ++ [10]:=by rw [haf];rfl
 have hgi:(afterL 10 S).getD (i+1) []=lineA (nmA r.us) qs i ++ [10]:=by
  rw [haf,getD_app_l (by simp;omega)]
  simp [List.getD,hin]
 have he3391:=he3382.trans he91
 have hp91:=hp33.ext he3391
 refine L.a rfl (L.nil (T.seq (T.q (L.m rfl (L.o (O.len runUnderlying61 rfl (Sl.val hSt) (L.m rfl (L.o (O.len runUnderlying31 rfl (Sl.val hp91) (L.o (O.add64 rfl rfl (by omega) (L.o (O.neq_f rfl rfl (by omega) (?_))))))))))))))
 have hone:hdrL ++ [10]++(lineA (nmA r.us) qs i ++ [10])=joinedL (hdrL :: [i].map (lineA (nmA r.us) qs)):=by simp [joinedL]
 have htx1:(afterL 10 S).getD 0 []++(afterL 10 S).getD (i+1) []=joinedL (hdrL :: [i].map (lineA (nmA r.us) qs)):=by rw [hg0,hgi,hone]
 have hlen1:=(short_lines hLq (is:=[i]) (fun j hj ↦ by simp at hj;omega) (by simp)).1
 refine L.nil (T.cf (T.skip (T.seq (?_))))
 refine T.anyE mixed 18 [9,10,21,20] rfl [.is _,.is _,.is _,.is _,.is _,.is _,.is _,.is _,.is _,.is _,.is _,.such (OvP r ps ((afterL 10 S).getD 0 []++(afterL 10 S).getD (i+1) [])),.such (OvP r ps ((afterL 10 S).getD 0 []++(afterL 10 S).getD (i+1) [])),.such (IntsP (overRes r ps ((afterL 10 S).getD 0 []++(afterL 10 S).getD (i+1) [])).1),.is (.int .i64 ((overRes r ps ((afterL 10 S).getD 0 []++(afterL 10 S).getD (i+1) [])).2.1:Int)),.is (.int .i64 (overRes r ps ((afterL 10 S).getD 0 []++(afterL 10 S).getD (i+1) [])).2.2),.such (IntsP (overRes r ps ((afterL 10 S).getD 0 []++(afterL 10 S).getD (i+1) [])).1),.is _] [[],[],[],[2],[3],[],[],[6],[5,7],[8],[4,9],[0,1,10],[11],[12],[12],[12],[13],[14]] [[],[],[],[2],[2,3],[],[],[6],[5,6,7],[5,6,7,8],[2,3,4,5,6,7,8,9],[0,1,2,3,4,5,6,7,8,9,10],[0,1,2,3,4,5,6,7,8,9,10,11],[0,1,2,3,4,5,6,7,8,9,10,11,12],[0,1,2,3,4,5,6,7,8,9,10,11,12],[0,1,2,3,4,5,6,7,8,9,10,11,12],[0,1,2,3,4,5,6,7,8,9,10,11,12,13],[0,1,2,3,4,5,6,7,8,9,10,11,12,13,14,16],[0,1,2,3,4,5,6,7,8,9,10,11,12,13,14,15,16,17]] (by kernel_rfl) (by kernel_rfl) rfl (by kernel_rfl) ⟨OvP.st,OvP.st,IntsP.st,IntsP.st,trivial⟩ ⟨fun wx hx=>Ob.o (O.loadAgg isAgg25 sizeOf25 rfl rfl (Row.of_blk (cs:=r.cells) (hXA wx (he3391.trans hx))) kR),
   fun wx hx=>Ob.o (O.move rfl kR),
   fun wx hx=>Ob.o (O.move rfl kR),
   fun wx hx=>Ob.o (O.indexAddr runUnderlying61 sizeOf9 rfl rfl (hSt.ext hx) (by decide) (by omega) kR),
   fun wx hx=>Ob.o (O.load isAgg9 rfl ((hSt.ext hx).at (show 0<(afterL 10 S).length by omega)) kR),
   fun wx hx=>Ob.o (O.move rfl kR),
   fun wx hx=>Ob.o (O.move rfl kR),
   fun wx hx=>Ob.o (O.add64 rfl rfl (by omega) kR),
   fun wx hx=>Ob.o (O.indexAddr runUnderlying61 sizeOf9 rfl rfl (hSt.ext hx) (by omega) (by omega) kR),
   fun wx hx=>Ob.o (O.load isAgg9 rfl ((hSt.ext hx).at (show i+1<(afterL 10 S).length by omega)) kR),
   fun wx hx=>Ob.o (O.add_str rfl rfl (by rw [hg0,hgi];have:=(line_free hLq hin).2;simp only [List.length_append,List.length_cons,List.length_nil];have:hdrL.length=13:=rfl;omega) kR),
   fun wx hx=>Ob.o (O.call (xs:=[.tmp 99,.tmp 100,.tmp 109]) call14 rfl rfl (Overlay_calls _ r v30 ps ((afterL 10 S).getD 0 []++(afterL 10 S).getD (i+1) []) wx (hrA wx (he3391.trans hx)) (hp33.ext (he3391.trans hx)) (hLA wx (he3391.trans hx)) (by rw [htx1];omega)) (fun v wy h=>⟨by obtain ⟨b,h1,h2,h3⟩:=h;exact h3,by obtain ⟨b,h1,h2,h3⟩:=h;exact ⟨b,h1,h2⟩⟩)),
   fun wx hx v110 hv110=>Ob.o (O.move rfl ⟨Keep.refl _ _,hv110⟩),
   fun wx hx v98 hv98=>by { obtain ⟨pz,rfl,hpz⟩:=hv98;exact Ob.o (O.extract rfl rfl ⟨Keep.refl _ _,hpz⟩) },
   fun wx hx v98 hv98=>by { obtain ⟨pz,rfl,hpz⟩:=hv98;exact Ob.o (O.extract rfl rfl kR) },
   fun wx hx v98 hv98=>by { obtain ⟨pz,rfl,hpz⟩:=hv98;exact Ob.o (O.extract rfl rfl kR) },
   fun wx hx v111 hv111=>Ob.o (O.assign rfl ⟨Keep.refl _ _,hv111⟩),
   fun wx hx=>Ob.o (O.assign rfl kR),
   trivial⟩ (fun w15 he15 v110 hv110 v98 hv98 v111 hv111 v22 hv22=>?_)
 have hov3:overRes r ps (joinedL (hdrL :: [i].map (lineA (nmA r.us) qs)))=(ps.set i (qs.getD i 0),0,0):=by
  rw [over_ok hok (by rw [hpl,hn]) (by rw [← hn];exact hpd),asg_lines hLq hpl (List.nodup_cons.2 ⟨by simp,List.nodup_nil⟩) (fun j hj=>by simp at hj;omega) (by simp)]
  rfl
 have hpz:Ints .i64 0 w15 v22 (overRes r ps ((afterL 10 S).getD 0 []++(afterL 10 S).getD (i+1) [])).1:=hv22
 rw [htx1,hov3] at hpz
 rw [htx1,hov3]
 have he33110:=he3391.trans he15
 refine L.a rfl (L.nil (T.q (L.m rfl (L.o (O.call (xs:=[.tmp 114]) call41 rfl rfl (clonePlan_calls 0 v30 ps w15 (hp33.ext he33110) (by omega)) (fun v115 w115 hq=>?_))))))
 obtain ⟨he115,hO115⟩:=hq
 have hSl115:=Sl.of_owns hO115
 obtain ⟨bc,cap2,cur,rfl,hbc,hCl,k1,k2,k3,k4⟩:=own_ints hO115 (by omega)
 have he33115:=he33110.trans he115
 have hq115:=hq33.ext he33115
 refine L.a rfl (L.nil (T.q (L.m rfl (L.m rfl (L.m rfl (L.m rfl (L.o (O.indexAddr runUnderlying31 sizeOf3 rfl rfl hq115 (by omega) (by omega) (L.o (O.load isAgg3 rfl (Ints.at hq115 (show i<qs.length by omega)) (L.o (O.indexAddr runUnderlying31 sizeOf3 rfl rfl hSl115 (by omega) (by omega) (L.o (O.store1_at sizeOf3 rfl rfl rfl hCl (by show 0+((i:Nat):Int).toNat*1<cur.length;rw [Int.toNat_natCast];omega) (fun w123 hu123 hB123=>?_)))))))))))))))
 replace hu123:Upd bc w115 w123:=hu123
 have hz110:=he33110.size
 have he33123:Ext w33 w123:=he33115.upd hu123 (.inr (by omega))
 have hW:Ints .i64 0 w123 (.slice (some ⟨bc,0,none⟩) ps.length cap2) (ps.set i (qs.getD i 0)):=by
  refine ints_cap (cs:=cur.set (0+((i:Nat):Int).toNat*1) (.int .i64 (qs.getD i 0))) hB123 (by rw [List.length_set];exact k3) k1 k2 ?_ (by rw [List.length_set])
  rw [List.take_set,k4,List.map_set,Int.toNat_natCast,Nat.mul_one,Nat.zero_add]
 have hSt2:∀ W,Ext w123 W→Strs 0 W (.slice (some ⟨A,0,none⟩) (afterL 10 S).length cap) (afterL 10 S):=fun W h ↦ hSt.ext (((he15.trans he115).upd hu123 (.inr (by have:=he15.size;have:=he3391.size;omega))).trans h)
 have htwo:hdrL ++ [10]++(lineA (nmA r.us) qs i ++ [10])++(lineA (nmA r.us) qs i ++ [10])=joinedL (hdrL :: [i,i].map (lineA (nmA r.us) qs)):=by simp [joinedL]
 have htx2:(afterL 10 S).getD 0 []++(afterL 10 S).getD (i+1) []++(afterL 10 S).getD (i+1) []=joinedL (hdrL :: [i,i].map (lineA (nmA r.us) qs)):=by rw [hg0,hgi,htwo]
 have hlen2:=(short_lines hLq (is:=[i,i]) (fun j hj ↦ by simp at hj;omega) (by simp)).1
 refine L.nil (T.seq (?_))
 refine T.anyE mixed 23 [9,10,21,20] rfl [.is _,.is _,.is _,.is _,.is _,.is _,.is _,.is _,.is _,.is _,.is _,.is _,.is _,.is _,.is _,.is _,.is _,.such (OvP r ps ((afterL 10 S).getD 0 []++(afterL 10 S).getD (i+1) []++(afterL 10 S).getD (i+1) [])),.such (OvP r ps ((afterL 10 S).getD 0 []++(afterL 10 S).getD (i+1) []++(afterL 10 S).getD (i+1) [])),.such (IntsP (overRes r ps ((afterL 10 S).getD 0 []++(afterL 10 S).getD (i+1) []++(afterL 10 S).getD (i+1) [])).1),.is (.int .i64 ((overRes r ps ((afterL 10 S).getD 0 []++(afterL 10 S).getD (i+1) []++(afterL 10 S).getD (i+1) [])).2.1:Int)),.is (.int .i64 (overRes r ps ((afterL 10 S).getD 0 []++(afterL 10 S).getD (i+1) []++(afterL 10 S).getD (i+1) [])).2.2),.is _] [[],[],[],[2],[3],[],[],[6],[5,7],[8],[4,9],[],[],[12],[11,13],[14],[10,15],[0,1,16],[17],[18],[18],[18],[20]] [[],[],[],[2],[2,3],[],[],[6],[5,6,7],[5,6,7,8],[2,3,4,5,6,7,8,9],[],[],[12],[11,12,13],[11,12,13,14],[2,3,4,5,6,7,8,9,10,11,12,13,14,15],[0,1,2,3,4,5,6,7,8,9,10,11,12,13,14,15,16],[0,1,2,3,4,5,6,7,8,9,10,11,12,13,14,15,16,17],[0,1,2,3,4,5,6,7,8,9,10,11,12,13,14,15,16,17,18],[0,1,2,3,4,5,6,7,8,9,10,11,12,13,14,15,16,17,18],[0,1,2,3,4,5,6,7,8,9,10,11,12,13,14,15,16,17,18],[0,1,2,3,4,5,6,7,8,9,10,11,12,13,14,15,16,17,18,19,20],[0,1,2,3,4,5,6,7,8,9,10,11,12,13,14,15,16,17,18,19,20,21,22]] (by kernel_rfl) (by kernel_rfl) rfl (by kernel_rfl) ⟨OvP.st,OvP.st,IntsP.st,trivial⟩ ⟨fun wx hx=>Ob.o (O.loadAgg isAgg25 sizeOf25 rfl rfl (Row.of_blk (cs:=r.cells) (hXA wx (he33123.trans hx))) kR),
   fun wx hx=>Ob.o (O.move rfl kR),
   fun wx hx=>Ob.o (O.move rfl kR),
   fun wx hx=>Ob.o (O.indexAddr runUnderlying61 sizeOf9 rfl rfl (hSt2 wx hx) (by decide) (by omega) kR),
   fun wx hx=>Ob.o (O.load isAgg9 rfl ((hSt2 wx hx).at (show 0<(afterL 10 S).length by omega)) kR),
   fun wx hx=>Ob.o (O.move rfl kR),
   fun wx hx=>Ob.o (O.move rfl kR),
   fun wx hx=>Ob.o (O.add64 rfl rfl (by omega) kR),
   fun wx hx=>Ob.o (O.indexAddr runUnderlying61 sizeOf9 rfl rfl (hSt2 wx hx) (by omega) (by omega) kR),
   fun wx hx=>Ob.o (O.load isAgg9 rfl ((hSt2 wx hx).at (show i+1<(afterL 10 S).length by omega)) kR),
   fun wx hx=>Ob.o (O.add_str rfl rfl (by rw [hg0,hgi];have:=(line_free hLq hin).2;simp only [List.length_append,List.length_cons,List.length_nil];have:hdrL.length=13:=rfl;omega) kR),
   fun wx hx=>Ob.o (O.move rfl kR),
   fun wx hx=>Ob.o (O.move rfl kR),
   fun wx hx=>Ob.o (O.add64 rfl rfl (by omega) kR),
   fun wx hx=>Ob.o (O.indexAddr runUnderlying61 sizeOf9 rfl rfl (hSt2 wx hx) (by omega) (by omega) kR),
   fun wx hx=>Ob.o (O.load isAgg9 rfl ((hSt2 wx hx).at (show i+1<(afterL 10 S).length by omega)) kR),
   fun wx hx=>Ob.o (O.add_str rfl rfl (by rw [hg0,hgi];have:=(line_free hLq hin).2;simp only [List.length_append,List.length_cons,List.length_nil];have:hdrL.length=13:=rfl;omega) kR),
   fun wx hx=>Ob.o (O.call (xs:=[.tmp 124,.tmp 125,.tmp 140]) call14 rfl rfl (Overlay_calls _ r v30 ps ((afterL 10 S).getD 0 []++(afterL 10 S).getD (i+1) []++(afterL 10 S).getD (i+1) []) wx (hrA wx (he33123.trans hx)) (hp33.ext (he33123.trans hx)) (hLA wx (he33123.trans hx)) (by rw [htx2];omega)) (fun v wy h=>⟨by obtain ⟨b,h1,h2,h3⟩:=h;exact h3,by obtain ⟨b,h1,h2,h3⟩:=h;exact ⟨b,h1,h2⟩⟩)),
   fun wx hx v141 hv141=>Ob.o (O.move rfl ⟨Keep.refl _ _,hv141⟩),
   fun wx hx v123 hv123=>by { obtain ⟨pt,rfl,hpt⟩:=hv123;exact Ob.o (O.extract rfl rfl ⟨Keep.refl _ _,hpt⟩) },
   fun wx hx v123 hv123=>by { obtain ⟨pt,rfl,hpt⟩:=hv123;exact Ob.o (O.extract rfl rfl kR) },
   fun wx hx v123 hv123=>by { obtain ⟨pt,rfl,hpt⟩:=hv123;exact Ob.o (O.extract rfl rfl kR) },
   fun wx hx=>Ob.o (O.assign rfl kR),
   trivial⟩ (fun w17 he17 v141 hv141 v123 hv123 v142 hv142=>?_)
 have hov4:overRes r ps (joinedL (hdrL :: [i,i].map (lineA (nmA r.us) qs)))=([],3,5):=by
  rw [over_ok hok (by rw [hpl,hn]) (by rw [← hn];exact hpd),asg_twice hLq hpl hin]
 rw [htx2,hov4]
 have he3317:=he33123.trans he17
 refine L.a rfl (L.nil (T.q (L.m rfl (L.o (O.eql_t rfl rfl rfl (L.m rfl (L.m rfl (L.o (O.eql_t rfl rfl rfl (L.o (O.pick_true rfl rfl (L.m rfl (L.m rfl (L.m rfl (L.o (O.call (xs:=[.tmp 152,.tmp 153]) call46 rfl rfl (equalPl_yes 0 0 v22 _ (ps.set i (qs.getD i 0)) (ps.set i (qs.getD i 0)) w17 (hpz.ext ((he115.upd hu123 (.inr (by omega))).trans he17)) (hW.ext he17) rfl) (fun v154 w154 hq=>?_)))))))))))))))))
 obtain ⟨rfl,he154⟩:=hq
 refine L.o (O.pick_true rfl rfl (L.m rfl (L.m rfl (L.o (O.eql_t rfl rfl rfl (L.o (O.pick_true rfl rfl (L.m rfl (L.m rfl (L.o (O.eql_t rfl rfl rfl (L.o (O.pick_true rfl rfl (L.a rfl (L.nil (T.ret1 results8 rfl ⟨rfl,hA33.trans (he3317.trans he154)⟩))))))))))))))))

end Go.Proofs.YtnlonpcbgjbbaaaGreatDoor
