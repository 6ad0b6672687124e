/-
  BlocksBack, part 20 of its proof: that it returns true for every input, and each argument reads behind the call as it read before. Conditions: the listed variables read as the program's text lays them (tied by the card).
-/
import Derived.Test.YtnlonpcbgjbbaaaGreatDoorWBlocksBack19
import Derived.Test.YtnlonpcbgjbbaaaGreatDoorWBlocksBack13
set_option linter.unusedVariables false
set_option linter.unusedSimpArgs false
set_option maxRecDepth 20000
set_option linter.unusedVariables false
set_option linter.unusedSimpArgs false
set_option maxRecDepth 20000
namespace Go.Proofs.YtnlonpcbgjbbaaaGreatDoor
open Go.Proofs.Tryz (call10 call12 call13 call19 call21 call22 call24 call28 call29 call40 call46 call49 call50 call71 func24 func40 func9 isAgg23 isAgg25 isAgg4 isAgg48 isAgg5 isAgg51 isAgg59 ntmps24 ntmps40 ntmps9 results24 results40 results9 runUnderlying23 runUnderlying25 runUnderlying3 runUnderlying31 runUnderlying48 runUnderlying5 runUnderlying51 runUnderlying54 runUnderlying61 runUnderlying9 sizeOf23 sizeOf25 sizeOf4 sizeOf48 sizeOf5 sizeOf51 sizeOf59 sizeOf9 zeroValue48 zeroValue51)
open Go Go.E RowKit
attribute [local irreducible] Go.E.T Go.E.L Go.E.O Go.E.Ob
attribute [local irreducible] Go.E.ObX Go.E.ObG Go.E.ObK
def bT (d:UInt8):Str→List Str
 | []=>[[]]
 | c::r=>if c=d then [c]::bT d r else match bT d r with
  | []=>[[c]]
  | w::ws=>(c::w)::ws
theorem nO (d:UInt8):∀ s,Lib.splitK [d] 1 (Lib.count s [d]) s=bT d s
 | []=>by rw [Lib.count_miss (by simp [Lib.index])];rfl
 | c::r=>by
  have ih:=nO d r
  by_cases hc:c=d
  ·subst hc
   rw [Lib.count_cons_eq,Nat.add_comm,Lib.splitK,xG,bT,if_pos rfl,if_neg (by decide)]
   simp [ih]
  rw [Lib.count_cons_ne c d r hc,bT,if_neg hc]
  by_cases hm:Lib.index r [d] = -1
  ·rw [Lib.count_miss hm] at ih ⊢
   rw [← ih];rfl
  have hge:=Lib.index_ge r [d]
  obtain ⟨j,hj⟩:∃ j:Nat,Lib.index r [d]=j:=⟨(Lib.index r [d]).toNat,by omega⟩
  rw [Lib.count_hit (by simp) hj,Nat.add_comm] at ih ⊢
  have hmr:¬ (Lib.index r [d] == -1)=true:=fun e=>hm (beq_iff_eq.1 e)
  have e1:Lib.index (c::r) [d]=((j+1:Nat):Int):=by rw [pF c d r hc,if_neg hmr,hj];omega
  have hmc:¬ (Lib.index (c::r) [d] == -1)=true:=fun e=>by have:=beq_iff_eq.1 e;omega
  rw [Lib.splitK,if_neg hmr,hj] at ih
  rw [Lib.splitK,if_neg hmc,e1,← ih]
  have e2:((j+1:Nat):Int).toNat+1=((j:Int).toNat+1)+1:=by omega
  simp [e2]
theorem Ib (s:Str) (d:UInt8):(Lib.splitB ⟨#[d]⟩ 1 (Lib.countB ⟨s.toArray⟩ ⟨#[d]⟩) ⟨s.toArray⟩).map (·.data.toList)=bT d s:=by
 rw [Lib.splitB_data]
 exact nO d s
theorem BX {d:UInt8} {t:Str} : ∀ {w:Str},d∉w→bT d (w++d::t)=(w ++ [d])::bT d t
 | [],_=>by
  show bT d (d::t)=_
  unfold bT
  rw [if_pos rfl]
  cases t <;> rfl
 | c::r,hw=>by
  have hc:¬ c=d:=fun e=>hw (by rw [e];exact List.mem_cons_self ..)
  show bT d (c::(r++d::t))=_
  rw [bT,if_neg hc,BX (fun h=>hw (List.mem_cons_of_mem _ h))]
  rfl
theorem vN:∀ ls:List Str,(∀ l∈ls,(10:UInt8)∉l)→bT 10 (aF ls)=ls.map (· ++ [10]) ++ [[]]
 | [],_=>rfl
 | l::r,h=>by
  have e:aF (l::r)=l++10::aF r:=by simp [aF]
  rw [e,BX (h l (List.mem_cons_self ..)),vN r (fun x hx=>h x (List.mem_cons_of_mem _ hx))];rfl
def nz (ws:List (List Str)):List (List Str):=ws.filter fun w=>!w.isEmpty
def ZT (t:Str):List (List Str):=(aS 10 t).map (bH [])
theorem Xg {s:PS} {a b:List (List Str)} (h:nz a=nz b):bI s a=bI s b:=by
 rw [← jl a,← jl b]
 exact congrArg (bI s) h
theorem Xh {t:Str} {s:PS} (hl:t.length≤40000) (h:bI PS0 (ZT t)=some s) (hk:s.last=fA) (he:TG s=0):iU t = .inl s:=by
 have h1:=(MI (aS 10 t) PS0 s 1).2 h
 unfold iU
 rw [if_neg (by omega),h1]
 simp only []
 rw [if_pos hk,if_pos he]
structure Written (c:CxV) (r:RoV):Prop where
 sp:Hy c r
 er:TG (Hz c r)=0
theorem Written.of {c:CxV} {r:RoV} (h:dN c r (cu c)=0):Written c r:=⟨H7 h,by rw [← (uD c r).err];exact h⟩
theorem Written.parse {c:CxV} {r:RoV} (h:Written c r) {t:Str} (hl:t.length≤40000) (ht:nz (ZT t)=nz (ZT (aF (fM c r)))):iU t = .inl (Hz c r) :=
 Xh hl (by rw [Xg ht];exact TK h.sp) rfl h.er
theorem vO:∀ ls:List Str,(∀ l∈ls,(10:UInt8)∉l)→Lib.countByte (aF ls) 10=ls.length
 | [],_=>rfl
 | l::r,h=>by
  have e:aF (l::r)=l++([10]++aF r):=by simp [aF]
  have ih:=vO r (fun x hx=>h x (List.mem_cons_of_mem _ hx))
  unfold Lib.countByte at ih ⊢
  rw [e,List.count_append,List.count_append,ih,List.count_eq_zero.2 (h l (List.mem_cons_self ..)),List.length_cons]
  show 0+(1+r.length)=_
  omega
open Go Go.E RowKit
open Geo (DC)
theorem Ic {n:Nat} (h:n<10):gU (UInt8.ofNat (48+n))=true:=by
 rw [UO,UInt8.toNat_ofNat_of_lt' (by show _<256;omega)];omega
theorem acX {i:Nat} (h:i<100):Fg (dNm i)=true:=by
 have h1:=Ic (n:=i / 10) (by omega)
 have h2:=Ic (n:=i % 10) (by omega)
 simp only [Fg,dNm,UY,List.singleton_append,List.all_cons,List.all_nil,h1,h2,Bool.and_true,List.length_cons,List.length_nil]
 rfl
theorem ZU {i j:Nat} (hi:i<100) (hj:j<100) (h:dNm i=dNm j):i=j:=by
 simp only [dNm,UY,List.singleton_append,List.cons.injEq,and_true,true_and] at h
 have h1:=congrArg UInt8.toNat h.1
 have h2:=congrArg UInt8.toNat h.2
 rw [UInt8.toNat_ofNat_of_lt' (by show _<256;omega),UInt8.toNat_ofNat_of_lt' (by show _<256;omega)] at h1 h2
 omega
theorem agH {d:Dr} {n i:Nat} (hn:∀ j,j<d.ns.length→0≤d.ns.getD j 0∧d.ns.getD j 0≤65535):0≤dP d n i∧dP d n i≤65535:=by
 unfold dP
 have:=xM hn i
 split <;> omega
theorem Eu {d:Dr} {n i:Nat} {r:RoV} (h:sO d n r) (hn:∀ j,j<d.ns.length→0≤d.ns.getD j 0∧d.ns.getD j 0≤65535) (hg:qH d.g) (hp:qH d.p) (hl:qH d.l) (hi:i<n):bU r (r.us.getD i u0)=true:=by
 have u:=h.u i hi
 have h24:=h.n2
 unfold qH at hg hp hl
 have hdp:=agH (n:=n) (i:=i) hn
 have e1:r.G=d.g % 3:=h.g
 have e2:r.P=d.p % 4:=h.p
 have e3:r.L=d.l % 4:=h.l
 have hvm:fK (r.us.getD i u0)=if dWt d n i then 0 else 1000000000:=by rw [fK,u.wt]
 have hpm:mF (r.us.getD i u0)=if dWt d n i then 0 else 63:=by rw [mF,u.wt]
 have hpw:dWt d n i=true→dP d n i=0:=fun hw=>by rw [dP,hw];rfl
 rw [Qj,u.nm,u.pp,u.gs,u.vs,u.ps,hvm,hpm]
 refine ⟨acX (by omega),hdp.1,?_,?_,?_,?_⟩
 ·split
  ·rename_i hw;rw [hpw hw];exact Int.le_refl _
  omega
 ·refine within_iff.2 ⟨by rw [dX];omega,fun j hj=>?_⟩
  rw [dX] at hj
  rw [xP hj,dG1]
  have:=Int.emod_nonneg (EJ d.ns (3*i+j+1)) (show dP d n i+1≠0 by omega)
  have:=Int.emod_lt_of_pos (EJ d.ns (3*i+j+1)) (show 0<dP d n i+1 by omega)
  omega
 ·refine within_iff.2 ⟨by rw [dX];omega,fun j hj=>?_⟩
  rw [dX] at hj
  rw [xP hj,dV1]
  have:=xM hn (5*i+j+2)
  split <;> omega
 refine within_iff.2 ⟨by rw [dX];omega,fun j hj=>?_⟩
 rw [dX] at hj
 rw [xP hj,dL1]
 split
 ·omega
 have h1:(EJ d.ns (i+11) % 16).toNat≤15:=by omega
 have h2:=Nat.div_le_self (EJ d.ns (i+11) % 16).toNat (2 ^ j)
 obtain ⟨q,hq⟩:∃ q:Nat,q=(EJ d.ns (i+11) % 16).toNat / 2 ^ j:=⟨_,rfl⟩
 rw [← hq] at h2 ⊢
 omega
theorem Uf {d:Dr} {n:Nat} (hn:1≤n) (ha:qH d.wa):0≤Fv d n∧Fv d n<n:=by
 unfold qH at ha
 unfold Fv
 have:=Int.emod_nonneg d.wa (show ((n / 3+1:Nat):Int)≠0 by omega)
 have:=Int.emod_lt_of_pos d.wa (show (0:Int)<((n / 3+1:Nat):Int) by omega)
 omega
theorem OV {d:Dr} {n:Nat} {r:RoV} (h:sO d n r) (hn:∀ j,j<d.ns.length→0≤d.ns.getD j 0∧d.ns.getD j 0≤65535) (hg:qH d.g) (hp:qH d.p) (hl:qH d.l) (ha:qH d.wa):bG r:=by
 have h1:=h.n1
 have h24:=h.n2
 have hlen:=h.len
 have hw:=Uf h1 ha
 have hg':=hg
 have hp':=hp
 have hl':=hl
 unfold qH at hg' hp' hl'
 refine ⟨Jc.2 ⟨by rw [h.g];omega,by rw [h.g];omega,by rw [h.p];omega,by rw [h.p];omega,by rw [h.l];omega,by rw [h.l];omega,by omega,by omega⟩,fun j hj=>?_⟩
 have uj:=h.u j (by omega)
 refine ⟨Eu h hn hg hp hl (by omega),fun k hk e=>?_,fun k hk hkw=>?_,fun e=>?_⟩
 ·have uk:=h.u k (by omega)
  rw [uk.nm,uj.nm] at e
  have:=ZU (by omega) (by omega) e
  omega
 ·have uk:=h.u k (by omega)
  rw [uk.wt,dWt,decide_eq_true_eq] at hkw
  rw [uj.wt,dWt,decide_eq_true_eq];omega
 subst e
 rw [uj.wt,dWt,decide_eq_false_iff_not];omega
theorem vP {d:Dr} {n lo:Nat} {r:RoV} {w:World} (h:sO d n r) (hd:d.ok lo w):bG r:=OV h hd.nl hd.g0 hd.p0 hd.l0 hd.a0
theorem Ug {d:Dr} {lo:Nat} {w:World} {c:CxV} {r:RoV} (hd:d.ok lo w) (h1:sO d c.fs.length r) (h2:DC c (dW d) (dH d) d.ho d.ss d.cs) (hW:1≤dW d∧dW d≤4) (hH:1≤dH d∧dH d≤3):dN c r (cu c)=0:=by
 rw [(pK h2 hW hH).1,dN,if_neg (by simp),eu (vP h1 hd),if_neg (by simp),if_neg (by rw [h1.len];simp)]
open Go Go.E RowKit
theorem BZ (sep:Str) (sv:Nat):∀ (k:Nat) (s:Str),(Lib.splitK sep sv k s).length≤k+1
 | 0,s=>by simp [Lib.splitK]
 | k+1,s=>by
  unfold Lib.splitK
  split
  ·simp
  have:=BZ sep sv k (s.drop ((Lib.index s sep).toNat+sep.length))
  simp only [List.length_cons];omega
theorem ZV (s:Str):(⟨s.toArray⟩:ByteArray).size=s.length:=by simp [ByteArray.size]
theorem Au (s:Str) (w:World) (hL:jc w) (hs:s.length≤1000000):Calls Tryz.prog 71 #[str s,str [10],.int .i64 1,.int .i64 (-1)] w (Ret fun v w'=>∃ A cap,v = .slice (some ⟨A,0,none⟩) (bT 10 s).length cap∧w.heap.size≤A∧(∃ cs,Blk w' A cs 9∧cs.length=cap∧cap≤maxLen∧(bT 10 s).length≤cap∧cs.take (bT 10 s).length=(bT 10 s).map str)∧Ext w w'):=by
 obtain ⟨m,hm⟩:=hL.mx
 have hz:=ZV s
 have hc:=Lib.countB_le ⟨#[10]⟩ (by decide) s.length ⟨s.toArray⟩ (by omega)
 have hsp:=Ib s 10
 have hlen:(Lib.splitB ⟨#[10]⟩ 1 (Lib.countB ⟨s.toArray⟩ ⟨#[10]⟩) ⟨s.toArray⟩).length=(bT 10 s).length:=by rw [← hsp,List.length_map]
 have hmap:(Lib.splitB ⟨#[10]⟩ 1 (Lib.countB ⟨s.toArray⟩ ⟨#[10]⟩) ⟨s.toArray⟩).map Value.string=(bT 10 s).map str:=by
  rw [← hsp,List.map_map]
  exact List.map_congr_left fun x _=>rfl
 have hk:(bT 10 s).length≤Lib.countB ⟨s.toArray⟩ ⟨#[10]⟩+1:=by
  rw [← nO]
  exact BZ _ _ _ _
 refine (Tryz.strings_genSplit ⟨s.toArray⟩ ⟨#[10]⟩ 1 (-1) (Lib.countB ⟨s.toArray⟩ ⟨#[10]⟩+1) m w (by omega) hm (by decide) (by decide) (by decide) (by decide) (by rw [if_pos (by decide)];omega)).mono ?_
 rintro e w' ⟨rfl,rfl⟩
 rw [Nat.add_sub_cancel]
 have hcell:(Lib.cellsOf (Lib.splitB ⟨#[10]⟩ 1 (Lib.countB ⟨s.toArray⟩ ⟨#[10]⟩) ⟨s.toArray⟩) (Lib.countB ⟨s.toArray⟩ ⟨#[10]⟩+1)).toList=(bT 10 s).map str++List.replicate (Lib.countB ⟨s.toArray⟩ ⟨#[10]⟩+1-(bT 10 s).length) (Value.string ByteArray.empty):=by
  rw [← hmap,← hlen];rfl
 refine ⟨w.heap.size,Lib.countB ⟨s.toArray⟩ ⟨#[10]⟩+1,by rw [hlen],Nat.le_refl _,⟨(bT 10 s).map str++List.replicate (Lib.countB ⟨s.toArray⟩ ⟨#[10]⟩+1-(bT 10 s).length) (Value.string ByteArray.empty),?_,?_,by simp only [maxLen];omega,hk,?_⟩,?_⟩
 ·unfold Blk
  rw [← hcell,Array.toArray_toList]
  exact Array.getElem?_push_size ..
 ·simp;omega
 ·rw [List.take_append_of_le_length (by simp),List.take_of_length_le (by simp)]
 exact Keep.alloc 0 w _
theorem Ky {c:CxV} (h:cu c=false):∀ f∈c.fs,f.hs.length≤100000:=fun f hf=>by
 have:=((yj h).2.2 f hf).1;omega
theorem wH (s:Str) (w:World) (hL:jc w) (hs:s.length≤1000000) :
  Calls Tryz.prog 24 #[str s,str [10]] w (Ret fun v w'=>∃ A cap,v = .slice (some ⟨A,0,none⟩) (bT 10 s).length cap∧w.heap.size≤A∧(∃ cs,Blk w' A cs 9∧cs.length=cap∧cap≤maxLen∧(bT 10 s).length≤cap∧cs.take (bT 10 s).length=(bT 10 s).map str)∧Ext w w'):=by
 refine T.enter (vs:=[str s,str [10]]) func24 rfl ntmps24 rfl ?_
 refine T.q (L.a rfl (L.nil (T.q (L.m rfl (L.m rfl (L.m rfl (L.o (O.gu runUnderlying9 rfl (L.o (O.call (xs:=[.tmp 5,.tmp 6,.tmp 8,.const (.int .i64 (-1))]) call71 rfl rfl (Au s w hL hs) (fun v9 w9 hq=>?_)))))))))))
 obtain ⟨A,cap,rfl,hA,hC,he⟩:=hq
 refine L.a rfl (L.nil (T.aU results24 rfl ⟨A,cap,rfl,hA,hC,he⟩))
open Go Go.E RowKit
theorem Uh {d:Nat} (hd:d<8):(UInt8.ofNat (49+d)).toNat=49+d:=by rw [UInt8.toNat_ofNat'];omega
theorem Ew {s:Str} {d:Nat} (h:(44:UInt8)∉s) (hd:d<8):Lib.cut (s ++ [44]++Lib.itoa ((d:Int)+1)) [44]=(s,[UInt8.ofNat (49+d)],true):=by
 rw [rG hd,List.append_assoc,List.singleton_append,Qg h]
structure nR (nm:Nat→Str) (n:Nat) (qs:List Int):Prop where
 ok:ab6 nm n
 nl:∀ i,i<n→(10:UInt8)∉nm i
 sh:∀ i,i<n→(nm i).length≤12
 few:n≤64
 q:∀ i,i<n→∃ d:Nat,d<8∧qs.getD i 0=(d:Int)
theorem OW {nm:Nat→Str} {n i:Nat} {qs pl:List Int} {kv:List (Str × Nat)} (h:nR nm n qs) (hi:i<n) (hg:iG kv (nm i)=some i):kN (false,kv,pl) (fZ nm qs i)=some (false,Ag kv (nm i),pl.set i (qs.getD i 0)):=by
 obtain ⟨d,hd,e⟩:=h.q i hi
 have hv:=Uh hd
 unfold fZ kN
 simp only []
 rw [e,Ew (h.ok.comma i hi) hd]
 simp only []
 rw [hg]
 simp only []
 rw [if_pos ⟨rfl,by simp only [List.getD_cons_zero,hv];omega,by simp only [List.getD_cons_zero,hv];omega⟩]
 simp only [List.getD_cons_zero,hv]
 congr 4
 omega
theorem OX {nm:Nat→Str} {n i:Nat} {qs pl:List Int} {kv:List (Str × Nat)} (h:nR nm n qs) (hi:i<n) (hg:iG kv (nm i)=none):kN (false,kv,pl) (fZ nm qs i)=none:=by
 obtain ⟨d,hd,e⟩:=h.q i hi
 unfold fZ kN
 simp only []
 rw [e,Ew (h.ok.comma i hi) hd]
 simp only []
 rw [hg]
def rV (qs:List Int) (pl:List Int) (is:List Nat):List Int:=is.foldl (fun p i=>p.set i (qs.getD i 0)) pl
theorem uI (qs:List Int):∀ (is:List Nat) (pl:List Int),(rV qs pl is).length=pl.length
 | [],pl=>rfl
 | i::is,pl=>by
  show (rV qs (pl.set i (qs.getD i 0)) is).length=_
  rw [uI qs is,List.length_set]
theorem Cb (qs:List Int) (j:Nat):∀ (is:List Nat) (pl:List Int),(∀ i∈is,i<pl.length)→(rV qs pl is).getD j 0=if j∈is then qs.getD j 0 else pl.getD j 0
 | [],pl,_=>by simp [rV]
 | i::is,pl,h=>by
  show (rV qs (pl.set i (qs.getD i 0)) is).getD j 0=_
  rw [Cb qs j is _ (fun k hk=>by rw [List.length_set];exact h k (List.mem_cons_of_mem _ hk)),zo]
  by_cases hj:j∈is
  ·rw [if_pos hj,if_pos (List.mem_cons_of_mem _ hj)]
  rw [if_neg hj]
  by_cases e:i=j
  ·subst e
   rw [if_pos ⟨rfl,h i (List.mem_cons_self ..)⟩,if_pos (List.mem_cons_self ..)]
  rw [if_neg (fun x=>e x.1),if_neg (fun x=>by
   rcases List.mem_cons.1 x with x|x
   ·exact e x.symm
   exact hj x)]
theorem agI {nm:Nat→Str} {n i j:Nat} (h:ab6 nm n) (hi:i<n) (hj:j<n) (e:i≠j):nm i≠nm j:=by
 rcases Nat.lt_or_gt_of_ne e with h1|h1
 ·exact h.diff i j h1 hj
 exact Ne.symm (h.diff j i h1 hi)
theorem Ie {nm:Nat→Str} {n:Nat} {qs:List Int} (h:nR nm n qs):∀ (is:List Nat) (kv:List (Str × Nat)) (pl:List Int) (k:Nat),(kv.map (·.1)).Nodup→is.Nodup→(∀ i∈is,i<n∧iG kv (nm i)=some i) →
  ∃ kv',sD kN (false,kv,pl) (is.map (fZ nm qs)) k = .inl (false,kv',rV qs pl is)∧∀ i∈is,iG kv' (nm i)=none
 | [],kv,pl,k,_,_,_=>⟨kv,rfl,fun i hi=>by cases hi⟩
 | i::is,kv,pl,k,hd,hn,hi=>by
  obtain ⟨hi1,hi2⟩:=hi i (List.mem_cons_self ..)
  have hnn:=List.nodup_cons.1 hn
  have hd2:((Ag kv (nm i)).map (·.1)).Nodup:=(yK kv (nm i)).nodup hd
  have hrest:∀ j∈is,j<n∧iG (Ag kv (nm i)) (nm j)=some j:=fun j hj=>by
   obtain ⟨h1,h2⟩:=hi j (List.mem_cons_of_mem _ hj)
   refine ⟨h1,?_⟩
   rw [wX kv (nm i) (nm j) hd,if_neg (agI h.ok h1 hi1 (fun e=>hnn.1 (e▸hj))),h2]
  obtain ⟨kv',h1,h2⟩:=Ie h is (Ag kv (nm i)) (pl.set i (qs.getD i 0)) (k+1) hd2 hnn.2 hrest
  have hmono:∀ (is:List Nat) (kv:List (Str × Nat)) (pl:List Int) (k:Nat) (kv':List (Str × Nat)) (pl':List Int),(kv.map (·.1)).Nodup→(∀ j∈is,j<n)→sD kN (false,kv,pl) (is.map (fZ nm qs)) k = .inl (false,kv',pl')→iG kv (nm i)=none→iG kv' (nm i)=none:=by
   intro is
   induction is with
   | nil=>intro kv pl k kv' pl' _ _ e hg;simp only [List.map_nil,sD] at e;cases e;exact hg
   | cons j is ih =>
    intro kv pl k kv' pl' hd hlt e hg
    rw [List.map_cons,sD] at e
    cases hj:iG kv (nm j) with
    | none=>rw [OX h (hlt j (List.mem_cons_self ..)) hj] at e;cases e
    | some v =>
     obtain ⟨d,hd8,eq⟩:=h.q j (hlt j (List.mem_cons_self ..))
     have hs:∃ pl2,kN (false,kv,pl) (fZ nm qs j)=some (false,Ag kv (nm j),pl2):=by
      have hv:=Uh hd8
      unfold fZ kN
      simp only []
      rw [eq,Ew (h.ok.comma j (hlt j (List.mem_cons_self ..))) hd8]
      simp only []
      rw [hj]
      simp only []
      rw [if_pos ⟨rfl,by simp only [List.getD_cons_zero,hv];omega,by simp only [List.getD_cons_zero,hv];omega⟩]
      exact ⟨_,rfl⟩
     obtain ⟨pl2,hs⟩:=hs
     rw [hs] at e
     refine ih (Ag kv (nm j)) pl2 (k+1) kv' pl' ((yK kv (nm j)).nodup hd) (fun x hx=>hlt x (List.mem_cons_of_mem _ hx)) e ?_
     rw [wX kv (nm j) (nm i) hd]
     split
     ·rfl
     exact hg
  refine ⟨kv',?_,fun j hj=>?_⟩
  ·rw [List.map_cons,sD,OW h hi1 hi2]
   exact h1
  rcases List.mem_cons.1 hj with rfl|hj
  ·exact hmono is _ _ _ _ _ hd2 (fun x hx=>(hrest x hx).1) h1 (by rw [wX kv (nm j) (nm j) hd,if_pos rfl])
  exact h2 j hj
theorem Ui {nm:Nat→Str} {n i:Nat} {qs:List Int} (h:nR nm n qs) (hi:i<n):(10:UInt8)∉fZ nm qs i∧(fZ nm qs i).length≤14:=by
 obtain ⟨d,hd,e⟩:=h.q i hi
 have hs:=h.sh i hi
 unfold fZ
 rw [e,rG hd]
 refine ⟨fun hm=>?_,by simp only [List.length_append,List.length_cons,List.length_nil];omega⟩
 rcases List.mem_append.1 hm with hm|hm
 ·rcases List.mem_append.1 hm with hm|hm
  ·exact h.nl i hi hm
  exact absurd hm (by decide)
 have:=List.mem_singleton.1 hm
 have hv:=congrArg UInt8.toNat this
 rw [Uh hd] at hv
 have:(10:UInt8).toNat=10:=rfl
 omega
theorem Kz {ls:List Str} (h:ls ≠ []) (hf:∀ l∈ls,(10:UInt8)∉l):aS 10 (D8 (aF ls))=ls:=by
 obtain ⟨u,hu⟩:∃ u,aF ls=u ++ [10]:=by
  refine ⟨aF ls.dropLast++ls.getLast h,?_⟩
  conv=>lhs;rw [← List.dropLast_concat_getLast h]
  rw [OL,List.append_assoc]
  simp [aF]
 rw [Sm u hu]
 have h1:=nM ls hf
 have h2:aS 10 (u ++ [10])=aS 10 u ++ [[]]:=BD 10 [] u
 rw [hu,h2] at h1
 exact List.append_cancel_right h1
theorem qc {nm:Nat→Str} {n:Nat} {qs:List Int} (h:nR nm n qs) {is:List Nat} (hi:∀ i∈is,i<n) (hl:is.length≤100):(aF (oI::is.map (fZ nm qs))).length≤40000∧∀ l∈oI::is.map (fZ nm qs),(10:UInt8)∉l:=by
 have hm:∀ l∈oI::is.map (fZ nm qs),(10:UInt8)∉l∧l.length≤14:=fun l hl=>by
  rcases List.mem_cons.1 hl with rfl|hl
  ·exact ⟨by decide,by decide⟩
  obtain ⟨i,hi2,rfl⟩:=List.mem_map.1 hl
  exact Ui h (hi i hi2)
 have:=H8 fun l hl=>(hm l hl).2
 simp only [List.length_cons,List.length_map] at this
 exact ⟨by omega,fun l hl=>(hm l hl).1⟩
theorem Uj {nm:Nat→Str} {n:Nat} {qs xs:List Int} (h:nR nm n qs) (hx:xs.length=n) {is:List Nat} (hn:is.Nodup) (hi:∀ i∈is,i<n) (hl:is.length≤100):cO nm xs (aF (oI::is.map (fZ nm qs)))=(rV qs xs is,0,0):=by
 obtain ⟨h1,h2⟩:=qc h hi hl
 obtain ⟨kv',h3,_⟩:=Ie h is (keysA nm n) xs 2 (yV h.ok) hn (fun i hi2=>⟨hi i hi2,GX h.ok i (hi i hi2)⟩)
 have hs:kN (true,keysA nm xs.length,xs) oI=some (false,keysA nm n,xs):=by rw [hx];simp [kN]
 rw [cO,if_neg (by omega),Kz (by simp) h2,sD,hs]
 simp only []
 rw [h3]
theorem OY {qs xs:List Int} {is:List Nat} (hl:qs.length=xs.length) (hi:∀ i∈is,i<xs.length) (ha:∀ j,j<xs.length→j∈is):rV qs xs is=qs :=
 Wl (by rw [uI,hl]) fun j hj=>by
  rw [uI] at hj
  rw [Cb qs j is xs hi,if_pos (ha j hj)]
theorem nR.Uk {r:RoV} (h:bG r) {n:Nat} (hn:n≤r.us.length) {qs:List Int} (hq:∀ i,i<n→∃ d:Nat,d<8∧qs.getD i 0=(d:Int)):nR (nmA r.us) n qs:=by
 obtain ⟨hb,hu⟩:=zD h
 have hr:∀ i,i<n→bU r (r.us.getD i u0)=true:=fun i hi=>(h.good i (by omega)).right
 refine ⟨afn h hn,fun i hi hm=>?_,fun i hi=>?_,by omega,hq⟩
 ·obtain ⟨⟨_,_,k⟩,_⟩:=nK (hr i hi)
  exact (zC (k _ hm)).2 rfl
 obtain ⟨⟨_,k,_⟩,_⟩:=nK (hr i hi)
 exact k
def zI (small:List Int) (i:Nat):Int:=(if 0<small.length then small.getD (i % small.length) 0 else (i:Int)) % 8
def uJ (small:List Int) (n:Nat):List Int:=(List.range n).map (zI small)
theorem Cc (small:List Int) (n:Nat):uJ small (n+1)=uJ small n ++ [zI small n]:=by simp [uJ,List.range_succ]
theorem zJ (small:List Int) (n:Nat):(uJ small n).length=n:=by simp [uJ]
theorem Ul {small:List Int} {n i:Nat} (h:i<n):(uJ small n).getD i 0=zI small i:=by
 simp [uJ,List.getD,h]
theorem Um (small:List Int) (i:Nat):∃ d:Nat,d<8∧zI small i=(d:Int):=by
 unfold zI
 have h1:=Int.emod_nonneg (if 0<small.length then small.getD (i % small.length) 0 else (i:Int)) (show (8:Int)≠0 by decide)
 have h2:=Int.emod_lt_of_pos (if 0<small.length then small.getD (i % small.length) 0 else (i:Int)) (show (0:Int)<8 by decide)
 exact ⟨((if 0<small.length then small.getD (i % small.length) 0 else (i:Int)) % 8).toNat,by omega,by omega⟩
theorem Un {small:List Int} {n:Nat} : ∀ i,i<n→∃ d:Nat,d<8∧(uJ small n).getD i 0=(d:Int):=fun i hi=>by
 rw [Ul hi];exact Um small i
theorem ZW {xs:List Int} {n:Nat} (hl:xs.length=n) (h:∀ i,i<n→∃ d:Nat,d<8∧xs.getD i 0=(d:Int)):ng xs n=true:=by
 unfold ng
 rw [Bool.and_eq_true,decide_eq_true_eq,List.all_eq_true]
 refine ⟨by omega,fun x hx=>?_⟩
 obtain ⟨i,hi,rfl⟩:=List.getElem_of_mem hx
 obtain ⟨d,hd,e⟩:=h i (by omega)
 rw [au hi] at e
 rw [e,EO]
 simp
 omega
theorem Ey:∀ (us:List UnV) (i:Nat),(∀ k,k<i→(us.getD k u0).wt=false)→i≤us.length→(i=us.length∨(us.getD i u0).wt=true)→aN us=i
 | [],i,_,h,_=>by simp only [List.length_nil] at h;rw [aN];omega
 | u::us,0,_,_,h=>by
  rcases h with h|h
  ·simp at h
  have h':u.wt=true:=h
  rw [aN,h'];rfl
 | u::us,i+1,h1,h2,h3=>by
  have hu:u.wt=false:=h1 0 (by omega)
  have ih:=Ey us i (fun k hk=>h1 (k+1) (by omega)) (by simpa using h2) (by simpa using h3)
  rw [aN,hu,ih];rfl
open Go Go.E RowKit
theorem zK (lo lo2:Nat) (p q:Value) (xs ys:List Int) (w:World) (hp:Ints .i64 lo w p xs) (hq:Ints .i64 lo2 w q ys) (h:xs=ys):Calls Tryz.prog 46 #[p,q] w (Ret fun v w'=>v = .bool true∧Ext w w'):=by
 refine (lS lo lo2 p q xs ys w hp hq).mono ?_
 rintro (v|_|_) w' hh
 ·exact ⟨by rw [hh.1,decide_eq_true h],hh.2⟩
 ·exact hh
 exact hh
theorem OZ (lo lo2:Nat) (r:RoV) (q:Value) (small:List Int) (w:World) (hr:r.ok lo w) (hq:Ints .u8 lo2 w q small) (hlow:∀ j,j<small.length→qH (small.getD j 0)) (hfew:r.us.length≤100000) :
  Calls Tryz.prog 40 #[r.val,q] w (Ret fun v w'=>Ext w w'∧Ints .i64 0 w' v (uJ small (aN r.us))):=by
 refine T.enter (vs:=[r.val,q]) func40 rfl ntmps40 rfl ?_
 refine T.q (L.o (O.box rfl (fun b2 w2 hb2 hz2 he2 hB2=>?_)))
 have hC2:Blk w2 b2 r.cells 25:=hB2
 have hr:Units lo w r.uv r.us:=hr
 refine L.a rfl (L.nil (T.q (L.a rfl (L.nil (T.seq (T.q (L.o (O.fieldAddr runUnderlying25 rfl sizeOf23 rfl (L.o (O.load isAgg23 rfl (hC2.cell rfl) (L.o (O.len runUnderlying23 rfl (Sl.val ((hr.ext he2).sl)) (L.m rfl (L.nil (T.block (?_))))))))))))))))
 refine T.loop (σ:=Nat × Value) (fun g=>[(1,q),(5,g.2),(10,r.uv),(11,.int .i64 r.us.length),(12,.int .i64 g.1)]) (fun g W=>g.1≤r.us.length∧Ext w W∧(∀ k,k<g.1→(r.us.getD k u0).wt=false)∧W.ownsRow w.heap.size 3 1 g.2 g.1 ((uJ small g.1).map (Value.int .i64))) (fun g=>r.us.length-g.1) ((0,.slice none 0 0)) ⟨rfl,rfl,rfl,rfl,rfl,trivial⟩ ⟨Nat.zero_le _,he2,fun k hk=>absurd hk (Nat.not_lt_zero _),eG _ _ _ _⟩ ?_
 rintro ⟨i,lv⟩ w3 ⟨hi,he3,adX,hO3⟩
 simp only at hi hO3 adX
 refine T.q (L.o (O.bF rfl rfl (fun hlt=>?_) (fun hlt=>?_)))
 ·refine L.nil (?_)
  have hlt':i<r.us.length:=by simp only at hlt;omega
  have hU3:=hr.ext he3
  refine T.seq (T.ct (T.skip (T.seq (T.block (T.q (L.m rfl (L.o (O.indexAddr runUnderlying23 sizeOf51 rfl rfl hU3.sl (by omega) (by omega) (L.o (O.ak isAgg51 sizeOf51 rfl rfl (hU3.row hlt') (L.o (O.alloc zeroValue51 (fun b7 w7 hb7 hz7 he7 hB7=>?_)))))))))))))
  refine L.a rfl (L.o (O.aC sizeOf51 rfl rfl rfl hB7 (Nat.le_refl _) (hU3.at hlt').one (fun w8 hu8 hB8=>?_)))
  have hU8:Blk w8 b7 (r.us.getD i u0).cells 51:=hB8
  have NJ:Ext w3 w8:=he7.upd hu8 (.inr (by omega))
  refine L.nil (T.seq (T.q (L.o (O.fieldAddr runUnderlying51 rfl sizeOf4 rfl (L.o (O.load isAgg4 rfl (hU8.cell rfl) (?_)))))))
  have hq8:=hq.ext (he3.trans NJ)
  rcases hwt:(r.us.getD i u0).wt with _|_
  ·refine L.nil (?_)
   have acY:∀ k,k<i+1→(r.us.getD k u0).wt=false:=fun k hk ↦ by
    rcases Nat.lt_or_ge k i with h|h
    ·exact adX k h
    obtain rfl:k=i:=by omega
    exact hwt
   refine T.cf (T.skip (T.q (L.m rfl (L.a rfl (L.nil (T.seq (T.q (L.m rfl (L.o (O.len runUnderlying54 rfl (Sl.val hq8) (L.o (O.jS rfl rfl (fun hpos=>?_) (fun hpos=>?_)))))))))))))
   ·refine L.nil (?_)
    have hpos':0<small.length:=by omega
    have hmod:=Nat.mod_lt i hpos'
    have hlw:=hlow (i % small.length) hmod
    unfold qH at hlw
    refine T.ct (T.region (L.m rfl (L.m rfl (L.m rfl (L.o (O.len runUnderlying54 rfl (Sl.val hq8) (L.o (O.rem rfl rfl (by simp only;omega) (by omega) (?_)))))))))
    rw [show ((i:Int)) % ((small.length:Nat):Int)=((i % small.length:Nat):Int) from (Int.natCast_emod _ _).symm]
    refine L.o (O.indexAddr runUnderlying54 sizeOf5 rfl rfl hq8 (by omega) (by omega) (L.o (O.load isAgg5 rfl (Ints.at hq8 hmod) (L.o (O.fC rfl (fun w=>⟨_,runUnderlying5 w⟩) runUnderlying3 (IntWalk.i64_in _ ⟨by omega,by omega⟩) (L.a rfl (L.nil (T.region (L.m rfl (L.m rfl (L.o (O.rem rfl rfl (by omega) (by decide) (?_)))))))))))))
    rw [show small.getD (i % small.length) 0 % 8=zI small i from by rw [zI,if_pos hpos']]
    refine L.o (O.buildSlice (el:=3) (parts:=[(0,.tmp 33)]) (vs:=[(0,_)]) (cs:=[.int .i64 (zI small i)]) rfl (fun w=>by kernel_rfl) (fun b34 w34 al0 al1 Jm agJ=>?_))
    have Ez:=NJ.trans Jm
    refine L.o (O.append (size:=1) (bytes:=8) runUnderlying31 Tryz.jU rfl rfl rfl rfl (by decide) rfl rfl (aG hO3 (Ez.mono (Nat.zero_le _)) (Nat.le_refl _)) (Sl.ay (lo:=0) (n:=1) (sz:=1) agJ rfl (Nat.le_refl 1) (by decide) (Nat.zero_le _)) (by intro u hu;simp at hu;subst hu;rfl) (by omega) (by simp only [maxLen];omega) (by have:=he3.size;have:=Ez.size;omega) (fun v35 w35 agK agL=>?_))
    have Iq:Ext w w35:=Keep.fO (he3.trans Ez) (aG hO3 (Ez.mono (Nat.zero_le _)) (Nat.le_refl _)) agL (Nat.le_refl _)
    refine L.a rfl (L.nil (T.blk (T.region (L.o (O.aI rfl rfl (by (try dsimp only);omega) (L.m rfl (L.nil (T.again ((i+1,v35)) (show r.us.length-(i+1)<r.us.length-i by omega) ⟨rfl,rfl,rfl,rfl,rfl,trivial⟩ ⟨hlt',Iq,acY,by rw [Cc,List.map_append];exact agK⟩))))))))
   refine L.nil (T.cf (T.skip (T.region (L.m rfl (L.m rfl (L.o (O.rem rfl rfl (by simp only;omega) (by decide) (?_))))))))
   rw [show (i:Int) % 8=zI small i from by rw [zI,if_neg (by omega)]]
   refine L.o (O.buildSlice (el:=3) (parts:=[(0,.tmp 33)]) (vs:=[(0,_)]) (cs:=[.int .i64 (zI small i)]) rfl (fun w=>by kernel_rfl) (fun b34 w34 al0 al1 Jm agJ=>?_))
   have Ez:=NJ.trans Jm
   refine L.o (O.append (size:=1) (bytes:=8) runUnderlying31 Tryz.jU rfl rfl rfl rfl (by decide) rfl rfl (aG hO3 (Ez.mono (Nat.zero_le _)) (Nat.le_refl _)) (Sl.ay (lo:=0) (n:=1) (sz:=1) agJ rfl (Nat.le_refl 1) (by decide) (Nat.zero_le _)) (by intro u hu;simp at hu;subst hu;rfl) (by omega) (by simp only [maxLen];omega) (by have:=he3.size;have:=Ez.size;omega) (fun v35 w35 agK agL=>?_))
   have Iq:Ext w w35:=Keep.fO (he3.trans Ez) (aG hO3 (Ez.mono (Nat.zero_le _)) (Nat.le_refl _)) agL (Nat.le_refl _)
   refine L.a rfl (L.nil (T.blk (T.region (L.o (O.aI rfl rfl (by (try dsimp only);omega) (L.m rfl (L.nil (T.again ((i+1,v35)) (show r.us.length-(i+1)<r.us.length-i by omega) ⟨rfl,rfl,rfl,rfl,rfl,trivial⟩ ⟨hlt',Iq,acY,by rw [Cc,List.map_append];exact agK⟩))))))))
  refine L.nil (?_)
  have hln:aN r.us=i:=Ey r.us i adX hi (.inr hwt)
  refine T.ct (T.exit rfl (T.q (L.m rfl (L.a rfl (L.nil (T.aU results40 rfl ⟨he3.trans NJ,by rw [hln];have:=((Sl.aT hO3).ext NJ).mono (Nat.zero_le _);show Sl 0 w8 lv (uJ small i).length 1 _;rw [zJ];exact this⟩))))))
 refine L.nil (?_)
 have hln:aN r.us=i:=Ey r.us i adX hi (.inl (by simp only at hlt;omega))
 refine T.seq (T.cf (T.exit rfl (T.q (L.m rfl (L.a rfl (L.nil (T.aU results40 rfl ⟨he3,by rw [hln];have:=(Sl.aT hO3).mono (Nat.zero_le _);show Sl 0 w3 lv (uJ small i).length 1 _;rw [zJ];exact this⟩)))))))
theorem acZ {r:RoV} {xs:List Int} (h:bG r) (hx:xs.length=aN r.us) (hd:∀ i,i<aN r.us→∃ d:Nat,d<8∧xs.getD i 0=(d:Int)):vk r xs=(aF (oI::(List.range (aN r.us)).map (fZ (nmA r.us) xs)),0):=by
 rw [rE h,if_pos (ZW hx hd),jD,hx]
theorem Uo {r:RoV} {qs:List Int} {is:List Nat} (h:bG r) (hq:qs.length=aN r.us) (hd:∀ i,i<aN r.us→∃ d:Nat,d<8∧qs.getD i 0=(d:Int)) (hn:is.Nodup) (hi:∀ i∈is,i<aN r.us) (ha:∀ j,j<aN r.us→j∈is) (hl:is.length≤100):cZ r (aF (oI::is.map (fZ (nmA r.us) qs)))=(qs,0,0):=by
 have hL:=nR.Uk h (rF h).2.1 hd
 have hrep:(List.replicate (aN r.us) (-1:Int)).length=aN r.us:=List.length_replicate
 have hset:rV qs (List.replicate (aN r.us) (-1)) is=qs:=OY (by rw [hrep];exact hq) (by rw [hrep];exact hi) (by rw [hrep];exact ha)
 have aip:=Uj hL hrep hn hi hl
 rw [hset] at aip
 rw [kP h,vC,aip]
 have hneg:(-1:Int)∉qs:=fun hm=>by
  obtain ⟨i,hi,e⟩:=List.getElem_of_mem hm
  obtain ⟨d,hd8,e2⟩:=hd i (by omega)
  rw [au hi,e] at e2
  omega
 simp [hneg]
open Go Go.E RowKit
theorem O.Xi {C:Cx} {e:Env} {w:World} {K:Value→World→Prop} {d:Option Tmp} {ty:TypeId} {pos:String} {aft:Array Edge} {g:Option (Nat × Bool)} {x y z:Operand} {t:TypeId} {b o n cap l h:Nat} {el:TypeId} (hu:∀ w,(underlying t).run C.P w = .ok (.slice el) w) (hs:∀ w,(sizeOf el).run C.P w = .ok 1 w) (hx:ev e x=some (.slice (some ⟨b,o,none⟩) n cap)) (hy:ev e y=some (.int .i64 l)) (hz:ev e z=some (.int .i64 h))
  (h1:l≤h) (h2:h≤cap) (h3:l<cap) (h0:0<l) (hk:K (.slice (some ⟨b,o+l,none⟩) (h-l) (cap-l)) w):O C e ⟨d,.slice t x (some y) (some z) none,ty,pos,aft,g⟩ w K :=
 O.of_run (by simp) (fun a ha=>by
  have hne:¬ cap=l:=by omega
  have hl0:¬ l=0:=by omega
  simp [execOp,Instr.sliceAt,Instr.slice,Instr.sliceBounds,Instr.sliceBound,asIntOf,ha.eval hx,ha.eval hy,ha.eval hz,hu w,hs w,h1,h2,hne,Addr.add,hl0]) hk
theorem O0 (w:World) (n A off:Nat) (d:Array Str):Upd A w (Sort.putRow encStr (Sort.ahead w n) A off d) :=
 ⟨rfl,rfl,rfl,by simp [Sort.putRow,Sort.mapBlock,Sort.ahead],fun k hk=>by
  show (w.heap.modify A _)[k]?=w.heap[k]?
  rw [Array.getElem?_modify,if_neg (Ne.symm hk)]⟩
theorem O1 {w:World} {n A:Nat} {pre zs us:List Str} {post:List Value} {t:TypeId} (hB:Blk w A (pre.map str++(zs.map str++post)) t) (hl:us.length=zs.length):Blk (Sort.putRow encStr (Sort.ahead w n) A pre.length us.toArray) A (pre.map str++(us.map str++post)) t:=by
 have h1:w.heap[A]?=some (.cells (pre.map str++(zs.map str++post)).toArray t):=hB
 show (w.heap.modify A _)[A]?=some (.cells _ t)
 rw [Array.getElem?_modify,if_pos rfl,h1]
 show some (Obj.cells (Sort.putCells encStr pre.length us.toArray (pre.map str++(zs.map str++post)).toArray) t)=_
 congr 2
 apply Array.ext_getElem?
 intro k
 simp only [Sort.putCells,Array.getElem?_mapIdx,List.getElem?_toArray,List.size_toArray]
 have hpl:(pre.map str).length=pre.length:=List.length_map _
 have hzl:(zs.map str).length=zs.length:=List.length_map _
 have hul:(us.map str).length=us.length:=List.length_map _
 rcases Nat.lt_or_ge k pre.length with hk|hk
 ·rw [List.getElem?_append_left (by omega),List.getElem?_append_left (by omega)]
  cases (pre.map str)[k]? with
  | none=>rfl
  | some x=>simp only [Option.map_some];rw [if_neg (by omega)]
 rw [List.getElem?_append_right (l₁:=pre.map str) (by omega),List.getElem?_append_right (l₁:=pre.map str) (by omega),hpl]
 rcases Nat.lt_or_ge (k-pre.length) zs.length with h2|h2
 ·rw [List.getElem?_append_left (by omega),List.getElem?_append_left (by omega),List.getElem?_map,List.getElem?_map,List.getElem?_eq_getElem h2,List.getElem?_eq_getElem (show k-pre.length<us.length by omega)]
  simp only [Option.map_some]
  rw [if_pos ⟨hk,by omega⟩]
  have e:(us.toArray[k-pre.length]!)=us[k-pre.length]'(by omega):=by
   rw [getElem!_pos us.toArray (k-pre.length) (by simp;omega)];rfl
  rw [e];rfl
 rw [List.getElem?_append_right (l₁:=zs.map str) (by omega),List.getElem?_append_right (l₁:=us.map str) (by omega),hzl,hul,hl]
 cases post[k-pre.length-zs.length]? with
 | none=>rfl
 | some x=>simp only [Option.map_some];rw [if_neg (by omega)]
theorem EC (A cap:Nat) (pre zs:List Str) (post:List Value) (w:World) (hB:Blk w A (pre.map str++(zs.map str++post)) 9) (hsz:zs.length≤1000000):Calls Tryz.prog 49 #[.slice (some ⟨A,pre.length,none⟩) zs.length cap] w (Ret fun _ w'=>Upd A w w'∧Blk w' A (pre.map str++(zs.reverse.map str++post)) 9):=by
 have hH:Sort.Holds encStr w A pre.length zs.toArray:=fun j hj=>by
  have hj':j<zs.length:=by simpa using hj
  have e:(zs.toArray[j]!)=zs[j]:=by rw [getElem!_pos zs.toArray j hj];rfl
  refine ⟨?_,?_⟩
  ·refine hB.cell ?_
   rw [List.getElem?_append_right (by simp),List.length_map,Nat.add_sub_cancel_left,List.getElem?_append_left (by simpa using hj'),List.getElem?_map,List.getElem?_eq_getElem hj',e]
   rfl
  have h1:w.heap[A]?=some (.cells (pre.map str++(zs.map str++post)).toArray 9):=hB
  simp [World.frozen?,h1]
 refine (Tryz.slices_Reverse_string A pre.length cap zs w hH (by omega)).mono ?_
 rintro e w' ⟨rfl,n,rfl⟩
 exact ⟨O0 w n A _ _,O1 hB (by simp)⟩
theorem zL:∀ xs:List Str,Lib.join xs []=xs.flatten
 | []=>rfl
 | [x]=>by simp [Lib.join,List.intercalate]
 | x::y::r=>by
  have ih:=zL (y::r)
  simp only [Lib.join,List.intercalate,List.intersperse,List.flatten_cons,List.nil_append] at ih ⊢
  rw [ih]
theorem O3 (A o cp n:Nat) (xs:List Str) (w:World) (hxn:xs.length=n) (hc:∀ j x,xs[j]?=some x→w.cell? ⟨A,o+j,none⟩=some (str x)) (hA:A<w.heap.size) (hn:xs.length≤1000000) (hcap:xs.length≤cp) (hl:xs.flatten.length≤1000000):Calls Tryz.prog 50 #[.slice (some ⟨A,o,none⟩) n cp,str []] w (Ret fun v w'=>v=str xs.flatten∧Ext w w'):=by
 subst hxn
 have hm:(xs.map fun x=>(⟨x.toArray⟩:ByteArray)).map (·.data.toList)=xs:=by rw [List.map_map];exact List.map_id'' (fun x=>rfl) xs
 have hlen:(xs.map fun x=>(⟨x.toArray⟩:ByteArray)).length=xs.length:=List.length_map _
 have h:=Tryz.strings_Join A o cp (xs.map fun x=>(⟨x.toArray⟩:ByteArray)) ⟨#[]⟩ w (fun j x hx=>by
  rw [List.getElem?_map] at hx
  cases hj:xs[j]? with
  | none=>rw [hj] at hx;cases hx
  | some y =>
   rw [hj] at hx
   cases hx
   exact hc j y hj) hA (by rw [hlen];omega) (by rw [hlen];exact hcap) (by rw [hm];show (Lib.join xs []).length≤_;rw [zL];omega)
 rw [hlen,hm] at h
 refine VY (h.mono ?_)
 rintro e w' ⟨rfl,hb⟩
 refine ⟨?_,hb⟩
 show Ending.returned (str (Lib.join xs []))=_
 rw [zL]
def RdV (r:RoV) (t:Str) (v:Value) (w:World):Prop:=∃ pv,v = .tuple #[pv,.int .i64 ((cZ r t).2.1:Int),.int .i64 (cZ r t).2.2]∧Ints .i64 0 w pv (cZ r t).1
theorem RdV.st {r:RoV} {t:Str} : ∀ v w w',Ext w w'→RdV r t v w→RdV r t v w':=fun _ _ _ k ⟨pv,h1,h2⟩=>⟨pv,h1,h2.ext k⟩
def nS (n k:Nat):List Nat:=(List.range n).take k++((List.range n).drop k).reverse
theorem qg (n k:Nat):(nS n k).Perm (List.range n):=by
 have h1:(nS n k).Perm ((List.range n).take k++(List.range n).drop k):=List.Perm.append_left _ (List.reverse_perm _)
 rw [List.take_append_drop] at h1
 exact h1
theorem Ur (ls:List Str):(ls.map (· ++ [10])).flatten=aF ls:=by
 rw [aF,List.flatMap_def]
set_option maxHeartbeats 4000000 in
theorem wI (lo:Nat) (d:Dr) (qa:Value) (sa:List Int) (m:Nat) (w:World) (hd:d.ok lo w) (hqa:Ints .u8 lo w qa sa) (hla:∀ j,j<sa.length→qH (sa.getD j 0)) (hL:jc w) (hm:m<256) :
  Calls Tryz.prog 9 #[d.val,qa,.int .u8 m] w (Ret fun v w'=>v = .bool true∧Ext w w'):=by
 refine T.enter (vs:=[d.val,qa,.int .u8 m]) func9 rfl ntmps9 rfl ?_
 refine T.q (L.o (O.box rfl (fun b3 w3 hb3 hz3 he3 hB3=>?_)))
 have hD3:Blk w3 b3 d.cells 59:=hB3
 refine L.a rfl (L.nil (T.seq (T.q (L.o (O.call (xs:=[]) call10 rfl rfl (Kw w3 (hL.ext he3)) (fun v22 w22 hq=>?_))))))
 obtain ⟨rfl,aal⟩:=hq
 have ac0:=he3.trans aal
 refine L.o (O.not rfl (L.nil (T.cf (T.skip (T.q (L.o (O.ak isAgg59 sizeOf59 rfl rfl (Row.ay (Blk.ext (cs:=d.cells) hD3 aal)) (L.o (O.call (xs:=[.tmp 24]) call22 rfl rfl (Gw lo d w22 (hd.ext ac0)) (fun v25 w25 hq=>?_))))))))))
 obtain ⟨y5,c,r,rfl,hc,hr,hdr,hdc,hWb,hHb⟩:=hq
 have herr:=Ug hd hdr hdc hWb hHb
 have hWr:=Written.of herr
 have hbad:=(pK hdc hWb hHb).1
 have hok:=vP hdr hd
 have hpos:=rF hok
 refine L.o (O.alloc zeroValue48 (fun b7 w7 hb7 hz7 he7 hB7=>?_))
 refine L.o (O.aC sizeOf48 rfl rfl rfl hB7 (Nat.le_refl _) (nN hc hr) (fun w8 hu8 hB8=>?_))
 replace hu8:Upd b7 w7 w8:=hu8
 have hX:Blk w8 b7 (eY c r) 48:=hB8
 have he8:Ext w25 w8:=he7.upd hu8 (.inr (by omega))
 have hA8:=(ac0.trans y5).trans he8
 have hLA:∀ W,Ext w8 W→jc W:=fun W h ↦ hL.ext (hA8.trans h)
 have hrA:∀ W,Ext w8 W→r.ok w22.heap.size W:=fun W h ↦ hr.ext (he8.trans h)
 have hcA:∀ W,Ext w8 W→c.ok w22.heap.size W:=fun W h ↦ hc.ext (he8.trans h)
 have hXA:∀ W,Ext w8 W→Blk W b7 (eY c r) 48:=fun W h ↦ Blk.ext hX h
 have hk0:Ext w8 w8:=Keep.refl _ _
 refine L.nil (T.q (L.o (O.fieldAddr runUnderlying48 rfl sizeOf25 rfl (L.o (O.ak isAgg25 sizeOf25 rfl rfl ((Row.ay hX).part 2 4) (L.m rfl (L.o (O.call (xs:=[.tmp 27,.tmp 28]) call40 rfl rfl (OZ _ lo r qa sa w8 (hrA w8 hk0) (hqa.ext hA8) hla (by omega)) (fun v29 w29 hq=>?_)))))))))
 obtain ⟨adY,adZ⟩:=hq
 obtain ⟨n,hn⟩:∃ n,n=aN r.us:=⟨_,rfl⟩
 obtain ⟨qs,hqs⟩:∃ qs,qs=uJ sa (aN r.us):=⟨_,rfl⟩
 rw [← hqs] at adZ
 have hql:qs.length=n:=by rw [hqs,zJ,hn]
 have hqd:∀ i,i<n→∃ d:Nat,d<8∧qs.getD i 0=(d:Int):=by rw [hqs,hn];exact Un
 rw [← hn] at hpos
 have hLq:nR (nmA r.us) n qs:=nR.Uk hok (by omega) hqd
 obtain ⟨S,hS⟩:∃ S,S=aF (oI::(List.range n).map (fZ (nmA r.us) qs)):=⟨_,rfl⟩
 have hrl:(List.range n).length≤100:=by rw [List.length_range];omega
 obtain ⟨hSl,hSf⟩:=qc hLq (is:=List.range n) (fun i hi ↦ List.mem_range.1 hi) hrl
 rw [← hS] at hSl
 refine L.a rfl (L.nil (T.q (L.o (O.fieldAddr runUnderlying48 rfl sizeOf25 rfl (L.o (O.ak isAgg25 sizeOf25 rfl rfl ((Row.ay (hXA w29 adY)).part 2 4) (L.m rfl (L.o (O.call (xs:=[.tmp 32,.tmp 33]) call12 rfl rfl (vw _ r v29 qs w29 (hrA w29 adY) adZ (hLA w29 adY)) (fun v34 w34 hq=>?_))))))))))
 obtain ⟨rfl,Jm⟩:=hq
 rw [acZ hok (by rw [hql,hn]) (by rw [← hn];exact hqd),← hn,← hS]
 have Xj:=adY.trans Jm
 refine L.m rfl (L.o (O.extract rfl rfl (L.o (O.extract rfl rfl (L.a rfl (L.a rfl (L.nil (T.q (L.o (O.fieldAddr runUnderlying48 rfl sizeOf25 rfl (L.o (O.ak isAgg25 sizeOf25 rfl rfl ((Row.ay (hXA w34 Xj)).part 2 4) (L.m rfl (L.o (O.call (xs:=[.tmp 39,.tmp 40]) call13 rfl rfl (oK _ r S w34 (hrA w34 Xj) (hLA w34 Xj) (by omega)) (fun v41 w41 hq=>?_))))))))))))))))
 obtain ⟨px,rfl,hpx,Yo⟩:=hq
 have aiq:cZ r S=(qs,0,0):=by
  rw [hS]
  exact Uo hok (by rw [hql,hn]) (by rw [← hn];exact hqd) List.nodup_range (fun i hi=>by rw [← hn];exact List.mem_range.1 hi) (fun j hj=>List.mem_range.2 (by rw [hn];exact hj)) hrl
 rw [aiq] at hpx
 rw [aiq]
 have agM:=Xj.trans Yo
 refine L.m rfl (L.o (O.extract rfl rfl (L.o (O.extract rfl rfl (L.o (O.extract rfl rfl (L.a rfl (L.a rfl (L.a rfl (L.nil (T.seq (T.q (L.m rfl (L.o (O.kZ rfl rfl rfl (L.m rfl (L.m rfl (L.o (O.kZ rfl rfl rfl (L.o (O.aj rfl rfl (L.m rfl (L.m rfl (L.o (O.kZ rfl rfl rfl (L.o (O.aj rfl rfl (L.m rfl (L.m rfl (L.m rfl (?_)))))))))))))))))))))))))))))))
 refine L.o (O.call (xs:=[.tmp 56,.tmp 57]) call46 rfl rfl (zK 0 0 v29 px qs qs w41 (adZ.ext (Jm.trans Yo)) hpx rfl) (fun v58 w58 hq=>?_))
 obtain ⟨rfl,Uz⟩:=hq
 have ZX:=agM.trans Uz
 have air:Ints .i64 0 w58 v29 qs:=adZ.ext ((Jm.trans Yo).trans Uz)
 refine L.o (O.not rfl (L.o (O.aj rfl rfl (L.m rfl (L.m rfl (L.o (O.call (xs:=[.tmp 62,_]) call29 rfl rfl (JE S 10 w58) (fun v63 w63 hq=>?_))))))))
 obtain ⟨rfl,rfl⟩:=hq
 have hcnt:Lib.countByte S 10=n+1:=by rw [hS,vO _ hSf];simp
 rw [hcnt]
 refine L.m rfl (L.o (O.len runUnderlying31 rfl (Sl.val air) (L.o (O.aI rfl rfl (by omega) (L.o (O.kZ rfl rfl (by omega) (L.o (O.aj rfl rfl (L.nil (T.cf (T.skip (T.q (L.m rfl (L.o (O.call (xs:=[.tmp 69,_]) call24 rfl rfl (wH S w63 (hLA w63 ZX) (by omega)) (fun v70 w70 hq=>?_))))))))))))))))
 obtain ⟨A,cap,rfl,hAs,⟨cs,hCB,hC1,hC2,hC3,hC4⟩,ais⟩:=hq
 obtain ⟨ls,hls⟩:∃ ls,ls=(List.range n).map (fZ (nmA r.us) qs):=⟨_,rfl⟩
 have hll:ls.length=n:=by rw [hls];simp
 have haf:bT 10 S=(oI ++ [10])::(ls.map (· ++ [10]) ++ [[]]):=by rw [hS,vN _ hSf,hls];rfl
 have ait:(bT 10 S).length=n+2:=by rw [haf];simp [hll]
 have hSt:Strs 0 w70 (.slice (some ⟨A,0,none⟩) (bT 10 S).length cap) (bT 10 S):=zq hCB hC3 hC2 (by omega) (by rw [Nat.mul_one];exact hC4)
 have agN:=ZX.trans ais
 refine L.a rfl (L.nil (T.q (L.m rfl (L.m rfl (L.o (O.len runUnderlying61 rfl (Sl.val hSt) (L.o (O.gq rfl rfl (by omega) (?_)))))))))
 rw [show ((((bT 10 S).length:Nat):Int)-1)=((n+1:Nat):Int) by rw [ait];omega]
 refine L.o (O.Xi (l:=1) (h:=n+1) runUnderlying61 sizeOf9 rfl rfl rfl (by omega) (by omega) (by omega) (by omega) (?_))
 obtain ⟨L1,hL1⟩:∃ L1,L1=ls.map (· ++ [10]):=⟨_,rfl⟩
 have hl2:L1.length=n:=by rw [hL1,List.length_map,hll]
 rw [← hL1] at haf
 obtain ⟨post,hpost⟩:∃ post,post=str []::cs.drop (n+2):=⟨_,rfl⟩
 have hcs:cs=str (oI ++ [10])::(L1.map str++post):=by
  have h1:cs=cs.take (n+2)++cs.drop (n+2):=(List.take_append_drop _ _).symm
  rw [ait] at hC4
  rw [hC4,haf] at h1
  rw [h1,hpost]
  simp
 have al2:Strs 0 w70 (.slice (some ⟨A,0+1,none⟩) (n+1-1) (cap-1)) L1:=by
  refine ⟨by simp,some ⟨A,0+1,none⟩,cap-1,by rw [hl2];rfl,by omega,by omega,.inr ⟨_,rfl,Nat.zero_le _,?_⟩⟩
  have h1:=((Row.ay hCB).drop 1).take n
  have e:(cs.drop 1).take n=L1.map str:=by
   rw [hcs]
   show (L1.map str++post).take n=_
   exact List.take_left' (by rw [List.length_map,hl2])
  rw [e] at h1
  exact h1.of_eq (by rw [xg])
 refine L.a rfl (L.nil (T.q (L.m rfl (L.o (O.fC rfl (fun w=>⟨_,runUnderlying5 w⟩) runUnderlying3 (IntWalk.i64_in _ ⟨by omega,by omega⟩) (L.m rfl (L.o (O.len runUnderlying61 rfl (Sl.val al2) (L.o (O.rem rfl rfl (by omega) (by omega) (?_)))))))))))
 obtain ⟨k,hk⟩:∃ k,k=m % L1.length:=⟨_,rfl⟩
 have hkn:k<n:=by rw [hk,hl2];exact Nat.mod_lt _ (by omega)
 rw [show ((m:Int)) % ((L1.length:Nat):Int)=((k:Nat):Int) from by rw [hk];exact (Int.natCast_emod _ _).symm]
 refine L.a rfl (L.nil (T.q (L.m rfl (L.m rfl (L.o (O.GH (k:=k) runUnderlying61 sizeOf9 rfl rfl (by omega) (by omega) (?_)))))))
 obtain ⟨pre,hpre⟩:∃ pre,pre=(oI ++ [10])::L1.take k:=⟨_,rfl⟩
 obtain ⟨zs,hzs⟩:∃ zs,zs=L1.drop k:=⟨_,rfl⟩
 have al3:0+1+k=pre.length:=by rw [hpre,List.length_cons,List.length_take];omega
 have al4:n+1-1-k=zs.length:=by rw [hzs,List.length_drop];omega
 rw [al3,al4]
 have al5:Blk w70 A (pre.map str++(zs.map str++post)) 9:=by
  have e:pre.map str++(zs.map str++post)=cs:=by
   rw [hcs,hpre,hzs,← List.append_assoc,List.map_cons,List.cons_append,← List.map_append,List.take_append_drop];rfl
  rw [e];exact hCB
 refine L.o (O.call (xs:=[.tmp 83]) call49 rfl rfl (EC A (cap-1-k) pre zs post w70 al5 (by omega)) (fun v84 w84 hq=>?_))
 obtain ⟨aiu,agO⟩:=hq
 have anC:=ZX.size
 have Xk:Ext w8 w84:=agN.upd aiu (.inr (by omega))
 obtain ⟨us,hus⟩:∃ us,us=L1.take k++zs.reverse:=⟨_,rfl⟩
 have al6:us.length=n:=by rw [hus,List.length_append,List.length_take,List.length_reverse];omega
 have agP:pre.map str++(zs.reverse.map str++post)=str (oI ++ [10])::(us.map str++post):=by rw [hpre,hus];simp
 rw [agP] at agO
 have hcell:∀ W,Ext w84 W→∀ j x,us[j]?=some x→W.cell? ⟨A,0+1+j,none⟩=some (str x):=fun W h j x hx ↦ by
  refine (Blk.ext agO h).cell ?_
  rw [show 0+1+j=j+1 by omega,List.getElem?_cons_succ]
  have hj:j<us.length:=by
   rcases Nat.lt_or_ge j us.length with h1|h1
   ·exact h1
   rw [List.getElem?_eq_none h1] at hx;cases hx
  rw [List.getElem?_append_left (by rw [List.length_map];exact hj),List.getElem?_map,hx];rfl
 have al7:us=((nS n k).map (fZ (nmA r.us) qs)).map (· ++ [10]):=by
  rw [hus,hzs,hL1,hls,nS,List.map_append,List.map_append,List.map_reverse,List.map_reverse,List.map_take,List.map_take,List.map_drop,List.map_drop]
 have htl:(nS n k).length≤100:=by rw [(qg n k).length_eq];exact hrl
 have htm:∀ i,i∈nS n k↔i<n:=fun i ↦ by rw [(qg n k).mem_iff,List.mem_range]
 have htx:oI ++ [10]++us.flatten=aF (oI::(nS n k).map (fZ (nmA r.us) qs)):=by rw [al7,Ur];simp [aF]
 have hT2:=(qc hLq (is:=nS n k) (fun i hi ↦ (htm i).1 hi) htl).1
 rw [← htx] at hT2
 have hfl:us.flatten.length≤40000:=by rw [List.length_append] at hT2;omega
 have aiv:cZ r (oI ++ [10]++us.flatten)=(qs,0,0):=by
  rw [htx]
  exact Uo hok (by rw [hql,hn]) (by rw [← hn];exact hqd) ((qg n k).nodup_iff.2 List.nodup_range) (fun i hi=>by rw [← hn];exact (htm i).1 hi) (fun j hj=>(htm j).2 (by rw [hn];exact hj)) htl
 have al8:=Blk.lt agO
 have hlit:∀ z:Str,str (([117,110,105,116,44,100,105,115,116,114,105,99,116,10]:Str)++z)=str (oI ++ [10]++z):=fun z ↦ congrArg (fun q:Str ↦ str (q++z)) (show ([117,110,105,116,44,100,105,115,116,114,105,99,116,10]:Str)=oI ++ [10] from rfl)
 have aiw:∀ z:Str,(([117,110,105,116,44,100,105,115,116,114,105,99,116,10]:Str)++z).length=14+z.length:=fun z ↦ by rw [List.length_append];rfl
 refine L.nil (T.seq (?_))
 refine T.fJ mixed 12 [7,14] rfl [.is _,.is _,.is _,.is (str us.flatten),.is (str (oI ++ [10]++us.flatten)),.such (RdV r (oI ++ [10]++us.flatten)),.such (RdV r (oI ++ [10]++us.flatten)),.such (tZ (cZ r (oI ++ [10]++us.flatten)).1),.is (.int .i64 ((cZ r (oI ++ [10]++us.flatten)).2.1:Int)),.is (.int .i64 (cZ r (oI ++ [10]++us.flatten)).2.2),.such (tZ (cZ r (oI ++ [10]++us.flatten)).1),.is _] [[],[0],[],[2],[3],[1,4],[5],[6],[6],[6],[7],[8]] [[],[0],[],[2],[2,3],[0,1,2,3,4],[0,1,2,3,4,5],[0,1,2,3,4,5,6],[0,1,2,3,4,5,6],[0,1,2,3,4,5,6],[0,1,2,3,4,5,6,7],[0,1,2,3,4,5,6,7,8,10],[0,1,2,3,4,5,6,7,8,9,10,11]] (by kernel_rfl) (by kernel_rfl) rfl (by kernel_rfl) ⟨RdV.st,RdV.st,tZ.st,tZ.st,trivial⟩ ⟨fun wx hx=>Ob.o (O.fieldAddr runUnderlying48 rfl sizeOf25 rfl kR),
   fun wx hx=>Ob.o (O.ak isAgg25 sizeOf25 rfl rfl ((Row.ay (hXA wx (Xk.trans hx))).part 2 4) kR),
   fun wx hx=>Ob.o (O.move rfl kR),
   fun wx hx=>Ob.o (O.call (xs:=[.tmp 88,_]) call50 rfl rfl (O3 A (0+1) (cap-1) (n+1-1) us wx al6 (hcell wx hx) (Nat.lt_of_lt_of_le al8 hx.size) (by omega) (by omega) (by omega)) (fun v wy h=>⟨h.2,h.1⟩)),
   fun wx hx=>Ob.o (O.jV rfl rfl (by rw [List.length_append] at hT2;simp only [List.length_cons,List.length_nil];omega) ⟨Keep.refl _ _,hlit us.flatten⟩),
   fun wx hx=>Ob.o (O.call (xs:=[.tmp 87,.tmp 90]) call13 rfl rfl (oK _ r (oI ++ [10]++us.flatten) wx (hrA wx (Xk.trans hx)) (hLA wx (Xk.trans hx)) (by omega)) (fun v wy h=>⟨by obtain ⟨b,h1,h2,h3⟩:=h;exact h3,by obtain ⟨b,h1,h2,h3⟩:=h;exact ⟨b,h1,h2⟩⟩)),
   fun wx hx v91 hv91=>Ob.o (O.move rfl ⟨Keep.refl _ _,hv91⟩),
   fun wx hx v85 aay=>by { obtain ⟨pz,rfl,hpz⟩:=aay;exact Ob.o (O.extract rfl rfl ⟨Keep.refl _ _,hpz⟩) },
   fun wx hx v85 aay=>by { obtain ⟨pz,rfl,hpz⟩:=aay;exact Ob.o (O.extract rfl rfl kR) },
   fun wx hx v85 aay=>by { obtain ⟨pz,rfl,hpz⟩:=aay;exact Ob.o (O.extract rfl rfl kR) },
   fun wx hx v92 Pm=>Ob.o (O.assign rfl ⟨Keep.refl _ _,Pm⟩),
   fun wx hx=>Ob.o (O.assign rfl kR),
   trivial⟩ (fun w13 dn v91 hv91 v85 aay v92 Pm v11 adi=>?_)
 have hpz:Ints .i64 0 w13 v11 (cZ r (oI ++ [10]++us.flatten)).1:=adi
 rw [aiv] at hpz
 rw [aiv]
 have agQ:=Xk.trans dn
 refine L.a rfl (L.nil (T.seq (T.q (L.m rfl (L.o (O.kZ rfl rfl rfl (L.m rfl (L.m rfl (L.o (O.kZ rfl rfl rfl (?_)))))))))))
 have al9:Ints .i64 0 w13 v29 qs:=(air.ext (ais.upd aiu (.inr (by omega)))).ext dn
 refine L.o (O.aj rfl rfl (L.m rfl (L.m rfl (L.m rfl (L.o (O.call (xs:=[.tmp 102,.tmp 103]) call46 rfl rfl (zK 0 0 v29 v11 qs qs w13 al9 hpz rfl) (fun akD Zh hq=>?_)))))))
 obtain ⟨rfl,Wx⟩:=hq
 have Ig:=agQ.trans Wx
 refine L.o (O.not rfl (L.o (O.aj rfl rfl (L.nil (T.cf (T.skip (T.q (L.o (O.ak isAgg48 sizeOf48 rfl rfl (Row.ay (hXA Zh Ig)) (L.o (O.call (xs:=[.tmp 108]) call19 rfl rfl (ug _ c r Zh (hcA Zh Ig) (hrA Zh Ig) (hLA Zh Ig) Es) (fun v109 acz hq=>?_))))))))))))
 obtain ⟨rfl,agR⟩:=hq
 have MN:=Ig.trans agR
 obtain ⟨t,ht⟩:∃ t,t=aF (fM c r):=⟨_,rfl⟩
 rcases Nat.lt_or_ge 40000 t.length with hbig|hsm
 ·rw [herr,show iM c r 0=([],3) from by rw [iM,if_neg (fun x=>x rfl),if_pos (by rw [← ht];exact hbig)]]
  refine L.m rfl (L.o (O.extract rfl rfl (L.o (O.extract rfl rfl (L.a rfl (L.a rfl (L.nil (T.q (L.m rfl (L.o (O.call (xs:=[.tmp 113]) call21 rfl rfl (lQ [] acz (hLA acz MN) (by decide)) (fun aix adV hq=>?_))))))))))))
  obtain ⟨ZY,hv114⟩:=hq
  rw [zG,show BU [] = .inr (0,5) by kernel_rfl] at hv114
  replace hv114:aix = .tuple #[.agg eU.toArray,.int .i64 0,.int .i64 5]:=hv114
  subst hv114
  refine L.m rfl (L.o (O.extract rfl rfl (L.o (O.extract rfl rfl (L.o (O.extract rfl rfl (L.o (O.alloc zeroValue48 (fun b18 w18 ab4 ab5 lZ uT=>?_)))))))))
  refine L.o (O.aC sizeOf48 rfl rfl rfl uT (Nat.le_refl _) gJ (fun w19 Vp Ba=>?_))
  replace Vp:Upd b18 w18 w19:=Vp
  have Gi:Ext adV w19:=lZ.upd Vp (.inr (by omega))
  refine L.a rfl (L.a rfl (L.nil (T.seq (T.q (L.m rfl (L.o (O.IG rfl rfl (by decide) (L.nil (T.ct (T.q (L.m rfl (L.o (O.eql rfl rfl (L.a rfl (L.nil (T.aU results9 rfl ⟨congrArg Value.bool (decide_eq_true rfl),hA8.trans ((MN.trans ZY).trans Gi)⟩))))))))))))))))
 have htr:iM c r 0=(t,0):=by rw [iM,if_neg (fun x=>x rfl),if_neg (by rw [← ht];omega),ht]
 rw [herr,htr]
 have hpt:iU t = .inl (Hz c r):=hWr.parse hsm (by rw [ht])
 refine L.m rfl (L.o (O.extract rfl rfl (L.o (O.extract rfl rfl (L.a rfl (L.a rfl (L.nil (T.q (L.m rfl (L.o (O.call (xs:=[.tmp 113]) call21 rfl rfl (lQ t acz (hLA acz MN) (by omega)) (fun aix adV hq=>?_))))))))))))
 obtain ⟨ZY,hv114⟩:=hq
 rw [hpt] at hv114
 obtain ⟨c2,r2,rfl,hc2,hr2,hs2⟩:=hv114
 refine L.m rfl (L.o (O.extract rfl rfl (L.o (O.extract rfl rfl (L.o (O.extract rfl rfl (L.o (O.alloc zeroValue48 (fun b18 w18 ab4 ab5 lZ uT=>?_)))))))))
 refine L.o (O.aC sizeOf48 rfl rfl rfl uT (Nat.le_refl _) (nN hc2 hr2) (fun w19 Vp Ba=>?_))
 replace Vp:Upd b18 w18 w19:=Vp
 have aiy:Blk w19 b18 (eY c2 r2) 48:=Ba
 have Gi:Ext adV w19:=lZ.upd Vp (.inr (by omega))
 have ac1:=(MN.trans ZY).trans Gi
 refine L.a rfl (L.a rfl (L.nil (T.seq (T.q (L.m rfl (L.o (O.kZ rfl rfl rfl (L.nil (T.cf (T.skip (T.q (L.o (O.ak isAgg48 sizeOf48 rfl rfl (Row.ay aiy) (L.o (O.call (xs:=[.tmp 123]) call19 rfl rfl (ug _ c2 r2 w19 (hc2.ext Gi) (hr2.ext Gi) (hLA w19 ac1) Es) (fun v124 ad1 hq=>?_))))))))))))))))
 obtain ⟨rfl,Xl⟩:=hq
 have MO:=ac1.trans Xl
 have ama:fM c2 r2=fM c r:=hs2.text (uD c r)
 rw [show iM c2 r2 (dN c2 r2 (cu c2))=(t,0) from by rw [hs2.err,hWr.er,iM,if_neg (fun x=>x rfl),ama,if_neg (by rw [← ht];omega),ht]]
 refine L.m rfl (L.o (O.extract rfl rfl (L.o (O.extract rfl rfl (L.a rfl (L.a rfl (L.nil (T.q (L.m rfl (L.o (O.iF rfl rfl rfl (L.m rfl (L.m rfl (L.o (O.iF rfl rfl rfl (L.o (O.ah rfl rfl (L.m rfl (L.o (O.ak isAgg48 sizeOf48 rfl rfl (Row.ay (hXA ad1 MO)) (L.o (O.ak isAgg48 sizeOf48 rfl rfl (Row.ay (Blk.ext aiy Xl)) (L.o (O.call (xs:=[.tmp 134,.tmp 135]) call28 rfl rfl (MK _ _ c c2 r r2 (Hz c r) ad1 (hcA ad1 MO) (hrA ad1 MO) (hc2.ext (Gi.trans Xl)) (hr2.ext (Gi.trans Xl)) (uD c r) hs2 (Ky hbad)) (fun anD anE hq=>?_)))))))))))))))))))))))))
 obtain ⟨rfl,agS⟩:=hq
 refine L.o (O.ah rfl rfl (L.m rfl (L.m rfl (L.m rfl (L.o (O.aX runUnderlying9 rfl rfl rfl (L.o (O.ah rfl rfl (L.m rfl (L.m rfl (L.o (O.iF rfl rfl rfl (L.o (O.ah rfl rfl (L.a rfl (L.nil (T.aU results9 rfl ⟨rfl,hA8.trans (MO.trans agS)⟩)))))))))))))))))
end Go.Proofs.YtnlonpcbgjbbaaaGreatDoor
